/-
  What operand.Canon, Check, Size and Imm give of any operand and any number; name.Valid and Imm of any mnemonic.
-/
import Derived.Test.YtlggmhchgicjkaaArgD
import Derived.Test.YtlggmhchgicjkaaInsD
namespace Go.Proofs.Ytlggmhchgicjkaa.Tab
open Go.Sim
set_option maxRecDepth 100000

/-- An operand of these cells. -/
abbrev argL (z : Nat → Int) : Value := .agg ((List.range 11).map fun j => Value.int .i64 (z j)).toArray

theorem takeL'_take {α : Type} : ∀ (n : Nat) (l : List α), takeL' n l = l.take n := by
  intro n
  induction n with
  | zero => intro l; rfl
  | succ n ih => intro l; cases l with
    | nil => rfl
    | cons x r => show x :: takeL' n r = _; rw [ih r]; rfl

theorem take_range (Y : List Int) (h : Y.length = 16) : Y.take 11 = (List.range 11).map fun j => Y.getD j 0 := by
  apply List.ext_getElem?
  intro i
  rw [List.getElem?_take, List.getElem?_map]
  by_cases hi : i < 11
  · rw [if_pos hi, List.getElem?_range hi, Option.map_some, List.getD_eq_getElem?_getD, List.getElem?_eq_getElem (by omega)]
    rfl
  · rw [if_neg hi, List.getElem?_eq_none (by simp; omega)]
    rfl

/-- What they tell of an operand: its canon, why it may not be, its size. -/
structure ArgR (z c : Nat → Int) (e s : Int) : Prop where
  canon : Ret Try.prog 10 [argL z] (.tuple #[argL c, .int .i64 e])
  check : Ret Try.prog 20 [argL z] (.int .i64 e)
  size : Ret Try.prog 22 [argL z] (.int .i64 s)
  imm : z 0 = 3 → e = 0 ∧ s = 0
  kind : e = 0 → c 0 = z 0
  cchk : e = 0 → Ret Try.prog 20 [argL c] (.int .i64 0)
  csize : e = 0 → Ret Try.prog 22 [argL c] (.int .i64 s)
  k1 : e = 0 → z 0 = 1 → c 1 = z 1 ∧ c 2 = z 2
  k2 : e = 0 → z 0 = 2 → c 9 = z 9
  k3 : e = 0 → z 0 = 3 → c 10 = z 10
  k4 : e = 0 → z 0 = 4 → c 10 = z 10

theorem arg_all (z : Nat → Int) : ∃ c e s, ArgR z c e s := by
  obtain ⟨Y, hl, hp, k1, k2, k3, k4, k5⟩ := argQ z
  have ev : argV z = argL z := rfl
  have ec : canV Y = argL (fun j => Y.getD j 0) := by
    show Value.agg ((takeL' 11 Y).map (Value.int .i64)).toArray = _
    rw [takeL'_take, take_range Y hl, List.map_map]
    rfl
  have eg : shV [.g 0 11, .i 11] Y = .tuple #[argL (fun j => Y.getD j 0), .int .i64 (Y.getD 11 0)] := by
    show Value.tuple #[.agg (((Y.drop 0).take 11).map fun x => Value.int .i64 x).toArray, .int .i64 (Y.getD 11 0)] = _
    rw [List.drop_zero, take_range Y hl, List.map_map]
    rfl
  rw [ev] at k1 k2 k3
  rw [ec] at k4 k5
  rw [eg] at k1
  unfold RofP at hp
  simp only [P_arg, SB.eval, SX.eval, getD_c, Bool.and_eq_true, Bool.or_eq_true, Bool.not_eq_true', beq_iff_eq, beq_eq_false_iff_ne, ne_eq] at hp
  obtain ⟨p1, p2, p3⟩ := hp
  have q : Y.getD 11 0 = 0 → _ := fun h => p3.resolve_left (fun hn => hn (p1 ▸ h))
  refine ⟨fun j => Y.getD j 0, Y.getD 11 0, Y.getD 13 0, k1, ?_, k3, fun h => ?_, fun h => (q h).1, fun h => ?_, fun h => ?_, fun h hk => ?_, fun h hk => ?_, fun h hk => ?_, fun h hk => ?_⟩
  · rw [p1]; exact k2
  · have := p2.resolve_left (fun hn => hn h)
    exact ⟨p1.trans this.1, this.2⟩
  · have : Y.getD 14 0 = 0 := (q h).2.1
    have k4 : Ret Try.prog 20 [argL fun j => Y.getD j 0] (.int .i64 (Y.getD 14 0)) := k4
    rw [this] at k4
    exact k4
  · have : Y.getD 15 0 = Y.getD 13 0 := (q h).2.2.1
    have k5 : Ret Try.prog 22 [argL fun j => Y.getD j 0] (.int .i64 (Y.getD 15 0)) := k5
    rw [this] at k5
    exact k5
  · exact (q h).2.2.2.1.resolve_left (fun hn => hn hk)
  · exact (q h).2.2.2.2.1.resolve_left (fun hn => hn hk)
  · exact (q h).2.2.2.2.2.1.resolve_left (fun hn => hn hk)
  · exact (q h).2.2.2.2.2.2.resolve_left (fun hn => hn hk)

theorem name_all (op : Int) : ∃ v b s : Int, 0 ≤ b ∧ Ret Try.prog 18 [.int .i64 op] (.bool (v == 1)) ∧ Ret Try.prog 21 [.int .i64 op] (.tuple #[.int .i64 b, .bool (s == 1)]) := by
  obtain ⟨Y, _, hp, h3⟩ := name (fun _ => op)
  have e : @concs (nameS (fun _ => op) sl0) E0 [a 0] = [.int .i64 op] := by simp only [concs, conc]; rfl
  have k1 : Ret Try.prog 18 (@concs (nameS (fun _ => op) sl0) E0 [a 0]) (shV [.b 0] Y) := ret_out (h3 (fun _ => op) sl0 agR holds_nil tb0 (18, [a 0], [.b 0]) (by simp [L_name]))
  have k2 : Ret Try.prog 21 (@concs (nameS (fun _ => op) sl0) E0 [a 0]) (shV [.i 1, .b 2] Y) := ret_out (h3 (fun _ => op) sl0 agR holds_nil tb0 (21, [a 0], [.i 1, .b 2]) (by simp [L_name]))
  rw [e] at k1 k2
  refine ⟨Y.getD 0 0, Y.getD 1 0, Y.getD 2 0, ?_, k1, k2⟩
  unfold RofP at hp
  simp only [P_name, SB.eval, SX.eval, getD_c] at hp
  exact of_decide_eq_true hp

/-! Numbers in so many bits. -/

abbrev lowX (g : Nat) (n : Int) : Int := IntKind.i64.wrap ((IntKind.u64.wrap (IntKind.u64.wrap n * 2 ^ g)).fdiv (2 ^ g))

abbrev cutX (g : Nat) (n : Int) : Int := (IntKind.i64.wrap (IntKind.u64.wrap (IntKind.u64.wrap n * 2 ^ g))).fdiv (2 ^ g)

theorem low_low (g : Nat) (hg : g = 56 ∨ g = 48 ∨ g = 32 ∨ g = 0) (n : Int) : lowX g (lowX g n) = lowX g n := by
  unfold lowX
  rcases hg with rfl | rfl | rfl | rfl <;> (simp only [wrapU, wrapI, fdivP]; simp only [Int.reducePow]; omega)

theorem cut_cut (g : Nat) (hg : g = 56 ∨ g = 48 ∨ g = 32 ∨ g = 0) (n : Int) : cutX g (cutX g n) = cutX g n := by
  unfold cutX
  rcases hg with rfl | rfl | rfl | rfl <;> (simp only [wrapU, wrapI, fdivP]; simp only [Int.reducePow]; omega)

def ImmF (s : Bool) (g : Nat) (n e m : Int) : Prop := (e = 0 → n = lowX g n ∨ n = cutX g n) ∧ (n = lowX g n ∨ n = cutX g n → e = 0) ∧ (e = 0 → m = cond s (cutX g n) (lowX g n))

abbrev lowS (g : Nat) : SX := .wrap .i64 (.shr (.wrap .u64 (.shl (.wrap .u64 (.a 0)) g)) g)

abbrev cutS (g : Nat) : SX := .shr (.wrap .i64 (.wrap .u64 (.shl (.wrap .u64 (.a 0)) g))) g

theorem and_split {x y : SB} {val : Nat → Int} (h : (SB.and x y).eval val = true) : x.eval val = true ∧ y.eval val = true := by
  simpa only [SB.eval, Bool.and_eq_true] using h

theorem imm_get (s : Bool) (B : Int) (g : Nat) {val : Nat → Int} {Y : List Int}
    (h : (SB.or (.not (.eq (.a 1) (.c B))) (.and (.or (.not (.eq ((Y.map SX.c).getD 0 (.c 0)) (.c 0))) (.or (.eq (.a 0) (lowS g)) (.eq (.a 0) (cutS g)))) (.and (.or (.not (.or (.eq (.a 0) (lowS g)) (.eq (.a 0) (cutS g)))) (.eq ((Y.map SX.c).getD 0 (.c 0)) (.c 0))) (.or (.not (.eq ((Y.map SX.c).getD 0 (.c 0)) (.c 0))) (.eq ((Y.map SX.c).getD 1 (.c 0)) (cond s (cutS g) (lowS g))))))).eval val = true) :
    val 1 = B → ImmF s g (val 0) (Y.getD 0 0) (Y.getD 1 0) := by
  intro hB
  have ec : ∀ t : Bool, (cond t (cutS g) (lowS g)).eval val = cond t (cutX g (val 0)) (lowX g (val 0)) := fun t => by cases t <;> rfl
  simp only [SB.eval, getD_c, ec] at h
  simp only [SX.eval, Bool.or_eq_true, Bool.and_eq_true, Bool.not_eq_true', Bool.or_eq_false_iff, beq_iff_eq, beq_eq_false_iff_ne, ne_eq] at h
  obtain ⟨h1, h2, h3⟩ := h.resolve_left (fun hn => hn hB)
  refine ⟨fun h0 => h1.resolve_left (fun hn => hn h0), fun hq => ?_, fun h0 => h3.resolve_left (fun hn => hn h0)⟩
  rcases h2 with ⟨n1, n2⟩ | h2
  · rcases hq with hq | hq
    · exact absurd hq n1
    · exact absurd hq n2
  · exact h2

theorem imm_end {val : Nat → Int} {Y : List Int} (h : (SB.or (.eq (.a 1) (.c 8)) (.or (.eq (.a 1) (.c 16)) (.or (.eq (.a 1) (.c 32)) (.or (.eq (.a 1) (.c 64)) (.not (.eq ((Y.map SX.c).getD 0 (.c 0)) (.c 0))))))).eval val = true) : Y.getD 0 0 = 0 → val 1 = 8 ∨ val 1 = 16 ∨ val 1 = 32 ∨ val 1 = 64 := by
  intro h0
  simp only [SB.eval, getD_c, SX.eval, Bool.or_eq_true, Bool.not_eq_true', beq_iff_eq, beq_eq_false_iff_ne, ne_eq] at h
  rcases h with h | h | h | h | h
  · exact .inl h
  · exact .inr (.inl h)
  · exact .inr (.inr (.inl h))
  · exact .inr (.inr (.inr h))
  · exact absurd h0 h

/-- What Imm tells of a number. -/
structure ImmR (s : Bool) (n b m e : Int) : Prop where
  ret : Ret Try.prog 11 [.int .i64 n, .int .i64 b, .bool s] (.tuple #[.int .i64 m, .int .i64 e])
  b8 : b = 8 → ImmF s 56 n e m
  b16 : b = 16 → ImmF s 48 n e m
  b32 : b = 32 → ImmF s 32 n e m
  b64 : b = 64 → ImmF s 0 n e m
  fin : e = 0 → b = 8 ∨ b = 16 ∨ b = 32 ∨ b = 64

theorem imm_one (s : Bool) (n b : Int) : ∃ m e : Int, ImmR s n b m e := by
  have en : ∀ t : Bool, @concs (nameS (fun k => if k = 0 then n else b) sl0) E0 [a 0, a 1, .v (.bool t)] = [.int .i64 n, .int .i64 b, .bool t] := fun t => by simp only [concs, conc]; rfl
  cases s with
  | true =>
    obtain ⟨Y, _, hp, h3⟩ := immtrue (fun k => if k = 0 then n else b)
    have k : Ret Try.prog 11 (@concs (nameS (fun k => if k = 0 then n else b) sl0) E0 [a 0, a 1, .v (.bool true)]) (shV [.i 1, .i 0] Y) := ret_out (h3 _ sl0 agR holds_nil tb0 (11, [a 0, a 1, .v (.bool true)], [.i 1, .i 0]) (by simp [L_immtrue]))
    rw [en] at k
    unfold RofP at hp
    obtain ⟨p8, hp⟩ := and_split hp
    obtain ⟨p16, hp⟩ := and_split hp
    obtain ⟨p32, hp⟩ := and_split hp
    obtain ⟨p64, hp⟩ := and_split hp
    exact ⟨Y.getD 1 0, Y.getD 0 0, k, imm_get true 8 56 p8, imm_get true 16 48 p16, imm_get true 32 32 p32, imm_get true 64 0 p64, imm_end hp⟩
  | false =>
    obtain ⟨Y, _, hp, h3⟩ := immfalse (fun k => if k = 0 then n else b)
    have k : Ret Try.prog 11 (@concs (nameS (fun k => if k = 0 then n else b) sl0) E0 [a 0, a 1, .v (.bool false)]) (shV [.i 1, .i 0] Y) := ret_out (h3 _ sl0 agR holds_nil tb0 (11, [a 0, a 1, .v (.bool false)], [.i 1, .i 0]) (by simp [L_immfalse]))
    rw [en] at k
    unfold RofP at hp
    obtain ⟨p8, hp⟩ := and_split hp
    obtain ⟨p16, hp⟩ := and_split hp
    obtain ⟨p32, hp⟩ := and_split hp
    obtain ⟨p64, hp⟩ := and_split hp
    exact ⟨Y.getD 1 0, Y.getD 0 0, k, imm_get false 8 56 p8, imm_get false 16 48 p16, imm_get false 32 32 p32, imm_get false 64 0 p64, imm_end hp⟩

theorem immF_again {s : Bool} {g : Nat} (hg : g = 56 ∨ g = 48 ∨ g = 32 ∨ g = 0) {n m e m' e' : Int} (h : ImmF s g n e m) (h0 : e = 0) (h' : ImmF s g m e' m') : e' = 0 ∧ m' = m := by
  have hm := h.2.2 h0
  have hself : m = cond s (cutX g m) (lowX g m) := by
    cases s with
    | true => show m = cutX g m; have hm : m = cutX g n := hm; rw [hm, cut_cut g hg]
    | false => show m = lowX g m; have hm : m = lowX g n := hm; rw [hm, low_low g hg]
  have he : e' = 0 := h'.2.1 (by
    cases s with
    | true => exact .inr hself
    | false => exact .inl hself)
  exact ⟨he, (h'.2.2 he).trans hself.symm⟩

/-- What is told of a number is its own. -/
theorem imm_all (s : Bool) (n b : Int) : ∃ m e : Int, Ret Try.prog 11 [.int .i64 n, .int .i64 b, .bool s] (.tuple #[.int .i64 m, .int .i64 e]) ∧ (e = 0 → Ret Try.prog 11 [.int .i64 m, .int .i64 b, .bool s] (.tuple #[.int .i64 m, .int .i64 0])) := by
  obtain ⟨m, e, h⟩ := imm_one s n b
  refine ⟨m, e, h.ret, fun h0 => ?_⟩
  obtain ⟨m', e', h'⟩ := imm_one s m b
  have key : e' = 0 ∧ m' = m := by
    rcases h.fin h0 with hb | hb | hb | hb
    · exact immF_again (.inl rfl) (h.b8 hb) h0 (h'.b8 hb)
    · exact immF_again (.inr (.inl rfl)) (h.b16 hb) h0 (h'.b16 hb)
    · exact immF_again (.inr (.inr (.inl rfl))) (h.b32 hb) h0 (h'.b32 hb)
    · exact immF_again (.inr (.inr (.inr rfl))) (h.b64 hb) h0 (h'.b64 hb)
  have := h'.ret
  rw [key.1, key.2] at this
  exact this

end Go.Proofs.Ytlggmhchgicjkaa.Tab
