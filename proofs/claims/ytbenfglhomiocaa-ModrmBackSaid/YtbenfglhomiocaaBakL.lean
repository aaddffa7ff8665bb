/-
  The law 'ModrmBack': what Read tells of a way, and of a way cut short.
-/
import Derived.Test.YtbenfglhomiocaaBakW
import Derived.Test.YtbenfglhomiocaaBrW

namespace Go.Proofs.Ytbenfglhomiocaa.Bak
open Go.Sim Go.Proofs.Ytbenfglhomiocaa.Fld Go.Proofs.Ytbenfglhomiocaa.Tab
open Go.Proofs.Ytbenfglhomiocaa.Br (RK RA OfR valR readR sR)
set_option maxRecDepth 100000

/-- The bytes of a displacement. -/
def dBytes (d : Int) : Nat → List Int
  | 0 => []
  | 1 => [bO d 0]
  | _ => [bO d 0, bO d 1, bO d 2, bO d 3]

/-- The way's bytes are those of this kind. -/
structure WayIs (r : RK) (v : V) (sla : Nat → Option Addr × Nat) (l : List AV) (lo ix hd sb : Int) : Prop where
  bytes : ∃ bs : List Int, bs = hd :: ((cond r.sib [sb] []) ++ dBytes v.d r.dsp) ∧ l.length = bs.length ∧ ∀ (i : Nat) (u : AV), l[i]? = some u → @conc (nameS (valB v) sla) E0 u = .int .u8 (bs.getD i 0)
  t6 : r.t ≤ 6
  lb : r.lb = 8 ∨ r.lb ≤ 7
  li : r.li = 8 ∨ r.li ≤ 7
  md : r.md ≤ 3
  ss : r.ss ≤ 3
  hdv : hd = 64 * (r.md : Int) + 8 * v.f + r.rmV lo
  sbv : sb = 64 * r.ssV + 8 * r.ixV ix + r.bsV lo
  ne4 : r.t = 3 → lo ≠ 4
  ne5 : r.lb = 8 → (r.t = 4 ∨ r.t = 6 ∨ (r.t = 3 ∧ r.md = 0)) → lo ≠ 5
  ni4 : r.li = 8 → ix ≠ 4
  d1 : r.dsp = 1 → fits8 v.d
  ra : ∀ k, k ≤ 3 → (k = 2 → r.sib = true) → (k = 3 → r.dsp ≠ 0) → RA r k

theorem gv_d1 {zs : List Int} {q : Nat} {d : Int} (h : fits8 d) (h0 : zs.getD q 0 = bO d 0) : gv zs q 1 true = d := by
  show sgnF (IntKind.i64.wrap (0 + 2 ^ (8 * 0) * zs.getD (q + 0) 0)) 8 = d
  rw [Nat.add_zero, h0, wrapI]
  unfold fits8 at h
  simp only [sgnF, bO, Go.Proofs.Ytbenfglhomiocaa.Fnd.byteOf, Nat.reduceMul, Nat.reduceSub, Int.reducePow]
  omega

theorem gv_d4 {zs : List Int} {q : Nat} {d : Int} (h : -2147483648 ≤ d ∧ d ≤ 2147483647) (h0 : zs.getD q 0 = bO d 0) (h1 : zs.getD (q + 1) 0 = bO d 1) (h2 : zs.getD (q + 2) 0 = bO d 2) (h3 : zs.getD (q + 3) 0 = bO d 3) : gv zs q 4 true = d := by
  show sgnF (IntKind.i64.wrap (0 + 2 ^ (8 * 0) * zs.getD (q + 0) 0 + 2 ^ (8 * 1) * zs.getD (q + 1) 0 + 2 ^ (8 * 2) * zs.getD (q + 2) 0 + 2 ^ (8 * 3) * zs.getD (q + 3) 0)) 32 = d
  rw [Nat.add_zero, h0, h1, h2, h3, wrapI]
  simp only [sgnF, bO, Go.Proofs.Ytbenfglhomiocaa.Fnd.byteOf, Nat.reduceMul, Nat.reduceSub, Int.reducePow]
  omega

theorem bO0 (d : Int) (i : Nat) : 0 ≤ bO d i ∧ bO d i ≤ 255 := by
  show 0 ≤ d / 2 ^ (8 * i) % 256 ∧ d / 2 ^ (8 * i) % 256 ≤ 255
  constructor <;> omega

section
variable {r : RK} {v : V} {sla : Nat → Option Addr × Nat} {l : List AV} {lo ix hd sb : Int}

theorem hd0 (q : WayIs r v sla l lo ix hd sb) (hf : 0 ≤ v.f ∧ v.f ≤ 7) (hl : 0 ≤ lo ∧ lo ≤ 7) : 0 ≤ hd ∧ hd ≤ 255 := by
  have h := q.hdv
  have m := q.md
  have hr : 0 ≤ r.rmV lo ∧ r.rmV lo ≤ 7 := by
    have ht := q.t6
    clear q h m
    obtain ⟨t, md, x, b, ss, lb, li⟩ := r
    rcases Br.t7 ht with rfl | rfl | rfl | rfl | rfl | rfl | rfl
    · exact hl
    · exact (by decide : (0 : Int) ≤ 4 ∧ (4 : Int) ≤ 7)
    · exact (by decide : (0 : Int) ≤ 5 ∧ (5 : Int) ≤ 7)
    · exact hl
    · exact (by decide : (0 : Int) ≤ 4 ∧ (4 : Int) ≤ 7)
    · exact (by decide : (0 : Int) ≤ 4 ∧ (4 : Int) ≤ 7)
    · exact (by decide : (0 : Int) ≤ 4 ∧ (4 : Int) ≤ 7)
  omega

theorem sb0 (q : WayIs r v sla l lo ix hd sb) (hl : 0 ≤ lo ∧ lo ≤ 7) (hi : 0 ≤ ix ∧ ix ≤ 7) : 0 ≤ sb ∧ sb ≤ 255 := by
  have h := q.sbv
  have a1 := Br.pv0 hl q.lb
  have a2 := Br.pv0 hi q.li
  have a3 := q.ss
  have hs : (0 ≤ r.ssV ∧ r.ssV ≤ 3) ∧ (0 ≤ r.ixV ix ∧ r.ixV ix ≤ 7) ∧ (0 ≤ r.bsV lo ∧ r.bsV lo ≤ 7) := by
    have ht := q.t6
    have h5 : (0 : Int) ≤ 5 ∧ (5 : Int) ≤ 7 := by decide
    have h4 : (0 : Int) ≤ 4 ∧ (4 : Int) ≤ 7 := by decide
    have h0 : (0 : Int) ≤ 0 ∧ (0 : Int) ≤ 3 := by decide
    have a3 : 0 ≤ (r.ss : Int) ∧ (r.ss : Int) ≤ 3 := ⟨by omega, by omega⟩
    clear q h
    obtain ⟨t, md, x, b, ss, lb, li⟩ := r
    rcases Br.t7 ht with rfl | rfl | rfl | rfl | rfl | rfl | rfl
    · exact ⟨a3, a2, a1⟩
    · exact ⟨h0, h4, h5⟩
    · exact ⟨a3, a2, a1⟩
    · exact ⟨a3, a2, a1⟩
    · exact ⟨h0, h4, a1⟩
    · exact ⟨a3, a2, h5⟩
    · exact ⟨a3, a2, a1⟩
  omega

/-- All of the way's bytes are bytes. -/
theorem bytes0 (q : WayIs r v sla l lo ix hd sb) (hf : 0 ≤ v.f ∧ v.f ≤ 7) (hl : 0 ≤ lo ∧ lo ≤ 7) (hi : 0 ≤ ix ∧ ix ≤ 7) : ∀ z ∈ hd :: ((cond r.sib [sb] []) ++ dBytes v.d r.dsp), 0 ≤ z ∧ z ≤ 255 := by
  intro z hz
  rcases List.mem_cons.1 hz with rfl | hz
  · exact hd0 q hf hl
  · rcases List.mem_append.1 hz with hz | hz
    · cases hs : r.sib with
      | false => rw [hs] at hz; cases hz
      | true =>
        rw [hs] at hz
        rcases List.mem_cons.1 hz with rfl | hz
        · exact sb0 q hl hi
        · cases hz
    · unfold dBytes at hz
      split at hz
      · cases hz
      · simp only [List.mem_cons, List.not_mem_nil, or_false] at hz
        rw [hz]; exact bO0 _ _
      · simp only [List.mem_cons, List.not_mem_nil, or_false] at hz
        rcases hz with rfl | rfl | rfl | rfl <;> exact bO0 _ _

theorem len_d (d : Int) (n : Nat) (h : n = 0 ∨ n = 1 ∨ n = 4) : (dBytes d n).length = n := by
  rcases h with rfl | rfl | rfl <;> rfl

/-- The bytes from o on are the way's: what Read asks for. -/
theorem ofFull (q : WayIs r v sla l lo ix hd sb) (hf : 0 ≤ v.f ∧ v.f ≤ 7) (hl : 0 ≤ lo ∧ lo ≤ 7) (hi : 0 ≤ ix ∧ ix ≤ 7) (hd' : -2147483648 ≤ v.d ∧ v.d ≤ 2147483647) (zs : List Int) (o : Nat) (hlen : o + l.length ≤ zs.length) (hmax : zs.length ≤ 4611686018427387904)
    (hz : ∀ i, i < l.length → zs.getD (o + i) 0 = (hd :: ((cond r.sib [sb] []) ++ dBytes v.d r.dsp)).getD i 0) : OfR r 0 zs o (o + l.length) v.f lo ix v.d sb hd := by
  obtain ⟨bs, rfl, hbl, _⟩ := q.bytes
  have hds := Br.dspIs r
  have hL : l.length = r.dO + r.dsp := by
    rw [hbl]
    unfold RK.dO
    cases r.sib <;> simp [len_d _ _ hds] <;> omega
  have b0 := bytes0 q hf hl hi
  have hdO : r.dO = 1 ∨ r.dO = 2 := by unfold RK.dO; cases r.sib; exact .inl rfl; exact .inr rfl
  refine ⟨hf, hl, hi, hd', q.t6, q.lb, q.li, q.md, q.ss, by omega, by omega, hmax, fun i h1 h2 => ?_, fun h => absurd rfl h, fun _ => ⟨by omega, by omega, ?_⟩, q.hdv, (fun h => absurd h (by decide)), q.sbv, (fun hs _ => .inr ⟨by decide, ?_⟩), (fun h => absurd h (by decide)), (fun hn _ => ?_), (fun _ h => absurd h (by decide)), q.ne4, q.ne5, q.ni4⟩
  · have := hz (i - o) (by omega)
    rw [show o + (i - o) = i by omega] at this
    rw [this]
    exact nat_getD _ b0 _
  · have := hz 0 (by omega)
    simpa using this
  · have h2 : r.dO = 2 := by unfold RK.dO; rw [hs]; rfl
    refine ⟨by omega, by omega, ?_⟩
    have := hz 1 (by omega)
    rw [hs] at this
    simpa using this
  · refine ⟨by omega, by omega, ?_⟩
    have hg : ∀ j, j < r.dsp → zs.getD (o + r.dO + j) 0 = (dBytes v.d r.dsp).getD j 0 := fun j hj => by
      have := hz (r.dO + j) (by omega)
      rw [← Nat.add_assoc] at this
      rw [this]
      unfold RK.dO
      cases r.sib with
      | false => show (hd :: dBytes v.d r.dsp).getD (1 + j) 0 = _; rw [Nat.add_comm 1 j]; rfl
      | true => show (hd :: sb :: dBytes v.d r.dsp).getD (2 + j) 0 = _; rw [Nat.add_comm 2 j]; rfl
    rcases hds with e | e | e
    · exact absurd e hn
    · rw [e] at hg ⊢
      exact gv_d1 (q.d1 e) (by have := hg 0 (by omega); simpa [dBytes] using this)
    · rw [e] at hg ⊢
      exact gv_d4 hd' (by have := hg 0 (by omega); simpa [dBytes] using this) (by have := hg 1 (by omega); simpa [dBytes] using this) (by have := hg 2 (by omega); simpa [dBytes] using this) (by have := hg 3 (by omega); simpa [dBytes] using this)

/-- What is wanting of a way cut short: 1 the head, 2 the SIB, 3 the displacement. -/
def kOf (r : RK) (n : Nat) : Nat := if n = 0 then 1 else if r.sib = true ∧ n = 1 then 2 else 3

theorem kOf_le (r : RK) (n : Nat) : kOf r n ≤ 3 ∧ kOf r n ≠ 0 := by
  unfold kOf
  split
  · exact ⟨by decide, by decide⟩
  · split
    · exact ⟨by decide, by decide⟩
    · exact ⟨by decide, by decide⟩

/-- The first n bytes of the way. -/
theorem ofCut (q : WayIs r v sla l lo ix hd sb) (hf : 0 ≤ v.f ∧ v.f ≤ 7) (hl : 0 ≤ lo ∧ lo ≤ 7) (hi : 0 ≤ ix ∧ ix ≤ 7) (hd' : -2147483648 ≤ v.d ∧ v.d ≤ 2147483647) (zs : List Int) (hlen : zs.length < l.length)
    (hz : ∀ i, i < zs.length → zs.getD i 0 = (hd :: ((cond r.sib [sb] []) ++ dBytes v.d r.dsp)).getD i 0) : OfR r (kOf r zs.length) zs 0 zs.length v.f lo ix v.d sb hd ∧ RA r (kOf r zs.length) := by
  obtain ⟨bs, rfl, hbl, _⟩ := q.bytes
  have hds := Br.dspIs r
  have hL : l.length = r.dO + r.dsp := by
    rw [hbl]
    unfold RK.dO
    cases r.sib <;> simp [len_d _ _ hds] <;> omega
  have b0 := bytes0 q hf hl hi
  have hb : ∀ i, 0 ≤ zs.getD i 0 ∧ zs.getD i 0 ≤ 255 := fun i => by
    by_cases h : i < zs.length
    · rw [hz i h]; exact nat_getD _ b0 _
    · rw [List.getD_eq_getElem?_getD, List.getElem?_eq_none (by omega)]
      exact ⟨by decide, by decide⟩
  have k1 : kOf r zs.length = 1 ↔ zs.length = 0 := by
    unfold kOf
    split
    · exact ⟨fun _ => by assumption, fun _ => rfl⟩
    · split
      · exact ⟨fun h => absurd h (by decide), fun h => by omega⟩
      · exact ⟨fun h => absurd h (by decide), fun h => by omega⟩
  have k2 : kOf r zs.length = 2 → r.sib = true ∧ zs.length = 1 := by
    unfold kOf
    split
    · intro h; cases h
    · split
      · intro _; assumption
      · intro h; cases h
  have k3 : kOf r zs.length = 3 → r.dO ≤ zs.length ∧ r.dsp ≠ 0 := by
    unfold kOf
    split
    · intro h; cases h
    · split
      · intro h; cases h
      · rename_i h0 h1
        intro _
        have : r.dO ≤ zs.length := by
          unfold RK.dO
          cases hs : r.sib with
          | false => show 1 ≤ _; omega
          | true => show 2 ≤ _; have : ¬ zs.length = 1 := fun e => h1 ⟨hs, e⟩; omega
        exact ⟨this, by omega⟩
  obtain ⟨k0, kn⟩ := kOf_le r zs.length
  have hdO : r.dO ≤ 2 := by unfold RK.dO; cases r.sib <;> decide
  refine ⟨⟨hf, hl, hi, hd', q.t6, q.lb, q.li, q.md, q.ss, k0, by omega, by omega, fun i _ _ => hb i, fun _ => hb, fun h => ?_, q.hdv, fun h => k1.1 h, q.sbv, (fun hs h => ?_), (fun h => (k2 h).1), (fun _ h => absurd h kn), (fun hn h => ?_), q.ne4, q.ne5, q.ni4⟩,
    q.ra _ k0 (fun h => (k2 h).1) (fun h => (k3 h).2)⟩
  · have : zs.length ≠ 0 := fun e => h (k1.2 e)
    refine ⟨by omega, by omega, ?_⟩
    have := hz 0 (by omega)
    simpa using this
  · have h0 : zs.length ≠ 0 := fun e => h (k1.2 e)
    by_cases h1 : zs.length = 1
    · refine .inl ⟨?_, by omega⟩
      unfold kOf
      rw [if_neg h0, if_pos ⟨hs, h1⟩]
    · refine .inr ⟨fun e => h1 (k2 e).2, by omega, by omega, ?_⟩
      have := hz 1 (by omega)
      rw [hs] at this
      simpa using this
  · exact ⟨by have := (k3 h).1; omega, by omega⟩

/-- A list of bytes out of cells. -/
theorem listOf {w : World} {p : Nat} : ∀ n : Nat, (∀ j, j < n → ∃ z, w.cell? ⟨p, j, none⟩ = some (.int .u8 z)) → ∃ zs : List Int, zs.length = n ∧ ∀ (i : Nat) (m : Int), zs[i]? = some m → w.cell? ⟨p, i, none⟩ = some (.int .u8 m) := by
  intro n
  induction n with
  | zero => exact fun _ => ⟨[], rfl, fun i m hm => by simp at hm⟩
  | succ n ih =>
    intro h
    obtain ⟨zs, h1, h2⟩ := ih fun j hj => h j (by omega)
    obtain ⟨z, hz⟩ := h n (by omega)
    refine ⟨zs ++ [z], by simp [h1], fun i m hm => ?_⟩
    by_cases hi : i < zs.length
    · rw [List.getElem?_append_left hi] at hm
      exact h2 i m hm
    · rw [List.getElem?_append_right (by omega)] at hm
      have : i - zs.length = 0 := by
        rcases Nat.eq_zero_or_pos (i - zs.length) with e | e
        · exact e
        · rw [List.getElem?_eq_none (by simp; omega)] at hm; cases hm
      rw [this] at hm
      cases hm
      rw [show i = n by omega]
      exact hz

/-- The whole way, behind bytes and ahead of others. -/
theorem fullL (q : WayIs r v sla l lo ix hd sb) (hf : 0 ≤ v.f ∧ v.f ≤ 7) (hl : 0 ≤ lo ∧ lo ≤ 7) (hi : 0 ≤ ix ∧ ix ≤ 7) (hd' : -2147483648 ≤ v.d ∧ v.d ≤ 2147483647) (o : Nat) {res : Value}
    (hres : ∀ (zs : List Int) (cp : Int), @conc (nameS (valR zs cp o v.f lo ix v.d sb hd) sR) E0 r.seen = res) (w : World) (p n cap : Nat) (hp : p < w.heap.size) (hn : n ≤ cap) (hx : n ≤ 65536)
    (hall : ∀ j, j < n → ∃ z, w.cell? ⟨p, j, none⟩ = some (.int .u8 z)) (hfit : o + l.length ≤ n) (hc : ∀ (i : Nat) (u : AV), l[i]? = some u → w.cell? ⟨p, o + i, none⟩ = some (@conc (nameS (valB v) sla) E0 u)) :
    Calls Try.prog 9 #[.slice (some ⟨p, 0, none⟩) n cap, .int .i64 o, .int .i64 r.x, .int .i64 r.b] w fun e w' => e = .returned res ∧ RowKit.Below w.heap.size w w' := by
  obtain ⟨zs, hlen, hcell⟩ := listOf n hall
  obtain ⟨bs, hbs, hbl, hbc⟩ := q.bytes
  have hz : ∀ i, i < l.length → zs.getD (o + i) 0 = (hd :: ((cond r.sib [sb] []) ++ dBytes v.d r.dsp)).getD i 0 := fun i hi => by
    have h1 := hc i l[i] (List.getElem?_eq_getElem hi)
    rw [hbc i l[i] (List.getElem?_eq_getElem hi)] at h1
    have h2 := hcell (o + i) zs[o + i] (List.getElem?_eq_getElem (by omega))
    rw [h1] at h2
    rw [List.getD_eq_getElem?_getD, List.getElem?_eq_getElem (show o + i < zs.length by omega), ← hbs]
    simp only [Option.some.injEq, Value.int.injEq, true_and] at h2
    exact h2.symm
  have k := readR (q.ra 0 (by omega) (fun h => absurd h (by decide)) (fun h => absurd h (by decide))) (ofFull q hf hl hi hd' zs o (by omega) (by omega) hz) w p cap hp (by omega) hcell
  rw [hlen] at k
  rw [← hres zs cap]
  exact k

/-- The way cut short. -/
theorem cutL (q : WayIs r v sla l lo ix hd sb) (hf : 0 ≤ v.f ∧ v.f ≤ 7) (hl : 0 ≤ lo ∧ lo ≤ 7) (hi : 0 ≤ ix ∧ ix ≤ 7) (hd' : -2147483648 ≤ v.d ∧ v.d ≤ 2147483647) (w : World) (p n cap : Nat) (hp : p < w.heap.size) (hn : n ≤ cap) (hfit : n < l.length)
    (hc : ∀ (i : Nat) (u : AV), l[i]? = some u → w.cell? ⟨p, i, none⟩ = some (@conc (nameS (valB v) sla) E0 u)) :
    Calls Try.prog 9 #[.slice (some ⟨p, 0, none⟩) n cap, .int .i64 0, .int .i64 r.x, .int .i64 r.b] w fun e w' => e = .returned (@conc (nameS (valB v) sla) E0 cutR) ∧ RowKit.Below w.heap.size w w' := by
  obtain ⟨bs, hbs, hbl, hbc⟩ := q.bytes
  have hlen : (bs.take n).length = n := by simp; omega
  have hcell : ∀ (i : Nat) (m : Int), (bs.take n)[i]? = some m → w.cell? ⟨p, i, none⟩ = some (.int .u8 m) := fun i m hm => by
    have hi : i < n := by have := (List.getElem?_eq_some_iff.1 hm).1; omega
    rw [List.getElem?_take_of_lt hi] at hm
    rw [hc i l[i] (List.getElem?_eq_getElem (by omega)), hbc i l[i] (List.getElem?_eq_getElem (by omega)), List.getD_eq_getElem?_getD, hm]
    rfl
  obtain ⟨o1, o2⟩ := ofCut q hf hl hi hd' (bs.take n) (by omega) (fun i hi => by
    rw [List.getD_eq_getElem?_getD, List.getElem?_take_of_lt (by omega), ← List.getD_eq_getElem?_getD, hbs])
  have k := readR o2 o1 w p cap hp (by omega) hcell
  rw [hlen] at k
  have e : r.res (kOf r n) = Br.cutR := by
    unfold kOf
    split
    · rfl
    · split <;> rfl
  rw [e] at k
  exact k

end
end Go.Proofs.Ytbenfglhomiocaa.Bak
