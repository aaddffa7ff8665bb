/-
  What modrm.Read, and the document's Read, do: what is known ahead of each way.
-/
import Derived.Test.YtbenfglhomiocaaGet
import Derived.Test.YtbenfglhomiocaaKnownH
namespace Go.Proofs.Ytbenfglhomiocaa.Rd
open Go.Sim Go.Proofs.Ytbenfglhomiocaa.Fld Go.Proofs.Ytbenfglhomiocaa.Tab
set_option maxRecDepth 100000

/-! An expression without a name. -/

noncomputable def noA (j : Nat) (x : SX) : Bool :=
  SX.rec (motive := fun _ => Bool) (fun _ => true) (fun k => !Nat.beq k j) (fun _ _ i => i) (fun _ _ i k => bAnd i k) (fun _ _ i k => bAnd i k) (fun _ _ i k => bAnd i k) (fun _ _ i => i) (fun _ _ i => i) (fun _ _ i => i) (fun _ _ i => i)
    (fun _ _ _ i k => bAnd i k) (fun _ _ _ i k => bAnd i k) (fun _ _ _ i k => bAnd i k) (fun k _ i => bAnd (Nat.blt j k) i) (fun _ _ i => i) x

noncomputable def noB (j : Nat) (b : SB) : Bool :=
  SB.rec (motive := fun _ => Bool) true true (fun x y => bAnd (noA j x) (noA j y)) (fun x y => bAnd (noA j x) (noA j y)) (fun x y => bAnd (noA j x) (noA j y)) (fun _ i => i) (fun _ _ i k => bAnd i k) (fun _ _ i k => bAnd i k) b

noncomputable def noF (j : Nat) : Fact → Bool
  | .is x _ => noA j x
  | .ne x _ => noA j x
  | .ge x _ => noA j x
  | .le x _ => noA j x
  | .at b _ => noB j b

def upd (val : Nat → Int) (j : Nat) (c : Int) : Nat → Int := fun k => if k = j then c else val k

theorem eval_upd (val : Nat → Int) (j : Nat) (c : Int) : ∀ x : SX, noA j x = true → x.eval (upd val j c) = x.eval val := by
  intro x
  induction x with
  | c n => intro _; rfl
  | a k =>
    intro h
    have h : (!Nat.beq k j) = true := h
    have hk : k ≠ j := fun e => by subst e; rw [show Nat.beq k k = true from Nat.beq_refl _] at h; cases h
    show (if k = j then c else val k) = val k
    rw [if_neg hk]
  | wrap k x i | shl x k i | shr x k i | quo x k i | rem x k i | tab k x i => intro h; simp only [SX.eval, i h]
  | add x y i k | sub x y i k | mul x y i k => intro h; have h' := bAnd_true h; simp only [SX.eval, i h'.1, k h'.2]
  | and q x y i k | or q x y i k | xor q x y i k => intro h; have h' := bAnd_true h; simp only [SX.eval, i h'.1, k h'.2]
  | «at» k x i =>
    intro h
    have h' := bAnd_true h
    have hk : j < k := Nat.le_of_ble_eq_true h'.1
    simp only [SX.eval, i h'.2]
    show (if k + _ = j then c else _) = _
    rw [if_neg (by omega)]

theorem evalB_upd (val : Nat → Int) (j : Nat) (c : Int) : ∀ b : SB, noB j b = true → b.eval (upd val j c) = b.eval val := by
  intro b
  induction b with
  | tt => intro _; rfl
  | ff => intro _; rfl
  | eq x y | lt x y | le x y => intro h; have h' := bAnd_true h; simp only [SB.eval, eval_upd val j c _ h'.1, eval_upd val j c _ h'.2]
  | not b i => intro h; simp only [SB.eval, i h]
  | and a b i k | or a b i k => intro h; have h' := bAnd_true h; simp only [SB.eval, i h'.1, k h'.2]

theorem holds_upd {val : Nat → Int} {F : List Fact} (j : Nat) (c : Int) (hn : F.all (noF j) = true) (h : Holds val F) : Holds (upd val j c) F := by
  intro f hf
  have h1 := h f hf
  have h2 := List.all_eq_true.1 hn f hf
  cases f with
  | is x n => show x.eval _ = n; rw [eval_upd val j c x h2]; exact h1
  | ne x n => show x.eval _ ≠ n; rw [eval_upd val j c x h2]; exact h1
  | ge x n => show n ≤ x.eval _; rw [eval_upd val j c x h2]; exact h1
  | le x n => show x.eval _ ≤ n; rw [eval_upd val j c x h2]; exact h1
  | «at» b v => show b.eval _ = v; rw [evalB_upd val j c b h2]; exact h1

/-! What is named, and known. -/

abbrev a (k : Nat) : AV := .sx .i64 (.a k)

abbrev ci (n : Nat) : AV := .v (.int .i64 (.ofNat n))

abbrev w (x : SX) : SX := .wrap .i64 x

abbrev e1 : SX := w (.add (.a 0) (.c 1))

abbrev e2 : SX := w (.add e1 (.c 1))

abbrev H : SX := w (.at 100 (.a 0))

abbrev T : SX := w (.at 100 e1)

abbrev qu (x : SX) : SX := w (.quo x 64)

abbrev mi (x : SX) : SX := .rem (w (.quo x 8)) 8

abbrev lo (x : SX) : SX := .rem x 8

abbrev hh (e : SX) (k : Nat) : SX := w (.add e (.c (.ofNat k)))

/-- Whether so many bytes are left. -/
abbrev at1 (r : Nat) : List Fact := [.at (.lt (.a 0) (.a 1)) true, .at (.eq e1 (.a 1)) (Nat.blt r 2), .at (.lt (.a 1) (hh e1 0)) false, .at (.lt (.a 1) (hh e1 1)) (Nat.blt r 2), .at (.lt (.a 1) (hh e1 4)) (Nat.blt r 5), .ge H 0, .le H 255, .ge e1 0, .at (.le e1 (hh e1 0)) true, .is (.sub (hh e1 0) e1) 0]

abbrev at2 (r : Nat) : List Fact := [.at (.lt e1 (.a 1)) true, .at (.lt (.a 1) (hh e2 0)) false, .at (.lt (.a 1) (hh e2 1)) (Nat.blt r 3), .at (.lt (.a 1) (hh e2 4)) (Nat.blt r 6), .ge T 0, .le T 255, .at (.le e1 (hh e1 1)) true, .is (.sub (hh e1 1) e1) 1, .ge (.a 5) (-128), .le (.a 5) 127, .ge e2 0, .at (.le e2 (hh e2 0)) true, .is (.sub (hh e2 0) e2) 0]

abbrev at3 : List Fact := [.at (.le e2 (hh e2 1)) true, .is (.sub (hh e2 1) e2) 1, .ge (.a 7) (-128), .le (.a 7) 127]

abbrev at5 : List Fact := [.at (.le e1 (hh e1 4)) true, .is (.sub (hh e1 4) e1) 4, .ge (.a 6) (-2147483648), .le (.a 6) 2147483647]

abbrev at6 : List Fact := [.at (.le e2 (hh e2 4)) true, .is (.sub (hh e2 4) e2) 4, .ge (.a 8) (-2147483648), .le (.a 8) 2147483647]

abbrev pre (r : Nat) (x b : Int) : List Fact :=
  [.is (.a 3) x, .is (.a 4) b, .ge (.a 1) 0, .ge (.a 0) 0, .at (.lt (.a 1) (.a 0)) false, .at (.eq (.a 0) (.a 1)) (Nat.blt r 1)] ++ (cond (Nat.ble 1 r) (at1 r) [] ++ (cond (Nat.ble 2 r) (at2 r) [] ++ (cond (Nat.ble 3 r) at3 [] ++ (cond (Nat.ble 5 r) at5 [] ++ cond (Nat.ble 6 r) at6 []))))

/-- What is known of how far the slice reaches. -/
abbrev capF (r : Nat) : List Fact :=
  cond (Nat.ble 1 r) [.at (.le (hh e1 0) (.a 2)) true] [] ++ (cond (Nat.ble 2 r) [.at (.le (hh e1 1) (.a 2)) true, .at (.le (hh e2 0) (.a 2)) true] [] ++ (cond (Nat.ble 3 r) [.at (.le (hh e2 1) (.a 2)) true] [] ++ (cond (Nat.ble 5 r) [.at (.le (hh e1 4) (.a 2)) true] [] ++ cond (Nat.ble 6 r) [.at (.le (hh e2 4) (.a 2)) true] [])))

abbrev tabP : List (FuncId × List AV × AV) := [(22, [.sx .i64 H], .tup [.sx .i64 (qu H), .sx .i64 (mi H), .sx .i64 (lo H)]), (22, [.sx .i64 T], .tup [.sx .i64 (qu T), .sx .i64 (mi T), .sx .i64 (lo T)])]

abbrev gi (b : Bool) (x : AV) : AV := .tup (cond b [x, ci 0] [ci 0, ci 9])

abbrev bv (b : Bool) : AV := .v (.bool b)

abbrev tabQ (r : Nat) : List (FuncId × List AV × AV) :=
  (21, [argR, a 0, ci 1, bv false], gi (Nat.ble 1 r) (.sx .i64 H)) ::
  (cond (Nat.ble 1 r) [(21, [argR, .sx .i64 e1, ci 1, bv false], gi (Nat.ble 2 r) (.sx .i64 T)), (21, [argR, .sx .i64 e1, ci 1, bv true], gi (Nat.ble 2 r) (a 5)), (21, [argR, .sx .i64 e1, ci 4, bv true], gi (Nat.ble 5 r) (a 6)), (39, [.ry 0 e1 (.c 0) (.a 2)], ci 0)] [] ++
   (cond (Nat.ble 2 r) [(21, [argR, .sx .i64 e2, ci 1, bv true], gi (Nat.ble 3 r) (a 7)), (21, [argR, .sx .i64 e2, ci 4, bv true], gi (Nat.ble 6 r) (a 8)), (39, [.ry 0 e1 (.c 1) (.a 2)], a 5), (39, [.ry 0 e2 (.c 0) (.a 2)], ci 0)] [] ++
    (cond (Nat.ble 3 r) [(39, [.ry 0 e2 (.c 1) (.a 2)], a 7)] [] ++ (cond (Nat.ble 5 r) [(39, [.ry 0 e1 (.c 4) (.a 2)], a 6)] [] ++ cond (Nat.ble 6 r) [(39, [.ry 0 e2 (.c 4) (.a 2)], a 8)] []))))

abbrev sh : List Sh := [.g 0 10, .i 10]

abbrev argsR : List AV := [argR, a 0, a 3, a 4]

/-- Both give the same, however far the slice reaches. -/
def Q (val : Nat → Int) : Prop := ∃ Y : List Int, Y.length = 11 ∧ ∀ c, val 1 ≤ c → RetO Try.prog 9 argsR rowS sl0 (upd val 2 c) (shV sh Y) ∧ RetO Try.prog 10 argsR rowS sl0 (upd val 2 c) (shV sh Y)

/-- What is known of the calls. -/
def Tabs (r : Nat) (val : Nat → Int) : Prop := ∀ c, val 1 ≤ c → Holds (upd val 2 c) (capF r) ∧ TabOK Try.prog (upd val 2 c) sl0 tabP ∧ TabOKO Try.prog (upd val 2 c) sl0 rowS (tabQ r)

theorem holds_app {val : Nat → Int} {F G : List Fact} (h : Holds val F) (h' : Holds val G) : Holds val (F ++ G) := fun f hf => (List.mem_append.1 hf).elim (h f) (h' f)

theorem bodies (r : Nat) (hr : r < 7) : tabP.all (fun x => bodyOK Try.prog x.1) = true ∧ tabP.all (fun x => plain x.2.2 && plains x.2.1) = true ∧ (tabQ r).all (fun x => bodyOK Try.prog x.1) = true ∧ (tabQ r).all (fun x => plain x.2.2) = true := by
  have h : r = 0 ∨ r = 1 ∨ r = 2 ∨ r = 3 ∨ r = 4 ∨ r = 5 ∨ r = 6 := by omega
  rcases h with rfl | rfl | rfl | rfl | rfl | rfl | rfl
  · exact ⟨by kernel_rfl, by kernel_rfl, by kernel_rfl, by kernel_rfl⟩
  · exact ⟨by kernel_rfl, by kernel_rfl, by kernel_rfl, by kernel_rfl⟩
  · exact ⟨by kernel_rfl, by kernel_rfl, by kernel_rfl, by kernel_rfl⟩
  · exact ⟨by kernel_rfl, by kernel_rfl, by kernel_rfl, by kernel_rfl⟩
  · exact ⟨by kernel_rfl, by kernel_rfl, by kernel_rfl, by kernel_rfl⟩
  · exact ⟨by kernel_rfl, by kernel_rfl, by kernel_rfl, by kernel_rfl⟩
  · exact ⟨by kernel_rfl, by kernel_rfl, by kernel_rfl, by kernel_rfl⟩

noncomputable abbrev givesR (r : Nat) (val : Nat → Int) (G : List Fact) (hG : Holds val G) (Y : List SX) : Bool :=
  @givesO (symsOf val G hG sl0) Try.prog (orElse (@sc (symsOf val G hG sl0)) (orElse (tabO tabP) (tabOO rowS (tabQ r)))) 1000 rowS Y [(9, argsR, sh), (10, argsR, sh)]

theorem leafR {r : Nat} (hr : r < 7) {val : Nat → Int} {F : List Fact} (h : Holds val F) (ht : Tabs r val) (Y : List SX) (hn : F.all (noF 2) = true) (hy : Y.all (noA 2) = true)
    (hg : ∀ (v : Nat → Int) (hG : Holds v (F ++ capF r)), givesR r v _ hG Y = true) (hl : Y.length = 11 := by rfl) : Q val := by
  refine ⟨Y.map (SX.eval val), by rw [List.length_map, hl], fun c hc => ?_⟩
  obtain ⟨h1, h2, h3⟩ := ht c hc
  have hG := holds_app (holds_upd 2 c hn h) h1
  obtain ⟨b1, b2, b3, b4⟩ := bodies r hr
  have ho : @CallerOK (symsOf (upd val 2 c) _ hG sl0) Try.prog (orElse (@sc (symsOf (upd val 2 c) _ hG sl0)) (orElse (tabO tabP) (tabOO rowS (tabQ r)))) :=
    @orElse_sound Try.prog (symsOf (upd val 2 c) _ hG sl0) _ _ (@scO (symsOf (upd val 2 c) _ hG sl0)) (@orElse_sound Try.prog (symsOf (upd val 2 c) _ hG sl0) _ _ (tabOK_sound hG b1 b2 h2) (tabOO_sound hG b3 b4 h3))
  have hall := retO_all hG (sla := sl0) (fuel := 1000) (outs := rowS) (Y := Y) ho mix (by kernel_rfl) [(9, argsR, sh), (10, argsR, sh)] (by
    intro x hx
    simp only [List.mem_cons, List.not_mem_nil, or_false] at hx
    rcases hx with rfl | rfl <;> exact ⟨Nat.zero_lt_one, trivial, trivial, trivial, trivial⟩) (hg _ hG)
  have hY : Y.map (SX.eval (upd val 2 c)) = Y.map (SX.eval val) := by
    apply List.map_congr_left
    intro x hx
    exact eval_upd val 2 c x (List.all_eq_true.1 hy x hx)
  rw [hY] at hall
  exact ⟨hall (9, argsR, sh) (by simp), hall (10, argsR, sh) (by simp)⟩

/-- All ways. -/
abbrev DR (r : Nat) (x b : Int) : Prop := ∀ val, Holds val (pre r x b) → Tabs r val → Q val

end Go.Proofs.Ytbenfglhomiocaa.Rd
