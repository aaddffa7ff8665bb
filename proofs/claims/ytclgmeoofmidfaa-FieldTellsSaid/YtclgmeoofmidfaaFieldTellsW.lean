/-
  'FieldTells' says true of any numbers, any bytes.
-/
import Derived.Test.YtclgmeoofmidfaaTellsE
import Derived.Test.YtclgmeoofmidfaaTellsD1
import Derived.Test.YtclgmeoofmidfaaTellsD2
import Derived.Test.YtclgmeoofmidfaaTellsD3
import Derived.Test.YtclgmeoofmidfaaTellsD4
import Derived.Test.YtclgmeoofmidfaaTellsD5
namespace Go.Proofs.Ytclgmeoofmidfaa.fieldTells
open Go.Sim Go.Proofs.Ytclgmeoofmidfaa.Fld Go.Proofs.Ytclgmeoofmidfaa.TellsL
set_option maxRecDepth 100000

theorem step {P : Nat → Prop} {n : Nat} (h : ∀ k, 1 ≤ k → k ≤ n → P k) (h' : P (n + 1)) : ∀ k, 1 ≤ k → k ≤ n + 1 → P k := fun k h1 h2 => if e : k = n + 1 then e ▸ h' else h k h1 (by omega)

theorem a0 : ∀ k, 1 ≤ k → k ≤ 0 → DL k := fun k h1 h2 => by omega
theorem a1 : ∀ k, 1 ≤ k → k ≤ 1 → DL k := step a0 d1
theorem a2 : ∀ k, 1 ≤ k → k ≤ 2 → DL k := step a1 d2
theorem a3 : ∀ k, 1 ≤ k → k ≤ 3 → DL k := step a2 d3
theorem a4 : ∀ k, 1 ≤ k → k ≤ 4 → DL k := step a3 d4
theorem a5 : ∀ k, 1 ≤ k → k ≤ 5 → DL k := step a4 d5
theorem a6 : ∀ k, 1 ≤ k → k ≤ 6 → DL k := step a5 d6
theorem a7 : ∀ k, 1 ≤ k → k ≤ 7 → DL k := step a6 d7
theorem a8 : ∀ k, 1 ≤ k → k ≤ 8 → DL k := step a7 d8
theorem a9 : ∀ k, 1 ≤ k → k ≤ 9 → DL k := step a8 d9
theorem a10 : ∀ k, 1 ≤ k → k ≤ 10 → DL k := step a9 d10
theorem a11 : ∀ k, 1 ≤ k → k ≤ 11 → DL k := step a10 d11
theorem a12 : ∀ k, 1 ≤ k → k ≤ 12 → DL k := step a11 d12
theorem a13 : ∀ k, 1 ≤ k → k ≤ 13 → DL k := step a12 d13
theorem a14 : ∀ k, 1 ≤ k → k ≤ 14 → DL k := step a13 d14
theorem a15 : ∀ k, 1 ≤ k → k ≤ 15 → DL k := step a14 d15
theorem a16 : ∀ k, 1 ≤ k → k ≤ 16 → DL k := step a15 d16
theorem a17 : ∀ k, 1 ≤ k → k ≤ 17 → DL k := step a16 d17
theorem a18 : ∀ k, 1 ≤ k → k ≤ 18 → DL k := step a17 d18
theorem a19 : ∀ k, 1 ≤ k → k ≤ 19 → DL k := step a18 d19
theorem a20 : ∀ k, 1 ≤ k → k ≤ 20 → DL k := step a19 d20
theorem a21 : ∀ k, 1 ≤ k → k ≤ 21 → DL k := step a20 d21
theorem a22 : ∀ k, 1 ≤ k → k ≤ 22 → DL k := step a21 d22
theorem a23 : ∀ k, 1 ≤ k → k ≤ 23 → DL k := step a22 d23
theorem a24 : ∀ k, 1 ≤ k → k ≤ 24 → DL k := step a23 d24
theorem a25 : ∀ k, 1 ≤ k → k ≤ 25 → DL k := step a24 d25
theorem a26 : ∀ k, 1 ≤ k → k ≤ 26 → DL k := step a25 d26
theorem a27 : ∀ k, 1 ≤ k → k ≤ 27 → DL k := step a26 d27
theorem a28 : ∀ k, 1 ≤ k → k ≤ 28 → DL k := step a27 d28
theorem a29 : ∀ k, 1 ≤ k → k ≤ 29 → DL k := step a28 d29
theorem a30 : ∀ k, 1 ≤ k → k ≤ 30 → DL k := step a29 d30
theorem a31 : ∀ k, 1 ≤ k → k ≤ 31 → DL k := step a30 d31
theorem a32 : ∀ k, 1 ≤ k → k ≤ 32 → DL k := step a31 d32
theorem a33 : ∀ k, 1 ≤ k → k ≤ 33 → DL k := step a32 d33
theorem a34 : ∀ k, 1 ≤ k → k ≤ 34 → DL k := step a33 d34
theorem a35 : ∀ k, 1 ≤ k → k ≤ 35 → DL k := step a34 d35
theorem a36 : ∀ k, 1 ≤ k → k ≤ 36 → DL k := step a35 d36
theorem a37 : ∀ k, 1 ≤ k → k ≤ 37 → DL k := step a36 d37
theorem a38 : ∀ k, 1 ≤ k → k ≤ 38 → DL k := step a37 d38
theorem a39 : ∀ k, 1 ≤ k → k ≤ 39 → DL k := step a38 d39
theorem a40 : ∀ k, 1 ≤ k → k ≤ 40 → DL k := step a39 d40
theorem a41 : ∀ k, 1 ≤ k → k ≤ 41 → DL k := step a40 d41
theorem a42 : ∀ k, 1 ≤ k → k ≤ 42 → DL k := step a41 d42
theorem a43 : ∀ k, 1 ≤ k → k ≤ 43 → DL k := step a42 d43
theorem a44 : ∀ k, 1 ≤ k → k ≤ 44 → DL k := step a43 d44
theorem a45 : ∀ k, 1 ≤ k → k ≤ 45 → DL k := step a44 d45
theorem a46 : ∀ k, 1 ≤ k → k ≤ 46 → DL k := step a45 d46
theorem a47 : ∀ k, 1 ≤ k → k ≤ 47 → DL k := step a46 d47
theorem a48 : ∀ k, 1 ≤ k → k ≤ 48 → DL k := step a47 d48
theorem a49 : ∀ k, 1 ≤ k → k ≤ 49 → DL k := step a48 d49
theorem a50 : ∀ k, 1 ≤ k → k ≤ 50 → DL k := step a49 d50
theorem a51 : ∀ k, 1 ≤ k → k ≤ 51 → DL k := step a50 d51
theorem a52 : ∀ k, 1 ≤ k → k ≤ 52 → DL k := step a51 d52
theorem a53 : ∀ k, 1 ≤ k → k ≤ 53 → DL k := step a52 d53
theorem a54 : ∀ k, 1 ≤ k → k ≤ 54 → DL k := step a53 d54
theorem a55 : ∀ k, 1 ≤ k → k ≤ 55 → DL k := step a54 d55
theorem a56 : ∀ k, 1 ≤ k → k ≤ 56 → DL k := step a55 d56
theorem a57 : ∀ k, 1 ≤ k → k ≤ 57 → DL k := step a56 d57
theorem a58 : ∀ k, 1 ≤ k → k ≤ 58 → DL k := step a57 d58
theorem a59 : ∀ k, 1 ≤ k → k ≤ 59 → DL k := step a58 d59
theorem a60 : ∀ k, 1 ≤ k → k ≤ 60 → DL k := step a59 d60
theorem a61 : ∀ k, 1 ≤ k → k ≤ 61 → DL k := step a60 d61
theorem a62 : ∀ k, 1 ≤ k → k ≤ 62 → DL k := step a61 d62
theorem a63 : ∀ k, 1 ≤ k → k ≤ 63 → DL k := step a62 d63
theorem a64 : ∀ k, 1 ≤ k → k ≤ 64 → DL k := step a63 d64
theorem a65 : ∀ k, 1 ≤ k → k ≤ 65 → DL k := step a64 d65
theorem a66 : ∀ k, 1 ≤ k → k ≤ 66 → DL k := step a65 d66
theorem a67 : ∀ k, 1 ≤ k → k ≤ 67 → DL k := step a66 d67
theorem a68 : ∀ k, 1 ≤ k → k ≤ 68 → DL k := step a67 d68
theorem a69 : ∀ k, 1 ≤ k → k ≤ 69 → DL k := step a68 d69
theorem a70 : ∀ k, 1 ≤ k → k ≤ 70 → DL k := step a69 d70
theorem a71 : ∀ k, 1 ≤ k → k ≤ 71 → DL k := step a70 d71
theorem a72 : ∀ k, 1 ≤ k → k ≤ 72 → DL k := step a71 d72
theorem a73 : ∀ k, 1 ≤ k → k ≤ 73 → DL k := step a72 d73
theorem a74 : ∀ k, 1 ≤ k → k ≤ 74 → DL k := step a73 d74
theorem a75 : ∀ k, 1 ≤ k → k ≤ 75 → DL k := step a74 d75
theorem a76 : ∀ k, 1 ≤ k → k ≤ 76 → DL k := step a75 d76
theorem a77 : ∀ k, 1 ≤ k → k ≤ 77 → DL k := step a76 d77
theorem a78 : ∀ k, 1 ≤ k → k ≤ 78 → DL k := step a77 d78
theorem a79 : ∀ k, 1 ≤ k → k ≤ 79 → DL k := step a78 d79
theorem a80 : ∀ k, 1 ≤ k → k ≤ 80 → DL k := step a79 d80
theorem a81 : ∀ k, 1 ≤ k → k ≤ 81 → DL k := step a80 d81
theorem a82 : ∀ k, 1 ≤ k → k ≤ 82 → DL k := step a81 d82
theorem a83 : ∀ k, 1 ≤ k → k ≤ 83 → DL k := step a82 d83
theorem a84 : ∀ k, 1 ≤ k → k ≤ 84 → DL k := step a83 d84
theorem a85 : ∀ k, 1 ≤ k → k ≤ 85 → DL k := step a84 d85
theorem a86 : ∀ k, 1 ≤ k → k ≤ 86 → DL k := step a85 d86
theorem a87 : ∀ k, 1 ≤ k → k ≤ 87 → DL k := step a86 d87
theorem a88 : ∀ k, 1 ≤ k → k ≤ 88 → DL k := step a87 d88
theorem a89 : ∀ k, 1 ≤ k → k ≤ 89 → DL k := step a88 d89
theorem a90 : ∀ k, 1 ≤ k → k ≤ 90 → DL k := step a89 d90
theorem a91 : ∀ k, 1 ≤ k → k ≤ 91 → DL k := step a90 d91
theorem a92 : ∀ k, 1 ≤ k → k ≤ 92 → DL k := step a91 d92
theorem a93 : ∀ k, 1 ≤ k → k ≤ 93 → DL k := step a92 d93
theorem a94 : ∀ k, 1 ≤ k → k ≤ 94 → DL k := step a93 d94
theorem a95 : ∀ k, 1 ≤ k → k ≤ 95 → DL k := step a94 d95
theorem a96 : ∀ k, 1 ≤ k → k ≤ 96 → DL k := step a95 d96
theorem a97 : ∀ k, 1 ≤ k → k ≤ 97 → DL k := step a96 d97
theorem a98 : ∀ k, 1 ≤ k → k ≤ 98 → DL k := step a97 d98
theorem a99 : ∀ k, 1 ≤ k → k ≤ 99 → DL k := step a98 d99
theorem a100 : ∀ k, 1 ≤ k → k ≤ 100 → DL k := step a99 d100

theorem dAll (k : Nat) (h1 : 1 ≤ k) (h2 : k ≤ 100) : DL k := a100 k h1 h2

theorem range {n : Int} (h : (Lit.int .i64 n).wf = true) : In n := by
  have h' : (decide (IntKind.i64.min ≤ n) && decide (n ≤ IntKind.i64.max)) = true := h
  simp only [Bool.and_eq_true, decide_eq_true_eq] at h'
  exact h'

theorem rangeB {n : Int} (h : (Lit.int .u8 n).wf = true) : 0 ≤ n ∧ n ≤ 255 := by
  have h' : (decide (IntKind.u8.min ≤ n) && decide (n ≤ IntKind.u8.max)) = true := h
  simp only [Bool.and_eq_true, decide_eq_true_eq] at h'
  exact h'

theorem wrapB {n : Int} (h : 0 ≤ n ∧ n ≤ 255) : IntKind.u8.wrap n = n := wrap_in .u8 h.1 h.2

def tb (b : Bool) : Int := if b then 1 else 0

theorem tb_eq (b : Bool) : (tb b == 1) = b := by cases b <;> rfl

/-- What the four functions give. -/
structure Four where
  f : Bool
  w : Bool
  s : Int
  l : Int

def Four.OK (n b : Int) (x : Four) : Prop :=
  Ret Try.prog 16 [.int .i64 n, .int .i64 b] (.bool x.f) ∧ Ret Try.prog 17 [.int .i64 n, .int .i64 b] (.bool x.f) ∧ Ret Try.prog 18 [.int .i64 n, .int .i64 b] (.bool x.w) ∧ Ret Try.prog 19 [.int .i64 n, .int .i64 b] (.bool x.w) ∧
    Ret Try.prog 20 [.int .i64 n, .int .i64 b] (.int .i64 x.s) ∧ Ret Try.prog 21 [.int .i64 n, .int .i64 b] (.int .i64 x.s) ∧ Ret Try.prog 22 [.int .i64 n, .int .i64 b] (.int .i64 x.l) ∧ Ret Try.prog 23 [.int .i64 n, .int .i64 b] (.int .i64 x.l)

theorem four (n b : Int) (hn : In n) : ∃ x : Four, x.OK n b := by
  by_cases h : Out b
  · exact ⟨⟨false, false, 0, 0⟩, fitsO n b h, rfitsO n b h, wideO n b h, rwideO n b h, signO n b h, rsignO n b h, lowO n b h, rlowO n b h⟩
  · unfold Out at h
    obtain ⟨k, rfl⟩ : ∃ k : Nat, b = k := ⟨b.toNat, by omega⟩
    exact ⟨⟨sgnF n k == n, sgnF n k == n || lowF n k == n, sgnF n k, lowF n k⟩, fitsAll n hn k (by omega) (by omega), rfitsAll n hn k (by omega) (by omega), wideAll n hn k (by omega) (by omega), rwideAll n hn k (by omega) (by omega),
      signAll n hn k (by omega) (by omega), rsignAll n hn k (by omega) (by omega), lowAll n hn k (by omega) (by omega), rlowAll n hn k (by omega) (by omega)⟩

/-- Is there such a size? -/
theorem sizes (f : FuncId) (hf : f = 35 ∨ f = 36) (s : Int) : Ret Try.prog f [.int .i64 s] (.bool (decide (isSize s))) := by
  by_cases h : isSize s
  · rw [decide_eq_true h]
    rcases hf with rfl | rfl
    · rcases h with rfl | rfl | rfl | rfl
      · exact retV (val := fun _ => 0) (F := []) holds_nil tabNil rfl rfl (f := 35) (args := [.v (.int .i64 1)]) (v := .v (.bool true)) (by kernel_rfl) (by kernel_rfl) (by kernel_rfl)
      · exact retV (val := fun _ => 0) (F := []) holds_nil tabNil rfl rfl (f := 35) (args := [.v (.int .i64 2)]) (v := .v (.bool true)) (by kernel_rfl) (by kernel_rfl) (by kernel_rfl)
      · exact retV (val := fun _ => 0) (F := []) holds_nil tabNil rfl rfl (f := 35) (args := [.v (.int .i64 4)]) (v := .v (.bool true)) (by kernel_rfl) (by kernel_rfl) (by kernel_rfl)
      · exact retV (val := fun _ => 0) (F := []) holds_nil tabNil rfl rfl (f := 35) (args := [.v (.int .i64 8)]) (v := .v (.bool true)) (by kernel_rfl) (by kernel_rfl) (by kernel_rfl)
    · rcases h with rfl | rfl | rfl | rfl
      · exact retV (val := fun _ => 0) (F := []) holds_nil tabNil rfl rfl (f := 36) (args := [.v (.int .i64 1)]) (v := .v (.bool true)) (by kernel_rfl) (by kernel_rfl) (by kernel_rfl)
      · exact retV (val := fun _ => 0) (F := []) holds_nil tabNil rfl rfl (f := 36) (args := [.v (.int .i64 2)]) (v := .v (.bool true)) (by kernel_rfl) (by kernel_rfl) (by kernel_rfl)
      · exact retV (val := fun _ => 0) (F := []) holds_nil tabNil rfl rfl (f := 36) (args := [.v (.int .i64 4)]) (v := .v (.bool true)) (by kernel_rfl) (by kernel_rfl) (by kernel_rfl)
      · exact retV (val := fun _ => 0) (F := []) holds_nil tabNil rfl rfl (f := 36) (args := [.v (.int .i64 8)]) (v := .v (.bool true)) (by kernel_rfl) (by kernel_rfl) (by kernel_rfl)
  · rw [decide_eq_false h]
    unfold isSize at h
    have hF : Holds (fun _ => s) [.ne (.a 0) 1, .ne (.a 0) 2, .ne (.a 0) 4, .ne (.a 0) 8] := holds_cons (show s ≠ 1 by omega) (holds_cons (show s ≠ 2 by omega) (holds_cons (show s ≠ 4 by omega) (holds_cons (show s ≠ 8 by omega) holds_nil)))
    rcases hf with rfl | rfl
    · exact retV hF tabNil rfl rfl (f := 35) (args := [.sx .i64 (.a 0)]) (v := .v (.bool false)) (by kernel_rfl) (by kernel_rfl) (by kernel_rfl)
    · exact retV hF tabNil rfl rfl (f := 36) (args := [.sx .i64 (.a 0)]) (v := .v (.bool false)) (by kernel_rfl) (by kernel_rfl) (by kernel_rfl)

/-- What bears names. -/
abbrev valT (n bits size at' : Int) (g : Bool) (p e : Int) (x : Four) (len cap : Int) (zs : List Int) : Nat → Int :=
  fun k => if k < 100 then [n, bits, size, at', tb g, p, e, tb x.f, tb x.w, x.s, x.l, len, cap].getD k 0 else zs.getD (k - 100) 0

section
variable {n bits size at' p e len cap : Int} {g : Bool} {x : Four} {zs : List Int} {sla : Nat → Option Addr × Nat}

theorem tabBOK (hx : x.OK n bits) : TabOK Try.prog (valT n bits size at' g p e x len cap zs) sla tabB := by
  obtain ⟨h1, h2, h3, h4, h5, h6, h7, h8⟩ := hx
  intro y hy
  simp only [tabB, List.mem_cons, List.not_mem_nil, or_false] at hy
  have e7 : ∀ E : Env, @conc (nameS (valT n bits size at' g p e x len cap zs) sla) E (bo 7) = .bool x.f := fun E => by
    show Value.bool (tb x.f == 1) = _; rw [tb_eq]
  have e8 : ∀ E : Env, @conc (nameS (valT n bits size at' g p e x len cap zs) sla) E (bo 8) = .bool x.w := fun E => by
    show Value.bool (tb x.w == 1) = _; rw [tb_eq]
  rcases hy with rfl | rfl | rfl | rfl | rfl | rfl | rfl | rfl
  · simp only [e7]; exact h1
  · simp only [e7]; exact h2
  · simp only [e8]; exact h3
  · simp only [e8]; exact h4
  · exact h5
  · exact h6
  · exact h7
  · exact h8

theorem tabCons {val : Nat → Int} {y : FuncId × List AV × AV} {tab : List (FuncId × List AV × AV)} (h : Ret Try.prog y.1 (@concs (nameS val sla) E0 y.2.1) (@conc (nameS val sla) E0 y.2.2)) (ht : TabOK Try.prog val sla tab) : TabOK Try.prog val sla (y :: tab) := by
  intro z hz
  rcases List.mem_cons.1 hz with rfl | hz
  · exact h
  · exact ht z hz

theorem bytesV (hb : ∀ z ∈ zs, 0 ≤ z ∧ z ≤ 255) (h100 : zs.length ≤ 100) : (takeX zs.length b100).map (SX.eval (valT n bits size at' g p e x len cap zs)) = zs := by
  rw [takeX_eq]
  apply List.ext_getElem?
  intro i
  rw [List.getElem?_map, List.getElem?_take]
  by_cases hi : i < zs.length
  · rw [if_pos hi]
    rw [b100_get i (by omega), List.getElem?_eq_getElem hi]
    show some (IntKind.u8.wrap (if 100 + i < 100 then _ else zs.getD (100 + i - 100) 0)) = _
    rw [if_neg (by omega), show 100 + i - 100 = i by omega, List.getD_eq_getElem?_getD, List.getElem?_eq_getElem hi]
    show some (IntKind.u8.wrap zs[i]) = _
    rw [wrapB (hb _ (List.getElem_mem hi))]
  · rw [if_neg hi, List.getElem?_eq_none (by omega)]
    rfl

theorem stabOK {sz : AV} (hb : ∀ z ∈ zs, 0 ≤ z ∧ z ≤ 255) (h100 : zs.length ≤ 100) (hp : (p, e) = getN zs at' size g) (hsz : @conc (nameS (valT n bits size at' g p e x len cap zs) sla) E0 sz = .int .i64 size) :
    SlTabOK Try.prog (valT n bits size at' g p e x len cap zs) sla (stab zs.length sz) := by
  have e4 : @conc (nameS (valT n bits size at' g p e x len cap zs) sla) E0 (bo 4) = .bool g := by
    show Value.bool (tb g == 1) = _; rw [tb_eq]
  have hp1 : p = (getN zs at' size g).1 := by rw [← hp]
  have hp2 : e = (getN zs at' size g).2 := by rw [← hp]
  intro y hy w v hv
  simp only [stab, List.mem_cons, List.not_mem_nil, or_false] at hy
  rcases hy with rfl | rfl
  · simp only [bytesV hb h100] at hv
    simp only [concs, e4, hsz]
    have := get11 w v zs at' size g hb (by omega) hv
    rw [← hp1, ← hp2] at this
    exact this
  · simp only [bytesV hb h100] at hv
    simp only [concs, e4, hsz]
    have := get12 w v zs at' size g hb (by omega) hv
    rw [← hp1, ← hp2] at this
    exact this

end

theorem eqOK (n : Int) (k : Nat) (hk : 8 * k ≤ 56) : IntKind.u8.wrap ((IntKind.u64.wrap n).fdiv (2 ^ (8 * k))) = IntKind.u8.wrap (n.fdiv (2 ^ (8 * k))) := by
  apply wrap_congr
  show (IntKind.u64.wrap n).fdiv (2 ^ (8 * k)) % 256 = n.fdiv (2 ^ (8 * k)) % 256
  have h : k = 0 ∨ k = 1 ∨ k = 2 ∨ k = 3 ∨ k = 4 ∨ k = 5 ∨ k = 6 ∨ k = 7 := by omega
  rw [fdivP, fdivP, wrapU]
  rcases h with rfl | rfl | rfl | rfl | rfl | rfl | rfl | rfl <;> simp only [Nat.reduceMul, Int.reducePow, Nat.mul_zero] <;> omega

theorem outsOK {val : Nat → Int} {w : World} {b off : Nat} {zs : List Int} (h100 : zs.length ≤ 100) (hz : ∀ i : Nat, i < zs.length → IntKind.u8.wrap (val (100 + i)) = zs.getD i 0) (hlt : b < w.heap.size)
    (hc : ∀ (i : Nat) (m : Int), zs[i]? = some m → w.cell? ⟨b, off + i, none⟩ = some (.int .u8 m)) : @OutOK (nameS val sl0) ⟨fun _ => b, fun _ => off⟩ w (outs zs.length) := by
  intro k o hk
  cases k with
  | zero =>
    simp only [outs, List.getElem?_cons_zero, Option.some.injEq] at hk
    subst hk
    refine ⟨hlt, fun _ i v hv => ?_, fun ki k0 m he => by simp at he⟩
    simp only [takeL_eq', List.getElem?_take] at hv
    split at hv
    · rename_i hi
      rw [c100_get i (by omega)] at hv
      cases hv
      show w.cell? ⟨b, off + i, none⟩ = some (.int .u8 (IntKind.u8.wrap (val (100 + i))))
      rw [hz i hi]
      have := hc i zs[i] (List.getElem?_eq_getElem hi)
      rw [this, List.getD_eq_getElem?_getD, List.getElem?_eq_getElem hi]
      rfl
    · cases hv
  | succ k => simp [outs] at hk

theorem long (n bits size at' : Int) (g : Bool) (oa : Option Addr) (cap len : Nat) (h : 101 ≤ len) (w : World) :
    Calls Try.prog 3 #[.int .i64 n, .int .i64 bits, .int .i64 size, .slice oa len cap, .int .i64 at', .bool g] w fun e w' => e = .returned (.bool true) ∧ RowKit.Below w.heap.size w w' := by
  have hF : Holds (valT n bits size at' g 0 0 ⟨false, false, 0, 0⟩ len cap []) [.ge (.a 11) 101] := holds_cons (show (101 : Int) ≤ len by omega) holds_nil
  have := longE (sla := fun _ => (oa, cap)) hF E0 w (noOut _ _)
  have e4 : ∀ E : Env, @conc (nameS (valT n bits size at' g 0 0 ⟨false, false, 0, 0⟩ len cap []) (fun _ => (oa, cap))) E (bo 4) = .bool g := fun E => by
    show Value.bool (tb g == 1) = _; rw [tb_eq]
  simp only [concs, e4] at this
  exact this

theorem empty (n bits size at' : Int) (g : Bool) (oa : Option Addr) (cap : Nat) (w : World) (x : Four) (hn : In n) (hx : x.OK n bits) :
    Calls Try.prog 3 #[.int .i64 n, .int .i64 bits, .int .i64 size, .slice oa 0 cap, .int .i64 at', .bool g] w fun e w' => e = .returned (.bool true) ∧ RowKit.Below w.heap.size w w' := by
  have hd := dE (fun _ => (oa, cap))
  have hL : ∀ sz, (∀ E : Env, @conc (nameS (valT n bits size at' g (getN [] at' size g).1 (getN [] at' size g).2 x 0 cap []) (fun _ => (oa, cap))) E sz = .int .i64 size) → LawE (fun _ => (oa, cap)) sz (valT n bits size at' g (getN [] at' size g).1 (getN [] at' size g).2 x 0 cap []) →
      Calls Try.prog 3 #[.int .i64 n, .int .i64 bits, .int .i64 size, .slice oa 0 cap, .int .i64 at', .bool g] w fun e w' => e = .returned (.bool true) ∧ RowKit.Below w.heap.size w w' := by
    intro sz hsz hl
    have := hl E0 w (noOut _ _)
    have e4 : ∀ E : Env, @conc (nameS (valT n bits size at' g (getN [] at' size g).1 (getN [] at' size g).2 x 0 cap []) (fun _ => (oa, cap))) E (bo 4) = .bool g := fun E => by
      show Value.bool (tb g == 1) = _; rw [tb_eq]
    simp only [concs, hsz, e4] at this
    exact this
  have hst : ∀ sz, @conc (nameS (valT n bits size at' g (getN [] at' size g).1 (getN [] at' size g).2 x 0 cap []) (fun _ => (oa, cap))) E0 sz = .int .i64 size → SlTabOK Try.prog (valT n bits size at' g (getN [] at' size g).1 (getN [] at' size g).2 x 0 cap []) (fun _ => (oa, cap)) (stab 0 sz) :=
    fun sz hsz => stabOK (zs := []) (fun z hz => by cases hz) (by simp) rfl hsz
  by_cases hz : isSize size
  · obtain ⟨y, hy⟩ := four n (IntKind.i64.wrap (8 * size)) hn
    cases hyw : y.w with
    | false =>
      obtain ⟨_, _, h3, h4, _⟩ := hy
      rw [hyw] at h3 h4
      refine hL (TellsL.a 2) (fun _ => rfl) (hd.nw _ (holds_cons (show (0 : Int) = 0 from rfl) holds_nil) ?_ (hst _ rfl))
      have z1 := sizes 35 (.inl rfl) size
      have z2 := sizes 36 (.inr rfl) size
      rw [decide_eq_true hz] at z1 z2
      exact tabCons z1 (tabCons z2 (tabCons h3 (tabCons h4 (tabBOK hx))))
    | true =>
      obtain ⟨_, _, h3, h4, _⟩ := hy
      rw [hyw] at h3 h4
      have q : ∀ k : Nat, 8 * k ≤ 56 → (eqF k).holds (valT n bits size at' g (getN [] at' size g).1 (getN [] at' size g).2 x 0 cap []) := fun k hk => by
        show (IntKind.u8.wrap ((IntKind.u64.wrap n).fdiv (2 ^ (8 * k))) == IntKind.u8.wrap (n.fdiv (2 ^ (8 * k)))) = true
        rw [beq_iff_eq]
        exact eqOK n k hk
      have hcF : (0 : Int) = 0 := rfl
      rcases hz with rfl | rfl | rfl | rfl
      · exact hL (ci 1) (fun _ => rfl) (hd.s1 _ (holds_cons hcF (holds_cons (q 0 (by omega)) holds_nil)) (tabCons h3 (tabCons h4 (tabBOK hx))) (hst _ rfl))
      · exact hL (ci 2) (fun _ => rfl) (hd.s2 _ (holds_cons hcF (holds_cons (q 0 (by omega)) (holds_cons (q 1 (by omega)) holds_nil))) (tabCons h3 (tabCons h4 (tabBOK hx))) (hst _ rfl))
      · exact hL (ci 4) (fun _ => rfl) (hd.s4 _ (holds_cons hcF (holds_cons (q 0 (by omega)) (holds_cons (q 1 (by omega)) (holds_cons (q 2 (by omega)) (holds_cons (q 3 (by omega)) holds_nil))))) (tabCons h3 (tabCons h4 (tabBOK hx))) (hst _ rfl))
      · exact hL (ci 8) (fun _ => rfl) (hd.s8 _ (holds_cons hcF (holds_cons (q 0 (by omega)) (holds_cons (q 1 (by omega)) (holds_cons (q 2 (by omega)) (holds_cons (q 3 (by omega)) (holds_cons (q 4 (by omega)) (holds_cons (q 5 (by omega)) (holds_cons (q 6 (by omega)) (holds_cons (q 7 (by omega)) holds_nil))))))))) (tabCons h3 (tabCons h4 (tabBOK hx))) (hst _ rfl))
  · refine hL (TellsL.a 2) (fun _ => rfl) (hd.z _ (holds_cons (show (0 : Int) = 0 from rfl) holds_nil) ?_ (hst _ rfl))
    have z1 := sizes 35 (.inl rfl) size
    have z2 := sizes 36 (.inr rfl) size
    rw [decide_eq_false hz] at z1 z2
    exact tabCons z1 (tabCons z2 (tabBOK hx))

theorem walk (n : Int) (hn : (Lit.int .i64 n).wf = true) (bits : Int) (_ : (Lit.int .i64 bits).wf = true) (size : Int) (_ : (Lit.int .i64 size).wf = true) (s : Value) (at' : Int) (_ : (Lit.int .i64 at').wf = true) (g : Bool) (w : World) (hs : SliceIn w .u8 s) :
    Calls Try.prog 3 #[.int .i64 n, .int .i64 bits, .int .i64 size, s, .int .i64 at', .bool g] w fun e w' => e = .returned (.bool true) ∧ RowKit.Below w.heap.size w w' := by
  obtain ⟨x, hx⟩ := four n bits (range hn)
  have hn := range hn
  rcases hs with ⟨oa, cap, rfl⟩ | ⟨b, off, cap, zs, h0, rfl, hcap, hlt, hc, hwf⟩
  · exact empty n bits size at' g oa cap w x hn hx
  · have hb : ∀ z ∈ zs, 0 ≤ z ∧ z ≤ 255 := fun z hz => rangeB (hwf z hz)
    by_cases h100 : zs.length ≤ 100
    · have hd := dAll zs.length h0 h100
      have hL : ∀ sz, (∀ E : Env, @conc (nameS (valT n bits size at' g (getN zs at' size g).1 (getN zs at' size g).2 x zs.length cap zs) sl0) E sz = .int .i64 size) → Law zs.length sz (valT n bits size at' g (getN zs at' size g).1 (getN zs at' size g).2 x zs.length cap zs) →
          Calls Try.prog 3 #[.int .i64 n, .int .i64 bits, .int .i64 size, .slice (some ⟨b, off, none⟩) zs.length cap, .int .i64 at', .bool g] w fun e w' => e = .returned (.bool true) ∧ RowKit.Below w.heap.size w w' := by
        intro sz hsz hl
        have := hl ⟨fun _ => b, fun _ => off⟩ w (outsOK h100 (fun i hi => by
          show IntKind.u8.wrap (if 100 + i < 100 then _ else zs.getD (100 + i - 100) 0) = _
          rw [if_neg (by omega), show 100 + i - 100 = i by omega]
          exact wrapB (nat_getD zs hb i)) hlt hc)
        have e4 : ∀ E : Env, @conc (nameS (valT n bits size at' g (getN zs at' size g).1 (getN zs at' size g).2 x zs.length cap zs) sl0) E (bo 4) = .bool g := fun E => by
          show Value.bool (tb g == 1) = _; rw [tb_eq]
        simp only [concs, hsz, e4] at this
        exact this
      have hst : ∀ sz, @conc (nameS (valT n bits size at' g (getN zs at' size g).1 (getN zs at' size g).2 x zs.length cap zs) sl0) E0 sz = .int .i64 size → SlTabOK Try.prog (valT n bits size at' g (getN zs at' size g).1 (getN zs at' size g).2 x zs.length cap zs) sl0 (stab zs.length sz) :=
        fun sz hsz => stabOK hb h100 rfl hsz
      have hcF : ((zs.length : Nat) : Int) ≤ cap := by omega
      by_cases hz : isSize size
      · have hwd := four n (IntKind.i64.wrap (8 * size)) hn
        obtain ⟨y, hy⟩ := hwd
        cases hyw : y.w with
        | false =>
          obtain ⟨_, _, h3, h4, _⟩ := hy
          rw [hyw] at h3 h4
          refine hL (TellsL.a 2) (fun _ => rfl) (hd.nw _ (holds_cons hcF holds_nil) ?_ (hst _ rfl))
          have z1 := sizes 35 (.inl rfl) size
          have z2 := sizes 36 (.inr rfl) size
          rw [decide_eq_true hz] at z1 z2
          exact tabCons z1 (tabCons z2 (tabCons h3 (tabCons h4 (tabBOK hx))))
        | true =>
          obtain ⟨_, _, h3, h4, _⟩ := hy
          rw [hyw] at h3 h4
          have q : ∀ k : Nat, 8 * k ≤ 56 → (eqF k).holds (valT n bits size at' g (getN zs at' size g).1 (getN zs at' size g).2 x zs.length cap zs) := fun k hk => by
            show (IntKind.u8.wrap ((IntKind.u64.wrap n).fdiv (2 ^ (8 * k))) == IntKind.u8.wrap (n.fdiv (2 ^ (8 * k)))) = true
            rw [beq_iff_eq]
            exact eqOK n k hk
          rcases hz with rfl | rfl | rfl | rfl
          · exact hL (ci 1) (fun _ => rfl) (hd.s1 _ (holds_cons hcF (holds_cons (q 0 (by omega)) holds_nil)) (tabCons h3 (tabCons h4 (tabBOK hx))) (hst _ rfl))
          · exact hL (ci 2) (fun _ => rfl) (hd.s2 _ (holds_cons hcF (holds_cons (q 0 (by omega)) (holds_cons (q 1 (by omega)) holds_nil))) (tabCons h3 (tabCons h4 (tabBOK hx))) (hst _ rfl))
          · exact hL (ci 4) (fun _ => rfl) (hd.s4 _ (holds_cons hcF (holds_cons (q 0 (by omega)) (holds_cons (q 1 (by omega)) (holds_cons (q 2 (by omega)) (holds_cons (q 3 (by omega)) holds_nil))))) (tabCons h3 (tabCons h4 (tabBOK hx))) (hst _ rfl))
          · exact hL (ci 8) (fun _ => rfl) (hd.s8 _ (holds_cons hcF (holds_cons (q 0 (by omega)) (holds_cons (q 1 (by omega)) (holds_cons (q 2 (by omega)) (holds_cons (q 3 (by omega)) (holds_cons (q 4 (by omega)) (holds_cons (q 5 (by omega)) (holds_cons (q 6 (by omega)) (holds_cons (q 7 (by omega)) holds_nil))))))))) (tabCons h3 (tabCons h4 (tabBOK hx))) (hst _ rfl))
      · refine hL (TellsL.a 2) (fun _ => rfl) (hd.z _ (holds_cons hcF holds_nil) ?_ (hst _ rfl))
        have z1 := sizes 35 (.inl rfl) size
        have z2 := sizes 36 (.inr rfl) size
        rw [decide_eq_false hz] at z1 z2
        exact tabCons z1 (tabCons z2 (tabBOK hx))
    · exact long n bits size at' g (some ⟨b, off, none⟩) cap zs.length (by omega) w

end Go.Proofs.Ytclgmeoofmidfaa.fieldTells
