/-
  'ModrmReads' says true of any bytes, any numbers.
-/
import Derived.Test.YtbenfglhomiocaaReadA
import Derived.Test.YtbenfglhomiocaaMrD1
import Derived.Test.YtbenfglhomiocaaMrD2
namespace Go.Proofs.Ytbenfglhomiocaa.modrmReads
open Go.Sim Go.Proofs.Ytbenfglhomiocaa.Fld Go.Proofs.Ytbenfglhomiocaa.Tab Go.Proofs.Ytbenfglhomiocaa.MrL
set_option maxRecDepth 100000

theorem step {P : Nat → Prop} {n : Nat} (h : ∀ k, 1 ≤ k → k ≤ n → P k) (h' : P (n + 1)) : ∀ k, 1 ≤ k → k ≤ n + 1 → P k := fun k h1 h2 => if e : k = n + 1 then e ▸ h' else h k h1 (by omega)

theorem a0 : ∀ k, 1 ≤ k → k ≤ 0 → DL k := fun k h1 h2 => by omega
theorem a1 : ∀ k, 1 ≤ k → k ≤ 1 → DL k := step a0 d1
theorem a2 : ∀ k, 1 ≤ k → k ≤ 2 → DL k := step a1 d2
theorem a3 : ∀ k, 1 ≤ k → k ≤ 3 → DL k := step a2 d3
theorem a4 : ∀ k, 1 ≤ k → k ≤ 4 → DL k := step a3 d4
theorem a5 : ∀ k, 1 ≤ k → k ≤ 5 → DL k := step a4 d5
theorem a6 : ∀ k, 1 ≤ k → k ≤ 6 → DL k := step a5 d6
theorem a7 : ∀ k, 1 ≤ k → k ≤ 7 → DL k := step a6 d7
theorem a8 : ∀ k, 1 ≤ k → k ≤ 8 → DL k := step a7 d8
theorem a9 : ∀ k, 1 ≤ k → k ≤ 9 → DL k := step a8 d9
theorem a10 : ∀ k, 1 ≤ k → k ≤ 10 → DL k := step a9 d10
theorem a11 : ∀ k, 1 ≤ k → k ≤ 11 → DL k := step a10 d11
theorem a12 : ∀ k, 1 ≤ k → k ≤ 12 → DL k := step a11 d12
theorem a13 : ∀ k, 1 ≤ k → k ≤ 13 → DL k := step a12 d13
theorem a14 : ∀ k, 1 ≤ k → k ≤ 14 → DL k := step a13 d14
theorem a15 : ∀ k, 1 ≤ k → k ≤ 15 → DL k := step a14 d15
theorem a16 : ∀ k, 1 ≤ k → k ≤ 16 → DL k := step a15 d16
theorem a17 : ∀ k, 1 ≤ k → k ≤ 17 → DL k := step a16 d17
theorem a18 : ∀ k, 1 ≤ k → k ≤ 18 → DL k := step a17 d18
theorem a19 : ∀ k, 1 ≤ k → k ≤ 19 → DL k := step a18 d19
theorem a20 : ∀ k, 1 ≤ k → k ≤ 20 → DL k := step a19 d20
theorem a21 : ∀ k, 1 ≤ k → k ≤ 21 → DL k := step a20 d21
theorem a22 : ∀ k, 1 ≤ k → k ≤ 22 → DL k := step a21 d22
theorem a23 : ∀ k, 1 ≤ k → k ≤ 23 → DL k := step a22 d23
theorem a24 : ∀ k, 1 ≤ k → k ≤ 24 → DL k := step a23 d24
theorem a25 : ∀ k, 1 ≤ k → k ≤ 25 → DL k := step a24 d25
theorem a26 : ∀ k, 1 ≤ k → k ≤ 26 → DL k := step a25 d26
theorem a27 : ∀ k, 1 ≤ k → k ≤ 27 → DL k := step a26 d27
theorem a28 : ∀ k, 1 ≤ k → k ≤ 28 → DL k := step a27 d28
theorem a29 : ∀ k, 1 ≤ k → k ≤ 29 → DL k := step a28 d29
theorem a30 : ∀ k, 1 ≤ k → k ≤ 30 → DL k := step a29 d30
theorem a31 : ∀ k, 1 ≤ k → k ≤ 31 → DL k := step a30 d31
theorem a32 : ∀ k, 1 ≤ k → k ≤ 32 → DL k := step a31 d32
theorem a33 : ∀ k, 1 ≤ k → k ≤ 33 → DL k := step a32 d33
theorem a34 : ∀ k, 1 ≤ k → k ≤ 34 → DL k := step a33 d34
theorem a35 : ∀ k, 1 ≤ k → k ≤ 35 → DL k := step a34 d35
theorem a36 : ∀ k, 1 ≤ k → k ≤ 36 → DL k := step a35 d36
theorem a37 : ∀ k, 1 ≤ k → k ≤ 37 → DL k := step a36 d37
theorem a38 : ∀ k, 1 ≤ k → k ≤ 38 → DL k := step a37 d38
theorem a39 : ∀ k, 1 ≤ k → k ≤ 39 → DL k := step a38 d39
theorem a40 : ∀ k, 1 ≤ k → k ≤ 40 → DL k := step a39 d40
theorem a41 : ∀ k, 1 ≤ k → k ≤ 41 → DL k := step a40 d41
theorem a42 : ∀ k, 1 ≤ k → k ≤ 42 → DL k := step a41 d42
theorem a43 : ∀ k, 1 ≤ k → k ≤ 43 → DL k := step a42 d43
theorem a44 : ∀ k, 1 ≤ k → k ≤ 44 → DL k := step a43 d44
theorem a45 : ∀ k, 1 ≤ k → k ≤ 45 → DL k := step a44 d45
theorem a46 : ∀ k, 1 ≤ k → k ≤ 46 → DL k := step a45 d46
theorem a47 : ∀ k, 1 ≤ k → k ≤ 47 → DL k := step a46 d47
theorem a48 : ∀ k, 1 ≤ k → k ≤ 48 → DL k := step a47 d48
theorem a49 : ∀ k, 1 ≤ k → k ≤ 49 → DL k := step a48 d49
theorem a50 : ∀ k, 1 ≤ k → k ≤ 50 → DL k := step a49 d50
theorem a51 : ∀ k, 1 ≤ k → k ≤ 51 → DL k := step a50 d51
theorem a52 : ∀ k, 1 ≤ k → k ≤ 52 → DL k := step a51 d52
theorem a53 : ∀ k, 1 ≤ k → k ≤ 53 → DL k := step a52 d53
theorem a54 : ∀ k, 1 ≤ k → k ≤ 54 → DL k := step a53 d54
theorem a55 : ∀ k, 1 ≤ k → k ≤ 55 → DL k := step a54 d55
theorem a56 : ∀ k, 1 ≤ k → k ≤ 56 → DL k := step a55 d56
theorem a57 : ∀ k, 1 ≤ k → k ≤ 57 → DL k := step a56 d57
theorem a58 : ∀ k, 1 ≤ k → k ≤ 58 → DL k := step a57 d58
theorem a59 : ∀ k, 1 ≤ k → k ≤ 59 → DL k := step a58 d59
theorem a60 : ∀ k, 1 ≤ k → k ≤ 60 → DL k := step a59 d60
theorem a61 : ∀ k, 1 ≤ k → k ≤ 61 → DL k := step a60 d61
theorem a62 : ∀ k, 1 ≤ k → k ≤ 62 → DL k := step a61 d62
theorem a63 : ∀ k, 1 ≤ k → k ≤ 63 → DL k := step a62 d63
theorem a64 : ∀ k, 1 ≤ k → k ≤ 64 → DL k := step a63 d64
theorem a65 : ∀ k, 1 ≤ k → k ≤ 65 → DL k := step a64 d65
theorem a66 : ∀ k, 1 ≤ k → k ≤ 66 → DL k := step a65 d66
theorem a67 : ∀ k, 1 ≤ k → k ≤ 67 → DL k := step a66 d67
theorem a68 : ∀ k, 1 ≤ k → k ≤ 68 → DL k := step a67 d68
theorem a69 : ∀ k, 1 ≤ k → k ≤ 69 → DL k := step a68 d69
theorem a70 : ∀ k, 1 ≤ k → k ≤ 70 → DL k := step a69 d70
theorem a71 : ∀ k, 1 ≤ k → k ≤ 71 → DL k := step a70 d71
theorem a72 : ∀ k, 1 ≤ k → k ≤ 72 → DL k := step a71 d72
theorem a73 : ∀ k, 1 ≤ k → k ≤ 73 → DL k := step a72 d73
theorem a74 : ∀ k, 1 ≤ k → k ≤ 74 → DL k := step a73 d74
theorem a75 : ∀ k, 1 ≤ k → k ≤ 75 → DL k := step a74 d75
theorem a76 : ∀ k, 1 ≤ k → k ≤ 76 → DL k := step a75 d76
theorem a77 : ∀ k, 1 ≤ k → k ≤ 77 → DL k := step a76 d77
theorem a78 : ∀ k, 1 ≤ k → k ≤ 78 → DL k := step a77 d78
theorem a79 : ∀ k, 1 ≤ k → k ≤ 79 → DL k := step a78 d79
theorem a80 : ∀ k, 1 ≤ k → k ≤ 80 → DL k := step a79 d80
theorem a81 : ∀ k, 1 ≤ k → k ≤ 81 → DL k := step a80 d81
theorem a82 : ∀ k, 1 ≤ k → k ≤ 82 → DL k := step a81 d82
theorem a83 : ∀ k, 1 ≤ k → k ≤ 83 → DL k := step a82 d83
theorem a84 : ∀ k, 1 ≤ k → k ≤ 84 → DL k := step a83 d84
theorem a85 : ∀ k, 1 ≤ k → k ≤ 85 → DL k := step a84 d85
theorem a86 : ∀ k, 1 ≤ k → k ≤ 86 → DL k := step a85 d86
theorem a87 : ∀ k, 1 ≤ k → k ≤ 87 → DL k := step a86 d87
theorem a88 : ∀ k, 1 ≤ k → k ≤ 88 → DL k := step a87 d88
theorem a89 : ∀ k, 1 ≤ k → k ≤ 89 → DL k := step a88 d89
theorem a90 : ∀ k, 1 ≤ k → k ≤ 90 → DL k := step a89 d90
theorem a91 : ∀ k, 1 ≤ k → k ≤ 91 → DL k := step a90 d91
theorem a92 : ∀ k, 1 ≤ k → k ≤ 92 → DL k := step a91 d92
theorem a93 : ∀ k, 1 ≤ k → k ≤ 93 → DL k := step a92 d93
theorem a94 : ∀ k, 1 ≤ k → k ≤ 94 → DL k := step a93 d94
theorem a95 : ∀ k, 1 ≤ k → k ≤ 95 → DL k := step a94 d95
theorem a96 : ∀ k, 1 ≤ k → k ≤ 96 → DL k := step a95 d96
theorem a97 : ∀ k, 1 ≤ k → k ≤ 97 → DL k := step a96 d97
theorem a98 : ∀ k, 1 ≤ k → k ≤ 98 → DL k := step a97 d98
theorem a99 : ∀ k, 1 ≤ k → k ≤ 99 → DL k := step a98 d99
theorem a100 : ∀ k, 1 ≤ k → k ≤ 100 → DL k := step a99 d100

theorem rangeB {n : Int} (h : (Lit.int .u8 n).wf = true) : 0 ≤ n ∧ n ≤ 255 := by
  have h' : (decide (IntKind.u8.min ≤ n) && decide (n ≤ IntKind.u8.max)) = true := h
  simp only [Bool.and_eq_true, decide_eq_true_eq] at h'
  exact h'

theorem wrapB {n : Int} (h : 0 ≤ n ∧ n ≤ 255) : IntKind.u8.wrap n = n := wrap_in .u8 h.1 h.2

abbrev valM (n x b : Int) (Y : List Int) (len cap : Int) (zs : List Int) : Nat → Int := fun k => if k < 100 then (if k < 20 then [n, x, b, 0, 0, 0, 0, 0, 0, 0, 0, len, cap].getD k 0 else Y.getD (k - 20) 0) else zs.getD (k - 100) 0

section
variable {n x b len cap : Int} {Y zs : List Int} {sla : Nat → Option Addr × Nat}

theorem bytesV (hb : ∀ z ∈ zs, 0 ≤ z ∧ z ≤ 255) (h100 : zs.length ≤ 100) : (takeX zs.length b100).map (SX.eval (valM n x b Y len cap zs)) = zs := by
  rw [takeX_eq]
  apply List.ext_getElem?
  intro i
  rw [List.getElem?_map, List.getElem?_take]
  by_cases hi : i < zs.length
  · rw [if_pos hi, b100_get i (by omega), List.getElem?_eq_getElem hi]
    show some (IntKind.u8.wrap (if 100 + i < 100 then _ else zs.getD (100 + i - 100) 0)) = _
    rw [if_neg (by omega), show 100 + i - 100 = i by omega, List.getD_eq_getElem?_getD, List.getElem?_eq_getElem hi]
    show some (IntKind.u8.wrap zs[i]) = _
    rw [wrapB (hb _ (List.getElem_mem hi))]
  · rw [if_neg hi, List.getElem?_eq_none (by omega)]
    rfl

theorem shRes (h : Y.length = 11) : Sim.shV Rd.sh Y = @conc (nameS (valM n x b Y len cap zs) sla) E0 res := by
  match Y, h with
  | [y0, y1, y2, y3, y4, y5, y6, y7, y8, y9, y10], _ => rfl

theorem stabOK (hb : ∀ z ∈ zs, 0 ≤ z ∧ z ≤ 255) (h100 : zs.length ≤ 100) (h11 : Y.length = 11) (hY : Rd.Both zs n x b Y) : SlTabOK Try.prog (valM n x b Y len cap zs) sla (stab zs.length) := by
  intro y hy w v hv
  simp only [stab, List.mem_cons, List.not_mem_nil, or_false] at hy
  rcases hy with rfl | rfl
  · simp only [bytesV hb h100] at hv
    have := (hY w v hv).1
    rw [shRes (n := n) (x := x) (b := b) (len := len) (cap := cap) (zs := zs) (sla := sla) h11] at this
    exact this
  · simp only [bytesV hb h100] at hv
    have := (hY w v hv).2
    rw [shRes (n := n) (x := x) (b := b) (len := len) (cap := cap) (zs := zs) (sla := sla) h11] at this
    exact this

end

theorem outsOK {n x b len cap : Int} {Y zs : List Int} {w : World} {q off : Nat} (hb : ∀ z ∈ zs, 0 ≤ z ∧ z ≤ 255) (h100 : zs.length ≤ 100) (hlt : q < w.heap.size)
    (hc : ∀ (i : Nat) (m : Int), zs[i]? = some m → w.cell? ⟨q, off + i, none⟩ = some (.int .u8 m)) : @OutOK (nameS (valM n x b Y len cap zs) sl0) ⟨fun _ => q, fun _ => off⟩ w (outs zs.length) := by
  intro k o hk
  cases k with
  | zero =>
    simp only [outs, List.getElem?_cons_zero, Option.some.injEq] at hk
    subst hk
    refine ⟨hlt, fun _ i v hv => ?_, fun ki k0 m he => by simp at he⟩
    simp only [takeL_eq', List.getElem?_take] at hv
    split at hv
    · rename_i hi
      rw [c100_get i (by omega)] at hv
      cases hv
      show w.cell? ⟨q, off + i, none⟩ = some (.int .u8 (IntKind.u8.wrap (if 100 + i < 100 then _ else zs.getD (100 + i - 100) 0)))
      rw [if_neg (by omega), show 100 + i - 100 = i by omega, wrapB (nat_getD zs hb i)]
      have := hc i zs[i] (List.getElem?_eq_getElem hi)
      rw [this, List.getD_eq_getElem?_getD, List.getElem?_eq_getElem hi]
      rfl
    · cases hv
  | succ k => simp [outs] at hk

theorem walk (s : Value) (n : Int) (_ : (Lit.int .i64 n).wf = true) (x : Int) (_ : (Lit.int .i64 x).wf = true) (b : Int) (_ : (Lit.int .i64 b).wf = true) (w : World) (hs : SliceIn w .u8 s) :
    Calls Try.prog 3 #[s, .int .i64 n, .int .i64 x, .int .i64 b] w fun e w' => e = .returned (.bool true) ∧ RowKit.Below w.heap.size w w' := by
  rcases hs with ⟨oa, cap, rfl⟩ | ⟨q, off, cap, zs, h0, rfl, hcap, hlt, hc, hwf⟩
  · obtain ⟨Y, h11, hY⟩ := Rd.readAll [] (fun z hz => by cases hz) (by simp) n x b
    have hF : Holds (valM n x b Y 0 cap []) [.is (.a 11) 0] := holds_cons (show (0 : Int) = 0 from rfl) holds_nil
    exact emptyE (sla := fun _ => (oa, cap)) hF (stabOK (zs := []) (fun z hz => by cases hz) (by simp) h11 hY) E0 w (noOut _ _)
  · have hb : ∀ z ∈ zs, 0 ≤ z ∧ z ≤ 255 := fun z hz => rangeB (hwf z hz)
    by_cases h100 : zs.length ≤ 100
    · obtain ⟨Y, h11, hY⟩ := Rd.readAll zs hb h100 n x b
      exact a100 zs.length h0 h100 (valM n x b Y zs.length cap zs) (holds_cons (show ((zs.length : Nat) : Int) ≤ cap by omega) holds_nil) (stabOK hb h100 h11 hY) ⟨fun _ => q, fun _ => off⟩ w (outsOK hb h100 hlt hc)
    · have hF : Holds (valM n x b [] zs.length cap []) [.ge (.a 11) 101] := holds_cons (show (101 : Int) ≤ zs.length by omega) holds_nil
      exact longE (sla := fun _ => (some ⟨q, off, none⟩, cap)) hF E0 w (noOut _ _)

end Go.Proofs.Ytbenfglhomiocaa.modrmReads
