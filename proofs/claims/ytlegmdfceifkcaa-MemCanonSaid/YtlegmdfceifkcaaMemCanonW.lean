/-
  'MemCanon' says true of any place and any numbers.
-/
import Derived.Test.YtlegmdfceifkcaaMemW
import Derived.Test.YtlegmdfceifkcaaCanonQ
namespace Go.Proofs.Ytlegmdfceifkcaa.memCanon
open Go.Sim Go.Proofs.Ytlegmdfceifkcaa.Tab

theorem walk (l : List Int) (hl : l.length = 7) (_ : ∀ n ∈ l, (Lit.int .i64 n).wf = true) (v : Value) (nx : Int) (_ : (Lit.int .i64 nx).wf = true) (w : World) (hs : SliceIn w .i64 v) :
    Calls Try.prog 6 #[.agg (l.map fun n => Value.int .i64 n).toArray, v, .int .i64 nx] w fun e w' => e = .returned (.bool true) ∧ RowKit.Below w.heap.size w w' := by
  have long : ∀ (oa : Option Addr) (len cap : Nat), len ≠ 16 → v = .slice oa len cap →
      Calls Try.prog 6 #[.agg (l.map fun n => Value.int .i64 n).toArray, v, .int .i64 nx] w fun e w' => e = .returned (.bool true) ∧ RowKit.Below w.heap.size w w' := by
    intro oa len cap hne hv
    subst hv
    have hh : Holds (mval l nx [] 0 0 len) [.ne (.a 31) 16, .ge (.a 31) 0] := by
      intro f hf
      simp only [List.mem_cons, List.not_mem_nil, or_false] at hf
      rcases hf with rfl | rfl
      · show ((len : Int) : Int) ≠ 16; omega
      · show (0 : Int) ≤ ((len : Int) : Int); omega
    have := canonN (mval l nx [] 0 0 len) hh (fun _ => (oa, cap)) E0 w (outNil _ _)
    obtain ⟨a0, a1, a2, a3, a4, a5, a6, rfl⟩ := row7 hl
    exact this
  rcases hs with ⟨oa, cap, rfl⟩ | ⟨b, off, cap, zs, hpos, rfl, hcap, hb, hc, _⟩
  · exact long oa 0 cap (by omega) rfl
  · by_cases h16 : zs.length = 16
    · have hh : Holds (mval l nx zs 0 cap 0) [.ge (.a 30) 16] := by
        intro f hf
        simp only [List.mem_cons, List.not_mem_nil, or_false] at hf
        subst hf
        show (16 : Int) ≤ ((cap : Int) : Int)
        omega
      have hout := outOK hl (nx := nx) (x29 := 0) (x30 := cap) (x31 := 0) (by omega) hb hc
      rw [h16] at hout
      have := canon16 (mval l nx zs 0 cap 0) hh ⟨fun _ => b, fun _ => off⟩ w hout
      rw [h16]
      obtain ⟨a0, a1, a2, a3, a4, a5, a6, rfl⟩ := row7 hl
      exact this
    · exact long _ _ cap h16 rfl

end Go.Proofs.Ytlegmdfceifkcaa.memCanon
