/-
  'MemAddresses' says true of any place and any numbers.
-/
import Derived.Test.YtlegmdfceifkcaaMemW
import Derived.Test.YtlegmdfceifkcaaAddrQ
import Derived.Test.YtlegmdfceifkcaaMemQ
namespace Go.Proofs.Ytlegmdfceifkcaa.memAddresses
open Go.Sim Go.Proofs.Ytlegmdfceifkcaa.Tab

theorem lenN (n : Nat) (h1 : 0 < n) (h2 : n ≤ 20) (h3 : n ≠ 16) (val : Nat → Int) (h : Holds val [.ge (.a 30) n]) : LawN 4 n val := by
  match n, h1, h2, h3, h with
  | 0, h1, _, _, _ => exact absurd h1 (by omega)
  | 1, _, _, _, h => exact addr1 val h
  | 2, _, _, _, h => exact addr2 val h
  | 3, _, _, _, h => exact addr3 val h
  | 4, _, _, _, h => exact addr4 val h
  | 5, _, _, _, h => exact addr5 val h
  | 6, _, _, _, h => exact addr6 val h
  | 7, _, _, _, h => exact addr7 val h
  | 8, _, _, _, h => exact addr8 val h
  | 9, _, _, _, h => exact addr9 val h
  | 10, _, _, _, h => exact addr10 val h
  | 11, _, _, _, h => exact addr11 val h
  | 12, _, _, _, h => exact addr12 val h
  | 13, _, _, _, h => exact addr13 val h
  | 14, _, _, _, h => exact addr14 val h
  | 15, _, _, _, h => exact addr15 val h
  | 16, _, _, h3, _ => exact absurd rfl h3
  | 17, _, _, _, h => exact addr17 val h
  | 18, _, _, _, h => exact addr18 val h
  | 19, _, _, _, h => exact addr19 val h
  | 20, _, _, _, h => exact addr20 val h
  | n + 21, _, h2, _, _ => omega

theorem walk (l : List Int) (hl : l.length = 7) (_ : ∀ n ∈ l, (Lit.int .i64 n).wf = true) (v : Value) (nx : Int) (_ : (Lit.int .i64 nx).wf = true) (w : World) (hs : SliceIn w .i64 v) :
    Calls Try.prog 4 #[.agg (l.map fun n => Value.int .i64 n).toArray, v, .int .i64 nx] w fun e w' => e = .returned (.bool true) ∧ RowKit.Below w.heap.size w w' := by
  obtain ⟨a0, a1, a2, a3, a4, a5, a6, rfl⟩ := row7 hl
  obtain ⟨Y, lY, jY⟩ := memJ (fun k => [a0, a1, a2, a3, a4, a5, a6].getD k 0)
  obtain ⟨y0, y1, y2, y3, y4, y5, y6, y7, rfl⟩ := row8 lY
  have htab : ∀ zs x30 x31 sla, TabOK Try.prog (mval [a0, a1, a2, a3, a4, a5, a6] nx zs y7 x30 x31) sla tabE := by
    intro zs x30 x31 sla x hx
    simp only [tabE, List.mem_cons, List.not_mem_nil, or_false] at hx
    rcases hx with rfl | rfl
    · exact jY (10, [.i 7]) (by simp [specs])
    · exact jY (11, [.i 7]) (by simp [specs])
  rcases hs with ⟨oa, cap, rfl⟩ | ⟨b, off, cap, zs, hpos, rfl, hcap, hb, hc, _⟩
  · have hh : Holds (mval [a0, a1, a2, a3, a4, a5, a6] nx [] y7 0 0) [.is (.a 31) 0] := by
      intro f hf
      simp only [List.mem_cons, List.not_mem_nil, or_false] at hf
      subst hf
      exact rfl
    exact addrZ _ hh (fun _ => (oa, cap)) (htab [] 0 0 _) E0 w (outNil _ _)
  · by_cases h20 : zs.length ≤ 20
    · by_cases h16 : zs.length = 16
      · have hh : Holds (mval [a0, a1, a2, a3, a4, a5, a6] nx zs 0 cap 0) [.ge (.a 30) 16] := by
          intro f hf
          simp only [List.mem_cons, List.not_mem_nil, or_false] at hf
          subst hf
          show (16 : Int) ≤ ((cap : Int) : Int)
          omega
        have hout := outOK hl (nx := nx) (x29 := 0) (x30 := cap) (x31 := 0) (by omega) hb hc
        rw [h16] at hout
        have := addr16 (mval [a0, a1, a2, a3, a4, a5, a6] nx zs 0 cap 0) hh ⟨fun _ => b, fun _ => off⟩ w hout
        rw [h16]
        exact this
      · have hh : Holds (mval [a0, a1, a2, a3, a4, a5, a6] nx zs y7 cap 0) [.ge (.a 30) zs.length] := by
          intro f hf
          simp only [List.mem_cons, List.not_mem_nil, or_false] at hf
          subst hf
          show ((zs.length : Int) : Int) ≤ ((cap : Int) : Int)
          omega
        have hout := outOK hl (nx := nx) (x29 := y7) (x30 := cap) (x31 := 0) h20 hb hc
        exact lenN zs.length hpos h20 h16 _ hh (htab zs cap 0 sla0) ⟨fun _ => b, fun _ => off⟩ w hout
    · have hh : Holds (mval [a0, a1, a2, a3, a4, a5, a6] nx [] 0 0 zs.length) [.ge (.a 31) 21] := by
        intro f hf
        simp only [List.mem_cons, List.not_mem_nil, or_false] at hf
        subst hf
        show (21 : Int) ≤ ((zs.length : Int) : Int)
        omega
      exact addrL _ hh (fun _ => (some ⟨b, off, none⟩, cap)) E0 w (outNil _ _)

end Go.Proofs.Ytlegmdfceifkcaa.memAddresses
