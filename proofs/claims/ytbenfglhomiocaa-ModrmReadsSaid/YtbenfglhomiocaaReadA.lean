/-
  What modrm.Read, and the document's Read, do of any slice, any numbers: the same.
-/
import Derived.Test.YtbenfglhomiocaaReadW
namespace Go.Proofs.Ytbenfglhomiocaa.Rd
open Go.Sim Go.Proofs.Ytbenfglhomiocaa.Fld Go.Proofs.Ytbenfglhomiocaa.Tab
set_option maxRecDepth 100000

abbrev argsO : List AV := [.osl 1, a 0, a 3, a 4]

abbrev valO (n l x b : Int) : Nat → Int := fun k => [n, l, 0, x, b].getD k 0

/-- What both give. -/
def Both (zs : List Int) (n x b : Int) (Y : List Int) : Prop := ∀ (wd : World) (v : Value), SliceOf wd .u8 v zs →
  (Calls Try.prog 9 #[v, .int .i64 n, .int .i64 x, .int .i64 b] wd fun e w' => e = .returned (shV sh Y) ∧ RowKit.Below wd.heap.size wd w') ∧
  (Calls Try.prog 10 #[v, .int .i64 n, .int .i64 x, .int .i64 b] wd fun e w' => e = .returned (shV sh Y) ∧ RowKit.Below wd.heap.size wd w')

theorem sliceO {wd : World} {v : Value} {zs : List Int} (h : SliceOf wd .u8 v zs) : ∃ oa cap, v = .slice oa zs.length cap := by
  rcases h with ⟨rfl, oa, cap, rfl⟩ | ⟨b, off, cap, _, rfl, _⟩
  · exact ⟨oa, cap, rfl⟩
  · exact ⟨_, cap, rfl⟩

/-- By the length alone. -/
theorem byLen {zs : List Int} {n x b : Int} {F : List Fact} {Y : List SX} {Z : List Int} (hF : Holds (valO n zs.length x b) F) (hZ : Y.map (SX.eval (valO n zs.length x b)) = Z)
    (h9 : ∀ sla, @gives (symsOf (valO n zs.length x b) F hF sla) (@runO (symsOf (valO n zs.length x b) F hF sla) Try.prog noOrc 1000 9 argsO []) sh Y = true)
    (h10 : ∀ sla, @gives (symsOf (valO n zs.length x b) F hF sla) (@runO (symsOf (valO n zs.length x b) F hF sla) Try.prog noOrc 1000 10 argsO []) sh Y = true) : Both zs n x b Z := by
  intro wd v hv
  obtain ⟨oa, cap, rfl⟩ := sliceO hv
  have e : @concs (nameS (valO n zs.length x b) (fun _ => (oa, cap))) E0 argsO = [.slice oa zs.length cap, .int .i64 n, .int .i64 x, .int .i64 b] := by
    simp only [concs, conc]
    rfl
  refine ⟨?_, ?_⟩
  · have r := retO_of hF (sla := fun _ => (oa, cap)) (args := argsO) (outs := []) (@noOrc_sound _ (symsOf _ _ _ _)) mix ⟨trivial, trivial, trivial, trivial, trivial⟩ (by kernel_rfl) (h9 _) E0 wd (noOut _ _)
    rw [e, hZ] at r
    exact r
  · have r := retO_of hF (sla := fun _ => (oa, cap)) (args := argsO) (outs := []) (@noOrc_sound _ (symsOf _ _ _ _)) mix ⟨trivial, trivial, trivial, trivial, trivial⟩ (by kernel_rfl) (h10 _) E0 wd (noOut _ _)
    rw [e, hZ] at r
    exact r

abbrev nil10 (e : Int) : List SX := [.c 0, .c 0, .c 0, .c 0, .c 0, .c 0, .c 0, .c 0, .c 0, .c 0, .c e]

theorem readAll (zs : List Int) (hb : ∀ z ∈ zs, 0 ≤ z ∧ z ≤ 255) (hl : zs.length ≤ 100) (n x b : Int) : ∃ Y : List Int, Y.length = 11 ∧ Both zs n x b Y := by
  have l0 : (Fact.ge (.a 1) 0).holds (valO n zs.length x b) := show (0 : Int) ≤ (zs.length : Int) by omega
  by_cases h1 : n < 0
  · exact ⟨_, rfl, byLen (F := [.ge (.a 1) 0, .le (.a 0) (-1)]) (Y := nil10 5) (holds_cons l0 (holds_cons (show n ≤ -1 by omega) holds_nil)) rfl (fun _ => by kernel_rfl) (fun _ => by kernel_rfl)⟩
  have n0 : (Fact.ge (.a 0) 0).holds (valO n zs.length x b) := show (0 : Int) ≤ n by omega
  by_cases h2 : (zs.length : Int) < n
  · exact ⟨_, rfl, byLen (F := [.ge (.a 1) 0, .ge (.a 0) 0, .at (.lt (.a 1) (.a 0)) true]) (Y := nil10 5) (holds_cons l0 (holds_cons n0 (holds_cons (show decide ((zs.length : Int) < n) = true from decide_eq_true h2) holds_nil))) rfl (fun _ => by kernel_rfl) (fun _ => by kernel_rfl)⟩
  have nl : (Fact.at (.lt (.a 1) (.a 0)) false).holds (valO n zs.length x b) := show decide ((zs.length : Int) < n) = false from decide_eq_false h2
  by_cases h3 : x < 0
  · exact ⟨_, rfl, byLen (F := [.ge (.a 1) 0, .ge (.a 0) 0, .at (.lt (.a 1) (.a 0)) false, .le (.a 3) (-1)]) (Y := nil10 5) (holds_cons l0 (holds_cons n0 (holds_cons nl (holds_cons (show x ≤ -1 by omega) holds_nil)))) rfl (fun _ => by kernel_rfl) (fun _ => by kernel_rfl)⟩
  by_cases h4 : 1 < x
  · exact ⟨_, rfl, byLen (F := [.ge (.a 1) 0, .ge (.a 0) 0, .at (.lt (.a 1) (.a 0)) false, .ge (.a 3) 2]) (Y := nil10 5) (holds_cons l0 (holds_cons n0 (holds_cons nl (holds_cons (show 2 ≤ x by omega) holds_nil)))) rfl (fun _ => by kernel_rfl) (fun _ => by kernel_rfl)⟩
  have x0 : (Fact.ge (.a 3) 0).holds (valO n zs.length x b) := show 0 ≤ x by omega
  have x1 : (Fact.le (.a 3) 1).holds (valO n zs.length x b) := show x ≤ 1 by omega
  by_cases h5 : b < 0
  · exact ⟨_, rfl, byLen (F := [.ge (.a 1) 0, .ge (.a 0) 0, .at (.lt (.a 1) (.a 0)) false, .ge (.a 3) 0, .le (.a 3) 1, .le (.a 4) (-1)]) (Y := nil10 5) (holds_cons l0 (holds_cons n0 (holds_cons nl (holds_cons x0 (holds_cons x1 (holds_cons (show b ≤ -1 by omega) holds_nil)))))) rfl (fun _ => by kernel_rfl) (fun _ => by kernel_rfl)⟩
  by_cases h6 : 1 < b
  · exact ⟨_, rfl, byLen (F := [.ge (.a 1) 0, .ge (.a 0) 0, .at (.lt (.a 1) (.a 0)) false, .ge (.a 3) 0, .le (.a 3) 1, .ge (.a 4) 2]) (Y := nil10 5) (holds_cons l0 (holds_cons n0 (holds_cons nl (holds_cons x0 (holds_cons x1 (holds_cons (show 2 ≤ b by omega) holds_nil)))))) rfl (fun _ => by kernel_rfl) (fun _ => by kernel_rfl)⟩
  by_cases h7 : zs.length = 0
  · have hF : Holds (valO n zs.length x b) [.is (.a 1) 0, .is (.a 0) 0, .ge (.a 3) 0, .le (.a 3) 1, .ge (.a 4) 0, .le (.a 4) 1] :=
      holds_cons (show (zs.length : Int) = 0 by omega) (holds_cons (show n = 0 by omega) (holds_cons x0 (holds_cons x1 (holds_cons (show 0 ≤ b by omega) (holds_cons (show b ≤ 1 by omega) holds_nil)))))
    exact ⟨_, rfl, byLen (Y := nil10 9) hF rfl (fun _ => by kernel_rfl) (fun _ => by kernel_rfl)⟩
  obtain ⟨m, rfl⟩ : ∃ m : Nat, n = m := ⟨n.toNat, by omega⟩
  obtain ⟨Y, hlen, hY⟩ := jointAll (n := m) (x := x) (b := b) (zs := zs) (by omega) hb (by omega) (by omega) (by omega) (by omega)
  refine ⟨Y, hlen, fun wd v hv => ?_⟩
  rcases hv with ⟨rfl, _⟩ | ⟨q, off, cap, h0, rfl, hcap, hlt, hc⟩
  · exact absurd rfl h7
  obtain ⟨r9, r10⟩ := hY cap (show ((zs.length : Nat) : Int) ≤ cap by omega)
  have ho : @OutOK (nameS (upd (valR m x b zs) 2 cap) sl0) ⟨fun _ => q, fun _ => off⟩ wd rowS := rowOut (val := upd (valR m x b zs) 2 cap) hlt rfl (fun i _ => byteAt i) hc
  have e : @concs (nameS (upd (valR m x b zs) 2 cap) sl0) ⟨fun _ => q, fun _ => off⟩ argsR = [.slice (some ⟨q, off, none⟩) zs.length cap, .int .i64 m, .int .i64 x, .int .i64 b] := by
    have e1 : @conc (nameS (upd (valR m x b zs) 2 cap) sl0) ⟨fun _ => q, fun _ => off⟩ argR = .slice (some ⟨q, off, none⟩) zs.length cap := by
      rw [@ry0_conc _ (nameS (upd (valR m x b zs) 2 cap) sl0)]
      rfl
    simp only [concs, e1]
    rfl
  have a9 := r9 _ wd ho
  have a10 := r10 _ wd ho
  rw [e] at a9 a10
  exact ⟨a9, a10⟩

end Go.Proofs.Ytbenfglhomiocaa.Rd
