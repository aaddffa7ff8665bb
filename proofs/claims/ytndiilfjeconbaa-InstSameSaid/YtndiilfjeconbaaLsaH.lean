/-
  The law 'InstSame', by what Same and Check give: what is known on each way.
-/
import Derived.Test.YtndiilfjeconbaaSimI
import Derived.Test.YtndiilfjeconbaaKnownH
import Derived.Test.YtndiilfjeconbaaInsH
namespace Go.Proofs.Ytndiilfjeconbaa.Tab
open Go.Sim
set_option maxRecDepth 100000
set_option linter.unusedSimpArgs false

theorem awakeK [Syms] : CallerOK Try.prog (known 13 yes []) := known_of_run (ids := []) (fuel := 1000) (orc := sc) scO mixK (by kernel_rfl) (by kernel_rfl)

abbrev argL (k b : Nat) (r : Bool) : AV := cond r (.agg [a k, .ry b (.c 0) (.a (10 + 2 * k)) (.a (11 + 2 * k))]) (.agg [a k, .osl (10 + 2 * k)])

abbrev outL (k : Nat) (r : Bool) : List (Nat × List AV) := cond r [(0, [.row .i64 (2000 + 200 * k) (.mul (.c 11) (.a (10 + 2 * k)))])] []

abbrev nR (r : Bool) : Nat := cond r 1 0

abbrev argsL (ra rb rc : Bool) : List AV := [argL 0 0 ra, argL 1 (nR ra) rb, argL 2 (nR ra + nR rb) rc]

abbrev outsL (ra rb rc : Bool) : List (Nat × List AV) := outL 0 ra ++ (outL 1 rb ++ outL 2 rc)

abbrev bv (b : Bool) : AV := .v (.bool b)

/-- What the calls give: p: Same of the first two, q: of the last two, r: of the first two turned, t: of the first and the last. -/
abbrev tabL (ra rb rc p q r t : Bool) : List (FuncId × List AV × AV) :=
  [(14, [argL 0 0 ra, argL 1 (nR ra) rb], bv p), (14, [argL 1 (nR ra) rb, argL 2 (nR ra + nR rb) rc], bv q), (14, [argL 1 (nR ra) rb, argL 0 0 ra], bv r), (14, [argL 0 0 ra, argL 2 (nR ra + nR rb) rc], bv t), (11, [argL 0 0 ra], cond p (ci 0) (a 24)), (11, [argL 1 (nR ra) rb], cond p (ci 0) (a 25))]

abbrev LawS (ra rb rc : Bool) (sla : Nat → Option Addr × Nat) (val : Nat → Int) : Prop := LawO Try.prog 4 (argsL ra rb rc) (outsL ra rb rc) sla val

theorem wfL {ra rb rc : Bool} : wfVs (· < (outsL ra rb rc).length) (argsL ra rb rc) := by
  cases ra <;> cases rb <;> cases rc <;> simp [outsL, argsL, outL, argL, nR, wfVs, wfV]

theorem plL {ra rb rc : Bool} : (outsL ra rb rc).all plainO = true := by
  cases ra <;> cases rb <;> cases rc <;> rfl

theorem leafL {ra rb rc p q r t : Bool} {val : Nat → Int} {F : List Fact} (h : Holds val F) {sla : Nat → Option Addr × Nat} (hb : (tabL ra rb rc p q r t).all (fun x => bodyOK Try.prog x.1) = true) (hp : (tabL ra rb rc p q r t).all (fun x => plain x.2.2) = true)
    (ht : TabOKO Try.prog val sla (outsL ra rb rc) (tabL ra rb rc p q r t)) (hg : saysTrue (@runO (symsOf val F h sla) Try.prog (orElse (known 13 yes []) (tabOO (outsL ra rb rc) (tabL ra rb rc p q r t))) 1000 4 (argsL ra rb rc) (outsL ra rb rc)) = true) : LawS ra rb rc sla val :=
  lawO_of h (@orElse_sound Try.prog (symsOf val F h sla) _ _ (@awakeK (symsOf val F h sla)) (tabOO_sound h hb hp ht)) mixK wfL plL hg

theorem longL {ra rb rc : Bool} {val : Nat → Int} {F : List Fact} (h : Holds val F) {sla : Nat → Option Addr × Nat} (hg : saysTrue (@runO (symsOf val F h sla) Try.prog (known 13 yes []) 1000 4 (argsL ra rb rc) (outsL ra rb rc)) = true) : LawS ra rb rc sla val :=
  lawO_of h (@awakeK (symsOf val F h sla)) mixK wfL plL hg

/-- How long a slice is. -/
abbrev lenF (k : Nat) (r : Bool) : List Fact := cond r [.ge (.a (10 + 2 * k)) 1, .le (.a (10 + 2 * k)) 9] [.is (.a (10 + 2 * k)) 0]

abbrev lensF (ra rb rc : Bool) : List Fact := lenF 0 ra ++ (lenF 1 rb ++ lenF 2 rc)

abbrev opF (p : Bool) : List Fact := cond p [.at (.eq (.a 0) (.a 1)) true] []

abbrev LS (ra rb rc p q r t : Bool) : Prop := ∀ val sla, Holds val (opF p ++ lensF ra rb rc) → TabOKO Try.prog val sla (outsL ra rb rc) (tabL ra rb rc p q r t) → LawS ra rb rc sla val

end Go.Proofs.Ytndiilfjeconbaa.Tab
