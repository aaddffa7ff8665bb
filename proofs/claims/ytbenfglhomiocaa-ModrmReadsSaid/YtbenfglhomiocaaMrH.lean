/-
  The law 'ModrmReads', by lengths: what is known on each way.
-/
import Derived.Test.YtbenfglhomiocaaKnownH
import Derived.Test.YtbenfglhomiocaaFldH
namespace Go.Proofs.Ytbenfglhomiocaa.MrL
open Go.Sim Go.Proofs.Ytbenfglhomiocaa.Fld Go.Proofs.Ytbenfglhomiocaa.Tab
set_option maxRecDepth 100000

def b100 : List SX := [.wrap .u8 (.a 100), .wrap .u8 (.a 101), .wrap .u8 (.a 102), .wrap .u8 (.a 103), .wrap .u8 (.a 104), .wrap .u8 (.a 105), .wrap .u8 (.a 106), .wrap .u8 (.a 107), .wrap .u8 (.a 108), .wrap .u8 (.a 109), .wrap .u8 (.a 110), .wrap .u8 (.a 111), .wrap .u8 (.a 112), .wrap .u8 (.a 113), .wrap .u8 (.a 114), .wrap .u8 (.a 115), .wrap .u8 (.a 116), .wrap .u8 (.a 117), .wrap .u8 (.a 118), .wrap .u8 (.a 119), .wrap .u8 (.a 120), .wrap .u8 (.a 121), .wrap .u8 (.a 122), .wrap .u8 (.a 123), .wrap .u8 (.a 124), .wrap .u8 (.a 125), .wrap .u8 (.a 126), .wrap .u8 (.a 127), .wrap .u8 (.a 128), .wrap .u8 (.a 129), .wrap .u8 (.a 130), .wrap .u8 (.a 131), .wrap .u8 (.a 132), .wrap .u8 (.a 133), .wrap .u8 (.a 134), .wrap .u8 (.a 135), .wrap .u8 (.a 136), .wrap .u8 (.a 137), .wrap .u8 (.a 138), .wrap .u8 (.a 139), .wrap .u8 (.a 140), .wrap .u8 (.a 141), .wrap .u8 (.a 142), .wrap .u8 (.a 143), .wrap .u8 (.a 144), .wrap .u8 (.a 145), .wrap .u8 (.a 146), .wrap .u8 (.a 147), .wrap .u8 (.a 148), .wrap .u8 (.a 149), .wrap .u8 (.a 150), .wrap .u8 (.a 151), .wrap .u8 (.a 152), .wrap .u8 (.a 153), .wrap .u8 (.a 154), .wrap .u8 (.a 155), .wrap .u8 (.a 156), .wrap .u8 (.a 157), .wrap .u8 (.a 158), .wrap .u8 (.a 159), .wrap .u8 (.a 160), .wrap .u8 (.a 161), .wrap .u8 (.a 162), .wrap .u8 (.a 163), .wrap .u8 (.a 164), .wrap .u8 (.a 165), .wrap .u8 (.a 166), .wrap .u8 (.a 167), .wrap .u8 (.a 168), .wrap .u8 (.a 169), .wrap .u8 (.a 170), .wrap .u8 (.a 171), .wrap .u8 (.a 172), .wrap .u8 (.a 173), .wrap .u8 (.a 174), .wrap .u8 (.a 175), .wrap .u8 (.a 176), .wrap .u8 (.a 177), .wrap .u8 (.a 178), .wrap .u8 (.a 179), .wrap .u8 (.a 180), .wrap .u8 (.a 181), .wrap .u8 (.a 182), .wrap .u8 (.a 183), .wrap .u8 (.a 184), .wrap .u8 (.a 185), .wrap .u8 (.a 186), .wrap .u8 (.a 187), .wrap .u8 (.a 188), .wrap .u8 (.a 189), .wrap .u8 (.a 190), .wrap .u8 (.a 191), .wrap .u8 (.a 192), .wrap .u8 (.a 193), .wrap .u8 (.a 194), .wrap .u8 (.a 195), .wrap .u8 (.a 196), .wrap .u8 (.a 197), .wrap .u8 (.a 198), .wrap .u8 (.a 199)]

def c100 : List AV := [.sx .u8 (.wrap .u8 (.a 100)), .sx .u8 (.wrap .u8 (.a 101)), .sx .u8 (.wrap .u8 (.a 102)), .sx .u8 (.wrap .u8 (.a 103)), .sx .u8 (.wrap .u8 (.a 104)), .sx .u8 (.wrap .u8 (.a 105)), .sx .u8 (.wrap .u8 (.a 106)), .sx .u8 (.wrap .u8 (.a 107)), .sx .u8 (.wrap .u8 (.a 108)), .sx .u8 (.wrap .u8 (.a 109)), .sx .u8 (.wrap .u8 (.a 110)), .sx .u8 (.wrap .u8 (.a 111)), .sx .u8 (.wrap .u8 (.a 112)), .sx .u8 (.wrap .u8 (.a 113)), .sx .u8 (.wrap .u8 (.a 114)), .sx .u8 (.wrap .u8 (.a 115)), .sx .u8 (.wrap .u8 (.a 116)), .sx .u8 (.wrap .u8 (.a 117)), .sx .u8 (.wrap .u8 (.a 118)), .sx .u8 (.wrap .u8 (.a 119)), .sx .u8 (.wrap .u8 (.a 120)), .sx .u8 (.wrap .u8 (.a 121)), .sx .u8 (.wrap .u8 (.a 122)), .sx .u8 (.wrap .u8 (.a 123)), .sx .u8 (.wrap .u8 (.a 124)), .sx .u8 (.wrap .u8 (.a 125)), .sx .u8 (.wrap .u8 (.a 126)), .sx .u8 (.wrap .u8 (.a 127)), .sx .u8 (.wrap .u8 (.a 128)), .sx .u8 (.wrap .u8 (.a 129)), .sx .u8 (.wrap .u8 (.a 130)), .sx .u8 (.wrap .u8 (.a 131)), .sx .u8 (.wrap .u8 (.a 132)), .sx .u8 (.wrap .u8 (.a 133)), .sx .u8 (.wrap .u8 (.a 134)), .sx .u8 (.wrap .u8 (.a 135)), .sx .u8 (.wrap .u8 (.a 136)), .sx .u8 (.wrap .u8 (.a 137)), .sx .u8 (.wrap .u8 (.a 138)), .sx .u8 (.wrap .u8 (.a 139)), .sx .u8 (.wrap .u8 (.a 140)), .sx .u8 (.wrap .u8 (.a 141)), .sx .u8 (.wrap .u8 (.a 142)), .sx .u8 (.wrap .u8 (.a 143)), .sx .u8 (.wrap .u8 (.a 144)), .sx .u8 (.wrap .u8 (.a 145)), .sx .u8 (.wrap .u8 (.a 146)), .sx .u8 (.wrap .u8 (.a 147)), .sx .u8 (.wrap .u8 (.a 148)), .sx .u8 (.wrap .u8 (.a 149)), .sx .u8 (.wrap .u8 (.a 150)), .sx .u8 (.wrap .u8 (.a 151)), .sx .u8 (.wrap .u8 (.a 152)), .sx .u8 (.wrap .u8 (.a 153)), .sx .u8 (.wrap .u8 (.a 154)), .sx .u8 (.wrap .u8 (.a 155)), .sx .u8 (.wrap .u8 (.a 156)), .sx .u8 (.wrap .u8 (.a 157)), .sx .u8 (.wrap .u8 (.a 158)), .sx .u8 (.wrap .u8 (.a 159)), .sx .u8 (.wrap .u8 (.a 160)), .sx .u8 (.wrap .u8 (.a 161)), .sx .u8 (.wrap .u8 (.a 162)), .sx .u8 (.wrap .u8 (.a 163)), .sx .u8 (.wrap .u8 (.a 164)), .sx .u8 (.wrap .u8 (.a 165)), .sx .u8 (.wrap .u8 (.a 166)), .sx .u8 (.wrap .u8 (.a 167)), .sx .u8 (.wrap .u8 (.a 168)), .sx .u8 (.wrap .u8 (.a 169)), .sx .u8 (.wrap .u8 (.a 170)), .sx .u8 (.wrap .u8 (.a 171)), .sx .u8 (.wrap .u8 (.a 172)), .sx .u8 (.wrap .u8 (.a 173)), .sx .u8 (.wrap .u8 (.a 174)), .sx .u8 (.wrap .u8 (.a 175)), .sx .u8 (.wrap .u8 (.a 176)), .sx .u8 (.wrap .u8 (.a 177)), .sx .u8 (.wrap .u8 (.a 178)), .sx .u8 (.wrap .u8 (.a 179)), .sx .u8 (.wrap .u8 (.a 180)), .sx .u8 (.wrap .u8 (.a 181)), .sx .u8 (.wrap .u8 (.a 182)), .sx .u8 (.wrap .u8 (.a 183)), .sx .u8 (.wrap .u8 (.a 184)), .sx .u8 (.wrap .u8 (.a 185)), .sx .u8 (.wrap .u8 (.a 186)), .sx .u8 (.wrap .u8 (.a 187)), .sx .u8 (.wrap .u8 (.a 188)), .sx .u8 (.wrap .u8 (.a 189)), .sx .u8 (.wrap .u8 (.a 190)), .sx .u8 (.wrap .u8 (.a 191)), .sx .u8 (.wrap .u8 (.a 192)), .sx .u8 (.wrap .u8 (.a 193)), .sx .u8 (.wrap .u8 (.a 194)), .sx .u8 (.wrap .u8 (.a 195)), .sx .u8 (.wrap .u8 (.a 196)), .sx .u8 (.wrap .u8 (.a 197)), .sx .u8 (.wrap .u8 (.a 198)), .sx .u8 (.wrap .u8 (.a 199))]

noncomputable def takeX (n : Nat) : List SX → List SX :=
  Nat.rec (motive := fun _ => List SX → List SX) (fun _ => []) (fun _ ih l => List.rec (motive := fun _ => List SX) [] (fun x r _ => x :: ih r) l) n

theorem takeX_eq : ∀ (n : Nat) (l : List SX), takeX n l = l.take n := by
  intro n
  induction n with
  | zero => intro l; rfl
  | succ n ih => intro l; cases l with
    | nil => rfl
    | cons x r => show x :: takeX n r = _; rw [ih r]; rfl

theorem takeL_eq' : ∀ (n : Nat) (l : List AV), takeL n l = l.take n := by
  intro n
  induction n with
  | zero => intro l; rfl
  | succ n ih => intro l; cases l with
    | nil => rfl
    | cons x r => show x :: takeL n r = _; rw [ih r]; rfl

theorem b100_eq : b100 = (List.range 100).map (fun k => SX.wrap .u8 (.a (100 + k))) := rfl

theorem c100_eq : c100 = (List.range 100).map (fun k => AV.sx .u8 (.wrap .u8 (.a (100 + k)))) := rfl

theorem b100_get (j : Nat) (h : j < 100) : b100[j]? = some (.wrap .u8 (.a (100 + j))) := by
  rw [b100_eq, List.getElem?_map, List.getElem?_range h]
  rfl

theorem c100_get (j : Nat) (h : j < 100) : c100[j]? = some (.sx .u8 (.wrap .u8 (.a (100 + j)))) := by
  rw [c100_eq, List.getElem?_map, List.getElem?_range h]
  rfl

abbrev a (k : Nat) : AV := .sx .i64 (.a k)

noncomputable abbrev outs (n : Nat) : List (Nat × List AV) := [(1, takeL n c100)]

/-- What both give. -/
abbrev res : AV := .tup [.agg [a 20, a 21, a 22, a 23, a 24, a 25, a 26, a 27, a 28, a 29], a 30]

noncomputable abbrev stab (n : Nat) : List (FuncId × List SX × List AV × AV) := [(9, takeX n b100, [a 0, a 1, a 2], res), (10, takeX n b100, [a 0, a 1, a 2], res)]

theorem awakeOK [Syms] : CallerOK Try.prog (known 7 yes []) := known_of_run (ids := []) (fuel := 1000) (orc := sc) scO mixK (by kernel_rfl) (by kernel_rfl)

abbrev Law (n : Nat) (val : Nat → Int) : Prop := LawO Try.prog 3 [.os 0 0 n 12 0, a 0, a 1, a 2] (outs n) sl0 val

noncomputable abbrev runL (val : Nat → Int) (F : List Fact) (h : Holds val F) (n : Nat) : Bool :=
  saysTrue (@runO (symsOf val F h sl0) Try.prog (orElse (known 7 yes []) (orElse (tabO []) (@slTab (symsOf val F h sl0) (stab n)))) 1000 3 [.os 0 0 n 12 0, a 0, a 1, a 2] (outs n))

theorem tab0 {val : Nat → Int} {sla : Nat → Option Addr × Nat} : TabOK Try.prog val sla [] := fun x hx => by cases hx

theorem leaf {val : Nat → Int} {n : Nat} (h : Holds val [.ge (.a 12) (.ofNat n)]) (hpl : (outs n).all plainO = true) (hb' : (stab n).all (fun x => bodyOK Try.prog x.1) = true) (hp' : (stab n).all (fun x => plain x.2.2.2 && plains x.2.2.1) = true)
    (hg : runL val _ h n = true) (ht' : SlTabOK Try.prog val sl0 (stab n)) : Law n val :=
  leafOS (orc := known 7 yes []) h awakeOK mixK ⟨Nat.zero_lt_one, trivial, trivial, trivial, trivial⟩ hpl rfl rfl tab0 hb' hp' ht' hg

abbrev DL (n : Nat) : Prop := ∀ val, Holds val [.ge (.a 12) (.ofNat n)] → SlTabOK Try.prog val sl0 (stab n) → Law n val

abbrev LawE (sla : Nat → Option Addr × Nat) (val : Nat → Int) : Prop := LawO Try.prog 3 [.osl 11, a 0, a 1, a 2] [] sla val

theorem emptyE {sla : Nat → Option Addr × Nat} {val : Nat → Int} (h : Holds val [.is (.a 11) 0]) (ht' : SlTabOK Try.prog val sla (stab 0)) : LawE sla val :=
  leafOS (orc := known 7 yes []) (fuel := 1000) h awakeOK mixK ⟨trivial, trivial, trivial, trivial, trivial⟩ (by kernel_rfl) rfl rfl tab0 (by kernel_rfl) (by kernel_rfl) ht' (by kernel_rfl)

theorem longE {sla : Nat → Option Addr × Nat} {val : Nat → Int} (h : Holds val [.ge (.a 11) 101]) : LawE sla val :=
  leafO (orc := known 7 yes []) (fuel := 1000) h awakeOK mixK ⟨trivial, trivial, trivial, trivial, trivial⟩ (by kernel_rfl) (by kernel_rfl)

end Go.Proofs.Ytbenfglhomiocaa.MrL
