/-
  The law 'FieldBack', by lengths: what is known on each way.
-/
import Derived.Test.YtclgmeoofmidfaaGet
import Derived.Test.YtclgmeoofmidfaaPick
namespace Go.Proofs.Ytclgmeoofmidfaa.BackL
open Go.Sim Go.Proofs.Ytclgmeoofmidfaa.Fld
set_option maxRecDepth 100000

def b50 : List SX := [.wrap .u8 (.a 100), .wrap .u8 (.a 101), .wrap .u8 (.a 102), .wrap .u8 (.a 103), .wrap .u8 (.a 104), .wrap .u8 (.a 105), .wrap .u8 (.a 106), .wrap .u8 (.a 107), .wrap .u8 (.a 108), .wrap .u8 (.a 109), .wrap .u8 (.a 110), .wrap .u8 (.a 111), .wrap .u8 (.a 112), .wrap .u8 (.a 113), .wrap .u8 (.a 114), .wrap .u8 (.a 115), .wrap .u8 (.a 116), .wrap .u8 (.a 117), .wrap .u8 (.a 118), .wrap .u8 (.a 119), .wrap .u8 (.a 120), .wrap .u8 (.a 121), .wrap .u8 (.a 122), .wrap .u8 (.a 123), .wrap .u8 (.a 124), .wrap .u8 (.a 125), .wrap .u8 (.a 126), .wrap .u8 (.a 127), .wrap .u8 (.a 128), .wrap .u8 (.a 129), .wrap .u8 (.a 130), .wrap .u8 (.a 131), .wrap .u8 (.a 132), .wrap .u8 (.a 133), .wrap .u8 (.a 134), .wrap .u8 (.a 135), .wrap .u8 (.a 136), .wrap .u8 (.a 137), .wrap .u8 (.a 138), .wrap .u8 (.a 139), .wrap .u8 (.a 140), .wrap .u8 (.a 141), .wrap .u8 (.a 142), .wrap .u8 (.a 143), .wrap .u8 (.a 144), .wrap .u8 (.a 145), .wrap .u8 (.a 146), .wrap .u8 (.a 147), .wrap .u8 (.a 148), .wrap .u8 (.a 149)]

def c50 : List AV := [.sx .u8 (.wrap .u8 (.a 100)), .sx .u8 (.wrap .u8 (.a 101)), .sx .u8 (.wrap .u8 (.a 102)), .sx .u8 (.wrap .u8 (.a 103)), .sx .u8 (.wrap .u8 (.a 104)), .sx .u8 (.wrap .u8 (.a 105)), .sx .u8 (.wrap .u8 (.a 106)), .sx .u8 (.wrap .u8 (.a 107)), .sx .u8 (.wrap .u8 (.a 108)), .sx .u8 (.wrap .u8 (.a 109)), .sx .u8 (.wrap .u8 (.a 110)), .sx .u8 (.wrap .u8 (.a 111)), .sx .u8 (.wrap .u8 (.a 112)), .sx .u8 (.wrap .u8 (.a 113)), .sx .u8 (.wrap .u8 (.a 114)), .sx .u8 (.wrap .u8 (.a 115)), .sx .u8 (.wrap .u8 (.a 116)), .sx .u8 (.wrap .u8 (.a 117)), .sx .u8 (.wrap .u8 (.a 118)), .sx .u8 (.wrap .u8 (.a 119)), .sx .u8 (.wrap .u8 (.a 120)), .sx .u8 (.wrap .u8 (.a 121)), .sx .u8 (.wrap .u8 (.a 122)), .sx .u8 (.wrap .u8 (.a 123)), .sx .u8 (.wrap .u8 (.a 124)), .sx .u8 (.wrap .u8 (.a 125)), .sx .u8 (.wrap .u8 (.a 126)), .sx .u8 (.wrap .u8 (.a 127)), .sx .u8 (.wrap .u8 (.a 128)), .sx .u8 (.wrap .u8 (.a 129)), .sx .u8 (.wrap .u8 (.a 130)), .sx .u8 (.wrap .u8 (.a 131)), .sx .u8 (.wrap .u8 (.a 132)), .sx .u8 (.wrap .u8 (.a 133)), .sx .u8 (.wrap .u8 (.a 134)), .sx .u8 (.wrap .u8 (.a 135)), .sx .u8 (.wrap .u8 (.a 136)), .sx .u8 (.wrap .u8 (.a 137)), .sx .u8 (.wrap .u8 (.a 138)), .sx .u8 (.wrap .u8 (.a 139)), .sx .u8 (.wrap .u8 (.a 140)), .sx .u8 (.wrap .u8 (.a 141)), .sx .u8 (.wrap .u8 (.a 142)), .sx .u8 (.wrap .u8 (.a 143)), .sx .u8 (.wrap .u8 (.a 144)), .sx .u8 (.wrap .u8 (.a 145)), .sx .u8 (.wrap .u8 (.a 146)), .sx .u8 (.wrap .u8 (.a 147)), .sx .u8 (.wrap .u8 (.a 148)), .sx .u8 (.wrap .u8 (.a 149))]

noncomputable def takeX (n : Nat) : List SX → List SX :=
  Nat.rec (motive := fun _ => List SX → List SX) (fun _ => []) (fun _ ih l => List.rec (motive := fun _ => List SX) [] (fun x r _ => x :: ih r) l) n

theorem takeX_eq : ∀ (n : Nat) (l : List SX), takeX n l = l.take n := by
  intro n
  induction n with
  | zero => intro l; rfl
  | succ n ih => intro l; cases l with
    | nil => rfl
    | cons x r => show x :: takeX n r = _; rw [ih r]; rfl

theorem takeL_eq' : ∀ (n : Nat) (l : List AV), takeL n l = l.take n := by
  intro n
  induction n with
  | zero => intro l; rfl
  | succ n ih => intro l; cases l with
    | nil => rfl
    | cons x r => show x :: takeL n r = _; rw [ih r]; rfl

theorem b50_eq : b50 = (List.range 50).map (fun k => SX.wrap .u8 (.a (100 + k))) := rfl

theorem c50_eq : c50 = (List.range 50).map (fun k => AV.sx .u8 (.wrap .u8 (.a (100 + k)))) := rfl

theorem b50_get (j : Nat) (h : j < 50) : b50[j]? = some (.wrap .u8 (.a (100 + j))) := by
  rw [b50_eq, List.getElem?_map, List.getElem?_range h]
  rfl

theorem c50_get (j : Nat) (h : j < 50) : c50[j]? = some (.sx .u8 (.wrap .u8 (.a (100 + j)))) := by
  rw [c50_eq, List.getElem?_map, List.getElem?_range h]
  rfl

abbrev a (k : Nat) : AV := .sx .i64 (.a k)

abbrev ci (n : Nat) : AV := .v (.int .i64 (.ofNat n))

abbrev bv (b : Bool) : AV := .v (.bool b)

noncomputable abbrev outs (n : Nat) : List (Nat × List AV) := [(1, takeL n c50)]

/-- A byte of what is put. -/
abbrev pb (x k : Nat) : SX := .wrap .u8 (.shr (.wrap .u64 (.a x)) (8 * k))

abbrev pbs (s : Nat) : List SX := match s with
  | 1 => [pb 0 0]
  | 2 => [pb 0 0, pb 0 1]
  | 4 => [pb 0 0, pb 0 1, pb 0 2, pb 0 3]
  | 8 => [pb 0 0, pb 0 1, pb 0 2, pb 0 3, pb 0 4, pb 0 5, pb 0 6, pb 0 7]
  | _ => []

abbrev pf (k : Nat) : Fact := .at (.eq (pb 4 k) (.wrap .u8 (.a (100 + k)))) true

abbrev pfs (s : Nat) : List Fact := match s with
  | 1 => [pf 0]
  | 2 => [pf 0, pf 1]
  | 4 => [pf 0, pf 1, pf 2, pf 3]
  | 8 => [pf 0, pf 1, pf 2, pf 3, pf 4, pf 5, pf 6, pf 7]
  | _ => []

/-- What Get tells of the bytes ahead. -/
abbrev res (n s : Nat) : AV := .tup (cond (Nat.blt n s) [ci 0, ci 9] [a 4, ci 0])

noncomputable abbrev stab (n s : Nat) (l : AV) : List (FuncId × List SX × List AV × AV) :=
  [(11, takeX n b50 ++ pbs s, [l, ci s, bv true], .tup [a 2, ci 0]), (11, takeX n b50 ++ pbs s, [l, ci s, bv false], .tup [a 3, ci 0]), (11, takeX n b50, [ci 0, ci s, bv true], res n s)]

abbrev tab (wh s : Nat) (w f : Bool) : List (FuncId × List AV × AV) := [(18, [a 0, ci (8 * s)], bv w), (16, [a 0, ci (8 * s)], bv f), (18, [a 4, ci (8 * s)], yes), (25, [a 1, ci 4], ci wh)]

/-- Which way: too wide; fits and is not below 0; fits and is below 0; fits not. -/
abbrev way (c : Nat) : List Fact := match c with
  | 0 => []
  | 1 => [.ge (.a 0) 0, .at (.eq (.a 2) (.a 0)) true, .at (.eq (.a 3) (.a 0)) true]
  | 2 => [.le (.a 0) (-1), .at (.eq (.a 2) (.a 0)) true]
  | _ => [.ge (.a 0) 0, .at (.eq (.a 3) (.a 0)) true, .at (.eq (.a 2) (.a 0)) false]

abbrev wW (c : Nat) : Bool := match c with | 0 => false | _ => true

abbrev wF (c : Nat) : Bool := match c with | 1 => true | 2 => true | _ => false

abbrev facts (n s c : Nat) : List Fact := way c ++ cond (Nat.blt n s) [] (pfs s)

theorem awakeOK [Syms] : CallerOK Try.prog (known 24 yes []) := known_of_run (ids := []) (fuel := 1000) noOrc_sound mix (by kernel_rfl) (by kernel_rfl)

abbrev Law (n : Nat) (val : Nat → Int) : Prop := LawO Try.prog 4 [a 0, a 1, .os 0 0 n 12 0] (outs n) sl0 val

noncomputable abbrev runL (val : Nat → Int) (F : List Fact) (h : Holds val F) (n wh s c : Nat) : Bool :=
  saysTrue (@runO (symsOf val F h sl0) Try.prog (orElse (known 24 yes []) (orElse (tabO (tab wh s (wW c) (wF c))) (@slTab (symsOf val F h sl0) (stab n s (ci n))))) 1000 4 [a 0, a 1, .os 0 0 n 12 0] (outs n))

theorem leaf {val : Nat → Int} {n wh s c : Nat} (h : Holds val (.ge (.a 12) (.ofNat n) :: facts n s c)) (hpl : (outs n).all plainO = true) (hb : (tab wh s (wW c) (wF c)).all (fun x => bodyOK Try.prog x.1) = true) (hp : (tab wh s (wW c) (wF c)).all (fun x => plain x.2.2 && plains x.2.1) = true)
    (hb' : (stab n s (ci n)).all (fun x => bodyOK Try.prog x.1) = true) (hp' : (stab n s (ci n)).all (fun x => plain x.2.2.2 && plains x.2.2.1) = true) (hg : runL val _ h n wh s c = true) (ht : TabOK Try.prog val sl0 (tab wh s (wW c) (wF c))) (ht' : SlTabOK Try.prog val sl0 (stab n s (ci n))) : Law n val :=
  leafOS (orc := known 24 yes []) h awakeOK mix ⟨trivial, trivial, Nat.zero_lt_one, trivial⟩ hpl hb hp ht hb' hp' ht' hg

/-- The law, of so many bytes, a size, a way. -/
abbrev DL (n wh s c : Nat) : Prop := ∀ val, Holds val (.ge (.a 12) (.ofNat n) :: facts n s c) → TabOK Try.prog val sl0 (tab wh s (wW c) (wF c)) → SlTabOK Try.prog val sl0 (stab n s (ci n)) → Law n val

/-- Of no bytes. -/
abbrev LawE (sla : Nat → Option Addr × Nat) (val : Nat → Int) : Prop := LawO Try.prog 4 [a 0, a 1, .osl 11] [] sla val

abbrev DE (sla : Nat → Option Addr × Nat) (wh s c : Nat) : Prop := ∀ val, Holds val (.is (.a 11) 0 :: facts 0 s c) → TabOK Try.prog val sla (tab wh s (wW c) (wF c)) → SlTabOK Try.prog val sla (stab 0 s (a 11)) → LawE sla val

theorem leafE {sla : Nat → Option Addr × Nat} {val : Nat → Int} {wh s c : Nat} (h : Holds val (.is (.a 11) 0 :: facts 0 s c)) (hb : (tab wh s (wW c) (wF c)).all (fun x => bodyOK Try.prog x.1) = true) (hp : (tab wh s (wW c) (wF c)).all (fun x => plain x.2.2 && plains x.2.1) = true)
    (hb' : (stab 0 s (a 11)).all (fun x => bodyOK Try.prog x.1) = true) (hp' : (stab 0 s (a 11)).all (fun x => plain x.2.2.2 && plains x.2.2.1) = true)
    (hg : saysTrue (@runO (symsOf val _ h sla) Try.prog (orElse (known 24 yes []) (orElse (tabO (tab wh s (wW c) (wF c))) (@slTab (symsOf val _ h sla) (stab 0 s (a 11))))) 1000 4 [a 0, a 1, .osl 11] []) = true)
    (ht : TabOK Try.prog val sla (tab wh s (wW c) (wF c))) (ht' : SlTabOK Try.prog val sla (stab 0 s (a 11))) : LawE sla val :=
  leafOS (orc := known 24 yes []) h awakeOK mix ⟨trivial, trivial, trivial, trivial⟩ (by kernel_rfl) hb hp ht hb' hp' ht' hg

/-- Of too many. -/
theorem longE {sla : Nat → Option Addr × Nat} {val : Nat → Int} (h : Holds val [.ge (.a 11) 51]) : LawE sla val :=
  leafO (orc := known 24 yes []) (fuel := 1000) h awakeOK mix ⟨trivial, trivial, trivial, trivial⟩ (by kernel_rfl) (by kernel_rfl)

theorem e0_0 (sla : Nat → Option Addr × Nat) : DE sla 0 1 0 := fun _ h => leafE h (by kernel_rfl) (by kernel_rfl) (by kernel_rfl) (by kernel_rfl) (by kernel_rfl)
theorem e0_1 (sla : Nat → Option Addr × Nat) : DE sla 0 1 1 := fun _ h => leafE h (by kernel_rfl) (by kernel_rfl) (by kernel_rfl) (by kernel_rfl) (by kernel_rfl)
theorem e0_2 (sla : Nat → Option Addr × Nat) : DE sla 0 1 2 := fun _ h => leafE h (by kernel_rfl) (by kernel_rfl) (by kernel_rfl) (by kernel_rfl) (by kernel_rfl)
theorem e0_3 (sla : Nat → Option Addr × Nat) : DE sla 0 1 3 := fun _ h => leafE h (by kernel_rfl) (by kernel_rfl) (by kernel_rfl) (by kernel_rfl) (by kernel_rfl)
theorem e1_0 (sla : Nat → Option Addr × Nat) : DE sla 1 2 0 := fun _ h => leafE h (by kernel_rfl) (by kernel_rfl) (by kernel_rfl) (by kernel_rfl) (by kernel_rfl)
theorem e1_1 (sla : Nat → Option Addr × Nat) : DE sla 1 2 1 := fun _ h => leafE h (by kernel_rfl) (by kernel_rfl) (by kernel_rfl) (by kernel_rfl) (by kernel_rfl)
theorem e1_2 (sla : Nat → Option Addr × Nat) : DE sla 1 2 2 := fun _ h => leafE h (by kernel_rfl) (by kernel_rfl) (by kernel_rfl) (by kernel_rfl) (by kernel_rfl)
theorem e1_3 (sla : Nat → Option Addr × Nat) : DE sla 1 2 3 := fun _ h => leafE h (by kernel_rfl) (by kernel_rfl) (by kernel_rfl) (by kernel_rfl) (by kernel_rfl)
theorem e2_0 (sla : Nat → Option Addr × Nat) : DE sla 2 4 0 := fun _ h => leafE h (by kernel_rfl) (by kernel_rfl) (by kernel_rfl) (by kernel_rfl) (by kernel_rfl)
theorem e2_1 (sla : Nat → Option Addr × Nat) : DE sla 2 4 1 := fun _ h => leafE h (by kernel_rfl) (by kernel_rfl) (by kernel_rfl) (by kernel_rfl) (by kernel_rfl)
theorem e2_2 (sla : Nat → Option Addr × Nat) : DE sla 2 4 2 := fun _ h => leafE h (by kernel_rfl) (by kernel_rfl) (by kernel_rfl) (by kernel_rfl) (by kernel_rfl)
theorem e2_3 (sla : Nat → Option Addr × Nat) : DE sla 2 4 3 := fun _ h => leafE h (by kernel_rfl) (by kernel_rfl) (by kernel_rfl) (by kernel_rfl) (by kernel_rfl)
theorem e3_0 (sla : Nat → Option Addr × Nat) : DE sla 3 8 0 := fun _ h => leafE h (by kernel_rfl) (by kernel_rfl) (by kernel_rfl) (by kernel_rfl) (by kernel_rfl)
theorem e3_1 (sla : Nat → Option Addr × Nat) : DE sla 3 8 1 := fun _ h => leafE h (by kernel_rfl) (by kernel_rfl) (by kernel_rfl) (by kernel_rfl) (by kernel_rfl)
theorem e3_2 (sla : Nat → Option Addr × Nat) : DE sla 3 8 2 := fun _ h => leafE h (by kernel_rfl) (by kernel_rfl) (by kernel_rfl) (by kernel_rfl) (by kernel_rfl)
theorem e3_3 (sla : Nat → Option Addr × Nat) : DE sla 3 8 3 := fun _ h => leafE h (by kernel_rfl) (by kernel_rfl) (by kernel_rfl) (by kernel_rfl) (by kernel_rfl)

end Go.Proofs.Ytclgmeoofmidfaa.BackL
