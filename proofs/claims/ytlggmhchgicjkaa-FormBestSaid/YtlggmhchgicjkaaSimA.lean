/-
  An interpreter of the model's code with abstract block numbers, run by the kernel over closed data; the operations, each sound.
-/
import Derived.Test.YtlggmhchgicjkaaSimX
import Derived.WalkKit
import Derived.Laws.Small
import Derived.Laws.StructEq
import Derived.Laws.BytesString
import Derived.Deep.AppendSrc
namespace Go.Sim

/-! An abstract interpreter of the model's code, to be run by the kernel over closed data: blocks of memory bear abstract numbers, capacities that append draws are left open.
  This text holds the definitions alone; that they are sound for every tape is proved in the texts behind it. -/

/-- A tree of cells, by the bits of a number. -/
inductive Tr (α : Type) where
  | nil : Tr α
  | nd (l : Tr α) (x : Option α) (r : Tr α) : Tr α

noncomputable def getOdd {α : Type} (gl gr : Nat → Option α) (k : Nat) : Option α :=
  Bool.rec (motive := fun _ => Option α) (gr (Nat.sub (Nat.div k 2) 1)) (gl (Nat.div k 2)) (Nat.beq (Nat.mod k 2) 1)

noncomputable def getNd {α : Type} (x : Option α) (gl gr : Nat → Option α) (k : Nat) : Option α :=
  Bool.rec (motive := fun _ => Option α) (getOdd gl gr k) x (Nat.beq k 0)

noncomputable def Tr.get {α : Type} (t : Tr α) : Nat → Option α :=
  Tr.rec (motive := fun _ => Nat → Option α) (fun _ => none) (fun _ x _ gl gr => getNd x gl gr) t

/-- A number taken to its value first. -/
noncomputable def fN {β : Type} (n : Nat) (κ : Nat → Option β) : Option β :=
  Nat.rec (motive := fun _ => Option β) (κ 0) (fun m _ => κ (Nat.succ m)) n

noncomputable def setL {α β : Type} (x : Option α) (r : Tr α) (κ : Tr α → Option β) (l : Tr α) : Option β := κ (.nd l x r)
noncomputable def setR {α β : Type} (l : Tr α) (x : Option α) (κ : Tr α → Option β) (r : Tr α) : Option β := κ (.nd l x r)

noncomputable def setOdd {α β : Type} (ih : Tr α → Nat → α → (Tr α → Option β) → Option β) (l : Tr α) (x : Option α) (r : Tr α) (k : Nat) (v : α) (κ : Tr α → Option β) : Option β :=
  Bool.rec (motive := fun _ => Option β) (ih r (Nat.sub (Nat.div k 2) 1) v (setR l x κ)) (ih l (Nat.div k 2) v (setL x r κ)) (Nat.beq (Nat.mod k 2) 1)

noncomputable def setNd {α β : Type} (ih : Tr α → Nat → α → (Tr α → Option β) → Option β) (l : Tr α) (x : Option α) (r : Tr α) (k : Nat) (v : α) (κ : Tr α → Option β) : Option β :=
  Bool.rec (motive := fun _ => Option β) (setOdd ih l x r k v κ) (κ (.nd l (some v) r)) (Nat.beq k 0)

noncomputable def setTr {α β : Type} (ih : Tr α → Nat → α → (Tr α → Option β) → Option β) (t : Tr α) : Nat → α → (Tr α → Option β) → Option β :=
  Tr.rec (motive := fun _ => Nat → α → (Tr α → Option β) → Option β) (setNd ih .nil none .nil) (fun l x r _ _ => setNd ih l x r) t

noncomputable def Tr.set {α β : Type} (f : Nat) : Tr α → Nat → α → (Tr α → Option β) → Option β :=
  Nat.rec (motive := fun _ => Tr α → Nat → α → (Tr α → Option β) → Option β) (fun _ _ _ _ => none) (fun _ ih => setTr ih) f

noncomputable def bit (m i : Nat) : Bool := Nat.beq (Nat.mod (Nat.div m (Nat.pow 2 i)) 2) 1

/-- How deep a tree may be. -/
abbrev deep : Nat := 30

/-- What stands for the ints that bear names alone, and what they are known to differ from. -/
class Syms where
  val : Nat → Int
  ne : Nat → Int → Bool
  ok : ∀ k c, ne k c = true → val k ≠ c
  dec : SB → Option Bool
  decOK : ∀ b v, dec b = some v → b.eval val = v
  num : SX → Option Int
  numOK : ∀ x n, num x = some n → x.eval val = n
  sla : Nat → Option Addr × Nat

/-- A value whose blocks bear abstract numbers. 'slu': a slice of a block of the run's own that append made: its capacity is open. 'sym': an int that bears a name alone. 'sx', 'sb': a number, a bool that hangs on such. 'osl': a slice of which the length bears a name, and nothing else is known. 'op', 'os': a pointer, a slice into a block that lay there before: it is read alone ('kc': the name of its capacity; 'd': how much of it was cut off ahead); 'px', 'ox': a pointer to one cell of a slice, by a number that is not known; 'str': a string, by its bytes. 'yl': yield of the loop whose record is a block; 'lp': what such a record holds. 'ps': a pointer to one element of a slice, of s cells, by a number that is not known; 'pick': one of these cells, by such a number. 'row': what a block holds that lay there before, of which the cells bear names one behind the other, n of them; 'ry': a slice of it (from o on, n cells, c being how far it reaches), 'rp': a pointer to one of its cells. 'lsl': a slice of the whole of a block of the run's own, n cells. -/
inductive AV where
  | v (x : Value)
  | ptr (b off : Nat)
  | sl (b off len cap : Nat)
  | slu (b len : Nat)
  | fn (f : Fn) (first capt : List AV)
  | iface (t : TypeId) (x : AV)
  | agg (xs : List AV)
  | tup (xs : List AV)
  | sym (k : Nat)
  | sx (k : IntKind) (e : SX)
  | sb (b : SB)
  | osl (k : Nat)
  | op (b off : Nat)
  | os (b off len kc d : Nat)
  | px (b off len : Nat) (x : SX)
  | ox (b off len : Nat) (x : SX)
  | str (l : List SX)
  | yl (b : Nat)
  | lp (size gl : Nat) (ix : List Nat) (vs : List AV) (ps : List Nat) (assign body : Code)
  | ps (b off s len : Nat) (x : SX)
  | pick (l : List AV) (x : SX)
  | ry (b : Nat) (o n c : SX)
  | rp (b : Nat) (x : SX)
  | row (k : IntKind) (k0 : Nat) (n : SX)
  | lsl (b : Nat) (n : SX)

noncomputable def AV.cells : AV → List AV
  | .agg xs => xs
  | .v (.agg cs) => cs.toList.map .v
  | x => [x]

/-- The value of one cell? -/
noncomputable def AV.one : AV → Bool
  | .agg _ | .tup _ | .v (.agg _) | .v (.tuple _) => false
  | _ => true

/-- A block: how many cells are known, the element's type, is its capacity open, how many cells lie in a piece, the pieces. -/
structure Blk where
  n : Nat
  elem : TypeId
  grown : Bool
  s : Nat
  ch : Tr (List AV)

structure AS where
  nx : Nat
  hp : Tr (Option Blk)

/-- The element's type of a block that lay there before. -/
abbrev roT : Nat := 1000000007

/-- Is it a block of the run's own? -/
noncomputable def isOwn (B : Blk) : Bool := Blk.rec (motive := fun _ => Bool) (fun _ e _ _ _ => !Nat.beq e roT) B

noncomputable def rowCh : Option (List AV) → Option (IntKind × Nat × SX)
  | some [.row k k0 n] => some (k, k0, n)
  | _ => none

noncomputable def rowIn (e s : Nat) (ch : Tr (List AV)) : Option (IntKind × Nat × SX) :=
  Bool.rec (motive := fun _ => Option (IntKind × Nat × SX)) none (rowCh (ch.get 0)) (Nat.beq e roT && Nat.beq s 0)

noncomputable def catL : Option (List AV) → Option (SX × SX × List AV)
  | some (.sx _ N :: .sx _ T :: l) => some (N, T, l)
  | _ => none

noncomputable def catIn (e s : Nat) (ch : Tr (List AV)) : Option (SX × SX × List AV) :=
  Bool.rec (motive := fun _ => Option (SX × SX × List AV)) none (catL (ch.get 0)) (!Nat.beq e roT && Nat.beq s 0)

/-- What is known of a block of the run's own that append made of slices of any length: from where on cells are known, how many cells there are in all, the cells. -/
noncomputable def catOf (B : Blk) : Option (SX × SX × List AV) := Blk.rec (motive := fun _ => Option (SX × SX × List AV)) (fun _ e _ s ch => catIn e s ch) B

/-- The row that a block holds. -/
noncomputable def rowOf (B : Blk) : Option (IntKind × Nat × SX) := Blk.rec (motive := fun _ => Option (IntKind × Nat × SX)) (fun _ e _ s ch => rowIn e s ch) B

noncomputable def blkOf (h : Tr (Option Blk)) (b : Nat) : Option Blk :=
  match h.get b with
  | some (some x) => some x
  | _ => none

noncomputable def fI {β : Type} (n : Int) (κ : Int → Option β) : Option β :=
  match n with
  | .ofNat m => fN m fun m => κ (.ofNat m)
  | .negSucc m => fN m fun m => κ (.negSucc m)

/-- A value taken to its head. -/
noncomputable def forceVal {β : Type} (κ : AV → Option β) (x : Value) : Option β :=
  match x with
  | .int k n => fI n fun n => κ (.v (.int k n))
  | .bool b => Bool.rec (motive := fun _ => Option β) (κ (.v (.bool false))) (κ (.v (.bool true))) b
  | x => κ (.v x)

noncomputable def force {β : Type} (x : AV) (κ : AV → Option β) : Option β :=
  match x with
  | .v x => forceVal κ x
  | .ptr b off => fN b fun b => fN off fun off => κ (.ptr b off)
  | .sl b off len cap => fN b fun b => fN off fun off => fN len fun len => fN cap fun cap => κ (.sl b off len cap)
  | .slu b len => fN b fun b => fN len fun len => κ (.slu b len)
  | .op b off => fN b fun b => fN off fun off => κ (.op b off)
  | .os b off len kc d => fN b fun b => fN off fun off => fN len fun len => fN kc fun kc => fN d fun d => κ (.os b off len kc d)
  | x => κ x

noncomputable def sz (P : Program) (t : TypeId) : Option Nat :=
  match P.info? t with
  | some i => some i.size
  | none => none

noncomputable def zeroOf (P : Program) (t : TypeId) : Option Value :=
  match P.info? t with
  | some i => i.zero
  | none => none

noncomputable def aggT (P : Program) (t : TypeId) : Option Bool :=
  match P.underlying t with
  | some (.struct _) => some true
  | some (.array _ _) => some true
  | some _ => some false
  | none => none

/-- Cells laid over others, from a place on. -/
noncomputable def splice (vs : List AV) (off : Nat) : List AV → List AV :=
  Nat.rec (motive := fun _ => List AV → List AV) (fun cs => vs ++ cs.drop vs.length)
    (fun _ ih cs => List.rec (motive := fun _ => List AV) [] (fun c r _ => c :: ih r) cs) off

noncomputable def dropL (n : Nat) : List AV → List AV :=
  Nat.rec (motive := fun _ => List AV → List AV) (fun l => l) (fun _ ih l => List.rec (motive := fun _ => List AV) [] (fun _ r _ => ih r) l) n

noncomputable def takeL (n : Nat) : List AV → List AV :=
  Nat.rec (motive := fun _ => List AV → List AV) (fun _ => []) (fun _ ih l => List.rec (motive := fun _ => List AV) [] (fun x r _ => x :: ih r) l) n

noncomputable def lenL (l : List AV) : Nat := List.rec (motive := fun _ => Nat) 0 (fun _ _ ih => Nat.succ ih) l

/-- So many pieces, one behind the other. -/
noncomputable def pieces (c : Tr (List AV)) (s : Nat) (k : Nat) : Nat → Option (List AV) :=
  Nat.rec (motive := fun _ => Nat → Option (List AV)) (fun _ => some [])
    (fun _ ih q => Option.rec (motive := fun _ => Option (List AV)) none
      (fun p => Bool.rec (motive := fun _ => Option (List AV)) none
        (Option.rec (motive := fun _ => Option (List AV)) none (fun r => some (p ++ r)) (ih (Nat.succ q))) (Nat.beq (lenL p) s)) (c.get q)) k

/-- The cells from a place on, so many (one at least). -/
noncomputable def readSome (B : Blk) (off n : Nat) : Option (List AV) :=
  Blk.rec (motive := fun _ => Option (List AV)) (fun _ _ _ s ch =>
    Bool.rec (motive := fun _ => Option (List AV))
      (Bool.rec (motive := fun _ => Option (List AV)) none (pieces ch s (Nat.div n s) (Nat.div off s)) (Nat.beq (Nat.mod off s) 0 && Nat.beq (Nat.mod n s) 0 && Nat.ble 1 s))
      (Option.rec (motive := fun _ => Option (List AV)) none
        (fun p => Bool.rec (motive := fun _ => Option (List AV)) none (some (takeL n (dropL (Nat.mod off s) p))) (Nat.beq (lenL p) s)) (ch.get (Nat.div off s)))
      (Nat.ble (Nat.add (Nat.mod off s) n) s)) B

/-- The cells from a place on, so many. -/
noncomputable def readCells (B : Blk) (off n : Nat) : Option (List AV) :=
  Nat.rec (motive := fun _ => Option (List AV)) (some []) (fun m _ => readSome B off (Nat.succ m)) n

/-- Cut into pieces of s cells and laid from piece q on; 'old': only over pieces that are there. -/
noncomputable def layPieces {β : Type} (old : Bool) (s : Nat) (k : Nat) : List AV → Nat → Tr (List AV) → (Tr (List AV) → Option β) → Option β :=
  Nat.rec (motive := fun _ => List AV → Nat → Tr (List AV) → (Tr (List AV) → Option β) → Option β) (fun _ _ c κ => κ c)
    (fun _ ih l q c κ =>
      Bool.rec (motive := fun _ => Option β)
        (Tr.set deep c q (takeL s l) fun c => ih (dropL s l) (Nat.succ q) c κ)
        (Option.rec (motive := fun _ => Option β) none
          (fun p => Bool.rec (motive := fun _ => Option β) none (Tr.set deep c q (takeL s l) fun c => ih (dropL s l) (Nat.succ q) c κ) (Nat.beq (lenL p) s)) (c.get q)) old) k

/-- Cells written over those that are there. -/
noncomputable def writeCells {β : Type} (B : Blk) (off : Nat) (l : List AV) (κ : Blk → Option β) : Option β :=
  Blk.rec (motive := fun _ => Option β) (fun n e g s ch =>
    Bool.rec (motive := fun _ => Option β)
      (Bool.rec (motive := fun _ => Option β) none (layPieces true s (Nat.div (lenL l) s) l (Nat.div off s) ch fun ch => κ ⟨n, e, g, s, ch⟩)
        (Nat.beq (Nat.mod off s) 0 && Nat.beq (Nat.mod (lenL l) s) 0 && Nat.ble 1 s))
      (Option.rec (motive := fun _ => Option β) none
        (fun p => Bool.rec (motive := fun _ => Option β) none (Tr.set deep ch (Nat.div off s) (splice l (Nat.mod off s) p) fun ch => κ ⟨n, e, g, s, ch⟩) (Nat.beq (lenL p) s)) (ch.get (Nat.div off s)))
      (Nat.ble (Nat.add (Nat.mod off s) (lenL l)) s)) B

noncomputable def evsA (ev : Operand → Option AV) (l : List Operand) : Option (List AV) :=
  List.rec (motive := fun _ => Option (List AV)) (some [])
    (fun x _ ih => Option.rec (motive := fun _ => Option (List AV)) none (fun v => Option.rec (motive := fun _ => Option (List AV)) none (fun vs => some (v :: vs)) ih) (ev x)) l

noncomputable def evpA (ev : Operand → Option AV) (l : List (Nat × Operand)) : Option (List (Nat × AV)) :=
  List.rec (motive := fun _ => Option (List (Nat × AV))) (some [])
    (fun x _ ih => Option.rec (motive := fun _ => Option (List (Nat × AV))) none (fun v => Option.rec (motive := fun _ => Option (List (Nat × AV))) none (fun vs => some ((x.1, v) :: vs)) ih) (ev x.2)) l

noncomputable def binA (op : BinOp) : Value → Value → Option Value
  | .int k a, .int k' b =>
    match op with
    | .shl => if b < 0 then none else some (.int k (k.wrap (a * 2 ^ (min b.toNat k.bits))))
    | .shr => if b < 0 then none else some (.int k (a.fdiv (2 ^ (min b.toNat k.bits))))
    | op =>
      if k ≠ k' then none else
      match op with
      | .add => some (.int k (k.wrap (a + b)))
      | .sub => some (.int k (k.wrap (a - b)))
      | .mul => some (.int k (k.wrap (a * b)))
      | .quo => if b = 0 then none else some (.int k (k.wrap (a.tdiv b)))
      | .rem => if b = 0 then none else some (.int k (a.tmod b))
      | .and => some (.int k (k.wrap (BitVec.ofInt k.bits a &&& BitVec.ofInt k.bits b).toNat))
      | .or => some (.int k (k.wrap (BitVec.ofInt k.bits a ||| BitVec.ofInt k.bits b).toNat))
      | .xor => some (.int k (k.wrap (BitVec.ofInt k.bits a ^^^ BitVec.ofInt k.bits b).toNat))
      | .eql => some (.bool (a == b))
      | .neq => some (.bool (a != b))
      | .lss => some (.bool (a < b))
      | .leq => some (.bool (a ≤ b))
      | .gtr => some (.bool (a > b))
      | .geq => some (.bool (a ≥ b))
      | _ => none
  | _, _ => none

noncomputable def unA (op : UnOp) : Value → Option Value
  | .bool b => match op with
    | .not => some (.bool (!b))
    | _ => none
  | .int k n => match op with
    | .neg => some (.int k (k.wrap (0 - n)))
    | _ => none
  | _ => none

/-- Parts laid over cells. -/
noncomputable def fillA (place : Nat → Option (Nat × Nat)) (l : List (Nat × AV)) : List AV → Option (List AV) :=
  List.rec (motive := fun _ => List AV → Option (List AV)) (fun cs => some cs)
    (fun x _ ih cs => match place x.1 with
      | none => none
      | some (off, size) => Bool.rec (motive := fun _ => Option (List AV)) none (ih (splice x.2.cells off cs))
          (Nat.beq x.2.cells.length size && Nat.ble (Nat.add off size) cs.length)) l

noncomputable def placesA (P : Program) : List Field → Option (List (Nat × Nat))
  | [] => some []
  | f :: r => match sz P f.type with
    | some n => match placesA P r with
      | some l => some ((f.offset, n) :: l)
      | none => none
    | none => none

noncomputable def buildA (P : Program) (t : TypeId) (parts : List (Nat × AV)) : Option AV :=
  match zeroOf P t, P.underlying t with
  | some z, some (.struct fields) =>
    match placesA P fields.toList with
    | some pl => match fillA (fun i => pl[i]?) parts (AV.cells (.v z)) with
      | some cs => some (.agg cs)
      | none => none
    | none => none
  | some z, some (.array _ elem) =>
    match sz P elem with
    | some s => match fillA (fun i => some (i * s, s)) parts (AV.cells (.v z)) with
      | some cs => some (.agg cs)
      | none => none
    | none => none
  | _, _ => none

noncomputable def partA (P : Program) (t : TypeId) (cs : List AV) (off : Nat) : Option AV :=
  match aggT P t, sz P t with
  | some true, some n => some (.agg ((cs.drop off).take n))
  | some false, some _ => cs[off]?
  | _, _ => none

noncomputable def loadB (P : Program) (B : Blk) (t : TypeId) (off : Nat) : Option AV :=
  match aggT P t, sz P t with
  | some true, some n => match readCells B off n with
    | some l => some (.agg l)
    | none => none
  | some false, some _ => match readCells B off 1 with
    | some [x] => some x
    | _ => none
  | _, _ => none

/-- Cells that bear names one behind the other. -/
noncomputable def isNamed (k : Nat) (x : AV) : Bool :=
  match x with
  | .sx .i64 (.a j) => Nat.beq j k
  | _ => false

noncomputable def rising (k : Nat) (l : List AV) : Bool :=
  List.rec (motive := fun _ => Nat → Bool) (fun _ => true) (fun x _ ih k => bAnd (isNamed k x) (ih (Nat.succ k))) l k

/-- One of a row of named cells. -/
noncomputable def loadX [Syms] (P : Program) (B : Blk) (t : TypeId) (off len : Nat) (x : SX) : Option AV :=
  match aggT P t, readCells B off len with
  | some false, some (.sx .i64 (.a k) :: r) =>
    match rising k (.sx .i64 (.a k) :: r) with
    | true => match Syms.dec (.le (.c 0) x), Syms.dec (.lt x (.c (Int.ofNat len))) with
      | some true, some true => some (.sx .i64 (.at k x))
      | _, _ => none
    | false => none
  | _, _ => none

/-- Each s-th cell, so many. -/
noncomputable def colL (s : Nat) (len : Nat) : List AV → List AV :=
  Nat.rec (motive := fun _ => List AV → List AV) (fun _ => []) (fun _ ih l => match l with | [] => [] | x :: r => x :: ih (dropL s (x :: r))) len

noncomputable def colsL (s len : Nat) (l : List AV) (x : SX) (n : Nat) : Nat → List AV :=
  Nat.rec (motive := fun _ => Nat → List AV) (fun _ => []) (fun _ ih j => .pick (colL s len (dropL j l)) x :: ih (Nat.succ j)) n

/-- One element of a slice, by a number that is not known. -/
noncomputable def loadS [Syms] (P : Program) (B : Blk) (t : TypeId) (off s len : Nat) (x : SX) : Option AV :=
  match aggT P t, sz P t, readCells B off (Nat.mul len s) with
  | some g, some n, some l =>
    match Nat.beq n s && Nat.ble 1 s && l.all AV.one with
    | true => match Syms.dec (.le (.c 0) x), Syms.dec (.lt x (.c (Int.ofNat len))) with
      | some true, some true => match g with
        | true => some (.agg (colsL s len l x s 0))
        | false => match Nat.beq s 1 with
          | true => some (.pick (colL s len l) x)
          | false => none
      | _, _ => none
    | false => none
  | _, _, _ => none

noncomputable def rowAt (k0 : Nat) (x : SX) : SX :=
  match x with
  | .c (.ofNat m) => .a (Nat.add k0 m)
  | x => .at k0 x

/-- One of a row. -/
noncomputable def loadR [Syms] (P : Program) (B : Blk) (t : TypeId) (x : SX) : Option AV :=
  match aggT P t, rowOf B with
  | some false, some (k, k0, n) =>
    match Syms.dec (.le (.c 0) x), Syms.dec (.lt x n) with
    | some true, some true => some (.sx k (rowAt k0 x))
    | _, _ => none
  | _, _ => none

noncomputable def loadA [Syms] (P : Program) (H : Nat → Option Blk) (t : TypeId) : AV → Option AV
  | .ptr b off =>
    match H b with
    | some B => match isOwn B with
      | true => loadB P B t off
      | false => none
    | none => none
  | .op b off =>
    match H b with
    | some B => match isOwn B with
      | true => none
      | false => loadB P B t off
    | none => none
  | .px b off len x =>
    match H b with
    | some B => match isOwn B with
      | true => loadX P B t off len x
      | false => none
    | none => none
  | .ox b off len x =>
    match H b with
    | some B => match isOwn B with
      | true => none
      | false => loadX P B t off len x
    | none => none
  | .ps b off s len x =>
    match H b with
    | some B => match isOwn B with
      | true => loadS P B t off s len x
      | false => none
    | none => none
  | .rp b x =>
    match H b with
    | some B => loadR P B t x
    | none => none
  | _ => none

noncomputable def intA : AV → Option Int
  | .v (.int _ n) => some n
  | _ => none

/-- A bound of a slice expression, or what stands for it. -/
noncomputable def boundA (d : Nat) : Option AV → Option Nat
  | none => some d
  | some (.v (.int _ n)) => if 0 ≤ n then some n.toNat else none
  | some _ => none

noncomputable def sliceA [Syms] (P : Program) (H : Nat → Option Blk) (t : TypeId) (x : AV) (lo hi : Option AV) : Option AV :=
  match P.underlying t, x with
  | some (.slice e), .sl b off len cap =>
    match boundA 0 lo, boundA len hi, sz P e with
    | some l, some h, some s => if l ≤ h ∧ h ≤ cap ∧ l < cap then some (.sl b (off + l * s) (h - l) (cap - l)) else none
    | _, _, _ => none
  | some (.slice e), .slu b len =>
    match boundA 0 lo, boundA len hi, sz P e with
    | some l, some h, some _ => match H b with
      | some B => if l = 0 ∧ h ≤ len ∧ len * B.s ≤ B.n ∧ B.grown = true ∧ 0 < B.s then some (.slu b h) else none
      | none => none
    | _, _, _ => none
  | some (.slice e), .os b off len kc d =>
    match boundA 0 lo, boundA len hi, sz P e with
    | some l, some h, some s => match Syms.dec (.le (.c (Int.ofNat (len + d))) (.a kc)) with
      | some true => if l ≤ h ∧ h ≤ len ∧ l < len then some (.os b (off + l * s) (h - l) kc (d + l)) else none
      | _ => none
    | _, _, _ => none
  | some (.slice e), .v (.slice none 0 0) =>
    match boundA 0 lo, boundA 0 hi, sz P e with
    | some 0, some 0, some _ => some (.v (.slice none 0 0))
    | _, _, _ => none
  | some (.array n e), .ptr b off =>
    match boundA 0 lo, boundA n hi, sz P e with
    | some l, some h, some s => if l ≤ h ∧ h ≤ n ∧ l < n then some (.sl b (off + l * s) (h - l) (n - l)) else none
    | _, _, _ => none
  | _, _ => none

/-- What reads memory, and only reads it. -/
noncomputable def readsMem : Op → Bool
  | .load .. => true
  | .slice .. => true
  | .convert .. => true
  | _ => false

/-! The operations that leave memory alone. -/

noncomputable def qPick (ev : Operand → Option AV) (c a b : Operand) : Option AV :=
  match ev c with
  | some (.v (.bool true)) => ev a
  | some (.v (.bool false)) => ev b
  | _ => none

noncomputable def qLoad [Syms] (P : Program) (H : Nat → Option Blk) (ev : Operand → Option AV) (t : TypeId) (a : Operand) : Option AV :=
  match ev a with
  | some x => loadA P H t x
  | none => none

/-- An int that bears a name alone, against a number. -/
noncomputable def qSym [Syms] (op : BinOp) (k : Nat) (c : Int) : Option AV :=
  match op, Syms.ne k c with
  | .eql, true => some (.v (.bool false))
  | .neq, true => some (.v (.bool true))
  | _, _ => none

/-- What is known of a bool. -/
noncomputable def bOf [Syms] (b : SB) : AV :=
  match decF [] b with
  | some true => .v (.bool true)
  | some false => .v (.bool false)
  | none => match Syms.dec b with
    | some true => .v (.bool true)
    | some false => .v (.bool false)
    | none => .sb b

/-- What is known of a number. -/
noncomputable def iOf [Syms] (k : IntKind) (e : SX) : AV :=
  match numF [] e with
  | some n => .v (.int k n)
  | none => match Syms.num e with
    | some n => .v (.int k n)
    | none => .sx k e

/-- Numbers of one kind. -/
noncomputable def intsOf (k : IntKind) (l : List AV) : Option (List Int) :=
  List.rec (motive := fun _ => Option (List Int)) (some [])
    (fun x _ ih => match x with
      | .v (.int k' n) => (match kEq k k' with | true => (match ih with | some r => some (n :: r) | none => none) | false => none)
      | _ => none) l

noncomputable def asSX : AV → Option (IntKind × SX)
  | .v (.int k n) => some (k, .c n)
  | .sx k e => some (k, e)
  | .pick (.v (.int k n) :: l) x => match intsOf k (.v (.int k n) :: l) with
    | some ns => some (k, .tab ns x)
    | none => none
  | _ => none

noncomputable def allB1 (b ih : Bool) : AV → Bool
  | .v (.bool c) => bAnd (Bool.rec (motive := fun _ => Bool) (!c) c b) ih
  | _ => false

/-- These bools, all? -/
noncomputable def allB (b : Bool) (l : List AV) : Bool := List.rec (motive := fun _ => Bool) true (fun x _ ih => allB1 b ih x) l

noncomputable def asSB : AV → Option SB
  | .v (.bool true) => some .tt
  | .v (.bool false) => some .ff
  | .sb b => some b
  | .pick (.v (.bool true) :: l) _ => match allB true l with | true => some .tt | false => none
  | .pick (.v (.bool false) :: l) _ => match allB false l with | true => some .ff | false => none
  | _ => none

/-- As the number that it is, if that is known. -/
noncomputable def nrm [Syms] (x : SX) : SX :=
  match Syms.num x with
  | some n => .c n
  | none => x

noncomputable def sbIff (a b : SB) : SB :=
  match sbEq a b with
  | true => .tt
  | false => .or (.and a b) (.and (.not a) (.not b))

noncomputable def sxShift [Syms] (left : Bool) (k : IntKind) (x y : SX) : Option AV :=
  match Syms.num y with
  | some (.ofNat n) => match left with
    | true => some (iOf k (.wrap k (.shl x (min n k.bits))))
    | false => some (iOf k (.shr x (min n k.bits)))
  | _ => none

noncomputable def sxDiv [Syms] (quo : Bool) (k : IntKind) (x y : SX) : Option AV :=
  match Syms.num y with
  | some n => match iEq n 0 with
    | true => none
    | false => match quo with
      | true => some (iOf k (.wrap k (.quo x n)))
      | false => some (iOf k (.rem x n))
  | none => none

noncomputable def sxBin [Syms] (op : BinOp) (k k' : IntKind) (x y : SX) : Option AV :=
  match op with
  | .shl => sxShift true k x y
  | .shr => sxShift false k x y
  | op => match kEq k k' with
    | false => none
    | true => match op with
      | .add => some (iOf k (.wrap k (.add x y)))
      | .sub => some (iOf k (.wrap k (.sub x y)))
      | .mul => some (iOf k (.wrap k (.mul x y)))
      | .quo => sxDiv true k x y
      | .rem => sxDiv false k x y
      | .and => some (iOf k (.and k x y))
      | .or => some (iOf k (.or k x y))
      | .xor => some (iOf k (.xor k x y))
      | .eql => some (bOf (.eq x y))
      | .neq => some (bOf (.not (.eq x y)))
      | .lss => some (bOf (.lt x y))
      | .leq => some (bOf (.le x y))
      | .gtr => some (bOf (.lt y x))
      | .geq => some (bOf (.le y x))
      | _ => none

/-- The cells of a struct or an array. -/
noncomputable def aggOf : AV → Option (List AV)
  | .agg cs => some cs
  | .v (.agg cs) => some (cs.toList.map .v)
  | _ => none

noncomputable def sbAnd (a b : SB) : SB :=
  match a with
  | .tt => b
  | a => match b with
    | .tt => a
    | b => .and a b

/-- Field by field. -/
noncomputable def eqFieldsA (P : Program) (eq : TypeId → AV → AV → Option SB) (xs ys : List AV) : List Field → Option SB
  | [] => some .tt
  | f :: r => match f.name == "_" with
    | true => none
    | false => match partA P f.type xs f.offset, partA P f.type ys f.offset with
      | some a, some b => match eq f.type a b with
        | some s => match eqFieldsA P eq xs ys r with
          | some t => some (sbAnd s t)
          | none => none
        | none => none
      | _, _ => none

noncomputable def bytesEq (a b : ByteArray) : Bool := a.data.toList == b.data.toList

/-- Are two values of one cell the same? -/
noncomputable def leafEq [Syms] (d : TypeDesc) (x y : AV) : Option SB :=
  match d with
  | .int _ => match asSX x, asSX y with
    | some (k, a), some (k', b) => match kEq k k' with
      | true => some (.eq a b)
      | false => none
    | _, _ => none
  | .bool => match asSB x, asSB y with
    | some a, some b => some (sbIff a b)
    | _, _ => none
  | .string => match x, y with
    | .v (.string a), .v (.string b) => match bytesEq a b with
      | true => some .tt
      | false => some .ff
    | _, _ => none
  | .pointer _ => match x, y with
    | .v (.pointer none), .v (.pointer none) => some .tt
    | .v (.pointer none), .ptr _ _ => some .ff
    | .ptr _ _, .v (.pointer none) => some .ff
    | _, _ => none
  | .interface _ => match x, y with
    | .iface _ _, .v .nilIface => some .ff
    | _, _ => none
  | .slice _ => match x, y with
    | .v (.slice none 0 0), .v (.slice none 0 0) => some .tt
    | .sl _ _ _ _, .v (.slice none 0 0) => some .ff
    | .slu _ _, .v (.slice none 0 0) => some .ff
    | .os _ _ _ _ _, .v (.slice none 0 0) => some .ff
    | .osl k, .v (.slice none 0 0) => match (Syms.sla k).1 with
      | some _ => some .ff
      | none => none
    | _, _ => none
  | _ => none

noncomputable def eqStep [Syms] (P : Program) (ih : TypeId → AV → AV → Option SB) (t : TypeId) (x y : AV) : Option SB :=
  match P.underlying t with
  | some (.struct fields) => match P.stoodInHeld t with
    | true => none
    | false => match aggOf x, aggOf y with
      | some xs, some ys => eqFieldsA P ih xs ys fields.toList
      | _, _ => none
  | some d => leafEq d x y
  | none => none

/-- Are two values the same? -/
noncomputable def eqA [Syms] (P : Program) (n : Nat) : TypeId → AV → AV → Option SB :=
  Nat.rec (motive := fun _ => TypeId → AV → AV → Option SB) (fun _ _ _ => none) (fun _ ih => eqStep P ih) n

noncomputable def notNum : AV → Bool
  | .v (.int _ _) => false
  | .v (.float _ _) => false
  | .v (.complex _ _ _) => false
  | .v (.string _) => false
  | .v .nilIface => false
  | .sym _ => false
  | .sx _ _ => false
  | .str _ => false
  | .pick l x => match asSB (.pick l x) with | some _ => true | none => false
  | _ => true

noncomputable def guardOK (P : Program) (t : TypeId) (u : AV) : Bool :=
  match aggOf u with
  | some _ => !P.eqGuardType P.depth t
  | none => true

noncomputable def eqOp [Syms] (P : Program) (op : BinOp) (t : TypeId) (x y : AV) : Option AV :=
  match notNum x with
  | false => none
  | true => match eqA P 20 t x y with
    | none => none
    | some b => match guardOK P t x with
      | false => none
      | true => match op with
        | .eql => some (bOf b)
        | .neq => some (bOf (.not b))
        | _ => none

noncomputable def strOp (op : BinOp) (a b : ByteArray) : Option AV :=
  match op with
  | .eql => some (.v (.bool (bytesEq a b)))
  | .neq => some (.v (.bool (!bytesEq a b)))
  | _ => none

/-- Is it a byte? -/
noncomputable def u8ok [Syms] (x : SX) : Bool :=
  match x with
  | .c n => bAnd (iLe 0 n) (iLe n 255)
  | .wrap k _ => kEq k .u8
  | .and k _ _ => kEq k .u8
  | .or k _ _ => kEq k .u8
  | .xor k _ _ => kEq k .u8
  | x => match Syms.dec (.le (.c 0) x), Syms.dec (.le x (.c 255)) with
    | some true, some true => true
    | _, _ => false

noncomputable def strEq [Syms] : List SX → List SX → Option SB
  | [], [] => some .tt
  | [], _ :: _ => some .ff
  | _ :: _, [] => some .ff
  | x :: r, y :: s => match bAnd (u8ok x) (u8ok y) with
    | true => match strEq r s with
      | some b => some (sbAnd (.eq x y) b)
      | none => none
    | false => none

noncomputable def qBin [Syms] (P : Program) (ev : Operand → Option AV) (op : BinOp) (t : TypeId) (x y : Operand) : Option AV :=
  match ev x, ev y with
  | some (.v (.int k a)), some (.v (.int k' b)) => match binA op (.int k a) (.int k' b) with
    | some r => some (.v r)
    | none => none
  | some (.v (.string a)), some (.v (.string b)) => strOp op a b
  | some (.str l), some (.str r) => match op with
    | .eql => match strEq l r with
      | some b => some (bOf b)
      | none => none
    | .neq => match strEq l r with
      | some b => some (bOf (.not b))
      | none => none
    | _ => none
  | some (.sym k), some (.v (.int .i64 c)) => qSym op k c
  | some (.v (.int .i64 c)), some (.sym k) => qSym op k c
  | some a, some b => match asSX a, asSX b with
    | some (k, u), some (k', v) => sxBin op k k' (nrm u) (nrm v)
    | _, _ => eqOp P op t a b
  | _, _ => none

noncomputable def qUn [Syms] (ev : Operand → Option AV) (op : UnOp) (x : Operand) : Option AV :=
  match ev x with
  | some (.v a) => match unA op a with
    | some r => some (.v r)
    | none => none
  | some (.sb b) => match op with
    | .not => some (bOf (.not b))
    | _ => none
  | some (.sx k e) => match op with
    | .neg => some (iOf k (.wrap k (.sub (.c 0) e)))
    | _ => none
  | _ => none

noncomputable def qConv [Syms] (P : Program) (ev : Operand → Option AV) (src dst : TypeId) (x : Operand) : Option AV :=
  match ev x, P.underlying src, P.underlying dst with
  | some (.v (.int _ n)), some _, some (.int k) => some (.v (.int k (k.wrap n)))
  | some (.sx _ e), some _, some (.int k) => some (iOf k (.wrap k e))
  | _, _, _ => none

/-- Bytes. -/
noncomputable def u8s : List AV → Option (List SX)
  | [] => some []
  | x :: r => match asSX x with
    | some (k, e) => match kEq k .u8 with
      | true => match u8s r with
        | some l => some (e :: l)
        | none => none
      | false => none
    | none => none

noncomputable def upA (m : Nat) : Nat → List SX :=
  Nat.rec (motive := fun _ => Nat → List SX) (fun _ => []) (fun _ ih k => .a k :: ih (Nat.succ k)) m

/-- The first bytes of a row. -/
noncomputable def bytesR [Syms] (H : Nat → Option Blk) (b m : Nat) : Option (List SX) :=
  match H b with
  | some B => match rowOf B with
    | some (k, k0, n) => match kEq k .u8, Syms.dec (.le (.c (Int.ofNat m)) n) with
      | true, some true => some (upA m k0)
      | _, _ => none
    | none => none
  | none => none

noncomputable def bytesB (own : Bool) (H : Nat → Option Blk) (b off len : Nat) : Option (List SX) :=
  match H b with
  | some B => match isOwn B == own with
    | true => match readCells B off len with
      | some l => u8s l
      | none => none
    | false => none
  | none => none

/-- The bytes of a slice. -/
noncomputable def bytesA [Syms] (H : Nat → Option Blk) (v : AV) : Option (List SX) :=
  match v with
  | .v (.slice none 0 0) => some []
  | .sl b off len _ => bytesB true H b off len
  | .slu b len => bytesB true H b 0 len
  | .os b off len _ _ => bytesB false H b off len
  | .ry b (.c (.ofNat 0)) (.c (.ofNat (m + 1))) _ => bytesR H b (m + 1)
  | _ => none

/-- A string of bytes. -/
noncomputable def qStr [Syms] (P : Program) (H : Nat → Option Blk) (ev : Operand → Option AV) (src dst : TypeId) (x : Operand) : Option AV :=
  match P.underlying src, P.underlying dst with
  | some (.slice e), some .string => match P.underlying e, sz P e, ev x with
    | some (.int .u8), some 1, some v => match bytesA H v with
      | some l => some (.str l)
      | none => none
    | _, _, _ => none
  | _, _ => none

noncomputable def qConvH [Syms] (P : Program) (H : Nat → Option Blk) (ev : Operand → Option AV) (src dst : TypeId) (x : Operand) : Option AV :=
  match qConv P ev src dst x with
  | some v => some v
  | none => qStr P H ev src dst x

/-- An index. -/
noncomputable def evI [Syms] (ev : Operand → Option AV) (x : Operand) : Option AV :=
  match ev x with
  | some (.sx k e) => match Syms.num e with
    | some n => some (.v (.int k n))
    | none => none
  | r => r

noncomputable def qBuild (P : Program) (ev : Operand → Option AV) (t : TypeId) (parts : Array (Nat × Operand)) : Option AV :=
  match evpA ev parts.toList with
  | some ps => buildA P t ps
  | none => none

noncomputable def qIface (P : Program) (ev : Operand → Option AV) (t : TypeId) (x : Operand) : Option AV :=
  match ev x, P.underlying t with
  | some _, some (.interface _) => none
  | some a, some _ => some (.iface t a)
  | _, _ => none

noncomputable def qFunc (ev : Operand → Option AV) (f : Fn) (first capt : Array Operand) : Option AV :=
  match evsA ev first.toList, evsA ev capt.toList with
  | some a, some b => some (.fn f a b)
  | _, _ => none

noncomputable def boundX (d : SX) : Option AV → Option SX
  | none => some d
  | some v => match asSX v with
    | some (_, e) => some e
    | none => none

noncomputable def lessX (h l : SX) : SX :=
  match l with
  | .c (.ofNat 0) => h
  | l => .sub h l

/-- A part of a row. -/
noncomputable def sliceR [Syms] (P : Program) (t : TypeId) (x : AV) (lo hi : Option AV) : Option AV :=
  match P.underlying t, x with
  | some (.slice e), .ry b (.c (.ofNat 0)) n c =>
    match boundX (.c 0) lo, boundX n hi, sz P e with
    | some l, some h, some 1 =>
      match Syms.dec (.le (.c 0) l), Syms.dec (.lt l h), Syms.dec (.le h c), Syms.dec (.lt (.c 0) n) with
      | some true, some true, some true, some true => some (.ry b (nrm l) (nrm (lessX h l)) c)
      | _, _, _, _ => match l, h, c with
        | .c (.ofNat 0), .c (.ofNat 0), .a kc => match Syms.dec (.lt (.c 0) n), Syms.dec (.le (.c 0) c) with
          | some true, some true => some (.os b 0 0 kc 0)
          | _, _ => none
        | _, _, _ => none
    | _, _, _ => none
  | _, _ => none

noncomputable def qSliceR [Syms] (P : Program) (ev : Operand → Option AV) (t : TypeId) (x : Operand) (lo hi : Option Operand) : Option AV :=
  match ev x with
  | some a =>
    match lo, hi with
    | none, none => sliceR P t a none none
    | some l, none => match ev l with | some l => sliceR P t a (some l) none | none => none
    | none, some h => match ev h with | some h => sliceR P t a none (some h) | none => none
    | some l, some h => match ev l, ev h with | some l, some h => sliceR P t a (some l) (some h) | _, _ => none
  | none => none

noncomputable def qSliceO [Syms] (P : Program) (H : Nat → Option Blk) (ev : Operand → Option AV) (t : TypeId) (x : Operand) (lo hi : Option Operand) : Option AV :=
  match ev x with
  | some a =>
    match lo, hi with
    | none, none => sliceA P H t a none none
    | some l, none => match evI ev l with | some l => sliceA P H t a (some l) none | none => none
    | none, some h => match evI ev h with | some h => sliceA P H t a none (some h) | none => none
    | some l, some h => match evI ev l, evI ev h with | some l, some h => sliceA P H t a (some l) (some h) | _, _ => none
  | none => none

/-- The first cells of a slice of the run's own, by a number that is not known. -/
noncomputable def sliceL [Syms] (P : Program) (H : Nat → Option Blk) (t : TypeId) (x h : AV) : Option AV :=
  match P.underlying t, x with
  | some (.slice e), .slu b len => match boundX (.c 0) (some h), sz P e, H b with
    | some h, some 1, some B =>
      if len ≤ B.n ∧ B.grown = true ∧ B.s = 1 then
        match Syms.dec (.le (.c 0) h), Syms.dec (.le h (.c (Int.ofNat len))) with
        | some true, some true => some (.lsl b (nrm h))
        | _, _ => none
      else none
    | _, _, _ => none
  | _, _ => none

noncomputable def qSliceL [Syms] (P : Program) (H : Nat → Option Blk) (ev : Operand → Option AV) (t : TypeId) (x : Operand) (lo hi : Option Operand) : Option AV :=
  match ev x with
  | some a =>
    match lo, hi with
    | none, some h => match evI ev h with
      | some _ => none
      | none => match ev h with | some h => sliceL P H t a h | none => none
    | _, _ => none
  | none => none

noncomputable def qSlice [Syms] (P : Program) (H : Nat → Option Blk) (ev : Operand → Option AV) (t : TypeId) (x : Operand) (lo hi : Option Operand) : Option AV :=
  match qSliceR P ev t x lo hi with
  | some v => some v
  | none => match qSliceO P H ev t x lo hi with
    | some v => some v
    | none => qSliceL P H ev t x lo hi

noncomputable def qFieldAddr (P : Program) (ev : Operand → Option AV) (s : TypeId) (x : Operand) (f : Nat) : Option AV :=
  match ev x, P.underlying s with
  | some (.ptr b off), some (.struct fields) =>
    match fields.toList[f]? with
    | some fd => match sz P fd.type with
      | some (_ + 1) => some (.ptr b (Nat.add off fd.offset))
      | _ => none
    | none => none
  | some (.op b off), some (.struct fields) =>
    match fields.toList[f]? with
    | some fd => match sz P fd.type with
      | some (_ + 1) => some (.op b (Nat.add off fd.offset))
      | _ => none
    | none => none
  | some (.px b off len e), some (.struct fields) =>
    match fields.toList[f]? with
    | some fd => match sz P fd.type with
      | some (_ + 1) => some (.ps b (Nat.add off fd.offset) 1 len e)
      | _ => none
    | none => none
  | some (.ps b off s len e), some (.struct fields) =>
    match fields.toList[f]? with
    | some fd => match sz P fd.type with
      | some (_ + 1) => some (.ps b (Nat.add off fd.offset) s len e)
      | _ => none
    | none => none
  | _, _ => none

noncomputable def qField (P : Program) (ev : Operand → Option AV) (t : TypeId) (x : Operand) (f : Nat) : Option AV :=
  match ev x, P.underlying t with
  | some (.agg cs), some (.struct fields) =>
    match fields.toList[f]? with
    | some fd => partA P fd.type cs fd.offset
    | none => none
  | _, _ => none

noncomputable def qIndexOx [Syms] (P : Program) (ev : Operand → Option AV) (t : TypeId) (x ix : Operand) : Option AV :=
  match ev x, ev ix, P.underlying t with
  | some (.os b off len _ _), some (.sx _ e), some (.slice el) =>
    match sz P el, Syms.num e, Syms.dec (.le (.c 0) e), Syms.dec (.lt e (.c (Int.ofNat len))) with
    | some 1, none, some true, some true => some (.ox b off len e)
    | _, _, _, _ => none
  | some (.sl b off len _), some (.sx _ e), some (.slice el) =>
    match sz P el, Syms.num e, Syms.dec (.le (.c 0) e), Syms.dec (.lt e (.c (Int.ofNat len))) with
    | some 1, none, some true, some true => some (.px b off len e)
    | _, _, _, _ => none
  | _, _, _ => none

noncomputable def qIndexIn [Syms] (P : Program) (ev : Operand → Option AV) (t : TypeId) (x ix : Operand) : Option AV :=
  match ev x, evI ev ix, P.underlying t with
  | some (.sl b off len _), some (.v (.int _ i)), some (.slice e) =>
    match sz P e with
    | some s => if 0 ≤ i ∧ i < len then some (.ptr b (Nat.add off (Nat.mul i.toNat s))) else none
    | none => none
  | some (.slu b len), some (.v (.int _ i)), some (.slice e) =>
    match sz P e with
    | some s => if 0 ≤ i ∧ i < len then some (.ptr b (Nat.mul i.toNat s)) else none
    | none => none
  | some (.os b off len _ _), some (.v (.int _ i)), some (.slice e) =>
    match sz P e with
    | some s => if 0 ≤ i ∧ i < len then some (.op b (Nat.add off (Nat.mul i.toNat s))) else none
    | none => none
  | some (.ptr b off), some (.v (.int _ i)), some (.array len e) =>
    match sz P e with
    | some s => if 0 ≤ i ∧ i < len then some (.ptr b (Nat.add off (Nat.mul i.toNat s))) else none
    | none => none
  | _, _, _ => none

noncomputable def qIndexPs [Syms] (P : Program) (ev : Operand → Option AV) (t : TypeId) (x ix : Operand) : Option AV :=
  match ev x, ev ix, P.underlying t with
  | some (.slu b len), some (.sx _ e), some (.slice el) =>
    match sz P el, Syms.dec (.le (.c 0) e), Syms.dec (.lt e (.c (Int.ofNat len))) with
    | some s, some true, some true => some (.ps b 0 s len e)
    | _, _, _ => none
  | some (.sl b off len _), some (.sx _ e), some (.slice el) =>
    match sz P el, Syms.dec (.le (.c 0) e), Syms.dec (.lt e (.c (Int.ofNat len))) with
    | some s, some true, some true => some (.ps b off s len e)
    | _, _, _ => none
  | _, _, _ => none

noncomputable def addO (o e : SX) : SX :=
  match o with
  | .c (.ofNat 0) => e
  | o => .add o e

/-- Does a part of a row lie where it says? -/
noncomputable def lies [Syms] (o c : SX) : Bool :=
  match o with
  | .c (.ofNat 0) => true
  | o => match Syms.dec (.le (.c 0) o), Syms.dec (.lt o c) with
    | some true, some true => true
    | _, _ => false

noncomputable def qIndexR [Syms] (P : Program) (ev : Operand → Option AV) (t : TypeId) (x ix : Operand) : Option AV :=
  match ev x, ev ix, P.underlying t with
  | some (.ry b o n c), some i, some (.slice el) =>
    match asSX i, sz P el with
    | some (_, e), some 1 =>
      match lies o c, Syms.dec (.le (.c 0) (nrm e)), Syms.dec (.lt (nrm e) n) with
      | true, some true, some true => some (.rp b (addO o (nrm e)))
      | _, _, _ => none
    | _, _ => none
  | _, _, _ => none

noncomputable def qIndexAddr [Syms] (P : Program) (ev : Operand → Option AV) (t : TypeId) (x ix : Operand) : Option AV :=
  match qIndexOx P ev t x ix with
  | some v => some v
  | none => match qIndexIn P ev t x ix with
    | some v => some v
    | none => match qIndexPs P ev t x ix with
      | some v => some v
      | none => qIndexR P ev t x ix

noncomputable def qIndex [Syms] (P : Program) (ev : Operand → Option AV) (t : TypeId) (x ix : Operand) : Option AV :=
  match ev x, evI ev ix, P.underlying t with
  | some (.agg cs), some (.v (.int _ i)), some (.array len e) =>
    match sz P e with
    | some s => if 0 ≤ i ∧ i < len then partA P e cs (i.toNat * s) else none
    | none => none
  | some (.v (.string s)), some (.v (.int _ i)), some .string =>
    if 0 ≤ i then match s.data.toList[i.toNat]? with
      | some b => some (.v (.int .u8 b.toNat))
      | none => none
    else none
  | _, _, _ => none

noncomputable def qExtract (ev : Operand → Option AV) (x : Operand) (i : Nat) : Option AV :=
  match ev x with
  | some (.tup xs) => xs[i]?
  | _ => none

noncomputable def qNil (ev : Operand → Option AV) (x : Operand) : Option AV :=
  match ev x with
  | some (.ptr b off) => some (.ptr b off)
  | some (.fn (.func f) a c) => some (.fn (.func f) a c)
  | some (.v (.func (.func f) a c)) => some (.v (.func (.func f) a c))
  | _ => none

noncomputable def qLen [Syms] (P : Program) (ev : Operand → Option AV) : List Operand → List TypeId → Option AV
  | [x], [t] =>
    match ev x, P.underlying t with
    | some (.sl _ _ len _), some (.slice _) => some (.v (.int .i64 len))
    | some (.slu _ len), some (.slice _) => some (.v (.int .i64 len))
    | some (.os _ _ len _ _), some (.slice _) => some (.v (.int .i64 len))
    | some (.v (.slice none 0 0)), some (.slice _) => some (.v (.int .i64 0))
    | some (.v (.string s)), some .string => some (.v (.int .i64 s.size))
    | some (.osl k), some (.slice _) => match Syms.dec (.le (.c 0) (.a k)) with
      | some true => some (.sx .i64 (.a k))
      | _ => none
    | some (.ry _ _ n _), some (.slice _) => match Syms.dec (.le (.c 0) n) with
      | some true => some (iOf .i64 n)
      | _ => none
    | some (.lsl _ n), some (.slice _) => match Syms.dec (.le (.c 0) n) with
      | some true => some (iOf .i64 n)
      | _ => none
    | some _, some (.array n _) => some (.v (.int .i64 n))
    | _, _ => none
  | _, _ => none

noncomputable def qCap (P : Program) (ev : Operand → Option AV) : List Operand → List TypeId → Option AV
  | [x], [t] =>
    match ev x, P.underlying t with
    | some (.sl _ _ _ cap), some (.slice _) => some (.v (.int .i64 cap))
    | some (.v (.slice none 0 0)), some (.slice _) => some (.v (.int .i64 0))
    | _, _ => none
  | _, _ => none

noncomputable def qMin [Syms] (ev : Operand → Option AV) : List Operand → Option AV
  | [x, y] =>
    match ev x, ev y with
    | some u, some v => match asSX u, asSX v with
      | some (k, a), some (k', b) => match kEq k k' with
        | true => match bOf (.lt b a) with
          | .v (.bool true) => some (.sx k b)
          | .v (.bool false) => some (.sx k a)
          | _ => none
        | false => none
      | _, _ => none
    | _, _ => none
  | _ => none

noncomputable def qCall [Syms] (P : Program) (ev : Operand → Option AV) (c : Call) : Option AV :=
  match c.callee with
  | .builtin .len => qLen P ev c.args.toList c.argTypes.toList
  | .builtin .cap => qCap P ev c.args.toList c.argTypes.toList
  | .builtin .min => match qMin ev c.args.toList with
    | some (.sx k e) => some (iOf k e)
    | _ => none
  | _ => none

noncomputable def aq [Syms] (P : Program) (H : Nat → Option Blk) (ev : Operand → Option AV) (o : Op) : Option AV :=
  match o with
  | .move x => ev x
  | .assign x => ev x
  | .pick c a b => qPick ev c a b
  | .load t a => qLoad P H ev t a
  | .binOp op t x y _ => qBin P ev op t x y
  | .unOp op _ x => qUn ev op x
  | .convert src dst x => qConvH P H ev src dst x
  | .build t parts => qBuild P ev t parts
  | .makeInterface t x => qIface P ev t x
  | .makeFunc f first capt => qFunc ev f first capt
  | .slice t x lo hi none => qSlice P H ev t x lo hi
  | .fieldAddr s x f => qFieldAddr P ev s x f
  | .field t x f => qField P ev t x f
  | .indexAddr t x ix => qIndexAddr P ev t x ix
  | .index t x ix => qIndex P ev t x ix
  | .extract x i => qExtract ev x i
  | .nilCheck x => qNil ev x
  | .call c => qCall P ev c
  | _ => none

/-! The operations that make one block: its cells, its type, the value that it gives of the block's number. -/

noncomputable def lAlloc (P : Program) (e : TypeId) : Option (List AV × TypeId × Nat × (Nat → AV)) :=
  match zeroOf P e with
  | some z => some (AV.cells (.v z), e, lenL (AV.cells (.v z)), fun b => .ptr b 0)
  | none => none

noncomputable def lBox (ev : Operand → Option AV) (e : TypeId) (x : Operand) : Option (List AV × TypeId × Nat × (Nat → AV)) :=
  match ev x with
  | some v => some (v.cells, e, lenL v.cells, fun b => .ptr b 0)
  | none => none

noncomputable def lBuildSlice (P : Program) (ev : Operand → Option AV) (t : TypeId) (len : Nat) (parts : Array (Nat × Operand)) : Option (List AV × TypeId × Nat × (Nat → AV)) :=
  match evpA ev parts.toList, P.underlying t with
  | some ps, some (.slice e) =>
    match sz P e, zeroOf P e with
    | some s, some z =>
      if 0 < s ∧ len * s ≤ 16777216 ∧ (AV.cells (.v z)).length = s then
        match fillA (fun i => some (i * s, s)) ps (List.replicate len (AV.cells (.v z))).flatten with
        | some cs => some (cs, e, s, fun b => .sl b 0 len len)
        | none => none
      else none
    | _, _ => none
  | _, _ => none

noncomputable def lMakeSlice (P : Program) (ev : Operand → Option AV) (t : TypeId) (l c : Operand) : Option (List AV × TypeId × Nat × (Nat → AV)) :=
  match ev l, ev c, P.underlying t with
  | some (.v (.int .i64 len)), some (.v (.int .i64 cap)), some (.slice e) =>
    match zeroOf P e, P.info? e with
    | some z, some i =>
      if 0 < i.size ∧ 0 ≤ len ∧ len ≤ cap ∧ cap ≤ 65536 ∧ i.bytes ≤ 65536 ∧ (AV.cells (.v z)).length = i.size then
        some ((List.replicate cap.toNat (AV.cells (.v z))).flatten, e, i.size, fun b => .sl b 0 len.toNat cap.toNat)
      else none
    | _, _ => none
  | _, _, _ => none

noncomputable def al (P : Program) (ev : Operand → Option AV) (o : Op) : Option (List AV × TypeId × Nat × (Nat → AV)) :=
  match o with
  | .alloc e => lAlloc P e
  | .box e x => lBox ev e x
  | .buildSlice t len parts => lBuildSlice P ev t len parts
  | .makeSlice t l c => lMakeSlice P ev t l c
  | _ => none

/-- Is it one of these? -/
noncomputable def isAl [Syms] : Op → Bool
  | .alloc _ | .box .. | .buildSlice .. | .makeSlice .. => true
  | _ => false

/-- Does it turn memory, or run code? -/
noncomputable def effCall (c : Call) : Bool :=
  match c.callee with
  | .builtin .append => true
  | .builtin .copy => true
  | .builtin _ => false
  | _ => true

noncomputable def isEff : Op → Bool
  | .store .. => true
  | .call c => effCall c
  | _ => false

/-- A new block's pieces: 's' cells a piece. -/
noncomputable def mkBlk {β : Type} (cs : List AV) (e : TypeId) (grown : Bool) (s : Nat) (κ : Blk → Option β) : Option β :=
  fN (lenL cs) fun n => fN s fun s =>
    Bool.rec (motive := fun _ => Option β) none (layPieces false s (Nat.div n s) cs 0 .nil fun ch => κ ⟨n, e, grown, s, ch⟩) (Nat.ble 1 s && Nat.beq (Nat.mod n s) 0 && !Nat.beq e roT)

noncomputable def newBlk {β : Type} (S : AS) (cs : List AV) (e : TypeId) (grown : Bool) (s : Nat) (κ : Nat → AS → Option β) : Option β :=
  mkBlk cs e grown s fun B => fN S.nx fun b => Tr.set deep S.hp b (some B) fun h => κ b ⟨Nat.succ b, h⟩

noncomputable def storeA {β : Type} (P : Program) (S : AS) (t : TypeId) (a x : AV) (κ : AS → Option β) : Option β :=
  match a with
  | .ptr b off =>
    match blkOf S.hp b, sz P t with
    | some B, some n =>
      match Nat.beq (lenL x.cells) n && x.cells.all AV.one && Nat.ble 1 n && isOwn B with
      | true => writeCells B off x.cells fun B => Tr.set deep S.hp b (some B) fun h => fN S.nx fun nx => κ ⟨nx, h⟩
      | false => none
    | _, _ => none
  | _ => none

/-- The cells of a slice: what append copies. -/
noncomputable def newsA [Syms] (S : AS) (s : Nat) : AV → Option (Nat × List AV)
  | .v (.slice none 0 0) => some (0, [])
  | .sl b off len _ => match blkOf S.hp b with
    | some B => match isOwn B with
      | true => match readCells B off (Nat.mul len s) with
        | some l => some (len, l)
        | none => none
      | false => none
    | none => none
  | .slu b len => match blkOf S.hp b with
    | some B => match isOwn B with
      | true => match readCells B 0 (Nat.mul len s) with
        | some l => some (len, l)
        | none => none
      | false => none
    | none => none
  | .os b off len _ _ => match blkOf S.hp b with
    | some B => match isOwn B with
      | true => none
      | false => match readCells B off (Nat.mul len s) with
        | some l => some (len, l)
        | none => none
    | none => none
  | .osl k => match Syms.num (.a k) with
    | some (.ofNat 0) => some (0, [])
    | _ => none
  | _ => none

noncomputable def appendA [Syms] {β : Type} (P : Program) (S : AS) (t : TypeId) (s x : AV) (κ : AV → AS → Option β) : Option β :=
  match P.underlying t with
  | some (.slice e) =>
    match P.info? e, zeroOf P e with
    | some i, some z =>
      if 0 < i.size ∧ (AV.cells (.v z)).length = i.size ∧ i.bytes ≤ 65536 ∧ e ≠ roT then
        match newsA S i.size x with
        | some (m, news) =>
          if m = 0 then
            match s with
            | .v (.slice none 0 0) => κ s S
            | .slu b n =>
              match blkOf S.hp b with
              | some B => if n * i.size ≤ B.n ∧ B.elem = e ∧ B.grown = true ∧ B.s = i.size then κ s S else none
              | none => none
            | .sl _ _ n cap => if n ≤ cap then κ s S else none
            | .lsl b n =>
              match blkOf S.hp b with
              | some B => match catOf B with
                | some y => if sxEq n y.2.1 = true then κ s S else none
                | none => none
              | none => none
            | _ => none
          else if m ≤ 65536 ∧ news.all AV.one = true then
            match s with
            | .v (.slice none 0 0) => newBlk S news e true i.size fun b S => κ (.slu b m) S
            | .slu b n =>
              match blkOf S.hp b with
              | some B =>
                if B.n = n * i.size ∧ B.elem = e ∧ B.grown = true ∧ B.s = i.size ∧ n ≤ 65536 ∧ lenL news = m * i.size then
                  layPieces false i.size m news n B.ch fun ch => fN (Nat.add B.n (lenL news)) fun k => fN S.nx fun b' =>
                    Tr.set deep S.hp b none fun h => Tr.set deep h b' (some ⟨k, e, true, i.size, ch⟩) fun h =>
                      κ (.slu b' (n + m)) ⟨Nat.succ b', h⟩
                else none
              | none => none
            | .sl b off n cap =>
              match blkOf S.hp b with
              | some B =>
                if n + m ≤ cap then
                  if off = 0 ∧ B.elem = e ∧ n ≤ 65536 then
                    writeCells B (Nat.mul n i.size) news fun B => Tr.set deep S.hp b (some B) fun h => fN S.nx fun nx => κ (.sl b off (n + m) cap) ⟨nx, h⟩
                  else none
                else if n ≤ 65536 ∧ isOwn B = true then
                  match readCells B off (Nat.mul n i.size) with
                  | some old => newBlk S (old ++ news) e true i.size fun b S => κ (.slu b (n + m)) S
                  | none => none
                else none
              | none => none
            | _ => none
          else none
        | none => none
      else none
    | _, _ => none
  | _ => none

noncomputable def isByte : AV → Bool
  | .sx k _ => kEq k .u8
  | .v (.int k _) => kEq k .u8
  | _ => false

/-- What is appended: how many cells, and those that are known: all, or none. -/
noncomputable def srcL [Syms] (S : AS) (x : AV) : Option (SX × List AV) :=
  match x with
  | .ry b (.c (.ofNat 0)) n _ => match blkOf S.hp b with
    | some B => match rowOf B with
      | some (k, _, m) => match sxEq n m && kEq k .u8, Syms.dec (.le (.c 1) n), Syms.dec (.le n (.c 65536)) with
        | true, some true, some true => some (n, [])
        | _, _, _ => none
      | none => none
    | none => none
  | x => match newsA S 1 x with
    | some (m, l) => match Nat.ble 1 m && Nat.ble m 65536 && l.all isByte with
      | true => some (.c (Int.ofNat m), l)
      | false => none
    | none => none

/-- What is appended to: which block (none: nothing as yet), from where on cells are known, how many there are in all, the cells. -/
noncomputable def dstL [Syms] (S : AS) (e : TypeId) (s : AV) : Option (Option Nat × SX × SX × List AV) :=
  match s with
  | .sl _ _ 0 0 => some (none, .c 0, .c 0, [])
  | .lsl b n => match blkOf S.hp b with
    | some B => match catOf B with
      | some y => match sxEq n y.2.1 && Nat.beq B.elem e, Syms.dec (.le n (.c 65536)) with
        | true, some true => some (some b, y.1, n, y.2.2)
        | _, _ => none
      | none => none
    | none => none
  | .slu b n => match blkOf S.hp b with
    | some B => match B.grown && Nat.beq B.elem e && Nat.beq B.s 1 && Nat.ble n 65536 && Nat.ble n B.n && isOwn B with
      | true => match readCells B 0 n with
        | some l => match l.all isByte with
          | true => some (some b, .c 0, .c (Int.ofNat n), l)
          | false => none
        | none => none
      | false => none
    | none => none
  | _ => none

noncomputable def dropB (hp : Tr (Option Blk)) (b : Option Nat) (κ : Tr (Option Blk) → Option (AV × AS)) : Option (AV × AS) :=
  match b with
  | some b => Tr.set deep hp b none κ
  | none => κ hp

noncomputable def catFrom (N T : SX) (m : List AV) : SX := match m with | [] => N | _ => T

noncomputable def catCells (l m : List AV) : List AV := match m with | [] => l | m => m

/-- Slices of any length are appended. -/
noncomputable def longA [Syms] (P : Program) (S : AS) (t : TypeId) (s x : AV) : Option (AV × AS) :=
  match P.underlying t with
  | some (.slice e) => match P.info? e, zeroOf P e with
    | some i, some z =>
      if i.size = 1 ∧ (AV.cells (.v z)).length = i.size ∧ i.bytes ≤ 65536 ∧ e ≠ roT then
        match dstL S e s with
        | some (ob, N, T, l) => match srcL S x with
          | some (k, m) => dropB S.hp ob fun h => fN S.nx fun b =>
            Tr.set deep h b (some ⟨0, e, false, 0, .nd .nil (some (.sx .i64 (catFrom N T m) :: .sx .i64 (nrm (addO T k)) :: catCells l m)) .nil⟩) fun h => some (.lsl b (nrm (addO T k)), ⟨Nat.succ b, h⟩)
          | none => none
        | none => none
      else none
    | _, _ => none
  | _ => none

noncomputable def appendX [Syms] (P : Program) (S : AS) (t : TypeId) (s x : AV) : Option (AV × AS) :=
  match appendA P S t s x fun v S => some (v, S) with
  | some r => some r
  | none => longA P S t s x

/-- Which function a call enters, and with what. -/
noncomputable def targetA (P : Program) (ev : Operand → Option AV) (c : Call) : Option (FuncId × List AV) :=
  match c.callee, evsA ev c.args.toList with
  | .value f, some args =>
    match ev f with
    | some (.v (.func (.func g) a c)) => some (g, a.toList.map .v ++ args ++ c.toList.map .v)
    | some (.fn (.func g) first capt) => some (g, first ++ args ++ capt)
    | _ => none
  | .invoke r name, some args =>
    match ev r with
    | some (.iface t v) =>
      match P.info? t with
      | some i => match i.methods.find? (fun m => m.name == name) with
        | some m => match m.path.toList, m.func, P.underlying t with
          | [], some (_, _), some (.pointer _) => none
          | [], some (g, false), some _ => some (g, v :: args)
          | _, _, _ => none
        | none => none
      | none => none
    | _ => none
  | _, _ => none

noncomputable def fnOf (P : Program) (f : FuncId) : Option Func :=
  match P.funcs[f]? with
  | some fn => if fn.name == "runtime.NumGoroutine" then none else some fn
  | none => none

inductive Ex where
  | normal | exit (id : Nat) | ret

/-- A frame: how many slots, how many marks of loops over functions; which of them are kept beyond a region; what those hold; what the others hold, within a region. -/
structure Fr where
  size : Nat × Nat
  gl : Nat
  t : Tr AV
  loc : List (Nat × AV)

noncomputable def locEq (x : Nat × AV) (d : Nat) (ih : Option AV) : Option AV := Bool.rec (motive := fun _ => Option AV) ih (some x.2) (Nat.beq x.1 d)

noncomputable def locGet (l : List (Nat × AV)) (d : Nat) : Option AV :=
  List.rec (motive := fun _ => Option AV) none (fun x _ ih => locEq x d ih) l

noncomputable def Fr.get (fr : Fr) (d : Nat) : Option AV :=
  Fr.rec (motive := fun _ => Option AV) (fun _ gl t loc => Bool.rec (motive := fun _ => Option AV) (locGet loc d) (t.get d) (bit gl d)) fr

noncomputable def putGl {β : Type} (size : Nat × Nat) (gl : Nat) (t : Tr AV) (loc : List (Nat × AV)) (d : Nat) (κ : Fr → Option β) (x : AV) : Option β :=
  Bool.rec (motive := fun _ => Option β) (κ ⟨size, gl, t, (d, x) :: loc⟩) (Tr.set deep t d x fun t => κ ⟨size, gl, t, loc⟩) (bit gl d)

noncomputable def putIn {β : Type} (d : Nat) (x : AV) (κ : Fr → Option β) (size : Nat × Nat) (gl : Nat) (t : Tr AV) (loc : List (Nat × AV)) : Option β :=
  Bool.rec (motive := fun _ => Option β) none (force x (putGl size gl t loc d κ)) (Nat.ble (Nat.succ d) size.1)

noncomputable def put {β : Type} (fr : Fr) (dst : Option Tmp) (x : AV) (κ : Fr → Option β) : Option β :=
  Option.rec (motive := fun _ => Option β) (κ fr) (fun d => Fr.rec (motive := fun _ => Option β) (putIn d x κ) fr) dst

/-- Behind a region. -/
noncomputable def Fr.out (fr : Fr) : Fr := Fr.rec (motive := fun _ => Fr) (fun size gl t _ => ⟨size, gl, t, []⟩) fr

noncomputable def evA (fr : Fr) : Operand → Option AV
  | .tmp t => fr.get t
  | .const v => some (.v v)
  | .global g => some (.v (.pointer (some ⟨g, 0, none⟩)))
  | .func f => some (.v (.func (.func f) #[] #[]))

/-- Is an operation wanted? -/
noncomputable def wantA (ops : List Oper) (fr : Fr) (o : Oper) : Option Bool :=
  match o.guard with
  | none => some true
  | some (j, want) =>
    match ops[j]? with
    | some oj => match oj.dst with
      | some d => match fr.get d with
        | some (.v (.bool b)) => some (b == want)
        | some (.v (.tuple _)) => some false
        | _ => none
      | none => none
    | none => none

/-- What a call does: the callee, its arguments, what follows. -/
abbrev Caller := FuncId → List AV → AS → Option (AV × AS)

noncomputable def eStore (P : Program) (ev : Operand → Option AV) (S : AS) (t : TypeId) (a x : Operand) : Option (AV × AS) :=
  match ev a, ev x with
  | some a, some x => storeA P S t a x fun S => some (.v undef, S)
  | _, _ => none

noncomputable def eAppend [Syms] (P : Program) (ev : Operand → Option AV) (S : AS) : List Operand → List TypeId → Option (AV × AS)
  | [s, x], [t, t'] =>
    match ev s, ev x, P.underlying t' with
    | some s, some x, some (.slice _) => appendX P S t s x
    | _, _, _ => none
  | _, _ => none

noncomputable def copyA [Syms] {β : Type} (P : Program) (S : AS) (t : TypeId) (d x : AV) (κ : AV → AS → Option β) : Option β :=
  match P.underlying t, d with
  | some (.slice e), .sl b off len _ =>
    match sz P e, blkOf S.hp b with
    | some s, some B =>
      match newsA S s x with
      | some (m, news) =>
        match Nat.ble 1 s && isOwn B && news.all AV.one with
        | true => match Nat.min m len with
          | 0 => κ (.v (.int .i64 0)) S
          | Nat.succ n => writeCells B off (takeL (Nat.mul (Nat.succ n) s) news) fun B => Tr.set deep S.hp b (some B) fun h => fN S.nx fun nx => κ (.v (.int .i64 (Int.ofNat (Nat.succ n)))) ⟨nx, h⟩
        | false => none
      | none => none
    | _, _ => none
  | _, _ => none

noncomputable def eCopy [Syms] (P : Program) (ev : Operand → Option AV) (S : AS) : List Operand → List TypeId → Option (AV × AS)
  | [d, x], t :: _ =>
    match ev d, ev x with
    | some d, some x => copyA P S t d x fun v S => some (v, S)
    | _, _ => none
  | _, _ => none

/-- The number by which yield is called. -/
abbrev yT : Nat := 1000000009

/-- Is it a call of yield? -/
noncomputable def yieldA (ev : Operand → Option AV) (c : Call) : Option (List AV) :=
  match c.callee with
  | .value f => match ev f with
    | some (.yl b) => match evsA ev c.args.toList with
      | some args => some (.yl b :: args)
      | none => none
    | _ => none
  | _ => none

/-- The number by which a function out of a row is called, of which the place is not known. -/
abbrev pT : Nat := 1000000011

/-- Is it such a call? -/
noncomputable def pickA (ev : Operand → Option AV) (c : Call) : Option (List AV) :=
  match c.callee with
  | .value f => match ev f with
    | some (.pick l x) => match evsA ev c.args.toList with
      | some args => some (.pick l x :: args)
      | none => none
    | _ => none
  | _ => none

noncomputable def ePick (P : Program) (call : Caller) (ev : Operand → Option AV) (S : AS) (c : Call) : Option (AV × AS) :=
  match pickA ev c, fnOf P pT with
  | some args, none => call pT args S
  | _, _ => none

noncomputable def eCall [Syms] (P : Program) (call : Caller) (ev : Operand → Option AV) (S : AS) (c : Call) : Option (AV × AS) :=
  match c.callee with
  | .builtin .append => eAppend P ev S c.args.toList c.argTypes.toList
  | .builtin .copy => eCopy P ev S c.args.toList c.argTypes.toList
  | _ => match yieldA ev c with
    | some args => call yT args S
    | none => match targetA P ev c with
      | some (f, args) => match Nat.beq f yT || Nat.beq f pT with
        | true => none
        | false => call f args S
      | none => ePick P call ev S c

noncomputable def effA [Syms] (P : Program) (call : Caller) (ev : Operand → Option AV) (S : AS) (o : Op) : Option (AV × AS) :=
  match o with
  | .store t a x => eStore P ev S t a x
  | .call c => eCall P call ev S c
  | _ => none

/-- One operation, in the order of the text. -/
noncomputable def seqStep [Syms] (P : Program) (call : Caller) (o : Oper) (next : Fr → AS → Option (Fr × AS)) (fr : Fr) (S : AS) : Option (Fr × AS) :=
  Bool.rec (motive := fun _ => Option (Fr × AS))
    (Bool.rec (motive := fun _ => Option (Fr × AS))
      (match aq P (blkOf S.hp) (evA fr) o.op with
        | some v => put fr o.dst v fun fr => next fr S
        | none => none)
      (match al P (evA fr) o.op with
        | some (cs, e, s, mk) => newBlk S cs e false s fun b S => put fr o.dst (mk b) fun fr => next fr S
        | none => none)
      (isAl o.op))
    (match effA P call (evA fr) S o.op with
      | some (v, S) => put fr o.dst v fun fr => next fr S
      | none => none)
    (isEff o.op)

noncomputable def seqOps [Syms] (P : Program) (call : Caller) (ops : List Oper) (l : List Oper) : Fr → AS → Option (Fr × AS) :=
  List.rec (motive := fun _ => Fr → AS → Option (Fr × AS)) (fun fr S => some (fr, S))
    (fun o _ ih fr S =>
      match wantA ops fr o with
      | some true => seqStep P call o ih fr S
      | some false => put fr o.dst (.v undef) fun fr => ih fr S
      | none => none) l

/-- The results of a function. -/
noncomputable def resA [Syms] (P : Program) (S : AS) (fr : Fr) : List ResultVar → Option (List AV)
  | [] => some []
  | .tmp t :: r => match fr.get t with
    | some v => match resA P S fr r with
      | some l => some (v :: l)
      | none => none
    | none => none
  | .cell a t :: r => match fr.get a with
    | some x => match loadA P (blkOf S.hp) t x with
      | some v => match resA P S fr r with
        | some l => some (v :: l)
        | none => none
      | none => none
    | none => none

noncomputable def oneOf : List AV → AV
  | [x] => x
  | l => .tup l

noncomputable def argsFr {β : Type} (l : List AV) : Nat → Tr AV → (Tr AV → Option β) → Option β :=
  List.rec (motive := fun _ => Nat → Tr AV → (Tr AV → Option β) → Option β) (fun _ t κ => κ t)
    (fun x _ ih k t κ => Tr.set deep t k x fun t => ih (Nat.add k 1) t κ) l

/-! A region that draws its order. -/

/-- A reading of such a region: its place, those that stand ahead of it, what it is, the frame ahead of it, what it came to. -/
structure Rd where
  j : Nat
  m : Nat
  op : Op
  fr : Fr
  v : AV

/-- What such a region has done: the blocks that it made, with their places; the states behind the operations that turn memory, the last one first; the readings. -/
structure Dn where
  als : List (Nat × Blk)
  sns : List (Nat × AS)
  rds : List Rd

noncomputable def maskOf (acc : List Nat) : List Edge → Nat
  | [] => 0
  | e :: r => match Region.binds .any e with
    | true => Nat.lor (Nat.lor (Nat.pow 2 e.on) (acc.getD e.on 0)) (maskOf acc r)
    | false => maskOf acc r

noncomputable def masksGo : List Oper → List Nat → List Nat
  | [], acc => acc
  | o :: r, acc => masksGo r (acc ++ [maskOf acc o.after.toList])

/-- Of each operation those that stand ahead of it in every order. -/
noncomputable def masksOf (ops : List Oper) : List Nat := masksGo ops []

/-- The slots that an operation looks at. -/
noncomputable def looks (ops : List Oper) (o : Oper) : List Tmp :=
  (o.op.operands.toList.filterMap fun x => match x with | .tmp t => some t | _ => none) ++
  (match o.guard with
   | some (g, _) => match ops[g]? with
     | some og => og.dst.toList
     | none => []
   | none => [])

noncomputable def clash (ops : List Oper) (x y : Oper) : Bool :=
  (match x.dst with
   | some d => (looks ops y).contains d || y.dst == some d
   | none => false) ||
  (match y.dst with
   | some d => (looks ops x).contains d
   | none => false)

/-- What must be ordered is. -/
noncomputable def statRow (ops : List Oper) (m : Nat) (o : Oper) : Nat → List Oper → Bool
  | _, [] => true
  | i, x :: r => (bit m i || !(clash ops x o || (isEff x.op && isEff o.op))) && statRow ops m o (i + 1) r

noncomputable def statGo (ops : List Oper) : Nat → List Oper → List Nat → List Oper → Bool
  | j, o :: rest, m :: ms, done =>
    o.after.toList.all (fun e => !Region.binds .any e || Nat.blt e.on j) && statRow ops m o 0 done && statGo ops (j + 1) rest ms (done ++ [o])
  | _, [], [], _ => true
  | _, _, _, _ => false

noncomputable def statOK (ops : List Oper) (ms : List Nat) : Bool := statGo ops 0 ops ms []

/-- The blocks of the region's own that an operation need not find. -/
noncomputable def hideK {β : Type} (base m : Nat) (l : List (Nat × Blk)) : Tr (Option Blk) → (Tr (Option Blk) → Option β) → Option β :=
  List.rec (motive := fun _ => Tr (Option Blk) → (Tr (Option Blk) → Option β) → Option β) (fun h κ => κ h)
    (fun x _ ih h κ => Bool.rec (motive := fun _ => Option β) (Tr.set deep h (Nat.add base x.1) none fun h => ih h κ) (ih h κ) (bit m x.1)) l

/-- Laid back as they stood in 'old'. -/
noncomputable def showK {β : Type} (base m : Nat) (old : Tr (Option Blk)) (l : List (Nat × Blk)) : Tr (Option Blk) → (Tr (Option Blk) → Option β) → Option β :=
  List.rec (motive := fun _ => Tr (Option Blk) → (Tr (Option Blk) → Option β) → Option β) (fun h κ => κ h)
    (fun x _ ih h κ => Bool.rec (motive := fun _ => Option β) (Tr.set deep h (Nat.add base x.1) (blkOf old (Nat.add base x.1)) fun h => ih h κ) (ih h κ) (bit m x.1)) l

abbrev DRes := Option (Dn × Fr × AS)

noncomputable def dQ [Syms] (P : Program) (j m : Nat) (o : Oper) (next : Nat → Dn → Fr → AS → DRes) (d : Dn) (fr : Fr) (S : AS) : DRes :=
  match aq P (blkOf S.hp) (evA fr) o.op with
  | some v => force v fun v => put fr o.dst v fun fr' =>
      Bool.rec (motive := fun _ => DRes) (next (Nat.add j 1) d fr' S) (next (Nat.add j 1) ⟨d.als, d.sns, ⟨j, m, o.op, fr, v⟩ :: d.rds⟩ fr' S) (readsMem o.op)
  | none => none

noncomputable def dAl (P : Program) (base j : Nat) (o : Oper) (next : Nat → Dn → Fr → AS → DRes) (d : Dn) (fr : Fr) (S : AS) : DRes :=
  match al P (evA fr) o.op with
  | some (cs, e, s, mk) =>
    mkBlk cs e false s fun B => fN (Nat.add base j) fun b =>
      Tr.set deep S.hp b (some B) fun h => put fr o.dst (mk b) fun fr' =>
        fN S.nx fun nx => next (Nat.add j 1) ⟨(j, B) :: d.als, d.sns, d.rds⟩ fr' ⟨nx, h⟩
  | none => none

noncomputable def dEff [Syms] (P : Program) (call : Caller) (base j m : Nat) (o : Oper) (next : Nat → Dn → Fr → AS → DRes) (d : Dn) (fr : Fr) (S : AS) : DRes :=
  hideK base m d.als S.hp fun h =>
    match effA P call (evA fr) ⟨S.nx, h⟩ o.op with
    | some (v, S') => showK base m S.hp d.als S'.hp fun h' => put fr o.dst v fun fr' => fN (Nat.add j 1) fun p =>
        next p ⟨d.als, (p, ⟨S'.nx, h'⟩) :: d.sns, d.rds⟩ fr' ⟨S'.nx, h'⟩
    | none => none

noncomputable def runD [Syms] (P : Program) (call : Caller) (ops : List Oper) (base : Nat) (l : List (Oper × Nat)) : Nat → Dn → Fr → AS → DRes :=
  List.rec (motive := fun _ => Nat → Dn → Fr → AS → DRes) (fun _ d fr S => some (d, fr, S))
    (fun x _ ih j d fr S =>
      match wantA ops fr x.1 with
      | some true =>
        Bool.rec (motive := fun _ => DRes)
          (Bool.rec (motive := fun _ => DRes) (dQ P j x.2 x.1 ih d fr S) (dAl P base j x.1 ih d fr S) (isAl x.1.op))
          (dEff P call base j x.2 x.1 ih d fr S) (isEff x.1.op)
      | some false => put fr x.1.dst (.v undef) fun fr' => ih (Nat.add j 1) d fr' S
      | none => none) l

noncomputable def sxsEq : List SX → List SX → Bool
  | [], [] => true
  | x :: r, y :: s => bAnd (sxEq x y) (sxsEq r s)
  | _, _ => false

noncomputable def emptyA (x : Array Value) : Bool :=
  match x.toList with
  | [] => true
  | _ => false

noncomputable def vEq : Value → Value → Bool
  | .int k a, .int k' b => decide (k = k') && decide (a = b)
  | .bool a, .bool b => a == b
  | .slice none a b, .slice none c d => Nat.beq a c && Nat.beq b d
  | .pointer none, .pointer none => true
  | .func (.func a) x y, .func (.func b) z u => Nat.beq a b && (emptyA x && emptyA z) && (emptyA y && emptyA u)
  | _, _ => false

noncomputable def fnEq : Fn → Fn → Bool
  | .func a, .func b => Nat.beq a b
  | _, _ => false

mutual
noncomputable def avEq : AV → AV → Bool
  | .v x, .v y => vEq x y
  | .ptr a b, .ptr c d => Nat.beq a c && Nat.beq b d
  | .sl a b c d, .sl a' b' c' d' => Nat.beq a a' && Nat.beq b b' && Nat.beq c c' && Nat.beq d d'
  | .slu a b, .slu c d => Nat.beq a c && Nat.beq b d
  | .agg xs, .agg ys => avEqs xs ys
  | .sx k e, .sx k' e' => bAnd (kEq k k') (sxEq e e')
  | .sb b, .sb c => sbEq b c
  | .osl a, .osl b => Nat.beq a b
  | .str l, .str r => sxsEq l r
  | .op a b, .op c d => Nat.beq a c && Nat.beq b d
  | .ox a b n x, .ox c d m y => Nat.beq a c && Nat.beq b d && Nat.beq n m && sxEq x y
  | .px a b n x, .px c d m y => Nat.beq a c && Nat.beq b d && Nat.beq n m && sxEq x y
  | .os a b c d e, .os a' b' c' d' e' => Nat.beq a a' && Nat.beq b b' && Nat.beq c c' && Nat.beq d d' && Nat.beq e e'
  | .pick xs x, .pick ys y => bAnd (avEqs xs ys) (sxEq x y)
  | .fn f a c, .fn g b d => bAnd (fnEq f g) (bAnd (avEqs a b) (avEqs c d))
  | .iface s x, .iface u y => bAnd (Nat.beq s u) (avEq x y)
  | .yl a, .yl b => Nat.beq a b
  | .ry a o n c, .ry a' o' n' c' => bAnd (Nat.beq a a') (bAnd (sxEq o o') (bAnd (sxEq n n') (sxEq c c')))
  | .rp a x, .rp b y => bAnd (Nat.beq a b) (sxEq x y)
  | .lsl a n, .lsl b m => bAnd (Nat.beq a b) (sxEq n m)
  | _, _ => false
noncomputable def avEqs : List AV → List AV → Bool
  | [], [] => true
  | x :: xs, y :: ys => avEq x y && avEqs xs ys
  | _, _ => false
end

noncomputable def alBlk [Syms] (i : Nat) : List (Nat × Blk) → Option Blk
  | [] => none
  | x :: r => match Nat.beq x.1 i with
    | true => some x.2
    | false => alBlk i r

/-- Memory as it stands when the operations ahead of position p that turn it have run, seen by an operation behind those of m. -/
noncomputable def seenAt [Syms] (base n m p : Nat) (h : Tr (Option Blk)) (als : List (Nat × Blk)) (b : Nat) : Option Blk :=
  match Nat.ble base b && Nat.blt b (Nat.add base n) with
  | true => match bit m (Nat.sub b base) with
    | true => match Nat.blt (Nat.sub b base) p with
      | true => blkOf h b
      | false => alBlk (Nat.sub b base) als
    | false => none
  | false => blkOf h b

/-- Must one of the operations that turn memory, from position p on, have run ahead? (The places of 'sns' are one more than the operations'.) -/
noncomputable def late (m p : Nat) : List (Nat × AS) → Bool
  | [] => false
  | x :: r => (Nat.blt p x.1 && bit m (Nat.sub x.1 1)) || late m p r

noncomputable def readAt [Syms] (P : Program) (base n : Nat) (als : List (Nat × Blk)) (sns : List (Nat × AS)) (ms : List Nat) (r : Rd) (p : Nat) (h : Tr (Option Blk)) : Bool :=
  late r.m p sns || (Nat.blt 0 p && bit (ms.getD (Nat.sub p 1) 0) r.j) ||
    (match aq P (seenAt base n r.m p h als) (evA r.fr) r.op with
     | some v => avEq v r.v
     | none => false)

noncomputable def readSn [Syms] (P : Program) (base n : Nat) (als : List (Nat × Blk)) (sns : List (Nat × AS)) (ms : List Nat) (r : Rd) : List (Nat × AS) → Bool
  | [] => true
  | x :: l => readAt P base n als sns ms r x.1 x.2.hp && readSn P base n als sns ms r l

noncomputable def readsOK [Syms] (P : Program) (base n : Nat) (als : List (Nat × Blk)) (sns : List (Nat × AS)) (ms : List Nat) : List Rd → Bool
  | [] => true
  | r :: l => readSn P base n als sns ms r sns && readsOK P base n als sns ms l

noncomputable def anyOps [Syms] (P : Program) (call : Caller) (ops : List Oper) (ms : List Nat) (fr : Fr) (S : AS) : Option (Fr × AS) :=
  match statOK ops ms with
  | true =>
    fN (Nat.add S.nx ops.length) fun nx =>
    match runD P call ops S.nx (ops.zip ms) 0 ⟨[], [(0, ⟨nx, S.hp⟩)], []⟩ fr ⟨nx, S.hp⟩ with
    | some (d, fr', S') => match readsOK P S.nx ops.length d.als d.sns ms d.rds with
      | true => some (fr', S')
      | false => none
    | none => none
  | false => none

/-! Which slots are looked at beyond the region that fills them (any answer serves; a wrong one only stops the run). -/

noncomputable def orL (l : List Nat) : Nat := List.rec (motive := fun _ => Nat) 0 (fun d _ ih => Nat.lor (Nat.pow 2 d) ih) l

noncomputable def glOps (ops : List Oper) (l : List Oper) : Nat → Nat :=
  List.rec (motive := fun _ => Nat → Nat) (fun _ => 0)
    (fun o _ ih w => Nat.lor (orL ((looks ops o).filter fun d => !bit w d)) (ih (Nat.lor w (orL o.dst.toList)))) l

noncomputable def glOf : Code → Nat
  | .region _ ops _ => glOps ops.toList ops.toList 0
  | .seq a b => Nat.lor (glOf a) (glOf b)
  | .cond c a b => Nat.lor (match c with | .tmp t => Nat.pow 2 t | _ => 0) (Nat.lor (glOf a) (glOf b))
  | .block _ b => glOf b
  | .loop b => glOf b
  | .scope b => glOf b
  | .rangeFunc g ps a b => Nat.lor (match g with | .tmp t => Nat.pow 2 t | _ => 0) (Nat.lor (orL ps.toList) (Nat.lor (glOf a) (glOf b)))
  | _ => 0

noncomputable def glFn (fn : Func) (c : Code) : Nat :=
  Nat.lor (glOf c) (Nat.lor (orL (fn.results.toList.map fun r => match r with | .tmp t => t | .cell a _ => a)) (Nat.sub (Nat.pow 2 fn.params.size) 1))

/-! A range over a function: the loop's record is a block of its own kind, which nothing reads. -/

noncomputable def spCh : Option (List AV) → Option AV
  | some [.lp size gl ix vs ps asg bd] => some (.lp size gl ix vs ps asg bd)
  | _ => none

noncomputable def spIn (e s : Nat) (ch : Tr (List AV)) : Option AV :=
  Bool.rec (motive := fun _ => Option AV) none (spCh (ch.get 0)) (Nat.beq e roT && Nat.beq s 0)

/-- What such a block holds. -/
noncomputable def spOf (B : Blk) : Option AV := Blk.rec (motive := fun _ => Option AV) (fun _ e _ s ch => spIn e s ch) B

noncomputable def spBlk (x : AV) : Blk := ⟨0, roT, false, 0, .nd .nil (some [x]) .nil⟩

/-- The slots of a frame that are known, below k. -/
noncomputable def slotsK {β : Type} (fr : Fr) (k : Nat) : List Nat → List AV → (List Nat → List AV → Option β) → Option β :=
  Nat.rec (motive := fun _ => List Nat → List AV → (List Nat → List AV → Option β) → Option β) (fun ix vs κ => κ ix vs)
    (fun d ih ix vs κ => match fr.get d with
      | some v => ih (d :: ix) (v :: vs) κ
      | none => ih ix vs κ) k

noncomputable def layFr {β : Type} (ix : List Nat) : List AV → Tr AV → (Tr AV → Option β) → Option β :=
  List.rec (motive := fun _ => List AV → Tr AV → (Tr AV → Option β) → Option β) (fun _ t κ => κ t)
    (fun d _ ih vs t κ => match vs with
      | v :: vs => Tr.set deep t d v fun t => ih vs t κ
      | [] => κ t) ix

noncomputable def putAll {β : Type} (ps : List Nat) : List AV → Fr → (Fr → Option β) → Option β :=
  List.rec (motive := fun _ => List AV → Fr → (Fr → Option β) → Option β) (fun _ fr κ => κ fr)
    (fun d _ ih vs fr κ => match vs with
      | v :: vs => put fr (some d) v fun fr => ih vs fr κ
      | [] => κ fr) ps

/-- A round. -/
noncomputable def roundA (ex : Code → Fr → AS → Option (Ex × Fr × AS)) (args : List AV) (S : AS) : Option (AV × AS) :=
  match args with
  | .yl b :: as => match blkOf S.hp b with
    | some B => match spOf B with
      | some (.lp size gl ix vs ps asg bd) =>
        match Nat.beq as.length ps.length with
        | true => layFr ix vs .nil fun t => putAll ps as ⟨(size, 0), gl, t, []⟩ fun fr =>
            Tr.set deep S.hp b none fun h => fN S.nx fun nx =>
            match ex asg fr ⟨nx, h⟩ with
            | some (.normal, fr, S1) => match ex bd fr S1 with
              | some (.normal, _, S2) => Tr.set deep S2.hp b (some B) fun h => fN S2.nx fun nx => some (.v (.bool true), ⟨nx, h⟩)
              | _ => none
            | _ => none
        | false => none
      | _ => none
    | none => none
  | _ => none

/-- A function is left. -/
noncomputable def outA [Syms] (P : Program) (fn : Func) (fr : Fr) (S : AS) : Option (AV × AS) :=
  match Nat.ble fr.size.2 1 with
  | true => match resA P S fr fn.results.toList with
    | some l => some (oneOf l, S)
    | none => none
  | false => none

noncomputable def callA [Syms] (P : Program) (ex : Code → Fr → AS → Option (Ex × Fr × AS)) : Caller := fun f args S =>
  match fnOf P f with
  | some fn =>
    match fn.body with
    | some c =>
      match Nat.ble args.length fn.ntmps with
      | true => argsFr args 0 .nil fun t => fN (glFn fn c) fun gl => fN fn.ntmps fun nt =>
        match ex c ⟨(nt, 0), Nat.lor gl (Nat.sub (Nat.pow 2 args.length) 1), t, []⟩ S with
        | some (.normal, fr, S) => outA P fn fr S
        | some (.ret, fr, S) => outA P fn fr S
        | _ => none
      | false => none
    | none => none
  | none => none

noncomputable def xSeq (ex : Code → Fr → AS → Option (Ex × Fr × AS)) (a b : Code) (fr : Fr) (S : AS) : Option (Ex × Fr × AS) :=
  match ex a fr S with
  | some (.normal, fr, S) => ex b fr S
  | r => r

noncomputable def xCond (ex : Code → Fr → AS → Option (Ex × Fr × AS)) (c : Operand) (x y : Code) (fr : Fr) (S : AS) : Option (Ex × Fr × AS) :=
  match evA fr c with
  | some (.v (.bool true)) => ex x fr S
  | some (.v (.bool false)) => ex y fr S
  | _ => none

noncomputable def xBlock (ex : Code → Fr → AS → Option (Ex × Fr × AS)) (id : Nat) (b : Code) (fr : Fr) (S : AS) : Option (Ex × Fr × AS) :=
  match ex b fr S with
  | some (.exit i, fr, S) => match Nat.beq i id with
    | true => some (.normal, fr, S)
    | false => some (.exit i, fr, S)
  | r => r

noncomputable def xLoop (ex : Code → Fr → AS → Option (Ex × Fr × AS)) (b : Code) (fr : Fr) (S : AS) : Option (Ex × Fr × AS) :=
  match ex b fr S with
  | some (.normal, fr, S) => ex (.loop b) fr S
  | r => r

/-- Callees by what is known of them ('orc'), the others by their text. -/
noncomputable def callO [Syms] (P : Program) (orc : Caller) (ex : Code → Fr → AS → Option (Ex × Fr × AS)) : Caller := fun f args S =>
  match orc f args S with
  | some r => some r
  | none => callA P ex f args S

/-- Calls of functions, and of yield. -/
noncomputable def callY [Syms] (P : Program) (orc : Caller) (exF exR : Code → Fr → AS → Option (Ex × Fr × AS)) : Caller := fun f args S =>
  match Nat.beq f yT with
  | true => roundA exR args S
  | false => callO P orc exF f args S

noncomputable def xRegion [Syms] (P : Program) (call : Caller) (ops : Array Oper) (draw : Bool) (fr : Fr) (S : AS) : Option (Ex × Fr × AS) :=
  match draw with
  | false => match seqOps P call ops.toList ops.toList fr S with
    | some (fr, S) => some (.normal, fr.out, S)
    | none => none
  | true => match anyOps P call ops.toList (masksOf ops.toList) fr S with
    | some (fr, S) => some (.normal, fr.out, S)
    | none => none

noncomputable def fnVal : AV → Option (FuncId × List AV × List AV)
  | .v (.func (.func g) a c) => some (g, a.toList.map .v, c.toList.map .v)
  | .fn (.func g) first capt => some (g, first, capt)
  | _ => none

noncomputable def xRange (call : Caller) (f : Operand) (ps : Array Tmp) (asg bd : Code) (fr : Fr) (S : AS) : Option (Ex × Fr × AS) :=
  match evA fr f, fr.size.2 with
  | some x, 0 => match fnVal x with
    | some (g, first, capt) => match Nat.beq g yT || Nat.beq g pT with
      | true => none
      | false =>
        slotsK fr fr.size.1 [] [] fun ix vs => fN S.nx fun l =>
        Tr.set deep S.hp l (some (spBlk (.lp fr.size.1 fr.gl ix vs ps.toList asg bd))) fun h =>
        match call g (first ++ [.yl l] ++ capt) ⟨Nat.succ l, h⟩ with
        | some (_, S1) => match blkOf S1.hp l with
          | some B => match spOf B with
            | some (.lp _ _ _ _ _ _ _) => Tr.set deep S1.hp l none fun h => fN S1.nx fun nx => some (.normal, ⟨(fr.size.1, 1), fr.gl, fr.t, fr.loc⟩, ⟨nx, h⟩)
            | _ => none
          | none => none
        | none => none
    | none => none
  | _, _ => none

noncomputable def execStep [Syms] (P : Program) (orc : Caller) (ex : Bool → Code → Fr → AS → Option (Ex × Fr × AS)) (md : Bool) (c : Code) (fr : Fr) (S : AS) : Option (Ex × Fr × AS) :=
  match c with
  | .skip => some (.normal, fr, S)
  | .region _ ops draw => xRegion P (callY P orc (ex false) (ex true)) ops draw fr S
  | .seq a b => xSeq (ex md) a b fr S
  | .cond c x y => xCond (ex md) c x y fr S
  | .block id b => xBlock (ex md) id b fr S
  | .loop b => xLoop (ex md) b fr S
  | .exit id => some (.exit id, fr, S)
  | .ret => some (.ret, fr, S)
  | .scope b => ex md b fr S
  | .label _ => some (.normal, fr, S)
  | .rangeFunc f ps asg bd => match md with
    | false => xRange (callY P orc (ex false) (ex true)) f ps asg bd fr S
    | true => none
  | _ => none

/-- Code, in a function's frame or in a round's. -/
noncomputable def exec [Syms] (P : Program) (orc : Caller) (n : Nat) : Bool → Code → Fr → AS → Option (Ex × Fr × AS) :=
  Nat.rec (motive := fun _ => Bool → Code → Fr → AS → Option (Ex × Fr × AS)) (fun _ _ _ _ => none) (fun _ ih md c fr S => execStep P orc ih md c fr S) n

/-- A call out of nothing: no block is known. -/
noncomputable def run [Syms] (P : Program) (orc : Caller) (fuel : Nat) (f : FuncId) (args : List AV) : Option (AV × AS) := callA P (exec P orc fuel false) f args ⟨0, .nil⟩

/-- Nothing is known of any callee. -/
noncomputable def noOrc : Caller := fun _ _ _ => none

/-! Plain lemmas on the interpreter's trees, frames and blocks. -/

theorem bit_spec (m i : Nat) : bit m i = m.testBit i := by
  simp only [bit, Nat.testBit, Nat.shiftRight_eq_div_pow]
  show Nat.beq (m / 2 ^ i % 2) 1 = _
  rcases Nat.mod_two_eq_zero_or_one (m / 2 ^ i) with h | h <;> simp [h, Nat.one_and_eq_mod_two]
  rfl

section
variable {α β : Type}

@[simp] theorem fN_eq (n : Nat) (κ : Nat → Option β) : fN n κ = κ n := by cases n <;> rfl

@[simp] theorem fI_eq (n : Int) (κ : Int → Option β) : fI n κ = κ n := by cases n <;> simp [fI]

@[simp] theorem force_eq (x : AV) (κ : AV → Option β) : force x κ = κ x := by
  unfold force
  split <;> try simp
  rename_i x
  unfold forceVal
  split <;> try simp
  rename_i b
  cases b <;> rfl

@[simp] theorem Tr.get_nil (k : Nat) : (Tr.nil : Tr α).get k = none := rfl

theorem Tr.get_nd (l : Tr α) (x : Option α) (r : Tr α) (k : Nat) :
    (Tr.nd l x r).get k = if k = 0 then x else if k % 2 = 1 then l.get (k / 2) else r.get (k / 2 - 1) := by
  show getNd x l.get r.get k = _
  unfold getNd getOdd
  by_cases h : k = 0
  · subst h; rfl
  · have hb : Nat.beq k 0 = false := by cases k with | zero => exact absurd rfl h | succ n => rfl
    simp only [hb, h, if_false]
    show Bool.rec (motive := fun _ => Option α) (r.get (Nat.sub (Nat.div k 2) 1)) (l.get (Nat.div k 2)) (Nat.beq (k % 2) 1) = _
    rcases Nat.mod_two_eq_zero_or_one k with h2 | h2 <;> rw [h2] <;> rfl

theorem Tr.set_spec : ∀ (f : Nat) (t : Tr α) (k : Nat) (v : α) (κ : Tr α → Option β) (r : β), Tr.set f t k v κ = some r →
    ∃ t', κ t' = some r ∧ ∀ j, t'.get j = if j = k then some v else t.get j := by
  intro f
  induction f with
  | zero => intro t k v κ r h; cases h
  | succ f ih =>
    intro t k v κ r h
    have h' : setTr (Tr.set f) t k v κ = some r := h
    have key : ∀ (l : Tr α) (x : Option α) (r' : Tr α), setNd (Tr.set f) l x r' k v κ = some r →
        ∃ t', κ t' = some r ∧ ∀ j, t'.get j = if j = k then some v else (Tr.nd l x r').get j := by
      intro l x r' h
      unfold setNd at h
      by_cases hk : k = 0
      · subst hk
        refine ⟨.nd l (some v) r', h, fun j => ?_⟩
        simp only [Tr.get_nd]
        by_cases hj : j = 0 <;> simp [hj]
      · have hb : Nat.beq k 0 = false := by cases k with | zero => exact absurd rfl hk | succ n => rfl
        rw [hb] at h
        have h : setOdd (Tr.set f) l x r' k v κ = some r := h
        unfold setOdd at h
        have hm : Nat.mod k 2 = k % 2 := rfl
        rw [hm] at h
        rcases Nat.mod_two_eq_zero_or_one k with h2 | h2
        · rw [h2] at h
          obtain ⟨t', h1, h3⟩ := ih r' (k / 2 - 1) v (setR l x κ) r h
          refine ⟨.nd l x t', h1, fun j => ?_⟩
          simp only [Tr.get_nd, h3]
          by_cases hj0 : j = 0
          · have : ¬ (0 : Nat) = k := fun e => hk e.symm
            simp [hj0, this]
          · simp only [hj0, if_false]
            by_cases hj2 : j % 2 = 1
            · have : j ≠ k := fun e => by subst e; omega
              simp [hj2, this]
            · simp only [hj2, if_false]
              by_cases hjk : j = k
              · simp [hjk]
              · have : ¬ (j / 2 - 1 = k / 2 - 1) := by omega
                simp [hjk, this]
        · rw [h2] at h
          obtain ⟨t', h1, h3⟩ := ih l (k / 2) v (setL x r' κ) r h
          refine ⟨.nd t' x r', h1, fun j => ?_⟩
          simp only [Tr.get_nd, h3]
          by_cases hj0 : j = 0
          · have : ¬ (0 : Nat) = k := fun e => hk e.symm
            simp [hj0, this]
          · simp only [hj0, if_false]
            by_cases hj2 : j % 2 = 1
            · simp only [hj2, if_true]
              by_cases hjk : j = k
              · simp [hjk]
              · have : ¬ (j / 2 = k / 2) := by omega
                simp [hjk, this]
            · have : j ≠ k := fun e => by subst e; omega
              simp [hj2, this]
    cases t with
    | nil =>
      obtain ⟨t', h1, h2⟩ := key .nil none .nil h'
      refine ⟨t', h1, fun j => ?_⟩
      rw [h2 j]
      by_cases hj : j = k <;> simp [hj, Tr.get_nd]
    | nd l x r' => exact key l x r' h'
end

/-! Lists. -/

theorem lenL_eq (l : List AV) : lenL l = l.length := by
  induction l with
  | nil => rfl
  | cons x r ih => show Nat.succ (lenL r) = _; rw [ih]; rfl

theorem takeL_eq (n : Nat) (l : List AV) : takeL n l = l.take n := by
  induction n generalizing l with
  | zero => rfl
  | succ n ih => cases l with
    | nil => rfl
    | cons x r => show x :: takeL n r = _; rw [ih]; rfl

theorem dropL_eq (n : Nat) (l : List AV) : dropL n l = l.drop n := by
  induction n generalizing l with
  | zero => rfl
  | succ n ih => cases l with
    | nil => rfl
    | cons x r => show dropL n r = _; rw [ih]; rfl

theorem splice_eq (vs : List AV) (off : Nat) (cs : List AV) (h : off + vs.length ≤ cs.length) : splice vs off cs = cs.take off ++ vs ++ cs.drop (off + vs.length) := by
  induction off generalizing cs with
  | zero => show vs ++ cs.drop vs.length = _; simp
  | succ n ih => cases cs with
    | nil => simp at h
    | cons x r =>
      show x :: splice vs n r = _
      rw [ih r (by simp at h; omega)]
      simp [Nat.add_right_comm]

theorem getElem?_splice (vs : List AV) (off : Nat) (cs : List AV) (h : off + vs.length ≤ cs.length) (i : Nat) :
    (splice vs off cs)[i]? = if off ≤ i ∧ i < off + vs.length then vs[i - off]? else cs[i]? := by
  rw [splice_eq vs off cs h, List.append_assoc]
  have hl : (cs.take off).length = off := by simp; omega
  by_cases h1 : i < off
  · rw [List.getElem?_append_left (by omega), List.getElem?_take_of_lt h1, if_neg (by omega)]
  · rw [List.getElem?_append_right (by omega), hl]
    by_cases h2 : i < off + vs.length
    · rw [List.getElem?_append_left (by omega), if_pos (by omega)]
    · rw [List.getElem?_append_right (by omega), if_neg (by omega), List.getElem?_drop]
      congr 1
      omega

theorem length_splice (vs : List AV) (off : Nat) (cs : List AV) (h : off + vs.length ≤ cs.length) : (splice vs off cs).length = cs.length := by
  rw [splice_eq vs off cs h]
  simp
  omega

/-! Blocks. -/

/-- The cell at a place. -/
noncomputable def cellOf (B : Blk) (i : Nat) : Option AV :=
  match B.ch.get (i / B.s) with
  | some p => if p.length = B.s then p[i % B.s]? else none
  | none => none

theorem pieces_spec (c : Tr (List AV)) (s : Nat) (hs : 0 < s) : ∀ (k q : Nat) (l : List AV), pieces c s k q = some l →
    l.length = k * s ∧ ∀ i, i < k * s → ∃ p, c.get (q + i / s) = some p ∧ p.length = s ∧ l[i]? = p[i % s]? := by
  intro k
  induction k with
  | zero => intro q l h; have h : some [] = some l := h; cases h; simp
  | succ k ih =>
    intro q l h
    have h' : Option.rec (motive := fun _ => Option (List AV)) none
      (fun p => Bool.rec (motive := fun _ => Option (List AV)) none
        (Option.rec (motive := fun _ => Option (List AV)) none (fun r => some (p ++ r)) (pieces c s k (Nat.succ q))) (Nat.beq (lenL p) s)) (c.get q) = some l := h
    cases hq : c.get q with
    | none => rw [hq] at h'; cases h'
    | some p =>
      rw [hq] at h'
      cases hb : Nat.beq (lenL p) s with
      | false => simp only [hb] at h'; cases h'
      | true =>
        simp only [hb] at h'
        have hp : p.length = s := by rw [← lenL_eq]; exact Nat.eq_of_beq_eq_true hb
        cases hr : pieces c s k (Nat.succ q) with
        | none => rw [hr] at h'; cases h'
        | some r =>
          rw [hr] at h'
          have hl : l = p ++ r := by simpa using h'.symm
          obtain ⟨h1, h2⟩ := ih (q + 1) r hr
          subst hl
          refine ⟨by simp [h1, hp, Nat.add_mul, Nat.add_comm], fun i hi => ?_⟩
          by_cases hi' : i < s
          · refine ⟨p, by rw [Nat.div_eq_of_lt hi']; exact hq, hp, ?_⟩
            rw [List.getElem?_append_left (by omega), Nat.mod_eq_of_lt hi']
          · have hlt : i - s < k * s := by rw [Nat.succ_mul] at hi; omega
            obtain ⟨p', g1, g2, g3⟩ := h2 (i - s) hlt
            have hd : i / s = (i - s) / s + 1 := by
              have : i = (i - s) + s := by omega
              rw [this, Nat.add_div_right _ hs]; simp
            have hm : i % s = (i - s) % s := by
              have : i = (i - s) + s := by omega
              rw [this, Nat.add_mod_right]; simp
            refine ⟨p', by rw [hd, ← g1]; congr 1; omega, g2, ?_⟩
            rw [List.getElem?_append_right (by omega), hp, g3, hm]

theorem and3 {a b c : Bool} : (a && b && c) = true ↔ a = true ∧ b = true ∧ c = true := by cases a <;> cases b <;> cases c <;> simp

theorem add_div_of_mod (off i s : Nat) (h : off % s + i < s) : (off + i) / s = off / s ∧ (off + i) % s = off % s + i := by
  have hs : 0 < s := by omega
  have e : off + i = (off % s + i) + s * (off / s) := by have := Nat.mod_add_div off s; omega
  rw [e, Nat.add_mul_div_left _ _ hs, Nat.add_mul_mod_self_left, Nat.div_eq_of_lt h, Nat.mod_eq_of_lt h]
  have e2 : (off % s + i + s * (off / s)) = off + i := e.symm
  constructor
  · omega
  · rfl

theorem readSome_spec (B : Blk) (off n : Nat) (l : List AV) (h : readSome B off n = some l) :
    l.length = n ∧ ∀ i, i < n → ∃ v, l[i]? = some v ∧ cellOf B (off + i) = some v := by
  obtain ⟨bn, be, bg, s, ch⟩ := B
  have h' : Bool.rec (motive := fun _ => Option (List AV))
      (Bool.rec (motive := fun _ => Option (List AV)) none (pieces ch s (Nat.div n s) (Nat.div off s)) (Nat.beq (Nat.mod off s) 0 && Nat.beq (Nat.mod n s) 0 && Nat.ble 1 s))
      (Option.rec (motive := fun _ => Option (List AV)) none
        (fun p => Bool.rec (motive := fun _ => Option (List AV)) none (some (takeL n (dropL (Nat.mod off s) p))) (Nat.beq (lenL p) s)) (ch.get (Nat.div off s)))
      (Nat.ble (Nat.add (Nat.mod off s) n) s) = some l := h
  cases hb : Nat.ble (Nat.add (Nat.mod off s) n) s with
  | true =>
    rw [hb] at h'
    have hle : off % s + n ≤ s := Nat.le_of_ble_eq_true hb
    cases hp : ch.get (Nat.div off s) with
    | none => rw [hp] at h'; cases h'
    | some p =>
      rw [hp] at h'
      cases hl : Nat.beq (lenL p) s with
      | false => simp only [hl] at h'; cases h'
      | true =>
        simp only [hl] at h'
        have hps : p.length = s := by rw [← lenL_eq]; exact Nat.eq_of_beq_eq_true hl
        have hL : l = (p.drop (off % s)).take n := by
          have : some (takeL n (dropL (Nat.mod off s) p)) = some l := h'
          rw [takeL_eq, dropL_eq] at this
          exact (Option.some.inj this).symm
        subst hL
        refine ⟨by simp [hps]; omega, fun i hi => ?_⟩
        have hlt : off % s + i < p.length := by omega
        refine ⟨p[off % s + i], ?_, ?_⟩
        · rw [List.getElem?_take_of_lt hi, List.getElem?_drop, List.getElem?_eq_getElem hlt]
        · obtain ⟨e1, e2⟩ := add_div_of_mod off i s (by omega)
          simp only [cellOf]
          rw [e1, e2]
          have hp' : ch.get (off / s) = some p := hp
          rw [hp']
          simp [hps, List.getElem?_eq_getElem hlt]
  | false =>
    rw [hb] at h'
    cases hc : (Nat.beq (Nat.mod off s) 0 && Nat.beq (Nat.mod n s) 0 && Nat.ble 1 s) with
    | false => rw [hc] at h'; cases h'
    | true =>
      rw [hc] at h'
      obtain ⟨c1, c2, c3⟩ := and3.1 hc
      have hs : 0 < s := Nat.le_of_ble_eq_true c3
      have ho : off % s = 0 := Nat.eq_of_beq_eq_true c1
      have hn : n % s = 0 := Nat.eq_of_beq_eq_true c2
      have hnn : n / s * s = n := Nat.div_mul_cancel (Nat.dvd_of_mod_eq_zero hn)
      obtain ⟨h1, h2⟩ := pieces_spec ch s hs (n / s) (off / s) l h'
      rw [hnn] at h1 h2
      refine ⟨h1, fun i hi => ?_⟩
      obtain ⟨p, g1, g2, g3⟩ := h2 i hi
      have hlt : i % s < p.length := by rw [g2]; exact Nat.mod_lt _ hs
      refine ⟨p[i % s], by rw [g3, List.getElem?_eq_getElem hlt], ?_⟩
      have hoff : off = s * (off / s) := by have := Nat.mod_add_div off s; omega
      have e1 : (off + i) / s = off / s + i / s := by rw [hoff, Nat.mul_add_div hs, Nat.mul_div_cancel_left _ hs]
      have e2 : (off + i) % s = i % s := by rw [hoff, Nat.mul_add_mod]
      simp only [cellOf]
      rw [e1, e2, g1]
      simp [g2, List.getElem?_eq_getElem hlt]

theorem readCells_spec (B : Blk) (off n : Nat) (l : List AV) (h : readCells B off n = some l) :
    l.length = n ∧ ∀ i, i < n → ∃ v, l[i]? = some v ∧ cellOf B (off + i) = some v := by
  cases n with
  | zero => cases h; exact ⟨rfl, fun i hi => absurd hi (by omega)⟩
  | succ m => exact readSome_spec B off (m + 1) l h

section
variable {β : Type}

theorem layPieces_spec (old : Bool) (s : Nat) : ∀ (k : Nat) (l : List AV) (q : Nat) (c : Tr (List AV)) (κ : Tr (List AV) → Option β) (r : β),
    k * s ≤ l.length → layPieces old s k l q c κ = some r →
    ∃ c', κ c' = some r ∧ (∀ j, c'.get j = if q ≤ j ∧ j < q + k then some ((l.drop ((j - q) * s)).take s) else c.get j) ∧
      (old = true → ∀ j, q ≤ j → j < q + k → ∃ p, c.get j = some p ∧ p.length = s) := by
  intro k
  induction k with
  | zero => intro l q c κ r _ h; exact ⟨c, h, fun j => by rw [if_neg (by omega)], fun _ j h1 h2 => by omega⟩
  | succ k ih =>
    intro l q c κ r hl h
    have hl' : k * s ≤ (l.drop s).length := by rw [List.length_drop]; rw [Nat.succ_mul] at hl; omega
    have core : ∀ r, (Tr.set deep c q (takeL s l) fun c => layPieces old s k (dropL s l) (Nat.succ q) c κ) = some r →
        ∃ c', κ c' = some r ∧ (∀ j, c'.get j = if q ≤ j ∧ j < q + (k + 1) then some ((l.drop ((j - q) * s)).take s) else c.get j) ∧
        (old = true → ∀ j, q + 1 ≤ j → j < q + 1 + k → ∃ p, c.get j = some p ∧ p.length = s) := by
      intro r h
      obtain ⟨c1, h1, h2⟩ := Tr.set_spec _ _ _ _ _ _ h
      rw [dropL_eq] at h1
      obtain ⟨c2, h3, h4, h5⟩ := ih (l.drop s) (q + 1) c1 κ r hl' h1
      refine ⟨c2, h3, fun j => ?_, fun ho j hj1 hj2 => ?_⟩
      · rw [h4 j]
        by_cases hj : q + 1 ≤ j ∧ j < q + 1 + k
        · rw [if_pos hj, if_pos (by omega), List.drop_drop]
          have : s + (j - (q + 1)) * s = (j - q) * s := by
            have e : j - q = (j - (q + 1)) + 1 := by omega
            rw [e, Nat.add_mul, Nat.one_mul, Nat.add_comm]
          rw [this]
        · rw [if_neg hj, h2 j]
          by_cases hjq : j = q
          · subst hjq
            rw [if_pos rfl, if_pos (by omega), takeL_eq]
            simp
          · rw [if_neg hjq, if_neg (by omega)]
      · obtain ⟨p, g1, g2⟩ := h5 ho j hj1 hj2
        rw [h2 j, if_neg (by omega)] at g1
        exact ⟨p, g1, g2⟩
    cases old with
    | false =>
      obtain ⟨c', h1, h2, _⟩ := core r h
      exact ⟨c', h1, h2, fun h => by cases h⟩
    | true =>
      have h' : Option.rec (motive := fun _ => Option β) none
          (fun p => Bool.rec (motive := fun _ => Option β) none (Tr.set deep c q (takeL s l) fun c => layPieces true s k (dropL s l) (Nat.succ q) c κ) (Nat.beq (lenL p) s)) (c.get q) = some r := h
      cases hq : c.get q with
      | none => rw [hq] at h'; cases h'
      | some p =>
        rw [hq] at h'
        cases hb : Nat.beq (lenL p) s with
        | false => simp only [hb] at h'; cases h'
        | true =>
          simp only [hb] at h'
          have hps : p.length = s := by rw [← lenL_eq]; exact Nat.eq_of_beq_eq_true hb
          obtain ⟨c', h1, h2, h3⟩ := core r h'
          refine ⟨c', h1, h2, fun ho j hj1 hj2 => ?_⟩
          by_cases hjq : j = q
          · subst hjq; exact ⟨p, hq, hps⟩
          · exact h3 ho j (by omega) (by omega)

theorem cell_of_pieces (l : List AV) (s q k i : Nat) (hs : 0 < s) (hl : k * s ≤ l.length) (h1 : q * s ≤ i) (h2 : i < q * s + k * s) :
    ((l.drop ((i / s - q) * s)).take s).length = s ∧ ((l.drop ((i / s - q) * s)).take s)[i % s]? = l[i - q * s]? := by
  have hq : q ≤ i / s := (Nat.le_div_iff_mul_le hs).2 h1
  have hlt : i / s < q + k := by rw [Nat.div_lt_iff_lt_mul hs, Nat.add_mul]; exact h2
  have hk : (i / s - q + 1) * s ≤ k * s := Nat.mul_le_mul_right _ (by omega)
  have hsub : (i / s - q) * s = i / s * s - q * s := Nat.sub_mul _ _ _
  have hmod := Nat.mod_add_div i s
  have hmlt := Nat.mod_lt i hs
  have hcomm : s * (i / s) = i / s * s := Nat.mul_comm _ _
  have hadd : (i / s - q + 1) * s = (i / s - q) * s + s := by rw [Nat.add_mul, Nat.one_mul]
  constructor
  · rw [List.length_take, List.length_drop]
    omega
  · rw [List.getElem?_take_of_lt hmlt, List.getElem?_drop]
    congr 1
    have := Nat.mul_le_mul_right s hq
    omega

theorem mkBlk_spec (cs : List AV) (e : TypeId) (g : Bool) (s : Nat) (κ : Blk → Option β) (r : β) (h : mkBlk cs e g s κ = some r) :
    ∃ B, κ B = some r ∧ B.n = cs.length ∧ B.elem = e ∧ B.grown = g ∧ B.s = s ∧ (0 < s ∧ e ≠ roT) ∧ ∀ i, cellOf B i = cs[i]? := by
  unfold mkBlk at h
  simp only [fN_eq] at h
  cases hb : (Nat.ble 1 s && Nat.beq (Nat.mod (lenL cs) s) 0 && !Nat.beq e roT) with
  | false => rw [hb] at h; cases h
  | true =>
    rw [hb] at h
    have hb0 : Nat.ble 1 s = true ∧ Nat.beq (Nat.mod (lenL cs) s) 0 = true ∧ Nat.beq e roT = false := by
      revert hb; cases Nat.ble 1 s <;> cases Nat.beq (Nat.mod (lenL cs) s) 0 <;> cases Nat.beq e roT <;> simp
    have hb' : Nat.ble 1 s = true ∧ Nat.beq (Nat.mod (lenL cs) s) 0 = true := ⟨hb0.1, hb0.2.1⟩
    have hro : e ≠ roT := fun hc => by
      have h1 := hb0.2.2
      rw [hc, show Nat.beq roT roT = true from Nat.beq_refl _] at h1
      cases h1
    have hs : 0 < s := Nat.le_of_ble_eq_true hb'.1
    have hm : cs.length % s = 0 := by have := Nat.eq_of_beq_eq_true hb'.2; rw [lenL_eq] at this; exact this
    have hd : cs.length / s * s = cs.length := Nat.div_mul_cancel (Nat.dvd_of_mod_eq_zero hm)
    have h : (layPieces false s (cs.length / s) cs 0 .nil fun ch => κ ⟨lenL cs, e, g, s, ch⟩) = some r := by
      rw [← lenL_eq]; exact h
    obtain ⟨c, h1, h2, _⟩ := layPieces_spec false s (cs.length / s) cs 0 .nil _ r (by omega) h
    rw [lenL_eq] at h1
    refine ⟨_, h1, rfl, rfl, rfl, rfl, ⟨hs, hro⟩, fun i => ?_⟩
    simp only [cellOf]
    rw [h2]
    by_cases hi : i < cs.length
    · have hlt : i / s < cs.length / s := by rw [Nat.div_lt_iff_lt_mul hs, hd]; exact hi
      rw [if_pos ⟨Nat.zero_le _, by omega⟩]
      obtain ⟨g1, g2⟩ := cell_of_pieces cs s 0 (cs.length / s) i hs (by omega) (by omega) (by omega)
      simp only [g1, if_true, g2]
      simp
    · have hge : cs.length / s ≤ i / s := Nat.div_le_div_right (by omega)
      rw [if_neg (by omega), Tr.get_nil]
      simp
      omega

theorem writeCells_spec (B : Blk) (off : Nat) (l : List AV) (κ : Blk → Option β) (r : β) (h : writeCells B off l κ = some r) :
    ∃ B', κ B' = some r ∧ B'.n = B.n ∧ B'.elem = B.elem ∧ B'.grown = B.grown ∧ B'.s = B.s ∧
      (∀ i, cellOf B' i = if off ≤ i ∧ i < off + l.length then l[i - off]? else cellOf B i) ∧
      (∀ i, i < l.length → ∃ v, cellOf B (off + i) = some v) := by
  obtain ⟨bn, be, bg, s, ch⟩ := B
  have h' : Bool.rec (motive := fun _ => Option β)
      (Bool.rec (motive := fun _ => Option β) none (layPieces true s (Nat.div (lenL l) s) l (Nat.div off s) ch fun ch => κ ⟨bn, be, bg, s, ch⟩)
        (Nat.beq (Nat.mod off s) 0 && Nat.beq (Nat.mod (lenL l) s) 0 && Nat.ble 1 s))
      (Option.rec (motive := fun _ => Option β) none
        (fun p => Bool.rec (motive := fun _ => Option β) none (Tr.set deep ch (Nat.div off s) (splice l (Nat.mod off s) p) fun ch => κ ⟨bn, be, bg, s, ch⟩) (Nat.beq (lenL p) s)) (ch.get (Nat.div off s)))
      (Nat.ble (Nat.add (Nat.mod off s) (lenL l)) s) = some r := h
  rw [lenL_eq] at h'
  cases hb : Nat.ble (Nat.add (Nat.mod off s) l.length) s with
  | true =>
    rw [hb] at h'
    have hle : off % s + l.length ≤ s := Nat.le_of_ble_eq_true hb
    cases hp : ch.get (Nat.div off s) with
    | none => rw [hp] at h'; cases h'
    | some p =>
      rw [hp] at h'
      cases hl : Nat.beq (lenL p) s with
      | false => simp only [hl] at h'; cases h'
      | true =>
        simp only [hl] at h'
        have hps : p.length = s := by rw [← lenL_eq]; exact Nat.eq_of_beq_eq_true hl
        obtain ⟨c1, h1, h2⟩ := Tr.set_spec _ _ _ _ _ _ h'
        have hp' : ch.get (off / s) = some p := hp
        have h2 : ∀ (j : Nat), c1.get j = if j = off / s then some (splice l (off % s) p) else ch.get j := h2
        have hoff := Nat.mod_add_div off s
        refine ⟨_, h1, rfl, rfl, rfl, rfl, fun i => ?_, fun i hi => ?_⟩
        · simp only [cellOf]
          rw [h2]
          by_cases hq : i / s = off / s
          · rw [if_pos hq, hq, hp']
            have hsp : off % s + l.length ≤ p.length := by omega
            simp only [length_splice _ _ _ hsp, hps, if_true]
            rw [getElem?_splice _ _ _ hsp]
            have hi := Nat.mod_add_div i s
            rw [hq] at hi
            by_cases hr : off ≤ i ∧ i < off + l.length
            · rw [if_pos hr, if_pos (by omega)]
              congr 1; omega
            · rw [if_neg hr, if_neg (by omega)]
          · rw [if_neg hq]
            by_cases hs : s = 0
            · have : ¬ (off ≤ i ∧ i < off + l.length) := by
                intro hh
                have : l.length = 0 := by omega
                omega
              rw [if_neg this]
            · have hs' : 0 < s := Nat.pos_of_ne_zero hs
              have : ¬ (off ≤ i ∧ i < off + l.length) := by
                intro hh
                apply hq
                have e := (add_div_of_mod off (i - off) s (by omega)).1
                rw [← e]; congr 1; omega
              rw [if_neg this]
        · have hlt : off % s + i < p.length := by omega
          obtain ⟨e1, e2⟩ := add_div_of_mod off i s (by omega)
          refine ⟨p[off % s + i], ?_⟩
          simp only [cellOf]
          rw [e1, e2, hp']
          simp [hps, List.getElem?_eq_getElem hlt]
  | false =>
    rw [hb] at h'
    cases hc : (Nat.beq (Nat.mod off s) 0 && Nat.beq (Nat.mod l.length s) 0 && Nat.ble 1 s) with
    | false => rw [hc] at h'; cases h'
    | true =>
      rw [hc] at h'
      obtain ⟨c1, c2, c3⟩ := and3.1 hc
      have hs : 0 < s := Nat.le_of_ble_eq_true c3
      have ho : off % s = 0 := Nat.eq_of_beq_eq_true c1
      have hn : l.length % s = 0 := Nat.eq_of_beq_eq_true c2
      have hnn : l.length / s * s = l.length := Nat.div_mul_cancel (Nat.dvd_of_mod_eq_zero hn)
      have hoff : off / s * s = off := Nat.div_mul_cancel (Nat.dvd_of_mod_eq_zero ho)
      obtain ⟨c', h1, h2, h3⟩ := layPieces_spec true s (l.length / s) l (off / s) ch _ r (by omega) h'
      refine ⟨_, h1, rfl, rfl, rfl, rfl, fun i => ?_, fun i hi => ?_⟩
      · simp only [cellOf]
        rw [h2]
        by_cases hr : off ≤ i ∧ i < off + l.length
        · have q1 : off / s ≤ i / s := Nat.div_le_div_right hr.1
          have q2 : i / s < off / s + l.length / s := by rw [Nat.div_lt_iff_lt_mul hs, Nat.add_mul, hnn, hoff]; exact hr.2
          rw [if_pos hr, if_pos ⟨q1, q2⟩]
          obtain ⟨g1, g2⟩ := cell_of_pieces l s (off / s) (l.length / s) i hs (by omega) (by omega) (by omega)
          simp only [g1, if_true, g2, hoff]
        · have : ¬ (off / s ≤ i / s ∧ i / s < off / s + l.length / s) := by
            rintro ⟨q1, q2⟩
            apply hr
            rw [Nat.le_div_iff_mul_le hs] at q1
            rw [Nat.div_lt_iff_lt_mul hs, Nat.add_mul, hnn, hoff] at q2
            omega
          rw [if_neg hr, if_neg this]
      · have q1 : off / s ≤ (off + i) / s := Nat.div_le_div_right (by omega)
        have q2 : (off + i) / s < off / s + l.length / s := by rw [Nat.div_lt_iff_lt_mul hs, Nat.add_mul, hnn, hoff]; omega
        obtain ⟨p, g1, g2⟩ := h3 rfl _ q1 q2
        have hlt : (off + i) % s < p.length := by rw [g2]; exact Nat.mod_lt _ hs
        refine ⟨p[(off + i) % s], ?_⟩
        simp only [cellOf]
        rw [g1]
        simp [g2, List.getElem?_eq_getElem hlt]
end

/-! Frames. -/

theorem Fr.get_put {β : Type} (fr : Fr) (dst : Option Tmp) (x : AV) (κ : Fr → Option β) (r : β) (h : put fr dst x κ = some r) :
    ∃ fr', κ fr' = some r ∧ fr'.size = fr.size ∧ (∀ d, dst = some d → d < fr.size.1) ∧ ∀ j, fr'.get j = if dst = some j then some x else fr.get j := by
  cases dst with
  | none => exact ⟨fr, h, rfl, ⟨fun d hd => (by cases hd), fun j => (by simp)⟩⟩
  | some d =>
    obtain ⟨size, gl, t, loc⟩ := fr
    have h' : putIn d x κ size gl t loc = some r := h
    unfold putIn at h'
    cases hb : Nat.ble (Nat.succ d) size.1 with
    | false => rw [hb] at h'; cases h'
    | true =>
      rw [hb] at h'
      have hd : d < size.1 := Nat.le_of_ble_eq_true hb
      simp only [force_eq] at h'
      unfold putGl at h'
      cases hg : bit gl d with
      | false =>
        rw [hg] at h'
        refine ⟨_, h', rfl, fun e he => by cases he; exact hd, fun j => ?_⟩
        show Bool.rec (motive := fun _ => Option AV) (locEq (d, x) j (locGet loc j)) (t.get j) (bit gl j) = if some d = some j then some x else Bool.rec (motive := fun _ => Option AV) (locGet loc j) (t.get j) (bit gl j)
        by_cases hj : d = j
        · subst hj
          rw [hg]
          simp [locEq]
        · have : Nat.beq d j = false := by
            cases hbj : Nat.beq d j with
            | false => rfl
            | true => exact absurd (Nat.eq_of_beq_eq_true hbj) hj
          have hne : ¬ some d = some j := fun e => hj (Option.some.inj e)
          rw [if_neg hne]
          simp [locEq, this]
      | true =>
        rw [hg] at h'
        obtain ⟨t', h1, h2⟩ := Tr.set_spec _ _ _ _ _ _ h'
        refine ⟨_, h1, rfl, fun e he => by cases he; exact hd, fun j => ?_⟩
        show Bool.rec (motive := fun _ => Option AV) (locGet loc j) (t'.get j) (bit gl j) = if some d = some j then some x else Bool.rec (motive := fun _ => Option AV) (locGet loc j) (t.get j) (bit gl j)
        rw [h2 j]
        by_cases hj : d = j
        · subst hj
          rw [hg]
          simp
        · have hne : ¬ some d = some j := fun e => hj (Option.some.inj e)
          rw [if_neg hne, if_neg (fun e => hj e.symm)]

theorem Fr.get_out (fr : Fr) (j : Nat) (v : AV) (h : fr.out.get j = some v) : fr.get j = some v := by
  obtain ⟨size, gl, t, loc⟩ := fr
  have h' : Bool.rec (motive := fun _ => Option AV) none (t.get j) (bit gl j) = some v := h
  show Bool.rec (motive := fun _ => Option AV) (locGet loc j) (t.get j) (bit gl j) = some v
  cases hb : bit gl j with
  | false => rw [hb] at h'; cases h'
  | true => rw [hb] at h'; exact h'

theorem Fr.size_out (fr : Fr) : fr.out.size = fr.size := by obtain ⟨size, gl, t, loc⟩ := fr; rfl

theorem blkOf_set {h h' : Tr (Option Blk)} {b : Nat} {x : Option Blk} (hs : ∀ j, h'.get j = if j = b then some x else h.get j) (j : Nat) :
    blkOf h' j = if j = b then x else blkOf h j := by
  unfold blkOf
  rw [hs j]
  by_cases hj : j = b
  · subst hj; cases x <;> simp
  · simp [hj]

/-! What abstract values, frames and memory say of the model's own. -/

/-- Which block each abstract number stands for, and the capacity of a block whose capacity is open. -/
structure Env where
  ρ : Nat → Nat
  κ : Nat → Nat

/-- A string of these bytes. -/
def strOf (l : List Int) : ByteArray := l.foldl (fun r n => r.push (UInt8.ofNat n.toNat)) ByteArray.empty

/-- A value of one cell. -/
def oneC (v : Value) : Value := if v.oneCell' = true then v else .bool false

/-- One of these. -/
def pickV (l : List Value) (n : Nat) : Value := oneC (l.getD n (l.headD (.bool false)))

theorem oneC_one (v : Value) : (oneC v).oneCell' = true := by
  unfold oneC
  split
  · assumption
  · rfl

theorem cells_of_one {v : Value} (h : v.oneCell' = true) : v.cells = #[v] := by
  cases v <;> first | rfl | (simp [Value.oneCell'] at h)

mutual
def conc [Syms] (E : Env) : AV → Value
  | .v x => x
  | .ptr b off => .pointer (some ⟨E.ρ b, off, none⟩)
  | .sl b off len cap => .slice (some ⟨E.ρ b, off, none⟩) len cap
  | .slu b len => .slice (some ⟨E.ρ b, 0, none⟩) len (E.κ b)
  | .fn f first capt => .func f (concs E first).toArray (concs E capt).toArray
  | .iface t x => .iface t (conc E x)
  | .agg xs => .agg (concs E xs).toArray
  | .tup xs => .tuple (concs E xs).toArray
  | .sym k => .int .i64 (Syms.val k)
  | .sx k e => .int k (e.eval Syms.val)
  | .sb b => .bool (b.eval Syms.val)
  | .osl k => .slice (Syms.sla k).1 (Syms.val k).toNat (Syms.sla k).2
  | .str l => .string (strOf (l.map (SX.eval Syms.val)))
  | .op b off => .pointer (some ⟨E.ρ b, E.κ b + off, none⟩)
  | .ox b off _ x => .pointer (some ⟨E.ρ b, E.κ b + (off + (x.eval Syms.val).toNat), none⟩)
  | .px b off _ x => .pointer (some ⟨E.ρ b, off + (x.eval Syms.val).toNat, none⟩)
  | .os b off len kc d => .slice (some ⟨E.ρ b, E.κ b + off, none⟩) len ((Syms.val kc).toNat - d)
  | .yl b => .func (.yield (E.ρ b)) #[] #[]
  | .lp _ _ _ _ _ _ _ => .bool false
  | .ps b off s _ x => .pointer (some ⟨E.ρ b, off + (x.eval Syms.val).toNat * s, none⟩)
  | .pick l x => pickV (concs E l) (x.eval Syms.val).toNat
  | .ry b o n c => .slice (if n.eval Syms.val = 0 then (Syms.sla b).1 else some ⟨E.ρ b, E.κ b + (if c.eval Syms.val = o.eval Syms.val then 0 else (o.eval Syms.val).toNat), none⟩) (n.eval Syms.val).toNat (if n.eval Syms.val = 0 then (Syms.sla b).2 else (c.eval Syms.val - o.eval Syms.val).toNat)
  | .lsl b n => .slice (some ⟨E.ρ b, 0, none⟩) (n.eval Syms.val).toNat (E.κ b)
  | .rp b x => .pointer (some ⟨E.ρ b, E.κ b + (x.eval Syms.val).toNat, none⟩)
  | .row _ _ _ => .bool false
def concs [Syms] (E : Env) : List AV → List Value
  | [] => []
  | x :: r => conc E x :: concs E r
end

mutual
/-- The block numbers of a value are among A. -/
def wfV (A : Nat → Prop) : AV → Prop
  | .v _ => True
  | .ptr b _ => A b
  | .sl b _ _ _ => A b
  | .slu b _ => A b
  | .fn _ first capt => wfVs A first ∧ wfVs A capt
  | .iface _ x => wfV A x
  | .agg xs => wfVs A xs
  | .tup xs => wfVs A xs
  | .sym _ => True
  | .sx _ _ => True
  | .sb _ => True
  | .osl _ => True
  | .str _ => True
  | .op b _ => A b
  | .ox b _ _ _ => A b
  | .px b _ _ _ => A b
  | .os b _ _ _ _ => A b
  | .yl b => A b
  | .lp _ _ _ vs _ _ _ => wfVs A vs
  | .ps b _ _ _ _ => A b
  | .pick l _ => wfVs A l
  | .ry b _ _ _ => A b
  | .lsl b _ => A b
  | .rp b _ => A b
  | .row _ _ _ => True
def wfVs (A : Nat → Prop) : List AV → Prop
  | [] => True
  | x :: r => wfV A x ∧ wfVs A r
end

theorem concs_eq [Syms] (E : Env) (l : List AV) : concs E l = l.map (conc E) := by
  induction l with
  | nil => rfl
  | cons x r ih => simp [concs, ih]

theorem wfVs_iff (A : Nat → Prop) (l : List AV) : wfVs A l ↔ ∀ x ∈ l, wfV A x := by
  induction l with
  | nil => simp [wfVs]
  | cons x r ih => simp [wfVs, ih]

mutual
theorem wfV.mono {A A' : Nat → Prop} (h : ∀ b, A b → A' b) : ∀ (x : AV), wfV A x → wfV A' x
  | .v _, _ => trivial
  | .ptr _ _, hx => h _ hx
  | .sl _ _ _ _, hx => h _ hx
  | .slu _ _, hx => h _ hx
  | .fn _ first capt, hx => ⟨wfVs.mono h first hx.1, wfVs.mono h capt hx.2⟩
  | .iface _ x, hx => wfV.mono h x hx
  | .agg xs, hx => wfVs.mono h xs hx
  | .tup xs, hx => wfVs.mono h xs hx
  | .sym _, _ => trivial
  | .sx _ _, _ => trivial
  | .sb _, _ => trivial
  | .osl _, _ => trivial
  | .str _, _ => trivial
  | .op _ _, hx => h _ hx
  | .ox _ _ _ _, hx => h _ hx
  | .px _ _ _ _, hx => h _ hx
  | .os _ _ _ _ _, hx => h _ hx
  | .yl _, hx => h _ hx
  | .lp _ _ _ vs _ _ _, hx => wfVs.mono h vs hx
  | .ps _ _ _ _ _, hx => h _ hx
  | .pick l _, hx => wfVs.mono h l hx
  | .ry _ _ _ _, hx => h _ hx
  | .lsl _ _, hx => h _ hx
  | .rp _ _, hx => h _ hx
  | .row _ _ _, _ => trivial
theorem wfVs.mono {A A' : Nat → Prop} (h : ∀ b, A b → A' b) : ∀ (l : List AV), wfVs A l → wfVs A' l
  | [], _ => trivial
  | x :: r, hx => ⟨wfV.mono h x hx.1, wfVs.mono h r hx.2⟩
end

/-- Two readings agree on A. -/
def Agree (A : Nat → Prop) (E E' : Env) : Prop := ∀ b, A b → E'.ρ b = E.ρ b ∧ E'.κ b = E.κ b

mutual
theorem conc_agree [Syms] {A : Nat → Prop} {E E' : Env} (h : Agree A E E') : ∀ (x : AV), wfV A x → conc E' x = conc E x
  | .v _, _ => by simp [conc]
  | .ptr b _, hx => by simp [conc, (h b hx).1]
  | .sl b _ _ _, hx => by simp [conc, (h b hx).1]
  | .slu b _, hx => by simp [conc, (h b hx).1, (h b hx).2]
  | .fn _ first capt, hx => by simp [conc, concs_agree h first hx.1, concs_agree h capt hx.2]
  | .iface _ x, hx => by simp [conc, conc_agree h x hx]
  | .agg xs, hx => by simp [conc, concs_agree h xs hx]
  | .tup xs, hx => by simp [conc, concs_agree h xs hx]
  | .sym _, _ => by simp [conc]
  | .sx _ _, _ => by simp [conc]
  | .sb _, _ => by simp [conc]
  | .osl _, _ => by simp [conc]
  | .str _, _ => by simp [conc]
  | .px b _ _ _, hx => by simp [conc, (h b hx).1]
  | .ox b _ _ _, hx => by simp [conc, (h b hx).1, (h b hx).2]
  | .op b _, hx => by simp [conc, (h b hx).1, (h b hx).2]
  | .os b _ _ _ _, hx => by simp [conc, (h b hx).1, (h b hx).2]
  | .yl b, hx => by simp [conc, (h b hx).1]
  | .lp _ _ _ _ _ _ _, _ => by simp [conc]
  | .ps b _ _ _ _, hx => by simp [conc, (h b hx).1]
  | .pick l _, hx => by simp [conc, concs_agree h l hx]
  | .ry b _ _ _, hx => by simp [conc, (h b hx).1, (h b hx).2]
  | .lsl b _, hx => by simp [conc, (h b hx).1, (h b hx).2]
  | .rp b _, hx => by simp [conc, (h b hx).1, (h b hx).2]
  | .row _ _ _, _ => by simp [conc]
theorem concs_agree [Syms] {A : Nat → Prop} {E E' : Env} (h : Agree A E E') : ∀ (l : List AV), wfVs A l → concs E' l = concs E l
  | [], _ => by simp [concs]
  | x :: r, hx => by simp [concs, conc_agree h x hx.1, concs_agree h r hx.2]
end

theorem conc_cells [Syms] (E : Env) (x : AV) : (conc E x).cells = (concs E x.cells).toArray := by
  cases x with
  | v x => cases x <;> simp [conc, AV.cells, Value.cells, concs_eq, Function.comp_def]
  | pick l x => simp [conc, AV.cells, concs, cells_of_one (oneC_one _), pickV]
  | _ => simp [conc, AV.cells, Value.cells, concs]

theorem wfV_cells {A : Nat → Prop} {x : AV} (h : wfV A x) : wfVs A x.cells := by
  rw [wfVs_iff]
  cases x with
  | v x =>
    intro y hy
    cases x <;> simp [AV.cells] at hy <;> first | (subst hy; trivial) | (obtain ⟨z, _, rfl⟩ := hy; trivial)
  | agg xs => exact (wfVs_iff A xs).1 h
  | _ => intro y hy; simp [AV.cells] at hy; subst hy; exact h

theorem one_conc [Syms] (E : Env) (x : AV) (h : x.one = true) : (conc E x).oneCell' = true := by
  cases x with
  | v x => cases x <;> simp [AV.one] at h <;> simp [conc, Value.oneCell']
  | pick l x => simp only [conc]; exact oneC_one _
  | _ => simp [AV.one] at h <;> simp [conc, Value.oneCell']

theorem isOwn_iff {B : Blk} : isOwn B = true ↔ B.elem ≠ roT := by
  obtain ⟨n, e, g, s, ch⟩ := B
  show (!Nat.beq e roT) = true ↔ e ≠ roT
  cases hb : Nat.beq e roT with
  | true => simp [Nat.eq_of_beq_eq_true hb]
  | false =>
    simp only [Bool.not_false, true_iff]
    intro hc
    rw [hc, show Nat.beq roT roT = true from Nat.beq_refl _] at hb
    cases hb

/-- What a loop's record is known to hold. -/
def spOK [Syms] (E : Env) (w : World) (b : Nat) : AV → Prop
  | .lp size _ ix vs ps asg bd => ∃ r : Loop, w.heap[E.ρ b]? = some (.loop r) ∧ r.state = .ready ∧ r.pending = none ∧ r.params = ps.toArray ∧ r.assign = asg ∧ r.body = bd ∧ r.tmps.size = size ∧
      ∀ (j : Nat) (d : Nat) (v : AV), ix[j]? = some d → vs[j]? = some v → r.tmps[d]? = some (conc E v)
  | _ => True

theorem spOK.keep [Syms] {E E' : Env} {A : Nat → Prop} {w w' : World} {b : Nat} {x : AV} (h : spOK E w b x) (hA : A b) (hwf : wfV A x) (hag : Agree A E E') (hw : w'.heap[E.ρ b]? = w.heap[E.ρ b]?) : spOK E' w' b x := by
  cases x with
  | lp size gl ix vs ps asg bd =>
    obtain ⟨r, h1, h2, h3, h4, h5, h6, h7, h8⟩ := h
    refine ⟨r, by rw [(hag b hA).1, hw]; exact h1, h2, h3, h4, h5, h6, h7, fun j d v hj hv => ?_⟩
    rw [conc_agree hag v ((wfVs_iff A vs).1 hwf v (List.mem_of_getElem? hv))]
    exact h8 j d v hj hv
  | _ => trivial

theorem spOf_ro {B : Blk} {x : AV} (h : spOf B = some x) : B.elem = roT := by
  obtain ⟨n, e, g, s, ch⟩ := B
  have h' : spIn e s ch = some x := h
  unfold spIn at h'
  cases hb : (Nat.beq e roT && Nat.beq s 0) with
  | false => rw [hb] at h'; cases h'
  | true => exact Nat.eq_of_beq_eq_true (Bool.and_eq_true_iff.1 hb).1

theorem rowOf_ro {B : Blk} {x : IntKind × Nat × SX} (h : rowOf B = some x) : B.elem = roT := by
  obtain ⟨n, e, g, s, ch⟩ := B
  have h' : rowIn e s ch = some x := h
  unfold rowIn at h'
  cases hb : (Nat.beq e roT && Nat.beq s 0) with
  | false => rw [hb] at h'; cases h'
  | true => exact Nat.eq_of_beq_eq_true (Bool.and_eq_true_iff.1 hb).1

/-- The cells of a row. -/
def RowOK [Syms] (E : Env) (w : World) (b : Nat) (k : IntKind) (k0 : Nat) (n : SX) : Prop :=
  ∀ i : Nat, (i : Int) < n.eval Syms.val → w.cell? ⟨E.ρ b, E.κ b + i, none⟩ = some (.int k (Syms.val (k0 + i)))

/-- Cells in the midst of a block: x says from where on, how many there are in all, the cells. -/
structure CatIn [Syms] (E : Env) (c : Array Value) (k : Nat) (x : SX × SX × List AV) : Prop where
  size : c.size = k
  max : k ≤ maxLen
  pos : 0 ≤ x.1.eval Syms.val
  fit : x.1.eval Syms.val + x.2.2.length ≤ x.2.1.eval Syms.val
  le : x.2.1.eval Syms.val ≤ (k : Int)
  wf : wfVs (fun _ => False) x.2.2
  cells : ∀ i v, x.2.2[i]? = some v → c[(x.1.eval Syms.val).toNat + i]? = some (conc E v)
  all : ∀ j : Nat, (j : Int) < x.2.1.eval Syms.val → ∃ z, c[j]? = some (.int .u8 z)

theorem CatIn.env [Syms] {E E' : Env} {c : Array Value} {k : Nat} {x : SX × SX × List AV} (h : CatIn E c k x) : CatIn E' c k x :=
  ⟨h.size, h.max, h.pos, h.fit, h.le, h.wf, fun i v hv => by rw [conc_agree (E := E) (A := fun _ => False) (fun _ hb => hb.elim) v ((wfVs_iff _ _).1 h.wf v (List.mem_of_getElem? hv))]; exact h.cells i v hv, h.all⟩

theorem catOf_s {B : Blk} (h : 0 < B.s) : catOf B = none := by
  obtain ⟨n, e, g, s, ch⟩ := B
  show catIn e s ch = none
  unfold catIn
  cases hb : (!Nat.beq e roT && Nat.beq s 0) with
  | false => rfl
  | true => have := Nat.eq_of_beq_eq_true (Bool.and_eq_true_iff.1 hb).2; simp only at h; omega

theorem catOf_own {B : Blk} {x : SX × SX × List AV} (h : catOf B = some x) : B.elem ≠ roT := by
  obtain ⟨n, e, g, s, ch⟩ := B
  have h' : catIn e s ch = some x := h
  unfold catIn at h'
  cases hb : (!Nat.beq e roT && Nat.beq s 0) with
  | false => rw [hb] at h'; cases h'
  | true =>
    intro he
    have := (Bool.and_eq_true_iff.1 hb).1
    simp only at he
    rw [he, show Nat.beq roT roT = true from Nat.beq_refl _] at this
    cases this

/-- What a block of memory holds: one of the run's own, or one that lay there before, of which but some cells are known. -/
structure BRel [Syms] (E : Env) (w : World) (b : Nat) (B : Blk) : Prop where
  lt : E.ρ b < w.heap.size
  own : B.elem ≠ roT → ∃ c, w.heap[E.ρ b]? = some (.cells c B.elem (0, 0)) ∧ (∀ i v, cellOf B i = some v → i < B.n ∧ c[i]? = some (conc E v)) ∧
    (B.grown = true → c.size = E.κ b * B.s ∧ E.κ b ≤ maxLen ∧ B.n ≤ c.size)
  ro : B.elem = roT → B.grown = false ∧ ∀ i v, cellOf B i = some v → i < B.n ∧ w.cell? ⟨E.ρ b, E.κ b + i, none⟩ = some (conc E v)
  sp : ∀ x, spOf B = some x → spOK E w b x
  row : ∀ k k0 n, rowOf B = some (k, k0, n) → RowOK E w b k k0 n
  cat : ∀ x, catOf B = some x → ∃ c, w.heap[E.ρ b]? = some (.cells c B.elem (0, 0)) ∧ CatIn E c (E.κ b) x

theorem BRel.grown [Syms] {E : Env} {w : World} {b : Nat} {B : Blk} (h : BRel E w b B) (hg : B.grown = true) : B.elem ≠ roT := by
  intro he
  rw [(h.ro he).1] at hg
  cases hg

theorem BRel.mk_own [Syms] {E : Env} {w : World} {b : Nat} {B : Blk} (hne : B.elem ≠ roT) (h : ∃ c, w.heap[E.ρ b]? = some (.cells c B.elem (0, 0)) ∧ (∀ i v, cellOf B i = some v → i < B.n ∧ c[i]? = some (conc E v)) ∧
    (B.grown = true → c.size = E.κ b * B.s ∧ E.κ b ≤ maxLen ∧ B.n ≤ c.size)) (hcat : ∀ x, catOf B = some x → ∃ c, w.heap[E.ρ b]? = some (.cells c B.elem (0, 0)) ∧ CatIn E c (E.κ b) x) : BRel E w b B := by
  refine ⟨?_, fun _ => h, fun he => absurd he hne, fun x hx => absurd (spOf_ro hx) hne, fun k k0 n hx => absurd (rowOf_ro hx) hne, hcat⟩
  obtain ⟨c, hc, _⟩ := h
  exact (Array.getElem?_eq_some_iff.1 hc).1

/-- Memory: the blocks of H, their numbers among A, lie apart, and hold what H says. -/
structure HRel [Syms] (E : Env) (A : Nat → Prop) (H : Nat → Option Blk) (w : World) : Prop where
  mem : ∀ b B, H b = some B → A b
  blk : ∀ b B, H b = some B → BRel E w b B
  wf : ∀ b B, H b = some B → ∀ i v, cellOf B i = some v → wfV A v
  spwf : ∀ b B, H b = some B → ∀ x, spOf B = some x → wfV A x
  spinj : ∀ b b' B B' x x', H b = some B → H b' = some B' → spOf B = some x → spOf B' = some x' → E.ρ b = E.ρ b' → b = b'
  inj : ∀ b b' B B', H b = some B → H b' = some B' → (B.elem ≠ roT ∨ B'.elem ≠ roT) → E.ρ b = E.ρ b' → b = b'

/-- A frame. -/
structure FRel [Syms] (E : Env) (A : Nat → Prop) (fr : Fr) (a : Act) : Prop where
  defers : a.defers.length = fr.size.2
  size : a.tmps.size = fr.size.1
  tmp : ∀ d v, fr.get d = some v → a.tmps[d]? = some (conc E v) ∧ wfV A v

/-- From (E, H, w) to (E', H', w'): what lies outside the blocks of H that are the run's own has not turned; those of H' were among H's, or are new. -/
structure Upd (E : Env) (H : Nat → Option Blk) (w : World) (E' : Env) (H' : Nat → Option Blk) (w' : World) : Prop where
  os : w'.os = w.os
  tape : w'.tape = w.tape
  output : w'.output = w.output
  size : w.heap.size ≤ w'.heap.size
  frame : ∀ k, k < w.heap.size → (∀ b B, H b = some B → B.elem ≠ roT → E.ρ b ≠ k) → w'.heap[k]? = w.heap[k]?
  fresh : ∀ b' B', H' b' = some B' → B'.elem ≠ roT → (∃ b B, H b = some B ∧ B.elem ≠ roT ∧ E.ρ b = E'.ρ b') ∨ w.heap.size ≤ E'.ρ b'
  ro : ∀ b' B', H' b' = some B' → B'.elem = roT → H b' = some B' ∧ E'.ρ b' = E.ρ b'

theorem Upd.refl (E : Env) (H : Nat → Option Blk) (w : World) : Upd E H w E H w :=
  ⟨rfl, rfl, rfl, Nat.le_refl _, fun _ _ _ => rfl, fun b' B' h hn => .inl ⟨b', B', h, hn, rfl⟩, fun _ _ h _ => ⟨h, rfl⟩⟩

theorem Upd.trans {E E' E'' : Env} {H H' H'' : Nat → Option Blk} {w w' w'' : World} (h : Upd E H w E' H' w') (k : Upd E' H' w' E'' H'' w'') :
    Upd E H w E'' H'' w'' := by
  refine ⟨k.os.trans h.os, k.tape.trans h.tape, k.output.trans h.output, Nat.le_trans h.size k.size, fun i hi hn => ?_, fun b'' B'' hb ho => ?_, fun b'' B'' hb ho => ?_⟩
  · rw [k.frame i (Nat.lt_of_lt_of_le hi h.size) ?_, h.frame i hi hn]
    intro b' B' hb' ho' he
    rcases h.fresh b' B' hb' ho' with ⟨b, B, hb, ho, hρ⟩ | hge
    · exact hn b B hb ho (hρ.trans he)
    · omega
  · rcases k.fresh b'' B'' hb ho with ⟨b', B', hb', ho', hρ⟩ | hge
    · rcases h.fresh b' B' hb' ho' with ⟨b, B, hb, ho2, hρ'⟩ | hge'
      · exact .inl ⟨b, B, hb, ho2, hρ'.trans hρ⟩
      · exact .inr (by omega)
    · exact .inr (Nat.le_trans h.size hge)
  · obtain ⟨k1, k2⟩ := k.ro b'' B'' hb ho
    obtain ⟨k3, k4⟩ := h.ro b'' B'' k1 ho
    exact ⟨k3, k2.trans k4⟩

theorem cell_of_heap {w w' : World} {k o : Nat} (h : w'.heap[k]? = w.heap[k]?) : w'.cell? ⟨k, o, none⟩ = w.cell? ⟨k, o, none⟩ := by
  simp only [World.cell?, h]

/-- A block that has not turned, under a reading that agrees. -/
theorem BRel.keep [Syms] {E E' : Env} {A : Nat → Prop} {w w' : World} {b : Nat} {B : Blk} (h : BRel E w b B) (hA : A b) (hwf : ∀ i v, cellOf B i = some v → wfV A v)
    (hag : Agree A E E') (hsz : w.heap.size ≤ w'.heap.size) (hw : w'.heap[E.ρ b]? = w.heap[E.ρ b]?) (hsp : ∀ x, spOf B = some x → wfV A x) : BRel E' w' b B := by
  refine ⟨by rw [(hag b hA).1]; exact Nat.lt_of_lt_of_le h.lt hsz, fun hn => ?_, fun he => ?_, fun x hx => (h.sp x hx).keep hA (hsp x hx) hag hw, fun k k0 n hr i hi => ?_, fun x hx => ?_⟩
  · obtain ⟨c, h1, h2, h3⟩ := h.own hn
    refine ⟨c, by rw [(hag b hA).1, hw]; exact h1, fun i v hv => ?_, fun hg => ?_⟩
    · obtain ⟨g1, g2⟩ := h2 i v hv
      exact ⟨g1, by rw [conc_agree hag v (hwf i v hv)]; exact g2⟩
    · rw [(hag b hA).2]; exact h3 hg
  · obtain ⟨h1, h2⟩ := h.ro he
    refine ⟨h1, fun i v hv => ?_⟩
    obtain ⟨g1, g2⟩ := h2 i v hv
    refine ⟨g1, ?_⟩
    rw [(hag b hA).1, (hag b hA).2, conc_agree hag v (hwf i v hv), cell_of_heap hw]
    exact g2
  · rw [(hag b hA).1, (hag b hA).2, cell_of_heap hw]
    exact h.row k k0 n hr i hi
  · obtain ⟨c, h1, h2⟩ := h.cat x hx
    exact ⟨c, by rw [(hag b hA).1, hw]; exact h1, by rw [(hag b hA).2]; exact h2.env⟩

/-- The same memory, under a reading that agrees, with more numbers. -/
theorem HRel.agree [Syms] {E E' : Env} {A A' : Nat → Prop} {H : Nat → Option Blk} {w : World} (h : HRel E A H w) (hag : Agree A E E') (hA : ∀ b, A b → A' b) : HRel E' A' H w where
  mem b B hb := hA b (h.mem b B hb)
  blk b B hb := (h.blk b B hb).keep (h.mem b B hb) (h.wf b B hb) hag (Nat.le_refl _) rfl (h.spwf b B hb)
  spwf b B hb x hx := (h.spwf b B hb x hx).mono hA x
  spinj b b' B B' x x' hb hb' hx hx' he := h.spinj b b' B B' x x' hb hb' hx hx' (by rw [(hag b (h.mem b B hb)).1, (hag b' (h.mem b' B' hb')).1] at he; exact he)
  wf b B hb i v hv := (h.wf b B hb i v hv).mono hA v
  inj b b' B B' hb hb' ho he := h.inj b b' B B' hb hb' ho (by rw [(hag b (h.mem b B hb)).1, (hag b' (h.mem b' B' hb')).1] at he; exact he)

theorem FRel.agree [Syms] {E E' : Env} {A A' : Nat → Prop} {fr : Fr} {a : Act} (h : FRel E A fr a) (hag : Agree A E E') (hA : ∀ b, A b → A' b) : FRel E' A' fr a where
  defers := h.defers
  size := h.size
  tmp d v hv := by
    obtain ⟨h1, h2⟩ := h.tmp d v hv
    exact ⟨by rw [conc_agree hag v h2]; exact h1, h2.mono hA v⟩

theorem HRel.sub [Syms] {E : Env} {A : Nat → Prop} {H H' : Nat → Option Blk} {w : World} (h : HRel E A H w) (hs : ∀ b B, H' b = some B → H b = some B) : HRel E A H' w where
  mem b B hb := h.mem b B (hs b B hb)
  blk b B hb := h.blk b B (hs b B hb)
  wf b B hb := h.wf b B (hs b B hb)
  spwf b B hb := h.spwf b B (hs b B hb)
  spinj b b' B B' x x' hb hb' := h.spinj b b' B B' x x' (hs b B hb) (hs b' B' hb')
  inj b b' B B' hb hb' := h.inj b b' B B' (hs b B hb) (hs b' B' hb')

theorem FRel.put [Syms] {E : Env} {A : Nat → Prop} {fr fr' : Fr} {a : Act} {dst : Option Tmp} {x : AV} (h : FRel E A fr a) (hx : wfV A x) (hsz : fr'.size = fr.size)
    (hd : ∀ d, dst = some d → d < fr.size.1) (hg : ∀ j, fr'.get j = if dst = some j then some x else fr.get j) : FRel E A fr' (a.put dst (conc E x)) := by
  cases dst with
  | none =>
    refine ⟨by rw [hsz]; exact h.defers, by rw [hsz]; exact h.size, fun d v hv => ?_⟩
    rw [hg d, if_neg (by simp)] at hv
    exact h.tmp d v hv
  | some t =>
    have ht := hd t rfl
    refine ⟨by rw [hsz]; exact h.defers, by simp only [Act.put, Array.size_setIfInBounds]; rw [hsz]; exact h.size, fun d v hv => ?_⟩
    rw [hg d] at hv
    simp only [Act.put]
    by_cases hdt : t = d
    · subst hdt
      rw [if_pos rfl] at hv
      cases hv
      exact ⟨by simp [h.size, ht], hx⟩
    · rw [if_neg (fun e => hdt (Option.some.inj e))] at hv
      obtain ⟨h1, h2⟩ := h.tmp d v hv
      exact ⟨by rw [Array.getElem?_setIfInBounds_ne hdt]; exact h1, h2⟩

theorem FRel.ev [Syms] {E : Env} {A : Nat → Prop} {fr : Fr} {a : Act} (h : FRel E A fr a) {x : Operand} {v : AV} (hv : evA fr x = some v) : a.eval x = conc E v ∧ wfV A v := by
  cases x with
  | tmp t =>
    obtain ⟨h1, h2⟩ := h.tmp t v hv
    exact ⟨by simp [Act.eval, h1], h2⟩
  | const c => cases hv; exact ⟨rfl, trivial⟩
  | global g => cases hv; exact ⟨rfl, trivial⟩
  | func f => cases hv; exact ⟨rfl, trivial⟩

/-- What a function of operands gives is what the model's gives. -/
def EvOK [Syms] (E : Env) (A : Nat → Prop) (ev : Operand → Option AV) (ρ : Operand → Value) : Prop := ∀ x v, ev x = some v → ρ x = conc E v ∧ wfV A v

theorem FRel.evOK [Syms] {E : Env} {A : Nat → Prop} {fr : Fr} {a : Act} (h : FRel E A fr a) : EvOK E A (evA fr) a.eval := fun _ _ hv => h.ev hv

/-! The operations that leave memory alone: what the interpreter makes of one is what the model makes of it. -/

theorem add_lit (b off n : Nat) : (⟨b, off, none⟩ : Addr).add n = ⟨b, off + n, none⟩ := Addr.add_lit b off n

section
variable {P : Program} {E : Env} {A : Nat → Prop} {H : Nat → Option Blk} {w : World} {ev : Operand → Option AV} {ρ : Operand → Value}

theorem sz_info {t : TypeId} {n : Nat} (h : sz P t = some n) : ∃ i, P.info? t = some i ∧ i.size = n := by
  unfold sz at h
  split at h
  · rename_i i hi; exact ⟨i, hi, by simpa using h⟩
  · cases h

theorem run_sizeOf {t : TypeId} {n : Nat} (h : sz P t = some n) (w : World) : (sizeOf t).run P w = .ok n w := by
  obtain ⟨i, hi, rfl⟩ := sz_info h
  simp [sizeOf, typeInfo, hi]

theorem run_typeInfo {t : TypeId} {i : TypeInfo} (h : P.info? t = some i) (w : World) : (typeInfo t).run P w = .ok i w := by
  simp [typeInfo, h]

theorem zero_info {t : TypeId} {z : Value} (h : zeroOf P t = some z) : ∃ i, P.info? t = some i ∧ i.zero = some z := by
  unfold zeroOf at h
  split at h
  · rename_i i hi; exact ⟨i, hi, h⟩
  · cases h

theorem run_zeroValue {t : TypeId} {z : Value} (h : zeroOf P t = some z) (w : World) : (zeroValue t).run P w = .ok z w := by
  obtain ⟨i, hi, hz⟩ := zero_info h
  simp [zeroValue, typeInfo, hi, hz]

theorem run_isAgg {t : TypeId} {b : Bool} (h : aggT P t = some b) (w : World) : (isAgg t).run P w = .ok b w := by
  unfold aggT at h
  split at h
  · rename_i f hu; cases h; simp [isAgg, run_underlying hu]
  · rename_i n e hu; cases h; simp [isAgg, run_underlying hu]
  · rename_i d h1 h2 hu
    cases h
    simp only [isAgg, Sem.run_bind, run_underlying hu, Result.andThen_ok]
    cases d <;> first | rfl | (exact absurd rfl (h1 _)) | (exact absurd rfl (h2 _ _))
  · cases h

theorem HRel.cell [Syms] (hH : HRel E A H w) {b : Nat} {B : Blk} (hb : H b = some B) (ho : B.elem ≠ roT) {i : Nat} {v : AV} (hv : cellOf B i = some v) : w.cell? ⟨E.ρ b, i, none⟩ = some (conc E v) := by
  obtain ⟨c, h1, h2, _⟩ := (hH.blk b B hb).own ho
  have := (h2 i v hv).2
  simp [World.cell?, h1, this]

/-- Cells, from wherever they are read. -/
theorem cells_at [Syms] {B : Blk} {a : Addr} (hc : ∀ i v, cellOf B i = some v → w.cell? (a.add i) = some (conc E v)) (hw : ∀ i v, cellOf B i = some v → wfV A v) {off n : Nat} {l : List AV} (h : readCells B off n = some l) :
    l.length = n ∧ wfVs A l ∧ ∀ j u, (concs E l)[j]? = some u → w.cell? (a.add (off + j)) = some u := by
  obtain ⟨h1, h2⟩ := readCells_spec B off n l h
  have key : ∀ x ∈ l, ∃ i, i < n ∧ l[i]? = some x ∧ cellOf B (off + i) = some x := by
    intro x hx
    obtain ⟨i, hi, rfl⟩ := List.mem_iff_getElem.1 hx
    obtain ⟨v, g1, g2⟩ := h2 i (by omega)
    rw [List.getElem?_eq_getElem hi] at g1
    cases g1
    exact ⟨i, by omega, List.getElem?_eq_getElem hi, g2⟩
  refine ⟨h1, (wfVs_iff A l).2 fun x hx => ?_, fun j u hu => ?_⟩
  · obtain ⟨i, _, _, g⟩ := key x hx
    exact hw _ x g
  · rw [concs_eq, List.getElem?_map] at hu
    have hj : j < n := by
      rcases Nat.lt_or_ge j n with h | h
      · exact h
      · rw [List.getElem?_eq_none (by omega)] at hu; cases hu
    obtain ⟨v, g1, g2⟩ := h2 j hj
    rw [g1] at hu
    cases hu
    exact hc _ _ g2

theorem HRel.cells [Syms] (hH : HRel E A H w) {b : Nat} {B : Blk} (hb : H b = some B) (ho : B.elem ≠ roT) {off n : Nat} {l : List AV} (h : readCells B off n = some l) :
    l.length = n ∧ wfVs A l ∧ ∀ j u, (concs E l)[j]? = some u → w.cell? ((⟨E.ρ b, off, none⟩ : Addr).add j) = some u := by
  obtain ⟨h1, h2, h3⟩ := cells_at (a := ⟨E.ρ b, 0, none⟩) (fun i v hv => by rw [add_lit, Nat.zero_add]; exact hH.cell hb ho hv) (hH.wf b B hb) h
  refine ⟨h1, h2, fun j u hu => ?_⟩
  have := h3 j u hu
  rw [add_lit, Nat.zero_add] at this
  rw [add_lit]
  exact this

theorem HRel.cellsRo [Syms] (hH : HRel E A H w) {b : Nat} {B : Blk} (hb : H b = some B) (ho : B.elem = roT) {off n : Nat} {l : List AV} (h : readCells B off n = some l) :
    l.length = n ∧ wfVs A l ∧ ∀ j u, (concs E l)[j]? = some u → w.cell? ((⟨E.ρ b, E.κ b + off, none⟩ : Addr).add j) = some u := by
  obtain ⟨h1, h2, h3⟩ := cells_at (a := ⟨E.ρ b, E.κ b, none⟩) (fun i v hv => by rw [add_lit]; exact (((hH.blk b B hb).ro ho).2 i v hv).2) (hH.wf b B hb) h
  refine ⟨h1, h2, fun j u hu => ?_⟩
  have := h3 j u hu
  rw [add_lit] at this
  rw [add_lit, Nat.add_assoc]
  exact this

theorem loadB_sound [Syms] {B : Blk} {a : Addr} {off : Nat} (hc : ∀ n l, readCells B off n = some l → l.length = n ∧ wfVs A l ∧ ∀ j u, (concs E l)[j]? = some u → w.cell? (a.add j) = some u) {t : TypeId} {v : AV} (h : loadB P B t off = some v) :
    (loadVar t a).run P w = .ok (conc E v) w ∧ wfV A v := by
  unfold loadB at h
  split at h
  · rename_i n ha hs
    split at h
    · rename_i l hl
      cases h
      obtain ⟨h1, h2, h3⟩ := hc _ _ hl
      have hrun := run_loadCells_list (P := P) w a (concs E l) h3
      have hlen : (concs E l).length = n := by rw [concs_eq, List.length_map, h1]
      rw [hlen] at hrun
      refine ⟨?_, h2⟩
      simp [loadVar, run_isAgg ha, run_sizeOf hs, hrun, conc]
    · cases h
  · rename_i n ha hs
    split at h
    · rename_i y hl
      cases h
      obtain ⟨h1, h2, h3⟩ := hc _ _ hl
      have := h3 0 (conc E v) (by simp [concs])
      have e0 : a.add 0 = a := by simp [Addr.add]
      rw [e0] at this
      refine ⟨?_, h2.1⟩
      simp only [loadVar, Sem.run_bind, run_isAgg ha, Result.andThen_ok]
      simp [load, Sem.run, this]
    · cases h
  · cases h

theorem rising_get : ∀ (l : List AV) (k : Nat), rising k l = true → ∀ (i : Nat) (v : AV), l[i]? = some v → v = .sx .i64 (.a (k + i)) := by
  intro l
  induction l with
  | nil => intro k _ i v h; simp at h
  | cons x r ih =>
    intro k h i v hv
    have h' : bAnd (isNamed k x) (rising (Nat.succ k) r) = true := h
    obtain ⟨h1, h2⟩ := bAnd_true h'
    have hx : x = .sx .i64 (.a k) := by
      unfold isNamed at h1
      split at h1
      · rw [Nat.eq_of_beq_eq_true h1]
      · cases h1
    cases i with
    | zero =>
      simp only [List.getElem?_cons_zero, Option.some.injEq] at hv
      rw [← hv, hx, Nat.add_zero]
    | succ i =>
      simp only [List.getElem?_cons_succ] at hv
      have := ih (k + 1) h2 i v hv
      rw [this, show k + 1 + i = k + (i + 1) by omega]

theorem loadX_sound [Syms] {B : Blk} {a : Addr} {off len : Nat} {x : SX} (hc : ∀ n l, readCells B off n = some l → l.length = n ∧ wfVs A l ∧ ∀ j u, (concs E l)[j]? = some u → w.cell? (a.add j) = some u) {t : TypeId} {v : AV} (h : loadX P B t off len x = some v) :
    (loadVar t (a.add (x.eval Syms.val).toNat)).run P w = .ok (conc E v) w ∧ wfV A v := by
  unfold loadX at h
  split at h
  · rename_i k r ha hl
    split at h
    · rename_i hr
      split at h
      · rename_i h1 h2
        cases h
        refine ⟨?_, trivial⟩
        have h1 := Syms.decOK _ _ h1
        have h2 := Syms.decOK _ _ h2
        simp only [SB.eval, SX.eval] at h1 h2
        have h1 : 0 ≤ x.eval Syms.val := of_decide_eq_true h1
        have h2 : x.eval Syms.val < ((len : Nat) : Int) := of_decide_eq_true h2
        obtain ⟨q1, _, q3⟩ := hc _ _ hl
        have hlt : (x.eval Syms.val).toNat < (AV.sx .i64 (.a k) :: r).length := by rw [q1]; omega
        have hg := rising_get _ k hr _ _ (List.getElem?_eq_getElem hlt)
        have := q3 (x.eval Syms.val).toNat (.int .i64 (Syms.val (k + (x.eval Syms.val).toNat))) (by
          rw [concs_eq, List.getElem?_map, List.getElem?_eq_getElem hlt, hg]
          simp [conc, SX.eval])
        simp only [loadVar, Sem.run_bind, run_isAgg ha, Result.andThen_ok]
        simp [load, Sem.run, this, conc, SX.eval]
      · cases h
    · cases h
  · cases h

theorem colL_get (s : Nat) : ∀ (len : Nat) (l : List AV) (i : Nat), i < len → i * s < l.length → (colL s len l)[i]? = l[i * s]? := by
  intro len
  induction len with
  | zero => intro l i h; omega
  | succ len ih =>
    intro l i hi hl
    cases l with
    | nil => simp at hl
    | cons y r =>
      show (y :: colL s len (dropL s (y :: r)))[i]? = _
      cases i with
      | zero => simp
      | succ i =>
        rw [List.getElem?_cons_succ, dropL_eq]
        have e : (i + 1) * s = s + i * s := by rw [Nat.succ_mul, Nat.add_comm]
        rw [ih _ i (by omega) (by rw [List.length_drop]; omega), List.getElem?_drop, e]

theorem colsL_get (s len : Nat) (l : List AV) (x : SX) : ∀ (m j i : Nat), i < m → (colsL s len l x m j)[i]? = some (.pick (colL s len (dropL (j + i) l)) x) := by
  intro m
  induction m with
  | zero => intro j i h; omega
  | succ m ih =>
    intro j i hi
    show (AV.pick (colL s len (dropL j l)) x :: colsL s len l x m (Nat.succ j))[i]? = _
    cases i with
    | zero => rfl
    | succ i =>
      rw [List.getElem?_cons_succ, ih (j + 1) i (by omega), show j + 1 + i = j + (i + 1) by omega]

theorem colsL_length (s len : Nat) (l : List AV) (x : SX) : ∀ (m j : Nat), (colsL s len l x m j).length = m := by
  intro m
  induction m with
  | zero => intro j; rfl
  | succ m ih =>
    intro j
    show (AV.pick (colL s len (dropL j l)) x :: colsL s len l x m (Nat.succ j)).length = _
    rw [List.length_cons, ih]

theorem colL_sub (s : Nat) : ∀ (len : Nat) (l : List AV) (y : AV), y ∈ colL s len l → y ∈ l := by
  intro len
  induction len with
  | zero => intro l y h; cases h
  | succ len ih =>
    intro l y h
    cases l with
    | nil => cases h
    | cons z r =>
      have h' : y ∈ z :: colL s len (dropL s (z :: r)) := h
      rcases List.mem_cons.1 h' with rfl | h'
      · simp
      · have := ih _ y h'
        rw [dropL_eq] at this
        exact List.mem_of_mem_drop this

theorem loadS_sound [Syms] {B : Blk} {a : Addr} {off s len : Nat} {x : SX} (hc : ∀ n l, readCells B off n = some l → l.length = n ∧ wfVs A l ∧ ∀ j u, (concs E l)[j]? = some u → w.cell? (a.add j) = some u) {t : TypeId} {v : AV} (h : loadS P B t off s len x = some v) :
    (loadVar t (a.add ((x.eval Syms.val).toNat * s))).run P w = .ok (conc E v) w ∧ wfV A v := by
  unfold loadS at h
  split at h
  · rename_i g n l ha hs hl
    split at h
    · rename_i hk
      split at h
      · rename_i h1 h2
        simp only [Bool.and_eq_true] at hk
        obtain ⟨⟨hn, hs1⟩, hone⟩ := hk
        obtain rfl : n = s := Nat.eq_of_beq_eq_true hn
        have hs1 : 1 ≤ n := Nat.le_of_ble_eq_true hs1
        have h1 := Syms.decOK _ _ h1
        have h2 := Syms.decOK _ _ h2
        simp only [SB.eval, SX.eval] at h1 h2
        have h1 : 0 ≤ x.eval Syms.val := of_decide_eq_true h1
        have h2 : x.eval Syms.val < ((len : Nat) : Int) := of_decide_eq_true h2
        obtain ⟨q1, q2, q3⟩ := hc _ _ hl
        have q1 : l.length = len * n := q1
        have hm : (x.eval Syms.val).toNat < len := by omega
        cases g with
        | false =>
          simp only at h
          split at h
          · rename_i hn1
            cases h
            obtain rfl : n = 1 := Nat.eq_of_beq_eq_true hn1
            have hb : (x.eval Syms.val).toNat < l.length := by omega
            have hg : (colL 1 len l)[(x.eval Syms.val).toNat]? = l[(x.eval Syms.val).toNat]? := by
              rw [colL_get 1 len _ _ hm (by omega), Nat.mul_one]
            have hone' : (conc E l[(x.eval Syms.val).toNat]).oneCell' = true := one_conc E _ (List.all_eq_true.1 hone _ (List.getElem_mem hb))
            have hu' : conc E (.pick (colL 1 len l) x) = conc E l[(x.eval Syms.val).toNat] := by
              simp only [conc, pickV, List.getD_eq_getElem?_getD]
              rw [concs_eq, List.getElem?_map, hg, List.getElem?_eq_getElem hb]
              simp only [Option.map_some, Option.getD_some, oneC, hone', if_true]
            have hcl := q3 (x.eval Syms.val).toNat (conc E l[(x.eval Syms.val).toNat]) (by rw [concs_eq, List.getElem?_map, List.getElem?_eq_getElem hb]; rfl)
            refine ⟨?_, ?_⟩
            · rw [Nat.mul_one, hu']
              simp only [loadVar, Sem.run_bind, run_isAgg ha, Result.andThen_ok]
              simp [load, Sem.run, hcl]
            · show wfVs A (colL 1 len l)
              rw [wfVs_iff] at q2 ⊢
              intro z hz
              exact q2 z (colL_sub _ _ _ _ hz)
          · cases h
        | true =>
        simp only at h
        cases h
        refine ⟨?_, ?_⟩
        · have hcell : ∀ j u, (concs E (colsL n len l x n 0))[j]? = some u → w.cell? ((a.add ((x.eval Syms.val).toNat * n)).add j) = some u := by
            intro j u hu
            rw [concs_eq, List.getElem?_map] at hu
            have hj : j < n := by
              by_cases hj : j < n
              · exact hj
              · rw [List.getElem?_eq_none (by rw [colsL_length]; omega)] at hu
                cases hu
            rw [colsL_get _ _ _ _ _ _ _ hj, Nat.zero_add] at hu
            simp only [Option.map_some, Option.some.injEq] at hu
            have hb : (x.eval Syms.val).toNat * n + j < l.length := by
              rw [q1]
              have := Nat.mul_le_mul_right n (show (x.eval Syms.val).toNat + 1 ≤ len from hm)
              rw [Nat.add_mul, Nat.one_mul] at this
              omega
            have hg : (colL n len (dropL j l))[(x.eval Syms.val).toNat]? = l[(x.eval Syms.val).toNat * n + j]? := by
              rw [dropL_eq, colL_get n len _ _ hm (by rw [List.length_drop]; omega), List.getElem?_drop, Nat.add_comm]
            have hone' : (conc E l[(x.eval Syms.val).toNat * n + j]).oneCell' = true := one_conc E _ (List.all_eq_true.1 hone _ (List.getElem_mem hb))
            have hu' : u = conc E l[(x.eval Syms.val).toNat * n + j] := by
              rw [← hu]
              simp only [conc, pickV, List.getD_eq_getElem?_getD]
              rw [concs_eq, List.getElem?_map, hg, List.getElem?_eq_getElem hb]
              simp only [Option.map_some, Option.getD_some, oneC, hone', if_true]
            have := q3 ((x.eval Syms.val).toNat * n + j) u (by rw [concs_eq, List.getElem?_map, List.getElem?_eq_getElem hb, hu']; rfl)
            rw [Addr.add_add]
            exact this
          have hrun := run_loadCells_list (P := P) w (a.add ((x.eval Syms.val).toNat * n)) (concs E (colsL n len l x n 0)) hcell
          have hlen : (concs E (colsL n len l x n 0)).length = n := by rw [concs_eq, List.length_map, colsL_length]
          rw [hlen] at hrun
          simp [loadVar, run_isAgg ha, run_sizeOf hs, hrun, conc]
        · show wfVs A (colsL n len l x n 0)
          rw [wfVs_iff]
          intro y hy
          obtain ⟨j, hj⟩ := List.getElem?_of_mem hy
          have hjn : j < n := by
            by_cases hjn : j < n
            · exact hjn
            · rw [List.getElem?_eq_none (by rw [colsL_length]; omega)] at hj
              cases hj
          rw [colsL_get _ _ _ _ _ _ _ hjn] at hj
          cases hj
          show wfVs A _
          rw [wfVs_iff] at q2 ⊢
          intro z hz
          have := colL_sub _ _ _ _ hz
          rw [dropL_eq] at this
          exact q2 z (List.mem_of_mem_drop this)
      · cases h
    · cases h
  · cases h

theorem rowAt_eval [Syms] (k0 : Nat) (x : SX) : (rowAt k0 x).eval Syms.val = Syms.val (k0 + (x.eval Syms.val).toNat) := by
  unfold rowAt
  split
  · simp only [SX.eval]; rfl
  · rfl

theorem loadR_sound [Syms] (hH : HRel E A H w) {b : Nat} {B : Blk} (hb : H b = some B) {t : TypeId} {x : SX} {v : AV} (h : loadR P B t x = some v) :
    (loadVar t ⟨E.ρ b, E.κ b + (x.eval Syms.val).toNat, none⟩).run P w = .ok (conc E v) w ∧ wfV A v := by
  unfold loadR at h
  split at h
  · rename_i k k0 n ha hr
    split at h
    · rename_i h1 h2
      cases h
      refine ⟨?_, trivial⟩
      have h1 := Syms.decOK _ _ h1
      have h2 := Syms.decOK _ _ h2
      simp only [SB.eval, SX.eval] at h1 h2
      have h1 : 0 ≤ x.eval Syms.val := of_decide_eq_true h1
      have h2 : x.eval Syms.val < n.eval Syms.val := of_decide_eq_true h2
      have := (hH.blk b B hb).row k k0 n hr (x.eval Syms.val).toNat (by omega)
      simp only [loadVar, Sem.run_bind, run_isAgg ha, Result.andThen_ok]
      simp [load, Sem.run, this, conc, rowAt_eval]
    · cases h
  · cases h

theorem loadA_sound [Syms] (hH : HRel E A H w) {t : TypeId} {x v : AV} (h : loadA P H t x = some v) :
    ∃ a, conc E x = .pointer (some a) ∧ (loadVar t a).run P w = .ok (conc E v) w ∧ wfV A v := by
  unfold loadA at h
  split at h
  · rename_i b off
    split at h
    · rename_i B hb
      split at h
      · rename_i ho
        exact ⟨_, rfl, loadB_sound (fun n l hl => hH.cells hb (isOwn_iff.1 ho) hl) h⟩
      · cases h
    · cases h
  · rename_i b off
    split at h
    · rename_i B hb
      split at h
      · cases h
      · rename_i ho
        have ho' : B.elem = roT := by
          rcases Nat.decEq B.elem roT with hn | he
          · rw [isOwn_iff.2 hn] at ho; cases ho
          · exact he
        exact ⟨_, rfl, loadB_sound (fun n l hl => hH.cellsRo hb ho' hl) h⟩
    · cases h
  · rename_i b off len x
    split at h
    · rename_i B hb
      split at h
      · rename_i ho
        have := loadX_sound (fun n l hl => hH.cells hb (isOwn_iff.1 ho) hl) h
        rw [add_lit] at this
        exact ⟨_, rfl, this⟩
      · cases h
    · cases h
  · rename_i b off len x
    split at h
    · rename_i B hb
      split at h
      · cases h
      · rename_i ho
        have ho' : B.elem = roT := by
          rcases Nat.decEq B.elem roT with hn | he
          · rw [isOwn_iff.2 hn] at ho; cases ho
          · exact he
        have := loadX_sound (fun n l hl => hH.cellsRo hb ho' hl) h
        rw [add_lit, Nat.add_assoc] at this
        exact ⟨_, rfl, this⟩
    · cases h
  · rename_i b off s len x
    split at h
    · rename_i B hb
      split at h
      · rename_i ho
        have := loadS_sound (fun n l hl => hH.cells hb (isOwn_iff.1 ho) hl) h
        rw [add_lit] at this
        exact ⟨_, rfl, this⟩
      · cases h
    · cases h
  · rename_i b x
    split at h
    · rename_i B hb
      exact ⟨_, rfl, loadR_sound hH hb h⟩
    · cases h
  · cases h

theorem EvOK.evs [Syms] (hE : EvOK E A ev ρ) : ∀ (l : List Operand) (vs : List AV), evsA ev l = some vs → l.map ρ = concs E vs ∧ wfVs A vs := by
  intro l
  induction l with
  | nil => intro vs h; have h : some [] = some vs := h; cases h; exact ⟨rfl, trivial⟩
  | cons x r ih =>
    intro vs h
    have h' : Option.rec (motive := fun _ => Option (List AV)) none (fun v => Option.rec (motive := fun _ => Option (List AV)) none (fun vs => some (v :: vs)) (evsA ev r)) (ev x) = some vs := h
    cases hx : ev x with
    | none => rw [hx] at h'; cases h'
    | some v =>
      rw [hx] at h'
      cases hr : evsA ev r with
      | none => rw [hr] at h'; cases h'
      | some vs' =>
        rw [hr] at h'
        cases h'
        obtain ⟨h1, h2⟩ := ih vs' hr
        obtain ⟨h3, h4⟩ := hE x v hx
        exact ⟨by simp [concs, h1, h3], h4, h2⟩

theorem EvOK.evp [Syms] (hE : EvOK E A ev ρ) : ∀ (l : List (Nat × Operand)) (vs : List (Nat × AV)), evpA ev l = some vs →
    (l.map fun x => (x.1, ρ x.2)) = (vs.map fun x => (x.1, conc E x.2)) ∧ ∀ x ∈ vs, wfV A x.2 := by
  intro l
  induction l with
  | nil => intro vs h; have h : some [] = some vs := h; cases h; exact ⟨rfl, by simp⟩
  | cons x r ih =>
    intro vs h
    have h' : Option.rec (motive := fun _ => Option (List (Nat × AV))) none (fun v => Option.rec (motive := fun _ => Option (List (Nat × AV))) none (fun vs => some ((x.1, v) :: vs)) (evpA ev r)) (ev x.2) = some vs := h
    cases hx : ev x.2 with
    | none => rw [hx] at h'; cases h'
    | some v =>
      rw [hx] at h'
      cases hr : evpA ev r with
      | none => rw [hr] at h'; cases h'
      | some vs' =>
        rw [hr] at h'
        cases h'
        obtain ⟨h1, h2⟩ := ih vs' hr
        obtain ⟨h3, h4⟩ := hE x.2 v hx
        refine ⟨by simp [h1, h3], fun y hy => ?_⟩
        rcases List.mem_cons.1 hy with rfl | hy
        · exact h4
        · exact h2 y hy

theorem foldl_zipIdx (off : Nat) : ∀ (vs : List Value) (k : Nat) (cells : Array Value), off + k + vs.length ≤ cells.size → ∀ i,
    ((vs.zipIdx k).foldl (fun cs (x : Value × Nat) => cs.setIfInBounds (off + x.2) x.1) cells)[i]? =
      if off + k ≤ i ∧ i < off + k + vs.length then vs[i - (off + k)]? else cells[i]? := by
  intro vs
  induction vs with
  | nil => intro k cells _ i; simp; omega
  | cons v r ih =>
    intro k cells h i
    simp only [List.zipIdx_cons, List.foldl_cons, List.length_cons] at h ⊢
    rw [ih (k + 1) _ (by simp; omega) i]
    by_cases h1 : off + (k + 1) ≤ i ∧ i < off + (k + 1) + r.length
    · rw [if_pos h1, if_pos (by omega)]
      have : i - (off + k) = (i - (off + (k + 1))) + 1 := by omega
      rw [this, List.getElem?_cons_succ]
    · rw [if_neg h1]
      by_cases h2 : i = off + k
      · subst h2
        rw [if_pos (by omega), Array.getElem?_setIfInBounds_self_of_lt (by omega)]
        simp
      · rw [if_neg (by omega), Array.getElem?_setIfInBounds_ne (by omega)]

theorem fill_sound [Syms] (place : Nat → Option (Nat × Nat)) : ∀ (l : List (Nat × AV)) (cs cs' : List AV), fillA place l cs = some cs' → (∀ x ∈ l, wfV A x.2) → wfVs A cs →
    Instr.fill place (concs E cs).toArray (l.map fun x => (x.1, conc E x.2)) = some (concs E cs').toArray ∧ wfVs A cs' := by
  intro l
  induction l with
  | nil => intro cs cs' h _ hcs; have h : some cs = some cs' := h; cases h; exact ⟨rfl, hcs⟩
  | cons x r ih =>
    intro cs cs' h hw hcs
    have h' : (match place x.1 with
      | none => none
      | some (off, size) => Bool.rec (motive := fun _ => Option (List AV)) none (fillA place r (splice x.2.cells off cs))
          (Nat.beq x.2.cells.length size && Nat.ble (Nat.add off size) cs.length)) = some cs' := h
    simp only [List.map_cons, Instr.fill]
    split at h'
    · cases h'
    · rename_i off size hp
      cases hb : (Nat.beq x.2.cells.length size && Nat.ble (Nat.add off size) cs.length) with
      | false => rw [hb] at h'; cases h'
      | true =>
        rw [hb] at h'
        have hb' : x.2.cells.length = size ∧ off + size ≤ cs.length := by
          simp only [Bool.and_eq_true] at hb
          exact ⟨Nat.eq_of_beq_eq_true hb.1, Nat.le_of_ble_eq_true hb.2⟩
        obtain ⟨g1, g2⟩ := hb'
        have hx : wfVs A x.2.cells := wfV_cells (hw x (by simp))
        have hsp : off + x.2.cells.length ≤ cs.length := by omega
        have hwf : wfVs A (splice x.2.cells off cs) := by
          rw [wfVs_iff] at hx hcs ⊢
          intro y hy
          rw [splice_eq _ _ _ hsp] at hy
          simp only [List.mem_append] at hy
          rcases hy with (hy | hy) | hy
          · exact hcs y (List.mem_of_mem_take hy)
          · exact hx y hy
          · exact hcs y (List.mem_of_mem_drop hy)
        obtain ⟨i1, i2⟩ := ih _ cs' h' (fun y hy => hw y (by simp [hy])) hwf
        refine ⟨?_, i2⟩
        rw [hp]
        simp only [conc_cells, List.size_toArray, concs_eq, List.length_map, g1]
        rw [if_neg (by simp; omega)]
        rw [concs_eq, concs_eq] at i1
        rw [← i1]
        congr 1
        apply Array.ext_getElem?
        intro i
        have := foldl_zipIdx off (x.2.cells.map (conc E)) 0 (cs.map (conc E)).toArray (by simp; omega) i
        rw [← Array.foldl_toList]
        simp only [Array.toList_zipIdx] at this ⊢
        rw [this]
        simp only [List.getElem?_toArray, List.getElem?_map, getElem?_splice _ _ _ hsp, List.length_map, Nat.add_zero]
        split <;> rfl

theorem places_sound : ∀ (fs : List Field) (pl : List (Nat × Nat)), placesA P fs = some pl →
    (fs.mapM fun f => (do pure (f.offset, ← sizeOf f.type) : Sem (Nat × Nat))).run P w = .ok pl w := by
  intro fs
  induction fs with
  | nil => intro pl h; cases h; simp
  | cons f r ih =>
    intro pl h
    simp only [placesA] at h
    split at h
    · rename_i n hn
      split at h
      · rename_i l hl
        cases h
        simp only [List.mapM_cons, Sem.run_bind, Sem.run_pure, run_sizeOf hn, Result.andThen_ok, ih l hl]
      · cases h
    · cases h

theorem buildA_sound [Syms] {t : TypeId} {ps : List (Nat × AV)} {v : AV} (h : buildA P t ps = some v) (hw : ∀ x ∈ ps, wfV A x.2) :
    (Instr.build t (ps.map fun x => (x.1, conc E x.2)).toArray).run P w = .ok (conc E v) w ∧ wfV A v := by
  unfold buildA at h
  have hzc : ∀ z : Value, wfVs A (AV.cells (.v z)) := fun z => wfV_cells (x := .v z) trivial
  have hcc : ∀ z : Value, z.cells = (concs E (AV.cells (.v z))).toArray := fun z => conc_cells E (.v z)
  split at h
  · rename_i z fields hz hu
    split at h
    · rename_i pl hpl
      split at h
      · rename_i cs hf
        cases h
        obtain ⟨h1, h2⟩ := fill_sound (E := E) (A := A) _ ps _ cs hf hw (hzc z)
        refine ⟨?_, h2⟩
        have hm := places_sound (P := P) (w := w) fields.toList pl hpl
        have hm' : (fields.mapM fun f => (do pure (f.offset, ← sizeOf f.type) : Sem (Nat × Nat))).run P w = .ok pl.toArray w := by
          rw [Array.mapM_eq_mapM_toList, ← bind_pure_comp]
          simp only [Sem.run_bind, hm, Result.andThen_ok, Sem.run_pure]
        simp only [Instr.build, Sem.run_bind, run_zeroValue hz, Result.andThen_ok, run_underlying hu, hm', hcc z]
        have e : (fun x : Nat => pl.toArray[x]?) = fun i => pl[i]? := by funext i; simp
        simp only [e, h1]
        simp [conc]
      · cases h
    · cases h
  · rename_i z n e hz hu
    split at h
    · rename_i s hs
      split at h
      · rename_i cs hf
        cases h
        obtain ⟨h1, h2⟩ := fill_sound (E := E) (A := A) _ ps _ cs hf hw (hzc z)
        refine ⟨?_, h2⟩
        simp only [Instr.build, Sem.run_bind, run_zeroValue hz, Result.andThen_ok, run_underlying hu, run_sizeOf hs, hcc z, h1]
        simp [conc]
      · cases h
    · cases h
  · cases h

theorem partA_sound [Syms] {t : TypeId} {cs : List AV} {off : Nat} {v : AV} (h : partA P t cs off = some v) (hw : wfVs A cs) :
    (part t (concs E cs).toArray off).run P w = .ok (conc E v) w ∧ wfV A v := by
  unfold partA at h
  rw [wfVs_iff] at hw
  split at h
  · rename_i n ha hs
    cases h
    refine ⟨?_, (wfVs_iff A _).2 fun x hx => hw x (List.mem_of_mem_drop (List.mem_of_mem_take hx))⟩
    simp only [part, Sem.run_bind, run_isAgg ha, Result.andThen_ok, if_true, run_sizeOf hs, Sem.run_pure]
    congr 2
    simp [concs_eq]
  · rename_i n ha hs
    refine ⟨?_, hw v (List.mem_of_getElem? h)⟩
    simp [part, run_isAgg ha, concs_eq, h]
  · cases h

end

/-! The operations that leave memory alone, all together. -/

section
variable {P : Program} {E : Env} {A : Nat → Prop} {H : Nat → Option Blk} {w : World} {ev : Operand → Option AV} {ρ : Operand → Value}

theorem binA_sound {op : BinOp} {t : TypeId} {a b r : Value} (x y : Operand) (h : binA op a b = some r) :
    (do eqGuard op t x y a b; binOp op t a b : Sem Value).run P w = .ok r w := by
  unfold binA at h
  split at h
  · rename_i k a k' b
    have hg : (eqGuard op t x y (.int k a) (.int k' b)).run P w = .ok () w := by cases op <;> simp [eqGuard]
    simp only [Sem.run_bind, hg, Result.andThen_ok]
    cases op <;> simp only at h <;> (try split at h) <;> (try split at h) <;> (try cases h) <;> simp_all [binOp, Op.shift, Op.intArith, Op.intDiv, Op.intBits, Op.intCmp]
    all_goals (intro hlt; omega)
  · cases h

theorem unA_sound {op : UnOp} {a r : Value} (h : unA op a = some r) : (Op.unary op a).run P w = .ok r w := by
  unfold unA at h
  split at h
  · split at h <;> cases h; simp [Op.unary]
  · split at h <;> cases h; simp [Op.unary, Op.intArith]
  · cases h

theorem qSym_sound [Syms] {op : BinOp} {t : TypeId} {k : Nat} {c : Int} {v : AV} (x y : Operand) (h : qSym op k c = some v) :
    ((do eqGuard op t x y (.int .i64 (Syms.val k)) (.int .i64 c); binOp op t (.int .i64 (Syms.val k)) (.int .i64 c) : Sem Value).run P w = .ok (conc E v) w ∧
     (do eqGuard op t x y (.int .i64 c) (.int .i64 (Syms.val k)); binOp op t (.int .i64 c) (.int .i64 (Syms.val k)) : Sem Value).run P w = .ok (conc E v) w) ∧ wfV A v := by
  unfold qSym at h
  split at h
  · rename_i hn
    cases h
    have hne := Syms.ok k c hn
    refine ⟨⟨binA_sound (op := .eql) x y (r := .bool false) (by simp [binA, hne]), binA_sound (op := .eql) x y (r := .bool false) (by simp [binA, Ne.symm hne])⟩, trivial⟩
  · rename_i hn
    cases h
    have hne := Syms.ok k c hn
    refine ⟨⟨binA_sound (op := .neq) x y (r := .bool true) (by simp [binA, hne]), binA_sound (op := .neq) x y (r := .bool true) (by simp [binA, Ne.symm hne])⟩, trivial⟩
  · cases h

theorem dec_nil [Syms] {b : SB} {v : Bool} (h : decF [] b = some v) : b.eval Syms.val = v := decF_sound (fun _ hf => by cases hf) b v h

theorem num_nil [Syms] {x : SX} {n : Int} (h : numF [] x = some n) : x.eval Syms.val = n := numF_sound (fun _ hf => by cases hf) x n h

theorem bOf_conc [Syms] (b : SB) : conc E (bOf b) = .bool (b.eval Syms.val) ∧ wfV A (bOf b) := by
  unfold bOf
  split
  · rename_i h; exact ⟨by simp [conc, dec_nil h], trivial⟩
  · rename_i h; exact ⟨by simp [conc, dec_nil h], trivial⟩
  · split
    · rename_i h; exact ⟨by simp [conc, Syms.decOK _ _ h], trivial⟩
    · rename_i h; exact ⟨by simp [conc, Syms.decOK _ _ h], trivial⟩
    · exact ⟨by simp [conc], trivial⟩

theorem iOf_conc [Syms] (k : IntKind) (e : SX) : conc E (iOf k e) = .int k (e.eval Syms.val) ∧ wfV A (iOf k e) := by
  unfold iOf
  split
  · rename_i h; exact ⟨by simp [conc, num_nil h], trivial⟩
  · split
    · rename_i h; exact ⟨by simp [conc, Syms.numOK _ _ h], trivial⟩
    · exact ⟨by simp [conc], trivial⟩

theorem nrm_eval [Syms] (x : SX) : (nrm x).eval Syms.val = x.eval Syms.val := by
  unfold nrm
  split
  · rename_i n h; exact (Syms.numOK _ _ h).symm
  · rfl

theorem intsOf_conc [Syms] {k : IntKind} : ∀ (l : List AV) (ns : List Int), intsOf k l = some ns → concs E l = ns.map (Value.int k) := by
  intro l
  induction l with
  | nil => intro ns h; have h : some [] = some ns := h; cases h; rfl
  | cons x r ih =>
    intro ns h
    cases x with
    | v x =>
      cases x with
      | int k' n =>
        have h' : (match kEq k k' with | true => (match intsOf k r with | some r => some (n :: r) | none => none) | false => none) = some ns := h
        split at h'
        · rename_i hk
          obtain rfl := kEq_sound hk
          split at h'
          · rename_i ns' hr
            cases h'
            simp [concs, conc, ih _ hr]
          · cases h'
        · cases h'
      | _ => cases h
    | _ => cases h

theorem asSX_conc [Syms] {x : AV} {k : IntKind} {e : SX} (h : asSX x = some (k, e)) : conc E x = .int k (e.eval Syms.val) := by
  unfold asSX at h
  split at h
  · cases h; simp [conc, SX.eval]
  · cases h; simp [conc]
  · rename_i k n l y
    split at h
    · rename_i ns hns
      cases h
      have e1 := intsOf_conc (E := E) _ _ hns
      simp only [conc, SX.eval, pickV]
      rw [e1]
      have hne : ns ≠ [] := fun hc => by
        rw [hc] at e1
        simp [concs] at e1
      obtain ⟨m, r, rfl⟩ := List.exists_cons_of_ne_nil hne
      have : ((m :: r).map (Value.int k)).getD (y.eval Syms.val).toNat (((m :: r).map (Value.int k)).headD (.bool false)) = .int k ((m :: r).getD (y.eval Syms.val).toNat ((m :: r).headD 0)) := by
        simp only [List.getD_eq_getElem?_getD, List.map_cons, List.headD_cons]
        cases hg : (m :: r)[(y.eval Syms.val).toNat]? with
        | none =>
          have : (Value.int k m :: r.map (Value.int k))[(y.eval Syms.val).toNat]? = none := by rw [← List.map_cons (f := Value.int k), List.getElem?_map, hg]; rfl
          simp [this]
        | some z =>
          have : (Value.int k m :: r.map (Value.int k))[(y.eval Syms.val).toNat]? = some (.int k z) := by rw [← List.map_cons (f := Value.int k), List.getElem?_map, hg]; rfl
          simp [this]
      rw [this]
      simp [oneC, Value.oneCell']
    · cases h
  · cases h

theorem allB_conc [Syms] {b : Bool} : ∀ (l : List AV), allB b l = true → ∀ v ∈ concs E l, v = .bool b := by
  intro l
  induction l with
  | nil => intro _ v hv; simp [concs] at hv
  | cons x r ih =>
    intro h v hv
    have h' : allB1 b (allB b r) x = true := h
    unfold allB1 at h'
    split at h'
    · rename_i c
      obtain ⟨h1, h2⟩ := bAnd_true h'
      have hc : c = b := by cases b <;> cases c <;> first | rfl | cases h1
      subst hc
      simp only [concs, List.mem_cons] at hv
      rcases hv with rfl | hv
      · simp [conc]
      · exact ih h2 v hv
    · cases h'

theorem pickV_all {b : Bool} (l : List Value) (n : Nat) (h : ∀ v ∈ l, v = .bool b) : pickV (.bool b :: l) n = .bool b := by
  simp only [pickV, List.getD_eq_getElem?_getD, List.headD_cons]
  cases hg : (Value.bool b :: l)[n]? with
  | none => rfl
  | some z =>
    have := List.mem_of_getElem? hg
    rcases List.mem_cons.1 this with rfl | hz
    · rfl
    · rw [h z hz]; rfl

theorem asSB_conc [Syms] {x : AV} {b : SB} (h : asSB x = some b) : conc E x = .bool (b.eval Syms.val) := by
  unfold asSB at h
  split at h
  · cases h; simp [conc, SB.eval]
  · cases h; simp [conc, SB.eval]
  · cases h; simp [conc]
  · split at h
    · rename_i hb
      cases h
      simp only [conc, concs, SB.eval]
      exact pickV_all _ _ (allB_conc _ hb)
    · cases h
  · split at h
    · rename_i hb
      cases h
      simp only [conc, concs, SB.eval]
      exact pickV_all _ _ (allB_conc _ hb)
    · cases h
  · cases h

theorem sxBin_sound [Syms] {op : BinOp} {t : TypeId} {k k' : IntKind} {u v : SX} {r : AV} (x y : Operand) (h : sxBin op k k' u v = some r) :
    (do eqGuard op t x y (.int k (u.eval Syms.val)) (.int k' (v.eval Syms.val)); binOp op t (.int k (u.eval Syms.val)) (.int k' (v.eval Syms.val)) : Sem Value).run P w = .ok (conc E r) w ∧ wfV A r := by
  suffices hs : binA op (.int k (u.eval Syms.val)) (.int k' (v.eval Syms.val)) = some (conc E r) ∧ wfV A r from ⟨binA_sound x y hs.1, hs.2⟩
  have hdiv : ∀ q : Bool, sxDiv q k u v = some r → ∃ n, v.eval Syms.val = n ∧ n ≠ 0 ∧ (q = true → conc E r = .int k (k.wrap ((u.eval Syms.val).tdiv n))) ∧ (q = false → conc E r = .int k ((u.eval Syms.val).tmod n)) ∧ wfV A r := by
    intro q h
    unfold sxDiv at h
    split at h
    · rename_i n hn
      split at h
      · cases h
      · rename_i hz
        have hz' : n ≠ 0 := fun hc => by rw [iEq_iff.2 hc] at hz; cases hz
        split at h <;> cases h
        · exact ⟨n, Syms.numOK _ _ hn, hz', fun _ => (iOf_conc (E := E) (A := A) _ _).1, fun hc => (by cases hc), (iOf_conc (E := E) _ _).2⟩
        · exact ⟨n, Syms.numOK _ _ hn, hz', fun hc => (by cases hc), fun _ => (iOf_conc (E := E) (A := A) _ _).1, (iOf_conc (E := E) _ _).2⟩
    · cases h
  have hshift : ∀ q : Bool, sxShift q k u v = some r → ∃ n : Nat, v.eval Syms.val = n ∧ (q = true → conc E r = .int k (k.wrap (u.eval Syms.val * 2 ^ (min n k.bits)))) ∧ (q = false → conc E r = .int k ((u.eval Syms.val).fdiv (2 ^ (min n k.bits)))) ∧ wfV A r := by
    intro q h
    unfold sxShift at h
    split at h
    · rename_i n hn
      split at h <;> cases h
      · exact ⟨n, Syms.numOK _ _ hn, fun _ => (iOf_conc (E := E) (A := A) _ _).1, fun hc => (by cases hc), (iOf_conc (E := E) _ _).2⟩
      · exact ⟨n, Syms.numOK _ _ hn, fun hc => (by cases hc), fun _ => (iOf_conc (E := E) (A := A) _ _).1, (iOf_conc (E := E) _ _).2⟩
    · cases h
  unfold sxBin at h
  split at h
  · obtain ⟨n, e1, e2, _, e4⟩ := hshift true h
    refine ⟨?_, e4⟩
    rw [e2 rfl, e1]
    have : ¬ ((n : Int) < 0) := by omega
    simp [binA, this]
  · obtain ⟨n, e1, _, e3, e4⟩ := hshift false h
    refine ⟨?_, e4⟩
    rw [e3 rfl, e1]
    have : ¬ ((n : Int) < 0) := by omega
    simp [binA, this]
  · split at h
    · cases h
    · rename_i hk
      obtain rfl := kEq_sound hk
      split at h
      all_goals first
        | (cases h; refine ⟨?_, (iOf_conc (E := E) _ _).2⟩; rw [(iOf_conc (E := E) (A := A) _ _).1]; simp [binA, SX.eval]; done)
        | (cases h; refine ⟨?_, (bOf_conc (E := E) _).2⟩; rw [(bOf_conc (E := E) (A := A) _).1]; simp [binA, SB.eval]; done)
        | (obtain ⟨n, e1, e2, e3, _, e4⟩ := hdiv true h; refine ⟨?_, e4⟩; rw [e3 rfl, e1]; simp [binA, e2]; done)
        | (obtain ⟨n, e1, e2, _, e3, e4⟩ := hdiv false h; refine ⟨?_, e4⟩; rw [e3 rfl, e1]; simp [binA, e2]; done)
        | (cases h; done)
        | (cases h; refine ⟨?_, (bOf_conc (E := E) _).2⟩; rw [(bOf_conc (E := E) (A := A) _).1]; simp [binA, SB.eval, bne]; done)

theorem aggOf_conc [Syms] {x : AV} {cs : List AV} (h : aggOf x = some cs) (hx : wfV A x) : conc E x = .agg (concs E cs).toArray ∧ wfVs A cs := by
  unfold aggOf at h
  split at h
  · cases h; exact ⟨by simp [conc], hx⟩
  · rename_i c
    cases h
    refine ⟨?_, (wfVs_iff A _).2 fun y hy => ?_⟩
    · simp [conc, concs_eq, Function.comp_def]
    · simp only [List.mem_map] at hy
      obtain ⟨z, _, rfl⟩ := hy
      trivial
  · cases h

theorem sbAnd_eval (val : Nat → Int) (a b : SB) : (sbAnd a b).eval val = (a.eval val && b.eval val) := by
  unfold sbAnd
  split
  · simp [SB.eval]
  · split <;> simp [SB.eval]

theorem sbIff_eval (val : Nat → Int) (a b : SB) : (sbIff a b).eval val = (a.eval val == b.eval val) := by
  unfold sbIff
  split
  · rename_i he
    rw [sbEq_sound _ _ he]
    simp [SB.eval]
  simp only [SB.eval]
  cases a.eval val <;> cases b.eval val <;> rfl

theorem bytesEq_eq (a b : ByteArray) : bytesEq a b = (a.toList == b.toList) := by
  unfold bytesEq
  rw [ByteArray.toList_eq, ByteArray.toList_eq]

theorem eqFieldsA_sound [Syms] {eq : TypeId → AV → AV → Option SB} {d : Nat} (hq : ∀ t x y b, eq t x y = some b → wfV A x → wfV A y → (Op.equalIn d t (conc E x) (conc E y)).run P w = .ok (b.eval Syms.val) w)
    {xs ys : List AV} (hx : wfVs A xs) (hy : wfVs A ys) : ∀ (fs : List Field) (b : SB), eqFieldsA P eq xs ys fs = some b → (Op.eqFields d (concs E xs).toArray (concs E ys).toArray fs).run P w = .ok (b.eval Syms.val) w := by
  intro fs
  induction fs with
  | nil => intro b h; cases h; simp [Op.eqFields, SB.eval]
  | cons f fs ih =>
    intro b h
    unfold eqFieldsA at h
    split at h
    · cases h
    · rename_i hn
      split at h
      · rename_i u v hu hv
        obtain ⟨h1, h2⟩ := partA_sound (E := E) (P := P) (w := w) hu hx
        obtain ⟨h3, h4⟩ := partA_sound (E := E) (P := P) (w := w) hv hy
        split at h
        · rename_i s hs
          split at h
          · rename_i r hr
            cases h
            have hne : f.name ≠ "_" := by simpa using hn
            have h5 := hq _ _ _ _ hs h2 h4
            simp only [Op.eqFields]
            rw [if_pos hne]
            simp only [Sem.run_bind, h1, h3, h5, Result.andThen_ok, sbAnd_eval]
            cases s.eval Syms.val
            · simp
            · simpa using ih r hr
          · cases h
        · cases h
      · cases h

theorem leafEq_sound [Syms] {d : Nat} {t : TypeId} {ds : TypeDesc} (hu : P.underlying t = some ds) {x y : AV} {b : SB} (h : leafEq ds x y = some b) : (Op.equalIn (d + 1) t (conc E x) (conc E y)).run P w = .ok (b.eval Syms.val) w := by
  unfold leafEq at h
  split at h
  · rename_i kt
    split at h
    · rename_i k u k' v hxa hya
      split at h
      · rename_i hk
        obtain rfl := kEq_sound hk
        cases h
        rw [asSX_conc hxa, asSX_conc hya, run_equalIn_int w _ _ _ _ _ _ hu]
        simp [SB.eval]
      · cases h
    · cases h
  · split at h
    · rename_i u v hxa hya
      cases h
      rw [asSB_conc hxa, asSB_conc hya, run_equalIn_bool w _ _ _ _ hu, sbIff_eval]
    · cases h
  · split at h
    · rename_i u v
      split at h
      · rename_i he
        cases h
        simp only [conc]
        rw [run_equalIn_string w _ _ _ _ hu, ← bytesEq_eq, he]
        rfl
      · rename_i he
        cases h
        simp only [conc]
        rw [run_equalIn_string w _ _ _ _ hu, ← bytesEq_eq, he]
        rfl
    · cases h
  · split at h <;> cases h <;> simp [conc, Op.equalIn, run_underlying hu, SB.eval]
  · split at h <;> cases h <;> simp [conc, Op.equalIn, run_underlying hu, SB.eval]
  · split at h
    · cases h; simp [conc, Op.equalIn, run_underlying hu, SB.eval]
    · cases h; simp [conc, Op.equalIn, run_underlying hu, SB.eval]
    · cases h; simp [conc, Op.equalIn, run_underlying hu, SB.eval]
    · cases h; simp [conc, Op.equalIn, run_underlying hu, SB.eval]
    · split at h
      · rename_i a ha
        cases h; simp [conc, ha, Op.equalIn, run_underlying hu, SB.eval]
      · cases h
    · cases h
  · cases h

theorem eqA_sound [Syms] : ∀ (n d : Nat) (t : TypeId) (x y : AV) (b : SB), eqA P n t x y = some b → wfV A x → wfV A y → (Op.equalIn (n + d) t (conc E x) (conc E y)).run P w = .ok (b.eval Syms.val) w := by
  intro n
  induction n with
  | zero => intro d t x y b h; cases h
  | succ n ih =>
    intro d t x y b h hx hy
    have h : eqStep P (eqA P n) t x y = some b := h
    rw [show n + 1 + d = (n + d) + 1 by omega]
    unfold eqStep at h
    split at h
    · rename_i fields hu
      split at h
      · cases h
      · rename_i hst
        split at h
        · rename_i xs ys hxs hys
          obtain ⟨e1, g1⟩ := aggOf_conc (E := E) hxs hx
          obtain ⟨e2, g2⟩ := aggOf_conc (E := E) hys hy
          have hf : P.fieldsOf t = fields := by simp [Program.fieldsOf, hu]
          rw [e1, e2, run_equalIn_struct w _ _ _ _ (by rw [hf]; exact hu) hst, hf]
          exact eqFieldsA_sound (fun t x y b h hx hy => ih d t x y b h hx hy) g1 g2 _ _ h
        · cases h
    · rename_i hu
      exact leafEq_sound hu h
    · cases h

theorem strOf_list (l : List Int) : (strOf l).toList = l.map fun n => UInt8.ofNat n.toNat := by
  have key : ∀ (l : List Int) (s : ByteArray), (l.foldl (fun r n => r.push (UInt8.ofNat n.toNat)) s).toList = s.toList ++ l.map fun n => UInt8.ofNat n.toNat := by
    intro l
    induction l with
    | nil => intro s; simp
    | cons n r ih =>
      intro s
      rw [List.foldl_cons, ih]
      rw [ByteArray.toList_eq, ByteArray.toList_eq]
      simp [ByteArray.push]
  have := key l ByteArray.empty
  rw [ByteArray.toList_eq ByteArray.empty] at this
  simpa [strOf] using this

theorem u8ok_sound [Syms] {x : SX} (h : u8ok x = true) : 0 ≤ x.eval Syms.val ∧ x.eval Syms.val ≤ 255 := by
  unfold u8ok at h
  have hw : ∀ (n : Int), 0 ≤ IntKind.wrap .u8 n ∧ IntKind.wrap .u8 n ≤ 255 := by
    intro n
    have := wrap_bounds .u8 n
    simpa [IntKind.min, IntKind.max, IntKind.signed, IntKind.bits] using this
  split at h
  · obtain ⟨h1, h2⟩ := bAnd_true h
    exact ⟨iLe_iff.1 h1, iLe_iff.1 h2⟩
  · obtain rfl := kEq_sound h; exact hw _
  · obtain rfl := kEq_sound h; exact hw _
  · obtain rfl := kEq_sound h; exact hw _
  · obtain rfl := kEq_sound h; exact hw _
  · split at h
    · rename_i h1 h2
      have h1 := Syms.decOK _ _ h1
      have h2 := Syms.decOK _ _ h2
      simp only [SB.eval, SX.eval] at h1 h2
      exact ⟨of_decide_eq_true h1, of_decide_eq_true h2⟩
    · cases h

theorem u8_inj {a b : Int} (ha : 0 ≤ a ∧ a ≤ 255) (hb : 0 ≤ b ∧ b ≤ 255) : (UInt8.ofNat a.toNat == UInt8.ofNat b.toNat) = (a == b) := by
  by_cases h : a = b
  · subst h; simp
  · have hne : UInt8.ofNat a.toNat ≠ UInt8.ofNat b.toNat := by
      intro hc
      have := congrArg UInt8.toNat hc
      simp only [UInt8.toNat_ofNat'] at this
      have e1 : a.toNat % 2 ^ 8 = a.toNat := Nat.mod_eq_of_lt (by omega)
      have e2 : b.toNat % 2 ^ 8 = b.toNat := Nat.mod_eq_of_lt (by omega)
      rw [e1, e2] at this
      omega
    rw [beq_eq_false_iff_ne.2 h, beq_eq_false_iff_ne.2 hne]

theorem strEq_sound [Syms] : ∀ (l r : List SX) (b : SB), strEq l r = some b → ((strOf (l.map (SX.eval Syms.val))).toList == (strOf (r.map (SX.eval Syms.val))).toList) = b.eval Syms.val := by
  intro l
  induction l with
  | nil => intro r b h; cases r with
    | nil => simp only [strEq, Option.some.injEq] at h; subst h; simp [SB.eval]
    | cons y s => simp only [strEq, Option.some.injEq] at h; subst h; simp [strOf_list, SB.eval]
  | cons x l ih => intro r b h; cases r with
    | nil => simp only [strEq, Option.some.injEq] at h; subst h; simp [strOf_list, SB.eval]
    | cons y s =>
      unfold strEq at h
      split at h
      · rename_i hu
        obtain ⟨h1, h2⟩ := bAnd_true hu
        split at h
        · rename_i b' hb
          cases h
          have := ih s b' hb
          rw [strOf_list, strOf_list] at this
          simp only [strOf_list, List.map_cons, List.cons_beq_cons, sbAnd_eval, SB.eval, this, u8_inj (u8ok_sound h1) (u8ok_sound h2)]
        · cases h
      · cases h

theorem notNum_conc [Syms] {u : AV} (h : notNum u = true) (t : TypeId) (v : Value) : binOp .eql t (conc E u) v = (do pure (.bool (← Op.equal t (conc E u) v))) ∧ binOp .neq t (conc E u) v = (do pure (.bool (!(← Op.equal t (conc E u) v)))) := by
  cases u with
  | v z => cases z <;> first | (cases h; done) | (simp only [conc]; cases v <;> exact ⟨rfl, rfl⟩)
  | sym k => cases h
  | sx k e => cases h
  | str l => cases h
  | pick l x =>
    cases hb : asSB (.pick l x) with
    | none => simp [notNum, hb] at h
    | some b => rw [asSB_conc hb]; cases v <;> exact ⟨rfl, rfl⟩
  | _ => simp only [conc]; cases v <;> exact ⟨rfl, rfl⟩

theorem guardOK_conc [Syms] {op : BinOp} {t : TypeId} {u : AV} (hn : notNum u = true) (hg : guardOK P t u = true) (x y : Operand) (v : Value) : (eqGuard op t x y (conc E u) v).run P w = .ok () w := by
  have hagg : ∀ cs, aggOf u = some cs → P.eqGuardType P.depth t = false := by
    intro cs hc
    simpa [guardOK, hc] using hg
  have hz : ∀ cs, (eqGuard op t x y (.agg cs) v).run P w = .ok () w ∨ P.eqGuardType P.depth t = true := by
    intro cs
    cases hq : P.eqGuardType P.depth t
    · left
      cases v <;> cases op <;> simp [eqGuard, run_program, hq]
    · exact .inr rfl
  cases u with
  | v z =>
    cases z with
    | agg cs =>
      rcases hz cs with h | h
      · exact h
      · rw [hagg _ rfl] at h; cases h
    | nilIface => cases hn
    | _ => simp only [conc]; cases op <;> simp [eqGuard]
  | agg cs =>
    rcases hz (concs E cs).toArray with h | h
    · exact h
    · rw [hagg _ rfl] at h; cases h
  | sym k => cases hn
  | sx k e => cases hn
  | str l => cases hn
  | pick l y =>
    cases hb : asSB (.pick l y) with
    | none => simp [notNum, hb] at hn
    | some b => rw [asSB_conc hb]; cases v <;> cases op <;> simp [eqGuard]
  | _ => simp only [conc]; cases op <;> simp [eqGuard]

theorem eqOp_sound [Syms] {op : BinOp} {t : TypeId} {u v : AV} {r : AV} (x y : Operand) (h : eqOp P op t u v = some r) (hu : wfV A u) (hv : wfV A v) :
    (do eqGuard op t x y (conc E u) (conc E v); binOp op t (conc E u) (conc E v) : Sem Value).run P w = .ok (conc E r) w ∧ wfV A r := by
  unfold eqOp at h
  split at h
  · cases h
  · rename_i hn
    split at h
    · cases h
    · rename_i b hb
      split at h
      · cases h
      · rename_i hg
        have h1 := eqA_sound (E := E) (A := A) (P := P) (w := w) 20 9980 t u v b hb hu hv
        have h2 : (Op.equal t (conc E u) (conc E v)).run P w = .ok (b.eval Syms.val) w := h1
        obtain ⟨h3, h4⟩ := notNum_conc (E := E) hn t (conc E v)
        simp only [Sem.run_bind, guardOK_conc (E := E) (w := w) hn hg, Result.andThen_ok]
        split at h
        · cases h
          rw [h3]
          refine ⟨?_, (bOf_conc (E := E) _).2⟩
          simp only [Sem.run_bind, h2, Result.andThen_ok, Sem.run_pure, (bOf_conc (E := E) (A := A) b).1]
        · cases h
          rw [h4]
          refine ⟨?_, (bOf_conc (E := E) _).2⟩
          simp only [Sem.run_bind, h2, Result.andThen_ok, Sem.run_pure, (bOf_conc (E := E) (A := A) (.not b)).1, SB.eval]
        · cases h

theorem qBin_sound [Syms] (hE : EvOK E A ev ρ) {op : BinOp} {t : TypeId} {x y : Operand} {v : AV} (h : qBin P ev op t x y = some v) :
    (do eqGuard op t x y (ρ x) (ρ y); binOp op t (ρ x) (ρ y) : Sem Value).run P w = .ok (conc E v) w ∧ wfV A v := by
  unfold qBin at h
  split at h
  · rename_i k a k' b hx hy
    rw [(hE x _ hx).1, (hE y _ hy).1]
    split at h
    · rename_i r hr
      cases h
      exact ⟨binA_sound x y hr, trivial⟩
    · cases h
  · rename_i a b hx hy
    rw [(hE x _ hx).1, (hE y _ hy).1]
    unfold strOp at h
    split at h
    · cases h
      refine ⟨?_, trivial⟩
      simp [conc, eqGuard, binOp, Op.stringOp, bytesEq_eq]
    · cases h
      refine ⟨?_, trivial⟩
      simp [conc, eqGuard, binOp, Op.stringOp, bytesEq_eq]
    · cases h
  · rename_i l r hx hy
    rw [(hE x _ hx).1, (hE y _ hy).1]
    split at h
    · split at h
      · rename_i b hb
        cases h
        refine ⟨?_, (bOf_conc (E := E) _).2⟩
        rw [(bOf_conc (E := E) (A := A) _).1, ← strEq_sound l r b hb]
        simp [conc, eqGuard, binOp, Op.stringOp]
      · cases h
    · split at h
      · rename_i b hb
        cases h
        refine ⟨?_, (bOf_conc (E := E) _).2⟩
        rw [(bOf_conc (E := E) (A := A) _).1]
        simp only [SB.eval, ← strEq_sound l r b hb]
        simp [conc, eqGuard, binOp, Op.stringOp]
      · cases h
    · cases h
  · rename_i k c hx hy
    rw [(hE x _ hx).1, (hE y _ hy).1]
    obtain ⟨h1, h2⟩ := qSym_sound (P := P) (E := E) (A := A) (w := w) (t := t) x y h
    exact ⟨h1.1, h2⟩
  · rename_i c k hx hy
    rw [(hE x _ hx).1, (hE y _ hy).1]
    obtain ⟨h1, h2⟩ := qSym_sound (P := P) (E := E) (A := A) (w := w) (t := t) x y h
    exact ⟨h1.2, h2⟩
  · rename_i a b _ _ _ _ hx hy
    obtain ⟨e1, w1⟩ := hE x _ hx
    obtain ⟨e2, w2⟩ := hE y _ hy
    rw [e1, e2]
    split at h
    · rename_i k u k' z hu hz
      rw [asSX_conc hu, asSX_conc hz, ← nrm_eval u, ← nrm_eval z]
      exact sxBin_sound x y h
    · exact eqOp_sound x y h w1 w2
  · cases h

theorem u8s_conc [Syms] : ∀ (l : List AV) (xs : List SX), u8s l = some xs → concs E l = (xs.map (SX.eval Syms.val)).map (Value.int .u8) := by
  intro l
  induction l with
  | nil => intro xs h; simp only [u8s, Option.some.injEq] at h; subst h; rfl
  | cons x r ih =>
    intro xs h
    unfold u8s at h
    split at h
    · rename_i k e hx
      split at h
      · rename_i hk
        obtain rfl := kEq_sound hk
        split at h
        · rename_i l hl
          cases h
          simp only [concs, asSX_conc (E := E) hx, ih l hl, List.map_cons]
        · cases h
      · cases h
    · cases h

theorem bytesB_sound [Syms] (hH : HRel E A H w) {own : Bool} {b off len : Nat} {xs : List SX} (h : bytesB own H b off len = some xs) :
    (loadCells ⟨E.ρ b, (if own = true then 0 else E.κ b) + off, none⟩ len).run P w = .ok ((xs.map (SX.eval Syms.val)).map (Value.int .u8)).toArray w := by
  unfold bytesB at h
  split at h
  · rename_i B hB
    split at h
    · rename_i ho
      have ho : isOwn B = own := by simpa using ho
      split at h
      · rename_i l hl
        have hc := u8s_conc (E := E) l xs h
        have key : l.length = len ∧ ∀ j u, (concs E l)[j]? = some u → w.cell? ((⟨E.ρ b, (if own = true then 0 else E.κ b) + off, none⟩ : Addr).add j) = some u := by
          cases own with
          | true =>
            obtain ⟨h1, _, h3⟩ := hH.cells hB (isOwn_iff.1 ho) hl
            refine ⟨h1, fun j u hu => ?_⟩
            have := h3 j u hu
            simpa using this
          | false =>
            have hro : B.elem = roT := by
              rcases Nat.decEq B.elem roT with hn | he
              · rw [isOwn_iff.2 hn] at ho; cases ho
              · exact he
            obtain ⟨h1, _, h3⟩ := hH.cellsRo hB hro hl
            refine ⟨h1, fun j u hu => ?_⟩
            have := h3 j u hu
            simpa using this
        have hrun := run_loadCells_list (P := P) w ⟨E.ρ b, (if own = true then 0 else E.κ b) + off, none⟩ (concs E l) key.2
        rw [show (concs E l).length = len by rw [concs_eq, List.length_map, key.1], hc] at hrun
        exact hrun
      · cases h
    · cases h
  · cases h

theorem ry0_conc [Syms] (b : Nat) (n c : SX) (hn : n.eval Syms.val ≠ 0) : conc E (.ry b (.c (.ofNat 0)) n c) = .slice (some ⟨E.ρ b, E.κ b, none⟩) (n.eval Syms.val).toNat (c.eval Syms.val).toNat := by
  have e : (if c.eval Syms.val = (SX.c (.ofNat 0)).eval Syms.val then 0 else ((SX.c (.ofNat 0)).eval Syms.val).toNat) = 0 := by split <;> rfl
  have e2 : (c.eval Syms.val - (SX.c (.ofNat 0)).eval Syms.val) = c.eval Syms.val := by simp [SX.eval]
  unfold conc
  rw [if_neg hn, if_neg hn, e, e2, Nat.add_zero]

theorem upA_map (val : Nat → Int) : ∀ (m k0 : Nat), (upA m k0).map (SX.eval val) = (List.range m).map (fun i => val (k0 + i)) := by
  intro m
  induction m with
  | zero => intro k0; rfl
  | succ m ih =>
    intro k0
    show val k0 :: (upA m (k0 + 1)).map (SX.eval val) = _
    rw [ih (k0 + 1), List.range_succ_eq_map]
    simp only [List.map_cons, List.map_map, Nat.add_zero]
    congr 1
    apply List.map_congr_left
    intro i _
    simp only [Function.comp_def]
    congr 1
    omega

theorem bytesR_sound [Syms] (hH : HRel E A H w) {b m : Nat} {xs : List SX} (h : bytesR H b m = some xs) :
    (loadCells ⟨E.ρ b, E.κ b, none⟩ m).run P w = .ok ((xs.map (SX.eval Syms.val)).map (Value.int .u8)).toArray w := by
  unfold bytesR at h
  split at h
  · rename_i B hB
    split at h
    · rename_i k k0 n hr
      split at h
      · rename_i hk hd
        cases h
        obtain rfl := kEq_sound hk
        have hd := Syms.decOK _ _ hd
        simp only [SB.eval, SX.eval] at hd
        have hd : (m : Int) ≤ n.eval Syms.val := of_decide_eq_true hd
        have hrow := (hH.blk b B hB).row _ k0 n hr
        rw [upA_map, List.map_map]
        have hrun := run_loadCells_list (P := P) w ⟨E.ρ b, E.κ b, none⟩ ((List.range m).map (Value.int .u8 ∘ fun i => Syms.val (k0 + i))) (by
          intro j u hu
          rw [List.getElem?_map] at hu
          by_cases hj : j < m
          · rw [List.getElem?_range hj] at hu
            simp only [Option.map_some, Option.some.injEq, Function.comp_def] at hu
            rw [← hu, add_lit]
            exact hrow j (by omega)
          · rw [List.getElem?_eq_none (by simpa using hj)] at hu
            cases hu)
        rw [List.length_map, List.length_range] at hrun
        exact hrun
      · cases h
    · cases h
  · cases h

theorem bytesA_sound [Syms] (hH : HRel E A H w) {v : AV} {xs : List SX} (h : bytesA H v = some xs) : (Conv.bytesToString (conc E v)).run P w = .ok (.string (strOf (xs.map (SX.eval Syms.val)))) w := by
  unfold bytesA at h
  split at h
  · cases h; rfl
  · have := bytesB_sound (P := P) hH h
    simp only [if_true, Nat.zero_add] at this
    exact run_bytesToString w _ _ _ _ this
  · have := bytesB_sound (P := P) hH h
    simp only [if_true, Nat.zero_add] at this
    exact run_bytesToString w _ _ _ _ this
  · have := bytesB_sound (P := P) hH h
    simp only [Bool.false_eq_true, if_false] at this
    exact run_bytesToString w _ _ _ _ this
  · rename_i b m c
    have := bytesR_sound (P := P) hH h
    rw [ry0_conc _ _ _ (by simp only [SX.eval]; show ((m + 1 : Nat) : Int) ≠ 0; omega)]
    exact run_bytesToString w _ _ _ _ this
  · cases h

theorem qStr_sound [Syms] (hE : EvOK E A ev ρ) (hH : HRel E A H w) {src dst : TypeId} {x : Operand} {v : AV} (h : qStr P H ev src dst x = some v) : (convert src dst (ρ x)).run P w = .ok (conc E v) w ∧ wfV A v := by
  unfold qStr at h
  split at h
  · rename_i e hs hd
    split at h
    · rename_i u he _ hx
      split at h
      · rename_i l hl
        cases h
        refine ⟨?_, trivial⟩
        have hb := bytesA_sound (P := P) hH hl
        obtain ⟨g1, _⟩ := hE x u hx
        rw [g1]
        have hnv : (∃ oa n c, conc E u = .slice oa n c) := by
          unfold bytesA at hl
          split at hl
          · exact ⟨none, 0, 0, rfl⟩
          · exact ⟨_, _, _, rfl⟩
          · exact ⟨_, _, _, rfl⟩
          · exact ⟨_, _, _, rfl⟩
          · exact ⟨_, _, _, rfl⟩
          · cases hl
        obtain ⟨oa, n, c, hn⟩ := hnv
        rw [hn] at hb ⊢
        simp only [convert, Sem.run_bind, run_underlying hs, run_underlying hd, Result.andThen_ok, run_underlying he, hb, conc]
      · cases h
    · cases h
  · cases h

theorem evI_ok [Syms] (hE : EvOK E A ev ρ) : EvOK E A (evI ev) ρ := by
  intro x v h
  unfold evI at h
  split at h
  · rename_i k e hx
    split at h
    · rename_i n hn
      cases h
      obtain ⟨h1, _⟩ := hE x _ hx
      exact ⟨by rw [h1]; simp [conc, Syms.numOK _ _ hn], trivial⟩
    · cases h
  · exact hE x v h

theorem boundA_sound [Syms] {d y : Nat} {x : Option AV} {n : Nat} (h : boundA d x = some n) (hn : n ≤ y) (c : BoundsCode) :
    ∀ v, x = some v → (Instr.sliceBound (conc E v) y c).run P w = .ok n w := by
  intro v hv
  subst hv
  unfold boundA at h
  split at h
  · rename_i he; cases he
  · rename_i k n' he
    cases he
    split at h
    · rename_i h0
      cases h
      have : 0 ≤ n' ∧ n' ≤ (y : Int) := by omega
      simp [conc, Instr.sliceBound, asIntOf, this]
    · cases h
  · cases h

/-- The bounds of a slice expression. -/
theorem bounds_sound [Syms] {isSlice : Bool} {len cap l h : Nat} {lo hi : Option AV} (hl : boundA 0 lo = some l) (hh : boundA len hi = some h) (h1 : l ≤ h) (h2 : h ≤ cap) :
    (Instr.sliceBounds isSlice len cap (lo.map (conc E)) (hi.map (conc E)) none).run P w = .ok (l, h, cap) w := by
  cases lo with
  | none =>
    cases hl
    cases hi with
    | none => cases hh; simp [Instr.sliceBounds]
    | some v => simp [Instr.sliceBounds, boundA_sound (E := E) (P := P) (w := w) hh h2 _ v rfl]
  | some u =>
    cases hi with
    | none => cases hh; simp [Instr.sliceBounds, boundA_sound (E := E) (P := P) (w := w) hl h1 _ u rfl]
    | some v => simp [Instr.sliceBounds, boundA_sound (E := E) (P := P) (w := w) hl h1 _ u rfl, boundA_sound (E := E) (P := P) (w := w) hh h2 _ v rfl]

theorem sliceA_sound [Syms] (hH : HRel E A H w) {t : TypeId} {x v : AV} {lo hi : Option AV} (h : sliceA P H t x lo hi = some v) (hx : wfV A x) :
    (Instr.sliceAt t (conc E x) (lo.map (conc E)) (hi.map (conc E)) none).run P w = .ok (conc E v) w ∧ wfV A v := by
  unfold sliceA at h
  split at h
  · rename_i e b off len cap hu
    split at h
    · rename_i l hh s hl hh' hs
      split at h
      · rename_i hc
        cases h
        refine ⟨?_, hx⟩
        have hne : ¬ cap = l := by omega
        simp [Instr.sliceAt, Instr.slice, conc, run_underlying hu, bounds_sound (E := E) (P := P) (w := w) hl hh' hc.1 hc.2.1, run_sizeOf hs, hne, add_lit]
      · cases h
    · cases h
  · rename_i e b len hu
    split at h
    · rename_i l hh s hl hh' hs
      split at h
      · rename_i B hb
        split at h
        · rename_i hc
          cases h
          refine ⟨?_, hx⟩
          obtain ⟨c, g1, g2, g3⟩ := (hH.blk b B hb).own ((hH.blk b B hb).grown hc.2.2.2.1)
          obtain ⟨g4, _, g5⟩ := g3 hc.2.2.2.1
          have hcap : len ≤ E.κ b := by
            have : len * B.s ≤ E.κ b * B.s := by omega
            exact Nat.le_of_mul_le_mul_right this hc.2.2.2.2
          obtain rfl : l = 0 := hc.1
          have hb2 := bounds_sound (E := E) (P := P) (w := w) (isSlice := true) (cap := E.κ b) hl hh' (Nat.zero_le _) (by omega)
          simp only [Instr.sliceAt, Instr.slice, conc, Sem.run_bind, run_underlying hu, Result.andThen_ok, hb2, run_sizeOf hs, Sem.run_pure]
          simp [add_lit]
        · cases h
      · cases h
    · cases h
  · rename_i e b off len kc d hu
    split at h
    · rename_i l hh s hl hh' hs
      split at h
      · rename_i hd
        split at h
        · rename_i hc
          cases h
          refine ⟨?_, hx⟩
          have hd := Syms.decOK _ _ hd
          simp only [SB.eval, SX.eval] at hd
          have hd : ((len + d : Nat) : Int) ≤ Syms.val kc := of_decide_eq_true hd
          have hcap : len ≤ (Syms.val kc).toNat - d := by omega
          have hne : ¬ (Syms.val kc).toNat - d = l := by omega
          have hcd : (Syms.val kc).toNat - (d + l) = (Syms.val kc).toNat - d - l := by omega
          simp [Instr.sliceAt, Instr.slice, conc, run_underlying hu, bounds_sound (E := E) (P := P) (w := w) hl hh' hc.1 (Nat.le_trans hc.2.1 hcap), run_sizeOf hs, hne, add_lit, Nat.add_assoc, hcd]
        · cases h
      · cases h
    · cases h
  · rename_i e hu
    split at h
    · rename_i s hl hh' hs
      cases h
      refine ⟨?_, hx⟩
      simp [Instr.sliceAt, Instr.slice, conc, run_underlying hu, bounds_sound (E := E) (P := P) (w := w) (cap := 0) hl hh' (Nat.le_refl _) (Nat.le_refl _), run_sizeOf hs]
    · cases h
  · rename_i n e b off hu
    split at h
    · rename_i l hh s hl hh' hs
      split at h
      · rename_i hc
        cases h
        refine ⟨?_, hx⟩
        have hne : ¬ n = l := by omega
        simp [Instr.sliceAt, Instr.sureAddr, conc, run_underlying hu, bounds_sound (E := E) (P := P) (w := w) hl hh' hc.1 hc.2.1, run_sizeOf hs, hne, add_lit]
      · cases h
    · cases h
  · cases h

theorem boundX_sound [Syms] {d : SX} {y : Nat} {x : Option AV} {e : SX} (h : boundX d x = some e) (h0 : 0 ≤ e.eval Syms.val) (hn : (e.eval Syms.val).toNat ≤ y) (c : BoundsCode) :
    ∀ v, x = some v → (Instr.sliceBound (conc E v) y c).run P w = .ok (e.eval Syms.val).toNat w := by
  intro v hx
  subst hx
  have h : (match asSX v with | some (_, e) => some e | none => none) = some e := h
  split at h
  · rename_i k e' he
    cases h
    rw [asSX_conc he]
    simp only [Instr.sliceBound, Sem.run_bind]
    simp [asIntOf, h0]
    omega
  · cases h

theorem sliceR_run [Syms] {t e : TypeId} {b : Nat} {n c l hh : SX} {lo hi : Option AV} (hu : P.underlying t = some (.slice e)) (hl : boundX (.c 0) lo = some l) (hh' : boundX n hi = some hh) (hs : sz P e = some 1)
    (h1 : 0 ≤ l.eval Syms.val) (h2 : l.eval Syms.val ≤ hh.eval Syms.val) (h3 : hh.eval Syms.val ≤ c.eval Syms.val) (hn : n.eval Syms.val ≠ 0) :
    (Instr.sliceAt t (conc E (.ry b (.c (.ofNat 0)) n c)) (lo.map (conc E)) (hi.map (conc E)) none).run P w =
      .ok (.slice (some ⟨E.ρ b, E.κ b + (if c.eval Syms.val = l.eval Syms.val then 0 else (l.eval Syms.val).toNat), none⟩) (hh.eval Syms.val - l.eval Syms.val).toNat (c.eval Syms.val - l.eval Syms.val).toNat) w := by
  have hb : (Instr.sliceBounds true (n.eval Syms.val).toNat (c.eval Syms.val).toNat (lo.map (conc E)) (hi.map (conc E)) none).run P w = .ok ((l.eval Syms.val).toNat, (hh.eval Syms.val).toNat, (c.eval Syms.val).toNat) w := by
    have bh := fun (y : Nat) (hy : (hh.eval Syms.val).toNat ≤ y) (cd : BoundsCode) => boundX_sound (E := E) (P := P) (w := w) hh' (by omega) hy cd
    have bl := fun (y : Nat) (hy : (l.eval Syms.val).toNat ≤ y) (cd : BoundsCode) => boundX_sound (E := E) (P := P) (w := w) hl h1 hy cd
    cases lo with
    | none =>
      cases hl
      cases hi with
      | none => cases hh'; simp [Instr.sliceBounds, SX.eval]
      | some v => simp [Instr.sliceBounds, SX.eval, bh (c.eval Syms.val).toNat (by omega) _ v rfl]
    | some u =>
      cases hi with
      | none => cases hh'; simp [Instr.sliceBounds, bl (n.eval Syms.val).toNat (by omega) _ u rfl]
      | some v => simp [Instr.sliceBounds, bh (c.eval Syms.val).toNat (by omega) _ v rfl, bl (hh.eval Syms.val).toNat (by omega) _ u rfl]
  rw [ry0_conc _ _ _ hn]
  simp only [Instr.sliceAt, Instr.slice, Sem.run_bind, run_underlying hu, Result.andThen_ok, hb, run_sizeOf hs, Sem.run_pure]
  have e1 : (hh.eval Syms.val).toNat - (l.eval Syms.val).toNat = (hh.eval Syms.val - l.eval Syms.val).toNat := by omega
  have e2 : (c.eval Syms.val).toNat - (l.eval Syms.val).toNat = (c.eval Syms.val - l.eval Syms.val).toNat := by omega
  rw [e1, e2]
  by_cases hc : c.eval Syms.val = l.eval Syms.val
  · rw [if_pos (by rw [hc]), if_pos hc, Nat.add_zero]
  · rw [if_neg (by omega), if_neg hc]
    simp only [Option.map_some, add_lit, Nat.mul_one]

theorem sliceR_sound [Syms] {t : TypeId} {x v : AV} {lo hi : Option AV} (h : sliceR P t x lo hi = some v) (hx : wfV A x) :
    (Instr.sliceAt t (conc E x) (lo.map (conc E)) (hi.map (conc E)) none).run P w = .ok (conc E v) w ∧ wfV A v := by
  unfold sliceR at h
  split at h
  · rename_i e b n c hu
    split at h
    · rename_i l hh hl hh' hs
      split at h
      · rename_i h1 h2 h3 h4
        cases h
        refine ⟨?_, hx⟩
        have h1 := Syms.decOK _ _ h1
        have h2 := Syms.decOK _ _ h2
        have h3 := Syms.decOK _ _ h3
        have h4 := Syms.decOK _ _ h4
        simp only [SB.eval, SX.eval] at h1 h2 h3 h4
        have h1 : 0 ≤ l.eval Syms.val := of_decide_eq_true h1
        have h2 : l.eval Syms.val < hh.eval Syms.val := of_decide_eq_true h2
        have h3 : hh.eval Syms.val ≤ c.eval Syms.val := of_decide_eq_true h3
        have h4 : 0 < n.eval Syms.val := of_decide_eq_true h4
        rw [sliceR_run hu hl hh' hs h1 (by omega) h3 (by omega)]
        have hless : (lessX hh l).eval Syms.val = hh.eval Syms.val - l.eval Syms.val := by
          unfold lessX
          split
          · simp [SX.eval]
          · rfl
        simp only [conc, nrm_eval, hless]
        rw [if_neg (by omega), if_neg (by omega), if_neg (by omega)]
      · split at h
        · rename_i kc _
          split at h
          · rename_i h4 h3
            cases h
            refine ⟨?_, hx⟩
            have h3 := Syms.decOK _ _ h3
            have h4 := Syms.decOK _ _ h4
            simp only [SB.eval, SX.eval] at h3 h4
            have h3 : 0 ≤ Syms.val kc := of_decide_eq_true h3
            have h4 : 0 < n.eval Syms.val := of_decide_eq_true h4
            rw [sliceR_run (c := .a kc) hu hl hh' hs (Int.le_refl _) (Int.le_refl _) h3 (by omega)]
            have e1 : (if (SX.a kc).eval Syms.val = (SX.c (.ofNat 0)).eval Syms.val then 0 else ((SX.c (.ofNat 0)).eval Syms.val).toNat) = 0 := by split <;> rfl
            rw [e1]
            have e3 : ((SX.a kc).eval Syms.val - (SX.c (.ofNat 0)).eval Syms.val).toNat = (Syms.val kc).toNat - 0 := by
              show (Syms.val kc - 0).toNat = _
              omega
            rw [e3]
            rfl
          · cases h
        · cases h
    · cases h
  · cases h

theorem sliceL_sound [Syms] (hH : HRel E A H w) {t : TypeId} {x y v : AV} (h : sliceL P H t x y = some v) (hx : wfV A x) :
    (Instr.sliceAt t (conc E x) none (some (conc E y)) none).run P w = .ok (conc E v) w ∧ wfV A v := by
  unfold sliceL at h
  split at h
  · rename_i e b len hu
    split at h
    · rename_i hh B hh' hs hB
      split at h
      · rename_i hc
        obtain ⟨k1, k2, k3⟩ := hc
        split at h
        · rename_i h1 h2
          cases h
          refine ⟨?_, hx⟩
          have h1 := Syms.decOK _ _ h1
          have h2 := Syms.decOK _ _ h2
          simp only [SB.eval, SX.eval] at h1 h2
          have h1 : 0 ≤ hh.eval Syms.val := of_decide_eq_true h1
          have h2 : hh.eval Syms.val ≤ (len : Int) := of_decide_eq_true h2
          obtain ⟨c, g1, g2, g3⟩ := (hH.blk b B hB).own ((hH.blk b B hB).grown k2)
          obtain ⟨d1, d2, d3⟩ := g3 k2
          rw [k3, Nat.mul_one] at d1
          have hcap : (hh.eval Syms.val).toNat ≤ E.κ b := by omega
          have hb : (Instr.sliceBounds true len (E.κ b) none (some (conc E y)) none).run P w = .ok (0, (hh.eval Syms.val).toNat, E.κ b) w := by
            have bh := fun (m : Nat) (hm : (hh.eval Syms.val).toNat ≤ m) (cd : BoundsCode) => boundX_sound (E := E) (P := P) (w := w) hh' (by omega) hm cd
            simp [Instr.sliceBounds, bh (E.κ b) hcap _ y rfl]
          have e0 : conc E (.slu b len) = .slice (some ⟨E.ρ b, 0, none⟩) len (E.κ b) := rfl
          have e1 : conc E (.lsl b (nrm hh)) = .slice (some ⟨E.ρ b, 0, none⟩) (hh.eval Syms.val).toNat (E.κ b) := by simp only [conc, nrm_eval]
          rw [e0, e1]
          simp only [Instr.sliceAt, Instr.slice, Sem.run_bind, run_underlying hu, Result.andThen_ok, hb, run_sizeOf hs, Sem.run_pure]
          by_cases hz : E.κ b = 0
          · rw [if_pos hz]; rfl
          · rw [if_neg hz]
            simp only [Option.map_some, add_lit]
            rfl
        · cases h
      · cases h
    · cases h
  · cases h

theorem qSlice_sound [Syms] (hE : EvOK E A ev ρ) (hH : HRel E A H w) {t : TypeId} {x : Operand} {lo hi : Option Operand} {v : AV} (h : qSlice P H ev t x lo hi = some v) :
    (Instr.sliceAt t (ρ x) (lo.map ρ) (hi.map ρ) none).run P w = .ok (conc E v) w ∧ wfV A v := by
  unfold qSlice at h
  split at h
  · rename_i v' hv
    cases h
    unfold qSliceR at hv
    split at hv
    · rename_i a ha
      obtain ⟨h1, h2⟩ := hE x a ha
      rw [h1]
      split at hv
      · exact sliceR_sound hv h2
      · split at hv
        · rename_i l hl
          have := sliceR_sound (E := E) (w := w) hv h2
          simpa [(hE _ _ hl).1] using this
        · cases hv
      · split at hv
        · rename_i l hl
          have := sliceR_sound (E := E) (w := w) hv h2
          simpa [(hE _ _ hl).1] using this
        · cases hv
      · split at hv
        · rename_i l m hl hm
          have := sliceR_sound (E := E) (w := w) hv h2
          simpa [(hE _ _ hl).1, (hE _ _ hm).1] using this
        · cases hv
    · cases hv
  rename_i hR0
  clear hR0
  split at h
  rotate_left
  · rename_i hO
    clear hO
    unfold qSliceL at h
    split at h
    · rename_i a ha
      obtain ⟨h1, h2⟩ := hE x a ha
      rw [h1]
      split at h
      · rename_i m
        split at h
        · cases h
        · split at h
          · rename_i m' hm
            have := sliceL_sound hH h h2
            simpa [(hE _ _ hm).1] using this
          · cases h
      · cases h
    · cases h
  rename_i v' hO
  cases h
  rename_i h
  clear h
  have h := hO
  unfold qSliceO at h
  split at h
  · rename_i a ha
    obtain ⟨h1, h2⟩ := hE x a ha
    rw [h1]
    split at h
    · exact sliceA_sound (lo := none) (hi := none) hH h h2
    · rename_i l
      split at h
      · rename_i l' hl
        have := sliceA_sound (lo := some l') (hi := none) hH h h2
        simpa [(evI_ok hE l l' hl).1] using this
      · cases h
    · rename_i l
      split at h
      · rename_i l' hl
        have := sliceA_sound (lo := none) (hi := some l') hH h h2
        simpa [(evI_ok hE l l' hl).1] using this
      · cases h
    · rename_i l m
      split at h
      · rename_i l' m' hl hm
        have := sliceA_sound (lo := some l') (hi := some m') hH h h2
        simpa [(evI_ok hE l l' hl).1, (evI_ok hE m m' hm).1] using this
      · cases h
  · cases h

theorem aq_sound [Syms] (hE : EvOK E A ev ρ) (hH : HRel E A H w) (o : Oper) {v : AV} (h : aq P H ev o.op = some v) :
    (execOp ρ o).run P w = .ok (.value (conc E v)) w ∧ wfV A v := by
  obtain ⟨dst, op, type, pos, after, guard⟩ := o
  simp only at h
  unfold aq at h
  split at h
  · rename_i x
    obtain ⟨h1, h2⟩ := hE x v h
    exact ⟨by simp [execOp, h1], h2⟩
  · rename_i x
    obtain ⟨h1, h2⟩ := hE x v h
    exact ⟨by simp [execOp, h1], h2⟩
  · rename_i c a b
    unfold qPick at h
    split at h
    · rename_i hc
      obtain ⟨h1, h2⟩ := hE a v h
      exact ⟨by simp [execOp, (hE c _ hc).1, conc, asBool, h1], h2⟩
    · rename_i hc
      obtain ⟨h1, h2⟩ := hE b v h
      exact ⟨by simp [execOp, (hE c _ hc).1, conc, asBool, h1], h2⟩
    · cases h
  · rename_i t a
    unfold qLoad at h
    split at h
    · rename_i x hx
      obtain ⟨ad, h1, h2, h3⟩ := loadA_sound hH h
      refine ⟨?_, h3⟩
      simp [execOp, (hE a x hx).1, h1, Instr.loadAt, Instr.sureAddr, h2]
    · cases h
  · rename_i op t x y yt
    obtain ⟨h1, h2⟩ := qBin_sound (w := w) hE h
    refine ⟨?_, h2⟩
    show Sem.run P (do let v ← (do eqGuard op t x y (ρ x) (ρ y); binOp op t (ρ x) (ρ y)); pure (Next.value v)) w = _
    simp only [Sem.run_bind] at h1 ⊢
    rw [h1]
    rfl
  · rename_i op t x
    unfold qUn at h
    split at h
    · rename_i a ha
      split at h
      · rename_i r hr
        cases h
        refine ⟨?_, trivial⟩
        simp [execOp, (hE x _ ha).1, conc, unA_sound hr]
      · cases h
    · rename_i b hb
      split at h
      · cases h
        refine ⟨?_, (bOf_conc (E := E) _).2⟩
        simp [execOp, (hE x _ hb).1, (bOf_conc (E := E) (A := A) (.not b)).1, conc, Op.unary, SB.eval]
      · cases h
    · rename_i k e he
      split at h
      · cases h
        refine ⟨?_, (iOf_conc (E := E) _ _).2⟩
        simp [execOp, (hE x _ he).1, (iOf_conc (E := E) (A := A) _ _).1, conc, Op.unary, Op.intArith, SX.eval]
      · cases h
    · cases h
  · rename_i src dst x
    unfold qConvH at h
    split at h
    rotate_left
    · obtain ⟨h1, h2⟩ := qStr_sound hE hH h
      exact ⟨by simp [execOp, h1], h2⟩
    rename_i v' h'
    cases h
    have h := h'
    unfold qConv at h
    split at h
    · rename_i k' n d k hx hs hd
      cases h
      refine ⟨?_, trivial⟩
      simp [execOp, (hE x _ hx).1, conc, convert, run_underlying hs, run_underlying hd, Conv.intToInt]
    · rename_i k' e d k hx hs hd
      cases h
      refine ⟨?_, (iOf_conc (E := E) _ _).2⟩
      simp [execOp, (hE x _ hx).1, (iOf_conc (E := E) (A := A) _ _).1, conc, convert, run_underlying hs, run_underlying hd, Conv.intToInt, SX.eval]
    · cases h
  · rename_i t parts
    unfold qBuild at h
    split at h
    · rename_i ps hps
      obtain ⟨h1, h2⟩ := hE.evp _ _ hps
      obtain ⟨h3, h4⟩ := buildA_sound (P := P) (E := E) (w := w) h h2
      refine ⟨?_, h4⟩
      have e : (parts.map fun (x : Nat × Operand) => (x.1, ρ x.2)) = (ps.map fun x => (x.1, conc E x.2)).toArray := by
        apply Array.ext'
        rw [Array.toList_map]
        exact h1
      simp only [execOp, Sem.run_bind]
      rw [show (parts.map fun x => match x with | (i, x) => (i, ρ x)) = (ps.map fun x => (x.1, conc E x.2)).toArray from e, h3]
      simp
    · cases h
  · rename_i t x
    unfold qIface at h
    split at h
    · cases h
    · rename_i a d hd hx hne
      cases h
      obtain ⟨h1, h2⟩ := hE x a hx
      refine ⟨?_, h2⟩
      simp only [execOp, Instr.makeInterface, Sem.run_bind, run_underlying hne, Result.andThen_ok, h1]
      cases d <;> first | (simp [conc]; done) | (exact absurd rfl (hd _))
    · cases h
  · rename_i f first capt
    unfold qFunc at h
    split at h
    · rename_i a b ha hb
      cases h
      obtain ⟨h1, h2⟩ := hE.evs _ _ ha
      obtain ⟨h3, h4⟩ := hE.evs _ _ hb
      refine ⟨?_, h2, h4⟩
      have e1 : first.map ρ = (concs E a).toArray := by apply Array.ext'; rw [Array.toList_map]; exact h1
      have e2 : capt.map ρ = (concs E b).toArray := by apply Array.ext'; rw [Array.toList_map]; exact h3
      simp [execOp, Instr.makeFunc, e1, e2, conc]
    · cases h
  · rename_i t x lo hi
    obtain ⟨h1, h2⟩ := qSlice_sound hE hH h
    refine ⟨?_, h2⟩
    simp only [execOp, Option.map_none, Sem.run_bind, h1, Result.andThen_ok, Sem.run_pure]
  · rename_i s x f
    unfold qFieldAddr at h
    split at h
    · rename_i b off fields hx hu
      split at h
      · rename_i fd hf
        split at h
        · rename_i n hs
          cases h
          obtain ⟨h1, h2⟩ := hE x _ hx
          refine ⟨?_, h2⟩
          have hf' : fields[f]? = some fd := by simpa using hf
          simp only [execOp, Instr.fieldAt, Sem.run_bind, run_underlying hu, Result.andThen_ok, hf', h1, conc, Instr.sureAddr, Sem.run_pure, fieldPlace, run_sizeOf hs]
          simp [add_lit]
        · cases h
      · cases h
    · rename_i b off fields hx hu
      split at h
      · rename_i fd hf
        split at h
        · rename_i n hs
          cases h
          obtain ⟨h1, h2⟩ := hE x _ hx
          refine ⟨?_, h2⟩
          have hf' : fields[f]? = some fd := by simpa using hf
          simp only [execOp, Instr.fieldAt, Sem.run_bind, run_underlying hu, Result.andThen_ok, hf', h1, conc, Instr.sureAddr, Sem.run_pure, fieldPlace, run_sizeOf hs]
          simp [add_lit, Nat.add_assoc]
        · cases h
      · cases h
    · rename_i b off len e fields hx hu
      split at h
      · rename_i fd hf
        split at h
        · rename_i n hs
          cases h
          obtain ⟨h1, h2⟩ := hE x _ hx
          refine ⟨?_, h2⟩
          have hf' : fields[f]? = some fd := by simpa using hf
          simp only [execOp, Instr.fieldAt, Sem.run_bind, run_underlying hu, Result.andThen_ok, hf', h1, conc, Instr.sureAddr, Sem.run_pure, fieldPlace, run_sizeOf hs]
          simp [add_lit, Nat.add_assoc, Nat.add_comm, Nat.add_left_comm]
        · cases h
      · cases h
    · rename_i b off st len e fields hx hu
      split at h
      · rename_i fd hf
        split at h
        · rename_i n hs
          cases h
          obtain ⟨h1, h2⟩ := hE x _ hx
          refine ⟨?_, h2⟩
          have hf' : fields[f]? = some fd := by simpa using hf
          simp only [execOp, Instr.fieldAt, Sem.run_bind, run_underlying hu, Result.andThen_ok, hf', h1, conc, Instr.sureAddr, Sem.run_pure, fieldPlace, run_sizeOf hs]
          simp [add_lit, Nat.add_assoc, Nat.add_comm, Nat.add_left_comm]
        · cases h
      · cases h
    · cases h
  · rename_i t x f
    unfold qField at h
    split at h
    · rename_i cs fields hx hu
      split at h
      · rename_i fd hf
        obtain ⟨h1, h2⟩ := hE x _ hx
        obtain ⟨h3, h4⟩ := partA_sound (E := E) (P := P) (w := w) h h2
        refine ⟨?_, h4⟩
        have hf' : fields[f]? = some fd := by simpa using hf
        simp [execOp, Instr.field, run_underlying hu, hf', h1, conc, asAgg, h3]
      · cases h
    · cases h
  · rename_i t x ix
    unfold qIndexAddr at h
    split at h
    · rename_i v' hv'
      cases h
      unfold qIndexOx at hv'
      split at hv'
      · rename_i b off len kc d k e el hx hi hu
        split at hv'
        · rename_i hs _ h1 h2
          cases hv'
          obtain ⟨g1, g2⟩ := hE x _ hx
          refine ⟨?_, g2⟩
          have h1 := Syms.decOK _ _ h1
          have h2 := Syms.decOK _ _ h2
          simp only [SB.eval, SX.eval] at h1 h2
          have h1 : 0 ≤ e.eval Syms.val := of_decide_eq_true h1
          have h2 : e.eval Syms.val < ((len : Nat) : Int) := of_decide_eq_true h2
          simp [execOp, Instr.indexAt, g1, (hE ix _ hi).1, conc, asIntOf, run_underlying hu, h1, h2, run_sizeOf hs, add_lit, Nat.add_assoc]
        · cases hv'
      · rename_i b off len cap k e el hx hi hu
        split at hv'
        · rename_i hs _ h1 h2
          cases hv'
          obtain ⟨g1, g2⟩ := hE x _ hx
          refine ⟨?_, g2⟩
          have h1 := Syms.decOK _ _ h1
          have h2 := Syms.decOK _ _ h2
          simp only [SB.eval, SX.eval] at h1 h2
          have h1 : 0 ≤ e.eval Syms.val := of_decide_eq_true h1
          have h2 : e.eval Syms.val < ((len : Nat) : Int) := of_decide_eq_true h2
          simp [execOp, Instr.indexAt, g1, (hE ix _ hi).1, conc, asIntOf, run_underlying hu, h1, h2, run_sizeOf hs, add_lit]
        · cases hv'
      · cases hv'
    cases hq : qIndexIn P ev t x ix with
    | none =>
      rw [hq] at h
      cases hp : qIndexPs P ev t x ix with
      | none =>
        rw [hp] at h
        have h : qIndexR P ev t x ix = some v := h
        unfold qIndexR at h
        split at h
        · rename_i b o n c i el hx hi hu
          split at h
          · rename_i k e he hs
            split at h
            · rename_i hlie h1 h2
              cases h
              obtain ⟨g1, g2⟩ := hE x _ hx
              refine ⟨?_, g2⟩
              have h1 := Syms.decOK _ _ h1
              have h2 := Syms.decOK _ _ h2
              simp only [SB.eval, SX.eval, nrm_eval] at h1 h2
              have h1 : 0 ≤ e.eval Syms.val := of_decide_eq_true h1
              have h2 : e.eval Syms.val < n.eval Syms.val := of_decide_eq_true h2
              have ho : (if c.eval Syms.val = o.eval Syms.val then 0 else (o.eval Syms.val).toNat) + (e.eval Syms.val).toNat = ((addO o (nrm e)).eval Syms.val).toNat := by
                unfold lies at hlie
                unfold addO
                split at hlie
                · have e0 : (if c.eval Syms.val = (SX.c (.ofNat 0)).eval Syms.val then 0 else ((SX.c (.ofNat 0)).eval Syms.val).toNat) = 0 := by split <;> rfl
                  rw [e0, Nat.zero_add]
                  show _ = ((nrm e).eval Syms.val).toNat
                  rw [nrm_eval]
                · rename_i o' hne
                  split at hlie
                  · rename_i k1 k2
                    have k1 := Syms.decOK _ _ k1
                    have k2 := Syms.decOK _ _ k2
                    simp only [SB.eval, SX.eval] at k1 k2
                    have k1 : 0 ≤ o.eval Syms.val := of_decide_eq_true k1
                    have k2 : o.eval Syms.val < c.eval Syms.val := of_decide_eq_true k2
                    rw [if_neg (by omega)]
                    simp only [SX.eval, nrm_eval]
                    omega
                  · cases hlie
              have hn0 : n.eval Syms.val ≠ 0 := by omega
              simp only [conc, ← ho]
              simp [execOp, Instr.indexAt, g1, (hE ix _ hi).1, asSX_conc he, conc, asIntOf, run_underlying hu, h1, run_sizeOf hs, add_lit, Nat.add_assoc, hn0]
              intro hc
              omega
            · cases h
          · cases h
        · cases h
      | some v2 =>
      rw [hp] at h
      have h : some v2 = some v := h
      cases h
      have h := hp
      unfold qIndexPs at h
      split at h
      · rename_i b len k e el hx hi hu
        split at h
        · rename_i s hs h1 h2
          cases h
          obtain ⟨g1, g2⟩ := hE x _ hx
          refine ⟨?_, g2⟩
          have h1 := Syms.decOK _ _ h1
          have h2 := Syms.decOK _ _ h2
          simp only [SB.eval, SX.eval] at h1 h2
          have h1 : 0 ≤ e.eval Syms.val := of_decide_eq_true h1
          have h2 : e.eval Syms.val < ((len : Nat) : Int) := of_decide_eq_true h2
          simp [execOp, Instr.indexAt, g1, (hE ix _ hi).1, conc, asIntOf, run_underlying hu, h1, h2, run_sizeOf hs, add_lit]
        · cases h
      · rename_i b off len cap k e el hx hi hu
        split at h
        · rename_i s hs h1 h2
          cases h
          obtain ⟨g1, g2⟩ := hE x _ hx
          refine ⟨?_, g2⟩
          have h1 := Syms.decOK _ _ h1
          have h2 := Syms.decOK _ _ h2
          simp only [SB.eval, SX.eval] at h1 h2
          have h1 : 0 ≤ e.eval Syms.val := of_decide_eq_true h1
          have h2 : e.eval Syms.val < ((len : Nat) : Int) := of_decide_eq_true h2
          simp [execOp, Instr.indexAt, g1, (hE ix _ hi).1, conc, asIntOf, run_underlying hu, h1, h2, run_sizeOf hs, add_lit]
        · cases h
      · cases h
    | some v2 =>
    rw [hq] at h
    have h : some v2 = some v := h
    cases h
    have h := hq
    unfold qIndexIn at h
    split at h
    · rename_i b off len cap k i e hx hi hu
      split at h
      · rename_i s hs
        split at h
        · rename_i hc
          cases h
          obtain ⟨h1, h2⟩ := hE x _ hx
          refine ⟨?_, h2⟩
          simp [execOp, Instr.indexAt, h1, (evI_ok hE ix _ hi).1, conc, asIntOf, run_underlying hu, hc, run_sizeOf hs, add_lit]
        · cases h
      · cases h
    · rename_i b len k i e hx hi hu
      split at h
      · rename_i s hs
        split at h
        · rename_i hc
          cases h
          obtain ⟨h1, h2⟩ := hE x _ hx
          refine ⟨?_, h2⟩
          simp [execOp, Instr.indexAt, h1, (evI_ok hE ix _ hi).1, conc, asIntOf, run_underlying hu, hc, run_sizeOf hs, add_lit]
        · cases h
      · cases h
    · rename_i b off len kc d k i e hx hi hu
      split at h
      · rename_i s hs
        split at h
        · rename_i hc
          cases h
          obtain ⟨h1, h2⟩ := hE x _ hx
          refine ⟨?_, h2⟩
          simp [execOp, Instr.indexAt, h1, (evI_ok hE ix _ hi).1, conc, asIntOf, run_underlying hu, hc, run_sizeOf hs, add_lit, Nat.add_assoc]
        · cases h
      · cases h
    · rename_i b off k i len e hx hi hu
      split at h
      · rename_i s hs
        split at h
        · rename_i hc
          cases h
          obtain ⟨h1, h2⟩ := hE x _ hx
          refine ⟨?_, h2⟩
          simp [execOp, Instr.indexAt, Instr.sureAddr, h1, (evI_ok hE ix _ hi).1, conc, asIntOf, run_underlying hu, hc, run_sizeOf hs, add_lit]
        · cases h
      · cases h
    · cases h
  · rename_i t x ix
    unfold qIndex at h
    split at h
    · rename_i cs k i len e hx hi hu
      split at h
      · rename_i s hs
        split at h
        · rename_i hc
          obtain ⟨h1, h2⟩ := hE x _ hx
          obtain ⟨h3, h4⟩ := partA_sound (E := E) (P := P) (w := w) h h2
          refine ⟨?_, h4⟩
          simp [execOp, Instr.index, h1, (evI_ok hE ix _ hi).1, conc, asIntOf, run_underlying hu, hc, run_sizeOf hs, h3]
        · cases h
      · cases h
    · rename_i s k i hx hi hu
      split at h
      · rename_i hc
        split at h
        · rename_i b hb
          cases h
          obtain ⟨h1, h2⟩ := hE x _ hx
          refine ⟨?_, trivial⟩
          have hb' : s[i.toNat]? = some b := by
            rw [← hb]
            simp only [getElem?_def]
            rfl
          simp [execOp, Instr.index, h1, (evI_ok hE ix _ hi).1, conc, asIntOf, run_underlying hu, hc, hb']
        · cases h
      · cases h
    · cases h
  · rename_i x i
    unfold qExtract at h
    split at h
    · rename_i xs hx
      obtain ⟨h1, h2⟩ := hE x _ hx
      refine ⟨?_, (wfVs_iff A xs).1 h2 v (List.mem_of_getElem? h)⟩
      simp [execOp, Instr.extract, h1, conc, concs_eq, h]
    · cases h
  · rename_i x
    unfold qNil at h
    split at h
    · rename_i b off hx
      cases h
      obtain ⟨h1, h2⟩ := hE x _ hx
      exact ⟨by simp [execOp, h1, conc], h2⟩
    · rename_i f a c hx
      cases h
      obtain ⟨h1, h2⟩ := hE x _ hx
      exact ⟨by simp [execOp, h1, conc], h2⟩
    · rename_i f a c hx
      cases h
      obtain ⟨h1, h2⟩ := hE x _ hx
      exact ⟨by simp [execOp, h1, conc], h2⟩
    · cases h
  · rename_i c
    obtain ⟨callee, args, argTypes⟩ := c
    unfold qCall at h
    simp only at h
    split at h
    · unfold qLen at h
      split at h
      · rename_i x t hargs htypes
        have ha : args = #[x] := by rw [← Array.toArray_toList (xs := args), hargs]
        have ht : argTypes = #[t] := by rw [← Array.toArray_toList (xs := argTypes), htypes]
        subst ha ht
        split at h
        · rename_i hx hu
          cases h
          exact ⟨by simp [execOp, resolve, invoke, builtin, Builtin.len_, (hE x _ hx).1, conc, run_underlying hu, goInt], trivial⟩
        · rename_i hx hu
          cases h
          exact ⟨by simp [execOp, resolve, invoke, builtin, Builtin.len_, (hE x _ hx).1, conc, run_underlying hu, goInt], trivial⟩
        · rename_i hx hu
          cases h
          exact ⟨by simp [execOp, resolve, invoke, builtin, Builtin.len_, (hE x _ hx).1, conc, run_underlying hu, goInt], trivial⟩
        · rename_i hx hu
          cases h
          exact ⟨by simp [execOp, resolve, invoke, builtin, Builtin.len_, (hE x _ hx).1, conc, run_underlying hu, goInt], trivial⟩
        · rename_i hx hu
          cases h
          exact ⟨by simp [execOp, resolve, invoke, builtin, Builtin.len_, (hE x _ hx).1, conc, run_underlying hu, goInt], trivial⟩
        · rename_i k e hx hu
          split at h
          · rename_i hd
            cases h
            have hd := Syms.decOK _ _ hd
            have h0 : 0 ≤ (Syms.val k : Int) := by
              simp only [SB.eval, SX.eval] at hd
              exact of_decide_eq_true hd
            exact ⟨by simp [execOp, resolve, invoke, builtin, Builtin.len_, (hE x _ hx).1, conc, run_underlying hu, goInt, SX.eval]; omega, trivial⟩
          · cases h
        · rename_i n _ e hx hu
          split at h
          · rename_i hd
            cases h
            have hd := Syms.decOK _ _ hd
            have h0 : 0 ≤ (n.eval Syms.val : Int) := by
              simp only [SB.eval, SX.eval] at hd
              exact of_decide_eq_true hd
            exact ⟨by simp [execOp, resolve, invoke, builtin, Builtin.len_, (hE x _ hx).1, conc, run_underlying hu, goInt, (iOf_conc (E := E) (A := A) _ _).1]; omega, (iOf_conc (E := E) _ _).2⟩
          · cases h
        · rename_i n e hx hu
          split at h
          · rename_i hd
            cases h
            have hd := Syms.decOK _ _ hd
            have h0 : 0 ≤ (n.eval Syms.val : Int) := by
              simp only [SB.eval, SX.eval] at hd
              exact of_decide_eq_true hd
            exact ⟨by simp [execOp, resolve, invoke, builtin, Builtin.len_, (hE x _ hx).1, conc, run_underlying hu, goInt, (iOf_conc (E := E) (A := A) _ _).1]; omega, (iOf_conc (E := E) _ _).2⟩
          · cases h
        · rename_i hx hu
          cases h
          exact ⟨by simp [execOp, resolve, invoke, builtin, Builtin.len_, (hE x _ hx).1, conc, run_underlying hu, goInt], trivial⟩
        · cases h
      · cases h
    · unfold qCap at h
      split at h
      · rename_i x t hargs htypes
        have ha : args = #[x] := by rw [← Array.toArray_toList (xs := args), hargs]
        have ht : argTypes = #[t] := by rw [← Array.toArray_toList (xs := argTypes), htypes]
        subst ha ht
        split at h
        · rename_i hx hu
          cases h
          exact ⟨by simp [execOp, resolve, invoke, builtin, Builtin.cap_, (hE x _ hx).1, conc, run_underlying hu, goInt], trivial⟩
        · rename_i hx hu
          cases h
          exact ⟨by simp [execOp, resolve, invoke, builtin, Builtin.cap_, (hE x _ hx).1, conc, run_underlying hu, goInt], trivial⟩
        · cases h
      · cases h
    · split at h
      · rename_i k e hm
        cases h
        refine ⟨?_, (iOf_conc (E := E) _ _).2⟩
        unfold qMin at hm
        split at hm
        · rename_i x y hargs
          have ha : args = #[x, y] := by rw [← Array.toArray_toList (xs := args), hargs]
          subst ha
          split at hm
          · rename_i u v hu hv
            split at hm
            · rename_i k1 a k2 b hua hvb
              split at hm
              · rename_i hk
                obtain rfl := kEq_sound hk
                have hlt := (bOf_conc (E := E) (A := A) (.lt b a)).1
                have hrun : ∀ t, (if b.eval Syms.val < a.eval Syms.val then b.eval Syms.val else a.eval Syms.val) = t → (execOp ρ ⟨dst, .call { callee := .builtin .min, args := #[x, y], argTypes := argTypes }, type, pos, after, guard⟩).run P w = .ok (.value (.int k1 t)) w := by
                  intro t ht
                  simp only [execOp, resolve, invoke, builtin, Builtin.min_, Sem.run_bind, Sem.run_pure, Result.andThen_ok, List.map_toArray, List.map_cons, List.map_nil, (hE x u hu).1, (hE y v hv).1, asSX_conc hua, asSX_conc hvb]
                  simp [Builtin.min2, ht]
                split at hm
                · rename_i hb
                  rw [hb] at hlt
                  simp only [conc, SB.eval, Value.bool.injEq] at hlt
                  have hlt := of_decide_eq_true hlt.symm
                  cases hm
                  rw [(iOf_conc (E := E) (A := A) _ _).1]
                  exact hrun _ (if_pos hlt)
                · rename_i hb
                  rw [hb] at hlt
                  simp only [conc, SB.eval, Value.bool.injEq] at hlt
                  have hlt := of_decide_eq_false hlt.symm
                  cases hm
                  rw [(iOf_conc (E := E) (A := A) _ _).1]
                  exact hrun _ (if_neg hlt)
                · cases hm
              · cases hm
            · cases hm
          · cases hm
        · cases hm
      · cases h
    · cases h
  · cases h

/-- What does not read memory does not hang on it. -/
theorem aq_pure [Syms] {H' : Nat → Option Blk} {o : Op} (h : readsMem o = false) : aq P H ev o = aq P H' ev o := by
  cases o <;> first | rfl | (simp [readsMem] at h)

theorem loadA_mono [Syms] {H' : Nat → Option Blk} {t : TypeId} {x v : AV} (hs : ∀ b B, H b = some B → H' b = some B) (h : loadA P H t x = some v) : loadA P H' t x = some v := by
  cases x with
  | ptr b off =>
    cases hb : H b with
    | none => simp [loadA, hb] at h
    | some B => simp only [loadA, hb, hs b B hb] at h ⊢; exact h
  | op b off =>
    cases hb : H b with
    | none => simp [loadA, hb] at h
    | some B => simp only [loadA, hb, hs b B hb] at h ⊢; exact h
  | ox b off len x =>
    cases hb : H b with
    | none => simp [loadA, hb] at h
    | some B => simp only [loadA, hb, hs b B hb] at h ⊢; exact h
  | px b off len x =>
    cases hb : H b with
    | none => simp [loadA, hb] at h
    | some B => simp only [loadA, hb, hs b B hb] at h ⊢; exact h
  | ps b off s len x =>
    cases hb : H b with
    | none => simp [loadA, hb] at h
    | some B => simp only [loadA, hb, hs b B hb] at h ⊢; exact h
  | rp b x =>
    cases hb : H b with
    | none => simp [loadA, hb] at h
    | some B => simp only [loadA, hb, hs b B hb] at h ⊢; exact h
  | _ => simp [loadA] at h

theorem sliceA_mono [Syms] {H' : Nat → Option Blk} {t : TypeId} {x v : AV} {lo hi : Option AV} (hs : ∀ b B, H b = some B → H' b = some B) (h : sliceA P H t x lo hi = some v) :
    sliceA P H' t x lo hi = some v := by
  unfold sliceA at h ⊢
  cases hu : P.underlying t with
  | none => rw [hu] at h; cases x <;> cases h
  | some d =>
    rw [hu] at h
    cases d <;> cases x <;> first | exact h | (cases h; done) | skip
    · rename_i e y
      cases y <;> first | exact h | (cases h; done) | skip
      rename_i oa n c
      cases oa <;> first | exact h | (cases h; done) | skip
      cases n <;> cases c <;> first | exact h | (cases h; done)
    rename_i e b len
    simp only at h ⊢
    cases h1 : boundA 0 lo with
    | none => rw [h1] at h; cases h
    | some l =>
      rw [h1] at h
      cases h2 : boundA len hi with
      | none => rw [h2] at h; cases h
      | some m =>
        rw [h2] at h
        cases h3 : sz P e with
        | none => rw [h3] at h; cases h
        | some s =>
          rw [h3] at h
          simp only at h ⊢
          cases hb : H b with
          | none => rw [hb] at h; cases h
          | some B => rw [hb] at h; rw [hs b B hb]; exact h

theorem bytesB_mono {H' : Nat → Option Blk} {own : Bool} {b off len : Nat} {xs : List SX} (hs : ∀ b B, H b = some B → H' b = some B) (h : bytesB own H b off len = some xs) : bytesB own H' b off len = some xs := by
  unfold bytesB at h ⊢
  cases hb : H b with
  | none => rw [hb] at h; cases h
  | some B => rw [hb] at h; rw [hs b B hb]; exact h

theorem bytesA_mono [Syms] {H' : Nat → Option Blk} {v : AV} {xs : List SX} (hs : ∀ b B, H b = some B → H' b = some B) (h : bytesA H v = some xs) : bytesA H' v = some xs := by
  unfold bytesA at h ⊢
  split at h
  · exact h
  · exact bytesB_mono hs h
  · exact bytesB_mono hs h
  · exact bytesB_mono hs h
  · rename_i b m c
    unfold bytesR at h ⊢
    cases hb : H b with
    | none => rw [hb] at h; cases h
    | some B => rw [hb] at h; rw [hs b B hb]; exact h
  · cases h

theorem qConvH_mono [Syms] {H' : Nat → Option Blk} {src dst : TypeId} {x : Operand} {v : AV} (hs : ∀ b B, H b = some B → H' b = some B) (h : qConvH P H ev src dst x = some v) : qConvH P H' ev src dst x = some v := by
  unfold qConvH at h ⊢
  split at h
  · exact h
  · unfold qStr at h ⊢
    split at h
    · split at h
      · split at h
        · rename_i l hl
          rw [bytesA_mono hs hl]
          exact h
        · cases h
      · cases h
    · cases h

theorem qSliceO_mono [Syms] {H' : Nat → Option Blk} {t : TypeId} {x : Operand} {lo hi : Option Operand} {v : AV} (hs : ∀ b B, H b = some B → H' b = some B) (h : qSliceO P H ev t x lo hi = some v) : qSliceO P H' ev t x lo hi = some v := by
  simp only [qSliceO] at h ⊢
  cases hx : ev x with
  | none => rw [hx] at h; cases h
  | some a =>
    rw [hx] at h
    cases lo with
    | none =>
      cases hi with
      | none => exact sliceA_mono hs h
      | some m =>
        simp only at h ⊢
        cases hm : evI ev m with
        | none => rw [hm] at h; cases h
        | some m' => rw [hm] at h; exact sliceA_mono hs h
    | some l =>
      cases hi with
      | none =>
        simp only at h ⊢
        cases hl : evI ev l with
        | none => rw [hl] at h; cases h
        | some l' => rw [hl] at h; exact sliceA_mono hs h
      | some m =>
        simp only at h ⊢
        cases hl : evI ev l with
        | none => rw [hl] at h; cases h
        | some l' =>
          rw [hl] at h
          cases hm : evI ev m with
          | none => rw [hm] at h; cases h
          | some m' => rw [hm] at h; exact sliceA_mono hs h

theorem sliceL_mono [Syms] {H' : Nat → Option Blk} {t : TypeId} {x y v : AV} (hs : ∀ b B, H b = some B → H' b = some B) (h : sliceL P H t x y = some v) : sliceL P H' t x y = some v := by
  unfold sliceL at h ⊢
  split at h
  · rename_i e b len hu
    split at h
    · rename_i hh B h1 h2 h3
      rw [h1, h2, hs b B h3]
      exact h
    · cases h
  · cases h

/-- On more memory a reading is the same. -/
theorem aq_mono [Syms] {H' : Nat → Option Blk} {o : Op} {v : AV} (hs : ∀ b B, H b = some B → H' b = some B) (h : aq P H ev o = some v) : aq P H' ev o = some v := by
  cases hr : readsMem o with
  | false => rw [aq_pure (H' := H) hr]; exact h
  | true =>
    cases o with
    | convert src dst x => exact qConvH_mono hs h
    | load t a =>
      simp only [aq, qLoad] at h ⊢
      cases hx : ev a with
      | none => rw [hx] at h; cases h
      | some x => rw [hx] at h; exact loadA_mono hs h
    | slice t x lo hi mx =>
      cases mx with
      | some m => simp [aq] at h
      | none =>
        simp only [aq, qSlice] at h ⊢
        cases hR : qSliceR P ev t x lo hi with
        | some v' => rw [hR] at h; exact h
        | none =>
        rw [hR] at h
        cases hO : qSliceO P H ev t x lo hi with
        | some v' =>
          rw [hO] at h
          rw [qSliceO_mono hs hO]
          exact h
        | none =>
          rw [hO] at h
          have h : qSliceL P H ev t x lo hi = some v := h
          unfold qSliceL at h
          split at h
          · rename_i a ha
            split at h
            · rename_i m _
              split at h
              · cases h
              · rename_i hm
                split at h
                · rename_i m' hm'
                  have hO' : qSliceO P H' ev t x none (some m) = none := by simp only [qSliceO, ha, hm]
                  rw [hO']
                  simp only [qSliceL, ha, hm, hm']
                  exact sliceL_mono hs h
                · cases h
            · cases h
          · cases h
    | _ => simp [readsMem] at hr

end

/-! The operations that make memory, or turn it. -/

def Env.upd (E : Env) (b x k : Nat) : Env := ⟨fun j => if j = b then x else E.ρ j, fun j => if j = b then k else E.κ j⟩

theorem Env.upd_agree (E : Env) (A : Nat → Prop) (b x k : Nat) (h : ¬ A b) : Agree A E (E.upd b x k) := fun j hj => by
  have : j ≠ b := fun e => h (e ▸ hj)
  simp [Env.upd, this]

@[simp] theorem Env.upd_ρ (E : Env) (b x k : Nat) : (E.upd b x k).ρ b = x := by simp [Env.upd]
@[simp] theorem Env.upd_κ (E : Env) (b x k : Nat) : (E.upd b x k).κ b = k := by simp [Env.upd]

/-- With a block more. -/
def setH (H : Nat → Option Blk) (b : Nat) (x : Option Blk) : Nat → Option Blk := fun j => if j = b then x else H j

/-- A and the numbers from lo to hi. -/
def ext (A : Nat → Prop) (lo hi : Nat) : Nat → Prop := fun b => A b ∨ (lo ≤ b ∧ b < hi)

section
variable {P : Program} {E : Env} {A : Nat → Prop} {H : Nat → Option Blk} {w w' : World}

theorem HRel.new [Syms] {b x k : Nat} {B : Blk} {c : Array Value} (hH : HRel E A H w) (hA : ¬ A b) (hne : B.elem ≠ roT) (hsz : w.heap.size ≤ w'.heap.size)
    (hw : ∀ j B, H j = some B → w'.heap[E.ρ j]? = w.heap[E.ρ j]?) (hx : ∀ j B, H j = some B → E.ρ j ≠ x)
    (hB : w'.heap[x]? = some (.cells c B.elem (0, 0))) (hc : ∀ i v, cellOf B i = some v → i < B.n ∧ c[i]? = some (conc E v) ∧ wfV A v)
    (hg : B.grown = true → c.size = k * B.s ∧ k ≤ maxLen ∧ B.n ≤ c.size) (hcat : ∀ y, catOf B = some y → CatIn E c k y) :
    HRel (E.upd b x k) (fun j => A j ∨ j = b) (setH H b (some B)) w' := by
  have hag := E.upd_agree A b x k hA
  refine ⟨fun j C hj => ?_, fun j C hj => ?_, fun j C hj i v hv => ?_, fun j C hj y hy => ?_, fun j j' C C' y y' hj hj' hy hy' he => ?_, fun j j' C C' hj hj' ho he => ?_⟩
  · simp only [setH] at hj
    split at hj
    · rename_i e; exact .inr e
    · exact .inl (hH.mem j C hj)
  · simp only [setH] at hj
    split at hj
    · rename_i e
      subst e
      cases hj
      refine BRel.mk_own hne ⟨c, by rw [Env.upd_ρ]; exact hB, fun i v hv => ?_, fun h => by rw [Env.upd_κ]; exact hg h⟩ fun y hy => ⟨c, by rw [Env.upd_ρ]; exact hB, by rw [Env.upd_κ]; exact (hcat y hy).env⟩
      obtain ⟨h1, h2, h3⟩ := hc i v hv
      exact ⟨h1, by rw [conc_agree hag v h3]; exact h2⟩
    · exact (hH.blk j C hj).keep (hH.mem j C hj) (hH.wf j C hj) hag hsz (hw j C hj) (hH.spwf j C hj)
  · simp only [setH] at hj
    split at hj
    · cases hj
      exact (hc i v hv).2.2.mono (fun _ h => .inl h) v
    · exact (hH.wf j C hj i v hv).mono (fun _ h => .inl h) v
  · simp only [setH] at hj
    split at hj
    · cases hj; exact absurd (spOf_ro hy) hne
    · exact (hH.spwf j C hj y hy).mono (fun _ h => .inl h) y
  · simp only [setH] at hj hj'
    split at hj
    · cases hj; exact absurd (spOf_ro hy) hne
    · split at hj'
      · cases hj'; exact absurd (spOf_ro hy') hne
      · rw [(hag j (hH.mem j C hj)).1, (hag j' (hH.mem j' C' hj')).1] at he
        exact hH.spinj j j' C C' y y' hj hj' hy hy' he
  · simp only [setH] at hj hj'
    split at hj <;> split at hj'
    · rename_i e e'; rw [e, e']
    · rename_i e e'
      subst e
      rw [Env.upd_ρ, (hag j' (hH.mem j' C' hj')).1] at he
      exact absurd he.symm (hx j' C' hj')
    · rename_i e e'
      subst e'
      rw [Env.upd_ρ, (hag j (hH.mem j C hj)).1] at he
      exact absurd he (hx j C hj)
    · rw [(hag j (hH.mem j C hj)).1, (hag j' (hH.mem j' C' hj')).1] at he
      exact hH.inj j j' C C' hj hj' ho he

theorem s_pos {B : Blk} {off n : Nat} (h : ∀ i, i < n → ∃ v, cellOf B (off + i) = some v) (hn : 0 < n) : 0 < B.s := by
  obtain ⟨v, hv⟩ := h 0 hn
  unfold cellOf at hv
  split at hv
  · rename_i p hp
    split at hv
    · rename_i hl
      rcases Nat.eq_zero_or_pos B.s with h0 | h0
      · rw [h0] at hl
        rw [List.eq_nil_of_length_eq_zero hl] at hv
        simp at hv
      · exact h0
    · cases hv
  · cases hv

theorem HRel.set [Syms] {b : Nat} {B B' : Blk} {c : Array Value} (hH : HRel E A H w) (hb : H b = some B) (hne : B.elem ≠ roT) (hne' : B'.elem ≠ roT) (hsz : w.heap.size ≤ w'.heap.size) (hw : ∀ k, k ≠ E.ρ b → w'.heap[k]? = w.heap[k]?)
    (hB : w'.heap[E.ρ b]? = some (.cells c B'.elem (0, 0))) (hc : ∀ i v, cellOf B' i = some v → i < B'.n ∧ c[i]? = some (conc E v) ∧ wfV A v)
    (hg : B'.grown = true → c.size = E.κ b * B'.s ∧ E.κ b ≤ maxLen ∧ B'.n ≤ c.size) (hs : 0 < B'.s) : HRel E A (setH H b (some B')) w' := by
  have hA := hH.mem b B hb
  have hag : Agree A E E := fun _ _ => ⟨rfl, rfl⟩
  refine ⟨fun j C hj => ?_, fun j C hj => ?_, fun j C hj i v hv => ?_, fun j C hj y hy => ?_, fun j j' C C' y y' hj hj' hy hy' he => ?_, fun j j' C C' hj hj' ho he => ?_⟩
  · simp only [setH] at hj
    split at hj
    · rename_i e; subst e; exact hA
    · exact hH.mem j C hj
  · simp only [setH] at hj
    split at hj
    · rename_i e
      subst e
      cases hj
      exact BRel.mk_own hne' ⟨c, hB, fun i v hv => ⟨(hc i v hv).1, (hc i v hv).2.1⟩, hg⟩ fun y hy => by rw [catOf_s hs] at hy; cases hy
    · rename_i hnj
      refine (hH.blk j C hj).keep (hH.mem j C hj) (hH.wf j C hj) hag hsz (hw _ fun e => ?_) (hH.spwf j C hj)
      exact hnj (hH.inj j b C B hj hb (.inr hne) e)
  · simp only [setH] at hj
    split at hj
    · cases hj; exact (hc i v hv).2.2
    · exact hH.wf j C hj i v hv
  · simp only [setH] at hj
    split at hj
    · cases hj; exact absurd (spOf_ro hy) hne'
    · exact hH.spwf j C hj y hy
  · simp only [setH] at hj hj'
    split at hj
    · cases hj; exact absurd (spOf_ro hy) hne'
    · split at hj'
      · cases hj'; exact absurd (spOf_ro hy') hne'
      · exact hH.spinj j j' C C' y y' hj hj' hy hy' he
  · simp only [setH] at hj hj'
    split at hj <;> split at hj'
    · rename_i e e'; rw [e, e']
    · rename_i e e'; subst e; exact hH.inj _ _ B C' hb hj' (.inl hne) he
    · rename_i e e'; subst e'; exact hH.inj _ _ C B hj hb (.inr hne) he
    · exact hH.inj j j' C C' hj hj' ho he

theorem Upd.set {b : Nat} {B B' : Blk} (hb : H b = some B) (hne : B.elem ≠ roT) (hne' : B'.elem ≠ roT) (h1 : w'.os = w.os) (h2 : w'.tape = w.tape) (h3 : w'.output = w.output) (h4 : w'.heap.size = w.heap.size)
    (hw : ∀ k, k ≠ E.ρ b → w'.heap[k]? = w.heap[k]?) : Upd E H w E (setH H b (some B')) w' := by
  refine ⟨h1, h2, h3, by omega, fun k _ hn => hw k fun e => hn b B hb hne e.symm, fun j C hj ho => .inl ?_, fun j C hj ho => ?_⟩
  · simp only [setH] at hj
    split at hj
    · rename_i e; subst e; exact ⟨_, B, hb, hne, rfl⟩
    · exact ⟨j, C, hj, ho, rfl⟩
  · simp only [setH] at hj
    split at hj
    · cases hj; exact absurd ho hne'
    · exact ⟨hj, rfl⟩

theorem setRow_size (w : World) (g : Nat) (cs : Array Value) : (w.setRow g cs).heap.size = w.heap.size := by simp [World.setRow]

/-- A new block at the heap's end. -/
theorem HRel.alloc [Syms] {b : Nat} {B : Blk} {cs : List AV} {e : TypeId} (hH : HRel E A H w) (hA : ¬ A b) (hro : e ≠ roT) (hn : B.n = cs.length) (he : B.elem = e) (hg : B.grown = false)
    (hc : ∀ i, cellOf B i = cs[i]?) (hwf : wfVs A cs) (hs : 0 < B.s) :
    HRel (E.upd b w.heap.size 0) (fun j => A j ∨ j = b) (setH H b (some B)) (w.alloc (.cells (concs E cs).toArray e)) ∧
    Upd E H w (E.upd b w.heap.size 0) (setH H b (some B)) (w.alloc (.cells (concs E cs).toArray e)) := by
  have hlt : ∀ j C, H j = some C → E.ρ j < w.heap.size := fun j C hj => (hH.blk j C hj).lt
  refine ⟨hH.new hA (by rw [he]; exact hro) (by simp) (fun j C hj => heap_alloc_old w _ (hlt j C hj)) (fun j C hj => Nat.ne_of_lt (hlt j C hj)) (c := (concs E cs).toArray) ?_ ?_ ?_ (fun y hy => by rw [catOf_s hs] at hy; cases hy), ?_⟩
  · rw [he]; exact heap_alloc_new w _
  · intro i v hv
    rw [hc i] at hv
    have hi : i < cs.length := by
      rcases Nat.lt_or_ge i cs.length with h | h
      · exact h
      · rw [List.getElem?_eq_none h] at hv; cases hv
    exact ⟨by omega, by simp [concs_eq, hv], (wfVs_iff A cs).1 hwf v (List.mem_of_getElem? hv)⟩
  · intro h; rw [hg] at h; cases h
  · refine ⟨rfl, rfl, rfl, by simp, fun k hk _ => heap_alloc_old w _ hk, fun j C hj ho => ?_, fun j C hj ho => ?_⟩
    · simp only [setH] at hj
      split at hj
      · rename_i e; subst e; exact .inr (by rw [Env.upd_ρ]; exact Nat.le_refl _)
      · refine .inl ⟨j, C, hj, ho, ?_⟩
        have hne : j ≠ b := fun e => hA (e ▸ hH.mem j C hj)
        simp [Env.upd, hne]
    · simp only [setH] at hj
      split at hj
      · cases hj; exact absurd ho (by rw [he]; exact hro)
      · have hne : j ≠ b := fun e => hA (e ▸ hH.mem j C hj)
        exact ⟨hj, by simp [Env.upd, hne]⟩

theorem run_newRow (e : TypeId) (cs : Array Value) (w : World) : (newRow e cs).run P w = .ok ⟨w.heap.size, 0, none⟩ (w.alloc (.cells cs e)) := rfl

theorem run_newVar (e : TypeId) (v : Value) (w : World) : (newVar e v).run P w = .ok ⟨w.heap.size, 0, none⟩ (w.alloc (.cells v.cells e)) := rfl

theorem run_askRoom (n : Nat) (w : World) : (askRoom n).run P w = .ok () w := by
  unfold askRoom
  split <;> rfl

theorem flatten_replicate (n : Nat) (z : List AV) : ((List.replicate n z).flatten).length = n * z.length := by
  simp

theorem zeroRow (n s : Nat) (z : List Value) (hz : z.length = s) (hs : 0 < s) :
    ((Array.range (n * s)).map fun i => z.toArray[i % z.toArray.size]!) = ((List.replicate n z).flatten).toArray := by
  apply Array.ext'
  rw [Array.toList_map]
  simp only [Array.toList_range]
  subst hz
  induction n with
  | zero => simp
  | succ n ih =>
    rw [Nat.succ_mul, List.range_add, List.map_append, ih, List.replicate_succ', List.flatten_append]
    congr 1
    simp only [List.map_map, List.flatten_cons, List.flatten_nil, List.append_nil]
    apply List.ext_getElem?
    intro i
    simp only [List.getElem?_map]
    by_cases hi : i < z.length
    · simp [hi, Nat.mod_eq_of_lt hi]
    · simp [hi]

section
variable {ev : Operand → Option AV} {ρ : Operand → Value}

theorem concs_flatten [Syms] (n : Nat) (l : List AV) : concs E (List.replicate n l).flatten = (List.replicate n (concs E l)).flatten := by
  rw [concs_eq, concs_eq]
  induction n with
  | zero => rfl
  | succ n ih => simp [List.replicate_succ, ih]

theorem wfVs_flatten (n : Nat) {l : List AV} (h : wfVs A l) : wfVs A (List.replicate n l).flatten := by
  rw [wfVs_iff] at h ⊢
  intro x hx
  simp only [List.mem_flatten, List.mem_replicate] at hx
  obtain ⟨l', ⟨_, rfl⟩, hx⟩ := hx
  exact h x hx

theorem al_sound [Syms] (hE : EvOK E A ev ρ) (o : Oper) {cs : List AV} {e : TypeId} {s : Nat} {mk : Nat → AV} (h : al P ev o.op = some (cs, e, s, mk)) :
    wfVs A cs ∧ (∀ (b : Nat) (A' : Nat → Prop), A' b → wfV A' (mk b)) ∧
    ∀ (w : World) (b : Nat) (E' : Env), E'.ρ b = w.heap.size → (execOp ρ o).run P w = .ok (.value (conc E' (mk b))) (w.alloc (.cells (concs E cs).toArray e)) := by
  have hzc : ∀ z : Value, wfVs A (AV.cells (.v z)) := fun z => wfV_cells (x := .v z) trivial
  have hcc : ∀ z : Value, z.cells = (concs E (AV.cells (.v z))).toArray := fun z => conc_cells E (.v z)
  obtain ⟨dst, op, type, pos, after, guard⟩ := o
  simp only at h
  unfold al at h
  split at h
  · rename_i t
    unfold lAlloc at h
    split at h
    · rename_i z hz
      cases h
      refine ⟨hzc z, fun b A' h => h, fun w b E' hb => ?_⟩
      simp only [execOp, Instr.alloc, Sem.run_bind, run_zeroValue hz, Result.andThen_ok, run_newVar, Sem.run_pure, conc, hb, hcc z]
    · cases h
  · rename_i t x
    unfold lBox at h
    split at h
    · rename_i v hv
      cases h
      obtain ⟨h1, h2⟩ := hE x v hv
      refine ⟨wfV_cells h2, fun b A' h => h, fun w b E' hb => ?_⟩
      simp only [execOp, Instr.box, Sem.run_bind, h1, Result.andThen_ok, run_newVar, Sem.run_pure, conc, hb, conc_cells]
    · cases h
  · rename_i t len parts
    unfold lBuildSlice at h
    split at h
    · rename_i ps e' hps hu
      split at h
      · rename_i s' z hs hz
        split at h
        · rename_i hc
          split at h
          · rename_i cs' hf
            cases h
            obtain ⟨h1, h2⟩ := hE.evp _ _ hps
            obtain ⟨h3, h4⟩ := fill_sound (E := E) (A := A) _ ps _ cs hf h2 (wfVs_flatten len (hzc z))
            refine ⟨h4, fun b A' h => h, fun w b E' hb => ?_⟩
            have e1 : (parts.map fun (x : Nat × Operand) => (x.1, ρ x.2)) = (ps.map fun x => (x.1, conc E x.2)).toArray := by
              apply Array.ext'
              rw [Array.toList_map]
              exact h1
            have hzl : (concs E (AV.cells (.v z))).length = s := by rw [concs_eq, List.length_map]; exact hc.2.2
            have hrow := zeroRow len s (concs E (AV.cells (.v z))) hzl hc.1
            rw [← concs_flatten] at hrow
            simp only [execOp]
            rw [show (parts.map fun x => match x with | (i, x) => (i, ρ x)) = (ps.map fun x => (x.1, conc E x.2)).toArray from e1]
            have hle : ¬ (len * s > 2 ^ 24) := by have := hc.2.1; omega
            by_cases h0 : len * s = 0
            · have hl0 : len = 0 := by
                rcases Nat.mul_eq_zero.1 h0 with h | h
                · exact h
                · omega
              subst hl0
              have h3' : Instr.fill (fun i => some (i * s, s)) #[] (ps.map fun x => (x.1, conc E x.2)) = some (concs E cs).toArray := by simpa [concs] using h3
              have e2 : ∀ (f : Nat → Value), (Array.range 0).map f = #[] := fun f => by simp
              have hle' : ¬ ((0 : Nat) > 2 ^ 24) := by omega
              simp only [Instr.buildSlice, Sem.run_bind, run_underlying hu, Result.andThen_ok, run_sizeOf hs, h0, hle', if_false, if_true, Sem.run_pure, e2, h3', run_newRow, conc, hb]
            · simp only [Instr.buildSlice, Sem.run_bind, run_underlying hu, Result.andThen_ok, run_sizeOf hs, hle, if_false, h0, run_zeroValue hz, Sem.run_pure, hcc z, hrow, h3, run_newRow, conc, hb]
          · cases h
        · cases h
      · cases h
    · cases h
  · rename_i t l c
    unfold lMakeSlice at h
    split at h
    · rename_i len cap e' hl hc hu
      split at h
      · rename_i z i hz hi
        split at h
        · rename_i hcond
          cases h
          refine ⟨wfVs_flatten _ (hzc z), fun b A' h => h, fun w b E' hb => ?_⟩
          obtain ⟨c1, c2, c3, c4, c5, c6⟩ := hcond
          have hs : sz P e = some i.size := by simp [sz, hi]
          have hzl : (concs E (AV.cells (.v z))).length = i.size := by rw [concs_eq, List.length_map]; exact c6
          have hrow := zeroRow cap.toNat i.size (concs E (AV.cells (.v z))) hzl c1
          rw [← concs_flatten] at hrow
          have wl : IntKind.i64.wrap len = len := IntWalk.i64_in _ (by omega)
          have wc : IntKind.i64.wrap cap = cap := IntWalk.i64_in _ (by omega)
          have hbytes : (i.bytes : Int) * cap ≤ 65536 * 65536 := Int.mul_le_mul (by omega) (by omega) (by omega) (by omega)
          have t1 : ((decide (cap < 0) || decide ((i.bytes : Int) * cap > 2 ^ 48)) || decide (len < 0) || decide (len > cap)) = false := by
            simp only [Bool.or_eq_false_iff, decide_eq_false_iff_not]
            omega
          have hl' := (hE l _ hl).1
          have hc' := (hE c _ hc).1
          simp only [execOp, Instr.makeSlice, Sem.run_bind, run_underlying hu, Result.andThen_ok, hl', hc', conc, asInt, asIntOf, Sem.run_pure, run_typeInfo hi, wl, wc, t1, Bool.false_eq_true, if_false, run_askRoom, run_sizeOf hs]
          by_cases h0 : cap.toNat * i.size = 0
          · have hc0 : cap.toNat = 0 := by
              rcases Nat.mul_eq_zero.1 h0 with h | h
              · exact h
              · omega
            have e2 : ∀ (f : Nat → Value), (Array.range 0).map f = #[] := fun f => by simp
            simp only [hc0, Nat.zero_mul, if_true, Sem.run_bind, Sem.run_pure, Result.andThen_ok, e2, run_newRow, hb, List.replicate_zero, List.flatten_nil, concs]
          · simp only [h0, if_false, Sem.run_bind, run_zeroValue hz, Result.andThen_ok, Sem.run_pure, hcc z, hrow, run_newRow, hb]
        · cases h
      · cases h
    · cases h
  · cases h

end

/-- A store. -/
theorem storeA_sound [Syms] {β : Type} {S : AS} {t : TypeId} {a x : AV} {κ : AS → Option β} {r : β} (h : storeA P S t a x κ = some r) :
    ∃ S', κ S' = some r ∧ S'.nx = S.nx ∧ (∀ b, blkOf S.hp b = none → blkOf S'.hp b = none) ∧
    ∀ (E : Env) (A : Nat → Prop) (w : World), HRel E A (blkOf S.hp) w → wfV A x →
      ∃ w', (Instr.storeAt t (conc E a) (conc E x)).run P w = .ok () w' ∧ HRel E A (blkOf S'.hp) w' ∧ Upd E (blkOf S.hp) w E (blkOf S'.hp) w' := by
  unfold storeA at h
  split at h
  · rename_i b off
    split at h
    · rename_i B n hB hs
      split at h
      · rename_i hc
        have hc4 := (Bool.and_eq_true _ _ ▸ hc : _ ∧ _)
        obtain ⟨hc1, hc2, hc3⟩ := and3.1 hc4.1
        have hne : B.elem ≠ roT := isOwn_iff.1 hc4.2
        have hlen : x.cells.length = n := by rw [← lenL_eq]; exact Nat.eq_of_beq_eq_true hc1
        have hpos : 1 ≤ n := Nat.le_of_ble_eq_true hc3
        obtain ⟨B', h1, b1, b2, b3, b4, h2, h3⟩ := writeCells_spec _ _ _ _ _ h
        obtain ⟨hp', h4, h5⟩ := Tr.set_spec _ _ _ _ _ _ h1
        rw [fN_eq] at h4
        have hbk := blkOf_set h5
        refine ⟨_, h4, rfl, fun j hj => ?_, fun E A w hH hx => ?_⟩
        · simp only
          rw [hbk j]
          split
          · rename_i e; subst e; rw [hB] at hj; cases hj
          · exact hj
        · obtain ⟨c, g1, g2, g3⟩ := (hH.blk b B hB).own hne
          have hcells : (conc E x).cells.toList = concs E x.cells := by rw [conc_cells]
          have hsize : off + x.cells.length ≤ c.size := by
            obtain ⟨v, hv⟩ := h3 (x.cells.length - 1) (by omega)
            have := (g2 _ v hv).2
            have := (Array.getElem?_eq_some_iff.1 this).1
            omega
          have hst := run_storeCells_at P (E.ρ b) off B.elem (concs E x.cells) 0 c w g1 (by rw [concs_eq, List.length_map]; omega) (by
            intro v hv
            rw [concs_eq] at hv
            obtain ⟨y, hy, rfl⟩ := List.mem_map.1 hv
            exact one_conc E y (List.all_eq_true.1 hc2 y hy))
          simp only [Nat.add_zero, concs_eq, List.length_map] at hst
          have hheap := setRow_heap w (E.ρ b) c (c.toList.take off ++ x.cells.map (conc E) ++ c.toList.drop (off + x.cells.length)).toArray B.elem (0, 0) g1
          have hoth : ∀ k, k ≠ E.ρ b → (w.setRow (E.ρ b) (c.toList.take off ++ x.cells.map (conc E) ++ c.toList.drop (off + x.cells.length)).toArray).heap[k]? = w.heap[k]? :=
            fun k hk => setRow_other w (E.ρ b) k _ hk
          refine ⟨w.setRow (E.ρ b) (c.toList.take off ++ x.cells.map (conc E) ++ c.toList.drop (off + x.cells.length)).toArray, ?_, ?_, ?_⟩
          · have hsz : ¬ ((conc E x).cells.size ≠ n) := by rw [conc_cells]; simp [concs_eq, hlen]
            simp only [Instr.storeAt, Instr.sureAddr, conc, Sem.run_bind, Sem.run_pure, Result.andThen_ok, storeVar, run_sizeOf hs, hsz, if_false]
            rw [hcells, concs_eq]
            exact hst
          · have := hH.set (B' := B') (c := (c.toList.take off ++ x.cells.map (conc E) ++ c.toList.drop (off + x.cells.length)).toArray) hB hne (by rw [b2]; exact hne) (Nat.le_of_eq (setRow_size _ _ _).symm) hoth (by rw [b2]; exact hheap) ?_ ?_ (by rw [b4]; exact s_pos h3 (by omega))
            · have e : (blkOf hp') = setH (blkOf S.hp) b (some B') := funext hbk
              simp only [e]
              exact this
            · intro i v hv
              rw [h2 i] at hv
              have hxw := (wfVs_iff A _).1 (wfV_cells hx)
              have hl1 : (c.toList.take off).length = off := by simp; omega
              split at hv
              · rename_i hi
                obtain ⟨u, hu⟩ := h3 (i - off) (by omega)
                have hlt := (g2 _ u hu).1
                refine ⟨by rw [b1]; omega, ?_, hxw v (List.mem_of_getElem? hv)⟩
                simp only [List.append_assoc, List.getElem?_toArray]
                rw [List.getElem?_append_right (by omega), hl1, List.getElem?_append_left (by simp; omega), List.getElem?_map, hv]
                rfl
              · rename_i hi
                obtain ⟨q1, q2⟩ := g2 i v hv
                refine ⟨by rw [b1]; exact q1, ?_, hH.wf b B hB i v hv⟩
                rw [← q2]
                simp only [List.append_assoc, List.getElem?_toArray]
                by_cases hlt : i < off
                · rw [List.getElem?_append_left (by omega), List.getElem?_take_of_lt hlt]; simp
                · rw [List.getElem?_append_right (by omega), hl1, List.getElem?_append_right (by simp; omega), List.getElem?_drop]
                  simp only [List.length_map, Array.getElem?_toList]
                  congr 1
                  omega
            · intro hg
              rw [b3] at hg
              obtain ⟨q1, q2, q3⟩ := g3 hg
              rw [b4, b1]
              refine ⟨?_, q2, ?_⟩ <;> simp <;> omega
          · have := Upd.set (E := E) (H := blkOf S.hp) (w := w) (w' := w.setRow (E.ρ b) (c.toList.take off ++ x.cells.map (conc E) ++ c.toList.drop (off + x.cells.length)).toArray) (B' := B') hB hne (by rw [b2]; exact hne) rfl rfl rfl (setRow_size _ _ _) hoth
            have e : (blkOf hp') = setH (blkOf S.hp) b (some B') := funext hbk
            simp only [e]
            exact this
      · cases h
    · cases h
  · cases h

/-- Cells that are written one behind the other. -/
theorem writes_sound [Syms] {β : Type} {S : AS} {b : Nat} {B : Blk} {off : Nat} {l : List AV} {κ : AS → Option β} {r : β} (hB : blkOf S.hp b = some B) (hne : B.elem ≠ roT) (hone : l.all AV.one = true) (hpos : 1 ≤ l.length)
    (h : (writeCells B off l fun B => Tr.set deep S.hp b (some B) fun h => fN S.nx fun nx => κ ⟨nx, h⟩) = some r) :
    ∃ S', κ S' = some r ∧ S'.nx = S.nx ∧ (∀ b, blkOf S.hp b = none → blkOf S'.hp b = none) ∧
    ∀ (E : Env) (A : Nat → Prop) (w : World), HRel E A (blkOf S.hp) w → wfVs A l →
      ∃ w', (storeCells ⟨E.ρ b, off, none⟩ (concs E l)).run P w = .ok () w' ∧ HRel E A (blkOf S'.hp) w' ∧ Upd E (blkOf S.hp) w E (blkOf S'.hp) w' := by
  obtain ⟨B', h1, b1, b2, b3, b4, h2, h3⟩ := writeCells_spec _ _ _ _ _ h
  obtain ⟨hp', h4, h5⟩ := Tr.set_spec _ _ _ _ _ _ h1
  rw [fN_eq] at h4
  have hbk := blkOf_set h5
  refine ⟨_, h4, rfl, fun j hj => ?_, fun E A w hH hx => ?_⟩
  · simp only
    rw [hbk j]
    split
    · rename_i e; subst e; rw [hB] at hj; cases hj
    · exact hj
  · obtain ⟨c, g1, g2, g3⟩ := (hH.blk b B hB).own hne
    have hsize : off + l.length ≤ c.size := by
      obtain ⟨v, hv⟩ := h3 (l.length - 1) (by omega)
      have := (g2 _ v hv).2
      have := (Array.getElem?_eq_some_iff.1 this).1
      omega
    have hst := run_storeCells_at P (E.ρ b) off B.elem (concs E l) 0 c w g1 (by rw [concs_eq, List.length_map]; omega) (by
      intro v hv
      rw [concs_eq] at hv
      obtain ⟨y, hy, rfl⟩ := List.mem_map.1 hv
      exact one_conc E y (List.all_eq_true.1 hone y hy))
    simp only [Nat.add_zero, concs_eq, List.length_map] at hst
    have hheap := setRow_heap w (E.ρ b) c (c.toList.take off ++ l.map (conc E) ++ c.toList.drop (off + l.length)).toArray B.elem (0, 0) g1
    have hoth : ∀ k, k ≠ E.ρ b → (w.setRow (E.ρ b) (c.toList.take off ++ l.map (conc E) ++ c.toList.drop (off + l.length)).toArray).heap[k]? = w.heap[k]? :=
      fun k hk => setRow_other w (E.ρ b) k _ hk
    refine ⟨w.setRow (E.ρ b) (c.toList.take off ++ l.map (conc E) ++ c.toList.drop (off + l.length)).toArray, ?_, ?_, ?_⟩
    · rw [concs_eq]
      exact hst
    · have := hH.set (B' := B') (c := (c.toList.take off ++ l.map (conc E) ++ c.toList.drop (off + l.length)).toArray) hB hne (by rw [b2]; exact hne) (Nat.le_of_eq (setRow_size _ _ _).symm) hoth (by rw [b2]; exact hheap) ?_ ?_ (by rw [b4]; exact s_pos h3 (by omega))
      · have e : (blkOf hp') = setH (blkOf S.hp) b (some B') := funext hbk
        simp only [e]
        exact this
      · intro i v hv
        rw [h2 i] at hv
        have hxw := (wfVs_iff A _).1 hx
        have hl1 : (c.toList.take off).length = off := by simp; omega
        split at hv
        · rename_i hi
          obtain ⟨u, hu⟩ := h3 (i - off) (by omega)
          have hlt := (g2 _ u hu).1
          refine ⟨by rw [b1]; omega, ?_, hxw v (List.mem_of_getElem? hv)⟩
          simp only [List.append_assoc, List.getElem?_toArray]
          rw [List.getElem?_append_right (by omega), hl1, List.getElem?_append_left (by simp; omega), List.getElem?_map, hv]
          rfl
        · rename_i hi
          obtain ⟨q1, q2⟩ := g2 i v hv
          refine ⟨by rw [b1]; exact q1, ?_, hH.wf b B hB i v hv⟩
          rw [← q2]
          simp only [List.append_assoc, List.getElem?_toArray]
          by_cases hlt : i < off
          · rw [List.getElem?_append_left (by omega), List.getElem?_take_of_lt hlt]; simp
          · rw [List.getElem?_append_right (by omega), hl1, List.getElem?_append_right (by simp; omega), List.getElem?_drop]
            simp only [List.length_map, Array.getElem?_toList]
            congr 1
            omega
      · intro hg
        rw [b3] at hg
        obtain ⟨q1, q2, q3⟩ := g3 hg
        rw [b4, b1]
        refine ⟨?_, q2, ?_⟩ <;> simp <;> omega
    · have := Upd.set (E := E) (H := blkOf S.hp) (w := w) (w' := w.setRow (E.ρ b) (c.toList.take off ++ l.map (conc E) ++ c.toList.drop (off + l.length)).toArray) (B' := B') hB hne (by rw [b2]; exact hne) rfl rfl rfl (setRow_size _ _ _) hoth
      have e : (blkOf hp') = setH (blkOf S.hp) b (some B') := funext hbk
      simp only [e]
      exact this

end

end Go.Sim
