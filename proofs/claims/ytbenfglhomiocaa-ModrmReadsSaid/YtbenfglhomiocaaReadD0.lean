/-
  The ways of both, part 0.
-/
import Derived.Test.YtbenfglhomiocaaReadH
namespace Go.Proofs.Ytbenfglhomiocaa.Rd
open Go.Sim Go.Proofs.Ytbenfglhomiocaa.Fld Go.Proofs.Ytbenfglhomiocaa.Tab
set_option maxRecDepth 100000

theorem r210_0 (val : Nat → Int) (h : Holds val (.is (qu H) 3 :: pre 2 1 0)) (ht : Tabs 2 val) : Q val := leafR (by omega) h ht [(.c 0), (.c 0), (.c 0), (.c 0), (.c 0), (.c 0), (.c 0), (.c 0), (.c 0), (.c 0), (.c 4)] (by kernel_rfl) (by kernel_rfl) (fun v hG => by kernel_rfl)
theorem r210_1 (val : Nat → Int) (h : Holds val (.is (qu H) 0 :: .is (lo T) 5 :: .is (qu T) 0 :: .is (mi T) 4 :: .is (lo H) 4 :: .ne (qu H) 3 :: pre 2 1 0)) (ht : Tabs 2 val) : Q val := leafR (by omega) h ht [(.c 0), (.c 0), (.c 0), (.c 0), (.c 0), (.c 0), (.c 0), (.c 0), (.c 0), (.c 0), (.c 9)] (by kernel_rfl) (by kernel_rfl) (fun v hG => by kernel_rfl)
theorem r210_2 (val : Nat → Int) (h : Holds val (.is (qu H) 1 :: .ne (qu H) 0 :: .is (lo T) 5 :: .is (qu T) 0 :: .is (mi T) 4 :: .is (lo H) 4 :: .ne (qu H) 3 :: pre 2 1 0)) (ht : Tabs 2 val) : Q val := leafR (by omega) h ht [(.c 0), (.c 0), (.c 0), (.c 0), (.c 0), (.c 0), (.c 0), (.c 0), (.c 0), (.c 0), (.c 9)] (by kernel_rfl) (by kernel_rfl) (fun v hG => by kernel_rfl)
theorem r210_3 (val : Nat → Int) (h : Holds val (.is (qu H) 2 :: .ne (qu H) 1 :: .ne (qu H) 0 :: .is (lo T) 5 :: .is (qu T) 0 :: .is (mi T) 4 :: .is (lo H) 4 :: .ne (qu H) 3 :: pre 2 1 0)) (ht : Tabs 2 val) : Q val := leafR (by omega) h ht [(.c 0), (.c 0), (.c 0), (.c 0), (.c 0), (.c 0), (.c 0), (.c 0), (.c 0), (.c 0), (.c 9)] (by kernel_rfl) (by kernel_rfl) (fun v hG => by kernel_rfl)
theorem r210_4 (val : Nat → Int) (h : Holds val (.ne (qu H) 2 :: .ne (qu H) 1 :: .ne (qu H) 0 :: .is (lo T) 5 :: .is (qu T) 0 :: .is (mi T) 4 :: .is (lo H) 4 :: .ne (qu H) 3 :: pre 2 1 0)) (ht : Tabs 2 val) : Q val := leafR (by omega) h ht [(mi H), (.c (-1)), (.c 5), (.c 5), (.c 5), (.c 12), (.c 1), (.c 0), (.c 0), e2, (.c 0)] (by kernel_rfl) (by kernel_rfl) (fun v hG => by kernel_rfl)
theorem r210_5 (val : Nat → Int) (h : Holds val (.is (qu H) 1 :: .ne (lo T) 5 :: .is (qu T) 0 :: .is (mi T) 4 :: .is (lo H) 4 :: .ne (qu H) 3 :: pre 2 1 0)) (ht : Tabs 2 val) : Q val := leafR (by omega) h ht [(.c 0), (.c 0), (.c 0), (.c 0), (.c 0), (.c 0), (.c 0), (.c 0), (.c 0), (.c 0), (.c 9)] (by kernel_rfl) (by kernel_rfl) (fun v hG => by kernel_rfl)
theorem r210_6 (val : Nat → Int) (h : Holds val (.is (qu H) 2 :: .ne (qu H) 1 :: .ne (lo T) 5 :: .is (qu T) 0 :: .is (mi T) 4 :: .is (lo H) 4 :: .ne (qu H) 3 :: pre 2 1 0)) (ht : Tabs 2 val) : Q val := leafR (by omega) h ht [(.c 0), (.c 0), (.c 0), (.c 0), (.c 0), (.c 0), (.c 0), (.c 0), (.c 0), (.c 0), (.c 9)] (by kernel_rfl) (by kernel_rfl) (fun v hG => by kernel_rfl)
theorem r210_7 (val : Nat → Int) (h : Holds val (.is (qu H) 0 :: .ne (qu H) 2 :: .ne (qu H) 1 :: .ne (lo T) 5 :: .is (qu T) 0 :: .is (mi T) 4 :: .is (lo H) 4 :: .ne (qu H) 3 :: pre 2 1 0)) (ht : Tabs 2 val) : Q val := leafR (by omega) h ht [(mi H), (.c (-1)), (.c 5), (w (.add (.c 0) (lo T))), (.c 5), (.c 12), (.c 1), (.c 0), (.c 0), e2, (.c 0)] (by kernel_rfl) (by kernel_rfl) (fun v hG => by kernel_rfl)
theorem r210_8 (val : Nat → Int) (h : Holds val (.ne (qu H) 0 :: .ne (qu H) 2 :: .ne (qu H) 1 :: .ne (lo T) 5 :: .is (qu T) 0 :: .is (mi T) 4 :: .is (lo H) 4 :: .ne (qu H) 3 :: pre 2 1 0)) (ht : Tabs 2 val) : Q val := leafR (by omega) h ht [(mi H), (.c (-1)), (.c 5), (w (.add (.c 0) (lo T))), (.c 5), (.c 12), (.c 1), (.c 0), (.c 0), e2, (.c 0)] (by kernel_rfl) (by kernel_rfl) (fun v hG => by kernel_rfl)
theorem r210_9 (val : Nat → Int) (h : Holds val (.is (qu H) 0 :: .is (lo T) 5 :: .is (qu T) 1 :: .ne (qu T) 0 :: .is (mi T) 4 :: .is (lo H) 4 :: .ne (qu H) 3 :: pre 2 1 0)) (ht : Tabs 2 val) : Q val := leafR (by omega) h ht [(.c 0), (.c 0), (.c 0), (.c 0), (.c 0), (.c 0), (.c 0), (.c 0), (.c 0), (.c 0), (.c 9)] (by kernel_rfl) (by kernel_rfl) (fun v hG => by kernel_rfl)
theorem r210_10 (val : Nat → Int) (h : Holds val (.is (qu H) 1 :: .ne (qu H) 0 :: .is (lo T) 5 :: .is (qu T) 1 :: .ne (qu T) 0 :: .is (mi T) 4 :: .is (lo H) 4 :: .ne (qu H) 3 :: pre 2 1 0)) (ht : Tabs 2 val) : Q val := leafR (by omega) h ht [(.c 0), (.c 0), (.c 0), (.c 0), (.c 0), (.c 0), (.c 0), (.c 0), (.c 0), (.c 0), (.c 9)] (by kernel_rfl) (by kernel_rfl) (fun v hG => by kernel_rfl)
theorem r210_11 (val : Nat → Int) (h : Holds val (.is (qu H) 2 :: .ne (qu H) 1 :: .ne (qu H) 0 :: .is (lo T) 5 :: .is (qu T) 1 :: .ne (qu T) 0 :: .is (mi T) 4 :: .is (lo H) 4 :: .ne (qu H) 3 :: pre 2 1 0)) (ht : Tabs 2 val) : Q val := leafR (by omega) h ht [(.c 0), (.c 0), (.c 0), (.c 0), (.c 0), (.c 0), (.c 0), (.c 0), (.c 0), (.c 0), (.c 9)] (by kernel_rfl) (by kernel_rfl) (fun v hG => by kernel_rfl)
theorem r210_12 (val : Nat → Int) (h : Holds val (.ne (qu H) 2 :: .ne (qu H) 1 :: .ne (qu H) 0 :: .is (lo T) 5 :: .is (qu T) 1 :: .ne (qu T) 0 :: .is (mi T) 4 :: .is (lo H) 4 :: .ne (qu H) 3 :: pre 2 1 0)) (ht : Tabs 2 val) : Q val := leafR (by omega) h ht [(mi H), (.c (-1)), (.c 5), (.c 5), (.c 5), (.c 12), (.c 2), (.c 0), (.c 0), e2, (.c 0)] (by kernel_rfl) (by kernel_rfl) (fun v hG => by kernel_rfl)
theorem r210_13 (val : Nat → Int) (h : Holds val (.is (qu H) 1 :: .ne (lo T) 5 :: .is (qu T) 1 :: .ne (qu T) 0 :: .is (mi T) 4 :: .is (lo H) 4 :: .ne (qu H) 3 :: pre 2 1 0)) (ht : Tabs 2 val) : Q val := leafR (by omega) h ht [(.c 0), (.c 0), (.c 0), (.c 0), (.c 0), (.c 0), (.c 0), (.c 0), (.c 0), (.c 0), (.c 9)] (by kernel_rfl) (by kernel_rfl) (fun v hG => by kernel_rfl)
theorem r210_14 (val : Nat → Int) (h : Holds val (.is (qu H) 2 :: .ne (qu H) 1 :: .ne (lo T) 5 :: .is (qu T) 1 :: .ne (qu T) 0 :: .is (mi T) 4 :: .is (lo H) 4 :: .ne (qu H) 3 :: pre 2 1 0)) (ht : Tabs 2 val) : Q val := leafR (by omega) h ht [(.c 0), (.c 0), (.c 0), (.c 0), (.c 0), (.c 0), (.c 0), (.c 0), (.c 0), (.c 0), (.c 9)] (by kernel_rfl) (by kernel_rfl) (fun v hG => by kernel_rfl)
theorem r210_15 (val : Nat → Int) (h : Holds val (.is (qu H) 0 :: .ne (qu H) 2 :: .ne (qu H) 1 :: .ne (lo T) 5 :: .is (qu T) 1 :: .ne (qu T) 0 :: .is (mi T) 4 :: .is (lo H) 4 :: .ne (qu H) 3 :: pre 2 1 0)) (ht : Tabs 2 val) : Q val := leafR (by omega) h ht [(mi H), (.c (-1)), (.c 5), (w (.add (.c 0) (lo T))), (.c 5), (.c 12), (.c 2), (.c 0), (.c 0), e2, (.c 0)] (by kernel_rfl) (by kernel_rfl) (fun v hG => by kernel_rfl)
theorem r210_16 (val : Nat → Int) (h : Holds val (.ne (qu H) 0 :: .ne (qu H) 2 :: .ne (qu H) 1 :: .ne (lo T) 5 :: .is (qu T) 1 :: .ne (qu T) 0 :: .is (mi T) 4 :: .is (lo H) 4 :: .ne (qu H) 3 :: pre 2 1 0)) (ht : Tabs 2 val) : Q val := leafR (by omega) h ht [(mi H), (.c (-1)), (.c 5), (w (.add (.c 0) (lo T))), (.c 5), (.c 12), (.c 2), (.c 0), (.c 0), e2, (.c 0)] (by kernel_rfl) (by kernel_rfl) (fun v hG => by kernel_rfl)
theorem r210_17 (val : Nat → Int) (h : Holds val (.is (qu H) 0 :: .is (lo T) 5 :: .is (qu T) 2 :: .ne (qu T) 1 :: .ne (qu T) 0 :: .is (mi T) 4 :: .is (lo H) 4 :: .ne (qu H) 3 :: pre 2 1 0)) (ht : Tabs 2 val) : Q val := leafR (by omega) h ht [(.c 0), (.c 0), (.c 0), (.c 0), (.c 0), (.c 0), (.c 0), (.c 0), (.c 0), (.c 0), (.c 9)] (by kernel_rfl) (by kernel_rfl) (fun v hG => by kernel_rfl)
theorem r210_18 (val : Nat → Int) (h : Holds val (.is (qu H) 1 :: .ne (qu H) 0 :: .is (lo T) 5 :: .is (qu T) 2 :: .ne (qu T) 1 :: .ne (qu T) 0 :: .is (mi T) 4 :: .is (lo H) 4 :: .ne (qu H) 3 :: pre 2 1 0)) (ht : Tabs 2 val) : Q val := leafR (by omega) h ht [(.c 0), (.c 0), (.c 0), (.c 0), (.c 0), (.c 0), (.c 0), (.c 0), (.c 0), (.c 0), (.c 9)] (by kernel_rfl) (by kernel_rfl) (fun v hG => by kernel_rfl)
theorem r210_19 (val : Nat → Int) (h : Holds val (.is (qu H) 2 :: .ne (qu H) 1 :: .ne (qu H) 0 :: .is (lo T) 5 :: .is (qu T) 2 :: .ne (qu T) 1 :: .ne (qu T) 0 :: .is (mi T) 4 :: .is (lo H) 4 :: .ne (qu H) 3 :: pre 2 1 0)) (ht : Tabs 2 val) : Q val := leafR (by omega) h ht [(.c 0), (.c 0), (.c 0), (.c 0), (.c 0), (.c 0), (.c 0), (.c 0), (.c 0), (.c 0), (.c 9)] (by kernel_rfl) (by kernel_rfl) (fun v hG => by kernel_rfl)
theorem r210_20 (val : Nat → Int) (h : Holds val (.ne (qu H) 2 :: .ne (qu H) 1 :: .ne (qu H) 0 :: .is (lo T) 5 :: .is (qu T) 2 :: .ne (qu T) 1 :: .ne (qu T) 0 :: .is (mi T) 4 :: .is (lo H) 4 :: .ne (qu H) 3 :: pre 2 1 0)) (ht : Tabs 2 val) : Q val := leafR (by omega) h ht [(mi H), (.c (-1)), (.c 5), (.c 5), (.c 5), (.c 12), (.c 4), (.c 0), (.c 0), e2, (.c 0)] (by kernel_rfl) (by kernel_rfl) (fun v hG => by kernel_rfl)
theorem r210_21 (val : Nat → Int) (h : Holds val (.is (qu H) 1 :: .ne (lo T) 5 :: .is (qu T) 2 :: .ne (qu T) 1 :: .ne (qu T) 0 :: .is (mi T) 4 :: .is (lo H) 4 :: .ne (qu H) 3 :: pre 2 1 0)) (ht : Tabs 2 val) : Q val := leafR (by omega) h ht [(.c 0), (.c 0), (.c 0), (.c 0), (.c 0), (.c 0), (.c 0), (.c 0), (.c 0), (.c 0), (.c 9)] (by kernel_rfl) (by kernel_rfl) (fun v hG => by kernel_rfl)
theorem r210_22 (val : Nat → Int) (h : Holds val (.is (qu H) 2 :: .ne (qu H) 1 :: .ne (lo T) 5 :: .is (qu T) 2 :: .ne (qu T) 1 :: .ne (qu T) 0 :: .is (mi T) 4 :: .is (lo H) 4 :: .ne (qu H) 3 :: pre 2 1 0)) (ht : Tabs 2 val) : Q val := leafR (by omega) h ht [(.c 0), (.c 0), (.c 0), (.c 0), (.c 0), (.c 0), (.c 0), (.c 0), (.c 0), (.c 0), (.c 9)] (by kernel_rfl) (by kernel_rfl) (fun v hG => by kernel_rfl)
theorem r210_23 (val : Nat → Int) (h : Holds val (.is (qu H) 0 :: .ne (qu H) 2 :: .ne (qu H) 1 :: .ne (lo T) 5 :: .is (qu T) 2 :: .ne (qu T) 1 :: .ne (qu T) 0 :: .is (mi T) 4 :: .is (lo H) 4 :: .ne (qu H) 3 :: pre 2 1 0)) (ht : Tabs 2 val) : Q val := leafR (by omega) h ht [(mi H), (.c (-1)), (.c 5), (w (.add (.c 0) (lo T))), (.c 5), (.c 12), (.c 4), (.c 0), (.c 0), e2, (.c 0)] (by kernel_rfl) (by kernel_rfl) (fun v hG => by kernel_rfl)
theorem r210_24 (val : Nat → Int) (h : Holds val (.ne (qu H) 0 :: .ne (qu H) 2 :: .ne (qu H) 1 :: .ne (lo T) 5 :: .is (qu T) 2 :: .ne (qu T) 1 :: .ne (qu T) 0 :: .is (mi T) 4 :: .is (lo H) 4 :: .ne (qu H) 3 :: pre 2 1 0)) (ht : Tabs 2 val) : Q val := leafR (by omega) h ht [(mi H), (.c (-1)), (.c 5), (w (.add (.c 0) (lo T))), (.c 5), (.c 12), (.c 4), (.c 0), (.c 0), e2, (.c 0)] (by kernel_rfl) (by kernel_rfl) (fun v hG => by kernel_rfl)
theorem r210_25 (val : Nat → Int) (h : Holds val (.is (qu H) 0 :: .is (lo T) 5 :: .ne (qu T) 2 :: .ne (qu T) 1 :: .ne (qu T) 0 :: .is (mi T) 4 :: .is (lo H) 4 :: .ne (qu H) 3 :: pre 2 1 0)) (ht : Tabs 2 val) : Q val := leafR (by omega) h ht [(.c 0), (.c 0), (.c 0), (.c 0), (.c 0), (.c 0), (.c 0), (.c 0), (.c 0), (.c 0), (.c 9)] (by kernel_rfl) (by kernel_rfl) (fun v hG => by kernel_rfl)
theorem r210_26 (val : Nat → Int) (h : Holds val (.is (qu H) 1 :: .ne (qu H) 0 :: .is (lo T) 5 :: .ne (qu T) 2 :: .ne (qu T) 1 :: .ne (qu T) 0 :: .is (mi T) 4 :: .is (lo H) 4 :: .ne (qu H) 3 :: pre 2 1 0)) (ht : Tabs 2 val) : Q val := leafR (by omega) h ht [(.c 0), (.c 0), (.c 0), (.c 0), (.c 0), (.c 0), (.c 0), (.c 0), (.c 0), (.c 0), (.c 9)] (by kernel_rfl) (by kernel_rfl) (fun v hG => by kernel_rfl)
theorem r210_27 (val : Nat → Int) (h : Holds val (.is (qu H) 2 :: .ne (qu H) 1 :: .ne (qu H) 0 :: .is (lo T) 5 :: .ne (qu T) 2 :: .ne (qu T) 1 :: .ne (qu T) 0 :: .is (mi T) 4 :: .is (lo H) 4 :: .ne (qu H) 3 :: pre 2 1 0)) (ht : Tabs 2 val) : Q val := leafR (by omega) h ht [(.c 0), (.c 0), (.c 0), (.c 0), (.c 0), (.c 0), (.c 0), (.c 0), (.c 0), (.c 0), (.c 9)] (by kernel_rfl) (by kernel_rfl) (fun v hG => by kernel_rfl)
theorem r210_28 (val : Nat → Int) (h : Holds val (.ne (qu H) 2 :: .ne (qu H) 1 :: .ne (qu H) 0 :: .is (lo T) 5 :: .ne (qu T) 2 :: .ne (qu T) 1 :: .ne (qu T) 0 :: .is (mi T) 4 :: .is (lo H) 4 :: .ne (qu H) 3 :: pre 2 1 0)) (ht : Tabs 2 val) : Q val := leafR (by omega) h ht [(mi H), (.c (-1)), (.c 5), (.c 5), (.c 5), (.c 12), (.c 8), (.c 0), (.c 0), e2, (.c 0)] (by kernel_rfl) (by kernel_rfl) (fun v hG => by kernel_rfl)
theorem r210_29 (val : Nat → Int) (h : Holds val (.is (qu H) 1 :: .ne (lo T) 5 :: .ne (qu T) 2 :: .ne (qu T) 1 :: .ne (qu T) 0 :: .is (mi T) 4 :: .is (lo H) 4 :: .ne (qu H) 3 :: pre 2 1 0)) (ht : Tabs 2 val) : Q val := leafR (by omega) h ht [(.c 0), (.c 0), (.c 0), (.c 0), (.c 0), (.c 0), (.c 0), (.c 0), (.c 0), (.c 0), (.c 9)] (by kernel_rfl) (by kernel_rfl) (fun v hG => by kernel_rfl)
theorem r210_30 (val : Nat → Int) (h : Holds val (.is (qu H) 2 :: .ne (qu H) 1 :: .ne (lo T) 5 :: .ne (qu T) 2 :: .ne (qu T) 1 :: .ne (qu T) 0 :: .is (mi T) 4 :: .is (lo H) 4 :: .ne (qu H) 3 :: pre 2 1 0)) (ht : Tabs 2 val) : Q val := leafR (by omega) h ht [(.c 0), (.c 0), (.c 0), (.c 0), (.c 0), (.c 0), (.c 0), (.c 0), (.c 0), (.c 0), (.c 9)] (by kernel_rfl) (by kernel_rfl) (fun v hG => by kernel_rfl)
theorem r210_31 (val : Nat → Int) (h : Holds val (.is (qu H) 0 :: .ne (qu H) 2 :: .ne (qu H) 1 :: .ne (lo T) 5 :: .ne (qu T) 2 :: .ne (qu T) 1 :: .ne (qu T) 0 :: .is (mi T) 4 :: .is (lo H) 4 :: .ne (qu H) 3 :: pre 2 1 0)) (ht : Tabs 2 val) : Q val := leafR (by omega) h ht [(mi H), (.c (-1)), (.c 5), (w (.add (.c 0) (lo T))), (.c 5), (.c 12), (.c 8), (.c 0), (.c 0), e2, (.c 0)] (by kernel_rfl) (by kernel_rfl) (fun v hG => by kernel_rfl)
theorem r210_32 (val : Nat → Int) (h : Holds val (.ne (qu H) 0 :: .ne (qu H) 2 :: .ne (qu H) 1 :: .ne (lo T) 5 :: .ne (qu T) 2 :: .ne (qu T) 1 :: .ne (qu T) 0 :: .is (mi T) 4 :: .is (lo H) 4 :: .ne (qu H) 3 :: pre 2 1 0)) (ht : Tabs 2 val) : Q val := leafR (by omega) h ht [(mi H), (.c (-1)), (.c 5), (w (.add (.c 0) (lo T))), (.c 5), (.c 12), (.c 8), (.c 0), (.c 0), e2, (.c 0)] (by kernel_rfl) (by kernel_rfl) (fun v hG => by kernel_rfl)
theorem r210_33 (val : Nat → Int) (h : Holds val (.is (qu H) 0 :: .is (lo T) 5 :: .is (qu T) 0 :: .ne (mi T) 4 :: .is (lo H) 4 :: .ne (qu H) 3 :: pre 2 1 0)) (ht : Tabs 2 val) : Q val := leafR (by omega) h ht [(.c 0), (.c 0), (.c 0), (.c 0), (.c 0), (.c 0), (.c 0), (.c 0), (.c 0), (.c 0), (.c 9)] (by kernel_rfl) (by kernel_rfl) (fun v hG => by kernel_rfl)
theorem r210_34 (val : Nat → Int) (h : Holds val (.is (qu H) 1 :: .ne (qu H) 0 :: .is (lo T) 5 :: .is (qu T) 0 :: .ne (mi T) 4 :: .is (lo H) 4 :: .ne (qu H) 3 :: pre 2 1 0)) (ht : Tabs 2 val) : Q val := leafR (by omega) h ht [(.c 0), (.c 0), (.c 0), (.c 0), (.c 0), (.c 0), (.c 0), (.c 0), (.c 0), (.c 0), (.c 9)] (by kernel_rfl) (by kernel_rfl) (fun v hG => by kernel_rfl)
theorem r210_35 (val : Nat → Int) (h : Holds val (.is (qu H) 2 :: .ne (qu H) 1 :: .ne (qu H) 0 :: .is (lo T) 5 :: .is (qu T) 0 :: .ne (mi T) 4 :: .is (lo H) 4 :: .ne (qu H) 3 :: pre 2 1 0)) (ht : Tabs 2 val) : Q val := leafR (by omega) h ht [(.c 0), (.c 0), (.c 0), (.c 0), (.c 0), (.c 0), (.c 0), (.c 0), (.c 0), (.c 0), (.c 9)] (by kernel_rfl) (by kernel_rfl) (fun v hG => by kernel_rfl)
theorem r210_36 (val : Nat → Int) (h : Holds val (.ne (qu H) 2 :: .ne (qu H) 1 :: .ne (qu H) 0 :: .is (lo T) 5 :: .is (qu T) 0 :: .ne (mi T) 4 :: .is (lo H) 4 :: .ne (qu H) 3 :: pre 2 1 0)) (ht : Tabs 2 val) : Q val := leafR (by omega) h ht [(mi H), (.c (-1)), (.c 5), (.c 5), (.c 5), (w (.add (.c 8) (mi T))), (.c 1), (.c 0), (.c 0), e2, (.c 0)] (by kernel_rfl) (by kernel_rfl) (fun v hG => by kernel_rfl)
theorem r210_37 (val : Nat → Int) (h : Holds val (.is (qu H) 1 :: .ne (lo T) 5 :: .is (qu T) 0 :: .ne (mi T) 4 :: .is (lo H) 4 :: .ne (qu H) 3 :: pre 2 1 0)) (ht : Tabs 2 val) : Q val := leafR (by omega) h ht [(.c 0), (.c 0), (.c 0), (.c 0), (.c 0), (.c 0), (.c 0), (.c 0), (.c 0), (.c 0), (.c 9)] (by kernel_rfl) (by kernel_rfl) (fun v hG => by kernel_rfl)
theorem r210_38 (val : Nat → Int) (h : Holds val (.is (qu H) 2 :: .ne (qu H) 1 :: .ne (lo T) 5 :: .is (qu T) 0 :: .ne (mi T) 4 :: .is (lo H) 4 :: .ne (qu H) 3 :: pre 2 1 0)) (ht : Tabs 2 val) : Q val := leafR (by omega) h ht [(.c 0), (.c 0), (.c 0), (.c 0), (.c 0), (.c 0), (.c 0), (.c 0), (.c 0), (.c 0), (.c 9)] (by kernel_rfl) (by kernel_rfl) (fun v hG => by kernel_rfl)
theorem r210_39 (val : Nat → Int) (h : Holds val (.is (qu H) 0 :: .ne (qu H) 2 :: .ne (qu H) 1 :: .ne (lo T) 5 :: .is (qu T) 0 :: .ne (mi T) 4 :: .is (lo H) 4 :: .ne (qu H) 3 :: pre 2 1 0)) (ht : Tabs 2 val) : Q val := leafR (by omega) h ht [(mi H), (.c (-1)), (.c 5), (w (.add (.c 0) (lo T))), (.c 5), (w (.add (.c 8) (mi T))), (.c 1), (.c 0), (.c 0), e2, (.c 0)] (by kernel_rfl) (by kernel_rfl) (fun v hG => by kernel_rfl)
theorem r210_40 (val : Nat → Int) (h : Holds val (.ne (qu H) 0 :: .ne (qu H) 2 :: .ne (qu H) 1 :: .ne (lo T) 5 :: .is (qu T) 0 :: .ne (mi T) 4 :: .is (lo H) 4 :: .ne (qu H) 3 :: pre 2 1 0)) (ht : Tabs 2 val) : Q val := leafR (by omega) h ht [(mi H), (.c (-1)), (.c 5), (w (.add (.c 0) (lo T))), (.c 5), (w (.add (.c 8) (mi T))), (.c 1), (.c 0), (.c 0), e2, (.c 0)] (by kernel_rfl) (by kernel_rfl) (fun v hG => by kernel_rfl)
theorem r210_41 (val : Nat → Int) (h : Holds val (.is (qu H) 0 :: .is (lo T) 5 :: .is (qu T) 1 :: .ne (qu T) 0 :: .ne (mi T) 4 :: .is (lo H) 4 :: .ne (qu H) 3 :: pre 2 1 0)) (ht : Tabs 2 val) : Q val := leafR (by omega) h ht [(.c 0), (.c 0), (.c 0), (.c 0), (.c 0), (.c 0), (.c 0), (.c 0), (.c 0), (.c 0), (.c 9)] (by kernel_rfl) (by kernel_rfl) (fun v hG => by kernel_rfl)
theorem r210_42 (val : Nat → Int) (h : Holds val (.is (qu H) 1 :: .ne (qu H) 0 :: .is (lo T) 5 :: .is (qu T) 1 :: .ne (qu T) 0 :: .ne (mi T) 4 :: .is (lo H) 4 :: .ne (qu H) 3 :: pre 2 1 0)) (ht : Tabs 2 val) : Q val := leafR (by omega) h ht [(.c 0), (.c 0), (.c 0), (.c 0), (.c 0), (.c 0), (.c 0), (.c 0), (.c 0), (.c 0), (.c 9)] (by kernel_rfl) (by kernel_rfl) (fun v hG => by kernel_rfl)
theorem r210_43 (val : Nat → Int) (h : Holds val (.is (qu H) 2 :: .ne (qu H) 1 :: .ne (qu H) 0 :: .is (lo T) 5 :: .is (qu T) 1 :: .ne (qu T) 0 :: .ne (mi T) 4 :: .is (lo H) 4 :: .ne (qu H) 3 :: pre 2 1 0)) (ht : Tabs 2 val) : Q val := leafR (by omega) h ht [(.c 0), (.c 0), (.c 0), (.c 0), (.c 0), (.c 0), (.c 0), (.c 0), (.c 0), (.c 0), (.c 9)] (by kernel_rfl) (by kernel_rfl) (fun v hG => by kernel_rfl)
theorem r210_44 (val : Nat → Int) (h : Holds val (.ne (qu H) 2 :: .ne (qu H) 1 :: .ne (qu H) 0 :: .is (lo T) 5 :: .is (qu T) 1 :: .ne (qu T) 0 :: .ne (mi T) 4 :: .is (lo H) 4 :: .ne (qu H) 3 :: pre 2 1 0)) (ht : Tabs 2 val) : Q val := leafR (by omega) h ht [(mi H), (.c (-1)), (.c 5), (.c 5), (.c 5), (w (.add (.c 8) (mi T))), (.c 2), (.c 0), (.c 0), e2, (.c 0)] (by kernel_rfl) (by kernel_rfl) (fun v hG => by kernel_rfl)
theorem r210_45 (val : Nat → Int) (h : Holds val (.is (qu H) 1 :: .ne (lo T) 5 :: .is (qu T) 1 :: .ne (qu T) 0 :: .ne (mi T) 4 :: .is (lo H) 4 :: .ne (qu H) 3 :: pre 2 1 0)) (ht : Tabs 2 val) : Q val := leafR (by omega) h ht [(.c 0), (.c 0), (.c 0), (.c 0), (.c 0), (.c 0), (.c 0), (.c 0), (.c 0), (.c 0), (.c 9)] (by kernel_rfl) (by kernel_rfl) (fun v hG => by kernel_rfl)
theorem r210_46 (val : Nat → Int) (h : Holds val (.is (qu H) 2 :: .ne (qu H) 1 :: .ne (lo T) 5 :: .is (qu T) 1 :: .ne (qu T) 0 :: .ne (mi T) 4 :: .is (lo H) 4 :: .ne (qu H) 3 :: pre 2 1 0)) (ht : Tabs 2 val) : Q val := leafR (by omega) h ht [(.c 0), (.c 0), (.c 0), (.c 0), (.c 0), (.c 0), (.c 0), (.c 0), (.c 0), (.c 0), (.c 9)] (by kernel_rfl) (by kernel_rfl) (fun v hG => by kernel_rfl)
theorem r210_47 (val : Nat → Int) (h : Holds val (.is (qu H) 0 :: .ne (qu H) 2 :: .ne (qu H) 1 :: .ne (lo T) 5 :: .is (qu T) 1 :: .ne (qu T) 0 :: .ne (mi T) 4 :: .is (lo H) 4 :: .ne (qu H) 3 :: pre 2 1 0)) (ht : Tabs 2 val) : Q val := leafR (by omega) h ht [(mi H), (.c (-1)), (.c 5), (w (.add (.c 0) (lo T))), (.c 5), (w (.add (.c 8) (mi T))), (.c 2), (.c 0), (.c 0), e2, (.c 0)] (by kernel_rfl) (by kernel_rfl) (fun v hG => by kernel_rfl)
theorem r210_48 (val : Nat → Int) (h : Holds val (.ne (qu H) 0 :: .ne (qu H) 2 :: .ne (qu H) 1 :: .ne (lo T) 5 :: .is (qu T) 1 :: .ne (qu T) 0 :: .ne (mi T) 4 :: .is (lo H) 4 :: .ne (qu H) 3 :: pre 2 1 0)) (ht : Tabs 2 val) : Q val := leafR (by omega) h ht [(mi H), (.c (-1)), (.c 5), (w (.add (.c 0) (lo T))), (.c 5), (w (.add (.c 8) (mi T))), (.c 2), (.c 0), (.c 0), e2, (.c 0)] (by kernel_rfl) (by kernel_rfl) (fun v hG => by kernel_rfl)
theorem r210_49 (val : Nat → Int) (h : Holds val (.is (qu H) 0 :: .is (lo T) 5 :: .is (qu T) 2 :: .ne (qu T) 1 :: .ne (qu T) 0 :: .ne (mi T) 4 :: .is (lo H) 4 :: .ne (qu H) 3 :: pre 2 1 0)) (ht : Tabs 2 val) : Q val := leafR (by omega) h ht [(.c 0), (.c 0), (.c 0), (.c 0), (.c 0), (.c 0), (.c 0), (.c 0), (.c 0), (.c 0), (.c 9)] (by kernel_rfl) (by kernel_rfl) (fun v hG => by kernel_rfl)
theorem r210_50 (val : Nat → Int) (h : Holds val (.is (qu H) 1 :: .ne (qu H) 0 :: .is (lo T) 5 :: .is (qu T) 2 :: .ne (qu T) 1 :: .ne (qu T) 0 :: .ne (mi T) 4 :: .is (lo H) 4 :: .ne (qu H) 3 :: pre 2 1 0)) (ht : Tabs 2 val) : Q val := leafR (by omega) h ht [(.c 0), (.c 0), (.c 0), (.c 0), (.c 0), (.c 0), (.c 0), (.c 0), (.c 0), (.c 0), (.c 9)] (by kernel_rfl) (by kernel_rfl) (fun v hG => by kernel_rfl)
theorem r210_51 (val : Nat → Int) (h : Holds val (.is (qu H) 2 :: .ne (qu H) 1 :: .ne (qu H) 0 :: .is (lo T) 5 :: .is (qu T) 2 :: .ne (qu T) 1 :: .ne (qu T) 0 :: .ne (mi T) 4 :: .is (lo H) 4 :: .ne (qu H) 3 :: pre 2 1 0)) (ht : Tabs 2 val) : Q val := leafR (by omega) h ht [(.c 0), (.c 0), (.c 0), (.c 0), (.c 0), (.c 0), (.c 0), (.c 0), (.c 0), (.c 0), (.c 9)] (by kernel_rfl) (by kernel_rfl) (fun v hG => by kernel_rfl)
theorem r210_52 (val : Nat → Int) (h : Holds val (.ne (qu H) 2 :: .ne (qu H) 1 :: .ne (qu H) 0 :: .is (lo T) 5 :: .is (qu T) 2 :: .ne (qu T) 1 :: .ne (qu T) 0 :: .ne (mi T) 4 :: .is (lo H) 4 :: .ne (qu H) 3 :: pre 2 1 0)) (ht : Tabs 2 val) : Q val := leafR (by omega) h ht [(mi H), (.c (-1)), (.c 5), (.c 5), (.c 5), (w (.add (.c 8) (mi T))), (.c 4), (.c 0), (.c 0), e2, (.c 0)] (by kernel_rfl) (by kernel_rfl) (fun v hG => by kernel_rfl)
theorem r210_53 (val : Nat → Int) (h : Holds val (.is (qu H) 1 :: .ne (lo T) 5 :: .is (qu T) 2 :: .ne (qu T) 1 :: .ne (qu T) 0 :: .ne (mi T) 4 :: .is (lo H) 4 :: .ne (qu H) 3 :: pre 2 1 0)) (ht : Tabs 2 val) : Q val := leafR (by omega) h ht [(.c 0), (.c 0), (.c 0), (.c 0), (.c 0), (.c 0), (.c 0), (.c 0), (.c 0), (.c 0), (.c 9)] (by kernel_rfl) (by kernel_rfl) (fun v hG => by kernel_rfl)
theorem r210_54 (val : Nat → Int) (h : Holds val (.is (qu H) 2 :: .ne (qu H) 1 :: .ne (lo T) 5 :: .is (qu T) 2 :: .ne (qu T) 1 :: .ne (qu T) 0 :: .ne (mi T) 4 :: .is (lo H) 4 :: .ne (qu H) 3 :: pre 2 1 0)) (ht : Tabs 2 val) : Q val := leafR (by omega) h ht [(.c 0), (.c 0), (.c 0), (.c 0), (.c 0), (.c 0), (.c 0), (.c 0), (.c 0), (.c 0), (.c 9)] (by kernel_rfl) (by kernel_rfl) (fun v hG => by kernel_rfl)
theorem r210_55 (val : Nat → Int) (h : Holds val (.is (qu H) 0 :: .ne (qu H) 2 :: .ne (qu H) 1 :: .ne (lo T) 5 :: .is (qu T) 2 :: .ne (qu T) 1 :: .ne (qu T) 0 :: .ne (mi T) 4 :: .is (lo H) 4 :: .ne (qu H) 3 :: pre 2 1 0)) (ht : Tabs 2 val) : Q val := leafR (by omega) h ht [(mi H), (.c (-1)), (.c 5), (w (.add (.c 0) (lo T))), (.c 5), (w (.add (.c 8) (mi T))), (.c 4), (.c 0), (.c 0), e2, (.c 0)] (by kernel_rfl) (by kernel_rfl) (fun v hG => by kernel_rfl)
theorem r210_56 (val : Nat → Int) (h : Holds val (.ne (qu H) 0 :: .ne (qu H) 2 :: .ne (qu H) 1 :: .ne (lo T) 5 :: .is (qu T) 2 :: .ne (qu T) 1 :: .ne (qu T) 0 :: .ne (mi T) 4 :: .is (lo H) 4 :: .ne (qu H) 3 :: pre 2 1 0)) (ht : Tabs 2 val) : Q val := leafR (by omega) h ht [(mi H), (.c (-1)), (.c 5), (w (.add (.c 0) (lo T))), (.c 5), (w (.add (.c 8) (mi T))), (.c 4), (.c 0), (.c 0), e2, (.c 0)] (by kernel_rfl) (by kernel_rfl) (fun v hG => by kernel_rfl)
theorem r210_57 (val : Nat → Int) (h : Holds val (.is (qu H) 0 :: .is (lo T) 5 :: .ne (qu T) 2 :: .ne (qu T) 1 :: .ne (qu T) 0 :: .ne (mi T) 4 :: .is (lo H) 4 :: .ne (qu H) 3 :: pre 2 1 0)) (ht : Tabs 2 val) : Q val := leafR (by omega) h ht [(.c 0), (.c 0), (.c 0), (.c 0), (.c 0), (.c 0), (.c 0), (.c 0), (.c 0), (.c 0), (.c 9)] (by kernel_rfl) (by kernel_rfl) (fun v hG => by kernel_rfl)
theorem r210_58 (val : Nat → Int) (h : Holds val (.is (qu H) 1 :: .ne (qu H) 0 :: .is (lo T) 5 :: .ne (qu T) 2 :: .ne (qu T) 1 :: .ne (qu T) 0 :: .ne (mi T) 4 :: .is (lo H) 4 :: .ne (qu H) 3 :: pre 2 1 0)) (ht : Tabs 2 val) : Q val := leafR (by omega) h ht [(.c 0), (.c 0), (.c 0), (.c 0), (.c 0), (.c 0), (.c 0), (.c 0), (.c 0), (.c 0), (.c 9)] (by kernel_rfl) (by kernel_rfl) (fun v hG => by kernel_rfl)
theorem r210_59 (val : Nat → Int) (h : Holds val (.is (qu H) 2 :: .ne (qu H) 1 :: .ne (qu H) 0 :: .is (lo T) 5 :: .ne (qu T) 2 :: .ne (qu T) 1 :: .ne (qu T) 0 :: .ne (mi T) 4 :: .is (lo H) 4 :: .ne (qu H) 3 :: pre 2 1 0)) (ht : Tabs 2 val) : Q val := leafR (by omega) h ht [(.c 0), (.c 0), (.c 0), (.c 0), (.c 0), (.c 0), (.c 0), (.c 0), (.c 0), (.c 0), (.c 9)] (by kernel_rfl) (by kernel_rfl) (fun v hG => by kernel_rfl)
theorem r210_60 (val : Nat → Int) (h : Holds val (.ne (qu H) 2 :: .ne (qu H) 1 :: .ne (qu H) 0 :: .is (lo T) 5 :: .ne (qu T) 2 :: .ne (qu T) 1 :: .ne (qu T) 0 :: .ne (mi T) 4 :: .is (lo H) 4 :: .ne (qu H) 3 :: pre 2 1 0)) (ht : Tabs 2 val) : Q val := leafR (by omega) h ht [(mi H), (.c (-1)), (.c 5), (.c 5), (.c 5), (w (.add (.c 8) (mi T))), (.c 8), (.c 0), (.c 0), e2, (.c 0)] (by kernel_rfl) (by kernel_rfl) (fun v hG => by kernel_rfl)
theorem r210_61 (val : Nat → Int) (h : Holds val (.is (qu H) 1 :: .ne (lo T) 5 :: .ne (qu T) 2 :: .ne (qu T) 1 :: .ne (qu T) 0 :: .ne (mi T) 4 :: .is (lo H) 4 :: .ne (qu H) 3 :: pre 2 1 0)) (ht : Tabs 2 val) : Q val := leafR (by omega) h ht [(.c 0), (.c 0), (.c 0), (.c 0), (.c 0), (.c 0), (.c 0), (.c 0), (.c 0), (.c 0), (.c 9)] (by kernel_rfl) (by kernel_rfl) (fun v hG => by kernel_rfl)
theorem r210_62 (val : Nat → Int) (h : Holds val (.is (qu H) 2 :: .ne (qu H) 1 :: .ne (lo T) 5 :: .ne (qu T) 2 :: .ne (qu T) 1 :: .ne (qu T) 0 :: .ne (mi T) 4 :: .is (lo H) 4 :: .ne (qu H) 3 :: pre 2 1 0)) (ht : Tabs 2 val) : Q val := leafR (by omega) h ht [(.c 0), (.c 0), (.c 0), (.c 0), (.c 0), (.c 0), (.c 0), (.c 0), (.c 0), (.c 0), (.c 9)] (by kernel_rfl) (by kernel_rfl) (fun v hG => by kernel_rfl)
theorem r210_63 (val : Nat → Int) (h : Holds val (.is (qu H) 0 :: .ne (qu H) 2 :: .ne (qu H) 1 :: .ne (lo T) 5 :: .ne (qu T) 2 :: .ne (qu T) 1 :: .ne (qu T) 0 :: .ne (mi T) 4 :: .is (lo H) 4 :: .ne (qu H) 3 :: pre 2 1 0)) (ht : Tabs 2 val) : Q val := leafR (by omega) h ht [(mi H), (.c (-1)), (.c 5), (w (.add (.c 0) (lo T))), (.c 5), (w (.add (.c 8) (mi T))), (.c 8), (.c 0), (.c 0), e2, (.c 0)] (by kernel_rfl) (by kernel_rfl) (fun v hG => by kernel_rfl)
theorem r210_64 (val : Nat → Int) (h : Holds val (.ne (qu H) 0 :: .ne (qu H) 2 :: .ne (qu H) 1 :: .ne (lo T) 5 :: .ne (qu T) 2 :: .ne (qu T) 1 :: .ne (qu T) 0 :: .ne (mi T) 4 :: .is (lo H) 4 :: .ne (qu H) 3 :: pre 2 1 0)) (ht : Tabs 2 val) : Q val := leafR (by omega) h ht [(mi H), (.c (-1)), (.c 5), (w (.add (.c 0) (lo T))), (.c 5), (w (.add (.c 8) (mi T))), (.c 8), (.c 0), (.c 0), e2, (.c 0)] (by kernel_rfl) (by kernel_rfl) (fun v hG => by kernel_rfl)
theorem r210_65 (val : Nat → Int) (h : Holds val (.ne (lo H) 4 :: .ne (qu H) 3 :: pre 2 1 0)) (ht : Tabs 2 val) : Q val := leafR (by omega) h ht [(.c 0), (.c 0), (.c 0), (.c 0), (.c 0), (.c 0), (.c 0), (.c 0), (.c 0), (.c 0), (.c 4)] (by kernel_rfl) (by kernel_rfl) (fun v hG => by kernel_rfl)

theorem r210 : DR 2 1 0 := fun val h ht =>
  by_way (.eq (qu H) (.c 3)) (.is (qu H) 3) (.ne (qu H) 3) (by kernel_rfl) (by kernel_rfl) h
  (fun h => r210_0 val h ht)
  (fun h => by_way (.eq (lo H) (.c 4)) (.is (lo H) 4) (.ne (lo H) 4) (by kernel_rfl) (by kernel_rfl) h
  (fun h => by_way (.eq (mi T) (.c 4)) (.is (mi T) 4) (.ne (mi T) 4) (by kernel_rfl) (by kernel_rfl) h
  (fun h => by_way (.eq (qu T) (.c 0)) (.is (qu T) 0) (.ne (qu T) 0) (by kernel_rfl) (by kernel_rfl) h
  (fun h => by_way (.eq (lo T) (.c 5)) (.is (lo T) 5) (.ne (lo T) 5) (by kernel_rfl) (by kernel_rfl) h
  (fun h => by_way (.eq (qu H) (.c 0)) (.is (qu H) 0) (.ne (qu H) 0) (by kernel_rfl) (by kernel_rfl) h
  (fun h => r210_1 val h ht)
  (fun h => by_way (.eq (qu H) (.c 1)) (.is (qu H) 1) (.ne (qu H) 1) (by kernel_rfl) (by kernel_rfl) h
  (fun h => r210_2 val h ht)
  (fun h => by_way (.eq (qu H) (.c 2)) (.is (qu H) 2) (.ne (qu H) 2) (by kernel_rfl) (by kernel_rfl) h
  (fun h => r210_3 val h ht)
  (fun h => r210_4 val h ht))))
  (fun h => by_way (.eq (qu H) (.c 1)) (.is (qu H) 1) (.ne (qu H) 1) (by kernel_rfl) (by kernel_rfl) h
  (fun h => r210_5 val h ht)
  (fun h => by_way (.eq (qu H) (.c 2)) (.is (qu H) 2) (.ne (qu H) 2) (by kernel_rfl) (by kernel_rfl) h
  (fun h => r210_6 val h ht)
  (fun h => by_way (.eq (qu H) (.c 0)) (.is (qu H) 0) (.ne (qu H) 0) (by kernel_rfl) (by kernel_rfl) h
  (fun h => r210_7 val h ht)
  (fun h => r210_8 val h ht)))))
  (fun h => by_way (.eq (qu T) (.c 1)) (.is (qu T) 1) (.ne (qu T) 1) (by kernel_rfl) (by kernel_rfl) h
  (fun h => by_way (.eq (lo T) (.c 5)) (.is (lo T) 5) (.ne (lo T) 5) (by kernel_rfl) (by kernel_rfl) h
  (fun h => by_way (.eq (qu H) (.c 0)) (.is (qu H) 0) (.ne (qu H) 0) (by kernel_rfl) (by kernel_rfl) h
  (fun h => r210_9 val h ht)
  (fun h => by_way (.eq (qu H) (.c 1)) (.is (qu H) 1) (.ne (qu H) 1) (by kernel_rfl) (by kernel_rfl) h
  (fun h => r210_10 val h ht)
  (fun h => by_way (.eq (qu H) (.c 2)) (.is (qu H) 2) (.ne (qu H) 2) (by kernel_rfl) (by kernel_rfl) h
  (fun h => r210_11 val h ht)
  (fun h => r210_12 val h ht))))
  (fun h => by_way (.eq (qu H) (.c 1)) (.is (qu H) 1) (.ne (qu H) 1) (by kernel_rfl) (by kernel_rfl) h
  (fun h => r210_13 val h ht)
  (fun h => by_way (.eq (qu H) (.c 2)) (.is (qu H) 2) (.ne (qu H) 2) (by kernel_rfl) (by kernel_rfl) h
  (fun h => r210_14 val h ht)
  (fun h => by_way (.eq (qu H) (.c 0)) (.is (qu H) 0) (.ne (qu H) 0) (by kernel_rfl) (by kernel_rfl) h
  (fun h => r210_15 val h ht)
  (fun h => r210_16 val h ht)))))
  (fun h => by_way (.eq (qu T) (.c 2)) (.is (qu T) 2) (.ne (qu T) 2) (by kernel_rfl) (by kernel_rfl) h
  (fun h => by_way (.eq (lo T) (.c 5)) (.is (lo T) 5) (.ne (lo T) 5) (by kernel_rfl) (by kernel_rfl) h
  (fun h => by_way (.eq (qu H) (.c 0)) (.is (qu H) 0) (.ne (qu H) 0) (by kernel_rfl) (by kernel_rfl) h
  (fun h => r210_17 val h ht)
  (fun h => by_way (.eq (qu H) (.c 1)) (.is (qu H) 1) (.ne (qu H) 1) (by kernel_rfl) (by kernel_rfl) h
  (fun h => r210_18 val h ht)
  (fun h => by_way (.eq (qu H) (.c 2)) (.is (qu H) 2) (.ne (qu H) 2) (by kernel_rfl) (by kernel_rfl) h
  (fun h => r210_19 val h ht)
  (fun h => r210_20 val h ht))))
  (fun h => by_way (.eq (qu H) (.c 1)) (.is (qu H) 1) (.ne (qu H) 1) (by kernel_rfl) (by kernel_rfl) h
  (fun h => r210_21 val h ht)
  (fun h => by_way (.eq (qu H) (.c 2)) (.is (qu H) 2) (.ne (qu H) 2) (by kernel_rfl) (by kernel_rfl) h
  (fun h => r210_22 val h ht)
  (fun h => by_way (.eq (qu H) (.c 0)) (.is (qu H) 0) (.ne (qu H) 0) (by kernel_rfl) (by kernel_rfl) h
  (fun h => r210_23 val h ht)
  (fun h => r210_24 val h ht)))))
  (fun h => by_way (.eq (lo T) (.c 5)) (.is (lo T) 5) (.ne (lo T) 5) (by kernel_rfl) (by kernel_rfl) h
  (fun h => by_way (.eq (qu H) (.c 0)) (.is (qu H) 0) (.ne (qu H) 0) (by kernel_rfl) (by kernel_rfl) h
  (fun h => r210_25 val h ht)
  (fun h => by_way (.eq (qu H) (.c 1)) (.is (qu H) 1) (.ne (qu H) 1) (by kernel_rfl) (by kernel_rfl) h
  (fun h => r210_26 val h ht)
  (fun h => by_way (.eq (qu H) (.c 2)) (.is (qu H) 2) (.ne (qu H) 2) (by kernel_rfl) (by kernel_rfl) h
  (fun h => r210_27 val h ht)
  (fun h => r210_28 val h ht))))
  (fun h => by_way (.eq (qu H) (.c 1)) (.is (qu H) 1) (.ne (qu H) 1) (by kernel_rfl) (by kernel_rfl) h
  (fun h => r210_29 val h ht)
  (fun h => by_way (.eq (qu H) (.c 2)) (.is (qu H) 2) (.ne (qu H) 2) (by kernel_rfl) (by kernel_rfl) h
  (fun h => r210_30 val h ht)
  (fun h => by_way (.eq (qu H) (.c 0)) (.is (qu H) 0) (.ne (qu H) 0) (by kernel_rfl) (by kernel_rfl) h
  (fun h => r210_31 val h ht)
  (fun h => r210_32 val h ht))))))))
  (fun h => by_way (.eq (qu T) (.c 0)) (.is (qu T) 0) (.ne (qu T) 0) (by kernel_rfl) (by kernel_rfl) h
  (fun h => by_way (.eq (lo T) (.c 5)) (.is (lo T) 5) (.ne (lo T) 5) (by kernel_rfl) (by kernel_rfl) h
  (fun h => by_way (.eq (qu H) (.c 0)) (.is (qu H) 0) (.ne (qu H) 0) (by kernel_rfl) (by kernel_rfl) h
  (fun h => r210_33 val h ht)
  (fun h => by_way (.eq (qu H) (.c 1)) (.is (qu H) 1) (.ne (qu H) 1) (by kernel_rfl) (by kernel_rfl) h
  (fun h => r210_34 val h ht)
  (fun h => by_way (.eq (qu H) (.c 2)) (.is (qu H) 2) (.ne (qu H) 2) (by kernel_rfl) (by kernel_rfl) h
  (fun h => r210_35 val h ht)
  (fun h => r210_36 val h ht))))
  (fun h => by_way (.eq (qu H) (.c 1)) (.is (qu H) 1) (.ne (qu H) 1) (by kernel_rfl) (by kernel_rfl) h
  (fun h => r210_37 val h ht)
  (fun h => by_way (.eq (qu H) (.c 2)) (.is (qu H) 2) (.ne (qu H) 2) (by kernel_rfl) (by kernel_rfl) h
  (fun h => r210_38 val h ht)
  (fun h => by_way (.eq (qu H) (.c 0)) (.is (qu H) 0) (.ne (qu H) 0) (by kernel_rfl) (by kernel_rfl) h
  (fun h => r210_39 val h ht)
  (fun h => r210_40 val h ht)))))
  (fun h => by_way (.eq (qu T) (.c 1)) (.is (qu T) 1) (.ne (qu T) 1) (by kernel_rfl) (by kernel_rfl) h
  (fun h => by_way (.eq (lo T) (.c 5)) (.is (lo T) 5) (.ne (lo T) 5) (by kernel_rfl) (by kernel_rfl) h
  (fun h => by_way (.eq (qu H) (.c 0)) (.is (qu H) 0) (.ne (qu H) 0) (by kernel_rfl) (by kernel_rfl) h
  (fun h => r210_41 val h ht)
  (fun h => by_way (.eq (qu H) (.c 1)) (.is (qu H) 1) (.ne (qu H) 1) (by kernel_rfl) (by kernel_rfl) h
  (fun h => r210_42 val h ht)
  (fun h => by_way (.eq (qu H) (.c 2)) (.is (qu H) 2) (.ne (qu H) 2) (by kernel_rfl) (by kernel_rfl) h
  (fun h => r210_43 val h ht)
  (fun h => r210_44 val h ht))))
  (fun h => by_way (.eq (qu H) (.c 1)) (.is (qu H) 1) (.ne (qu H) 1) (by kernel_rfl) (by kernel_rfl) h
  (fun h => r210_45 val h ht)
  (fun h => by_way (.eq (qu H) (.c 2)) (.is (qu H) 2) (.ne (qu H) 2) (by kernel_rfl) (by kernel_rfl) h
  (fun h => r210_46 val h ht)
  (fun h => by_way (.eq (qu H) (.c 0)) (.is (qu H) 0) (.ne (qu H) 0) (by kernel_rfl) (by kernel_rfl) h
  (fun h => r210_47 val h ht)
  (fun h => r210_48 val h ht)))))
  (fun h => by_way (.eq (qu T) (.c 2)) (.is (qu T) 2) (.ne (qu T) 2) (by kernel_rfl) (by kernel_rfl) h
  (fun h => by_way (.eq (lo T) (.c 5)) (.is (lo T) 5) (.ne (lo T) 5) (by kernel_rfl) (by kernel_rfl) h
  (fun h => by_way (.eq (qu H) (.c 0)) (.is (qu H) 0) (.ne (qu H) 0) (by kernel_rfl) (by kernel_rfl) h
  (fun h => r210_49 val h ht)
  (fun h => by_way (.eq (qu H) (.c 1)) (.is (qu H) 1) (.ne (qu H) 1) (by kernel_rfl) (by kernel_rfl) h
  (fun h => r210_50 val h ht)
  (fun h => by_way (.eq (qu H) (.c 2)) (.is (qu H) 2) (.ne (qu H) 2) (by kernel_rfl) (by kernel_rfl) h
  (fun h => r210_51 val h ht)
  (fun h => r210_52 val h ht))))
  (fun h => by_way (.eq (qu H) (.c 1)) (.is (qu H) 1) (.ne (qu H) 1) (by kernel_rfl) (by kernel_rfl) h
  (fun h => r210_53 val h ht)
  (fun h => by_way (.eq (qu H) (.c 2)) (.is (qu H) 2) (.ne (qu H) 2) (by kernel_rfl) (by kernel_rfl) h
  (fun h => r210_54 val h ht)
  (fun h => by_way (.eq (qu H) (.c 0)) (.is (qu H) 0) (.ne (qu H) 0) (by kernel_rfl) (by kernel_rfl) h
  (fun h => r210_55 val h ht)
  (fun h => r210_56 val h ht)))))
  (fun h => by_way (.eq (lo T) (.c 5)) (.is (lo T) 5) (.ne (lo T) 5) (by kernel_rfl) (by kernel_rfl) h
  (fun h => by_way (.eq (qu H) (.c 0)) (.is (qu H) 0) (.ne (qu H) 0) (by kernel_rfl) (by kernel_rfl) h
  (fun h => r210_57 val h ht)
  (fun h => by_way (.eq (qu H) (.c 1)) (.is (qu H) 1) (.ne (qu H) 1) (by kernel_rfl) (by kernel_rfl) h
  (fun h => r210_58 val h ht)
  (fun h => by_way (.eq (qu H) (.c 2)) (.is (qu H) 2) (.ne (qu H) 2) (by kernel_rfl) (by kernel_rfl) h
  (fun h => r210_59 val h ht)
  (fun h => r210_60 val h ht))))
  (fun h => by_way (.eq (qu H) (.c 1)) (.is (qu H) 1) (.ne (qu H) 1) (by kernel_rfl) (by kernel_rfl) h
  (fun h => r210_61 val h ht)
  (fun h => by_way (.eq (qu H) (.c 2)) (.is (qu H) 2) (.ne (qu H) 2) (by kernel_rfl) (by kernel_rfl) h
  (fun h => r210_62 val h ht)
  (fun h => by_way (.eq (qu H) (.c 0)) (.is (qu H) 0) (.ne (qu H) 0) (by kernel_rfl) (by kernel_rfl) h
  (fun h => r210_63 val h ht)
  (fun h => r210_64 val h ht)))))))))
  (fun h => r210_65 val h ht))

theorem r200_0 (val : Nat → Int) (h : Holds val (.is (qu H) 3 :: pre 2 0 0)) (ht : Tabs 2 val) : Q val := leafR (by omega) h ht [(mi H), (w (.add (.c 0) (lo H))), (.c 0), (.c 0), (.c 0), (.c 0), (.c 0), (.c 0), (.c 0), e1, (.c 0)] (by kernel_rfl) (by kernel_rfl) (fun v hG => by kernel_rfl)
theorem r200_1 (val : Nat → Int) (h : Holds val (.is (qu H) 0 :: .is (lo T) 5 :: .is (qu T) 0 :: .is (mi T) 4 :: .is (lo H) 4 :: .ne (qu H) 3 :: pre 2 0 0)) (ht : Tabs 2 val) : Q val := leafR (by omega) h ht [(.c 0), (.c 0), (.c 0), (.c 0), (.c 0), (.c 0), (.c 0), (.c 0), (.c 0), (.c 0), (.c 9)] (by kernel_rfl) (by kernel_rfl) (fun v hG => by kernel_rfl)
theorem r200_2 (val : Nat → Int) (h : Holds val (.is (qu H) 1 :: .ne (qu H) 0 :: .is (lo T) 5 :: .is (qu T) 0 :: .is (mi T) 4 :: .is (lo H) 4 :: .ne (qu H) 3 :: pre 2 0 0)) (ht : Tabs 2 val) : Q val := leafR (by omega) h ht [(.c 0), (.c 0), (.c 0), (.c 0), (.c 0), (.c 0), (.c 0), (.c 0), (.c 0), (.c 0), (.c 9)] (by kernel_rfl) (by kernel_rfl) (fun v hG => by kernel_rfl)
theorem r200_3 (val : Nat → Int) (h : Holds val (.is (qu H) 2 :: .ne (qu H) 1 :: .ne (qu H) 0 :: .is (lo T) 5 :: .is (qu T) 0 :: .is (mi T) 4 :: .is (lo H) 4 :: .ne (qu H) 3 :: pre 2 0 0)) (ht : Tabs 2 val) : Q val := leafR (by omega) h ht [(.c 0), (.c 0), (.c 0), (.c 0), (.c 0), (.c 0), (.c 0), (.c 0), (.c 0), (.c 0), (.c 9)] (by kernel_rfl) (by kernel_rfl) (fun v hG => by kernel_rfl)
theorem r200_4 (val : Nat → Int) (h : Holds val (.ne (qu H) 2 :: .ne (qu H) 1 :: .ne (qu H) 0 :: .is (lo T) 5 :: .is (qu T) 0 :: .is (mi T) 4 :: .is (lo H) 4 :: .ne (qu H) 3 :: pre 2 0 0)) (ht : Tabs 2 val) : Q val := leafR (by omega) h ht [(mi H), (.c (-1)), (.c 5), (.c 5), (.c 0), (.c 0), (.c 0), (.c 0), (.c 0), e2, (.c 0)] (by kernel_rfl) (by kernel_rfl) (fun v hG => by kernel_rfl)
theorem r200_5 (val : Nat → Int) (h : Holds val (.is (qu H) 1 :: .ne (lo T) 5 :: .is (qu T) 0 :: .is (mi T) 4 :: .is (lo H) 4 :: .ne (qu H) 3 :: pre 2 0 0)) (ht : Tabs 2 val) : Q val := leafR (by omega) h ht [(.c 0), (.c 0), (.c 0), (.c 0), (.c 0), (.c 0), (.c 0), (.c 0), (.c 0), (.c 0), (.c 9)] (by kernel_rfl) (by kernel_rfl) (fun v hG => by kernel_rfl)
theorem r200_6 (val : Nat → Int) (h : Holds val (.is (qu H) 2 :: .ne (qu H) 1 :: .ne (lo T) 5 :: .is (qu T) 0 :: .is (mi T) 4 :: .is (lo H) 4 :: .ne (qu H) 3 :: pre 2 0 0)) (ht : Tabs 2 val) : Q val := leafR (by omega) h ht [(.c 0), (.c 0), (.c 0), (.c 0), (.c 0), (.c 0), (.c 0), (.c 0), (.c 0), (.c 0), (.c 9)] (by kernel_rfl) (by kernel_rfl) (fun v hG => by kernel_rfl)
theorem r200_7 (val : Nat → Int) (h : Holds val (.is (qu H) 0 :: .ne (qu H) 2 :: .ne (qu H) 1 :: .ne (lo T) 5 :: .is (qu T) 0 :: .is (mi T) 4 :: .is (lo H) 4 :: .ne (qu H) 3 :: pre 2 0 0)) (ht : Tabs 2 val) : Q val := leafR (by omega) h ht [(mi H), (.c (-1)), (.c 5), (w (.add (.c 0) (lo T))), (.c 0), (.c 0), (.c 0), (.c 0), (.c 0), e2, (.c 0)] (by kernel_rfl) (by kernel_rfl) (fun v hG => by kernel_rfl)
theorem r200_8 (val : Nat → Int) (h : Holds val (.ne (qu H) 0 :: .ne (qu H) 2 :: .ne (qu H) 1 :: .ne (lo T) 5 :: .is (qu T) 0 :: .is (mi T) 4 :: .is (lo H) 4 :: .ne (qu H) 3 :: pre 2 0 0)) (ht : Tabs 2 val) : Q val := leafR (by omega) h ht [(mi H), (.c (-1)), (.c 5), (w (.add (.c 0) (lo T))), (.c 0), (.c 0), (.c 0), (.c 0), (.c 0), e2, (.c 0)] (by kernel_rfl) (by kernel_rfl) (fun v hG => by kernel_rfl)
theorem r200_9 (val : Nat → Int) (h : Holds val (.ne (qu T) 0 :: .is (mi T) 4 :: .is (lo H) 4 :: .ne (qu H) 3 :: pre 2 0 0)) (ht : Tabs 2 val) : Q val := leafR (by omega) h ht [(.c 0), (.c 0), (.c 0), (.c 0), (.c 0), (.c 0), (.c 0), (.c 0), (.c 0), (.c 0), (.c 4)] (by kernel_rfl) (by kernel_rfl) (fun v hG => by kernel_rfl)
theorem r200_10 (val : Nat → Int) (h : Holds val (.is (qu H) 0 :: .is (lo T) 5 :: .is (qu T) 0 :: .ne (mi T) 4 :: .is (lo H) 4 :: .ne (qu H) 3 :: pre 2 0 0)) (ht : Tabs 2 val) : Q val := leafR (by omega) h ht [(.c 0), (.c 0), (.c 0), (.c 0), (.c 0), (.c 0), (.c 0), (.c 0), (.c 0), (.c 0), (.c 9)] (by kernel_rfl) (by kernel_rfl) (fun v hG => by kernel_rfl)
theorem r200_11 (val : Nat → Int) (h : Holds val (.is (qu H) 1 :: .ne (qu H) 0 :: .is (lo T) 5 :: .is (qu T) 0 :: .ne (mi T) 4 :: .is (lo H) 4 :: .ne (qu H) 3 :: pre 2 0 0)) (ht : Tabs 2 val) : Q val := leafR (by omega) h ht [(.c 0), (.c 0), (.c 0), (.c 0), (.c 0), (.c 0), (.c 0), (.c 0), (.c 0), (.c 0), (.c 9)] (by kernel_rfl) (by kernel_rfl) (fun v hG => by kernel_rfl)
theorem r200_12 (val : Nat → Int) (h : Holds val (.is (qu H) 2 :: .ne (qu H) 1 :: .ne (qu H) 0 :: .is (lo T) 5 :: .is (qu T) 0 :: .ne (mi T) 4 :: .is (lo H) 4 :: .ne (qu H) 3 :: pre 2 0 0)) (ht : Tabs 2 val) : Q val := leafR (by omega) h ht [(.c 0), (.c 0), (.c 0), (.c 0), (.c 0), (.c 0), (.c 0), (.c 0), (.c 0), (.c 0), (.c 9)] (by kernel_rfl) (by kernel_rfl) (fun v hG => by kernel_rfl)
theorem r200_13 (val : Nat → Int) (h : Holds val (.ne (qu H) 2 :: .ne (qu H) 1 :: .ne (qu H) 0 :: .is (lo T) 5 :: .is (qu T) 0 :: .ne (mi T) 4 :: .is (lo H) 4 :: .ne (qu H) 3 :: pre 2 0 0)) (ht : Tabs 2 val) : Q val := leafR (by omega) h ht [(mi H), (.c (-1)), (.c 5), (.c 5), (.c 5), (w (.add (.c 0) (mi T))), (.c 1), (.c 0), (.c 0), e2, (.c 0)] (by kernel_rfl) (by kernel_rfl) (fun v hG => by kernel_rfl)
theorem r200_14 (val : Nat → Int) (h : Holds val (.is (qu H) 1 :: .ne (lo T) 5 :: .is (qu T) 0 :: .ne (mi T) 4 :: .is (lo H) 4 :: .ne (qu H) 3 :: pre 2 0 0)) (ht : Tabs 2 val) : Q val := leafR (by omega) h ht [(.c 0), (.c 0), (.c 0), (.c 0), (.c 0), (.c 0), (.c 0), (.c 0), (.c 0), (.c 0), (.c 9)] (by kernel_rfl) (by kernel_rfl) (fun v hG => by kernel_rfl)
theorem r200_15 (val : Nat → Int) (h : Holds val (.is (qu H) 2 :: .ne (qu H) 1 :: .ne (lo T) 5 :: .is (qu T) 0 :: .ne (mi T) 4 :: .is (lo H) 4 :: .ne (qu H) 3 :: pre 2 0 0)) (ht : Tabs 2 val) : Q val := leafR (by omega) h ht [(.c 0), (.c 0), (.c 0), (.c 0), (.c 0), (.c 0), (.c 0), (.c 0), (.c 0), (.c 0), (.c 9)] (by kernel_rfl) (by kernel_rfl) (fun v hG => by kernel_rfl)
theorem r200_16 (val : Nat → Int) (h : Holds val (.is (qu H) 0 :: .ne (qu H) 2 :: .ne (qu H) 1 :: .ne (lo T) 5 :: .is (qu T) 0 :: .ne (mi T) 4 :: .is (lo H) 4 :: .ne (qu H) 3 :: pre 2 0 0)) (ht : Tabs 2 val) : Q val := leafR (by omega) h ht [(mi H), (.c (-1)), (.c 5), (w (.add (.c 0) (lo T))), (.c 5), (w (.add (.c 0) (mi T))), (.c 1), (.c 0), (.c 0), e2, (.c 0)] (by kernel_rfl) (by kernel_rfl) (fun v hG => by kernel_rfl)
theorem r200_17 (val : Nat → Int) (h : Holds val (.ne (qu H) 0 :: .ne (qu H) 2 :: .ne (qu H) 1 :: .ne (lo T) 5 :: .is (qu T) 0 :: .ne (mi T) 4 :: .is (lo H) 4 :: .ne (qu H) 3 :: pre 2 0 0)) (ht : Tabs 2 val) : Q val := leafR (by omega) h ht [(mi H), (.c (-1)), (.c 5), (w (.add (.c 0) (lo T))), (.c 5), (w (.add (.c 0) (mi T))), (.c 1), (.c 0), (.c 0), e2, (.c 0)] (by kernel_rfl) (by kernel_rfl) (fun v hG => by kernel_rfl)
theorem r200_18 (val : Nat → Int) (h : Holds val (.is (qu H) 0 :: .is (lo T) 5 :: .is (qu T) 1 :: .ne (qu T) 0 :: .ne (mi T) 4 :: .is (lo H) 4 :: .ne (qu H) 3 :: pre 2 0 0)) (ht : Tabs 2 val) : Q val := leafR (by omega) h ht [(.c 0), (.c 0), (.c 0), (.c 0), (.c 0), (.c 0), (.c 0), (.c 0), (.c 0), (.c 0), (.c 9)] (by kernel_rfl) (by kernel_rfl) (fun v hG => by kernel_rfl)
theorem r200_19 (val : Nat → Int) (h : Holds val (.is (qu H) 1 :: .ne (qu H) 0 :: .is (lo T) 5 :: .is (qu T) 1 :: .ne (qu T) 0 :: .ne (mi T) 4 :: .is (lo H) 4 :: .ne (qu H) 3 :: pre 2 0 0)) (ht : Tabs 2 val) : Q val := leafR (by omega) h ht [(.c 0), (.c 0), (.c 0), (.c 0), (.c 0), (.c 0), (.c 0), (.c 0), (.c 0), (.c 0), (.c 9)] (by kernel_rfl) (by kernel_rfl) (fun v hG => by kernel_rfl)
theorem r200_20 (val : Nat → Int) (h : Holds val (.is (qu H) 2 :: .ne (qu H) 1 :: .ne (qu H) 0 :: .is (lo T) 5 :: .is (qu T) 1 :: .ne (qu T) 0 :: .ne (mi T) 4 :: .is (lo H) 4 :: .ne (qu H) 3 :: pre 2 0 0)) (ht : Tabs 2 val) : Q val := leafR (by omega) h ht [(.c 0), (.c 0), (.c 0), (.c 0), (.c 0), (.c 0), (.c 0), (.c 0), (.c 0), (.c 0), (.c 9)] (by kernel_rfl) (by kernel_rfl) (fun v hG => by kernel_rfl)
theorem r200_21 (val : Nat → Int) (h : Holds val (.ne (qu H) 2 :: .ne (qu H) 1 :: .ne (qu H) 0 :: .is (lo T) 5 :: .is (qu T) 1 :: .ne (qu T) 0 :: .ne (mi T) 4 :: .is (lo H) 4 :: .ne (qu H) 3 :: pre 2 0 0)) (ht : Tabs 2 val) : Q val := leafR (by omega) h ht [(mi H), (.c (-1)), (.c 5), (.c 5), (.c 5), (w (.add (.c 0) (mi T))), (.c 2), (.c 0), (.c 0), e2, (.c 0)] (by kernel_rfl) (by kernel_rfl) (fun v hG => by kernel_rfl)
theorem r200_22 (val : Nat → Int) (h : Holds val (.is (qu H) 1 :: .ne (lo T) 5 :: .is (qu T) 1 :: .ne (qu T) 0 :: .ne (mi T) 4 :: .is (lo H) 4 :: .ne (qu H) 3 :: pre 2 0 0)) (ht : Tabs 2 val) : Q val := leafR (by omega) h ht [(.c 0), (.c 0), (.c 0), (.c 0), (.c 0), (.c 0), (.c 0), (.c 0), (.c 0), (.c 0), (.c 9)] (by kernel_rfl) (by kernel_rfl) (fun v hG => by kernel_rfl)
theorem r200_23 (val : Nat → Int) (h : Holds val (.is (qu H) 2 :: .ne (qu H) 1 :: .ne (lo T) 5 :: .is (qu T) 1 :: .ne (qu T) 0 :: .ne (mi T) 4 :: .is (lo H) 4 :: .ne (qu H) 3 :: pre 2 0 0)) (ht : Tabs 2 val) : Q val := leafR (by omega) h ht [(.c 0), (.c 0), (.c 0), (.c 0), (.c 0), (.c 0), (.c 0), (.c 0), (.c 0), (.c 0), (.c 9)] (by kernel_rfl) (by kernel_rfl) (fun v hG => by kernel_rfl)
theorem r200_24 (val : Nat → Int) (h : Holds val (.is (qu H) 0 :: .ne (qu H) 2 :: .ne (qu H) 1 :: .ne (lo T) 5 :: .is (qu T) 1 :: .ne (qu T) 0 :: .ne (mi T) 4 :: .is (lo H) 4 :: .ne (qu H) 3 :: pre 2 0 0)) (ht : Tabs 2 val) : Q val := leafR (by omega) h ht [(mi H), (.c (-1)), (.c 5), (w (.add (.c 0) (lo T))), (.c 5), (w (.add (.c 0) (mi T))), (.c 2), (.c 0), (.c 0), e2, (.c 0)] (by kernel_rfl) (by kernel_rfl) (fun v hG => by kernel_rfl)
theorem r200_25 (val : Nat → Int) (h : Holds val (.ne (qu H) 0 :: .ne (qu H) 2 :: .ne (qu H) 1 :: .ne (lo T) 5 :: .is (qu T) 1 :: .ne (qu T) 0 :: .ne (mi T) 4 :: .is (lo H) 4 :: .ne (qu H) 3 :: pre 2 0 0)) (ht : Tabs 2 val) : Q val := leafR (by omega) h ht [(mi H), (.c (-1)), (.c 5), (w (.add (.c 0) (lo T))), (.c 5), (w (.add (.c 0) (mi T))), (.c 2), (.c 0), (.c 0), e2, (.c 0)] (by kernel_rfl) (by kernel_rfl) (fun v hG => by kernel_rfl)
theorem r200_26 (val : Nat → Int) (h : Holds val (.is (qu H) 0 :: .is (lo T) 5 :: .is (qu T) 2 :: .ne (qu T) 1 :: .ne (qu T) 0 :: .ne (mi T) 4 :: .is (lo H) 4 :: .ne (qu H) 3 :: pre 2 0 0)) (ht : Tabs 2 val) : Q val := leafR (by omega) h ht [(.c 0), (.c 0), (.c 0), (.c 0), (.c 0), (.c 0), (.c 0), (.c 0), (.c 0), (.c 0), (.c 9)] (by kernel_rfl) (by kernel_rfl) (fun v hG => by kernel_rfl)
theorem r200_27 (val : Nat → Int) (h : Holds val (.is (qu H) 1 :: .ne (qu H) 0 :: .is (lo T) 5 :: .is (qu T) 2 :: .ne (qu T) 1 :: .ne (qu T) 0 :: .ne (mi T) 4 :: .is (lo H) 4 :: .ne (qu H) 3 :: pre 2 0 0)) (ht : Tabs 2 val) : Q val := leafR (by omega) h ht [(.c 0), (.c 0), (.c 0), (.c 0), (.c 0), (.c 0), (.c 0), (.c 0), (.c 0), (.c 0), (.c 9)] (by kernel_rfl) (by kernel_rfl) (fun v hG => by kernel_rfl)
theorem r200_28 (val : Nat → Int) (h : Holds val (.is (qu H) 2 :: .ne (qu H) 1 :: .ne (qu H) 0 :: .is (lo T) 5 :: .is (qu T) 2 :: .ne (qu T) 1 :: .ne (qu T) 0 :: .ne (mi T) 4 :: .is (lo H) 4 :: .ne (qu H) 3 :: pre 2 0 0)) (ht : Tabs 2 val) : Q val := leafR (by omega) h ht [(.c 0), (.c 0), (.c 0), (.c 0), (.c 0), (.c 0), (.c 0), (.c 0), (.c 0), (.c 0), (.c 9)] (by kernel_rfl) (by kernel_rfl) (fun v hG => by kernel_rfl)
theorem r200_29 (val : Nat → Int) (h : Holds val (.ne (qu H) 2 :: .ne (qu H) 1 :: .ne (qu H) 0 :: .is (lo T) 5 :: .is (qu T) 2 :: .ne (qu T) 1 :: .ne (qu T) 0 :: .ne (mi T) 4 :: .is (lo H) 4 :: .ne (qu H) 3 :: pre 2 0 0)) (ht : Tabs 2 val) : Q val := leafR (by omega) h ht [(mi H), (.c (-1)), (.c 5), (.c 5), (.c 5), (w (.add (.c 0) (mi T))), (.c 4), (.c 0), (.c 0), e2, (.c 0)] (by kernel_rfl) (by kernel_rfl) (fun v hG => by kernel_rfl)
theorem r200_30 (val : Nat → Int) (h : Holds val (.is (qu H) 1 :: .ne (lo T) 5 :: .is (qu T) 2 :: .ne (qu T) 1 :: .ne (qu T) 0 :: .ne (mi T) 4 :: .is (lo H) 4 :: .ne (qu H) 3 :: pre 2 0 0)) (ht : Tabs 2 val) : Q val := leafR (by omega) h ht [(.c 0), (.c 0), (.c 0), (.c 0), (.c 0), (.c 0), (.c 0), (.c 0), (.c 0), (.c 0), (.c 9)] (by kernel_rfl) (by kernel_rfl) (fun v hG => by kernel_rfl)
theorem r200_31 (val : Nat → Int) (h : Holds val (.is (qu H) 2 :: .ne (qu H) 1 :: .ne (lo T) 5 :: .is (qu T) 2 :: .ne (qu T) 1 :: .ne (qu T) 0 :: .ne (mi T) 4 :: .is (lo H) 4 :: .ne (qu H) 3 :: pre 2 0 0)) (ht : Tabs 2 val) : Q val := leafR (by omega) h ht [(.c 0), (.c 0), (.c 0), (.c 0), (.c 0), (.c 0), (.c 0), (.c 0), (.c 0), (.c 0), (.c 9)] (by kernel_rfl) (by kernel_rfl) (fun v hG => by kernel_rfl)
theorem r200_32 (val : Nat → Int) (h : Holds val (.is (qu H) 0 :: .ne (qu H) 2 :: .ne (qu H) 1 :: .ne (lo T) 5 :: .is (qu T) 2 :: .ne (qu T) 1 :: .ne (qu T) 0 :: .ne (mi T) 4 :: .is (lo H) 4 :: .ne (qu H) 3 :: pre 2 0 0)) (ht : Tabs 2 val) : Q val := leafR (by omega) h ht [(mi H), (.c (-1)), (.c 5), (w (.add (.c 0) (lo T))), (.c 5), (w (.add (.c 0) (mi T))), (.c 4), (.c 0), (.c 0), e2, (.c 0)] (by kernel_rfl) (by kernel_rfl) (fun v hG => by kernel_rfl)
theorem r200_33 (val : Nat → Int) (h : Holds val (.ne (qu H) 0 :: .ne (qu H) 2 :: .ne (qu H) 1 :: .ne (lo T) 5 :: .is (qu T) 2 :: .ne (qu T) 1 :: .ne (qu T) 0 :: .ne (mi T) 4 :: .is (lo H) 4 :: .ne (qu H) 3 :: pre 2 0 0)) (ht : Tabs 2 val) : Q val := leafR (by omega) h ht [(mi H), (.c (-1)), (.c 5), (w (.add (.c 0) (lo T))), (.c 5), (w (.add (.c 0) (mi T))), (.c 4), (.c 0), (.c 0), e2, (.c 0)] (by kernel_rfl) (by kernel_rfl) (fun v hG => by kernel_rfl)
theorem r200_34 (val : Nat → Int) (h : Holds val (.is (qu H) 0 :: .is (lo T) 5 :: .ne (qu T) 2 :: .ne (qu T) 1 :: .ne (qu T) 0 :: .ne (mi T) 4 :: .is (lo H) 4 :: .ne (qu H) 3 :: pre 2 0 0)) (ht : Tabs 2 val) : Q val := leafR (by omega) h ht [(.c 0), (.c 0), (.c 0), (.c 0), (.c 0), (.c 0), (.c 0), (.c 0), (.c 0), (.c 0), (.c 9)] (by kernel_rfl) (by kernel_rfl) (fun v hG => by kernel_rfl)
theorem r200_35 (val : Nat → Int) (h : Holds val (.is (qu H) 1 :: .ne (qu H) 0 :: .is (lo T) 5 :: .ne (qu T) 2 :: .ne (qu T) 1 :: .ne (qu T) 0 :: .ne (mi T) 4 :: .is (lo H) 4 :: .ne (qu H) 3 :: pre 2 0 0)) (ht : Tabs 2 val) : Q val := leafR (by omega) h ht [(.c 0), (.c 0), (.c 0), (.c 0), (.c 0), (.c 0), (.c 0), (.c 0), (.c 0), (.c 0), (.c 9)] (by kernel_rfl) (by kernel_rfl) (fun v hG => by kernel_rfl)
theorem r200_36 (val : Nat → Int) (h : Holds val (.is (qu H) 2 :: .ne (qu H) 1 :: .ne (qu H) 0 :: .is (lo T) 5 :: .ne (qu T) 2 :: .ne (qu T) 1 :: .ne (qu T) 0 :: .ne (mi T) 4 :: .is (lo H) 4 :: .ne (qu H) 3 :: pre 2 0 0)) (ht : Tabs 2 val) : Q val := leafR (by omega) h ht [(.c 0), (.c 0), (.c 0), (.c 0), (.c 0), (.c 0), (.c 0), (.c 0), (.c 0), (.c 0), (.c 9)] (by kernel_rfl) (by kernel_rfl) (fun v hG => by kernel_rfl)
theorem r200_37 (val : Nat → Int) (h : Holds val (.ne (qu H) 2 :: .ne (qu H) 1 :: .ne (qu H) 0 :: .is (lo T) 5 :: .ne (qu T) 2 :: .ne (qu T) 1 :: .ne (qu T) 0 :: .ne (mi T) 4 :: .is (lo H) 4 :: .ne (qu H) 3 :: pre 2 0 0)) (ht : Tabs 2 val) : Q val := leafR (by omega) h ht [(mi H), (.c (-1)), (.c 5), (.c 5), (.c 5), (w (.add (.c 0) (mi T))), (.c 8), (.c 0), (.c 0), e2, (.c 0)] (by kernel_rfl) (by kernel_rfl) (fun v hG => by kernel_rfl)
theorem r200_38 (val : Nat → Int) (h : Holds val (.is (qu H) 1 :: .ne (lo T) 5 :: .ne (qu T) 2 :: .ne (qu T) 1 :: .ne (qu T) 0 :: .ne (mi T) 4 :: .is (lo H) 4 :: .ne (qu H) 3 :: pre 2 0 0)) (ht : Tabs 2 val) : Q val := leafR (by omega) h ht [(.c 0), (.c 0), (.c 0), (.c 0), (.c 0), (.c 0), (.c 0), (.c 0), (.c 0), (.c 0), (.c 9)] (by kernel_rfl) (by kernel_rfl) (fun v hG => by kernel_rfl)
theorem r200_39 (val : Nat → Int) (h : Holds val (.is (qu H) 2 :: .ne (qu H) 1 :: .ne (lo T) 5 :: .ne (qu T) 2 :: .ne (qu T) 1 :: .ne (qu T) 0 :: .ne (mi T) 4 :: .is (lo H) 4 :: .ne (qu H) 3 :: pre 2 0 0)) (ht : Tabs 2 val) : Q val := leafR (by omega) h ht [(.c 0), (.c 0), (.c 0), (.c 0), (.c 0), (.c 0), (.c 0), (.c 0), (.c 0), (.c 0), (.c 9)] (by kernel_rfl) (by kernel_rfl) (fun v hG => by kernel_rfl)
theorem r200_40 (val : Nat → Int) (h : Holds val (.is (qu H) 0 :: .ne (qu H) 2 :: .ne (qu H) 1 :: .ne (lo T) 5 :: .ne (qu T) 2 :: .ne (qu T) 1 :: .ne (qu T) 0 :: .ne (mi T) 4 :: .is (lo H) 4 :: .ne (qu H) 3 :: pre 2 0 0)) (ht : Tabs 2 val) : Q val := leafR (by omega) h ht [(mi H), (.c (-1)), (.c 5), (w (.add (.c 0) (lo T))), (.c 5), (w (.add (.c 0) (mi T))), (.c 8), (.c 0), (.c 0), e2, (.c 0)] (by kernel_rfl) (by kernel_rfl) (fun v hG => by kernel_rfl)
theorem r200_41 (val : Nat → Int) (h : Holds val (.ne (qu H) 0 :: .ne (qu H) 2 :: .ne (qu H) 1 :: .ne (lo T) 5 :: .ne (qu T) 2 :: .ne (qu T) 1 :: .ne (qu T) 0 :: .ne (mi T) 4 :: .is (lo H) 4 :: .ne (qu H) 3 :: pre 2 0 0)) (ht : Tabs 2 val) : Q val := leafR (by omega) h ht [(mi H), (.c (-1)), (.c 5), (w (.add (.c 0) (lo T))), (.c 5), (w (.add (.c 0) (mi T))), (.c 8), (.c 0), (.c 0), e2, (.c 0)] (by kernel_rfl) (by kernel_rfl) (fun v hG => by kernel_rfl)
theorem r200_42 (val : Nat → Int) (h : Holds val (.is (lo H) 5 :: .is (qu H) 0 :: .ne (lo H) 4 :: .ne (qu H) 3 :: pre 2 0 0)) (ht : Tabs 2 val) : Q val := leafR (by omega) h ht [(.c 0), (.c 0), (.c 0), (.c 0), (.c 0), (.c 0), (.c 0), (.c 0), (.c 0), (.c 0), (.c 9)] (by kernel_rfl) (by kernel_rfl) (fun v hG => by kernel_rfl)
theorem r200_43 (val : Nat → Int) (h : Holds val (.ne (lo H) 5 :: .is (qu H) 0 :: .ne (lo H) 4 :: .ne (qu H) 3 :: pre 2 0 0)) (ht : Tabs 2 val) : Q val := leafR (by omega) h ht [(mi H), (.c (-1)), (.c 5), (w (.add (.c 0) (lo H))), (.c 0), (.c 0), (.c 0), (.c 0), (.c 0), e1, (.c 0)] (by kernel_rfl) (by kernel_rfl) (fun v hG => by kernel_rfl)
theorem r200_44 (val : Nat → Int) (h : Holds val (.is (qu H) 1 :: .ne (qu H) 0 :: .ne (lo H) 4 :: .ne (qu H) 3 :: pre 2 0 0)) (ht : Tabs 2 val) : Q val := leafR (by omega) h ht [(mi H), (.c (-1)), (.c 5), (w (.add (.c 0) (lo H))), (.c 0), (.c 0), (.c 0), (.a 5), (.c 0), e2, (.c 0)] (by kernel_rfl) (by kernel_rfl) (fun v hG => by kernel_rfl)
theorem r200_45 (val : Nat → Int) (h : Holds val (.is (qu H) 2 :: .ne (qu H) 1 :: .ne (qu H) 0 :: .ne (lo H) 4 :: .ne (qu H) 3 :: pre 2 0 0)) (ht : Tabs 2 val) : Q val := leafR (by omega) h ht [(.c 0), (.c 0), (.c 0), (.c 0), (.c 0), (.c 0), (.c 0), (.c 0), (.c 0), (.c 0), (.c 9)] (by kernel_rfl) (by kernel_rfl) (fun v hG => by kernel_rfl)
theorem r200_46 (val : Nat → Int) (h : Holds val (.ne (qu H) 2 :: .ne (qu H) 1 :: .ne (qu H) 0 :: .ne (lo H) 4 :: .ne (qu H) 3 :: pre 2 0 0)) (ht : Tabs 2 val) : Q val := leafR (by omega) h ht [(mi H), (.c (-1)), (.c 5), (w (.add (.c 0) (lo H))), (.c 0), (.c 0), (.c 0), (.c 0), (.c 0), e1, (.c 0)] (by kernel_rfl) (by kernel_rfl) (fun v hG => by kernel_rfl)

theorem r200 : DR 2 0 0 := fun val h ht =>
  by_way (.eq (qu H) (.c 3)) (.is (qu H) 3) (.ne (qu H) 3) (by kernel_rfl) (by kernel_rfl) h
  (fun h => r200_0 val h ht)
  (fun h => by_way (.eq (lo H) (.c 4)) (.is (lo H) 4) (.ne (lo H) 4) (by kernel_rfl) (by kernel_rfl) h
  (fun h => by_way (.eq (mi T) (.c 4)) (.is (mi T) 4) (.ne (mi T) 4) (by kernel_rfl) (by kernel_rfl) h
  (fun h => by_way (.eq (qu T) (.c 0)) (.is (qu T) 0) (.ne (qu T) 0) (by kernel_rfl) (by kernel_rfl) h
  (fun h => by_way (.eq (lo T) (.c 5)) (.is (lo T) 5) (.ne (lo T) 5) (by kernel_rfl) (by kernel_rfl) h
  (fun h => by_way (.eq (qu H) (.c 0)) (.is (qu H) 0) (.ne (qu H) 0) (by kernel_rfl) (by kernel_rfl) h
  (fun h => r200_1 val h ht)
  (fun h => by_way (.eq (qu H) (.c 1)) (.is (qu H) 1) (.ne (qu H) 1) (by kernel_rfl) (by kernel_rfl) h
  (fun h => r200_2 val h ht)
  (fun h => by_way (.eq (qu H) (.c 2)) (.is (qu H) 2) (.ne (qu H) 2) (by kernel_rfl) (by kernel_rfl) h
  (fun h => r200_3 val h ht)
  (fun h => r200_4 val h ht))))
  (fun h => by_way (.eq (qu H) (.c 1)) (.is (qu H) 1) (.ne (qu H) 1) (by kernel_rfl) (by kernel_rfl) h
  (fun h => r200_5 val h ht)
  (fun h => by_way (.eq (qu H) (.c 2)) (.is (qu H) 2) (.ne (qu H) 2) (by kernel_rfl) (by kernel_rfl) h
  (fun h => r200_6 val h ht)
  (fun h => by_way (.eq (qu H) (.c 0)) (.is (qu H) 0) (.ne (qu H) 0) (by kernel_rfl) (by kernel_rfl) h
  (fun h => r200_7 val h ht)
  (fun h => r200_8 val h ht)))))
  (fun h => r200_9 val h ht))
  (fun h => by_way (.eq (qu T) (.c 0)) (.is (qu T) 0) (.ne (qu T) 0) (by kernel_rfl) (by kernel_rfl) h
  (fun h => by_way (.eq (lo T) (.c 5)) (.is (lo T) 5) (.ne (lo T) 5) (by kernel_rfl) (by kernel_rfl) h
  (fun h => by_way (.eq (qu H) (.c 0)) (.is (qu H) 0) (.ne (qu H) 0) (by kernel_rfl) (by kernel_rfl) h
  (fun h => r200_10 val h ht)
  (fun h => by_way (.eq (qu H) (.c 1)) (.is (qu H) 1) (.ne (qu H) 1) (by kernel_rfl) (by kernel_rfl) h
  (fun h => r200_11 val h ht)
  (fun h => by_way (.eq (qu H) (.c 2)) (.is (qu H) 2) (.ne (qu H) 2) (by kernel_rfl) (by kernel_rfl) h
  (fun h => r200_12 val h ht)
  (fun h => r200_13 val h ht))))
  (fun h => by_way (.eq (qu H) (.c 1)) (.is (qu H) 1) (.ne (qu H) 1) (by kernel_rfl) (by kernel_rfl) h
  (fun h => r200_14 val h ht)
  (fun h => by_way (.eq (qu H) (.c 2)) (.is (qu H) 2) (.ne (qu H) 2) (by kernel_rfl) (by kernel_rfl) h
  (fun h => r200_15 val h ht)
  (fun h => by_way (.eq (qu H) (.c 0)) (.is (qu H) 0) (.ne (qu H) 0) (by kernel_rfl) (by kernel_rfl) h
  (fun h => r200_16 val h ht)
  (fun h => r200_17 val h ht)))))
  (fun h => by_way (.eq (qu T) (.c 1)) (.is (qu T) 1) (.ne (qu T) 1) (by kernel_rfl) (by kernel_rfl) h
  (fun h => by_way (.eq (lo T) (.c 5)) (.is (lo T) 5) (.ne (lo T) 5) (by kernel_rfl) (by kernel_rfl) h
  (fun h => by_way (.eq (qu H) (.c 0)) (.is (qu H) 0) (.ne (qu H) 0) (by kernel_rfl) (by kernel_rfl) h
  (fun h => r200_18 val h ht)
  (fun h => by_way (.eq (qu H) (.c 1)) (.is (qu H) 1) (.ne (qu H) 1) (by kernel_rfl) (by kernel_rfl) h
  (fun h => r200_19 val h ht)
  (fun h => by_way (.eq (qu H) (.c 2)) (.is (qu H) 2) (.ne (qu H) 2) (by kernel_rfl) (by kernel_rfl) h
  (fun h => r200_20 val h ht)
  (fun h => r200_21 val h ht))))
  (fun h => by_way (.eq (qu H) (.c 1)) (.is (qu H) 1) (.ne (qu H) 1) (by kernel_rfl) (by kernel_rfl) h
  (fun h => r200_22 val h ht)
  (fun h => by_way (.eq (qu H) (.c 2)) (.is (qu H) 2) (.ne (qu H) 2) (by kernel_rfl) (by kernel_rfl) h
  (fun h => r200_23 val h ht)
  (fun h => by_way (.eq (qu H) (.c 0)) (.is (qu H) 0) (.ne (qu H) 0) (by kernel_rfl) (by kernel_rfl) h
  (fun h => r200_24 val h ht)
  (fun h => r200_25 val h ht)))))
  (fun h => by_way (.eq (qu T) (.c 2)) (.is (qu T) 2) (.ne (qu T) 2) (by kernel_rfl) (by kernel_rfl) h
  (fun h => by_way (.eq (lo T) (.c 5)) (.is (lo T) 5) (.ne (lo T) 5) (by kernel_rfl) (by kernel_rfl) h
  (fun h => by_way (.eq (qu H) (.c 0)) (.is (qu H) 0) (.ne (qu H) 0) (by kernel_rfl) (by kernel_rfl) h
  (fun h => r200_26 val h ht)
  (fun h => by_way (.eq (qu H) (.c 1)) (.is (qu H) 1) (.ne (qu H) 1) (by kernel_rfl) (by kernel_rfl) h
  (fun h => r200_27 val h ht)
  (fun h => by_way (.eq (qu H) (.c 2)) (.is (qu H) 2) (.ne (qu H) 2) (by kernel_rfl) (by kernel_rfl) h
  (fun h => r200_28 val h ht)
  (fun h => r200_29 val h ht))))
  (fun h => by_way (.eq (qu H) (.c 1)) (.is (qu H) 1) (.ne (qu H) 1) (by kernel_rfl) (by kernel_rfl) h
  (fun h => r200_30 val h ht)
  (fun h => by_way (.eq (qu H) (.c 2)) (.is (qu H) 2) (.ne (qu H) 2) (by kernel_rfl) (by kernel_rfl) h
  (fun h => r200_31 val h ht)
  (fun h => by_way (.eq (qu H) (.c 0)) (.is (qu H) 0) (.ne (qu H) 0) (by kernel_rfl) (by kernel_rfl) h
  (fun h => r200_32 val h ht)
  (fun h => r200_33 val h ht)))))
  (fun h => by_way (.eq (lo T) (.c 5)) (.is (lo T) 5) (.ne (lo T) 5) (by kernel_rfl) (by kernel_rfl) h
  (fun h => by_way (.eq (qu H) (.c 0)) (.is (qu H) 0) (.ne (qu H) 0) (by kernel_rfl) (by kernel_rfl) h
  (fun h => r200_34 val h ht)
  (fun h => by_way (.eq (qu H) (.c 1)) (.is (qu H) 1) (.ne (qu H) 1) (by kernel_rfl) (by kernel_rfl) h
  (fun h => r200_35 val h ht)
  (fun h => by_way (.eq (qu H) (.c 2)) (.is (qu H) 2) (.ne (qu H) 2) (by kernel_rfl) (by kernel_rfl) h
  (fun h => r200_36 val h ht)
  (fun h => r200_37 val h ht))))
  (fun h => by_way (.eq (qu H) (.c 1)) (.is (qu H) 1) (.ne (qu H) 1) (by kernel_rfl) (by kernel_rfl) h
  (fun h => r200_38 val h ht)
  (fun h => by_way (.eq (qu H) (.c 2)) (.is (qu H) 2) (.ne (qu H) 2) (by kernel_rfl) (by kernel_rfl) h
  (fun h => r200_39 val h ht)
  (fun h => by_way (.eq (qu H) (.c 0)) (.is (qu H) 0) (.ne (qu H) 0) (by kernel_rfl) (by kernel_rfl) h
  (fun h => r200_40 val h ht)
  (fun h => r200_41 val h ht)))))))))
  (fun h => by_way (.eq (qu H) (.c 0)) (.is (qu H) 0) (.ne (qu H) 0) (by kernel_rfl) (by kernel_rfl) h
  (fun h => by_way (.eq (lo H) (.c 5)) (.is (lo H) 5) (.ne (lo H) 5) (by kernel_rfl) (by kernel_rfl) h
  (fun h => r200_42 val h ht)
  (fun h => r200_43 val h ht))
  (fun h => by_way (.eq (qu H) (.c 1)) (.is (qu H) 1) (.ne (qu H) 1) (by kernel_rfl) (by kernel_rfl) h
  (fun h => r200_44 val h ht)
  (fun h => by_way (.eq (qu H) (.c 2)) (.is (qu H) 2) (.ne (qu H) 2) (by kernel_rfl) (by kernel_rfl) h
  (fun h => r200_45 val h ht)
  (fun h => r200_46 val h ht)))))

theorem r100_0 (val : Nat → Int) (h : Holds val (.is (qu H) 3 :: pre 1 0 0)) (ht : Tabs 1 val) : Q val := leafR (by omega) h ht [(mi H), (w (.add (.c 0) (lo H))), (.c 0), (.c 0), (.c 0), (.c 0), (.c 0), (.c 0), (.c 0), e1, (.c 0)] (by kernel_rfl) (by kernel_rfl) (fun v hG => by kernel_rfl)
theorem r100_1 (val : Nat → Int) (h : Holds val (.is (lo H) 4 :: .ne (qu H) 3 :: pre 1 0 0)) (ht : Tabs 1 val) : Q val := leafR (by omega) h ht [(.c 0), (.c 0), (.c 0), (.c 0), (.c 0), (.c 0), (.c 0), (.c 0), (.c 0), (.c 0), (.c 9)] (by kernel_rfl) (by kernel_rfl) (fun v hG => by kernel_rfl)
theorem r100_2 (val : Nat → Int) (h : Holds val (.is (lo H) 5 :: .is (qu H) 0 :: .ne (lo H) 4 :: .ne (qu H) 3 :: pre 1 0 0)) (ht : Tabs 1 val) : Q val := leafR (by omega) h ht [(.c 0), (.c 0), (.c 0), (.c 0), (.c 0), (.c 0), (.c 0), (.c 0), (.c 0), (.c 0), (.c 9)] (by kernel_rfl) (by kernel_rfl) (fun v hG => by kernel_rfl)
theorem r100_3 (val : Nat → Int) (h : Holds val (.ne (lo H) 5 :: .is (qu H) 0 :: .ne (lo H) 4 :: .ne (qu H) 3 :: pre 1 0 0)) (ht : Tabs 1 val) : Q val := leafR (by omega) h ht [(mi H), (.c (-1)), (.c 5), (w (.add (.c 0) (lo H))), (.c 0), (.c 0), (.c 0), (.c 0), (.c 0), e1, (.c 0)] (by kernel_rfl) (by kernel_rfl) (fun v hG => by kernel_rfl)
theorem r100_4 (val : Nat → Int) (h : Holds val (.is (qu H) 1 :: .ne (qu H) 0 :: .ne (lo H) 4 :: .ne (qu H) 3 :: pre 1 0 0)) (ht : Tabs 1 val) : Q val := leafR (by omega) h ht [(.c 0), (.c 0), (.c 0), (.c 0), (.c 0), (.c 0), (.c 0), (.c 0), (.c 0), (.c 0), (.c 9)] (by kernel_rfl) (by kernel_rfl) (fun v hG => by kernel_rfl)
theorem r100_5 (val : Nat → Int) (h : Holds val (.is (qu H) 2 :: .ne (qu H) 1 :: .ne (qu H) 0 :: .ne (lo H) 4 :: .ne (qu H) 3 :: pre 1 0 0)) (ht : Tabs 1 val) : Q val := leafR (by omega) h ht [(.c 0), (.c 0), (.c 0), (.c 0), (.c 0), (.c 0), (.c 0), (.c 0), (.c 0), (.c 0), (.c 9)] (by kernel_rfl) (by kernel_rfl) (fun v hG => by kernel_rfl)
theorem r100_6 (val : Nat → Int) (h : Holds val (.ne (qu H) 2 :: .ne (qu H) 1 :: .ne (qu H) 0 :: .ne (lo H) 4 :: .ne (qu H) 3 :: pre 1 0 0)) (ht : Tabs 1 val) : Q val := leafR (by omega) h ht [(mi H), (.c (-1)), (.c 5), (w (.add (.c 0) (lo H))), (.c 0), (.c 0), (.c 0), (.c 0), (.c 0), e1, (.c 0)] (by kernel_rfl) (by kernel_rfl) (fun v hG => by kernel_rfl)

theorem r100 : DR 1 0 0 := fun val h ht =>
  by_way (.eq (qu H) (.c 3)) (.is (qu H) 3) (.ne (qu H) 3) (by kernel_rfl) (by kernel_rfl) h
  (fun h => r100_0 val h ht)
  (fun h => by_way (.eq (lo H) (.c 4)) (.is (lo H) 4) (.ne (lo H) 4) (by kernel_rfl) (by kernel_rfl) h
  (fun h => r100_1 val h ht)
  (fun h => by_way (.eq (qu H) (.c 0)) (.is (qu H) 0) (.ne (qu H) 0) (by kernel_rfl) (by kernel_rfl) h
  (fun h => by_way (.eq (lo H) (.c 5)) (.is (lo H) 5) (.ne (lo H) 5) (by kernel_rfl) (by kernel_rfl) h
  (fun h => r100_2 val h ht)
  (fun h => r100_3 val h ht))
  (fun h => by_way (.eq (qu H) (.c 1)) (.is (qu H) 1) (.ne (qu H) 1) (by kernel_rfl) (by kernel_rfl) h
  (fun h => r100_4 val h ht)
  (fun h => by_way (.eq (qu H) (.c 2)) (.is (qu H) 2) (.ne (qu H) 2) (by kernel_rfl) (by kernel_rfl) h
  (fun h => r100_5 val h ht)
  (fun h => r100_6 val h ht)))))

end Go.Proofs.Ytbenfglhomiocaa.Rd
