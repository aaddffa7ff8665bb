/-
  The ways of both, part 3.
-/
import Derived.Test.YtbenfglhomiocaaReadH
namespace Go.Proofs.Ytbenfglhomiocaa.Rd
open Go.Sim Go.Proofs.Ytbenfglhomiocaa.Fld Go.Proofs.Ytbenfglhomiocaa.Tab
set_option maxRecDepth 100000

theorem r311_0 (val : Nat → Int) (h : Holds val (.is (qu H) 3 :: pre 3 1 1)) (ht : Tabs 3 val) : Q val := leafR (by omega) h ht [(.c 0), (.c 0), (.c 0), (.c 0), (.c 0), (.c 0), (.c 0), (.c 0), (.c 0), (.c 0), (.c 4)] (by kernel_rfl) (by kernel_rfl) (fun v hG => by kernel_rfl)
theorem r311_1 (val : Nat → Int) (h : Holds val (.is (qu H) 0 :: .is (lo T) 5 :: .is (qu T) 0 :: .is (mi T) 4 :: .is (lo H) 4 :: .ne (qu H) 3 :: pre 3 1 1)) (ht : Tabs 3 val) : Q val := leafR (by omega) h ht [(.c 0), (.c 0), (.c 0), (.c 0), (.c 0), (.c 0), (.c 0), (.c 0), (.c 0), (.c 0), (.c 4)] (by kernel_rfl) (by kernel_rfl) (fun v hG => by kernel_rfl)
theorem r311_2 (val : Nat → Int) (h : Holds val (.is (qu H) 1 :: .ne (qu H) 0 :: .is (lo T) 5 :: .is (qu T) 0 :: .is (mi T) 4 :: .is (lo H) 4 :: .ne (qu H) 3 :: pre 3 1 1)) (ht : Tabs 3 val) : Q val := leafR (by omega) h ht [(mi H), (.c (-1)), (.c 5), (.c 13), (.c 5), (.c 12), (.c 1), (.a 7), (.c 0), (w (.add e2 (.c 1))), (.c 0)] (by kernel_rfl) (by kernel_rfl) (fun v hG => by kernel_rfl)
theorem r311_3 (val : Nat → Int) (h : Holds val (.is (qu H) 2 :: .ne (qu H) 1 :: .ne (qu H) 0 :: .is (lo T) 5 :: .is (qu T) 0 :: .is (mi T) 4 :: .is (lo H) 4 :: .ne (qu H) 3 :: pre 3 1 1)) (ht : Tabs 3 val) : Q val := leafR (by omega) h ht [(.c 0), (.c 0), (.c 0), (.c 0), (.c 0), (.c 0), (.c 0), (.c 0), (.c 0), (.c 0), (.c 9)] (by kernel_rfl) (by kernel_rfl) (fun v hG => by kernel_rfl)
theorem r311_4 (val : Nat → Int) (h : Holds val (.ne (qu H) 2 :: .ne (qu H) 1 :: .ne (qu H) 0 :: .is (lo T) 5 :: .is (qu T) 0 :: .is (mi T) 4 :: .is (lo H) 4 :: .ne (qu H) 3 :: pre 3 1 1)) (ht : Tabs 3 val) : Q val := leafR (by omega) h ht [(mi H), (.c (-1)), (.c 5), (.c 13), (.c 5), (.c 12), (.c 1), (.c 0), (.c 0), e2, (.c 0)] (by kernel_rfl) (by kernel_rfl) (fun v hG => by kernel_rfl)
theorem r311_5 (val : Nat → Int) (h : Holds val (.is (qu H) 1 :: .ne (lo T) 5 :: .is (qu T) 0 :: .is (mi T) 4 :: .is (lo H) 4 :: .ne (qu H) 3 :: pre 3 1 1)) (ht : Tabs 3 val) : Q val := leafR (by omega) h ht [(mi H), (.c (-1)), (.c 5), (w (.add (.c 8) (lo T))), (.c 5), (.c 12), (.c 1), (.a 7), (.c 0), (w (.add e2 (.c 1))), (.c 0)] (by kernel_rfl) (by kernel_rfl) (fun v hG => by kernel_rfl)
theorem r311_6 (val : Nat → Int) (h : Holds val (.is (qu H) 2 :: .ne (qu H) 1 :: .ne (lo T) 5 :: .is (qu T) 0 :: .is (mi T) 4 :: .is (lo H) 4 :: .ne (qu H) 3 :: pre 3 1 1)) (ht : Tabs 3 val) : Q val := leafR (by omega) h ht [(.c 0), (.c 0), (.c 0), (.c 0), (.c 0), (.c 0), (.c 0), (.c 0), (.c 0), (.c 0), (.c 9)] (by kernel_rfl) (by kernel_rfl) (fun v hG => by kernel_rfl)
theorem r311_7 (val : Nat → Int) (h : Holds val (.is (qu H) 0 :: .ne (qu H) 2 :: .ne (qu H) 1 :: .ne (lo T) 5 :: .is (qu T) 0 :: .is (mi T) 4 :: .is (lo H) 4 :: .ne (qu H) 3 :: pre 3 1 1)) (ht : Tabs 3 val) : Q val := leafR (by omega) h ht [(mi H), (.c (-1)), (.c 5), (w (.add (.c 8) (lo T))), (.c 5), (.c 12), (.c 1), (.c 0), (.c 0), e2, (.c 0)] (by kernel_rfl) (by kernel_rfl) (fun v hG => by kernel_rfl)
theorem r311_8 (val : Nat → Int) (h : Holds val (.ne (qu H) 0 :: .ne (qu H) 2 :: .ne (qu H) 1 :: .ne (lo T) 5 :: .is (qu T) 0 :: .is (mi T) 4 :: .is (lo H) 4 :: .ne (qu H) 3 :: pre 3 1 1)) (ht : Tabs 3 val) : Q val := leafR (by omega) h ht [(mi H), (.c (-1)), (.c 5), (w (.add (.c 8) (lo T))), (.c 5), (.c 12), (.c 1), (.c 0), (.c 0), e2, (.c 0)] (by kernel_rfl) (by kernel_rfl) (fun v hG => by kernel_rfl)
theorem r311_9 (val : Nat → Int) (h : Holds val (.is (qu H) 0 :: .is (lo T) 5 :: .is (qu T) 1 :: .ne (qu T) 0 :: .is (mi T) 4 :: .is (lo H) 4 :: .ne (qu H) 3 :: pre 3 1 1)) (ht : Tabs 3 val) : Q val := leafR (by omega) h ht [(.c 0), (.c 0), (.c 0), (.c 0), (.c 0), (.c 0), (.c 0), (.c 0), (.c 0), (.c 0), (.c 4)] (by kernel_rfl) (by kernel_rfl) (fun v hG => by kernel_rfl)
theorem r311_10 (val : Nat → Int) (h : Holds val (.is (qu H) 1 :: .ne (qu H) 0 :: .is (lo T) 5 :: .is (qu T) 1 :: .ne (qu T) 0 :: .is (mi T) 4 :: .is (lo H) 4 :: .ne (qu H) 3 :: pre 3 1 1)) (ht : Tabs 3 val) : Q val := leafR (by omega) h ht [(mi H), (.c (-1)), (.c 5), (.c 13), (.c 5), (.c 12), (.c 2), (.a 7), (.c 0), (w (.add e2 (.c 1))), (.c 0)] (by kernel_rfl) (by kernel_rfl) (fun v hG => by kernel_rfl)
theorem r311_11 (val : Nat → Int) (h : Holds val (.is (qu H) 2 :: .ne (qu H) 1 :: .ne (qu H) 0 :: .is (lo T) 5 :: .is (qu T) 1 :: .ne (qu T) 0 :: .is (mi T) 4 :: .is (lo H) 4 :: .ne (qu H) 3 :: pre 3 1 1)) (ht : Tabs 3 val) : Q val := leafR (by omega) h ht [(.c 0), (.c 0), (.c 0), (.c 0), (.c 0), (.c 0), (.c 0), (.c 0), (.c 0), (.c 0), (.c 9)] (by kernel_rfl) (by kernel_rfl) (fun v hG => by kernel_rfl)
theorem r311_12 (val : Nat → Int) (h : Holds val (.ne (qu H) 2 :: .ne (qu H) 1 :: .ne (qu H) 0 :: .is (lo T) 5 :: .is (qu T) 1 :: .ne (qu T) 0 :: .is (mi T) 4 :: .is (lo H) 4 :: .ne (qu H) 3 :: pre 3 1 1)) (ht : Tabs 3 val) : Q val := leafR (by omega) h ht [(mi H), (.c (-1)), (.c 5), (.c 13), (.c 5), (.c 12), (.c 2), (.c 0), (.c 0), e2, (.c 0)] (by kernel_rfl) (by kernel_rfl) (fun v hG => by kernel_rfl)
theorem r311_13 (val : Nat → Int) (h : Holds val (.is (qu H) 1 :: .ne (lo T) 5 :: .is (qu T) 1 :: .ne (qu T) 0 :: .is (mi T) 4 :: .is (lo H) 4 :: .ne (qu H) 3 :: pre 3 1 1)) (ht : Tabs 3 val) : Q val := leafR (by omega) h ht [(mi H), (.c (-1)), (.c 5), (w (.add (.c 8) (lo T))), (.c 5), (.c 12), (.c 2), (.a 7), (.c 0), (w (.add e2 (.c 1))), (.c 0)] (by kernel_rfl) (by kernel_rfl) (fun v hG => by kernel_rfl)
theorem r311_14 (val : Nat → Int) (h : Holds val (.is (qu H) 2 :: .ne (qu H) 1 :: .ne (lo T) 5 :: .is (qu T) 1 :: .ne (qu T) 0 :: .is (mi T) 4 :: .is (lo H) 4 :: .ne (qu H) 3 :: pre 3 1 1)) (ht : Tabs 3 val) : Q val := leafR (by omega) h ht [(.c 0), (.c 0), (.c 0), (.c 0), (.c 0), (.c 0), (.c 0), (.c 0), (.c 0), (.c 0), (.c 9)] (by kernel_rfl) (by kernel_rfl) (fun v hG => by kernel_rfl)
theorem r311_15 (val : Nat → Int) (h : Holds val (.is (qu H) 0 :: .ne (qu H) 2 :: .ne (qu H) 1 :: .ne (lo T) 5 :: .is (qu T) 1 :: .ne (qu T) 0 :: .is (mi T) 4 :: .is (lo H) 4 :: .ne (qu H) 3 :: pre 3 1 1)) (ht : Tabs 3 val) : Q val := leafR (by omega) h ht [(mi H), (.c (-1)), (.c 5), (w (.add (.c 8) (lo T))), (.c 5), (.c 12), (.c 2), (.c 0), (.c 0), e2, (.c 0)] (by kernel_rfl) (by kernel_rfl) (fun v hG => by kernel_rfl)
theorem r311_16 (val : Nat → Int) (h : Holds val (.ne (qu H) 0 :: .ne (qu H) 2 :: .ne (qu H) 1 :: .ne (lo T) 5 :: .is (qu T) 1 :: .ne (qu T) 0 :: .is (mi T) 4 :: .is (lo H) 4 :: .ne (qu H) 3 :: pre 3 1 1)) (ht : Tabs 3 val) : Q val := leafR (by omega) h ht [(mi H), (.c (-1)), (.c 5), (w (.add (.c 8) (lo T))), (.c 5), (.c 12), (.c 2), (.c 0), (.c 0), e2, (.c 0)] (by kernel_rfl) (by kernel_rfl) (fun v hG => by kernel_rfl)
theorem r311_17 (val : Nat → Int) (h : Holds val (.is (qu H) 0 :: .is (lo T) 5 :: .is (qu T) 2 :: .ne (qu T) 1 :: .ne (qu T) 0 :: .is (mi T) 4 :: .is (lo H) 4 :: .ne (qu H) 3 :: pre 3 1 1)) (ht : Tabs 3 val) : Q val := leafR (by omega) h ht [(.c 0), (.c 0), (.c 0), (.c 0), (.c 0), (.c 0), (.c 0), (.c 0), (.c 0), (.c 0), (.c 4)] (by kernel_rfl) (by kernel_rfl) (fun v hG => by kernel_rfl)
theorem r311_18 (val : Nat → Int) (h : Holds val (.is (qu H) 1 :: .ne (qu H) 0 :: .is (lo T) 5 :: .is (qu T) 2 :: .ne (qu T) 1 :: .ne (qu T) 0 :: .is (mi T) 4 :: .is (lo H) 4 :: .ne (qu H) 3 :: pre 3 1 1)) (ht : Tabs 3 val) : Q val := leafR (by omega) h ht [(mi H), (.c (-1)), (.c 5), (.c 13), (.c 5), (.c 12), (.c 4), (.a 7), (.c 0), (w (.add e2 (.c 1))), (.c 0)] (by kernel_rfl) (by kernel_rfl) (fun v hG => by kernel_rfl)
theorem r311_19 (val : Nat → Int) (h : Holds val (.is (qu H) 2 :: .ne (qu H) 1 :: .ne (qu H) 0 :: .is (lo T) 5 :: .is (qu T) 2 :: .ne (qu T) 1 :: .ne (qu T) 0 :: .is (mi T) 4 :: .is (lo H) 4 :: .ne (qu H) 3 :: pre 3 1 1)) (ht : Tabs 3 val) : Q val := leafR (by omega) h ht [(.c 0), (.c 0), (.c 0), (.c 0), (.c 0), (.c 0), (.c 0), (.c 0), (.c 0), (.c 0), (.c 9)] (by kernel_rfl) (by kernel_rfl) (fun v hG => by kernel_rfl)
theorem r311_20 (val : Nat → Int) (h : Holds val (.ne (qu H) 2 :: .ne (qu H) 1 :: .ne (qu H) 0 :: .is (lo T) 5 :: .is (qu T) 2 :: .ne (qu T) 1 :: .ne (qu T) 0 :: .is (mi T) 4 :: .is (lo H) 4 :: .ne (qu H) 3 :: pre 3 1 1)) (ht : Tabs 3 val) : Q val := leafR (by omega) h ht [(mi H), (.c (-1)), (.c 5), (.c 13), (.c 5), (.c 12), (.c 4), (.c 0), (.c 0), e2, (.c 0)] (by kernel_rfl) (by kernel_rfl) (fun v hG => by kernel_rfl)
theorem r311_21 (val : Nat → Int) (h : Holds val (.is (qu H) 1 :: .ne (lo T) 5 :: .is (qu T) 2 :: .ne (qu T) 1 :: .ne (qu T) 0 :: .is (mi T) 4 :: .is (lo H) 4 :: .ne (qu H) 3 :: pre 3 1 1)) (ht : Tabs 3 val) : Q val := leafR (by omega) h ht [(mi H), (.c (-1)), (.c 5), (w (.add (.c 8) (lo T))), (.c 5), (.c 12), (.c 4), (.a 7), (.c 0), (w (.add e2 (.c 1))), (.c 0)] (by kernel_rfl) (by kernel_rfl) (fun v hG => by kernel_rfl)
theorem r311_22 (val : Nat → Int) (h : Holds val (.is (qu H) 2 :: .ne (qu H) 1 :: .ne (lo T) 5 :: .is (qu T) 2 :: .ne (qu T) 1 :: .ne (qu T) 0 :: .is (mi T) 4 :: .is (lo H) 4 :: .ne (qu H) 3 :: pre 3 1 1)) (ht : Tabs 3 val) : Q val := leafR (by omega) h ht [(.c 0), (.c 0), (.c 0), (.c 0), (.c 0), (.c 0), (.c 0), (.c 0), (.c 0), (.c 0), (.c 9)] (by kernel_rfl) (by kernel_rfl) (fun v hG => by kernel_rfl)
theorem r311_23 (val : Nat → Int) (h : Holds val (.is (qu H) 0 :: .ne (qu H) 2 :: .ne (qu H) 1 :: .ne (lo T) 5 :: .is (qu T) 2 :: .ne (qu T) 1 :: .ne (qu T) 0 :: .is (mi T) 4 :: .is (lo H) 4 :: .ne (qu H) 3 :: pre 3 1 1)) (ht : Tabs 3 val) : Q val := leafR (by omega) h ht [(mi H), (.c (-1)), (.c 5), (w (.add (.c 8) (lo T))), (.c 5), (.c 12), (.c 4), (.c 0), (.c 0), e2, (.c 0)] (by kernel_rfl) (by kernel_rfl) (fun v hG => by kernel_rfl)
theorem r311_24 (val : Nat → Int) (h : Holds val (.ne (qu H) 0 :: .ne (qu H) 2 :: .ne (qu H) 1 :: .ne (lo T) 5 :: .is (qu T) 2 :: .ne (qu T) 1 :: .ne (qu T) 0 :: .is (mi T) 4 :: .is (lo H) 4 :: .ne (qu H) 3 :: pre 3 1 1)) (ht : Tabs 3 val) : Q val := leafR (by omega) h ht [(mi H), (.c (-1)), (.c 5), (w (.add (.c 8) (lo T))), (.c 5), (.c 12), (.c 4), (.c 0), (.c 0), e2, (.c 0)] (by kernel_rfl) (by kernel_rfl) (fun v hG => by kernel_rfl)
theorem r311_25 (val : Nat → Int) (h : Holds val (.is (qu H) 0 :: .is (lo T) 5 :: .ne (qu T) 2 :: .ne (qu T) 1 :: .ne (qu T) 0 :: .is (mi T) 4 :: .is (lo H) 4 :: .ne (qu H) 3 :: pre 3 1 1)) (ht : Tabs 3 val) : Q val := leafR (by omega) h ht [(.c 0), (.c 0), (.c 0), (.c 0), (.c 0), (.c 0), (.c 0), (.c 0), (.c 0), (.c 0), (.c 4)] (by kernel_rfl) (by kernel_rfl) (fun v hG => by kernel_rfl)
theorem r311_26 (val : Nat → Int) (h : Holds val (.is (qu H) 1 :: .ne (qu H) 0 :: .is (lo T) 5 :: .ne (qu T) 2 :: .ne (qu T) 1 :: .ne (qu T) 0 :: .is (mi T) 4 :: .is (lo H) 4 :: .ne (qu H) 3 :: pre 3 1 1)) (ht : Tabs 3 val) : Q val := leafR (by omega) h ht [(mi H), (.c (-1)), (.c 5), (.c 13), (.c 5), (.c 12), (.c 8), (.a 7), (.c 0), (w (.add e2 (.c 1))), (.c 0)] (by kernel_rfl) (by kernel_rfl) (fun v hG => by kernel_rfl)
theorem r311_27 (val : Nat → Int) (h : Holds val (.is (qu H) 2 :: .ne (qu H) 1 :: .ne (qu H) 0 :: .is (lo T) 5 :: .ne (qu T) 2 :: .ne (qu T) 1 :: .ne (qu T) 0 :: .is (mi T) 4 :: .is (lo H) 4 :: .ne (qu H) 3 :: pre 3 1 1)) (ht : Tabs 3 val) : Q val := leafR (by omega) h ht [(.c 0), (.c 0), (.c 0), (.c 0), (.c 0), (.c 0), (.c 0), (.c 0), (.c 0), (.c 0), (.c 9)] (by kernel_rfl) (by kernel_rfl) (fun v hG => by kernel_rfl)
theorem r311_28 (val : Nat → Int) (h : Holds val (.ne (qu H) 2 :: .ne (qu H) 1 :: .ne (qu H) 0 :: .is (lo T) 5 :: .ne (qu T) 2 :: .ne (qu T) 1 :: .ne (qu T) 0 :: .is (mi T) 4 :: .is (lo H) 4 :: .ne (qu H) 3 :: pre 3 1 1)) (ht : Tabs 3 val) : Q val := leafR (by omega) h ht [(mi H), (.c (-1)), (.c 5), (.c 13), (.c 5), (.c 12), (.c 8), (.c 0), (.c 0), e2, (.c 0)] (by kernel_rfl) (by kernel_rfl) (fun v hG => by kernel_rfl)
theorem r311_29 (val : Nat → Int) (h : Holds val (.is (qu H) 1 :: .ne (lo T) 5 :: .ne (qu T) 2 :: .ne (qu T) 1 :: .ne (qu T) 0 :: .is (mi T) 4 :: .is (lo H) 4 :: .ne (qu H) 3 :: pre 3 1 1)) (ht : Tabs 3 val) : Q val := leafR (by omega) h ht [(mi H), (.c (-1)), (.c 5), (w (.add (.c 8) (lo T))), (.c 5), (.c 12), (.c 8), (.a 7), (.c 0), (w (.add e2 (.c 1))), (.c 0)] (by kernel_rfl) (by kernel_rfl) (fun v hG => by kernel_rfl)
theorem r311_30 (val : Nat → Int) (h : Holds val (.is (qu H) 2 :: .ne (qu H) 1 :: .ne (lo T) 5 :: .ne (qu T) 2 :: .ne (qu T) 1 :: .ne (qu T) 0 :: .is (mi T) 4 :: .is (lo H) 4 :: .ne (qu H) 3 :: pre 3 1 1)) (ht : Tabs 3 val) : Q val := leafR (by omega) h ht [(.c 0), (.c 0), (.c 0), (.c 0), (.c 0), (.c 0), (.c 0), (.c 0), (.c 0), (.c 0), (.c 9)] (by kernel_rfl) (by kernel_rfl) (fun v hG => by kernel_rfl)
theorem r311_31 (val : Nat → Int) (h : Holds val (.is (qu H) 0 :: .ne (qu H) 2 :: .ne (qu H) 1 :: .ne (lo T) 5 :: .ne (qu T) 2 :: .ne (qu T) 1 :: .ne (qu T) 0 :: .is (mi T) 4 :: .is (lo H) 4 :: .ne (qu H) 3 :: pre 3 1 1)) (ht : Tabs 3 val) : Q val := leafR (by omega) h ht [(mi H), (.c (-1)), (.c 5), (w (.add (.c 8) (lo T))), (.c 5), (.c 12), (.c 8), (.c 0), (.c 0), e2, (.c 0)] (by kernel_rfl) (by kernel_rfl) (fun v hG => by kernel_rfl)
theorem r311_32 (val : Nat → Int) (h : Holds val (.ne (qu H) 0 :: .ne (qu H) 2 :: .ne (qu H) 1 :: .ne (lo T) 5 :: .ne (qu T) 2 :: .ne (qu T) 1 :: .ne (qu T) 0 :: .is (mi T) 4 :: .is (lo H) 4 :: .ne (qu H) 3 :: pre 3 1 1)) (ht : Tabs 3 val) : Q val := leafR (by omega) h ht [(mi H), (.c (-1)), (.c 5), (w (.add (.c 8) (lo T))), (.c 5), (.c 12), (.c 8), (.c 0), (.c 0), e2, (.c 0)] (by kernel_rfl) (by kernel_rfl) (fun v hG => by kernel_rfl)
theorem r311_33 (val : Nat → Int) (h : Holds val (.is (qu H) 0 :: .is (lo T) 5 :: .is (qu T) 0 :: .ne (mi T) 4 :: .is (lo H) 4 :: .ne (qu H) 3 :: pre 3 1 1)) (ht : Tabs 3 val) : Q val := leafR (by omega) h ht [(.c 0), (.c 0), (.c 0), (.c 0), (.c 0), (.c 0), (.c 0), (.c 0), (.c 0), (.c 0), (.c 4)] (by kernel_rfl) (by kernel_rfl) (fun v hG => by kernel_rfl)
theorem r311_34 (val : Nat → Int) (h : Holds val (.is (qu H) 1 :: .ne (qu H) 0 :: .is (lo T) 5 :: .is (qu T) 0 :: .ne (mi T) 4 :: .is (lo H) 4 :: .ne (qu H) 3 :: pre 3 1 1)) (ht : Tabs 3 val) : Q val := leafR (by omega) h ht [(mi H), (.c (-1)), (.c 5), (.c 13), (.c 5), (w (.add (.c 8) (mi T))), (.c 1), (.a 7), (.c 0), (w (.add e2 (.c 1))), (.c 0)] (by kernel_rfl) (by kernel_rfl) (fun v hG => by kernel_rfl)
theorem r311_35 (val : Nat → Int) (h : Holds val (.is (qu H) 2 :: .ne (qu H) 1 :: .ne (qu H) 0 :: .is (lo T) 5 :: .is (qu T) 0 :: .ne (mi T) 4 :: .is (lo H) 4 :: .ne (qu H) 3 :: pre 3 1 1)) (ht : Tabs 3 val) : Q val := leafR (by omega) h ht [(.c 0), (.c 0), (.c 0), (.c 0), (.c 0), (.c 0), (.c 0), (.c 0), (.c 0), (.c 0), (.c 9)] (by kernel_rfl) (by kernel_rfl) (fun v hG => by kernel_rfl)
theorem r311_36 (val : Nat → Int) (h : Holds val (.ne (qu H) 2 :: .ne (qu H) 1 :: .ne (qu H) 0 :: .is (lo T) 5 :: .is (qu T) 0 :: .ne (mi T) 4 :: .is (lo H) 4 :: .ne (qu H) 3 :: pre 3 1 1)) (ht : Tabs 3 val) : Q val := leafR (by omega) h ht [(mi H), (.c (-1)), (.c 5), (.c 13), (.c 5), (w (.add (.c 8) (mi T))), (.c 1), (.c 0), (.c 0), e2, (.c 0)] (by kernel_rfl) (by kernel_rfl) (fun v hG => by kernel_rfl)
theorem r311_37 (val : Nat → Int) (h : Holds val (.is (qu H) 1 :: .ne (lo T) 5 :: .is (qu T) 0 :: .ne (mi T) 4 :: .is (lo H) 4 :: .ne (qu H) 3 :: pre 3 1 1)) (ht : Tabs 3 val) : Q val := leafR (by omega) h ht [(mi H), (.c (-1)), (.c 5), (w (.add (.c 8) (lo T))), (.c 5), (w (.add (.c 8) (mi T))), (.c 1), (.a 7), (.c 0), (w (.add e2 (.c 1))), (.c 0)] (by kernel_rfl) (by kernel_rfl) (fun v hG => by kernel_rfl)
theorem r311_38 (val : Nat → Int) (h : Holds val (.is (qu H) 2 :: .ne (qu H) 1 :: .ne (lo T) 5 :: .is (qu T) 0 :: .ne (mi T) 4 :: .is (lo H) 4 :: .ne (qu H) 3 :: pre 3 1 1)) (ht : Tabs 3 val) : Q val := leafR (by omega) h ht [(.c 0), (.c 0), (.c 0), (.c 0), (.c 0), (.c 0), (.c 0), (.c 0), (.c 0), (.c 0), (.c 9)] (by kernel_rfl) (by kernel_rfl) (fun v hG => by kernel_rfl)
theorem r311_39 (val : Nat → Int) (h : Holds val (.is (qu H) 0 :: .ne (qu H) 2 :: .ne (qu H) 1 :: .ne (lo T) 5 :: .is (qu T) 0 :: .ne (mi T) 4 :: .is (lo H) 4 :: .ne (qu H) 3 :: pre 3 1 1)) (ht : Tabs 3 val) : Q val := leafR (by omega) h ht [(mi H), (.c (-1)), (.c 5), (w (.add (.c 8) (lo T))), (.c 5), (w (.add (.c 8) (mi T))), (.c 1), (.c 0), (.c 0), e2, (.c 0)] (by kernel_rfl) (by kernel_rfl) (fun v hG => by kernel_rfl)
theorem r311_40 (val : Nat → Int) (h : Holds val (.ne (qu H) 0 :: .ne (qu H) 2 :: .ne (qu H) 1 :: .ne (lo T) 5 :: .is (qu T) 0 :: .ne (mi T) 4 :: .is (lo H) 4 :: .ne (qu H) 3 :: pre 3 1 1)) (ht : Tabs 3 val) : Q val := leafR (by omega) h ht [(mi H), (.c (-1)), (.c 5), (w (.add (.c 8) (lo T))), (.c 5), (w (.add (.c 8) (mi T))), (.c 1), (.c 0), (.c 0), e2, (.c 0)] (by kernel_rfl) (by kernel_rfl) (fun v hG => by kernel_rfl)
theorem r311_41 (val : Nat → Int) (h : Holds val (.is (qu H) 0 :: .is (lo T) 5 :: .is (qu T) 1 :: .ne (qu T) 0 :: .ne (mi T) 4 :: .is (lo H) 4 :: .ne (qu H) 3 :: pre 3 1 1)) (ht : Tabs 3 val) : Q val := leafR (by omega) h ht [(.c 0), (.c 0), (.c 0), (.c 0), (.c 0), (.c 0), (.c 0), (.c 0), (.c 0), (.c 0), (.c 4)] (by kernel_rfl) (by kernel_rfl) (fun v hG => by kernel_rfl)
theorem r311_42 (val : Nat → Int) (h : Holds val (.is (qu H) 1 :: .ne (qu H) 0 :: .is (lo T) 5 :: .is (qu T) 1 :: .ne (qu T) 0 :: .ne (mi T) 4 :: .is (lo H) 4 :: .ne (qu H) 3 :: pre 3 1 1)) (ht : Tabs 3 val) : Q val := leafR (by omega) h ht [(mi H), (.c (-1)), (.c 5), (.c 13), (.c 5), (w (.add (.c 8) (mi T))), (.c 2), (.a 7), (.c 0), (w (.add e2 (.c 1))), (.c 0)] (by kernel_rfl) (by kernel_rfl) (fun v hG => by kernel_rfl)
theorem r311_43 (val : Nat → Int) (h : Holds val (.is (qu H) 2 :: .ne (qu H) 1 :: .ne (qu H) 0 :: .is (lo T) 5 :: .is (qu T) 1 :: .ne (qu T) 0 :: .ne (mi T) 4 :: .is (lo H) 4 :: .ne (qu H) 3 :: pre 3 1 1)) (ht : Tabs 3 val) : Q val := leafR (by omega) h ht [(.c 0), (.c 0), (.c 0), (.c 0), (.c 0), (.c 0), (.c 0), (.c 0), (.c 0), (.c 0), (.c 9)] (by kernel_rfl) (by kernel_rfl) (fun v hG => by kernel_rfl)
theorem r311_44 (val : Nat → Int) (h : Holds val (.ne (qu H) 2 :: .ne (qu H) 1 :: .ne (qu H) 0 :: .is (lo T) 5 :: .is (qu T) 1 :: .ne (qu T) 0 :: .ne (mi T) 4 :: .is (lo H) 4 :: .ne (qu H) 3 :: pre 3 1 1)) (ht : Tabs 3 val) : Q val := leafR (by omega) h ht [(mi H), (.c (-1)), (.c 5), (.c 13), (.c 5), (w (.add (.c 8) (mi T))), (.c 2), (.c 0), (.c 0), e2, (.c 0)] (by kernel_rfl) (by kernel_rfl) (fun v hG => by kernel_rfl)
theorem r311_45 (val : Nat → Int) (h : Holds val (.is (qu H) 1 :: .ne (lo T) 5 :: .is (qu T) 1 :: .ne (qu T) 0 :: .ne (mi T) 4 :: .is (lo H) 4 :: .ne (qu H) 3 :: pre 3 1 1)) (ht : Tabs 3 val) : Q val := leafR (by omega) h ht [(mi H), (.c (-1)), (.c 5), (w (.add (.c 8) (lo T))), (.c 5), (w (.add (.c 8) (mi T))), (.c 2), (.a 7), (.c 0), (w (.add e2 (.c 1))), (.c 0)] (by kernel_rfl) (by kernel_rfl) (fun v hG => by kernel_rfl)
theorem r311_46 (val : Nat → Int) (h : Holds val (.is (qu H) 2 :: .ne (qu H) 1 :: .ne (lo T) 5 :: .is (qu T) 1 :: .ne (qu T) 0 :: .ne (mi T) 4 :: .is (lo H) 4 :: .ne (qu H) 3 :: pre 3 1 1)) (ht : Tabs 3 val) : Q val := leafR (by omega) h ht [(.c 0), (.c 0), (.c 0), (.c 0), (.c 0), (.c 0), (.c 0), (.c 0), (.c 0), (.c 0), (.c 9)] (by kernel_rfl) (by kernel_rfl) (fun v hG => by kernel_rfl)
theorem r311_47 (val : Nat → Int) (h : Holds val (.is (qu H) 0 :: .ne (qu H) 2 :: .ne (qu H) 1 :: .ne (lo T) 5 :: .is (qu T) 1 :: .ne (qu T) 0 :: .ne (mi T) 4 :: .is (lo H) 4 :: .ne (qu H) 3 :: pre 3 1 1)) (ht : Tabs 3 val) : Q val := leafR (by omega) h ht [(mi H), (.c (-1)), (.c 5), (w (.add (.c 8) (lo T))), (.c 5), (w (.add (.c 8) (mi T))), (.c 2), (.c 0), (.c 0), e2, (.c 0)] (by kernel_rfl) (by kernel_rfl) (fun v hG => by kernel_rfl)
theorem r311_48 (val : Nat → Int) (h : Holds val (.ne (qu H) 0 :: .ne (qu H) 2 :: .ne (qu H) 1 :: .ne (lo T) 5 :: .is (qu T) 1 :: .ne (qu T) 0 :: .ne (mi T) 4 :: .is (lo H) 4 :: .ne (qu H) 3 :: pre 3 1 1)) (ht : Tabs 3 val) : Q val := leafR (by omega) h ht [(mi H), (.c (-1)), (.c 5), (w (.add (.c 8) (lo T))), (.c 5), (w (.add (.c 8) (mi T))), (.c 2), (.c 0), (.c 0), e2, (.c 0)] (by kernel_rfl) (by kernel_rfl) (fun v hG => by kernel_rfl)
theorem r311_49 (val : Nat → Int) (h : Holds val (.is (qu H) 0 :: .is (lo T) 5 :: .is (qu T) 2 :: .ne (qu T) 1 :: .ne (qu T) 0 :: .ne (mi T) 4 :: .is (lo H) 4 :: .ne (qu H) 3 :: pre 3 1 1)) (ht : Tabs 3 val) : Q val := leafR (by omega) h ht [(.c 0), (.c 0), (.c 0), (.c 0), (.c 0), (.c 0), (.c 0), (.c 0), (.c 0), (.c 0), (.c 4)] (by kernel_rfl) (by kernel_rfl) (fun v hG => by kernel_rfl)
theorem r311_50 (val : Nat → Int) (h : Holds val (.is (qu H) 1 :: .ne (qu H) 0 :: .is (lo T) 5 :: .is (qu T) 2 :: .ne (qu T) 1 :: .ne (qu T) 0 :: .ne (mi T) 4 :: .is (lo H) 4 :: .ne (qu H) 3 :: pre 3 1 1)) (ht : Tabs 3 val) : Q val := leafR (by omega) h ht [(mi H), (.c (-1)), (.c 5), (.c 13), (.c 5), (w (.add (.c 8) (mi T))), (.c 4), (.a 7), (.c 0), (w (.add e2 (.c 1))), (.c 0)] (by kernel_rfl) (by kernel_rfl) (fun v hG => by kernel_rfl)
theorem r311_51 (val : Nat → Int) (h : Holds val (.is (qu H) 2 :: .ne (qu H) 1 :: .ne (qu H) 0 :: .is (lo T) 5 :: .is (qu T) 2 :: .ne (qu T) 1 :: .ne (qu T) 0 :: .ne (mi T) 4 :: .is (lo H) 4 :: .ne (qu H) 3 :: pre 3 1 1)) (ht : Tabs 3 val) : Q val := leafR (by omega) h ht [(.c 0), (.c 0), (.c 0), (.c 0), (.c 0), (.c 0), (.c 0), (.c 0), (.c 0), (.c 0), (.c 9)] (by kernel_rfl) (by kernel_rfl) (fun v hG => by kernel_rfl)
theorem r311_52 (val : Nat → Int) (h : Holds val (.ne (qu H) 2 :: .ne (qu H) 1 :: .ne (qu H) 0 :: .is (lo T) 5 :: .is (qu T) 2 :: .ne (qu T) 1 :: .ne (qu T) 0 :: .ne (mi T) 4 :: .is (lo H) 4 :: .ne (qu H) 3 :: pre 3 1 1)) (ht : Tabs 3 val) : Q val := leafR (by omega) h ht [(mi H), (.c (-1)), (.c 5), (.c 13), (.c 5), (w (.add (.c 8) (mi T))), (.c 4), (.c 0), (.c 0), e2, (.c 0)] (by kernel_rfl) (by kernel_rfl) (fun v hG => by kernel_rfl)
theorem r311_53 (val : Nat → Int) (h : Holds val (.is (qu H) 1 :: .ne (lo T) 5 :: .is (qu T) 2 :: .ne (qu T) 1 :: .ne (qu T) 0 :: .ne (mi T) 4 :: .is (lo H) 4 :: .ne (qu H) 3 :: pre 3 1 1)) (ht : Tabs 3 val) : Q val := leafR (by omega) h ht [(mi H), (.c (-1)), (.c 5), (w (.add (.c 8) (lo T))), (.c 5), (w (.add (.c 8) (mi T))), (.c 4), (.a 7), (.c 0), (w (.add e2 (.c 1))), (.c 0)] (by kernel_rfl) (by kernel_rfl) (fun v hG => by kernel_rfl)
theorem r311_54 (val : Nat → Int) (h : Holds val (.is (qu H) 2 :: .ne (qu H) 1 :: .ne (lo T) 5 :: .is (qu T) 2 :: .ne (qu T) 1 :: .ne (qu T) 0 :: .ne (mi T) 4 :: .is (lo H) 4 :: .ne (qu H) 3 :: pre 3 1 1)) (ht : Tabs 3 val) : Q val := leafR (by omega) h ht [(.c 0), (.c 0), (.c 0), (.c 0), (.c 0), (.c 0), (.c 0), (.c 0), (.c 0), (.c 0), (.c 9)] (by kernel_rfl) (by kernel_rfl) (fun v hG => by kernel_rfl)
theorem r311_55 (val : Nat → Int) (h : Holds val (.is (qu H) 0 :: .ne (qu H) 2 :: .ne (qu H) 1 :: .ne (lo T) 5 :: .is (qu T) 2 :: .ne (qu T) 1 :: .ne (qu T) 0 :: .ne (mi T) 4 :: .is (lo H) 4 :: .ne (qu H) 3 :: pre 3 1 1)) (ht : Tabs 3 val) : Q val := leafR (by omega) h ht [(mi H), (.c (-1)), (.c 5), (w (.add (.c 8) (lo T))), (.c 5), (w (.add (.c 8) (mi T))), (.c 4), (.c 0), (.c 0), e2, (.c 0)] (by kernel_rfl) (by kernel_rfl) (fun v hG => by kernel_rfl)
theorem r311_56 (val : Nat → Int) (h : Holds val (.ne (qu H) 0 :: .ne (qu H) 2 :: .ne (qu H) 1 :: .ne (lo T) 5 :: .is (qu T) 2 :: .ne (qu T) 1 :: .ne (qu T) 0 :: .ne (mi T) 4 :: .is (lo H) 4 :: .ne (qu H) 3 :: pre 3 1 1)) (ht : Tabs 3 val) : Q val := leafR (by omega) h ht [(mi H), (.c (-1)), (.c 5), (w (.add (.c 8) (lo T))), (.c 5), (w (.add (.c 8) (mi T))), (.c 4), (.c 0), (.c 0), e2, (.c 0)] (by kernel_rfl) (by kernel_rfl) (fun v hG => by kernel_rfl)
theorem r311_57 (val : Nat → Int) (h : Holds val (.is (qu H) 0 :: .is (lo T) 5 :: .ne (qu T) 2 :: .ne (qu T) 1 :: .ne (qu T) 0 :: .ne (mi T) 4 :: .is (lo H) 4 :: .ne (qu H) 3 :: pre 3 1 1)) (ht : Tabs 3 val) : Q val := leafR (by omega) h ht [(.c 0), (.c 0), (.c 0), (.c 0), (.c 0), (.c 0), (.c 0), (.c 0), (.c 0), (.c 0), (.c 4)] (by kernel_rfl) (by kernel_rfl) (fun v hG => by kernel_rfl)
theorem r311_58 (val : Nat → Int) (h : Holds val (.is (qu H) 1 :: .ne (qu H) 0 :: .is (lo T) 5 :: .ne (qu T) 2 :: .ne (qu T) 1 :: .ne (qu T) 0 :: .ne (mi T) 4 :: .is (lo H) 4 :: .ne (qu H) 3 :: pre 3 1 1)) (ht : Tabs 3 val) : Q val := leafR (by omega) h ht [(mi H), (.c (-1)), (.c 5), (.c 13), (.c 5), (w (.add (.c 8) (mi T))), (.c 8), (.a 7), (.c 0), (w (.add e2 (.c 1))), (.c 0)] (by kernel_rfl) (by kernel_rfl) (fun v hG => by kernel_rfl)
theorem r311_59 (val : Nat → Int) (h : Holds val (.is (qu H) 2 :: .ne (qu H) 1 :: .ne (qu H) 0 :: .is (lo T) 5 :: .ne (qu T) 2 :: .ne (qu T) 1 :: .ne (qu T) 0 :: .ne (mi T) 4 :: .is (lo H) 4 :: .ne (qu H) 3 :: pre 3 1 1)) (ht : Tabs 3 val) : Q val := leafR (by omega) h ht [(.c 0), (.c 0), (.c 0), (.c 0), (.c 0), (.c 0), (.c 0), (.c 0), (.c 0), (.c 0), (.c 9)] (by kernel_rfl) (by kernel_rfl) (fun v hG => by kernel_rfl)
theorem r311_60 (val : Nat → Int) (h : Holds val (.ne (qu H) 2 :: .ne (qu H) 1 :: .ne (qu H) 0 :: .is (lo T) 5 :: .ne (qu T) 2 :: .ne (qu T) 1 :: .ne (qu T) 0 :: .ne (mi T) 4 :: .is (lo H) 4 :: .ne (qu H) 3 :: pre 3 1 1)) (ht : Tabs 3 val) : Q val := leafR (by omega) h ht [(mi H), (.c (-1)), (.c 5), (.c 13), (.c 5), (w (.add (.c 8) (mi T))), (.c 8), (.c 0), (.c 0), e2, (.c 0)] (by kernel_rfl) (by kernel_rfl) (fun v hG => by kernel_rfl)
theorem r311_61 (val : Nat → Int) (h : Holds val (.is (qu H) 1 :: .ne (lo T) 5 :: .ne (qu T) 2 :: .ne (qu T) 1 :: .ne (qu T) 0 :: .ne (mi T) 4 :: .is (lo H) 4 :: .ne (qu H) 3 :: pre 3 1 1)) (ht : Tabs 3 val) : Q val := leafR (by omega) h ht [(mi H), (.c (-1)), (.c 5), (w (.add (.c 8) (lo T))), (.c 5), (w (.add (.c 8) (mi T))), (.c 8), (.a 7), (.c 0), (w (.add e2 (.c 1))), (.c 0)] (by kernel_rfl) (by kernel_rfl) (fun v hG => by kernel_rfl)
theorem r311_62 (val : Nat → Int) (h : Holds val (.is (qu H) 2 :: .ne (qu H) 1 :: .ne (lo T) 5 :: .ne (qu T) 2 :: .ne (qu T) 1 :: .ne (qu T) 0 :: .ne (mi T) 4 :: .is (lo H) 4 :: .ne (qu H) 3 :: pre 3 1 1)) (ht : Tabs 3 val) : Q val := leafR (by omega) h ht [(.c 0), (.c 0), (.c 0), (.c 0), (.c 0), (.c 0), (.c 0), (.c 0), (.c 0), (.c 0), (.c 9)] (by kernel_rfl) (by kernel_rfl) (fun v hG => by kernel_rfl)
theorem r311_63 (val : Nat → Int) (h : Holds val (.is (qu H) 0 :: .ne (qu H) 2 :: .ne (qu H) 1 :: .ne (lo T) 5 :: .ne (qu T) 2 :: .ne (qu T) 1 :: .ne (qu T) 0 :: .ne (mi T) 4 :: .is (lo H) 4 :: .ne (qu H) 3 :: pre 3 1 1)) (ht : Tabs 3 val) : Q val := leafR (by omega) h ht [(mi H), (.c (-1)), (.c 5), (w (.add (.c 8) (lo T))), (.c 5), (w (.add (.c 8) (mi T))), (.c 8), (.c 0), (.c 0), e2, (.c 0)] (by kernel_rfl) (by kernel_rfl) (fun v hG => by kernel_rfl)
theorem r311_64 (val : Nat → Int) (h : Holds val (.ne (qu H) 0 :: .ne (qu H) 2 :: .ne (qu H) 1 :: .ne (lo T) 5 :: .ne (qu T) 2 :: .ne (qu T) 1 :: .ne (qu T) 0 :: .ne (mi T) 4 :: .is (lo H) 4 :: .ne (qu H) 3 :: pre 3 1 1)) (ht : Tabs 3 val) : Q val := leafR (by omega) h ht [(mi H), (.c (-1)), (.c 5), (w (.add (.c 8) (lo T))), (.c 5), (w (.add (.c 8) (mi T))), (.c 8), (.c 0), (.c 0), e2, (.c 0)] (by kernel_rfl) (by kernel_rfl) (fun v hG => by kernel_rfl)
theorem r311_65 (val : Nat → Int) (h : Holds val (.ne (lo H) 4 :: .ne (qu H) 3 :: pre 3 1 1)) (ht : Tabs 3 val) : Q val := leafR (by omega) h ht [(.c 0), (.c 0), (.c 0), (.c 0), (.c 0), (.c 0), (.c 0), (.c 0), (.c 0), (.c 0), (.c 4)] (by kernel_rfl) (by kernel_rfl) (fun v hG => by kernel_rfl)

theorem r311 : DR 3 1 1 := fun val h ht =>
  by_way (.eq (qu H) (.c 3)) (.is (qu H) 3) (.ne (qu H) 3) (by kernel_rfl) (by kernel_rfl) h
  (fun h => r311_0 val h ht)
  (fun h => by_way (.eq (lo H) (.c 4)) (.is (lo H) 4) (.ne (lo H) 4) (by kernel_rfl) (by kernel_rfl) h
  (fun h => by_way (.eq (mi T) (.c 4)) (.is (mi T) 4) (.ne (mi T) 4) (by kernel_rfl) (by kernel_rfl) h
  (fun h => by_way (.eq (qu T) (.c 0)) (.is (qu T) 0) (.ne (qu T) 0) (by kernel_rfl) (by kernel_rfl) h
  (fun h => by_way (.eq (lo T) (.c 5)) (.is (lo T) 5) (.ne (lo T) 5) (by kernel_rfl) (by kernel_rfl) h
  (fun h => by_way (.eq (qu H) (.c 0)) (.is (qu H) 0) (.ne (qu H) 0) (by kernel_rfl) (by kernel_rfl) h
  (fun h => r311_1 val h ht)
  (fun h => by_way (.eq (qu H) (.c 1)) (.is (qu H) 1) (.ne (qu H) 1) (by kernel_rfl) (by kernel_rfl) h
  (fun h => r311_2 val h ht)
  (fun h => by_way (.eq (qu H) (.c 2)) (.is (qu H) 2) (.ne (qu H) 2) (by kernel_rfl) (by kernel_rfl) h
  (fun h => r311_3 val h ht)
  (fun h => r311_4 val h ht))))
  (fun h => by_way (.eq (qu H) (.c 1)) (.is (qu H) 1) (.ne (qu H) 1) (by kernel_rfl) (by kernel_rfl) h
  (fun h => r311_5 val h ht)
  (fun h => by_way (.eq (qu H) (.c 2)) (.is (qu H) 2) (.ne (qu H) 2) (by kernel_rfl) (by kernel_rfl) h
  (fun h => r311_6 val h ht)
  (fun h => by_way (.eq (qu H) (.c 0)) (.is (qu H) 0) (.ne (qu H) 0) (by kernel_rfl) (by kernel_rfl) h
  (fun h => r311_7 val h ht)
  (fun h => r311_8 val h ht)))))
  (fun h => by_way (.eq (qu T) (.c 1)) (.is (qu T) 1) (.ne (qu T) 1) (by kernel_rfl) (by kernel_rfl) h
  (fun h => by_way (.eq (lo T) (.c 5)) (.is (lo T) 5) (.ne (lo T) 5) (by kernel_rfl) (by kernel_rfl) h
  (fun h => by_way (.eq (qu H) (.c 0)) (.is (qu H) 0) (.ne (qu H) 0) (by kernel_rfl) (by kernel_rfl) h
  (fun h => r311_9 val h ht)
  (fun h => by_way (.eq (qu H) (.c 1)) (.is (qu H) 1) (.ne (qu H) 1) (by kernel_rfl) (by kernel_rfl) h
  (fun h => r311_10 val h ht)
  (fun h => by_way (.eq (qu H) (.c 2)) (.is (qu H) 2) (.ne (qu H) 2) (by kernel_rfl) (by kernel_rfl) h
  (fun h => r311_11 val h ht)
  (fun h => r311_12 val h ht))))
  (fun h => by_way (.eq (qu H) (.c 1)) (.is (qu H) 1) (.ne (qu H) 1) (by kernel_rfl) (by kernel_rfl) h
  (fun h => r311_13 val h ht)
  (fun h => by_way (.eq (qu H) (.c 2)) (.is (qu H) 2) (.ne (qu H) 2) (by kernel_rfl) (by kernel_rfl) h
  (fun h => r311_14 val h ht)
  (fun h => by_way (.eq (qu H) (.c 0)) (.is (qu H) 0) (.ne (qu H) 0) (by kernel_rfl) (by kernel_rfl) h
  (fun h => r311_15 val h ht)
  (fun h => r311_16 val h ht)))))
  (fun h => by_way (.eq (qu T) (.c 2)) (.is (qu T) 2) (.ne (qu T) 2) (by kernel_rfl) (by kernel_rfl) h
  (fun h => by_way (.eq (lo T) (.c 5)) (.is (lo T) 5) (.ne (lo T) 5) (by kernel_rfl) (by kernel_rfl) h
  (fun h => by_way (.eq (qu H) (.c 0)) (.is (qu H) 0) (.ne (qu H) 0) (by kernel_rfl) (by kernel_rfl) h
  (fun h => r311_17 val h ht)
  (fun h => by_way (.eq (qu H) (.c 1)) (.is (qu H) 1) (.ne (qu H) 1) (by kernel_rfl) (by kernel_rfl) h
  (fun h => r311_18 val h ht)
  (fun h => by_way (.eq (qu H) (.c 2)) (.is (qu H) 2) (.ne (qu H) 2) (by kernel_rfl) (by kernel_rfl) h
  (fun h => r311_19 val h ht)
  (fun h => r311_20 val h ht))))
  (fun h => by_way (.eq (qu H) (.c 1)) (.is (qu H) 1) (.ne (qu H) 1) (by kernel_rfl) (by kernel_rfl) h
  (fun h => r311_21 val h ht)
  (fun h => by_way (.eq (qu H) (.c 2)) (.is (qu H) 2) (.ne (qu H) 2) (by kernel_rfl) (by kernel_rfl) h
  (fun h => r311_22 val h ht)
  (fun h => by_way (.eq (qu H) (.c 0)) (.is (qu H) 0) (.ne (qu H) 0) (by kernel_rfl) (by kernel_rfl) h
  (fun h => r311_23 val h ht)
  (fun h => r311_24 val h ht)))))
  (fun h => by_way (.eq (lo T) (.c 5)) (.is (lo T) 5) (.ne (lo T) 5) (by kernel_rfl) (by kernel_rfl) h
  (fun h => by_way (.eq (qu H) (.c 0)) (.is (qu H) 0) (.ne (qu H) 0) (by kernel_rfl) (by kernel_rfl) h
  (fun h => r311_25 val h ht)
  (fun h => by_way (.eq (qu H) (.c 1)) (.is (qu H) 1) (.ne (qu H) 1) (by kernel_rfl) (by kernel_rfl) h
  (fun h => r311_26 val h ht)
  (fun h => by_way (.eq (qu H) (.c 2)) (.is (qu H) 2) (.ne (qu H) 2) (by kernel_rfl) (by kernel_rfl) h
  (fun h => r311_27 val h ht)
  (fun h => r311_28 val h ht))))
  (fun h => by_way (.eq (qu H) (.c 1)) (.is (qu H) 1) (.ne (qu H) 1) (by kernel_rfl) (by kernel_rfl) h
  (fun h => r311_29 val h ht)
  (fun h => by_way (.eq (qu H) (.c 2)) (.is (qu H) 2) (.ne (qu H) 2) (by kernel_rfl) (by kernel_rfl) h
  (fun h => r311_30 val h ht)
  (fun h => by_way (.eq (qu H) (.c 0)) (.is (qu H) 0) (.ne (qu H) 0) (by kernel_rfl) (by kernel_rfl) h
  (fun h => r311_31 val h ht)
  (fun h => r311_32 val h ht))))))))
  (fun h => by_way (.eq (qu T) (.c 0)) (.is (qu T) 0) (.ne (qu T) 0) (by kernel_rfl) (by kernel_rfl) h
  (fun h => by_way (.eq (lo T) (.c 5)) (.is (lo T) 5) (.ne (lo T) 5) (by kernel_rfl) (by kernel_rfl) h
  (fun h => by_way (.eq (qu H) (.c 0)) (.is (qu H) 0) (.ne (qu H) 0) (by kernel_rfl) (by kernel_rfl) h
  (fun h => r311_33 val h ht)
  (fun h => by_way (.eq (qu H) (.c 1)) (.is (qu H) 1) (.ne (qu H) 1) (by kernel_rfl) (by kernel_rfl) h
  (fun h => r311_34 val h ht)
  (fun h => by_way (.eq (qu H) (.c 2)) (.is (qu H) 2) (.ne (qu H) 2) (by kernel_rfl) (by kernel_rfl) h
  (fun h => r311_35 val h ht)
  (fun h => r311_36 val h ht))))
  (fun h => by_way (.eq (qu H) (.c 1)) (.is (qu H) 1) (.ne (qu H) 1) (by kernel_rfl) (by kernel_rfl) h
  (fun h => r311_37 val h ht)
  (fun h => by_way (.eq (qu H) (.c 2)) (.is (qu H) 2) (.ne (qu H) 2) (by kernel_rfl) (by kernel_rfl) h
  (fun h => r311_38 val h ht)
  (fun h => by_way (.eq (qu H) (.c 0)) (.is (qu H) 0) (.ne (qu H) 0) (by kernel_rfl) (by kernel_rfl) h
  (fun h => r311_39 val h ht)
  (fun h => r311_40 val h ht)))))
  (fun h => by_way (.eq (qu T) (.c 1)) (.is (qu T) 1) (.ne (qu T) 1) (by kernel_rfl) (by kernel_rfl) h
  (fun h => by_way (.eq (lo T) (.c 5)) (.is (lo T) 5) (.ne (lo T) 5) (by kernel_rfl) (by kernel_rfl) h
  (fun h => by_way (.eq (qu H) (.c 0)) (.is (qu H) 0) (.ne (qu H) 0) (by kernel_rfl) (by kernel_rfl) h
  (fun h => r311_41 val h ht)
  (fun h => by_way (.eq (qu H) (.c 1)) (.is (qu H) 1) (.ne (qu H) 1) (by kernel_rfl) (by kernel_rfl) h
  (fun h => r311_42 val h ht)
  (fun h => by_way (.eq (qu H) (.c 2)) (.is (qu H) 2) (.ne (qu H) 2) (by kernel_rfl) (by kernel_rfl) h
  (fun h => r311_43 val h ht)
  (fun h => r311_44 val h ht))))
  (fun h => by_way (.eq (qu H) (.c 1)) (.is (qu H) 1) (.ne (qu H) 1) (by kernel_rfl) (by kernel_rfl) h
  (fun h => r311_45 val h ht)
  (fun h => by_way (.eq (qu H) (.c 2)) (.is (qu H) 2) (.ne (qu H) 2) (by kernel_rfl) (by kernel_rfl) h
  (fun h => r311_46 val h ht)
  (fun h => by_way (.eq (qu H) (.c 0)) (.is (qu H) 0) (.ne (qu H) 0) (by kernel_rfl) (by kernel_rfl) h
  (fun h => r311_47 val h ht)
  (fun h => r311_48 val h ht)))))
  (fun h => by_way (.eq (qu T) (.c 2)) (.is (qu T) 2) (.ne (qu T) 2) (by kernel_rfl) (by kernel_rfl) h
  (fun h => by_way (.eq (lo T) (.c 5)) (.is (lo T) 5) (.ne (lo T) 5) (by kernel_rfl) (by kernel_rfl) h
  (fun h => by_way (.eq (qu H) (.c 0)) (.is (qu H) 0) (.ne (qu H) 0) (by kernel_rfl) (by kernel_rfl) h
  (fun h => r311_49 val h ht)
  (fun h => by_way (.eq (qu H) (.c 1)) (.is (qu H) 1) (.ne (qu H) 1) (by kernel_rfl) (by kernel_rfl) h
  (fun h => r311_50 val h ht)
  (fun h => by_way (.eq (qu H) (.c 2)) (.is (qu H) 2) (.ne (qu H) 2) (by kernel_rfl) (by kernel_rfl) h
  (fun h => r311_51 val h ht)
  (fun h => r311_52 val h ht))))
  (fun h => by_way (.eq (qu H) (.c 1)) (.is (qu H) 1) (.ne (qu H) 1) (by kernel_rfl) (by kernel_rfl) h
  (fun h => r311_53 val h ht)
  (fun h => by_way (.eq (qu H) (.c 2)) (.is (qu H) 2) (.ne (qu H) 2) (by kernel_rfl) (by kernel_rfl) h
  (fun h => r311_54 val h ht)
  (fun h => by_way (.eq (qu H) (.c 0)) (.is (qu H) 0) (.ne (qu H) 0) (by kernel_rfl) (by kernel_rfl) h
  (fun h => r311_55 val h ht)
  (fun h => r311_56 val h ht)))))
  (fun h => by_way (.eq (lo T) (.c 5)) (.is (lo T) 5) (.ne (lo T) 5) (by kernel_rfl) (by kernel_rfl) h
  (fun h => by_way (.eq (qu H) (.c 0)) (.is (qu H) 0) (.ne (qu H) 0) (by kernel_rfl) (by kernel_rfl) h
  (fun h => r311_57 val h ht)
  (fun h => by_way (.eq (qu H) (.c 1)) (.is (qu H) 1) (.ne (qu H) 1) (by kernel_rfl) (by kernel_rfl) h
  (fun h => r311_58 val h ht)
  (fun h => by_way (.eq (qu H) (.c 2)) (.is (qu H) 2) (.ne (qu H) 2) (by kernel_rfl) (by kernel_rfl) h
  (fun h => r311_59 val h ht)
  (fun h => r311_60 val h ht))))
  (fun h => by_way (.eq (qu H) (.c 1)) (.is (qu H) 1) (.ne (qu H) 1) (by kernel_rfl) (by kernel_rfl) h
  (fun h => r311_61 val h ht)
  (fun h => by_way (.eq (qu H) (.c 2)) (.is (qu H) 2) (.ne (qu H) 2) (by kernel_rfl) (by kernel_rfl) h
  (fun h => r311_62 val h ht)
  (fun h => by_way (.eq (qu H) (.c 0)) (.is (qu H) 0) (.ne (qu H) 0) (by kernel_rfl) (by kernel_rfl) h
  (fun h => r311_63 val h ht)
  (fun h => r311_64 val h ht)))))))))
  (fun h => r311_65 val h ht))

theorem r301_0 (val : Nat → Int) (h : Holds val (.is (qu H) 3 :: pre 3 0 1)) (ht : Tabs 3 val) : Q val := leafR (by omega) h ht [(mi H), (w (.add (.c 8) (lo H))), (.c 0), (.c 0), (.c 0), (.c 0), (.c 0), (.c 0), (.c 0), e1, (.c 0)] (by kernel_rfl) (by kernel_rfl) (fun v hG => by kernel_rfl)
theorem r301_1 (val : Nat → Int) (h : Holds val (.is (qu H) 0 :: .is (lo T) 5 :: .is (qu T) 0 :: .is (mi T) 4 :: .is (lo H) 4 :: .ne (qu H) 3 :: pre 3 0 1)) (ht : Tabs 3 val) : Q val := leafR (by omega) h ht [(.c 0), (.c 0), (.c 0), (.c 0), (.c 0), (.c 0), (.c 0), (.c 0), (.c 0), (.c 0), (.c 4)] (by kernel_rfl) (by kernel_rfl) (fun v hG => by kernel_rfl)
theorem r301_2 (val : Nat → Int) (h : Holds val (.is (qu H) 1 :: .ne (qu H) 0 :: .is (lo T) 5 :: .is (qu T) 0 :: .is (mi T) 4 :: .is (lo H) 4 :: .ne (qu H) 3 :: pre 3 0 1)) (ht : Tabs 3 val) : Q val := leafR (by omega) h ht [(mi H), (.c (-1)), (.c 5), (.c 13), (.c 0), (.c 0), (.c 0), (.a 7), (.c 0), (w (.add e2 (.c 1))), (.c 0)] (by kernel_rfl) (by kernel_rfl) (fun v hG => by kernel_rfl)
theorem r301_3 (val : Nat → Int) (h : Holds val (.is (qu H) 2 :: .ne (qu H) 1 :: .ne (qu H) 0 :: .is (lo T) 5 :: .is (qu T) 0 :: .is (mi T) 4 :: .is (lo H) 4 :: .ne (qu H) 3 :: pre 3 0 1)) (ht : Tabs 3 val) : Q val := leafR (by omega) h ht [(.c 0), (.c 0), (.c 0), (.c 0), (.c 0), (.c 0), (.c 0), (.c 0), (.c 0), (.c 0), (.c 9)] (by kernel_rfl) (by kernel_rfl) (fun v hG => by kernel_rfl)
theorem r301_4 (val : Nat → Int) (h : Holds val (.ne (qu H) 2 :: .ne (qu H) 1 :: .ne (qu H) 0 :: .is (lo T) 5 :: .is (qu T) 0 :: .is (mi T) 4 :: .is (lo H) 4 :: .ne (qu H) 3 :: pre 3 0 1)) (ht : Tabs 3 val) : Q val := leafR (by omega) h ht [(mi H), (.c (-1)), (.c 5), (.c 13), (.c 0), (.c 0), (.c 0), (.c 0), (.c 0), e2, (.c 0)] (by kernel_rfl) (by kernel_rfl) (fun v hG => by kernel_rfl)
theorem r301_5 (val : Nat → Int) (h : Holds val (.is (qu H) 1 :: .ne (lo T) 5 :: .is (qu T) 0 :: .is (mi T) 4 :: .is (lo H) 4 :: .ne (qu H) 3 :: pre 3 0 1)) (ht : Tabs 3 val) : Q val := leafR (by omega) h ht [(mi H), (.c (-1)), (.c 5), (w (.add (.c 8) (lo T))), (.c 0), (.c 0), (.c 0), (.a 7), (.c 0), (w (.add e2 (.c 1))), (.c 0)] (by kernel_rfl) (by kernel_rfl) (fun v hG => by kernel_rfl)
theorem r301_6 (val : Nat → Int) (h : Holds val (.is (qu H) 2 :: .ne (qu H) 1 :: .ne (lo T) 5 :: .is (qu T) 0 :: .is (mi T) 4 :: .is (lo H) 4 :: .ne (qu H) 3 :: pre 3 0 1)) (ht : Tabs 3 val) : Q val := leafR (by omega) h ht [(.c 0), (.c 0), (.c 0), (.c 0), (.c 0), (.c 0), (.c 0), (.c 0), (.c 0), (.c 0), (.c 9)] (by kernel_rfl) (by kernel_rfl) (fun v hG => by kernel_rfl)
theorem r301_7 (val : Nat → Int) (h : Holds val (.is (qu H) 0 :: .ne (qu H) 2 :: .ne (qu H) 1 :: .ne (lo T) 5 :: .is (qu T) 0 :: .is (mi T) 4 :: .is (lo H) 4 :: .ne (qu H) 3 :: pre 3 0 1)) (ht : Tabs 3 val) : Q val := leafR (by omega) h ht [(mi H), (.c (-1)), (.c 5), (w (.add (.c 8) (lo T))), (.c 0), (.c 0), (.c 0), (.c 0), (.c 0), e2, (.c 0)] (by kernel_rfl) (by kernel_rfl) (fun v hG => by kernel_rfl)
theorem r301_8 (val : Nat → Int) (h : Holds val (.ne (qu H) 0 :: .ne (qu H) 2 :: .ne (qu H) 1 :: .ne (lo T) 5 :: .is (qu T) 0 :: .is (mi T) 4 :: .is (lo H) 4 :: .ne (qu H) 3 :: pre 3 0 1)) (ht : Tabs 3 val) : Q val := leafR (by omega) h ht [(mi H), (.c (-1)), (.c 5), (w (.add (.c 8) (lo T))), (.c 0), (.c 0), (.c 0), (.c 0), (.c 0), e2, (.c 0)] (by kernel_rfl) (by kernel_rfl) (fun v hG => by kernel_rfl)
theorem r301_9 (val : Nat → Int) (h : Holds val (.ne (qu T) 0 :: .is (mi T) 4 :: .is (lo H) 4 :: .ne (qu H) 3 :: pre 3 0 1)) (ht : Tabs 3 val) : Q val := leafR (by omega) h ht [(.c 0), (.c 0), (.c 0), (.c 0), (.c 0), (.c 0), (.c 0), (.c 0), (.c 0), (.c 0), (.c 4)] (by kernel_rfl) (by kernel_rfl) (fun v hG => by kernel_rfl)
theorem r301_10 (val : Nat → Int) (h : Holds val (.is (qu H) 0 :: .is (lo T) 5 :: .is (qu T) 0 :: .ne (mi T) 4 :: .is (lo H) 4 :: .ne (qu H) 3 :: pre 3 0 1)) (ht : Tabs 3 val) : Q val := leafR (by omega) h ht [(.c 0), (.c 0), (.c 0), (.c 0), (.c 0), (.c 0), (.c 0), (.c 0), (.c 0), (.c 0), (.c 4)] (by kernel_rfl) (by kernel_rfl) (fun v hG => by kernel_rfl)
theorem r301_11 (val : Nat → Int) (h : Holds val (.is (qu H) 1 :: .ne (qu H) 0 :: .is (lo T) 5 :: .is (qu T) 0 :: .ne (mi T) 4 :: .is (lo H) 4 :: .ne (qu H) 3 :: pre 3 0 1)) (ht : Tabs 3 val) : Q val := leafR (by omega) h ht [(mi H), (.c (-1)), (.c 5), (.c 13), (.c 5), (w (.add (.c 0) (mi T))), (.c 1), (.a 7), (.c 0), (w (.add e2 (.c 1))), (.c 0)] (by kernel_rfl) (by kernel_rfl) (fun v hG => by kernel_rfl)
theorem r301_12 (val : Nat → Int) (h : Holds val (.is (qu H) 2 :: .ne (qu H) 1 :: .ne (qu H) 0 :: .is (lo T) 5 :: .is (qu T) 0 :: .ne (mi T) 4 :: .is (lo H) 4 :: .ne (qu H) 3 :: pre 3 0 1)) (ht : Tabs 3 val) : Q val := leafR (by omega) h ht [(.c 0), (.c 0), (.c 0), (.c 0), (.c 0), (.c 0), (.c 0), (.c 0), (.c 0), (.c 0), (.c 9)] (by kernel_rfl) (by kernel_rfl) (fun v hG => by kernel_rfl)
theorem r301_13 (val : Nat → Int) (h : Holds val (.ne (qu H) 2 :: .ne (qu H) 1 :: .ne (qu H) 0 :: .is (lo T) 5 :: .is (qu T) 0 :: .ne (mi T) 4 :: .is (lo H) 4 :: .ne (qu H) 3 :: pre 3 0 1)) (ht : Tabs 3 val) : Q val := leafR (by omega) h ht [(mi H), (.c (-1)), (.c 5), (.c 13), (.c 5), (w (.add (.c 0) (mi T))), (.c 1), (.c 0), (.c 0), e2, (.c 0)] (by kernel_rfl) (by kernel_rfl) (fun v hG => by kernel_rfl)
theorem r301_14 (val : Nat → Int) (h : Holds val (.is (qu H) 1 :: .ne (lo T) 5 :: .is (qu T) 0 :: .ne (mi T) 4 :: .is (lo H) 4 :: .ne (qu H) 3 :: pre 3 0 1)) (ht : Tabs 3 val) : Q val := leafR (by omega) h ht [(mi H), (.c (-1)), (.c 5), (w (.add (.c 8) (lo T))), (.c 5), (w (.add (.c 0) (mi T))), (.c 1), (.a 7), (.c 0), (w (.add e2 (.c 1))), (.c 0)] (by kernel_rfl) (by kernel_rfl) (fun v hG => by kernel_rfl)
theorem r301_15 (val : Nat → Int) (h : Holds val (.is (qu H) 2 :: .ne (qu H) 1 :: .ne (lo T) 5 :: .is (qu T) 0 :: .ne (mi T) 4 :: .is (lo H) 4 :: .ne (qu H) 3 :: pre 3 0 1)) (ht : Tabs 3 val) : Q val := leafR (by omega) h ht [(.c 0), (.c 0), (.c 0), (.c 0), (.c 0), (.c 0), (.c 0), (.c 0), (.c 0), (.c 0), (.c 9)] (by kernel_rfl) (by kernel_rfl) (fun v hG => by kernel_rfl)
theorem r301_16 (val : Nat → Int) (h : Holds val (.is (qu H) 0 :: .ne (qu H) 2 :: .ne (qu H) 1 :: .ne (lo T) 5 :: .is (qu T) 0 :: .ne (mi T) 4 :: .is (lo H) 4 :: .ne (qu H) 3 :: pre 3 0 1)) (ht : Tabs 3 val) : Q val := leafR (by omega) h ht [(mi H), (.c (-1)), (.c 5), (w (.add (.c 8) (lo T))), (.c 5), (w (.add (.c 0) (mi T))), (.c 1), (.c 0), (.c 0), e2, (.c 0)] (by kernel_rfl) (by kernel_rfl) (fun v hG => by kernel_rfl)
theorem r301_17 (val : Nat → Int) (h : Holds val (.ne (qu H) 0 :: .ne (qu H) 2 :: .ne (qu H) 1 :: .ne (lo T) 5 :: .is (qu T) 0 :: .ne (mi T) 4 :: .is (lo H) 4 :: .ne (qu H) 3 :: pre 3 0 1)) (ht : Tabs 3 val) : Q val := leafR (by omega) h ht [(mi H), (.c (-1)), (.c 5), (w (.add (.c 8) (lo T))), (.c 5), (w (.add (.c 0) (mi T))), (.c 1), (.c 0), (.c 0), e2, (.c 0)] (by kernel_rfl) (by kernel_rfl) (fun v hG => by kernel_rfl)
theorem r301_18 (val : Nat → Int) (h : Holds val (.is (qu H) 0 :: .is (lo T) 5 :: .is (qu T) 1 :: .ne (qu T) 0 :: .ne (mi T) 4 :: .is (lo H) 4 :: .ne (qu H) 3 :: pre 3 0 1)) (ht : Tabs 3 val) : Q val := leafR (by omega) h ht [(.c 0), (.c 0), (.c 0), (.c 0), (.c 0), (.c 0), (.c 0), (.c 0), (.c 0), (.c 0), (.c 4)] (by kernel_rfl) (by kernel_rfl) (fun v hG => by kernel_rfl)
theorem r301_19 (val : Nat → Int) (h : Holds val (.is (qu H) 1 :: .ne (qu H) 0 :: .is (lo T) 5 :: .is (qu T) 1 :: .ne (qu T) 0 :: .ne (mi T) 4 :: .is (lo H) 4 :: .ne (qu H) 3 :: pre 3 0 1)) (ht : Tabs 3 val) : Q val := leafR (by omega) h ht [(mi H), (.c (-1)), (.c 5), (.c 13), (.c 5), (w (.add (.c 0) (mi T))), (.c 2), (.a 7), (.c 0), (w (.add e2 (.c 1))), (.c 0)] (by kernel_rfl) (by kernel_rfl) (fun v hG => by kernel_rfl)
theorem r301_20 (val : Nat → Int) (h : Holds val (.is (qu H) 2 :: .ne (qu H) 1 :: .ne (qu H) 0 :: .is (lo T) 5 :: .is (qu T) 1 :: .ne (qu T) 0 :: .ne (mi T) 4 :: .is (lo H) 4 :: .ne (qu H) 3 :: pre 3 0 1)) (ht : Tabs 3 val) : Q val := leafR (by omega) h ht [(.c 0), (.c 0), (.c 0), (.c 0), (.c 0), (.c 0), (.c 0), (.c 0), (.c 0), (.c 0), (.c 9)] (by kernel_rfl) (by kernel_rfl) (fun v hG => by kernel_rfl)
theorem r301_21 (val : Nat → Int) (h : Holds val (.ne (qu H) 2 :: .ne (qu H) 1 :: .ne (qu H) 0 :: .is (lo T) 5 :: .is (qu T) 1 :: .ne (qu T) 0 :: .ne (mi T) 4 :: .is (lo H) 4 :: .ne (qu H) 3 :: pre 3 0 1)) (ht : Tabs 3 val) : Q val := leafR (by omega) h ht [(mi H), (.c (-1)), (.c 5), (.c 13), (.c 5), (w (.add (.c 0) (mi T))), (.c 2), (.c 0), (.c 0), e2, (.c 0)] (by kernel_rfl) (by kernel_rfl) (fun v hG => by kernel_rfl)
theorem r301_22 (val : Nat → Int) (h : Holds val (.is (qu H) 1 :: .ne (lo T) 5 :: .is (qu T) 1 :: .ne (qu T) 0 :: .ne (mi T) 4 :: .is (lo H) 4 :: .ne (qu H) 3 :: pre 3 0 1)) (ht : Tabs 3 val) : Q val := leafR (by omega) h ht [(mi H), (.c (-1)), (.c 5), (w (.add (.c 8) (lo T))), (.c 5), (w (.add (.c 0) (mi T))), (.c 2), (.a 7), (.c 0), (w (.add e2 (.c 1))), (.c 0)] (by kernel_rfl) (by kernel_rfl) (fun v hG => by kernel_rfl)
theorem r301_23 (val : Nat → Int) (h : Holds val (.is (qu H) 2 :: .ne (qu H) 1 :: .ne (lo T) 5 :: .is (qu T) 1 :: .ne (qu T) 0 :: .ne (mi T) 4 :: .is (lo H) 4 :: .ne (qu H) 3 :: pre 3 0 1)) (ht : Tabs 3 val) : Q val := leafR (by omega) h ht [(.c 0), (.c 0), (.c 0), (.c 0), (.c 0), (.c 0), (.c 0), (.c 0), (.c 0), (.c 0), (.c 9)] (by kernel_rfl) (by kernel_rfl) (fun v hG => by kernel_rfl)
theorem r301_24 (val : Nat → Int) (h : Holds val (.is (qu H) 0 :: .ne (qu H) 2 :: .ne (qu H) 1 :: .ne (lo T) 5 :: .is (qu T) 1 :: .ne (qu T) 0 :: .ne (mi T) 4 :: .is (lo H) 4 :: .ne (qu H) 3 :: pre 3 0 1)) (ht : Tabs 3 val) : Q val := leafR (by omega) h ht [(mi H), (.c (-1)), (.c 5), (w (.add (.c 8) (lo T))), (.c 5), (w (.add (.c 0) (mi T))), (.c 2), (.c 0), (.c 0), e2, (.c 0)] (by kernel_rfl) (by kernel_rfl) (fun v hG => by kernel_rfl)
theorem r301_25 (val : Nat → Int) (h : Holds val (.ne (qu H) 0 :: .ne (qu H) 2 :: .ne (qu H) 1 :: .ne (lo T) 5 :: .is (qu T) 1 :: .ne (qu T) 0 :: .ne (mi T) 4 :: .is (lo H) 4 :: .ne (qu H) 3 :: pre 3 0 1)) (ht : Tabs 3 val) : Q val := leafR (by omega) h ht [(mi H), (.c (-1)), (.c 5), (w (.add (.c 8) (lo T))), (.c 5), (w (.add (.c 0) (mi T))), (.c 2), (.c 0), (.c 0), e2, (.c 0)] (by kernel_rfl) (by kernel_rfl) (fun v hG => by kernel_rfl)
theorem r301_26 (val : Nat → Int) (h : Holds val (.is (qu H) 0 :: .is (lo T) 5 :: .is (qu T) 2 :: .ne (qu T) 1 :: .ne (qu T) 0 :: .ne (mi T) 4 :: .is (lo H) 4 :: .ne (qu H) 3 :: pre 3 0 1)) (ht : Tabs 3 val) : Q val := leafR (by omega) h ht [(.c 0), (.c 0), (.c 0), (.c 0), (.c 0), (.c 0), (.c 0), (.c 0), (.c 0), (.c 0), (.c 4)] (by kernel_rfl) (by kernel_rfl) (fun v hG => by kernel_rfl)
theorem r301_27 (val : Nat → Int) (h : Holds val (.is (qu H) 1 :: .ne (qu H) 0 :: .is (lo T) 5 :: .is (qu T) 2 :: .ne (qu T) 1 :: .ne (qu T) 0 :: .ne (mi T) 4 :: .is (lo H) 4 :: .ne (qu H) 3 :: pre 3 0 1)) (ht : Tabs 3 val) : Q val := leafR (by omega) h ht [(mi H), (.c (-1)), (.c 5), (.c 13), (.c 5), (w (.add (.c 0) (mi T))), (.c 4), (.a 7), (.c 0), (w (.add e2 (.c 1))), (.c 0)] (by kernel_rfl) (by kernel_rfl) (fun v hG => by kernel_rfl)
theorem r301_28 (val : Nat → Int) (h : Holds val (.is (qu H) 2 :: .ne (qu H) 1 :: .ne (qu H) 0 :: .is (lo T) 5 :: .is (qu T) 2 :: .ne (qu T) 1 :: .ne (qu T) 0 :: .ne (mi T) 4 :: .is (lo H) 4 :: .ne (qu H) 3 :: pre 3 0 1)) (ht : Tabs 3 val) : Q val := leafR (by omega) h ht [(.c 0), (.c 0), (.c 0), (.c 0), (.c 0), (.c 0), (.c 0), (.c 0), (.c 0), (.c 0), (.c 9)] (by kernel_rfl) (by kernel_rfl) (fun v hG => by kernel_rfl)
theorem r301_29 (val : Nat → Int) (h : Holds val (.ne (qu H) 2 :: .ne (qu H) 1 :: .ne (qu H) 0 :: .is (lo T) 5 :: .is (qu T) 2 :: .ne (qu T) 1 :: .ne (qu T) 0 :: .ne (mi T) 4 :: .is (lo H) 4 :: .ne (qu H) 3 :: pre 3 0 1)) (ht : Tabs 3 val) : Q val := leafR (by omega) h ht [(mi H), (.c (-1)), (.c 5), (.c 13), (.c 5), (w (.add (.c 0) (mi T))), (.c 4), (.c 0), (.c 0), e2, (.c 0)] (by kernel_rfl) (by kernel_rfl) (fun v hG => by kernel_rfl)
theorem r301_30 (val : Nat → Int) (h : Holds val (.is (qu H) 1 :: .ne (lo T) 5 :: .is (qu T) 2 :: .ne (qu T) 1 :: .ne (qu T) 0 :: .ne (mi T) 4 :: .is (lo H) 4 :: .ne (qu H) 3 :: pre 3 0 1)) (ht : Tabs 3 val) : Q val := leafR (by omega) h ht [(mi H), (.c (-1)), (.c 5), (w (.add (.c 8) (lo T))), (.c 5), (w (.add (.c 0) (mi T))), (.c 4), (.a 7), (.c 0), (w (.add e2 (.c 1))), (.c 0)] (by kernel_rfl) (by kernel_rfl) (fun v hG => by kernel_rfl)
theorem r301_31 (val : Nat → Int) (h : Holds val (.is (qu H) 2 :: .ne (qu H) 1 :: .ne (lo T) 5 :: .is (qu T) 2 :: .ne (qu T) 1 :: .ne (qu T) 0 :: .ne (mi T) 4 :: .is (lo H) 4 :: .ne (qu H) 3 :: pre 3 0 1)) (ht : Tabs 3 val) : Q val := leafR (by omega) h ht [(.c 0), (.c 0), (.c 0), (.c 0), (.c 0), (.c 0), (.c 0), (.c 0), (.c 0), (.c 0), (.c 9)] (by kernel_rfl) (by kernel_rfl) (fun v hG => by kernel_rfl)
theorem r301_32 (val : Nat → Int) (h : Holds val (.is (qu H) 0 :: .ne (qu H) 2 :: .ne (qu H) 1 :: .ne (lo T) 5 :: .is (qu T) 2 :: .ne (qu T) 1 :: .ne (qu T) 0 :: .ne (mi T) 4 :: .is (lo H) 4 :: .ne (qu H) 3 :: pre 3 0 1)) (ht : Tabs 3 val) : Q val := leafR (by omega) h ht [(mi H), (.c (-1)), (.c 5), (w (.add (.c 8) (lo T))), (.c 5), (w (.add (.c 0) (mi T))), (.c 4), (.c 0), (.c 0), e2, (.c 0)] (by kernel_rfl) (by kernel_rfl) (fun v hG => by kernel_rfl)
theorem r301_33 (val : Nat → Int) (h : Holds val (.ne (qu H) 0 :: .ne (qu H) 2 :: .ne (qu H) 1 :: .ne (lo T) 5 :: .is (qu T) 2 :: .ne (qu T) 1 :: .ne (qu T) 0 :: .ne (mi T) 4 :: .is (lo H) 4 :: .ne (qu H) 3 :: pre 3 0 1)) (ht : Tabs 3 val) : Q val := leafR (by omega) h ht [(mi H), (.c (-1)), (.c 5), (w (.add (.c 8) (lo T))), (.c 5), (w (.add (.c 0) (mi T))), (.c 4), (.c 0), (.c 0), e2, (.c 0)] (by kernel_rfl) (by kernel_rfl) (fun v hG => by kernel_rfl)
theorem r301_34 (val : Nat → Int) (h : Holds val (.is (qu H) 0 :: .is (lo T) 5 :: .ne (qu T) 2 :: .ne (qu T) 1 :: .ne (qu T) 0 :: .ne (mi T) 4 :: .is (lo H) 4 :: .ne (qu H) 3 :: pre 3 0 1)) (ht : Tabs 3 val) : Q val := leafR (by omega) h ht [(.c 0), (.c 0), (.c 0), (.c 0), (.c 0), (.c 0), (.c 0), (.c 0), (.c 0), (.c 0), (.c 4)] (by kernel_rfl) (by kernel_rfl) (fun v hG => by kernel_rfl)
theorem r301_35 (val : Nat → Int) (h : Holds val (.is (qu H) 1 :: .ne (qu H) 0 :: .is (lo T) 5 :: .ne (qu T) 2 :: .ne (qu T) 1 :: .ne (qu T) 0 :: .ne (mi T) 4 :: .is (lo H) 4 :: .ne (qu H) 3 :: pre 3 0 1)) (ht : Tabs 3 val) : Q val := leafR (by omega) h ht [(mi H), (.c (-1)), (.c 5), (.c 13), (.c 5), (w (.add (.c 0) (mi T))), (.c 8), (.a 7), (.c 0), (w (.add e2 (.c 1))), (.c 0)] (by kernel_rfl) (by kernel_rfl) (fun v hG => by kernel_rfl)
theorem r301_36 (val : Nat → Int) (h : Holds val (.is (qu H) 2 :: .ne (qu H) 1 :: .ne (qu H) 0 :: .is (lo T) 5 :: .ne (qu T) 2 :: .ne (qu T) 1 :: .ne (qu T) 0 :: .ne (mi T) 4 :: .is (lo H) 4 :: .ne (qu H) 3 :: pre 3 0 1)) (ht : Tabs 3 val) : Q val := leafR (by omega) h ht [(.c 0), (.c 0), (.c 0), (.c 0), (.c 0), (.c 0), (.c 0), (.c 0), (.c 0), (.c 0), (.c 9)] (by kernel_rfl) (by kernel_rfl) (fun v hG => by kernel_rfl)
theorem r301_37 (val : Nat → Int) (h : Holds val (.ne (qu H) 2 :: .ne (qu H) 1 :: .ne (qu H) 0 :: .is (lo T) 5 :: .ne (qu T) 2 :: .ne (qu T) 1 :: .ne (qu T) 0 :: .ne (mi T) 4 :: .is (lo H) 4 :: .ne (qu H) 3 :: pre 3 0 1)) (ht : Tabs 3 val) : Q val := leafR (by omega) h ht [(mi H), (.c (-1)), (.c 5), (.c 13), (.c 5), (w (.add (.c 0) (mi T))), (.c 8), (.c 0), (.c 0), e2, (.c 0)] (by kernel_rfl) (by kernel_rfl) (fun v hG => by kernel_rfl)
theorem r301_38 (val : Nat → Int) (h : Holds val (.is (qu H) 1 :: .ne (lo T) 5 :: .ne (qu T) 2 :: .ne (qu T) 1 :: .ne (qu T) 0 :: .ne (mi T) 4 :: .is (lo H) 4 :: .ne (qu H) 3 :: pre 3 0 1)) (ht : Tabs 3 val) : Q val := leafR (by omega) h ht [(mi H), (.c (-1)), (.c 5), (w (.add (.c 8) (lo T))), (.c 5), (w (.add (.c 0) (mi T))), (.c 8), (.a 7), (.c 0), (w (.add e2 (.c 1))), (.c 0)] (by kernel_rfl) (by kernel_rfl) (fun v hG => by kernel_rfl)
theorem r301_39 (val : Nat → Int) (h : Holds val (.is (qu H) 2 :: .ne (qu H) 1 :: .ne (lo T) 5 :: .ne (qu T) 2 :: .ne (qu T) 1 :: .ne (qu T) 0 :: .ne (mi T) 4 :: .is (lo H) 4 :: .ne (qu H) 3 :: pre 3 0 1)) (ht : Tabs 3 val) : Q val := leafR (by omega) h ht [(.c 0), (.c 0), (.c 0), (.c 0), (.c 0), (.c 0), (.c 0), (.c 0), (.c 0), (.c 0), (.c 9)] (by kernel_rfl) (by kernel_rfl) (fun v hG => by kernel_rfl)
theorem r301_40 (val : Nat → Int) (h : Holds val (.is (qu H) 0 :: .ne (qu H) 2 :: .ne (qu H) 1 :: .ne (lo T) 5 :: .ne (qu T) 2 :: .ne (qu T) 1 :: .ne (qu T) 0 :: .ne (mi T) 4 :: .is (lo H) 4 :: .ne (qu H) 3 :: pre 3 0 1)) (ht : Tabs 3 val) : Q val := leafR (by omega) h ht [(mi H), (.c (-1)), (.c 5), (w (.add (.c 8) (lo T))), (.c 5), (w (.add (.c 0) (mi T))), (.c 8), (.c 0), (.c 0), e2, (.c 0)] (by kernel_rfl) (by kernel_rfl) (fun v hG => by kernel_rfl)
theorem r301_41 (val : Nat → Int) (h : Holds val (.ne (qu H) 0 :: .ne (qu H) 2 :: .ne (qu H) 1 :: .ne (lo T) 5 :: .ne (qu T) 2 :: .ne (qu T) 1 :: .ne (qu T) 0 :: .ne (mi T) 4 :: .is (lo H) 4 :: .ne (qu H) 3 :: pre 3 0 1)) (ht : Tabs 3 val) : Q val := leafR (by omega) h ht [(mi H), (.c (-1)), (.c 5), (w (.add (.c 8) (lo T))), (.c 5), (w (.add (.c 0) (mi T))), (.c 8), (.c 0), (.c 0), e2, (.c 0)] (by kernel_rfl) (by kernel_rfl) (fun v hG => by kernel_rfl)
theorem r301_42 (val : Nat → Int) (h : Holds val (.is (lo H) 5 :: .is (qu H) 0 :: .ne (lo H) 4 :: .ne (qu H) 3 :: pre 3 0 1)) (ht : Tabs 3 val) : Q val := leafR (by omega) h ht [(.c 0), (.c 0), (.c 0), (.c 0), (.c 0), (.c 0), (.c 0), (.c 0), (.c 0), (.c 0), (.c 4)] (by kernel_rfl) (by kernel_rfl) (fun v hG => by kernel_rfl)
theorem r301_43 (val : Nat → Int) (h : Holds val (.ne (lo H) 5 :: .is (qu H) 0 :: .ne (lo H) 4 :: .ne (qu H) 3 :: pre 3 0 1)) (ht : Tabs 3 val) : Q val := leafR (by omega) h ht [(mi H), (.c (-1)), (.c 5), (w (.add (.c 8) (lo H))), (.c 0), (.c 0), (.c 0), (.c 0), (.c 0), e1, (.c 0)] (by kernel_rfl) (by kernel_rfl) (fun v hG => by kernel_rfl)
theorem r301_44 (val : Nat → Int) (h : Holds val (.is (qu H) 1 :: .ne (qu H) 0 :: .ne (lo H) 4 :: .ne (qu H) 3 :: pre 3 0 1)) (ht : Tabs 3 val) : Q val := leafR (by omega) h ht [(mi H), (.c (-1)), (.c 5), (w (.add (.c 8) (lo H))), (.c 0), (.c 0), (.c 0), (.a 5), (.c 0), e2, (.c 0)] (by kernel_rfl) (by kernel_rfl) (fun v hG => by kernel_rfl)
theorem r301_45 (val : Nat → Int) (h : Holds val (.is (qu H) 2 :: .ne (qu H) 1 :: .ne (qu H) 0 :: .ne (lo H) 4 :: .ne (qu H) 3 :: pre 3 0 1)) (ht : Tabs 3 val) : Q val := leafR (by omega) h ht [(.c 0), (.c 0), (.c 0), (.c 0), (.c 0), (.c 0), (.c 0), (.c 0), (.c 0), (.c 0), (.c 9)] (by kernel_rfl) (by kernel_rfl) (fun v hG => by kernel_rfl)
theorem r301_46 (val : Nat → Int) (h : Holds val (.ne (qu H) 2 :: .ne (qu H) 1 :: .ne (qu H) 0 :: .ne (lo H) 4 :: .ne (qu H) 3 :: pre 3 0 1)) (ht : Tabs 3 val) : Q val := leafR (by omega) h ht [(mi H), (.c (-1)), (.c 5), (w (.add (.c 8) (lo H))), (.c 0), (.c 0), (.c 0), (.c 0), (.c 0), e1, (.c 0)] (by kernel_rfl) (by kernel_rfl) (fun v hG => by kernel_rfl)

theorem r301 : DR 3 0 1 := fun val h ht =>
  by_way (.eq (qu H) (.c 3)) (.is (qu H) 3) (.ne (qu H) 3) (by kernel_rfl) (by kernel_rfl) h
  (fun h => r301_0 val h ht)
  (fun h => by_way (.eq (lo H) (.c 4)) (.is (lo H) 4) (.ne (lo H) 4) (by kernel_rfl) (by kernel_rfl) h
  (fun h => by_way (.eq (mi T) (.c 4)) (.is (mi T) 4) (.ne (mi T) 4) (by kernel_rfl) (by kernel_rfl) h
  (fun h => by_way (.eq (qu T) (.c 0)) (.is (qu T) 0) (.ne (qu T) 0) (by kernel_rfl) (by kernel_rfl) h
  (fun h => by_way (.eq (lo T) (.c 5)) (.is (lo T) 5) (.ne (lo T) 5) (by kernel_rfl) (by kernel_rfl) h
  (fun h => by_way (.eq (qu H) (.c 0)) (.is (qu H) 0) (.ne (qu H) 0) (by kernel_rfl) (by kernel_rfl) h
  (fun h => r301_1 val h ht)
  (fun h => by_way (.eq (qu H) (.c 1)) (.is (qu H) 1) (.ne (qu H) 1) (by kernel_rfl) (by kernel_rfl) h
  (fun h => r301_2 val h ht)
  (fun h => by_way (.eq (qu H) (.c 2)) (.is (qu H) 2) (.ne (qu H) 2) (by kernel_rfl) (by kernel_rfl) h
  (fun h => r301_3 val h ht)
  (fun h => r301_4 val h ht))))
  (fun h => by_way (.eq (qu H) (.c 1)) (.is (qu H) 1) (.ne (qu H) 1) (by kernel_rfl) (by kernel_rfl) h
  (fun h => r301_5 val h ht)
  (fun h => by_way (.eq (qu H) (.c 2)) (.is (qu H) 2) (.ne (qu H) 2) (by kernel_rfl) (by kernel_rfl) h
  (fun h => r301_6 val h ht)
  (fun h => by_way (.eq (qu H) (.c 0)) (.is (qu H) 0) (.ne (qu H) 0) (by kernel_rfl) (by kernel_rfl) h
  (fun h => r301_7 val h ht)
  (fun h => r301_8 val h ht)))))
  (fun h => r301_9 val h ht))
  (fun h => by_way (.eq (qu T) (.c 0)) (.is (qu T) 0) (.ne (qu T) 0) (by kernel_rfl) (by kernel_rfl) h
  (fun h => by_way (.eq (lo T) (.c 5)) (.is (lo T) 5) (.ne (lo T) 5) (by kernel_rfl) (by kernel_rfl) h
  (fun h => by_way (.eq (qu H) (.c 0)) (.is (qu H) 0) (.ne (qu H) 0) (by kernel_rfl) (by kernel_rfl) h
  (fun h => r301_10 val h ht)
  (fun h => by_way (.eq (qu H) (.c 1)) (.is (qu H) 1) (.ne (qu H) 1) (by kernel_rfl) (by kernel_rfl) h
  (fun h => r301_11 val h ht)
  (fun h => by_way (.eq (qu H) (.c 2)) (.is (qu H) 2) (.ne (qu H) 2) (by kernel_rfl) (by kernel_rfl) h
  (fun h => r301_12 val h ht)
  (fun h => r301_13 val h ht))))
  (fun h => by_way (.eq (qu H) (.c 1)) (.is (qu H) 1) (.ne (qu H) 1) (by kernel_rfl) (by kernel_rfl) h
  (fun h => r301_14 val h ht)
  (fun h => by_way (.eq (qu H) (.c 2)) (.is (qu H) 2) (.ne (qu H) 2) (by kernel_rfl) (by kernel_rfl) h
  (fun h => r301_15 val h ht)
  (fun h => by_way (.eq (qu H) (.c 0)) (.is (qu H) 0) (.ne (qu H) 0) (by kernel_rfl) (by kernel_rfl) h
  (fun h => r301_16 val h ht)
  (fun h => r301_17 val h ht)))))
  (fun h => by_way (.eq (qu T) (.c 1)) (.is (qu T) 1) (.ne (qu T) 1) (by kernel_rfl) (by kernel_rfl) h
  (fun h => by_way (.eq (lo T) (.c 5)) (.is (lo T) 5) (.ne (lo T) 5) (by kernel_rfl) (by kernel_rfl) h
  (fun h => by_way (.eq (qu H) (.c 0)) (.is (qu H) 0) (.ne (qu H) 0) (by kernel_rfl) (by kernel_rfl) h
  (fun h => r301_18 val h ht)
  (fun h => by_way (.eq (qu H) (.c 1)) (.is (qu H) 1) (.ne (qu H) 1) (by kernel_rfl) (by kernel_rfl) h
  (fun h => r301_19 val h ht)
  (fun h => by_way (.eq (qu H) (.c 2)) (.is (qu H) 2) (.ne (qu H) 2) (by kernel_rfl) (by kernel_rfl) h
  (fun h => r301_20 val h ht)
  (fun h => r301_21 val h ht))))
  (fun h => by_way (.eq (qu H) (.c 1)) (.is (qu H) 1) (.ne (qu H) 1) (by kernel_rfl) (by kernel_rfl) h
  (fun h => r301_22 val h ht)
  (fun h => by_way (.eq (qu H) (.c 2)) (.is (qu H) 2) (.ne (qu H) 2) (by kernel_rfl) (by kernel_rfl) h
  (fun h => r301_23 val h ht)
  (fun h => by_way (.eq (qu H) (.c 0)) (.is (qu H) 0) (.ne (qu H) 0) (by kernel_rfl) (by kernel_rfl) h
  (fun h => r301_24 val h ht)
  (fun h => r301_25 val h ht)))))
  (fun h => by_way (.eq (qu T) (.c 2)) (.is (qu T) 2) (.ne (qu T) 2) (by kernel_rfl) (by kernel_rfl) h
  (fun h => by_way (.eq (lo T) (.c 5)) (.is (lo T) 5) (.ne (lo T) 5) (by kernel_rfl) (by kernel_rfl) h
  (fun h => by_way (.eq (qu H) (.c 0)) (.is (qu H) 0) (.ne (qu H) 0) (by kernel_rfl) (by kernel_rfl) h
  (fun h => r301_26 val h ht)
  (fun h => by_way (.eq (qu H) (.c 1)) (.is (qu H) 1) (.ne (qu H) 1) (by kernel_rfl) (by kernel_rfl) h
  (fun h => r301_27 val h ht)
  (fun h => by_way (.eq (qu H) (.c 2)) (.is (qu H) 2) (.ne (qu H) 2) (by kernel_rfl) (by kernel_rfl) h
  (fun h => r301_28 val h ht)
  (fun h => r301_29 val h ht))))
  (fun h => by_way (.eq (qu H) (.c 1)) (.is (qu H) 1) (.ne (qu H) 1) (by kernel_rfl) (by kernel_rfl) h
  (fun h => r301_30 val h ht)
  (fun h => by_way (.eq (qu H) (.c 2)) (.is (qu H) 2) (.ne (qu H) 2) (by kernel_rfl) (by kernel_rfl) h
  (fun h => r301_31 val h ht)
  (fun h => by_way (.eq (qu H) (.c 0)) (.is (qu H) 0) (.ne (qu H) 0) (by kernel_rfl) (by kernel_rfl) h
  (fun h => r301_32 val h ht)
  (fun h => r301_33 val h ht)))))
  (fun h => by_way (.eq (lo T) (.c 5)) (.is (lo T) 5) (.ne (lo T) 5) (by kernel_rfl) (by kernel_rfl) h
  (fun h => by_way (.eq (qu H) (.c 0)) (.is (qu H) 0) (.ne (qu H) 0) (by kernel_rfl) (by kernel_rfl) h
  (fun h => r301_34 val h ht)
  (fun h => by_way (.eq (qu H) (.c 1)) (.is (qu H) 1) (.ne (qu H) 1) (by kernel_rfl) (by kernel_rfl) h
  (fun h => r301_35 val h ht)
  (fun h => by_way (.eq (qu H) (.c 2)) (.is (qu H) 2) (.ne (qu H) 2) (by kernel_rfl) (by kernel_rfl) h
  (fun h => r301_36 val h ht)
  (fun h => r301_37 val h ht))))
  (fun h => by_way (.eq (qu H) (.c 1)) (.is (qu H) 1) (.ne (qu H) 1) (by kernel_rfl) (by kernel_rfl) h
  (fun h => r301_38 val h ht)
  (fun h => by_way (.eq (qu H) (.c 2)) (.is (qu H) 2) (.ne (qu H) 2) (by kernel_rfl) (by kernel_rfl) h
  (fun h => r301_39 val h ht)
  (fun h => by_way (.eq (qu H) (.c 0)) (.is (qu H) 0) (.ne (qu H) 0) (by kernel_rfl) (by kernel_rfl) h
  (fun h => r301_40 val h ht)
  (fun h => r301_41 val h ht)))))))))
  (fun h => by_way (.eq (qu H) (.c 0)) (.is (qu H) 0) (.ne (qu H) 0) (by kernel_rfl) (by kernel_rfl) h
  (fun h => by_way (.eq (lo H) (.c 5)) (.is (lo H) 5) (.ne (lo H) 5) (by kernel_rfl) (by kernel_rfl) h
  (fun h => r301_42 val h ht)
  (fun h => r301_43 val h ht))
  (fun h => by_way (.eq (qu H) (.c 1)) (.is (qu H) 1) (.ne (qu H) 1) (by kernel_rfl) (by kernel_rfl) h
  (fun h => r301_44 val h ht)
  (fun h => by_way (.eq (qu H) (.c 2)) (.is (qu H) 2) (.ne (qu H) 2) (by kernel_rfl) (by kernel_rfl) h
  (fun h => r301_45 val h ht)
  (fun h => r301_46 val h ht)))))

theorem r111_0 (val : Nat → Int) (h : Holds val (.is (qu H) 3 :: pre 1 1 1)) (ht : Tabs 1 val) : Q val := leafR (by omega) h ht [(.c 0), (.c 0), (.c 0), (.c 0), (.c 0), (.c 0), (.c 0), (.c 0), (.c 0), (.c 0), (.c 4)] (by kernel_rfl) (by kernel_rfl) (fun v hG => by kernel_rfl)
theorem r111_1 (val : Nat → Int) (h : Holds val (.is (lo H) 4 :: .ne (qu H) 3 :: pre 1 1 1)) (ht : Tabs 1 val) : Q val := leafR (by omega) h ht [(.c 0), (.c 0), (.c 0), (.c 0), (.c 0), (.c 0), (.c 0), (.c 0), (.c 0), (.c 0), (.c 9)] (by kernel_rfl) (by kernel_rfl) (fun v hG => by kernel_rfl)
theorem r111_2 (val : Nat → Int) (h : Holds val (.ne (lo H) 4 :: .ne (qu H) 3 :: pre 1 1 1)) (ht : Tabs 1 val) : Q val := leafR (by omega) h ht [(.c 0), (.c 0), (.c 0), (.c 0), (.c 0), (.c 0), (.c 0), (.c 0), (.c 0), (.c 0), (.c 4)] (by kernel_rfl) (by kernel_rfl) (fun v hG => by kernel_rfl)

theorem r111 : DR 1 1 1 := fun val h ht =>
  by_way (.eq (qu H) (.c 3)) (.is (qu H) 3) (.ne (qu H) 3) (by kernel_rfl) (by kernel_rfl) h
  (fun h => r111_0 val h ht)
  (fun h => by_way (.eq (lo H) (.c 4)) (.is (lo H) 4) (.ne (lo H) 4) (by kernel_rfl) (by kernel_rfl) h
  (fun h => r111_1 val h ht)
  (fun h => r111_2 val h ht))

end Go.Proofs.Ytbenfglhomiocaa.Rd
