/-
  The ways of both, part 6.
-/
import Derived.Test.YtbenfglhomiocaaReadH
namespace Go.Proofs.Ytbenfglhomiocaa.Rd
open Go.Sim Go.Proofs.Ytbenfglhomiocaa.Fld Go.Proofs.Ytbenfglhomiocaa.Tab
set_option maxRecDepth 100000

theorem r610_0 (val : Nat → Int) (h : Holds val (.is (qu H) 3 :: pre 6 1 0)) (ht : Tabs 6 val) : Q val := leafR (by omega) h ht [(.c 0), (.c 0), (.c 0), (.c 0), (.c 0), (.c 0), (.c 0), (.c 0), (.c 0), (.c 0), (.c 4)] (by kernel_rfl) (by kernel_rfl) (fun v hG => by kernel_rfl)
theorem r610_1 (val : Nat → Int) (h : Holds val (.is (qu H) 0 :: .is (lo T) 5 :: .is (qu T) 0 :: .is (mi T) 4 :: .is (lo H) 4 :: .ne (qu H) 3 :: pre 6 1 0)) (ht : Tabs 6 val) : Q val := leafR (by omega) h ht [(mi H), (.c (-1)), (.c 5), (.c 12), (.c 0), (.c 0), (.c 0), (.a 8), (.c 0), (w (.add e2 (.c 4))), (.c 0)] (by kernel_rfl) (by kernel_rfl) (fun v hG => by kernel_rfl)
theorem r610_2 (val : Nat → Int) (h : Holds val (.is (qu H) 1 :: .ne (qu H) 0 :: .is (lo T) 5 :: .is (qu T) 0 :: .is (mi T) 4 :: .is (lo H) 4 :: .ne (qu H) 3 :: pre 6 1 0)) (ht : Tabs 6 val) : Q val := leafR (by omega) h ht [(mi H), (.c (-1)), (.c 5), (.c 5), (.c 5), (.c 12), (.c 1), (.a 7), (.c 0), (w (.add e2 (.c 1))), (.c 0)] (by kernel_rfl) (by kernel_rfl) (fun v hG => by kernel_rfl)
theorem r610_3 (val : Nat → Int) (h : Holds val (.is (qu H) 2 :: .ne (qu H) 1 :: .ne (qu H) 0 :: .is (lo T) 5 :: .is (qu T) 0 :: .is (mi T) 4 :: .is (lo H) 4 :: .ne (qu H) 3 :: pre 6 1 0)) (ht : Tabs 6 val) : Q val := leafR (by omega) h ht [(mi H), (.c (-1)), (.c 5), (.c 5), (.c 5), (.c 12), (.c 1), (.a 8), (.c 0), (w (.add e2 (.c 4))), (.c 0)] (by kernel_rfl) (by kernel_rfl) (fun v hG => by kernel_rfl)
theorem r610_4 (val : Nat → Int) (h : Holds val (.ne (qu H) 2 :: .ne (qu H) 1 :: .ne (qu H) 0 :: .is (lo T) 5 :: .is (qu T) 0 :: .is (mi T) 4 :: .is (lo H) 4 :: .ne (qu H) 3 :: pre 6 1 0)) (ht : Tabs 6 val) : Q val := leafR (by omega) h ht [(mi H), (.c (-1)), (.c 5), (.c 5), (.c 5), (.c 12), (.c 1), (.c 0), (.c 0), e2, (.c 0)] (by kernel_rfl) (by kernel_rfl) (fun v hG => by kernel_rfl)
theorem r610_5 (val : Nat → Int) (h : Holds val (.is (qu H) 1 :: .ne (lo T) 5 :: .is (qu T) 0 :: .is (mi T) 4 :: .is (lo H) 4 :: .ne (qu H) 3 :: pre 6 1 0)) (ht : Tabs 6 val) : Q val := leafR (by omega) h ht [(mi H), (.c (-1)), (.c 5), (w (.add (.c 0) (lo T))), (.c 5), (.c 12), (.c 1), (.a 7), (.c 0), (w (.add e2 (.c 1))), (.c 0)] (by kernel_rfl) (by kernel_rfl) (fun v hG => by kernel_rfl)
theorem r610_6 (val : Nat → Int) (h : Holds val (.is (qu H) 2 :: .ne (qu H) 1 :: .ne (lo T) 5 :: .is (qu T) 0 :: .is (mi T) 4 :: .is (lo H) 4 :: .ne (qu H) 3 :: pre 6 1 0)) (ht : Tabs 6 val) : Q val := leafR (by omega) h ht [(mi H), (.c (-1)), (.c 5), (w (.add (.c 0) (lo T))), (.c 5), (.c 12), (.c 1), (.a 8), (.c 0), (w (.add e2 (.c 4))), (.c 0)] (by kernel_rfl) (by kernel_rfl) (fun v hG => by kernel_rfl)
theorem r610_7 (val : Nat → Int) (h : Holds val (.is (qu H) 0 :: .ne (qu H) 2 :: .ne (qu H) 1 :: .ne (lo T) 5 :: .is (qu T) 0 :: .is (mi T) 4 :: .is (lo H) 4 :: .ne (qu H) 3 :: pre 6 1 0)) (ht : Tabs 6 val) : Q val := leafR (by omega) h ht [(mi H), (.c (-1)), (.c 5), (w (.add (.c 0) (lo T))), (.c 5), (.c 12), (.c 1), (.c 0), (.c 0), e2, (.c 0)] (by kernel_rfl) (by kernel_rfl) (fun v hG => by kernel_rfl)
theorem r610_8 (val : Nat → Int) (h : Holds val (.ne (qu H) 0 :: .ne (qu H) 2 :: .ne (qu H) 1 :: .ne (lo T) 5 :: .is (qu T) 0 :: .is (mi T) 4 :: .is (lo H) 4 :: .ne (qu H) 3 :: pre 6 1 0)) (ht : Tabs 6 val) : Q val := leafR (by omega) h ht [(mi H), (.c (-1)), (.c 5), (w (.add (.c 0) (lo T))), (.c 5), (.c 12), (.c 1), (.c 0), (.c 0), e2, (.c 0)] (by kernel_rfl) (by kernel_rfl) (fun v hG => by kernel_rfl)
theorem r610_9 (val : Nat → Int) (h : Holds val (.is (qu H) 0 :: .is (lo T) 5 :: .is (qu T) 1 :: .ne (qu T) 0 :: .is (mi T) 4 :: .is (lo H) 4 :: .ne (qu H) 3 :: pre 6 1 0)) (ht : Tabs 6 val) : Q val := leafR (by omega) h ht [(mi H), (.c (-1)), (.c 0), (.c 0), (.c 5), (.c 12), (.c 2), (.a 8), (.c 0), (w (.add e2 (.c 4))), (.c 0)] (by kernel_rfl) (by kernel_rfl) (fun v hG => by kernel_rfl)
theorem r610_10 (val : Nat → Int) (h : Holds val (.is (qu H) 1 :: .ne (qu H) 0 :: .is (lo T) 5 :: .is (qu T) 1 :: .ne (qu T) 0 :: .is (mi T) 4 :: .is (lo H) 4 :: .ne (qu H) 3 :: pre 6 1 0)) (ht : Tabs 6 val) : Q val := leafR (by omega) h ht [(mi H), (.c (-1)), (.c 5), (.c 5), (.c 5), (.c 12), (.c 2), (.a 7), (.c 0), (w (.add e2 (.c 1))), (.c 0)] (by kernel_rfl) (by kernel_rfl) (fun v hG => by kernel_rfl)
theorem r610_11 (val : Nat → Int) (h : Holds val (.is (qu H) 2 :: .ne (qu H) 1 :: .ne (qu H) 0 :: .is (lo T) 5 :: .is (qu T) 1 :: .ne (qu T) 0 :: .is (mi T) 4 :: .is (lo H) 4 :: .ne (qu H) 3 :: pre 6 1 0)) (ht : Tabs 6 val) : Q val := leafR (by omega) h ht [(mi H), (.c (-1)), (.c 5), (.c 5), (.c 5), (.c 12), (.c 2), (.a 8), (.c 0), (w (.add e2 (.c 4))), (.c 0)] (by kernel_rfl) (by kernel_rfl) (fun v hG => by kernel_rfl)
theorem r610_12 (val : Nat → Int) (h : Holds val (.ne (qu H) 2 :: .ne (qu H) 1 :: .ne (qu H) 0 :: .is (lo T) 5 :: .is (qu T) 1 :: .ne (qu T) 0 :: .is (mi T) 4 :: .is (lo H) 4 :: .ne (qu H) 3 :: pre 6 1 0)) (ht : Tabs 6 val) : Q val := leafR (by omega) h ht [(mi H), (.c (-1)), (.c 5), (.c 5), (.c 5), (.c 12), (.c 2), (.c 0), (.c 0), e2, (.c 0)] (by kernel_rfl) (by kernel_rfl) (fun v hG => by kernel_rfl)
theorem r610_13 (val : Nat → Int) (h : Holds val (.is (qu H) 1 :: .ne (lo T) 5 :: .is (qu T) 1 :: .ne (qu T) 0 :: .is (mi T) 4 :: .is (lo H) 4 :: .ne (qu H) 3 :: pre 6 1 0)) (ht : Tabs 6 val) : Q val := leafR (by omega) h ht [(mi H), (.c (-1)), (.c 5), (w (.add (.c 0) (lo T))), (.c 5), (.c 12), (.c 2), (.a 7), (.c 0), (w (.add e2 (.c 1))), (.c 0)] (by kernel_rfl) (by kernel_rfl) (fun v hG => by kernel_rfl)
theorem r610_14 (val : Nat → Int) (h : Holds val (.is (qu H) 2 :: .ne (qu H) 1 :: .ne (lo T) 5 :: .is (qu T) 1 :: .ne (qu T) 0 :: .is (mi T) 4 :: .is (lo H) 4 :: .ne (qu H) 3 :: pre 6 1 0)) (ht : Tabs 6 val) : Q val := leafR (by omega) h ht [(mi H), (.c (-1)), (.c 5), (w (.add (.c 0) (lo T))), (.c 5), (.c 12), (.c 2), (.a 8), (.c 0), (w (.add e2 (.c 4))), (.c 0)] (by kernel_rfl) (by kernel_rfl) (fun v hG => by kernel_rfl)
theorem r610_15 (val : Nat → Int) (h : Holds val (.is (qu H) 0 :: .ne (qu H) 2 :: .ne (qu H) 1 :: .ne (lo T) 5 :: .is (qu T) 1 :: .ne (qu T) 0 :: .is (mi T) 4 :: .is (lo H) 4 :: .ne (qu H) 3 :: pre 6 1 0)) (ht : Tabs 6 val) : Q val := leafR (by omega) h ht [(mi H), (.c (-1)), (.c 5), (w (.add (.c 0) (lo T))), (.c 5), (.c 12), (.c 2), (.c 0), (.c 0), e2, (.c 0)] (by kernel_rfl) (by kernel_rfl) (fun v hG => by kernel_rfl)
theorem r610_16 (val : Nat → Int) (h : Holds val (.ne (qu H) 0 :: .ne (qu H) 2 :: .ne (qu H) 1 :: .ne (lo T) 5 :: .is (qu T) 1 :: .ne (qu T) 0 :: .is (mi T) 4 :: .is (lo H) 4 :: .ne (qu H) 3 :: pre 6 1 0)) (ht : Tabs 6 val) : Q val := leafR (by omega) h ht [(mi H), (.c (-1)), (.c 5), (w (.add (.c 0) (lo T))), (.c 5), (.c 12), (.c 2), (.c 0), (.c 0), e2, (.c 0)] (by kernel_rfl) (by kernel_rfl) (fun v hG => by kernel_rfl)
theorem r610_17 (val : Nat → Int) (h : Holds val (.is (qu H) 0 :: .is (lo T) 5 :: .is (qu T) 2 :: .ne (qu T) 1 :: .ne (qu T) 0 :: .is (mi T) 4 :: .is (lo H) 4 :: .ne (qu H) 3 :: pre 6 1 0)) (ht : Tabs 6 val) : Q val := leafR (by omega) h ht [(mi H), (.c (-1)), (.c 0), (.c 0), (.c 5), (.c 12), (.c 4), (.a 8), (.c 0), (w (.add e2 (.c 4))), (.c 0)] (by kernel_rfl) (by kernel_rfl) (fun v hG => by kernel_rfl)
theorem r610_18 (val : Nat → Int) (h : Holds val (.is (qu H) 1 :: .ne (qu H) 0 :: .is (lo T) 5 :: .is (qu T) 2 :: .ne (qu T) 1 :: .ne (qu T) 0 :: .is (mi T) 4 :: .is (lo H) 4 :: .ne (qu H) 3 :: pre 6 1 0)) (ht : Tabs 6 val) : Q val := leafR (by omega) h ht [(mi H), (.c (-1)), (.c 5), (.c 5), (.c 5), (.c 12), (.c 4), (.a 7), (.c 0), (w (.add e2 (.c 1))), (.c 0)] (by kernel_rfl) (by kernel_rfl) (fun v hG => by kernel_rfl)
theorem r610_19 (val : Nat → Int) (h : Holds val (.is (qu H) 2 :: .ne (qu H) 1 :: .ne (qu H) 0 :: .is (lo T) 5 :: .is (qu T) 2 :: .ne (qu T) 1 :: .ne (qu T) 0 :: .is (mi T) 4 :: .is (lo H) 4 :: .ne (qu H) 3 :: pre 6 1 0)) (ht : Tabs 6 val) : Q val := leafR (by omega) h ht [(mi H), (.c (-1)), (.c 5), (.c 5), (.c 5), (.c 12), (.c 4), (.a 8), (.c 0), (w (.add e2 (.c 4))), (.c 0)] (by kernel_rfl) (by kernel_rfl) (fun v hG => by kernel_rfl)
theorem r610_20 (val : Nat → Int) (h : Holds val (.ne (qu H) 2 :: .ne (qu H) 1 :: .ne (qu H) 0 :: .is (lo T) 5 :: .is (qu T) 2 :: .ne (qu T) 1 :: .ne (qu T) 0 :: .is (mi T) 4 :: .is (lo H) 4 :: .ne (qu H) 3 :: pre 6 1 0)) (ht : Tabs 6 val) : Q val := leafR (by omega) h ht [(mi H), (.c (-1)), (.c 5), (.c 5), (.c 5), (.c 12), (.c 4), (.c 0), (.c 0), e2, (.c 0)] (by kernel_rfl) (by kernel_rfl) (fun v hG => by kernel_rfl)
theorem r610_21 (val : Nat → Int) (h : Holds val (.is (qu H) 1 :: .ne (lo T) 5 :: .is (qu T) 2 :: .ne (qu T) 1 :: .ne (qu T) 0 :: .is (mi T) 4 :: .is (lo H) 4 :: .ne (qu H) 3 :: pre 6 1 0)) (ht : Tabs 6 val) : Q val := leafR (by omega) h ht [(mi H), (.c (-1)), (.c 5), (w (.add (.c 0) (lo T))), (.c 5), (.c 12), (.c 4), (.a 7), (.c 0), (w (.add e2 (.c 1))), (.c 0)] (by kernel_rfl) (by kernel_rfl) (fun v hG => by kernel_rfl)
theorem r610_22 (val : Nat → Int) (h : Holds val (.is (qu H) 2 :: .ne (qu H) 1 :: .ne (lo T) 5 :: .is (qu T) 2 :: .ne (qu T) 1 :: .ne (qu T) 0 :: .is (mi T) 4 :: .is (lo H) 4 :: .ne (qu H) 3 :: pre 6 1 0)) (ht : Tabs 6 val) : Q val := leafR (by omega) h ht [(mi H), (.c (-1)), (.c 5), (w (.add (.c 0) (lo T))), (.c 5), (.c 12), (.c 4), (.a 8), (.c 0), (w (.add e2 (.c 4))), (.c 0)] (by kernel_rfl) (by kernel_rfl) (fun v hG => by kernel_rfl)
theorem r610_23 (val : Nat → Int) (h : Holds val (.is (qu H) 0 :: .ne (qu H) 2 :: .ne (qu H) 1 :: .ne (lo T) 5 :: .is (qu T) 2 :: .ne (qu T) 1 :: .ne (qu T) 0 :: .is (mi T) 4 :: .is (lo H) 4 :: .ne (qu H) 3 :: pre 6 1 0)) (ht : Tabs 6 val) : Q val := leafR (by omega) h ht [(mi H), (.c (-1)), (.c 5), (w (.add (.c 0) (lo T))), (.c 5), (.c 12), (.c 4), (.c 0), (.c 0), e2, (.c 0)] (by kernel_rfl) (by kernel_rfl) (fun v hG => by kernel_rfl)
theorem r610_24 (val : Nat → Int) (h : Holds val (.ne (qu H) 0 :: .ne (qu H) 2 :: .ne (qu H) 1 :: .ne (lo T) 5 :: .is (qu T) 2 :: .ne (qu T) 1 :: .ne (qu T) 0 :: .is (mi T) 4 :: .is (lo H) 4 :: .ne (qu H) 3 :: pre 6 1 0)) (ht : Tabs 6 val) : Q val := leafR (by omega) h ht [(mi H), (.c (-1)), (.c 5), (w (.add (.c 0) (lo T))), (.c 5), (.c 12), (.c 4), (.c 0), (.c 0), e2, (.c 0)] (by kernel_rfl) (by kernel_rfl) (fun v hG => by kernel_rfl)
theorem r610_25 (val : Nat → Int) (h : Holds val (.is (qu H) 0 :: .is (lo T) 5 :: .ne (qu T) 2 :: .ne (qu T) 1 :: .ne (qu T) 0 :: .is (mi T) 4 :: .is (lo H) 4 :: .ne (qu H) 3 :: pre 6 1 0)) (ht : Tabs 6 val) : Q val := leafR (by omega) h ht [(mi H), (.c (-1)), (.c 0), (.c 0), (.c 5), (.c 12), (.c 8), (.a 8), (.c 0), (w (.add e2 (.c 4))), (.c 0)] (by kernel_rfl) (by kernel_rfl) (fun v hG => by kernel_rfl)
theorem r610_26 (val : Nat → Int) (h : Holds val (.is (qu H) 1 :: .ne (qu H) 0 :: .is (lo T) 5 :: .ne (qu T) 2 :: .ne (qu T) 1 :: .ne (qu T) 0 :: .is (mi T) 4 :: .is (lo H) 4 :: .ne (qu H) 3 :: pre 6 1 0)) (ht : Tabs 6 val) : Q val := leafR (by omega) h ht [(mi H), (.c (-1)), (.c 5), (.c 5), (.c 5), (.c 12), (.c 8), (.a 7), (.c 0), (w (.add e2 (.c 1))), (.c 0)] (by kernel_rfl) (by kernel_rfl) (fun v hG => by kernel_rfl)
theorem r610_27 (val : Nat → Int) (h : Holds val (.is (qu H) 2 :: .ne (qu H) 1 :: .ne (qu H) 0 :: .is (lo T) 5 :: .ne (qu T) 2 :: .ne (qu T) 1 :: .ne (qu T) 0 :: .is (mi T) 4 :: .is (lo H) 4 :: .ne (qu H) 3 :: pre 6 1 0)) (ht : Tabs 6 val) : Q val := leafR (by omega) h ht [(mi H), (.c (-1)), (.c 5), (.c 5), (.c 5), (.c 12), (.c 8), (.a 8), (.c 0), (w (.add e2 (.c 4))), (.c 0)] (by kernel_rfl) (by kernel_rfl) (fun v hG => by kernel_rfl)
theorem r610_28 (val : Nat → Int) (h : Holds val (.ne (qu H) 2 :: .ne (qu H) 1 :: .ne (qu H) 0 :: .is (lo T) 5 :: .ne (qu T) 2 :: .ne (qu T) 1 :: .ne (qu T) 0 :: .is (mi T) 4 :: .is (lo H) 4 :: .ne (qu H) 3 :: pre 6 1 0)) (ht : Tabs 6 val) : Q val := leafR (by omega) h ht [(mi H), (.c (-1)), (.c 5), (.c 5), (.c 5), (.c 12), (.c 8), (.c 0), (.c 0), e2, (.c 0)] (by kernel_rfl) (by kernel_rfl) (fun v hG => by kernel_rfl)
theorem r610_29 (val : Nat → Int) (h : Holds val (.is (qu H) 1 :: .ne (lo T) 5 :: .ne (qu T) 2 :: .ne (qu T) 1 :: .ne (qu T) 0 :: .is (mi T) 4 :: .is (lo H) 4 :: .ne (qu H) 3 :: pre 6 1 0)) (ht : Tabs 6 val) : Q val := leafR (by omega) h ht [(mi H), (.c (-1)), (.c 5), (w (.add (.c 0) (lo T))), (.c 5), (.c 12), (.c 8), (.a 7), (.c 0), (w (.add e2 (.c 1))), (.c 0)] (by kernel_rfl) (by kernel_rfl) (fun v hG => by kernel_rfl)
theorem r610_30 (val : Nat → Int) (h : Holds val (.is (qu H) 2 :: .ne (qu H) 1 :: .ne (lo T) 5 :: .ne (qu T) 2 :: .ne (qu T) 1 :: .ne (qu T) 0 :: .is (mi T) 4 :: .is (lo H) 4 :: .ne (qu H) 3 :: pre 6 1 0)) (ht : Tabs 6 val) : Q val := leafR (by omega) h ht [(mi H), (.c (-1)), (.c 5), (w (.add (.c 0) (lo T))), (.c 5), (.c 12), (.c 8), (.a 8), (.c 0), (w (.add e2 (.c 4))), (.c 0)] (by kernel_rfl) (by kernel_rfl) (fun v hG => by kernel_rfl)
theorem r610_31 (val : Nat → Int) (h : Holds val (.is (qu H) 0 :: .ne (qu H) 2 :: .ne (qu H) 1 :: .ne (lo T) 5 :: .ne (qu T) 2 :: .ne (qu T) 1 :: .ne (qu T) 0 :: .is (mi T) 4 :: .is (lo H) 4 :: .ne (qu H) 3 :: pre 6 1 0)) (ht : Tabs 6 val) : Q val := leafR (by omega) h ht [(mi H), (.c (-1)), (.c 5), (w (.add (.c 0) (lo T))), (.c 5), (.c 12), (.c 8), (.c 0), (.c 0), e2, (.c 0)] (by kernel_rfl) (by kernel_rfl) (fun v hG => by kernel_rfl)
theorem r610_32 (val : Nat → Int) (h : Holds val (.ne (qu H) 0 :: .ne (qu H) 2 :: .ne (qu H) 1 :: .ne (lo T) 5 :: .ne (qu T) 2 :: .ne (qu T) 1 :: .ne (qu T) 0 :: .is (mi T) 4 :: .is (lo H) 4 :: .ne (qu H) 3 :: pre 6 1 0)) (ht : Tabs 6 val) : Q val := leafR (by omega) h ht [(mi H), (.c (-1)), (.c 5), (w (.add (.c 0) (lo T))), (.c 5), (.c 12), (.c 8), (.c 0), (.c 0), e2, (.c 0)] (by kernel_rfl) (by kernel_rfl) (fun v hG => by kernel_rfl)
theorem r610_33 (val : Nat → Int) (h : Holds val (.is (qu H) 0 :: .is (lo T) 5 :: .is (qu T) 0 :: .ne (mi T) 4 :: .is (lo H) 4 :: .ne (qu H) 3 :: pre 6 1 0)) (ht : Tabs 6 val) : Q val := leafR (by omega) h ht [(mi H), (.c (-1)), (.c 5), (w (.add (.c 8) (mi T))), (.c 0), (.c 0), (.c 0), (.a 8), (.c 0), (w (.add e2 (.c 4))), (.c 0)] (by kernel_rfl) (by kernel_rfl) (fun v hG => by kernel_rfl)
theorem r610_34 (val : Nat → Int) (h : Holds val (.is (qu H) 1 :: .ne (qu H) 0 :: .is (lo T) 5 :: .is (qu T) 0 :: .ne (mi T) 4 :: .is (lo H) 4 :: .ne (qu H) 3 :: pre 6 1 0)) (ht : Tabs 6 val) : Q val := leafR (by omega) h ht [(mi H), (.c (-1)), (.c 5), (.c 5), (.c 5), (w (.add (.c 8) (mi T))), (.c 1), (.a 7), (.c 0), (w (.add e2 (.c 1))), (.c 0)] (by kernel_rfl) (by kernel_rfl) (fun v hG => by kernel_rfl)
theorem r610_35 (val : Nat → Int) (h : Holds val (.is (qu H) 2 :: .ne (qu H) 1 :: .ne (qu H) 0 :: .is (lo T) 5 :: .is (qu T) 0 :: .ne (mi T) 4 :: .is (lo H) 4 :: .ne (qu H) 3 :: pre 6 1 0)) (ht : Tabs 6 val) : Q val := leafR (by omega) h ht [(mi H), (.c (-1)), (.c 5), (.c 5), (.c 5), (w (.add (.c 8) (mi T))), (.c 1), (.a 8), (.c 0), (w (.add e2 (.c 4))), (.c 0)] (by kernel_rfl) (by kernel_rfl) (fun v hG => by kernel_rfl)
theorem r610_36 (val : Nat → Int) (h : Holds val (.ne (qu H) 2 :: .ne (qu H) 1 :: .ne (qu H) 0 :: .is (lo T) 5 :: .is (qu T) 0 :: .ne (mi T) 4 :: .is (lo H) 4 :: .ne (qu H) 3 :: pre 6 1 0)) (ht : Tabs 6 val) : Q val := leafR (by omega) h ht [(mi H), (.c (-1)), (.c 5), (.c 5), (.c 5), (w (.add (.c 8) (mi T))), (.c 1), (.c 0), (.c 0), e2, (.c 0)] (by kernel_rfl) (by kernel_rfl) (fun v hG => by kernel_rfl)
theorem r610_37 (val : Nat → Int) (h : Holds val (.is (qu H) 1 :: .ne (lo T) 5 :: .is (qu T) 0 :: .ne (mi T) 4 :: .is (lo H) 4 :: .ne (qu H) 3 :: pre 6 1 0)) (ht : Tabs 6 val) : Q val := leafR (by omega) h ht [(mi H), (.c (-1)), (.c 5), (w (.add (.c 0) (lo T))), (.c 5), (w (.add (.c 8) (mi T))), (.c 1), (.a 7), (.c 0), (w (.add e2 (.c 1))), (.c 0)] (by kernel_rfl) (by kernel_rfl) (fun v hG => by kernel_rfl)
theorem r610_38 (val : Nat → Int) (h : Holds val (.is (qu H) 2 :: .ne (qu H) 1 :: .ne (lo T) 5 :: .is (qu T) 0 :: .ne (mi T) 4 :: .is (lo H) 4 :: .ne (qu H) 3 :: pre 6 1 0)) (ht : Tabs 6 val) : Q val := leafR (by omega) h ht [(mi H), (.c (-1)), (.c 5), (w (.add (.c 0) (lo T))), (.c 5), (w (.add (.c 8) (mi T))), (.c 1), (.a 8), (.c 0), (w (.add e2 (.c 4))), (.c 0)] (by kernel_rfl) (by kernel_rfl) (fun v hG => by kernel_rfl)
theorem r610_39 (val : Nat → Int) (h : Holds val (.is (qu H) 0 :: .ne (qu H) 2 :: .ne (qu H) 1 :: .ne (lo T) 5 :: .is (qu T) 0 :: .ne (mi T) 4 :: .is (lo H) 4 :: .ne (qu H) 3 :: pre 6 1 0)) (ht : Tabs 6 val) : Q val := leafR (by omega) h ht [(mi H), (.c (-1)), (.c 5), (w (.add (.c 0) (lo T))), (.c 5), (w (.add (.c 8) (mi T))), (.c 1), (.c 0), (.c 0), e2, (.c 0)] (by kernel_rfl) (by kernel_rfl) (fun v hG => by kernel_rfl)
theorem r610_40 (val : Nat → Int) (h : Holds val (.ne (qu H) 0 :: .ne (qu H) 2 :: .ne (qu H) 1 :: .ne (lo T) 5 :: .is (qu T) 0 :: .ne (mi T) 4 :: .is (lo H) 4 :: .ne (qu H) 3 :: pre 6 1 0)) (ht : Tabs 6 val) : Q val := leafR (by omega) h ht [(mi H), (.c (-1)), (.c 5), (w (.add (.c 0) (lo T))), (.c 5), (w (.add (.c 8) (mi T))), (.c 1), (.c 0), (.c 0), e2, (.c 0)] (by kernel_rfl) (by kernel_rfl) (fun v hG => by kernel_rfl)
theorem r610_41 (val : Nat → Int) (h : Holds val (.is (qu H) 0 :: .is (lo T) 5 :: .is (qu T) 1 :: .ne (qu T) 0 :: .ne (mi T) 4 :: .is (lo H) 4 :: .ne (qu H) 3 :: pre 6 1 0)) (ht : Tabs 6 val) : Q val := leafR (by omega) h ht [(mi H), (.c (-1)), (.c 0), (.c 0), (.c 5), (w (.add (.c 8) (mi T))), (.c 2), (.a 8), (.c 0), (w (.add e2 (.c 4))), (.c 0)] (by kernel_rfl) (by kernel_rfl) (fun v hG => by kernel_rfl)
theorem r610_42 (val : Nat → Int) (h : Holds val (.is (qu H) 1 :: .ne (qu H) 0 :: .is (lo T) 5 :: .is (qu T) 1 :: .ne (qu T) 0 :: .ne (mi T) 4 :: .is (lo H) 4 :: .ne (qu H) 3 :: pre 6 1 0)) (ht : Tabs 6 val) : Q val := leafR (by omega) h ht [(mi H), (.c (-1)), (.c 5), (.c 5), (.c 5), (w (.add (.c 8) (mi T))), (.c 2), (.a 7), (.c 0), (w (.add e2 (.c 1))), (.c 0)] (by kernel_rfl) (by kernel_rfl) (fun v hG => by kernel_rfl)
theorem r610_43 (val : Nat → Int) (h : Holds val (.is (qu H) 2 :: .ne (qu H) 1 :: .ne (qu H) 0 :: .is (lo T) 5 :: .is (qu T) 1 :: .ne (qu T) 0 :: .ne (mi T) 4 :: .is (lo H) 4 :: .ne (qu H) 3 :: pre 6 1 0)) (ht : Tabs 6 val) : Q val := leafR (by omega) h ht [(mi H), (.c (-1)), (.c 5), (.c 5), (.c 5), (w (.add (.c 8) (mi T))), (.c 2), (.a 8), (.c 0), (w (.add e2 (.c 4))), (.c 0)] (by kernel_rfl) (by kernel_rfl) (fun v hG => by kernel_rfl)
theorem r610_44 (val : Nat → Int) (h : Holds val (.ne (qu H) 2 :: .ne (qu H) 1 :: .ne (qu H) 0 :: .is (lo T) 5 :: .is (qu T) 1 :: .ne (qu T) 0 :: .ne (mi T) 4 :: .is (lo H) 4 :: .ne (qu H) 3 :: pre 6 1 0)) (ht : Tabs 6 val) : Q val := leafR (by omega) h ht [(mi H), (.c (-1)), (.c 5), (.c 5), (.c 5), (w (.add (.c 8) (mi T))), (.c 2), (.c 0), (.c 0), e2, (.c 0)] (by kernel_rfl) (by kernel_rfl) (fun v hG => by kernel_rfl)
theorem r610_45 (val : Nat → Int) (h : Holds val (.is (qu H) 1 :: .ne (lo T) 5 :: .is (qu T) 1 :: .ne (qu T) 0 :: .ne (mi T) 4 :: .is (lo H) 4 :: .ne (qu H) 3 :: pre 6 1 0)) (ht : Tabs 6 val) : Q val := leafR (by omega) h ht [(mi H), (.c (-1)), (.c 5), (w (.add (.c 0) (lo T))), (.c 5), (w (.add (.c 8) (mi T))), (.c 2), (.a 7), (.c 0), (w (.add e2 (.c 1))), (.c 0)] (by kernel_rfl) (by kernel_rfl) (fun v hG => by kernel_rfl)
theorem r610_46 (val : Nat → Int) (h : Holds val (.is (qu H) 2 :: .ne (qu H) 1 :: .ne (lo T) 5 :: .is (qu T) 1 :: .ne (qu T) 0 :: .ne (mi T) 4 :: .is (lo H) 4 :: .ne (qu H) 3 :: pre 6 1 0)) (ht : Tabs 6 val) : Q val := leafR (by omega) h ht [(mi H), (.c (-1)), (.c 5), (w (.add (.c 0) (lo T))), (.c 5), (w (.add (.c 8) (mi T))), (.c 2), (.a 8), (.c 0), (w (.add e2 (.c 4))), (.c 0)] (by kernel_rfl) (by kernel_rfl) (fun v hG => by kernel_rfl)
theorem r610_47 (val : Nat → Int) (h : Holds val (.is (qu H) 0 :: .ne (qu H) 2 :: .ne (qu H) 1 :: .ne (lo T) 5 :: .is (qu T) 1 :: .ne (qu T) 0 :: .ne (mi T) 4 :: .is (lo H) 4 :: .ne (qu H) 3 :: pre 6 1 0)) (ht : Tabs 6 val) : Q val := leafR (by omega) h ht [(mi H), (.c (-1)), (.c 5), (w (.add (.c 0) (lo T))), (.c 5), (w (.add (.c 8) (mi T))), (.c 2), (.c 0), (.c 0), e2, (.c 0)] (by kernel_rfl) (by kernel_rfl) (fun v hG => by kernel_rfl)
theorem r610_48 (val : Nat → Int) (h : Holds val (.ne (qu H) 0 :: .ne (qu H) 2 :: .ne (qu H) 1 :: .ne (lo T) 5 :: .is (qu T) 1 :: .ne (qu T) 0 :: .ne (mi T) 4 :: .is (lo H) 4 :: .ne (qu H) 3 :: pre 6 1 0)) (ht : Tabs 6 val) : Q val := leafR (by omega) h ht [(mi H), (.c (-1)), (.c 5), (w (.add (.c 0) (lo T))), (.c 5), (w (.add (.c 8) (mi T))), (.c 2), (.c 0), (.c 0), e2, (.c 0)] (by kernel_rfl) (by kernel_rfl) (fun v hG => by kernel_rfl)
theorem r610_49 (val : Nat → Int) (h : Holds val (.is (qu H) 0 :: .is (lo T) 5 :: .is (qu T) 2 :: .ne (qu T) 1 :: .ne (qu T) 0 :: .ne (mi T) 4 :: .is (lo H) 4 :: .ne (qu H) 3 :: pre 6 1 0)) (ht : Tabs 6 val) : Q val := leafR (by omega) h ht [(mi H), (.c (-1)), (.c 0), (.c 0), (.c 5), (w (.add (.c 8) (mi T))), (.c 4), (.a 8), (.c 0), (w (.add e2 (.c 4))), (.c 0)] (by kernel_rfl) (by kernel_rfl) (fun v hG => by kernel_rfl)
theorem r610_50 (val : Nat → Int) (h : Holds val (.is (qu H) 1 :: .ne (qu H) 0 :: .is (lo T) 5 :: .is (qu T) 2 :: .ne (qu T) 1 :: .ne (qu T) 0 :: .ne (mi T) 4 :: .is (lo H) 4 :: .ne (qu H) 3 :: pre 6 1 0)) (ht : Tabs 6 val) : Q val := leafR (by omega) h ht [(mi H), (.c (-1)), (.c 5), (.c 5), (.c 5), (w (.add (.c 8) (mi T))), (.c 4), (.a 7), (.c 0), (w (.add e2 (.c 1))), (.c 0)] (by kernel_rfl) (by kernel_rfl) (fun v hG => by kernel_rfl)
theorem r610_51 (val : Nat → Int) (h : Holds val (.is (qu H) 2 :: .ne (qu H) 1 :: .ne (qu H) 0 :: .is (lo T) 5 :: .is (qu T) 2 :: .ne (qu T) 1 :: .ne (qu T) 0 :: .ne (mi T) 4 :: .is (lo H) 4 :: .ne (qu H) 3 :: pre 6 1 0)) (ht : Tabs 6 val) : Q val := leafR (by omega) h ht [(mi H), (.c (-1)), (.c 5), (.c 5), (.c 5), (w (.add (.c 8) (mi T))), (.c 4), (.a 8), (.c 0), (w (.add e2 (.c 4))), (.c 0)] (by kernel_rfl) (by kernel_rfl) (fun v hG => by kernel_rfl)
theorem r610_52 (val : Nat → Int) (h : Holds val (.ne (qu H) 2 :: .ne (qu H) 1 :: .ne (qu H) 0 :: .is (lo T) 5 :: .is (qu T) 2 :: .ne (qu T) 1 :: .ne (qu T) 0 :: .ne (mi T) 4 :: .is (lo H) 4 :: .ne (qu H) 3 :: pre 6 1 0)) (ht : Tabs 6 val) : Q val := leafR (by omega) h ht [(mi H), (.c (-1)), (.c 5), (.c 5), (.c 5), (w (.add (.c 8) (mi T))), (.c 4), (.c 0), (.c 0), e2, (.c 0)] (by kernel_rfl) (by kernel_rfl) (fun v hG => by kernel_rfl)
theorem r610_53 (val : Nat → Int) (h : Holds val (.is (qu H) 1 :: .ne (lo T) 5 :: .is (qu T) 2 :: .ne (qu T) 1 :: .ne (qu T) 0 :: .ne (mi T) 4 :: .is (lo H) 4 :: .ne (qu H) 3 :: pre 6 1 0)) (ht : Tabs 6 val) : Q val := leafR (by omega) h ht [(mi H), (.c (-1)), (.c 5), (w (.add (.c 0) (lo T))), (.c 5), (w (.add (.c 8) (mi T))), (.c 4), (.a 7), (.c 0), (w (.add e2 (.c 1))), (.c 0)] (by kernel_rfl) (by kernel_rfl) (fun v hG => by kernel_rfl)
theorem r610_54 (val : Nat → Int) (h : Holds val (.is (qu H) 2 :: .ne (qu H) 1 :: .ne (lo T) 5 :: .is (qu T) 2 :: .ne (qu T) 1 :: .ne (qu T) 0 :: .ne (mi T) 4 :: .is (lo H) 4 :: .ne (qu H) 3 :: pre 6 1 0)) (ht : Tabs 6 val) : Q val := leafR (by omega) h ht [(mi H), (.c (-1)), (.c 5), (w (.add (.c 0) (lo T))), (.c 5), (w (.add (.c 8) (mi T))), (.c 4), (.a 8), (.c 0), (w (.add e2 (.c 4))), (.c 0)] (by kernel_rfl) (by kernel_rfl) (fun v hG => by kernel_rfl)
theorem r610_55 (val : Nat → Int) (h : Holds val (.is (qu H) 0 :: .ne (qu H) 2 :: .ne (qu H) 1 :: .ne (lo T) 5 :: .is (qu T) 2 :: .ne (qu T) 1 :: .ne (qu T) 0 :: .ne (mi T) 4 :: .is (lo H) 4 :: .ne (qu H) 3 :: pre 6 1 0)) (ht : Tabs 6 val) : Q val := leafR (by omega) h ht [(mi H), (.c (-1)), (.c 5), (w (.add (.c 0) (lo T))), (.c 5), (w (.add (.c 8) (mi T))), (.c 4), (.c 0), (.c 0), e2, (.c 0)] (by kernel_rfl) (by kernel_rfl) (fun v hG => by kernel_rfl)
theorem r610_56 (val : Nat → Int) (h : Holds val (.ne (qu H) 0 :: .ne (qu H) 2 :: .ne (qu H) 1 :: .ne (lo T) 5 :: .is (qu T) 2 :: .ne (qu T) 1 :: .ne (qu T) 0 :: .ne (mi T) 4 :: .is (lo H) 4 :: .ne (qu H) 3 :: pre 6 1 0)) (ht : Tabs 6 val) : Q val := leafR (by omega) h ht [(mi H), (.c (-1)), (.c 5), (w (.add (.c 0) (lo T))), (.c 5), (w (.add (.c 8) (mi T))), (.c 4), (.c 0), (.c 0), e2, (.c 0)] (by kernel_rfl) (by kernel_rfl) (fun v hG => by kernel_rfl)
theorem r610_57 (val : Nat → Int) (h : Holds val (.is (qu H) 0 :: .is (lo T) 5 :: .ne (qu T) 2 :: .ne (qu T) 1 :: .ne (qu T) 0 :: .ne (mi T) 4 :: .is (lo H) 4 :: .ne (qu H) 3 :: pre 6 1 0)) (ht : Tabs 6 val) : Q val := leafR (by omega) h ht [(mi H), (.c (-1)), (.c 0), (.c 0), (.c 5), (w (.add (.c 8) (mi T))), (.c 8), (.a 8), (.c 0), (w (.add e2 (.c 4))), (.c 0)] (by kernel_rfl) (by kernel_rfl) (fun v hG => by kernel_rfl)
theorem r610_58 (val : Nat → Int) (h : Holds val (.is (qu H) 1 :: .ne (qu H) 0 :: .is (lo T) 5 :: .ne (qu T) 2 :: .ne (qu T) 1 :: .ne (qu T) 0 :: .ne (mi T) 4 :: .is (lo H) 4 :: .ne (qu H) 3 :: pre 6 1 0)) (ht : Tabs 6 val) : Q val := leafR (by omega) h ht [(mi H), (.c (-1)), (.c 5), (.c 5), (.c 5), (w (.add (.c 8) (mi T))), (.c 8), (.a 7), (.c 0), (w (.add e2 (.c 1))), (.c 0)] (by kernel_rfl) (by kernel_rfl) (fun v hG => by kernel_rfl)
theorem r610_59 (val : Nat → Int) (h : Holds val (.is (qu H) 2 :: .ne (qu H) 1 :: .ne (qu H) 0 :: .is (lo T) 5 :: .ne (qu T) 2 :: .ne (qu T) 1 :: .ne (qu T) 0 :: .ne (mi T) 4 :: .is (lo H) 4 :: .ne (qu H) 3 :: pre 6 1 0)) (ht : Tabs 6 val) : Q val := leafR (by omega) h ht [(mi H), (.c (-1)), (.c 5), (.c 5), (.c 5), (w (.add (.c 8) (mi T))), (.c 8), (.a 8), (.c 0), (w (.add e2 (.c 4))), (.c 0)] (by kernel_rfl) (by kernel_rfl) (fun v hG => by kernel_rfl)
theorem r610_60 (val : Nat → Int) (h : Holds val (.ne (qu H) 2 :: .ne (qu H) 1 :: .ne (qu H) 0 :: .is (lo T) 5 :: .ne (qu T) 2 :: .ne (qu T) 1 :: .ne (qu T) 0 :: .ne (mi T) 4 :: .is (lo H) 4 :: .ne (qu H) 3 :: pre 6 1 0)) (ht : Tabs 6 val) : Q val := leafR (by omega) h ht [(mi H), (.c (-1)), (.c 5), (.c 5), (.c 5), (w (.add (.c 8) (mi T))), (.c 8), (.c 0), (.c 0), e2, (.c 0)] (by kernel_rfl) (by kernel_rfl) (fun v hG => by kernel_rfl)
theorem r610_61 (val : Nat → Int) (h : Holds val (.is (qu H) 1 :: .ne (lo T) 5 :: .ne (qu T) 2 :: .ne (qu T) 1 :: .ne (qu T) 0 :: .ne (mi T) 4 :: .is (lo H) 4 :: .ne (qu H) 3 :: pre 6 1 0)) (ht : Tabs 6 val) : Q val := leafR (by omega) h ht [(mi H), (.c (-1)), (.c 5), (w (.add (.c 0) (lo T))), (.c 5), (w (.add (.c 8) (mi T))), (.c 8), (.a 7), (.c 0), (w (.add e2 (.c 1))), (.c 0)] (by kernel_rfl) (by kernel_rfl) (fun v hG => by kernel_rfl)
theorem r610_62 (val : Nat → Int) (h : Holds val (.is (qu H) 2 :: .ne (qu H) 1 :: .ne (lo T) 5 :: .ne (qu T) 2 :: .ne (qu T) 1 :: .ne (qu T) 0 :: .ne (mi T) 4 :: .is (lo H) 4 :: .ne (qu H) 3 :: pre 6 1 0)) (ht : Tabs 6 val) : Q val := leafR (by omega) h ht [(mi H), (.c (-1)), (.c 5), (w (.add (.c 0) (lo T))), (.c 5), (w (.add (.c 8) (mi T))), (.c 8), (.a 8), (.c 0), (w (.add e2 (.c 4))), (.c 0)] (by kernel_rfl) (by kernel_rfl) (fun v hG => by kernel_rfl)
theorem r610_63 (val : Nat → Int) (h : Holds val (.is (qu H) 0 :: .ne (qu H) 2 :: .ne (qu H) 1 :: .ne (lo T) 5 :: .ne (qu T) 2 :: .ne (qu T) 1 :: .ne (qu T) 0 :: .ne (mi T) 4 :: .is (lo H) 4 :: .ne (qu H) 3 :: pre 6 1 0)) (ht : Tabs 6 val) : Q val := leafR (by omega) h ht [(mi H), (.c (-1)), (.c 5), (w (.add (.c 0) (lo T))), (.c 5), (w (.add (.c 8) (mi T))), (.c 8), (.c 0), (.c 0), e2, (.c 0)] (by kernel_rfl) (by kernel_rfl) (fun v hG => by kernel_rfl)
theorem r610_64 (val : Nat → Int) (h : Holds val (.ne (qu H) 0 :: .ne (qu H) 2 :: .ne (qu H) 1 :: .ne (lo T) 5 :: .ne (qu T) 2 :: .ne (qu T) 1 :: .ne (qu T) 0 :: .ne (mi T) 4 :: .is (lo H) 4 :: .ne (qu H) 3 :: pre 6 1 0)) (ht : Tabs 6 val) : Q val := leafR (by omega) h ht [(mi H), (.c (-1)), (.c 5), (w (.add (.c 0) (lo T))), (.c 5), (w (.add (.c 8) (mi T))), (.c 8), (.c 0), (.c 0), e2, (.c 0)] (by kernel_rfl) (by kernel_rfl) (fun v hG => by kernel_rfl)
theorem r610_65 (val : Nat → Int) (h : Holds val (.ne (lo H) 4 :: .ne (qu H) 3 :: pre 6 1 0)) (ht : Tabs 6 val) : Q val := leafR (by omega) h ht [(.c 0), (.c 0), (.c 0), (.c 0), (.c 0), (.c 0), (.c 0), (.c 0), (.c 0), (.c 0), (.c 4)] (by kernel_rfl) (by kernel_rfl) (fun v hG => by kernel_rfl)

theorem r610 : DR 6 1 0 := fun val h ht =>
  by_way (.eq (qu H) (.c 3)) (.is (qu H) 3) (.ne (qu H) 3) (by kernel_rfl) (by kernel_rfl) h
  (fun h => r610_0 val h ht)
  (fun h => by_way (.eq (lo H) (.c 4)) (.is (lo H) 4) (.ne (lo H) 4) (by kernel_rfl) (by kernel_rfl) h
  (fun h => by_way (.eq (mi T) (.c 4)) (.is (mi T) 4) (.ne (mi T) 4) (by kernel_rfl) (by kernel_rfl) h
  (fun h => by_way (.eq (qu T) (.c 0)) (.is (qu T) 0) (.ne (qu T) 0) (by kernel_rfl) (by kernel_rfl) h
  (fun h => by_way (.eq (lo T) (.c 5)) (.is (lo T) 5) (.ne (lo T) 5) (by kernel_rfl) (by kernel_rfl) h
  (fun h => by_way (.eq (qu H) (.c 0)) (.is (qu H) 0) (.ne (qu H) 0) (by kernel_rfl) (by kernel_rfl) h
  (fun h => r610_1 val h ht)
  (fun h => by_way (.eq (qu H) (.c 1)) (.is (qu H) 1) (.ne (qu H) 1) (by kernel_rfl) (by kernel_rfl) h
  (fun h => r610_2 val h ht)
  (fun h => by_way (.eq (qu H) (.c 2)) (.is (qu H) 2) (.ne (qu H) 2) (by kernel_rfl) (by kernel_rfl) h
  (fun h => r610_3 val h ht)
  (fun h => r610_4 val h ht))))
  (fun h => by_way (.eq (qu H) (.c 1)) (.is (qu H) 1) (.ne (qu H) 1) (by kernel_rfl) (by kernel_rfl) h
  (fun h => r610_5 val h ht)
  (fun h => by_way (.eq (qu H) (.c 2)) (.is (qu H) 2) (.ne (qu H) 2) (by kernel_rfl) (by kernel_rfl) h
  (fun h => r610_6 val h ht)
  (fun h => by_way (.eq (qu H) (.c 0)) (.is (qu H) 0) (.ne (qu H) 0) (by kernel_rfl) (by kernel_rfl) h
  (fun h => r610_7 val h ht)
  (fun h => r610_8 val h ht)))))
  (fun h => by_way (.eq (qu T) (.c 1)) (.is (qu T) 1) (.ne (qu T) 1) (by kernel_rfl) (by kernel_rfl) h
  (fun h => by_way (.eq (lo T) (.c 5)) (.is (lo T) 5) (.ne (lo T) 5) (by kernel_rfl) (by kernel_rfl) h
  (fun h => by_way (.eq (qu H) (.c 0)) (.is (qu H) 0) (.ne (qu H) 0) (by kernel_rfl) (by kernel_rfl) h
  (fun h => r610_9 val h ht)
  (fun h => by_way (.eq (qu H) (.c 1)) (.is (qu H) 1) (.ne (qu H) 1) (by kernel_rfl) (by kernel_rfl) h
  (fun h => r610_10 val h ht)
  (fun h => by_way (.eq (qu H) (.c 2)) (.is (qu H) 2) (.ne (qu H) 2) (by kernel_rfl) (by kernel_rfl) h
  (fun h => r610_11 val h ht)
  (fun h => r610_12 val h ht))))
  (fun h => by_way (.eq (qu H) (.c 1)) (.is (qu H) 1) (.ne (qu H) 1) (by kernel_rfl) (by kernel_rfl) h
  (fun h => r610_13 val h ht)
  (fun h => by_way (.eq (qu H) (.c 2)) (.is (qu H) 2) (.ne (qu H) 2) (by kernel_rfl) (by kernel_rfl) h
  (fun h => r610_14 val h ht)
  (fun h => by_way (.eq (qu H) (.c 0)) (.is (qu H) 0) (.ne (qu H) 0) (by kernel_rfl) (by kernel_rfl) h
  (fun h => r610_15 val h ht)
  (fun h => r610_16 val h ht)))))
  (fun h => by_way (.eq (qu T) (.c 2)) (.is (qu T) 2) (.ne (qu T) 2) (by kernel_rfl) (by kernel_rfl) h
  (fun h => by_way (.eq (lo T) (.c 5)) (.is (lo T) 5) (.ne (lo T) 5) (by kernel_rfl) (by kernel_rfl) h
  (fun h => by_way (.eq (qu H) (.c 0)) (.is (qu H) 0) (.ne (qu H) 0) (by kernel_rfl) (by kernel_rfl) h
  (fun h => r610_17 val h ht)
  (fun h => by_way (.eq (qu H) (.c 1)) (.is (qu H) 1) (.ne (qu H) 1) (by kernel_rfl) (by kernel_rfl) h
  (fun h => r610_18 val h ht)
  (fun h => by_way (.eq (qu H) (.c 2)) (.is (qu H) 2) (.ne (qu H) 2) (by kernel_rfl) (by kernel_rfl) h
  (fun h => r610_19 val h ht)
  (fun h => r610_20 val h ht))))
  (fun h => by_way (.eq (qu H) (.c 1)) (.is (qu H) 1) (.ne (qu H) 1) (by kernel_rfl) (by kernel_rfl) h
  (fun h => r610_21 val h ht)
  (fun h => by_way (.eq (qu H) (.c 2)) (.is (qu H) 2) (.ne (qu H) 2) (by kernel_rfl) (by kernel_rfl) h
  (fun h => r610_22 val h ht)
  (fun h => by_way (.eq (qu H) (.c 0)) (.is (qu H) 0) (.ne (qu H) 0) (by kernel_rfl) (by kernel_rfl) h
  (fun h => r610_23 val h ht)
  (fun h => r610_24 val h ht)))))
  (fun h => by_way (.eq (lo T) (.c 5)) (.is (lo T) 5) (.ne (lo T) 5) (by kernel_rfl) (by kernel_rfl) h
  (fun h => by_way (.eq (qu H) (.c 0)) (.is (qu H) 0) (.ne (qu H) 0) (by kernel_rfl) (by kernel_rfl) h
  (fun h => r610_25 val h ht)
  (fun h => by_way (.eq (qu H) (.c 1)) (.is (qu H) 1) (.ne (qu H) 1) (by kernel_rfl) (by kernel_rfl) h
  (fun h => r610_26 val h ht)
  (fun h => by_way (.eq (qu H) (.c 2)) (.is (qu H) 2) (.ne (qu H) 2) (by kernel_rfl) (by kernel_rfl) h
  (fun h => r610_27 val h ht)
  (fun h => r610_28 val h ht))))
  (fun h => by_way (.eq (qu H) (.c 1)) (.is (qu H) 1) (.ne (qu H) 1) (by kernel_rfl) (by kernel_rfl) h
  (fun h => r610_29 val h ht)
  (fun h => by_way (.eq (qu H) (.c 2)) (.is (qu H) 2) (.ne (qu H) 2) (by kernel_rfl) (by kernel_rfl) h
  (fun h => r610_30 val h ht)
  (fun h => by_way (.eq (qu H) (.c 0)) (.is (qu H) 0) (.ne (qu H) 0) (by kernel_rfl) (by kernel_rfl) h
  (fun h => r610_31 val h ht)
  (fun h => r610_32 val h ht))))))))
  (fun h => by_way (.eq (qu T) (.c 0)) (.is (qu T) 0) (.ne (qu T) 0) (by kernel_rfl) (by kernel_rfl) h
  (fun h => by_way (.eq (lo T) (.c 5)) (.is (lo T) 5) (.ne (lo T) 5) (by kernel_rfl) (by kernel_rfl) h
  (fun h => by_way (.eq (qu H) (.c 0)) (.is (qu H) 0) (.ne (qu H) 0) (by kernel_rfl) (by kernel_rfl) h
  (fun h => r610_33 val h ht)
  (fun h => by_way (.eq (qu H) (.c 1)) (.is (qu H) 1) (.ne (qu H) 1) (by kernel_rfl) (by kernel_rfl) h
  (fun h => r610_34 val h ht)
  (fun h => by_way (.eq (qu H) (.c 2)) (.is (qu H) 2) (.ne (qu H) 2) (by kernel_rfl) (by kernel_rfl) h
  (fun h => r610_35 val h ht)
  (fun h => r610_36 val h ht))))
  (fun h => by_way (.eq (qu H) (.c 1)) (.is (qu H) 1) (.ne (qu H) 1) (by kernel_rfl) (by kernel_rfl) h
  (fun h => r610_37 val h ht)
  (fun h => by_way (.eq (qu H) (.c 2)) (.is (qu H) 2) (.ne (qu H) 2) (by kernel_rfl) (by kernel_rfl) h
  (fun h => r610_38 val h ht)
  (fun h => by_way (.eq (qu H) (.c 0)) (.is (qu H) 0) (.ne (qu H) 0) (by kernel_rfl) (by kernel_rfl) h
  (fun h => r610_39 val h ht)
  (fun h => r610_40 val h ht)))))
  (fun h => by_way (.eq (qu T) (.c 1)) (.is (qu T) 1) (.ne (qu T) 1) (by kernel_rfl) (by kernel_rfl) h
  (fun h => by_way (.eq (lo T) (.c 5)) (.is (lo T) 5) (.ne (lo T) 5) (by kernel_rfl) (by kernel_rfl) h
  (fun h => by_way (.eq (qu H) (.c 0)) (.is (qu H) 0) (.ne (qu H) 0) (by kernel_rfl) (by kernel_rfl) h
  (fun h => r610_41 val h ht)
  (fun h => by_way (.eq (qu H) (.c 1)) (.is (qu H) 1) (.ne (qu H) 1) (by kernel_rfl) (by kernel_rfl) h
  (fun h => r610_42 val h ht)
  (fun h => by_way (.eq (qu H) (.c 2)) (.is (qu H) 2) (.ne (qu H) 2) (by kernel_rfl) (by kernel_rfl) h
  (fun h => r610_43 val h ht)
  (fun h => r610_44 val h ht))))
  (fun h => by_way (.eq (qu H) (.c 1)) (.is (qu H) 1) (.ne (qu H) 1) (by kernel_rfl) (by kernel_rfl) h
  (fun h => r610_45 val h ht)
  (fun h => by_way (.eq (qu H) (.c 2)) (.is (qu H) 2) (.ne (qu H) 2) (by kernel_rfl) (by kernel_rfl) h
  (fun h => r610_46 val h ht)
  (fun h => by_way (.eq (qu H) (.c 0)) (.is (qu H) 0) (.ne (qu H) 0) (by kernel_rfl) (by kernel_rfl) h
  (fun h => r610_47 val h ht)
  (fun h => r610_48 val h ht)))))
  (fun h => by_way (.eq (qu T) (.c 2)) (.is (qu T) 2) (.ne (qu T) 2) (by kernel_rfl) (by kernel_rfl) h
  (fun h => by_way (.eq (lo T) (.c 5)) (.is (lo T) 5) (.ne (lo T) 5) (by kernel_rfl) (by kernel_rfl) h
  (fun h => by_way (.eq (qu H) (.c 0)) (.is (qu H) 0) (.ne (qu H) 0) (by kernel_rfl) (by kernel_rfl) h
  (fun h => r610_49 val h ht)
  (fun h => by_way (.eq (qu H) (.c 1)) (.is (qu H) 1) (.ne (qu H) 1) (by kernel_rfl) (by kernel_rfl) h
  (fun h => r610_50 val h ht)
  (fun h => by_way (.eq (qu H) (.c 2)) (.is (qu H) 2) (.ne (qu H) 2) (by kernel_rfl) (by kernel_rfl) h
  (fun h => r610_51 val h ht)
  (fun h => r610_52 val h ht))))
  (fun h => by_way (.eq (qu H) (.c 1)) (.is (qu H) 1) (.ne (qu H) 1) (by kernel_rfl) (by kernel_rfl) h
  (fun h => r610_53 val h ht)
  (fun h => by_way (.eq (qu H) (.c 2)) (.is (qu H) 2) (.ne (qu H) 2) (by kernel_rfl) (by kernel_rfl) h
  (fun h => r610_54 val h ht)
  (fun h => by_way (.eq (qu H) (.c 0)) (.is (qu H) 0) (.ne (qu H) 0) (by kernel_rfl) (by kernel_rfl) h
  (fun h => r610_55 val h ht)
  (fun h => r610_56 val h ht)))))
  (fun h => by_way (.eq (lo T) (.c 5)) (.is (lo T) 5) (.ne (lo T) 5) (by kernel_rfl) (by kernel_rfl) h
  (fun h => by_way (.eq (qu H) (.c 0)) (.is (qu H) 0) (.ne (qu H) 0) (by kernel_rfl) (by kernel_rfl) h
  (fun h => r610_57 val h ht)
  (fun h => by_way (.eq (qu H) (.c 1)) (.is (qu H) 1) (.ne (qu H) 1) (by kernel_rfl) (by kernel_rfl) h
  (fun h => r610_58 val h ht)
  (fun h => by_way (.eq (qu H) (.c 2)) (.is (qu H) 2) (.ne (qu H) 2) (by kernel_rfl) (by kernel_rfl) h
  (fun h => r610_59 val h ht)
  (fun h => r610_60 val h ht))))
  (fun h => by_way (.eq (qu H) (.c 1)) (.is (qu H) 1) (.ne (qu H) 1) (by kernel_rfl) (by kernel_rfl) h
  (fun h => r610_61 val h ht)
  (fun h => by_way (.eq (qu H) (.c 2)) (.is (qu H) 2) (.ne (qu H) 2) (by kernel_rfl) (by kernel_rfl) h
  (fun h => r610_62 val h ht)
  (fun h => by_way (.eq (qu H) (.c 0)) (.is (qu H) 0) (.ne (qu H) 0) (by kernel_rfl) (by kernel_rfl) h
  (fun h => r610_63 val h ht)
  (fun h => r610_64 val h ht)))))))))
  (fun h => r610_65 val h ht))

theorem r600_0 (val : Nat → Int) (h : Holds val (.is (qu H) 3 :: pre 6 0 0)) (ht : Tabs 6 val) : Q val := leafR (by omega) h ht [(mi H), (w (.add (.c 0) (lo H))), (.c 0), (.c 0), (.c 0), (.c 0), (.c 0), (.c 0), (.c 0), e1, (.c 0)] (by kernel_rfl) (by kernel_rfl) (fun v hG => by kernel_rfl)
theorem r600_1 (val : Nat → Int) (h : Holds val (.is (qu H) 0 :: .is (lo T) 5 :: .is (qu T) 0 :: .is (mi T) 4 :: .is (lo H) 4 :: .ne (qu H) 3 :: pre 6 0 0)) (ht : Tabs 6 val) : Q val := leafR (by omega) h ht [(mi H), (.c (-1)), (.c 0), (.c 0), (.c 0), (.c 0), (.c 0), (.a 8), (.c 0), (w (.add e2 (.c 4))), (.c 0)] (by kernel_rfl) (by kernel_rfl) (fun v hG => by kernel_rfl)
theorem r600_2 (val : Nat → Int) (h : Holds val (.is (qu H) 1 :: .ne (qu H) 0 :: .is (lo T) 5 :: .is (qu T) 0 :: .is (mi T) 4 :: .is (lo H) 4 :: .ne (qu H) 3 :: pre 6 0 0)) (ht : Tabs 6 val) : Q val := leafR (by omega) h ht [(mi H), (.c (-1)), (.c 5), (.c 5), (.c 0), (.c 0), (.c 0), (.a 7), (.c 0), (w (.add e2 (.c 1))), (.c 0)] (by kernel_rfl) (by kernel_rfl) (fun v hG => by kernel_rfl)
theorem r600_3 (val : Nat → Int) (h : Holds val (.is (qu H) 2 :: .ne (qu H) 1 :: .ne (qu H) 0 :: .is (lo T) 5 :: .is (qu T) 0 :: .is (mi T) 4 :: .is (lo H) 4 :: .ne (qu H) 3 :: pre 6 0 0)) (ht : Tabs 6 val) : Q val := leafR (by omega) h ht [(mi H), (.c (-1)), (.c 5), (.c 5), (.c 0), (.c 0), (.c 0), (.a 8), (.c 0), (w (.add e2 (.c 4))), (.c 0)] (by kernel_rfl) (by kernel_rfl) (fun v hG => by kernel_rfl)
theorem r600_4 (val : Nat → Int) (h : Holds val (.ne (qu H) 2 :: .ne (qu H) 1 :: .ne (qu H) 0 :: .is (lo T) 5 :: .is (qu T) 0 :: .is (mi T) 4 :: .is (lo H) 4 :: .ne (qu H) 3 :: pre 6 0 0)) (ht : Tabs 6 val) : Q val := leafR (by omega) h ht [(mi H), (.c (-1)), (.c 5), (.c 5), (.c 0), (.c 0), (.c 0), (.c 0), (.c 0), e2, (.c 0)] (by kernel_rfl) (by kernel_rfl) (fun v hG => by kernel_rfl)
theorem r600_5 (val : Nat → Int) (h : Holds val (.is (qu H) 1 :: .ne (lo T) 5 :: .is (qu T) 0 :: .is (mi T) 4 :: .is (lo H) 4 :: .ne (qu H) 3 :: pre 6 0 0)) (ht : Tabs 6 val) : Q val := leafR (by omega) h ht [(mi H), (.c (-1)), (.c 5), (w (.add (.c 0) (lo T))), (.c 0), (.c 0), (.c 0), (.a 7), (.c 0), (w (.add e2 (.c 1))), (.c 0)] (by kernel_rfl) (by kernel_rfl) (fun v hG => by kernel_rfl)
theorem r600_6 (val : Nat → Int) (h : Holds val (.is (qu H) 2 :: .ne (qu H) 1 :: .ne (lo T) 5 :: .is (qu T) 0 :: .is (mi T) 4 :: .is (lo H) 4 :: .ne (qu H) 3 :: pre 6 0 0)) (ht : Tabs 6 val) : Q val := leafR (by omega) h ht [(mi H), (.c (-1)), (.c 5), (w (.add (.c 0) (lo T))), (.c 0), (.c 0), (.c 0), (.a 8), (.c 0), (w (.add e2 (.c 4))), (.c 0)] (by kernel_rfl) (by kernel_rfl) (fun v hG => by kernel_rfl)
theorem r600_7 (val : Nat → Int) (h : Holds val (.is (qu H) 0 :: .ne (qu H) 2 :: .ne (qu H) 1 :: .ne (lo T) 5 :: .is (qu T) 0 :: .is (mi T) 4 :: .is (lo H) 4 :: .ne (qu H) 3 :: pre 6 0 0)) (ht : Tabs 6 val) : Q val := leafR (by omega) h ht [(mi H), (.c (-1)), (.c 5), (w (.add (.c 0) (lo T))), (.c 0), (.c 0), (.c 0), (.c 0), (.c 0), e2, (.c 0)] (by kernel_rfl) (by kernel_rfl) (fun v hG => by kernel_rfl)
theorem r600_8 (val : Nat → Int) (h : Holds val (.ne (qu H) 0 :: .ne (qu H) 2 :: .ne (qu H) 1 :: .ne (lo T) 5 :: .is (qu T) 0 :: .is (mi T) 4 :: .is (lo H) 4 :: .ne (qu H) 3 :: pre 6 0 0)) (ht : Tabs 6 val) : Q val := leafR (by omega) h ht [(mi H), (.c (-1)), (.c 5), (w (.add (.c 0) (lo T))), (.c 0), (.c 0), (.c 0), (.c 0), (.c 0), e2, (.c 0)] (by kernel_rfl) (by kernel_rfl) (fun v hG => by kernel_rfl)
theorem r600_9 (val : Nat → Int) (h : Holds val (.ne (qu T) 0 :: .is (mi T) 4 :: .is (lo H) 4 :: .ne (qu H) 3 :: pre 6 0 0)) (ht : Tabs 6 val) : Q val := leafR (by omega) h ht [(.c 0), (.c 0), (.c 0), (.c 0), (.c 0), (.c 0), (.c 0), (.c 0), (.c 0), (.c 0), (.c 4)] (by kernel_rfl) (by kernel_rfl) (fun v hG => by kernel_rfl)
theorem r600_10 (val : Nat → Int) (h : Holds val (.is (qu H) 0 :: .is (lo T) 5 :: .is (qu T) 0 :: .ne (mi T) 4 :: .is (lo H) 4 :: .ne (qu H) 3 :: pre 6 0 0)) (ht : Tabs 6 val) : Q val := leafR (by omega) h ht [(mi H), (.c (-1)), (.c 5), (w (.add (.c 0) (mi T))), (.c 0), (.c 0), (.c 0), (.a 8), (.c 0), (w (.add e2 (.c 4))), (.c 0)] (by kernel_rfl) (by kernel_rfl) (fun v hG => by kernel_rfl)
theorem r600_11 (val : Nat → Int) (h : Holds val (.is (qu H) 1 :: .ne (qu H) 0 :: .is (lo T) 5 :: .is (qu T) 0 :: .ne (mi T) 4 :: .is (lo H) 4 :: .ne (qu H) 3 :: pre 6 0 0)) (ht : Tabs 6 val) : Q val := leafR (by omega) h ht [(mi H), (.c (-1)), (.c 5), (.c 5), (.c 5), (w (.add (.c 0) (mi T))), (.c 1), (.a 7), (.c 0), (w (.add e2 (.c 1))), (.c 0)] (by kernel_rfl) (by kernel_rfl) (fun v hG => by kernel_rfl)
theorem r600_12 (val : Nat → Int) (h : Holds val (.is (qu H) 2 :: .ne (qu H) 1 :: .ne (qu H) 0 :: .is (lo T) 5 :: .is (qu T) 0 :: .ne (mi T) 4 :: .is (lo H) 4 :: .ne (qu H) 3 :: pre 6 0 0)) (ht : Tabs 6 val) : Q val := leafR (by omega) h ht [(mi H), (.c (-1)), (.c 5), (.c 5), (.c 5), (w (.add (.c 0) (mi T))), (.c 1), (.a 8), (.c 0), (w (.add e2 (.c 4))), (.c 0)] (by kernel_rfl) (by kernel_rfl) (fun v hG => by kernel_rfl)
theorem r600_13 (val : Nat → Int) (h : Holds val (.ne (qu H) 2 :: .ne (qu H) 1 :: .ne (qu H) 0 :: .is (lo T) 5 :: .is (qu T) 0 :: .ne (mi T) 4 :: .is (lo H) 4 :: .ne (qu H) 3 :: pre 6 0 0)) (ht : Tabs 6 val) : Q val := leafR (by omega) h ht [(mi H), (.c (-1)), (.c 5), (.c 5), (.c 5), (w (.add (.c 0) (mi T))), (.c 1), (.c 0), (.c 0), e2, (.c 0)] (by kernel_rfl) (by kernel_rfl) (fun v hG => by kernel_rfl)
theorem r600_14 (val : Nat → Int) (h : Holds val (.is (qu H) 1 :: .ne (lo T) 5 :: .is (qu T) 0 :: .ne (mi T) 4 :: .is (lo H) 4 :: .ne (qu H) 3 :: pre 6 0 0)) (ht : Tabs 6 val) : Q val := leafR (by omega) h ht [(mi H), (.c (-1)), (.c 5), (w (.add (.c 0) (lo T))), (.c 5), (w (.add (.c 0) (mi T))), (.c 1), (.a 7), (.c 0), (w (.add e2 (.c 1))), (.c 0)] (by kernel_rfl) (by kernel_rfl) (fun v hG => by kernel_rfl)
theorem r600_15 (val : Nat → Int) (h : Holds val (.is (qu H) 2 :: .ne (qu H) 1 :: .ne (lo T) 5 :: .is (qu T) 0 :: .ne (mi T) 4 :: .is (lo H) 4 :: .ne (qu H) 3 :: pre 6 0 0)) (ht : Tabs 6 val) : Q val := leafR (by omega) h ht [(mi H), (.c (-1)), (.c 5), (w (.add (.c 0) (lo T))), (.c 5), (w (.add (.c 0) (mi T))), (.c 1), (.a 8), (.c 0), (w (.add e2 (.c 4))), (.c 0)] (by kernel_rfl) (by kernel_rfl) (fun v hG => by kernel_rfl)
theorem r600_16 (val : Nat → Int) (h : Holds val (.is (qu H) 0 :: .ne (qu H) 2 :: .ne (qu H) 1 :: .ne (lo T) 5 :: .is (qu T) 0 :: .ne (mi T) 4 :: .is (lo H) 4 :: .ne (qu H) 3 :: pre 6 0 0)) (ht : Tabs 6 val) : Q val := leafR (by omega) h ht [(mi H), (.c (-1)), (.c 5), (w (.add (.c 0) (lo T))), (.c 5), (w (.add (.c 0) (mi T))), (.c 1), (.c 0), (.c 0), e2, (.c 0)] (by kernel_rfl) (by kernel_rfl) (fun v hG => by kernel_rfl)
theorem r600_17 (val : Nat → Int) (h : Holds val (.ne (qu H) 0 :: .ne (qu H) 2 :: .ne (qu H) 1 :: .ne (lo T) 5 :: .is (qu T) 0 :: .ne (mi T) 4 :: .is (lo H) 4 :: .ne (qu H) 3 :: pre 6 0 0)) (ht : Tabs 6 val) : Q val := leafR (by omega) h ht [(mi H), (.c (-1)), (.c 5), (w (.add (.c 0) (lo T))), (.c 5), (w (.add (.c 0) (mi T))), (.c 1), (.c 0), (.c 0), e2, (.c 0)] (by kernel_rfl) (by kernel_rfl) (fun v hG => by kernel_rfl)
theorem r600_18 (val : Nat → Int) (h : Holds val (.is (qu H) 0 :: .is (lo T) 5 :: .is (qu T) 1 :: .ne (qu T) 0 :: .ne (mi T) 4 :: .is (lo H) 4 :: .ne (qu H) 3 :: pre 6 0 0)) (ht : Tabs 6 val) : Q val := leafR (by omega) h ht [(mi H), (.c (-1)), (.c 0), (.c 0), (.c 5), (w (.add (.c 0) (mi T))), (.c 2), (.a 8), (.c 0), (w (.add e2 (.c 4))), (.c 0)] (by kernel_rfl) (by kernel_rfl) (fun v hG => by kernel_rfl)
theorem r600_19 (val : Nat → Int) (h : Holds val (.is (qu H) 1 :: .ne (qu H) 0 :: .is (lo T) 5 :: .is (qu T) 1 :: .ne (qu T) 0 :: .ne (mi T) 4 :: .is (lo H) 4 :: .ne (qu H) 3 :: pre 6 0 0)) (ht : Tabs 6 val) : Q val := leafR (by omega) h ht [(mi H), (.c (-1)), (.c 5), (.c 5), (.c 5), (w (.add (.c 0) (mi T))), (.c 2), (.a 7), (.c 0), (w (.add e2 (.c 1))), (.c 0)] (by kernel_rfl) (by kernel_rfl) (fun v hG => by kernel_rfl)
theorem r600_20 (val : Nat → Int) (h : Holds val (.is (qu H) 2 :: .ne (qu H) 1 :: .ne (qu H) 0 :: .is (lo T) 5 :: .is (qu T) 1 :: .ne (qu T) 0 :: .ne (mi T) 4 :: .is (lo H) 4 :: .ne (qu H) 3 :: pre 6 0 0)) (ht : Tabs 6 val) : Q val := leafR (by omega) h ht [(mi H), (.c (-1)), (.c 5), (.c 5), (.c 5), (w (.add (.c 0) (mi T))), (.c 2), (.a 8), (.c 0), (w (.add e2 (.c 4))), (.c 0)] (by kernel_rfl) (by kernel_rfl) (fun v hG => by kernel_rfl)
theorem r600_21 (val : Nat → Int) (h : Holds val (.ne (qu H) 2 :: .ne (qu H) 1 :: .ne (qu H) 0 :: .is (lo T) 5 :: .is (qu T) 1 :: .ne (qu T) 0 :: .ne (mi T) 4 :: .is (lo H) 4 :: .ne (qu H) 3 :: pre 6 0 0)) (ht : Tabs 6 val) : Q val := leafR (by omega) h ht [(mi H), (.c (-1)), (.c 5), (.c 5), (.c 5), (w (.add (.c 0) (mi T))), (.c 2), (.c 0), (.c 0), e2, (.c 0)] (by kernel_rfl) (by kernel_rfl) (fun v hG => by kernel_rfl)
theorem r600_22 (val : Nat → Int) (h : Holds val (.is (qu H) 1 :: .ne (lo T) 5 :: .is (qu T) 1 :: .ne (qu T) 0 :: .ne (mi T) 4 :: .is (lo H) 4 :: .ne (qu H) 3 :: pre 6 0 0)) (ht : Tabs 6 val) : Q val := leafR (by omega) h ht [(mi H), (.c (-1)), (.c 5), (w (.add (.c 0) (lo T))), (.c 5), (w (.add (.c 0) (mi T))), (.c 2), (.a 7), (.c 0), (w (.add e2 (.c 1))), (.c 0)] (by kernel_rfl) (by kernel_rfl) (fun v hG => by kernel_rfl)
theorem r600_23 (val : Nat → Int) (h : Holds val (.is (qu H) 2 :: .ne (qu H) 1 :: .ne (lo T) 5 :: .is (qu T) 1 :: .ne (qu T) 0 :: .ne (mi T) 4 :: .is (lo H) 4 :: .ne (qu H) 3 :: pre 6 0 0)) (ht : Tabs 6 val) : Q val := leafR (by omega) h ht [(mi H), (.c (-1)), (.c 5), (w (.add (.c 0) (lo T))), (.c 5), (w (.add (.c 0) (mi T))), (.c 2), (.a 8), (.c 0), (w (.add e2 (.c 4))), (.c 0)] (by kernel_rfl) (by kernel_rfl) (fun v hG => by kernel_rfl)
theorem r600_24 (val : Nat → Int) (h : Holds val (.is (qu H) 0 :: .ne (qu H) 2 :: .ne (qu H) 1 :: .ne (lo T) 5 :: .is (qu T) 1 :: .ne (qu T) 0 :: .ne (mi T) 4 :: .is (lo H) 4 :: .ne (qu H) 3 :: pre 6 0 0)) (ht : Tabs 6 val) : Q val := leafR (by omega) h ht [(mi H), (.c (-1)), (.c 5), (w (.add (.c 0) (lo T))), (.c 5), (w (.add (.c 0) (mi T))), (.c 2), (.c 0), (.c 0), e2, (.c 0)] (by kernel_rfl) (by kernel_rfl) (fun v hG => by kernel_rfl)
theorem r600_25 (val : Nat → Int) (h : Holds val (.ne (qu H) 0 :: .ne (qu H) 2 :: .ne (qu H) 1 :: .ne (lo T) 5 :: .is (qu T) 1 :: .ne (qu T) 0 :: .ne (mi T) 4 :: .is (lo H) 4 :: .ne (qu H) 3 :: pre 6 0 0)) (ht : Tabs 6 val) : Q val := leafR (by omega) h ht [(mi H), (.c (-1)), (.c 5), (w (.add (.c 0) (lo T))), (.c 5), (w (.add (.c 0) (mi T))), (.c 2), (.c 0), (.c 0), e2, (.c 0)] (by kernel_rfl) (by kernel_rfl) (fun v hG => by kernel_rfl)
theorem r600_26 (val : Nat → Int) (h : Holds val (.is (qu H) 0 :: .is (lo T) 5 :: .is (qu T) 2 :: .ne (qu T) 1 :: .ne (qu T) 0 :: .ne (mi T) 4 :: .is (lo H) 4 :: .ne (qu H) 3 :: pre 6 0 0)) (ht : Tabs 6 val) : Q val := leafR (by omega) h ht [(mi H), (.c (-1)), (.c 0), (.c 0), (.c 5), (w (.add (.c 0) (mi T))), (.c 4), (.a 8), (.c 0), (w (.add e2 (.c 4))), (.c 0)] (by kernel_rfl) (by kernel_rfl) (fun v hG => by kernel_rfl)
theorem r600_27 (val : Nat → Int) (h : Holds val (.is (qu H) 1 :: .ne (qu H) 0 :: .is (lo T) 5 :: .is (qu T) 2 :: .ne (qu T) 1 :: .ne (qu T) 0 :: .ne (mi T) 4 :: .is (lo H) 4 :: .ne (qu H) 3 :: pre 6 0 0)) (ht : Tabs 6 val) : Q val := leafR (by omega) h ht [(mi H), (.c (-1)), (.c 5), (.c 5), (.c 5), (w (.add (.c 0) (mi T))), (.c 4), (.a 7), (.c 0), (w (.add e2 (.c 1))), (.c 0)] (by kernel_rfl) (by kernel_rfl) (fun v hG => by kernel_rfl)
theorem r600_28 (val : Nat → Int) (h : Holds val (.is (qu H) 2 :: .ne (qu H) 1 :: .ne (qu H) 0 :: .is (lo T) 5 :: .is (qu T) 2 :: .ne (qu T) 1 :: .ne (qu T) 0 :: .ne (mi T) 4 :: .is (lo H) 4 :: .ne (qu H) 3 :: pre 6 0 0)) (ht : Tabs 6 val) : Q val := leafR (by omega) h ht [(mi H), (.c (-1)), (.c 5), (.c 5), (.c 5), (w (.add (.c 0) (mi T))), (.c 4), (.a 8), (.c 0), (w (.add e2 (.c 4))), (.c 0)] (by kernel_rfl) (by kernel_rfl) (fun v hG => by kernel_rfl)
theorem r600_29 (val : Nat → Int) (h : Holds val (.ne (qu H) 2 :: .ne (qu H) 1 :: .ne (qu H) 0 :: .is (lo T) 5 :: .is (qu T) 2 :: .ne (qu T) 1 :: .ne (qu T) 0 :: .ne (mi T) 4 :: .is (lo H) 4 :: .ne (qu H) 3 :: pre 6 0 0)) (ht : Tabs 6 val) : Q val := leafR (by omega) h ht [(mi H), (.c (-1)), (.c 5), (.c 5), (.c 5), (w (.add (.c 0) (mi T))), (.c 4), (.c 0), (.c 0), e2, (.c 0)] (by kernel_rfl) (by kernel_rfl) (fun v hG => by kernel_rfl)
theorem r600_30 (val : Nat → Int) (h : Holds val (.is (qu H) 1 :: .ne (lo T) 5 :: .is (qu T) 2 :: .ne (qu T) 1 :: .ne (qu T) 0 :: .ne (mi T) 4 :: .is (lo H) 4 :: .ne (qu H) 3 :: pre 6 0 0)) (ht : Tabs 6 val) : Q val := leafR (by omega) h ht [(mi H), (.c (-1)), (.c 5), (w (.add (.c 0) (lo T))), (.c 5), (w (.add (.c 0) (mi T))), (.c 4), (.a 7), (.c 0), (w (.add e2 (.c 1))), (.c 0)] (by kernel_rfl) (by kernel_rfl) (fun v hG => by kernel_rfl)
theorem r600_31 (val : Nat → Int) (h : Holds val (.is (qu H) 2 :: .ne (qu H) 1 :: .ne (lo T) 5 :: .is (qu T) 2 :: .ne (qu T) 1 :: .ne (qu T) 0 :: .ne (mi T) 4 :: .is (lo H) 4 :: .ne (qu H) 3 :: pre 6 0 0)) (ht : Tabs 6 val) : Q val := leafR (by omega) h ht [(mi H), (.c (-1)), (.c 5), (w (.add (.c 0) (lo T))), (.c 5), (w (.add (.c 0) (mi T))), (.c 4), (.a 8), (.c 0), (w (.add e2 (.c 4))), (.c 0)] (by kernel_rfl) (by kernel_rfl) (fun v hG => by kernel_rfl)
theorem r600_32 (val : Nat → Int) (h : Holds val (.is (qu H) 0 :: .ne (qu H) 2 :: .ne (qu H) 1 :: .ne (lo T) 5 :: .is (qu T) 2 :: .ne (qu T) 1 :: .ne (qu T) 0 :: .ne (mi T) 4 :: .is (lo H) 4 :: .ne (qu H) 3 :: pre 6 0 0)) (ht : Tabs 6 val) : Q val := leafR (by omega) h ht [(mi H), (.c (-1)), (.c 5), (w (.add (.c 0) (lo T))), (.c 5), (w (.add (.c 0) (mi T))), (.c 4), (.c 0), (.c 0), e2, (.c 0)] (by kernel_rfl) (by kernel_rfl) (fun v hG => by kernel_rfl)
theorem r600_33 (val : Nat → Int) (h : Holds val (.ne (qu H) 0 :: .ne (qu H) 2 :: .ne (qu H) 1 :: .ne (lo T) 5 :: .is (qu T) 2 :: .ne (qu T) 1 :: .ne (qu T) 0 :: .ne (mi T) 4 :: .is (lo H) 4 :: .ne (qu H) 3 :: pre 6 0 0)) (ht : Tabs 6 val) : Q val := leafR (by omega) h ht [(mi H), (.c (-1)), (.c 5), (w (.add (.c 0) (lo T))), (.c 5), (w (.add (.c 0) (mi T))), (.c 4), (.c 0), (.c 0), e2, (.c 0)] (by kernel_rfl) (by kernel_rfl) (fun v hG => by kernel_rfl)
theorem r600_34 (val : Nat → Int) (h : Holds val (.is (qu H) 0 :: .is (lo T) 5 :: .ne (qu T) 2 :: .ne (qu T) 1 :: .ne (qu T) 0 :: .ne (mi T) 4 :: .is (lo H) 4 :: .ne (qu H) 3 :: pre 6 0 0)) (ht : Tabs 6 val) : Q val := leafR (by omega) h ht [(mi H), (.c (-1)), (.c 0), (.c 0), (.c 5), (w (.add (.c 0) (mi T))), (.c 8), (.a 8), (.c 0), (w (.add e2 (.c 4))), (.c 0)] (by kernel_rfl) (by kernel_rfl) (fun v hG => by kernel_rfl)
theorem r600_35 (val : Nat → Int) (h : Holds val (.is (qu H) 1 :: .ne (qu H) 0 :: .is (lo T) 5 :: .ne (qu T) 2 :: .ne (qu T) 1 :: .ne (qu T) 0 :: .ne (mi T) 4 :: .is (lo H) 4 :: .ne (qu H) 3 :: pre 6 0 0)) (ht : Tabs 6 val) : Q val := leafR (by omega) h ht [(mi H), (.c (-1)), (.c 5), (.c 5), (.c 5), (w (.add (.c 0) (mi T))), (.c 8), (.a 7), (.c 0), (w (.add e2 (.c 1))), (.c 0)] (by kernel_rfl) (by kernel_rfl) (fun v hG => by kernel_rfl)
theorem r600_36 (val : Nat → Int) (h : Holds val (.is (qu H) 2 :: .ne (qu H) 1 :: .ne (qu H) 0 :: .is (lo T) 5 :: .ne (qu T) 2 :: .ne (qu T) 1 :: .ne (qu T) 0 :: .ne (mi T) 4 :: .is (lo H) 4 :: .ne (qu H) 3 :: pre 6 0 0)) (ht : Tabs 6 val) : Q val := leafR (by omega) h ht [(mi H), (.c (-1)), (.c 5), (.c 5), (.c 5), (w (.add (.c 0) (mi T))), (.c 8), (.a 8), (.c 0), (w (.add e2 (.c 4))), (.c 0)] (by kernel_rfl) (by kernel_rfl) (fun v hG => by kernel_rfl)
theorem r600_37 (val : Nat → Int) (h : Holds val (.ne (qu H) 2 :: .ne (qu H) 1 :: .ne (qu H) 0 :: .is (lo T) 5 :: .ne (qu T) 2 :: .ne (qu T) 1 :: .ne (qu T) 0 :: .ne (mi T) 4 :: .is (lo H) 4 :: .ne (qu H) 3 :: pre 6 0 0)) (ht : Tabs 6 val) : Q val := leafR (by omega) h ht [(mi H), (.c (-1)), (.c 5), (.c 5), (.c 5), (w (.add (.c 0) (mi T))), (.c 8), (.c 0), (.c 0), e2, (.c 0)] (by kernel_rfl) (by kernel_rfl) (fun v hG => by kernel_rfl)
theorem r600_38 (val : Nat → Int) (h : Holds val (.is (qu H) 1 :: .ne (lo T) 5 :: .ne (qu T) 2 :: .ne (qu T) 1 :: .ne (qu T) 0 :: .ne (mi T) 4 :: .is (lo H) 4 :: .ne (qu H) 3 :: pre 6 0 0)) (ht : Tabs 6 val) : Q val := leafR (by omega) h ht [(mi H), (.c (-1)), (.c 5), (w (.add (.c 0) (lo T))), (.c 5), (w (.add (.c 0) (mi T))), (.c 8), (.a 7), (.c 0), (w (.add e2 (.c 1))), (.c 0)] (by kernel_rfl) (by kernel_rfl) (fun v hG => by kernel_rfl)
theorem r600_39 (val : Nat → Int) (h : Holds val (.is (qu H) 2 :: .ne (qu H) 1 :: .ne (lo T) 5 :: .ne (qu T) 2 :: .ne (qu T) 1 :: .ne (qu T) 0 :: .ne (mi T) 4 :: .is (lo H) 4 :: .ne (qu H) 3 :: pre 6 0 0)) (ht : Tabs 6 val) : Q val := leafR (by omega) h ht [(mi H), (.c (-1)), (.c 5), (w (.add (.c 0) (lo T))), (.c 5), (w (.add (.c 0) (mi T))), (.c 8), (.a 8), (.c 0), (w (.add e2 (.c 4))), (.c 0)] (by kernel_rfl) (by kernel_rfl) (fun v hG => by kernel_rfl)
theorem r600_40 (val : Nat → Int) (h : Holds val (.is (qu H) 0 :: .ne (qu H) 2 :: .ne (qu H) 1 :: .ne (lo T) 5 :: .ne (qu T) 2 :: .ne (qu T) 1 :: .ne (qu T) 0 :: .ne (mi T) 4 :: .is (lo H) 4 :: .ne (qu H) 3 :: pre 6 0 0)) (ht : Tabs 6 val) : Q val := leafR (by omega) h ht [(mi H), (.c (-1)), (.c 5), (w (.add (.c 0) (lo T))), (.c 5), (w (.add (.c 0) (mi T))), (.c 8), (.c 0), (.c 0), e2, (.c 0)] (by kernel_rfl) (by kernel_rfl) (fun v hG => by kernel_rfl)
theorem r600_41 (val : Nat → Int) (h : Holds val (.ne (qu H) 0 :: .ne (qu H) 2 :: .ne (qu H) 1 :: .ne (lo T) 5 :: .ne (qu T) 2 :: .ne (qu T) 1 :: .ne (qu T) 0 :: .ne (mi T) 4 :: .is (lo H) 4 :: .ne (qu H) 3 :: pre 6 0 0)) (ht : Tabs 6 val) : Q val := leafR (by omega) h ht [(mi H), (.c (-1)), (.c 5), (w (.add (.c 0) (lo T))), (.c 5), (w (.add (.c 0) (mi T))), (.c 8), (.c 0), (.c 0), e2, (.c 0)] (by kernel_rfl) (by kernel_rfl) (fun v hG => by kernel_rfl)
theorem r600_42 (val : Nat → Int) (h : Holds val (.is (lo H) 5 :: .is (qu H) 0 :: .ne (lo H) 4 :: .ne (qu H) 3 :: pre 6 0 0)) (ht : Tabs 6 val) : Q val := leafR (by omega) h ht [(mi H), (.c (-1)), (.c 8), (.c 0), (.c 0), (.c 0), (.c 0), (.a 6), (.c 0), (w (.add e1 (.c 4))), (.c 0)] (by kernel_rfl) (by kernel_rfl) (fun v hG => by kernel_rfl)
theorem r600_43 (val : Nat → Int) (h : Holds val (.ne (lo H) 5 :: .is (qu H) 0 :: .ne (lo H) 4 :: .ne (qu H) 3 :: pre 6 0 0)) (ht : Tabs 6 val) : Q val := leafR (by omega) h ht [(mi H), (.c (-1)), (.c 5), (w (.add (.c 0) (lo H))), (.c 0), (.c 0), (.c 0), (.c 0), (.c 0), e1, (.c 0)] (by kernel_rfl) (by kernel_rfl) (fun v hG => by kernel_rfl)
theorem r600_44 (val : Nat → Int) (h : Holds val (.is (qu H) 1 :: .ne (qu H) 0 :: .ne (lo H) 4 :: .ne (qu H) 3 :: pre 6 0 0)) (ht : Tabs 6 val) : Q val := leafR (by omega) h ht [(mi H), (.c (-1)), (.c 5), (w (.add (.c 0) (lo H))), (.c 0), (.c 0), (.c 0), (.a 5), (.c 0), e2, (.c 0)] (by kernel_rfl) (by kernel_rfl) (fun v hG => by kernel_rfl)
theorem r600_45 (val : Nat → Int) (h : Holds val (.is (qu H) 2 :: .ne (qu H) 1 :: .ne (qu H) 0 :: .ne (lo H) 4 :: .ne (qu H) 3 :: pre 6 0 0)) (ht : Tabs 6 val) : Q val := leafR (by omega) h ht [(mi H), (.c (-1)), (.c 5), (w (.add (.c 0) (lo H))), (.c 0), (.c 0), (.c 0), (.a 6), (.c 0), (w (.add e1 (.c 4))), (.c 0)] (by kernel_rfl) (by kernel_rfl) (fun v hG => by kernel_rfl)
theorem r600_46 (val : Nat → Int) (h : Holds val (.ne (qu H) 2 :: .ne (qu H) 1 :: .ne (qu H) 0 :: .ne (lo H) 4 :: .ne (qu H) 3 :: pre 6 0 0)) (ht : Tabs 6 val) : Q val := leafR (by omega) h ht [(mi H), (.c (-1)), (.c 5), (w (.add (.c 0) (lo H))), (.c 0), (.c 0), (.c 0), (.c 0), (.c 0), e1, (.c 0)] (by kernel_rfl) (by kernel_rfl) (fun v hG => by kernel_rfl)

theorem r600 : DR 6 0 0 := fun val h ht =>
  by_way (.eq (qu H) (.c 3)) (.is (qu H) 3) (.ne (qu H) 3) (by kernel_rfl) (by kernel_rfl) h
  (fun h => r600_0 val h ht)
  (fun h => by_way (.eq (lo H) (.c 4)) (.is (lo H) 4) (.ne (lo H) 4) (by kernel_rfl) (by kernel_rfl) h
  (fun h => by_way (.eq (mi T) (.c 4)) (.is (mi T) 4) (.ne (mi T) 4) (by kernel_rfl) (by kernel_rfl) h
  (fun h => by_way (.eq (qu T) (.c 0)) (.is (qu T) 0) (.ne (qu T) 0) (by kernel_rfl) (by kernel_rfl) h
  (fun h => by_way (.eq (lo T) (.c 5)) (.is (lo T) 5) (.ne (lo T) 5) (by kernel_rfl) (by kernel_rfl) h
  (fun h => by_way (.eq (qu H) (.c 0)) (.is (qu H) 0) (.ne (qu H) 0) (by kernel_rfl) (by kernel_rfl) h
  (fun h => r600_1 val h ht)
  (fun h => by_way (.eq (qu H) (.c 1)) (.is (qu H) 1) (.ne (qu H) 1) (by kernel_rfl) (by kernel_rfl) h
  (fun h => r600_2 val h ht)
  (fun h => by_way (.eq (qu H) (.c 2)) (.is (qu H) 2) (.ne (qu H) 2) (by kernel_rfl) (by kernel_rfl) h
  (fun h => r600_3 val h ht)
  (fun h => r600_4 val h ht))))
  (fun h => by_way (.eq (qu H) (.c 1)) (.is (qu H) 1) (.ne (qu H) 1) (by kernel_rfl) (by kernel_rfl) h
  (fun h => r600_5 val h ht)
  (fun h => by_way (.eq (qu H) (.c 2)) (.is (qu H) 2) (.ne (qu H) 2) (by kernel_rfl) (by kernel_rfl) h
  (fun h => r600_6 val h ht)
  (fun h => by_way (.eq (qu H) (.c 0)) (.is (qu H) 0) (.ne (qu H) 0) (by kernel_rfl) (by kernel_rfl) h
  (fun h => r600_7 val h ht)
  (fun h => r600_8 val h ht)))))
  (fun h => r600_9 val h ht))
  (fun h => by_way (.eq (qu T) (.c 0)) (.is (qu T) 0) (.ne (qu T) 0) (by kernel_rfl) (by kernel_rfl) h
  (fun h => by_way (.eq (lo T) (.c 5)) (.is (lo T) 5) (.ne (lo T) 5) (by kernel_rfl) (by kernel_rfl) h
  (fun h => by_way (.eq (qu H) (.c 0)) (.is (qu H) 0) (.ne (qu H) 0) (by kernel_rfl) (by kernel_rfl) h
  (fun h => r600_10 val h ht)
  (fun h => by_way (.eq (qu H) (.c 1)) (.is (qu H) 1) (.ne (qu H) 1) (by kernel_rfl) (by kernel_rfl) h
  (fun h => r600_11 val h ht)
  (fun h => by_way (.eq (qu H) (.c 2)) (.is (qu H) 2) (.ne (qu H) 2) (by kernel_rfl) (by kernel_rfl) h
  (fun h => r600_12 val h ht)
  (fun h => r600_13 val h ht))))
  (fun h => by_way (.eq (qu H) (.c 1)) (.is (qu H) 1) (.ne (qu H) 1) (by kernel_rfl) (by kernel_rfl) h
  (fun h => r600_14 val h ht)
  (fun h => by_way (.eq (qu H) (.c 2)) (.is (qu H) 2) (.ne (qu H) 2) (by kernel_rfl) (by kernel_rfl) h
  (fun h => r600_15 val h ht)
  (fun h => by_way (.eq (qu H) (.c 0)) (.is (qu H) 0) (.ne (qu H) 0) (by kernel_rfl) (by kernel_rfl) h
  (fun h => r600_16 val h ht)
  (fun h => r600_17 val h ht)))))
  (fun h => by_way (.eq (qu T) (.c 1)) (.is (qu T) 1) (.ne (qu T) 1) (by kernel_rfl) (by kernel_rfl) h
  (fun h => by_way (.eq (lo T) (.c 5)) (.is (lo T) 5) (.ne (lo T) 5) (by kernel_rfl) (by kernel_rfl) h
  (fun h => by_way (.eq (qu H) (.c 0)) (.is (qu H) 0) (.ne (qu H) 0) (by kernel_rfl) (by kernel_rfl) h
  (fun h => r600_18 val h ht)
  (fun h => by_way (.eq (qu H) (.c 1)) (.is (qu H) 1) (.ne (qu H) 1) (by kernel_rfl) (by kernel_rfl) h
  (fun h => r600_19 val h ht)
  (fun h => by_way (.eq (qu H) (.c 2)) (.is (qu H) 2) (.ne (qu H) 2) (by kernel_rfl) (by kernel_rfl) h
  (fun h => r600_20 val h ht)
  (fun h => r600_21 val h ht))))
  (fun h => by_way (.eq (qu H) (.c 1)) (.is (qu H) 1) (.ne (qu H) 1) (by kernel_rfl) (by kernel_rfl) h
  (fun h => r600_22 val h ht)
  (fun h => by_way (.eq (qu H) (.c 2)) (.is (qu H) 2) (.ne (qu H) 2) (by kernel_rfl) (by kernel_rfl) h
  (fun h => r600_23 val h ht)
  (fun h => by_way (.eq (qu H) (.c 0)) (.is (qu H) 0) (.ne (qu H) 0) (by kernel_rfl) (by kernel_rfl) h
  (fun h => r600_24 val h ht)
  (fun h => r600_25 val h ht)))))
  (fun h => by_way (.eq (qu T) (.c 2)) (.is (qu T) 2) (.ne (qu T) 2) (by kernel_rfl) (by kernel_rfl) h
  (fun h => by_way (.eq (lo T) (.c 5)) (.is (lo T) 5) (.ne (lo T) 5) (by kernel_rfl) (by kernel_rfl) h
  (fun h => by_way (.eq (qu H) (.c 0)) (.is (qu H) 0) (.ne (qu H) 0) (by kernel_rfl) (by kernel_rfl) h
  (fun h => r600_26 val h ht)
  (fun h => by_way (.eq (qu H) (.c 1)) (.is (qu H) 1) (.ne (qu H) 1) (by kernel_rfl) (by kernel_rfl) h
  (fun h => r600_27 val h ht)
  (fun h => by_way (.eq (qu H) (.c 2)) (.is (qu H) 2) (.ne (qu H) 2) (by kernel_rfl) (by kernel_rfl) h
  (fun h => r600_28 val h ht)
  (fun h => r600_29 val h ht))))
  (fun h => by_way (.eq (qu H) (.c 1)) (.is (qu H) 1) (.ne (qu H) 1) (by kernel_rfl) (by kernel_rfl) h
  (fun h => r600_30 val h ht)
  (fun h => by_way (.eq (qu H) (.c 2)) (.is (qu H) 2) (.ne (qu H) 2) (by kernel_rfl) (by kernel_rfl) h
  (fun h => r600_31 val h ht)
  (fun h => by_way (.eq (qu H) (.c 0)) (.is (qu H) 0) (.ne (qu H) 0) (by kernel_rfl) (by kernel_rfl) h
  (fun h => r600_32 val h ht)
  (fun h => r600_33 val h ht)))))
  (fun h => by_way (.eq (lo T) (.c 5)) (.is (lo T) 5) (.ne (lo T) 5) (by kernel_rfl) (by kernel_rfl) h
  (fun h => by_way (.eq (qu H) (.c 0)) (.is (qu H) 0) (.ne (qu H) 0) (by kernel_rfl) (by kernel_rfl) h
  (fun h => r600_34 val h ht)
  (fun h => by_way (.eq (qu H) (.c 1)) (.is (qu H) 1) (.ne (qu H) 1) (by kernel_rfl) (by kernel_rfl) h
  (fun h => r600_35 val h ht)
  (fun h => by_way (.eq (qu H) (.c 2)) (.is (qu H) 2) (.ne (qu H) 2) (by kernel_rfl) (by kernel_rfl) h
  (fun h => r600_36 val h ht)
  (fun h => r600_37 val h ht))))
  (fun h => by_way (.eq (qu H) (.c 1)) (.is (qu H) 1) (.ne (qu H) 1) (by kernel_rfl) (by kernel_rfl) h
  (fun h => r600_38 val h ht)
  (fun h => by_way (.eq (qu H) (.c 2)) (.is (qu H) 2) (.ne (qu H) 2) (by kernel_rfl) (by kernel_rfl) h
  (fun h => r600_39 val h ht)
  (fun h => by_way (.eq (qu H) (.c 0)) (.is (qu H) 0) (.ne (qu H) 0) (by kernel_rfl) (by kernel_rfl) h
  (fun h => r600_40 val h ht)
  (fun h => r600_41 val h ht)))))))))
  (fun h => by_way (.eq (qu H) (.c 0)) (.is (qu H) 0) (.ne (qu H) 0) (by kernel_rfl) (by kernel_rfl) h
  (fun h => by_way (.eq (lo H) (.c 5)) (.is (lo H) 5) (.ne (lo H) 5) (by kernel_rfl) (by kernel_rfl) h
  (fun h => r600_42 val h ht)
  (fun h => r600_43 val h ht))
  (fun h => by_way (.eq (qu H) (.c 1)) (.is (qu H) 1) (.ne (qu H) 1) (by kernel_rfl) (by kernel_rfl) h
  (fun h => r600_44 val h ht)
  (fun h => by_way (.eq (qu H) (.c 2)) (.is (qu H) 2) (.ne (qu H) 2) (by kernel_rfl) (by kernel_rfl) h
  (fun h => r600_45 val h ht)
  (fun h => r600_46 val h ht)))))

theorem r010_0 (val : Nat → Int) (h : Holds val (pre 0 1 0)) (ht : Tabs 0 val) : Q val := leafR (by omega) h ht [(.c 0), (.c 0), (.c 0), (.c 0), (.c 0), (.c 0), (.c 0), (.c 0), (.c 0), (.c 0), (.c 9)] (by kernel_rfl) (by kernel_rfl) (fun v hG => by kernel_rfl)

theorem r010 : DR 0 1 0 := fun val h ht =>
  r010_0 val h ht

end Go.Proofs.Ytbenfglhomiocaa.Rd
