/-
  The ways of both, part 5.
-/
import Derived.Test.YtbenfglhomiocaaReadH
namespace Go.Proofs.Ytbenfglhomiocaa.Rd
open Go.Sim Go.Proofs.Ytbenfglhomiocaa.Fld Go.Proofs.Ytbenfglhomiocaa.Tab
set_option maxRecDepth 100000

theorem r511_0 (val : Nat → Int) (h : Holds val (.is (qu H) 3 :: pre 5 1 1)) (ht : Tabs 5 val) : Q val := leafR (by omega) h ht [(.c 0), (.c 0), (.c 0), (.c 0), (.c 0), (.c 0), (.c 0), (.c 0), (.c 0), (.c 0), (.c 4)] (by kernel_rfl) (by kernel_rfl) (fun v hG => by kernel_rfl)
theorem r511_1 (val : Nat → Int) (h : Holds val (.is (qu H) 0 :: .is (lo T) 5 :: .is (qu T) 0 :: .is (mi T) 4 :: .is (lo H) 4 :: .ne (qu H) 3 :: pre 5 1 1)) (ht : Tabs 5 val) : Q val := leafR (by omega) h ht [(.c 0), (.c 0), (.c 0), (.c 0), (.c 0), (.c 0), (.c 0), (.c 0), (.c 0), (.c 0), (.c 4)] (by kernel_rfl) (by kernel_rfl) (fun v hG => by kernel_rfl)
theorem r511_2 (val : Nat → Int) (h : Holds val (.is (qu H) 1 :: .ne (qu H) 0 :: .is (lo T) 5 :: .is (qu T) 0 :: .is (mi T) 4 :: .is (lo H) 4 :: .ne (qu H) 3 :: pre 5 1 1)) (ht : Tabs 5 val) : Q val := leafR (by omega) h ht [(mi H), (.c (-1)), (.c 5), (.c 13), (.c 5), (.c 12), (.c 1), (.a 7), (.c 0), (w (.add e2 (.c 1))), (.c 0)] (by kernel_rfl) (by kernel_rfl) (fun v hG => by kernel_rfl)
theorem r511_3 (val : Nat → Int) (h : Holds val (.is (qu H) 2 :: .ne (qu H) 1 :: .ne (qu H) 0 :: .is (lo T) 5 :: .is (qu T) 0 :: .is (mi T) 4 :: .is (lo H) 4 :: .ne (qu H) 3 :: pre 5 1 1)) (ht : Tabs 5 val) : Q val := leafR (by omega) h ht [(.c 0), (.c 0), (.c 0), (.c 0), (.c 0), (.c 0), (.c 0), (.c 0), (.c 0), (.c 0), (.c 9)] (by kernel_rfl) (by kernel_rfl) (fun v hG => by kernel_rfl)
theorem r511_4 (val : Nat → Int) (h : Holds val (.ne (qu H) 2 :: .ne (qu H) 1 :: .ne (qu H) 0 :: .is (lo T) 5 :: .is (qu T) 0 :: .is (mi T) 4 :: .is (lo H) 4 :: .ne (qu H) 3 :: pre 5 1 1)) (ht : Tabs 5 val) : Q val := leafR (by omega) h ht [(mi H), (.c (-1)), (.c 5), (.c 13), (.c 5), (.c 12), (.c 1), (.c 0), (.c 0), e2, (.c 0)] (by kernel_rfl) (by kernel_rfl) (fun v hG => by kernel_rfl)
theorem r511_5 (val : Nat → Int) (h : Holds val (.is (qu H) 1 :: .ne (lo T) 5 :: .is (qu T) 0 :: .is (mi T) 4 :: .is (lo H) 4 :: .ne (qu H) 3 :: pre 5 1 1)) (ht : Tabs 5 val) : Q val := leafR (by omega) h ht [(mi H), (.c (-1)), (.c 5), (w (.add (.c 8) (lo T))), (.c 5), (.c 12), (.c 1), (.a 7), (.c 0), (w (.add e2 (.c 1))), (.c 0)] (by kernel_rfl) (by kernel_rfl) (fun v hG => by kernel_rfl)
theorem r511_6 (val : Nat → Int) (h : Holds val (.is (qu H) 2 :: .ne (qu H) 1 :: .ne (lo T) 5 :: .is (qu T) 0 :: .is (mi T) 4 :: .is (lo H) 4 :: .ne (qu H) 3 :: pre 5 1 1)) (ht : Tabs 5 val) : Q val := leafR (by omega) h ht [(.c 0), (.c 0), (.c 0), (.c 0), (.c 0), (.c 0), (.c 0), (.c 0), (.c 0), (.c 0), (.c 9)] (by kernel_rfl) (by kernel_rfl) (fun v hG => by kernel_rfl)
theorem r511_7 (val : Nat → Int) (h : Holds val (.is (qu H) 0 :: .ne (qu H) 2 :: .ne (qu H) 1 :: .ne (lo T) 5 :: .is (qu T) 0 :: .is (mi T) 4 :: .is (lo H) 4 :: .ne (qu H) 3 :: pre 5 1 1)) (ht : Tabs 5 val) : Q val := leafR (by omega) h ht [(mi H), (.c (-1)), (.c 5), (w (.add (.c 8) (lo T))), (.c 5), (.c 12), (.c 1), (.c 0), (.c 0), e2, (.c 0)] (by kernel_rfl) (by kernel_rfl) (fun v hG => by kernel_rfl)
theorem r511_8 (val : Nat → Int) (h : Holds val (.ne (qu H) 0 :: .ne (qu H) 2 :: .ne (qu H) 1 :: .ne (lo T) 5 :: .is (qu T) 0 :: .is (mi T) 4 :: .is (lo H) 4 :: .ne (qu H) 3 :: pre 5 1 1)) (ht : Tabs 5 val) : Q val := leafR (by omega) h ht [(mi H), (.c (-1)), (.c 5), (w (.add (.c 8) (lo T))), (.c 5), (.c 12), (.c 1), (.c 0), (.c 0), e2, (.c 0)] (by kernel_rfl) (by kernel_rfl) (fun v hG => by kernel_rfl)
theorem r511_9 (val : Nat → Int) (h : Holds val (.is (qu H) 0 :: .is (lo T) 5 :: .is (qu T) 1 :: .ne (qu T) 0 :: .is (mi T) 4 :: .is (lo H) 4 :: .ne (qu H) 3 :: pre 5 1 1)) (ht : Tabs 5 val) : Q val := leafR (by omega) h ht [(.c 0), (.c 0), (.c 0), (.c 0), (.c 0), (.c 0), (.c 0), (.c 0), (.c 0), (.c 0), (.c 4)] (by kernel_rfl) (by kernel_rfl) (fun v hG => by kernel_rfl)
theorem r511_10 (val : Nat → Int) (h : Holds val (.is (qu H) 1 :: .ne (qu H) 0 :: .is (lo T) 5 :: .is (qu T) 1 :: .ne (qu T) 0 :: .is (mi T) 4 :: .is (lo H) 4 :: .ne (qu H) 3 :: pre 5 1 1)) (ht : Tabs 5 val) : Q val := leafR (by omega) h ht [(mi H), (.c (-1)), (.c 5), (.c 13), (.c 5), (.c 12), (.c 2), (.a 7), (.c 0), (w (.add e2 (.c 1))), (.c 0)] (by kernel_rfl) (by kernel_rfl) (fun v hG => by kernel_rfl)
theorem r511_11 (val : Nat → Int) (h : Holds val (.is (qu H) 2 :: .ne (qu H) 1 :: .ne (qu H) 0 :: .is (lo T) 5 :: .is (qu T) 1 :: .ne (qu T) 0 :: .is (mi T) 4 :: .is (lo H) 4 :: .ne (qu H) 3 :: pre 5 1 1)) (ht : Tabs 5 val) : Q val := leafR (by omega) h ht [(.c 0), (.c 0), (.c 0), (.c 0), (.c 0), (.c 0), (.c 0), (.c 0), (.c 0), (.c 0), (.c 9)] (by kernel_rfl) (by kernel_rfl) (fun v hG => by kernel_rfl)
theorem r511_12 (val : Nat → Int) (h : Holds val (.ne (qu H) 2 :: .ne (qu H) 1 :: .ne (qu H) 0 :: .is (lo T) 5 :: .is (qu T) 1 :: .ne (qu T) 0 :: .is (mi T) 4 :: .is (lo H) 4 :: .ne (qu H) 3 :: pre 5 1 1)) (ht : Tabs 5 val) : Q val := leafR (by omega) h ht [(mi H), (.c (-1)), (.c 5), (.c 13), (.c 5), (.c 12), (.c 2), (.c 0), (.c 0), e2, (.c 0)] (by kernel_rfl) (by kernel_rfl) (fun v hG => by kernel_rfl)
theorem r511_13 (val : Nat → Int) (h : Holds val (.is (qu H) 1 :: .ne (lo T) 5 :: .is (qu T) 1 :: .ne (qu T) 0 :: .is (mi T) 4 :: .is (lo H) 4 :: .ne (qu H) 3 :: pre 5 1 1)) (ht : Tabs 5 val) : Q val := leafR (by omega) h ht [(mi H), (.c (-1)), (.c 5), (w (.add (.c 8) (lo T))), (.c 5), (.c 12), (.c 2), (.a 7), (.c 0), (w (.add e2 (.c 1))), (.c 0)] (by kernel_rfl) (by kernel_rfl) (fun v hG => by kernel_rfl)
theorem r511_14 (val : Nat → Int) (h : Holds val (.is (qu H) 2 :: .ne (qu H) 1 :: .ne (lo T) 5 :: .is (qu T) 1 :: .ne (qu T) 0 :: .is (mi T) 4 :: .is (lo H) 4 :: .ne (qu H) 3 :: pre 5 1 1)) (ht : Tabs 5 val) : Q val := leafR (by omega) h ht [(.c 0), (.c 0), (.c 0), (.c 0), (.c 0), (.c 0), (.c 0), (.c 0), (.c 0), (.c 0), (.c 9)] (by kernel_rfl) (by kernel_rfl) (fun v hG => by kernel_rfl)
theorem r511_15 (val : Nat → Int) (h : Holds val (.is (qu H) 0 :: .ne (qu H) 2 :: .ne (qu H) 1 :: .ne (lo T) 5 :: .is (qu T) 1 :: .ne (qu T) 0 :: .is (mi T) 4 :: .is (lo H) 4 :: .ne (qu H) 3 :: pre 5 1 1)) (ht : Tabs 5 val) : Q val := leafR (by omega) h ht [(mi H), (.c (-1)), (.c 5), (w (.add (.c 8) (lo T))), (.c 5), (.c 12), (.c 2), (.c 0), (.c 0), e2, (.c 0)] (by kernel_rfl) (by kernel_rfl) (fun v hG => by kernel_rfl)
theorem r511_16 (val : Nat → Int) (h : Holds val (.ne (qu H) 0 :: .ne (qu H) 2 :: .ne (qu H) 1 :: .ne (lo T) 5 :: .is (qu T) 1 :: .ne (qu T) 0 :: .is (mi T) 4 :: .is (lo H) 4 :: .ne (qu H) 3 :: pre 5 1 1)) (ht : Tabs 5 val) : Q val := leafR (by omega) h ht [(mi H), (.c (-1)), (.c 5), (w (.add (.c 8) (lo T))), (.c 5), (.c 12), (.c 2), (.c 0), (.c 0), e2, (.c 0)] (by kernel_rfl) (by kernel_rfl) (fun v hG => by kernel_rfl)
theorem r511_17 (val : Nat → Int) (h : Holds val (.is (qu H) 0 :: .is (lo T) 5 :: .is (qu T) 2 :: .ne (qu T) 1 :: .ne (qu T) 0 :: .is (mi T) 4 :: .is (lo H) 4 :: .ne (qu H) 3 :: pre 5 1 1)) (ht : Tabs 5 val) : Q val := leafR (by omega) h ht [(.c 0), (.c 0), (.c 0), (.c 0), (.c 0), (.c 0), (.c 0), (.c 0), (.c 0), (.c 0), (.c 4)] (by kernel_rfl) (by kernel_rfl) (fun v hG => by kernel_rfl)
theorem r511_18 (val : Nat → Int) (h : Holds val (.is (qu H) 1 :: .ne (qu H) 0 :: .is (lo T) 5 :: .is (qu T) 2 :: .ne (qu T) 1 :: .ne (qu T) 0 :: .is (mi T) 4 :: .is (lo H) 4 :: .ne (qu H) 3 :: pre 5 1 1)) (ht : Tabs 5 val) : Q val := leafR (by omega) h ht [(mi H), (.c (-1)), (.c 5), (.c 13), (.c 5), (.c 12), (.c 4), (.a 7), (.c 0), (w (.add e2 (.c 1))), (.c 0)] (by kernel_rfl) (by kernel_rfl) (fun v hG => by kernel_rfl)
theorem r511_19 (val : Nat → Int) (h : Holds val (.is (qu H) 2 :: .ne (qu H) 1 :: .ne (qu H) 0 :: .is (lo T) 5 :: .is (qu T) 2 :: .ne (qu T) 1 :: .ne (qu T) 0 :: .is (mi T) 4 :: .is (lo H) 4 :: .ne (qu H) 3 :: pre 5 1 1)) (ht : Tabs 5 val) : Q val := leafR (by omega) h ht [(.c 0), (.c 0), (.c 0), (.c 0), (.c 0), (.c 0), (.c 0), (.c 0), (.c 0), (.c 0), (.c 9)] (by kernel_rfl) (by kernel_rfl) (fun v hG => by kernel_rfl)
theorem r511_20 (val : Nat → Int) (h : Holds val (.ne (qu H) 2 :: .ne (qu H) 1 :: .ne (qu H) 0 :: .is (lo T) 5 :: .is (qu T) 2 :: .ne (qu T) 1 :: .ne (qu T) 0 :: .is (mi T) 4 :: .is (lo H) 4 :: .ne (qu H) 3 :: pre 5 1 1)) (ht : Tabs 5 val) : Q val := leafR (by omega) h ht [(mi H), (.c (-1)), (.c 5), (.c 13), (.c 5), (.c 12), (.c 4), (.c 0), (.c 0), e2, (.c 0)] (by kernel_rfl) (by kernel_rfl) (fun v hG => by kernel_rfl)
theorem r511_21 (val : Nat → Int) (h : Holds val (.is (qu H) 1 :: .ne (lo T) 5 :: .is (qu T) 2 :: .ne (qu T) 1 :: .ne (qu T) 0 :: .is (mi T) 4 :: .is (lo H) 4 :: .ne (qu H) 3 :: pre 5 1 1)) (ht : Tabs 5 val) : Q val := leafR (by omega) h ht [(mi H), (.c (-1)), (.c 5), (w (.add (.c 8) (lo T))), (.c 5), (.c 12), (.c 4), (.a 7), (.c 0), (w (.add e2 (.c 1))), (.c 0)] (by kernel_rfl) (by kernel_rfl) (fun v hG => by kernel_rfl)
theorem r511_22 (val : Nat → Int) (h : Holds val (.is (qu H) 2 :: .ne (qu H) 1 :: .ne (lo T) 5 :: .is (qu T) 2 :: .ne (qu T) 1 :: .ne (qu T) 0 :: .is (mi T) 4 :: .is (lo H) 4 :: .ne (qu H) 3 :: pre 5 1 1)) (ht : Tabs 5 val) : Q val := leafR (by omega) h ht [(.c 0), (.c 0), (.c 0), (.c 0), (.c 0), (.c 0), (.c 0), (.c 0), (.c 0), (.c 0), (.c 9)] (by kernel_rfl) (by kernel_rfl) (fun v hG => by kernel_rfl)
theorem r511_23 (val : Nat → Int) (h : Holds val (.is (qu H) 0 :: .ne (qu H) 2 :: .ne (qu H) 1 :: .ne (lo T) 5 :: .is (qu T) 2 :: .ne (qu T) 1 :: .ne (qu T) 0 :: .is (mi T) 4 :: .is (lo H) 4 :: .ne (qu H) 3 :: pre 5 1 1)) (ht : Tabs 5 val) : Q val := leafR (by omega) h ht [(mi H), (.c (-1)), (.c 5), (w (.add (.c 8) (lo T))), (.c 5), (.c 12), (.c 4), (.c 0), (.c 0), e2, (.c 0)] (by kernel_rfl) (by kernel_rfl) (fun v hG => by kernel_rfl)
theorem r511_24 (val : Nat → Int) (h : Holds val (.ne (qu H) 0 :: .ne (qu H) 2 :: .ne (qu H) 1 :: .ne (lo T) 5 :: .is (qu T) 2 :: .ne (qu T) 1 :: .ne (qu T) 0 :: .is (mi T) 4 :: .is (lo H) 4 :: .ne (qu H) 3 :: pre 5 1 1)) (ht : Tabs 5 val) : Q val := leafR (by omega) h ht [(mi H), (.c (-1)), (.c 5), (w (.add (.c 8) (lo T))), (.c 5), (.c 12), (.c 4), (.c 0), (.c 0), e2, (.c 0)] (by kernel_rfl) (by kernel_rfl) (fun v hG => by kernel_rfl)
theorem r511_25 (val : Nat → Int) (h : Holds val (.is (qu H) 0 :: .is (lo T) 5 :: .ne (qu T) 2 :: .ne (qu T) 1 :: .ne (qu T) 0 :: .is (mi T) 4 :: .is (lo H) 4 :: .ne (qu H) 3 :: pre 5 1 1)) (ht : Tabs 5 val) : Q val := leafR (by omega) h ht [(.c 0), (.c 0), (.c 0), (.c 0), (.c 0), (.c 0), (.c 0), (.c 0), (.c 0), (.c 0), (.c 4)] (by kernel_rfl) (by kernel_rfl) (fun v hG => by kernel_rfl)
theorem r511_26 (val : Nat → Int) (h : Holds val (.is (qu H) 1 :: .ne (qu H) 0 :: .is (lo T) 5 :: .ne (qu T) 2 :: .ne (qu T) 1 :: .ne (qu T) 0 :: .is (mi T) 4 :: .is (lo H) 4 :: .ne (qu H) 3 :: pre 5 1 1)) (ht : Tabs 5 val) : Q val := leafR (by omega) h ht [(mi H), (.c (-1)), (.c 5), (.c 13), (.c 5), (.c 12), (.c 8), (.a 7), (.c 0), (w (.add e2 (.c 1))), (.c 0)] (by kernel_rfl) (by kernel_rfl) (fun v hG => by kernel_rfl)
theorem r511_27 (val : Nat → Int) (h : Holds val (.is (qu H) 2 :: .ne (qu H) 1 :: .ne (qu H) 0 :: .is (lo T) 5 :: .ne (qu T) 2 :: .ne (qu T) 1 :: .ne (qu T) 0 :: .is (mi T) 4 :: .is (lo H) 4 :: .ne (qu H) 3 :: pre 5 1 1)) (ht : Tabs 5 val) : Q val := leafR (by omega) h ht [(.c 0), (.c 0), (.c 0), (.c 0), (.c 0), (.c 0), (.c 0), (.c 0), (.c 0), (.c 0), (.c 9)] (by kernel_rfl) (by kernel_rfl) (fun v hG => by kernel_rfl)
theorem r511_28 (val : Nat → Int) (h : Holds val (.ne (qu H) 2 :: .ne (qu H) 1 :: .ne (qu H) 0 :: .is (lo T) 5 :: .ne (qu T) 2 :: .ne (qu T) 1 :: .ne (qu T) 0 :: .is (mi T) 4 :: .is (lo H) 4 :: .ne (qu H) 3 :: pre 5 1 1)) (ht : Tabs 5 val) : Q val := leafR (by omega) h ht [(mi H), (.c (-1)), (.c 5), (.c 13), (.c 5), (.c 12), (.c 8), (.c 0), (.c 0), e2, (.c 0)] (by kernel_rfl) (by kernel_rfl) (fun v hG => by kernel_rfl)
theorem r511_29 (val : Nat → Int) (h : Holds val (.is (qu H) 1 :: .ne (lo T) 5 :: .ne (qu T) 2 :: .ne (qu T) 1 :: .ne (qu T) 0 :: .is (mi T) 4 :: .is (lo H) 4 :: .ne (qu H) 3 :: pre 5 1 1)) (ht : Tabs 5 val) : Q val := leafR (by omega) h ht [(mi H), (.c (-1)), (.c 5), (w (.add (.c 8) (lo T))), (.c 5), (.c 12), (.c 8), (.a 7), (.c 0), (w (.add e2 (.c 1))), (.c 0)] (by kernel_rfl) (by kernel_rfl) (fun v hG => by kernel_rfl)
theorem r511_30 (val : Nat → Int) (h : Holds val (.is (qu H) 2 :: .ne (qu H) 1 :: .ne (lo T) 5 :: .ne (qu T) 2 :: .ne (qu T) 1 :: .ne (qu T) 0 :: .is (mi T) 4 :: .is (lo H) 4 :: .ne (qu H) 3 :: pre 5 1 1)) (ht : Tabs 5 val) : Q val := leafR (by omega) h ht [(.c 0), (.c 0), (.c 0), (.c 0), (.c 0), (.c 0), (.c 0), (.c 0), (.c 0), (.c 0), (.c 9)] (by kernel_rfl) (by kernel_rfl) (fun v hG => by kernel_rfl)
theorem r511_31 (val : Nat → Int) (h : Holds val (.is (qu H) 0 :: .ne (qu H) 2 :: .ne (qu H) 1 :: .ne (lo T) 5 :: .ne (qu T) 2 :: .ne (qu T) 1 :: .ne (qu T) 0 :: .is (mi T) 4 :: .is (lo H) 4 :: .ne (qu H) 3 :: pre 5 1 1)) (ht : Tabs 5 val) : Q val := leafR (by omega) h ht [(mi H), (.c (-1)), (.c 5), (w (.add (.c 8) (lo T))), (.c 5), (.c 12), (.c 8), (.c 0), (.c 0), e2, (.c 0)] (by kernel_rfl) (by kernel_rfl) (fun v hG => by kernel_rfl)
theorem r511_32 (val : Nat → Int) (h : Holds val (.ne (qu H) 0 :: .ne (qu H) 2 :: .ne (qu H) 1 :: .ne (lo T) 5 :: .ne (qu T) 2 :: .ne (qu T) 1 :: .ne (qu T) 0 :: .is (mi T) 4 :: .is (lo H) 4 :: .ne (qu H) 3 :: pre 5 1 1)) (ht : Tabs 5 val) : Q val := leafR (by omega) h ht [(mi H), (.c (-1)), (.c 5), (w (.add (.c 8) (lo T))), (.c 5), (.c 12), (.c 8), (.c 0), (.c 0), e2, (.c 0)] (by kernel_rfl) (by kernel_rfl) (fun v hG => by kernel_rfl)
theorem r511_33 (val : Nat → Int) (h : Holds val (.is (qu H) 0 :: .is (lo T) 5 :: .is (qu T) 0 :: .ne (mi T) 4 :: .is (lo H) 4 :: .ne (qu H) 3 :: pre 5 1 1)) (ht : Tabs 5 val) : Q val := leafR (by omega) h ht [(.c 0), (.c 0), (.c 0), (.c 0), (.c 0), (.c 0), (.c 0), (.c 0), (.c 0), (.c 0), (.c 4)] (by kernel_rfl) (by kernel_rfl) (fun v hG => by kernel_rfl)
theorem r511_34 (val : Nat → Int) (h : Holds val (.is (qu H) 1 :: .ne (qu H) 0 :: .is (lo T) 5 :: .is (qu T) 0 :: .ne (mi T) 4 :: .is (lo H) 4 :: .ne (qu H) 3 :: pre 5 1 1)) (ht : Tabs 5 val) : Q val := leafR (by omega) h ht [(mi H), (.c (-1)), (.c 5), (.c 13), (.c 5), (w (.add (.c 8) (mi T))), (.c 1), (.a 7), (.c 0), (w (.add e2 (.c 1))), (.c 0)] (by kernel_rfl) (by kernel_rfl) (fun v hG => by kernel_rfl)
theorem r511_35 (val : Nat → Int) (h : Holds val (.is (qu H) 2 :: .ne (qu H) 1 :: .ne (qu H) 0 :: .is (lo T) 5 :: .is (qu T) 0 :: .ne (mi T) 4 :: .is (lo H) 4 :: .ne (qu H) 3 :: pre 5 1 1)) (ht : Tabs 5 val) : Q val := leafR (by omega) h ht [(.c 0), (.c 0), (.c 0), (.c 0), (.c 0), (.c 0), (.c 0), (.c 0), (.c 0), (.c 0), (.c 9)] (by kernel_rfl) (by kernel_rfl) (fun v hG => by kernel_rfl)
theorem r511_36 (val : Nat → Int) (h : Holds val (.ne (qu H) 2 :: .ne (qu H) 1 :: .ne (qu H) 0 :: .is (lo T) 5 :: .is (qu T) 0 :: .ne (mi T) 4 :: .is (lo H) 4 :: .ne (qu H) 3 :: pre 5 1 1)) (ht : Tabs 5 val) : Q val := leafR (by omega) h ht [(mi H), (.c (-1)), (.c 5), (.c 13), (.c 5), (w (.add (.c 8) (mi T))), (.c 1), (.c 0), (.c 0), e2, (.c 0)] (by kernel_rfl) (by kernel_rfl) (fun v hG => by kernel_rfl)
theorem r511_37 (val : Nat → Int) (h : Holds val (.is (qu H) 1 :: .ne (lo T) 5 :: .is (qu T) 0 :: .ne (mi T) 4 :: .is (lo H) 4 :: .ne (qu H) 3 :: pre 5 1 1)) (ht : Tabs 5 val) : Q val := leafR (by omega) h ht [(mi H), (.c (-1)), (.c 5), (w (.add (.c 8) (lo T))), (.c 5), (w (.add (.c 8) (mi T))), (.c 1), (.a 7), (.c 0), (w (.add e2 (.c 1))), (.c 0)] (by kernel_rfl) (by kernel_rfl) (fun v hG => by kernel_rfl)
theorem r511_38 (val : Nat → Int) (h : Holds val (.is (qu H) 2 :: .ne (qu H) 1 :: .ne (lo T) 5 :: .is (qu T) 0 :: .ne (mi T) 4 :: .is (lo H) 4 :: .ne (qu H) 3 :: pre 5 1 1)) (ht : Tabs 5 val) : Q val := leafR (by omega) h ht [(.c 0), (.c 0), (.c 0), (.c 0), (.c 0), (.c 0), (.c 0), (.c 0), (.c 0), (.c 0), (.c 9)] (by kernel_rfl) (by kernel_rfl) (fun v hG => by kernel_rfl)
theorem r511_39 (val : Nat → Int) (h : Holds val (.is (qu H) 0 :: .ne (qu H) 2 :: .ne (qu H) 1 :: .ne (lo T) 5 :: .is (qu T) 0 :: .ne (mi T) 4 :: .is (lo H) 4 :: .ne (qu H) 3 :: pre 5 1 1)) (ht : Tabs 5 val) : Q val := leafR (by omega) h ht [(mi H), (.c (-1)), (.c 5), (w (.add (.c 8) (lo T))), (.c 5), (w (.add (.c 8) (mi T))), (.c 1), (.c 0), (.c 0), e2, (.c 0)] (by kernel_rfl) (by kernel_rfl) (fun v hG => by kernel_rfl)
theorem r511_40 (val : Nat → Int) (h : Holds val (.ne (qu H) 0 :: .ne (qu H) 2 :: .ne (qu H) 1 :: .ne (lo T) 5 :: .is (qu T) 0 :: .ne (mi T) 4 :: .is (lo H) 4 :: .ne (qu H) 3 :: pre 5 1 1)) (ht : Tabs 5 val) : Q val := leafR (by omega) h ht [(mi H), (.c (-1)), (.c 5), (w (.add (.c 8) (lo T))), (.c 5), (w (.add (.c 8) (mi T))), (.c 1), (.c 0), (.c 0), e2, (.c 0)] (by kernel_rfl) (by kernel_rfl) (fun v hG => by kernel_rfl)
theorem r511_41 (val : Nat → Int) (h : Holds val (.is (qu H) 0 :: .is (lo T) 5 :: .is (qu T) 1 :: .ne (qu T) 0 :: .ne (mi T) 4 :: .is (lo H) 4 :: .ne (qu H) 3 :: pre 5 1 1)) (ht : Tabs 5 val) : Q val := leafR (by omega) h ht [(.c 0), (.c 0), (.c 0), (.c 0), (.c 0), (.c 0), (.c 0), (.c 0), (.c 0), (.c 0), (.c 4)] (by kernel_rfl) (by kernel_rfl) (fun v hG => by kernel_rfl)
theorem r511_42 (val : Nat → Int) (h : Holds val (.is (qu H) 1 :: .ne (qu H) 0 :: .is (lo T) 5 :: .is (qu T) 1 :: .ne (qu T) 0 :: .ne (mi T) 4 :: .is (lo H) 4 :: .ne (qu H) 3 :: pre 5 1 1)) (ht : Tabs 5 val) : Q val := leafR (by omega) h ht [(mi H), (.c (-1)), (.c 5), (.c 13), (.c 5), (w (.add (.c 8) (mi T))), (.c 2), (.a 7), (.c 0), (w (.add e2 (.c 1))), (.c 0)] (by kernel_rfl) (by kernel_rfl) (fun v hG => by kernel_rfl)
theorem r511_43 (val : Nat → Int) (h : Holds val (.is (qu H) 2 :: .ne (qu H) 1 :: .ne (qu H) 0 :: .is (lo T) 5 :: .is (qu T) 1 :: .ne (qu T) 0 :: .ne (mi T) 4 :: .is (lo H) 4 :: .ne (qu H) 3 :: pre 5 1 1)) (ht : Tabs 5 val) : Q val := leafR (by omega) h ht [(.c 0), (.c 0), (.c 0), (.c 0), (.c 0), (.c 0), (.c 0), (.c 0), (.c 0), (.c 0), (.c 9)] (by kernel_rfl) (by kernel_rfl) (fun v hG => by kernel_rfl)
theorem r511_44 (val : Nat → Int) (h : Holds val (.ne (qu H) 2 :: .ne (qu H) 1 :: .ne (qu H) 0 :: .is (lo T) 5 :: .is (qu T) 1 :: .ne (qu T) 0 :: .ne (mi T) 4 :: .is (lo H) 4 :: .ne (qu H) 3 :: pre 5 1 1)) (ht : Tabs 5 val) : Q val := leafR (by omega) h ht [(mi H), (.c (-1)), (.c 5), (.c 13), (.c 5), (w (.add (.c 8) (mi T))), (.c 2), (.c 0), (.c 0), e2, (.c 0)] (by kernel_rfl) (by kernel_rfl) (fun v hG => by kernel_rfl)
theorem r511_45 (val : Nat → Int) (h : Holds val (.is (qu H) 1 :: .ne (lo T) 5 :: .is (qu T) 1 :: .ne (qu T) 0 :: .ne (mi T) 4 :: .is (lo H) 4 :: .ne (qu H) 3 :: pre 5 1 1)) (ht : Tabs 5 val) : Q val := leafR (by omega) h ht [(mi H), (.c (-1)), (.c 5), (w (.add (.c 8) (lo T))), (.c 5), (w (.add (.c 8) (mi T))), (.c 2), (.a 7), (.c 0), (w (.add e2 (.c 1))), (.c 0)] (by kernel_rfl) (by kernel_rfl) (fun v hG => by kernel_rfl)
theorem r511_46 (val : Nat → Int) (h : Holds val (.is (qu H) 2 :: .ne (qu H) 1 :: .ne (lo T) 5 :: .is (qu T) 1 :: .ne (qu T) 0 :: .ne (mi T) 4 :: .is (lo H) 4 :: .ne (qu H) 3 :: pre 5 1 1)) (ht : Tabs 5 val) : Q val := leafR (by omega) h ht [(.c 0), (.c 0), (.c 0), (.c 0), (.c 0), (.c 0), (.c 0), (.c 0), (.c 0), (.c 0), (.c 9)] (by kernel_rfl) (by kernel_rfl) (fun v hG => by kernel_rfl)
theorem r511_47 (val : Nat → Int) (h : Holds val (.is (qu H) 0 :: .ne (qu H) 2 :: .ne (qu H) 1 :: .ne (lo T) 5 :: .is (qu T) 1 :: .ne (qu T) 0 :: .ne (mi T) 4 :: .is (lo H) 4 :: .ne (qu H) 3 :: pre 5 1 1)) (ht : Tabs 5 val) : Q val := leafR (by omega) h ht [(mi H), (.c (-1)), (.c 5), (w (.add (.c 8) (lo T))), (.c 5), (w (.add (.c 8) (mi T))), (.c 2), (.c 0), (.c 0), e2, (.c 0)] (by kernel_rfl) (by kernel_rfl) (fun v hG => by kernel_rfl)
theorem r511_48 (val : Nat → Int) (h : Holds val (.ne (qu H) 0 :: .ne (qu H) 2 :: .ne (qu H) 1 :: .ne (lo T) 5 :: .is (qu T) 1 :: .ne (qu T) 0 :: .ne (mi T) 4 :: .is (lo H) 4 :: .ne (qu H) 3 :: pre 5 1 1)) (ht : Tabs 5 val) : Q val := leafR (by omega) h ht [(mi H), (.c (-1)), (.c 5), (w (.add (.c 8) (lo T))), (.c 5), (w (.add (.c 8) (mi T))), (.c 2), (.c 0), (.c 0), e2, (.c 0)] (by kernel_rfl) (by kernel_rfl) (fun v hG => by kernel_rfl)
theorem r511_49 (val : Nat → Int) (h : Holds val (.is (qu H) 0 :: .is (lo T) 5 :: .is (qu T) 2 :: .ne (qu T) 1 :: .ne (qu T) 0 :: .ne (mi T) 4 :: .is (lo H) 4 :: .ne (qu H) 3 :: pre 5 1 1)) (ht : Tabs 5 val) : Q val := leafR (by omega) h ht [(.c 0), (.c 0), (.c 0), (.c 0), (.c 0), (.c 0), (.c 0), (.c 0), (.c 0), (.c 0), (.c 4)] (by kernel_rfl) (by kernel_rfl) (fun v hG => by kernel_rfl)
theorem r511_50 (val : Nat → Int) (h : Holds val (.is (qu H) 1 :: .ne (qu H) 0 :: .is (lo T) 5 :: .is (qu T) 2 :: .ne (qu T) 1 :: .ne (qu T) 0 :: .ne (mi T) 4 :: .is (lo H) 4 :: .ne (qu H) 3 :: pre 5 1 1)) (ht : Tabs 5 val) : Q val := leafR (by omega) h ht [(mi H), (.c (-1)), (.c 5), (.c 13), (.c 5), (w (.add (.c 8) (mi T))), (.c 4), (.a 7), (.c 0), (w (.add e2 (.c 1))), (.c 0)] (by kernel_rfl) (by kernel_rfl) (fun v hG => by kernel_rfl)
theorem r511_51 (val : Nat → Int) (h : Holds val (.is (qu H) 2 :: .ne (qu H) 1 :: .ne (qu H) 0 :: .is (lo T) 5 :: .is (qu T) 2 :: .ne (qu T) 1 :: .ne (qu T) 0 :: .ne (mi T) 4 :: .is (lo H) 4 :: .ne (qu H) 3 :: pre 5 1 1)) (ht : Tabs 5 val) : Q val := leafR (by omega) h ht [(.c 0), (.c 0), (.c 0), (.c 0), (.c 0), (.c 0), (.c 0), (.c 0), (.c 0), (.c 0), (.c 9)] (by kernel_rfl) (by kernel_rfl) (fun v hG => by kernel_rfl)
theorem r511_52 (val : Nat → Int) (h : Holds val (.ne (qu H) 2 :: .ne (qu H) 1 :: .ne (qu H) 0 :: .is (lo T) 5 :: .is (qu T) 2 :: .ne (qu T) 1 :: .ne (qu T) 0 :: .ne (mi T) 4 :: .is (lo H) 4 :: .ne (qu H) 3 :: pre 5 1 1)) (ht : Tabs 5 val) : Q val := leafR (by omega) h ht [(mi H), (.c (-1)), (.c 5), (.c 13), (.c 5), (w (.add (.c 8) (mi T))), (.c 4), (.c 0), (.c 0), e2, (.c 0)] (by kernel_rfl) (by kernel_rfl) (fun v hG => by kernel_rfl)
theorem r511_53 (val : Nat → Int) (h : Holds val (.is (qu H) 1 :: .ne (lo T) 5 :: .is (qu T) 2 :: .ne (qu T) 1 :: .ne (qu T) 0 :: .ne (mi T) 4 :: .is (lo H) 4 :: .ne (qu H) 3 :: pre 5 1 1)) (ht : Tabs 5 val) : Q val := leafR (by omega) h ht [(mi H), (.c (-1)), (.c 5), (w (.add (.c 8) (lo T))), (.c 5), (w (.add (.c 8) (mi T))), (.c 4), (.a 7), (.c 0), (w (.add e2 (.c 1))), (.c 0)] (by kernel_rfl) (by kernel_rfl) (fun v hG => by kernel_rfl)
theorem r511_54 (val : Nat → Int) (h : Holds val (.is (qu H) 2 :: .ne (qu H) 1 :: .ne (lo T) 5 :: .is (qu T) 2 :: .ne (qu T) 1 :: .ne (qu T) 0 :: .ne (mi T) 4 :: .is (lo H) 4 :: .ne (qu H) 3 :: pre 5 1 1)) (ht : Tabs 5 val) : Q val := leafR (by omega) h ht [(.c 0), (.c 0), (.c 0), (.c 0), (.c 0), (.c 0), (.c 0), (.c 0), (.c 0), (.c 0), (.c 9)] (by kernel_rfl) (by kernel_rfl) (fun v hG => by kernel_rfl)
theorem r511_55 (val : Nat → Int) (h : Holds val (.is (qu H) 0 :: .ne (qu H) 2 :: .ne (qu H) 1 :: .ne (lo T) 5 :: .is (qu T) 2 :: .ne (qu T) 1 :: .ne (qu T) 0 :: .ne (mi T) 4 :: .is (lo H) 4 :: .ne (qu H) 3 :: pre 5 1 1)) (ht : Tabs 5 val) : Q val := leafR (by omega) h ht [(mi H), (.c (-1)), (.c 5), (w (.add (.c 8) (lo T))), (.c 5), (w (.add (.c 8) (mi T))), (.c 4), (.c 0), (.c 0), e2, (.c 0)] (by kernel_rfl) (by kernel_rfl) (fun v hG => by kernel_rfl)
theorem r511_56 (val : Nat → Int) (h : Holds val (.ne (qu H) 0 :: .ne (qu H) 2 :: .ne (qu H) 1 :: .ne (lo T) 5 :: .is (qu T) 2 :: .ne (qu T) 1 :: .ne (qu T) 0 :: .ne (mi T) 4 :: .is (lo H) 4 :: .ne (qu H) 3 :: pre 5 1 1)) (ht : Tabs 5 val) : Q val := leafR (by omega) h ht [(mi H), (.c (-1)), (.c 5), (w (.add (.c 8) (lo T))), (.c 5), (w (.add (.c 8) (mi T))), (.c 4), (.c 0), (.c 0), e2, (.c 0)] (by kernel_rfl) (by kernel_rfl) (fun v hG => by kernel_rfl)
theorem r511_57 (val : Nat → Int) (h : Holds val (.is (qu H) 0 :: .is (lo T) 5 :: .ne (qu T) 2 :: .ne (qu T) 1 :: .ne (qu T) 0 :: .ne (mi T) 4 :: .is (lo H) 4 :: .ne (qu H) 3 :: pre 5 1 1)) (ht : Tabs 5 val) : Q val := leafR (by omega) h ht [(.c 0), (.c 0), (.c 0), (.c 0), (.c 0), (.c 0), (.c 0), (.c 0), (.c 0), (.c 0), (.c 4)] (by kernel_rfl) (by kernel_rfl) (fun v hG => by kernel_rfl)
theorem r511_58 (val : Nat → Int) (h : Holds val (.is (qu H) 1 :: .ne (qu H) 0 :: .is (lo T) 5 :: .ne (qu T) 2 :: .ne (qu T) 1 :: .ne (qu T) 0 :: .ne (mi T) 4 :: .is (lo H) 4 :: .ne (qu H) 3 :: pre 5 1 1)) (ht : Tabs 5 val) : Q val := leafR (by omega) h ht [(mi H), (.c (-1)), (.c 5), (.c 13), (.c 5), (w (.add (.c 8) (mi T))), (.c 8), (.a 7), (.c 0), (w (.add e2 (.c 1))), (.c 0)] (by kernel_rfl) (by kernel_rfl) (fun v hG => by kernel_rfl)
theorem r511_59 (val : Nat → Int) (h : Holds val (.is (qu H) 2 :: .ne (qu H) 1 :: .ne (qu H) 0 :: .is (lo T) 5 :: .ne (qu T) 2 :: .ne (qu T) 1 :: .ne (qu T) 0 :: .ne (mi T) 4 :: .is (lo H) 4 :: .ne (qu H) 3 :: pre 5 1 1)) (ht : Tabs 5 val) : Q val := leafR (by omega) h ht [(.c 0), (.c 0), (.c 0), (.c 0), (.c 0), (.c 0), (.c 0), (.c 0), (.c 0), (.c 0), (.c 9)] (by kernel_rfl) (by kernel_rfl) (fun v hG => by kernel_rfl)
theorem r511_60 (val : Nat → Int) (h : Holds val (.ne (qu H) 2 :: .ne (qu H) 1 :: .ne (qu H) 0 :: .is (lo T) 5 :: .ne (qu T) 2 :: .ne (qu T) 1 :: .ne (qu T) 0 :: .ne (mi T) 4 :: .is (lo H) 4 :: .ne (qu H) 3 :: pre 5 1 1)) (ht : Tabs 5 val) : Q val := leafR (by omega) h ht [(mi H), (.c (-1)), (.c 5), (.c 13), (.c 5), (w (.add (.c 8) (mi T))), (.c 8), (.c 0), (.c 0), e2, (.c 0)] (by kernel_rfl) (by kernel_rfl) (fun v hG => by kernel_rfl)
theorem r511_61 (val : Nat → Int) (h : Holds val (.is (qu H) 1 :: .ne (lo T) 5 :: .ne (qu T) 2 :: .ne (qu T) 1 :: .ne (qu T) 0 :: .ne (mi T) 4 :: .is (lo H) 4 :: .ne (qu H) 3 :: pre 5 1 1)) (ht : Tabs 5 val) : Q val := leafR (by omega) h ht [(mi H), (.c (-1)), (.c 5), (w (.add (.c 8) (lo T))), (.c 5), (w (.add (.c 8) (mi T))), (.c 8), (.a 7), (.c 0), (w (.add e2 (.c 1))), (.c 0)] (by kernel_rfl) (by kernel_rfl) (fun v hG => by kernel_rfl)
theorem r511_62 (val : Nat → Int) (h : Holds val (.is (qu H) 2 :: .ne (qu H) 1 :: .ne (lo T) 5 :: .ne (qu T) 2 :: .ne (qu T) 1 :: .ne (qu T) 0 :: .ne (mi T) 4 :: .is (lo H) 4 :: .ne (qu H) 3 :: pre 5 1 1)) (ht : Tabs 5 val) : Q val := leafR (by omega) h ht [(.c 0), (.c 0), (.c 0), (.c 0), (.c 0), (.c 0), (.c 0), (.c 0), (.c 0), (.c 0), (.c 9)] (by kernel_rfl) (by kernel_rfl) (fun v hG => by kernel_rfl)
theorem r511_63 (val : Nat → Int) (h : Holds val (.is (qu H) 0 :: .ne (qu H) 2 :: .ne (qu H) 1 :: .ne (lo T) 5 :: .ne (qu T) 2 :: .ne (qu T) 1 :: .ne (qu T) 0 :: .ne (mi T) 4 :: .is (lo H) 4 :: .ne (qu H) 3 :: pre 5 1 1)) (ht : Tabs 5 val) : Q val := leafR (by omega) h ht [(mi H), (.c (-1)), (.c 5), (w (.add (.c 8) (lo T))), (.c 5), (w (.add (.c 8) (mi T))), (.c 8), (.c 0), (.c 0), e2, (.c 0)] (by kernel_rfl) (by kernel_rfl) (fun v hG => by kernel_rfl)
theorem r511_64 (val : Nat → Int) (h : Holds val (.ne (qu H) 0 :: .ne (qu H) 2 :: .ne (qu H) 1 :: .ne (lo T) 5 :: .ne (qu T) 2 :: .ne (qu T) 1 :: .ne (qu T) 0 :: .ne (mi T) 4 :: .is (lo H) 4 :: .ne (qu H) 3 :: pre 5 1 1)) (ht : Tabs 5 val) : Q val := leafR (by omega) h ht [(mi H), (.c (-1)), (.c 5), (w (.add (.c 8) (lo T))), (.c 5), (w (.add (.c 8) (mi T))), (.c 8), (.c 0), (.c 0), e2, (.c 0)] (by kernel_rfl) (by kernel_rfl) (fun v hG => by kernel_rfl)
theorem r511_65 (val : Nat → Int) (h : Holds val (.ne (lo H) 4 :: .ne (qu H) 3 :: pre 5 1 1)) (ht : Tabs 5 val) : Q val := leafR (by omega) h ht [(.c 0), (.c 0), (.c 0), (.c 0), (.c 0), (.c 0), (.c 0), (.c 0), (.c 0), (.c 0), (.c 4)] (by kernel_rfl) (by kernel_rfl) (fun v hG => by kernel_rfl)

theorem r511 : DR 5 1 1 := fun val h ht =>
  by_way (.eq (qu H) (.c 3)) (.is (qu H) 3) (.ne (qu H) 3) (by kernel_rfl) (by kernel_rfl) h
  (fun h => r511_0 val h ht)
  (fun h => by_way (.eq (lo H) (.c 4)) (.is (lo H) 4) (.ne (lo H) 4) (by kernel_rfl) (by kernel_rfl) h
  (fun h => by_way (.eq (mi T) (.c 4)) (.is (mi T) 4) (.ne (mi T) 4) (by kernel_rfl) (by kernel_rfl) h
  (fun h => by_way (.eq (qu T) (.c 0)) (.is (qu T) 0) (.ne (qu T) 0) (by kernel_rfl) (by kernel_rfl) h
  (fun h => by_way (.eq (lo T) (.c 5)) (.is (lo T) 5) (.ne (lo T) 5) (by kernel_rfl) (by kernel_rfl) h
  (fun h => by_way (.eq (qu H) (.c 0)) (.is (qu H) 0) (.ne (qu H) 0) (by kernel_rfl) (by kernel_rfl) h
  (fun h => r511_1 val h ht)
  (fun h => by_way (.eq (qu H) (.c 1)) (.is (qu H) 1) (.ne (qu H) 1) (by kernel_rfl) (by kernel_rfl) h
  (fun h => r511_2 val h ht)
  (fun h => by_way (.eq (qu H) (.c 2)) (.is (qu H) 2) (.ne (qu H) 2) (by kernel_rfl) (by kernel_rfl) h
  (fun h => r511_3 val h ht)
  (fun h => r511_4 val h ht))))
  (fun h => by_way (.eq (qu H) (.c 1)) (.is (qu H) 1) (.ne (qu H) 1) (by kernel_rfl) (by kernel_rfl) h
  (fun h => r511_5 val h ht)
  (fun h => by_way (.eq (qu H) (.c 2)) (.is (qu H) 2) (.ne (qu H) 2) (by kernel_rfl) (by kernel_rfl) h
  (fun h => r511_6 val h ht)
  (fun h => by_way (.eq (qu H) (.c 0)) (.is (qu H) 0) (.ne (qu H) 0) (by kernel_rfl) (by kernel_rfl) h
  (fun h => r511_7 val h ht)
  (fun h => r511_8 val h ht)))))
  (fun h => by_way (.eq (qu T) (.c 1)) (.is (qu T) 1) (.ne (qu T) 1) (by kernel_rfl) (by kernel_rfl) h
  (fun h => by_way (.eq (lo T) (.c 5)) (.is (lo T) 5) (.ne (lo T) 5) (by kernel_rfl) (by kernel_rfl) h
  (fun h => by_way (.eq (qu H) (.c 0)) (.is (qu H) 0) (.ne (qu H) 0) (by kernel_rfl) (by kernel_rfl) h
  (fun h => r511_9 val h ht)
  (fun h => by_way (.eq (qu H) (.c 1)) (.is (qu H) 1) (.ne (qu H) 1) (by kernel_rfl) (by kernel_rfl) h
  (fun h => r511_10 val h ht)
  (fun h => by_way (.eq (qu H) (.c 2)) (.is (qu H) 2) (.ne (qu H) 2) (by kernel_rfl) (by kernel_rfl) h
  (fun h => r511_11 val h ht)
  (fun h => r511_12 val h ht))))
  (fun h => by_way (.eq (qu H) (.c 1)) (.is (qu H) 1) (.ne (qu H) 1) (by kernel_rfl) (by kernel_rfl) h
  (fun h => r511_13 val h ht)
  (fun h => by_way (.eq (qu H) (.c 2)) (.is (qu H) 2) (.ne (qu H) 2) (by kernel_rfl) (by kernel_rfl) h
  (fun h => r511_14 val h ht)
  (fun h => by_way (.eq (qu H) (.c 0)) (.is (qu H) 0) (.ne (qu H) 0) (by kernel_rfl) (by kernel_rfl) h
  (fun h => r511_15 val h ht)
  (fun h => r511_16 val h ht)))))
  (fun h => by_way (.eq (qu T) (.c 2)) (.is (qu T) 2) (.ne (qu T) 2) (by kernel_rfl) (by kernel_rfl) h
  (fun h => by_way (.eq (lo T) (.c 5)) (.is (lo T) 5) (.ne (lo T) 5) (by kernel_rfl) (by kernel_rfl) h
  (fun h => by_way (.eq (qu H) (.c 0)) (.is (qu H) 0) (.ne (qu H) 0) (by kernel_rfl) (by kernel_rfl) h
  (fun h => r511_17 val h ht)
  (fun h => by_way (.eq (qu H) (.c 1)) (.is (qu H) 1) (.ne (qu H) 1) (by kernel_rfl) (by kernel_rfl) h
  (fun h => r511_18 val h ht)
  (fun h => by_way (.eq (qu H) (.c 2)) (.is (qu H) 2) (.ne (qu H) 2) (by kernel_rfl) (by kernel_rfl) h
  (fun h => r511_19 val h ht)
  (fun h => r511_20 val h ht))))
  (fun h => by_way (.eq (qu H) (.c 1)) (.is (qu H) 1) (.ne (qu H) 1) (by kernel_rfl) (by kernel_rfl) h
  (fun h => r511_21 val h ht)
  (fun h => by_way (.eq (qu H) (.c 2)) (.is (qu H) 2) (.ne (qu H) 2) (by kernel_rfl) (by kernel_rfl) h
  (fun h => r511_22 val h ht)
  (fun h => by_way (.eq (qu H) (.c 0)) (.is (qu H) 0) (.ne (qu H) 0) (by kernel_rfl) (by kernel_rfl) h
  (fun h => r511_23 val h ht)
  (fun h => r511_24 val h ht)))))
  (fun h => by_way (.eq (lo T) (.c 5)) (.is (lo T) 5) (.ne (lo T) 5) (by kernel_rfl) (by kernel_rfl) h
  (fun h => by_way (.eq (qu H) (.c 0)) (.is (qu H) 0) (.ne (qu H) 0) (by kernel_rfl) (by kernel_rfl) h
  (fun h => r511_25 val h ht)
  (fun h => by_way (.eq (qu H) (.c 1)) (.is (qu H) 1) (.ne (qu H) 1) (by kernel_rfl) (by kernel_rfl) h
  (fun h => r511_26 val h ht)
  (fun h => by_way (.eq (qu H) (.c 2)) (.is (qu H) 2) (.ne (qu H) 2) (by kernel_rfl) (by kernel_rfl) h
  (fun h => r511_27 val h ht)
  (fun h => r511_28 val h ht))))
  (fun h => by_way (.eq (qu H) (.c 1)) (.is (qu H) 1) (.ne (qu H) 1) (by kernel_rfl) (by kernel_rfl) h
  (fun h => r511_29 val h ht)
  (fun h => by_way (.eq (qu H) (.c 2)) (.is (qu H) 2) (.ne (qu H) 2) (by kernel_rfl) (by kernel_rfl) h
  (fun h => r511_30 val h ht)
  (fun h => by_way (.eq (qu H) (.c 0)) (.is (qu H) 0) (.ne (qu H) 0) (by kernel_rfl) (by kernel_rfl) h
  (fun h => r511_31 val h ht)
  (fun h => r511_32 val h ht))))))))
  (fun h => by_way (.eq (qu T) (.c 0)) (.is (qu T) 0) (.ne (qu T) 0) (by kernel_rfl) (by kernel_rfl) h
  (fun h => by_way (.eq (lo T) (.c 5)) (.is (lo T) 5) (.ne (lo T) 5) (by kernel_rfl) (by kernel_rfl) h
  (fun h => by_way (.eq (qu H) (.c 0)) (.is (qu H) 0) (.ne (qu H) 0) (by kernel_rfl) (by kernel_rfl) h
  (fun h => r511_33 val h ht)
  (fun h => by_way (.eq (qu H) (.c 1)) (.is (qu H) 1) (.ne (qu H) 1) (by kernel_rfl) (by kernel_rfl) h
  (fun h => r511_34 val h ht)
  (fun h => by_way (.eq (qu H) (.c 2)) (.is (qu H) 2) (.ne (qu H) 2) (by kernel_rfl) (by kernel_rfl) h
  (fun h => r511_35 val h ht)
  (fun h => r511_36 val h ht))))
  (fun h => by_way (.eq (qu H) (.c 1)) (.is (qu H) 1) (.ne (qu H) 1) (by kernel_rfl) (by kernel_rfl) h
  (fun h => r511_37 val h ht)
  (fun h => by_way (.eq (qu H) (.c 2)) (.is (qu H) 2) (.ne (qu H) 2) (by kernel_rfl) (by kernel_rfl) h
  (fun h => r511_38 val h ht)
  (fun h => by_way (.eq (qu H) (.c 0)) (.is (qu H) 0) (.ne (qu H) 0) (by kernel_rfl) (by kernel_rfl) h
  (fun h => r511_39 val h ht)
  (fun h => r511_40 val h ht)))))
  (fun h => by_way (.eq (qu T) (.c 1)) (.is (qu T) 1) (.ne (qu T) 1) (by kernel_rfl) (by kernel_rfl) h
  (fun h => by_way (.eq (lo T) (.c 5)) (.is (lo T) 5) (.ne (lo T) 5) (by kernel_rfl) (by kernel_rfl) h
  (fun h => by_way (.eq (qu H) (.c 0)) (.is (qu H) 0) (.ne (qu H) 0) (by kernel_rfl) (by kernel_rfl) h
  (fun h => r511_41 val h ht)
  (fun h => by_way (.eq (qu H) (.c 1)) (.is (qu H) 1) (.ne (qu H) 1) (by kernel_rfl) (by kernel_rfl) h
  (fun h => r511_42 val h ht)
  (fun h => by_way (.eq (qu H) (.c 2)) (.is (qu H) 2) (.ne (qu H) 2) (by kernel_rfl) (by kernel_rfl) h
  (fun h => r511_43 val h ht)
  (fun h => r511_44 val h ht))))
  (fun h => by_way (.eq (qu H) (.c 1)) (.is (qu H) 1) (.ne (qu H) 1) (by kernel_rfl) (by kernel_rfl) h
  (fun h => r511_45 val h ht)
  (fun h => by_way (.eq (qu H) (.c 2)) (.is (qu H) 2) (.ne (qu H) 2) (by kernel_rfl) (by kernel_rfl) h
  (fun h => r511_46 val h ht)
  (fun h => by_way (.eq (qu H) (.c 0)) (.is (qu H) 0) (.ne (qu H) 0) (by kernel_rfl) (by kernel_rfl) h
  (fun h => r511_47 val h ht)
  (fun h => r511_48 val h ht)))))
  (fun h => by_way (.eq (qu T) (.c 2)) (.is (qu T) 2) (.ne (qu T) 2) (by kernel_rfl) (by kernel_rfl) h
  (fun h => by_way (.eq (lo T) (.c 5)) (.is (lo T) 5) (.ne (lo T) 5) (by kernel_rfl) (by kernel_rfl) h
  (fun h => by_way (.eq (qu H) (.c 0)) (.is (qu H) 0) (.ne (qu H) 0) (by kernel_rfl) (by kernel_rfl) h
  (fun h => r511_49 val h ht)
  (fun h => by_way (.eq (qu H) (.c 1)) (.is (qu H) 1) (.ne (qu H) 1) (by kernel_rfl) (by kernel_rfl) h
  (fun h => r511_50 val h ht)
  (fun h => by_way (.eq (qu H) (.c 2)) (.is (qu H) 2) (.ne (qu H) 2) (by kernel_rfl) (by kernel_rfl) h
  (fun h => r511_51 val h ht)
  (fun h => r511_52 val h ht))))
  (fun h => by_way (.eq (qu H) (.c 1)) (.is (qu H) 1) (.ne (qu H) 1) (by kernel_rfl) (by kernel_rfl) h
  (fun h => r511_53 val h ht)
  (fun h => by_way (.eq (qu H) (.c 2)) (.is (qu H) 2) (.ne (qu H) 2) (by kernel_rfl) (by kernel_rfl) h
  (fun h => r511_54 val h ht)
  (fun h => by_way (.eq (qu H) (.c 0)) (.is (qu H) 0) (.ne (qu H) 0) (by kernel_rfl) (by kernel_rfl) h
  (fun h => r511_55 val h ht)
  (fun h => r511_56 val h ht)))))
  (fun h => by_way (.eq (lo T) (.c 5)) (.is (lo T) 5) (.ne (lo T) 5) (by kernel_rfl) (by kernel_rfl) h
  (fun h => by_way (.eq (qu H) (.c 0)) (.is (qu H) 0) (.ne (qu H) 0) (by kernel_rfl) (by kernel_rfl) h
  (fun h => r511_57 val h ht)
  (fun h => by_way (.eq (qu H) (.c 1)) (.is (qu H) 1) (.ne (qu H) 1) (by kernel_rfl) (by kernel_rfl) h
  (fun h => r511_58 val h ht)
  (fun h => by_way (.eq (qu H) (.c 2)) (.is (qu H) 2) (.ne (qu H) 2) (by kernel_rfl) (by kernel_rfl) h
  (fun h => r511_59 val h ht)
  (fun h => r511_60 val h ht))))
  (fun h => by_way (.eq (qu H) (.c 1)) (.is (qu H) 1) (.ne (qu H) 1) (by kernel_rfl) (by kernel_rfl) h
  (fun h => r511_61 val h ht)
  (fun h => by_way (.eq (qu H) (.c 2)) (.is (qu H) 2) (.ne (qu H) 2) (by kernel_rfl) (by kernel_rfl) h
  (fun h => r511_62 val h ht)
  (fun h => by_way (.eq (qu H) (.c 0)) (.is (qu H) 0) (.ne (qu H) 0) (by kernel_rfl) (by kernel_rfl) h
  (fun h => r511_63 val h ht)
  (fun h => r511_64 val h ht)))))))))
  (fun h => r511_65 val h ht))

theorem r501_0 (val : Nat → Int) (h : Holds val (.is (qu H) 3 :: pre 5 0 1)) (ht : Tabs 5 val) : Q val := leafR (by omega) h ht [(mi H), (w (.add (.c 8) (lo H))), (.c 0), (.c 0), (.c 0), (.c 0), (.c 0), (.c 0), (.c 0), e1, (.c 0)] (by kernel_rfl) (by kernel_rfl) (fun v hG => by kernel_rfl)
theorem r501_1 (val : Nat → Int) (h : Holds val (.is (qu H) 0 :: .is (lo T) 5 :: .is (qu T) 0 :: .is (mi T) 4 :: .is (lo H) 4 :: .ne (qu H) 3 :: pre 5 0 1)) (ht : Tabs 5 val) : Q val := leafR (by omega) h ht [(.c 0), (.c 0), (.c 0), (.c 0), (.c 0), (.c 0), (.c 0), (.c 0), (.c 0), (.c 0), (.c 4)] (by kernel_rfl) (by kernel_rfl) (fun v hG => by kernel_rfl)
theorem r501_2 (val : Nat → Int) (h : Holds val (.is (qu H) 1 :: .ne (qu H) 0 :: .is (lo T) 5 :: .is (qu T) 0 :: .is (mi T) 4 :: .is (lo H) 4 :: .ne (qu H) 3 :: pre 5 0 1)) (ht : Tabs 5 val) : Q val := leafR (by omega) h ht [(mi H), (.c (-1)), (.c 5), (.c 13), (.c 0), (.c 0), (.c 0), (.a 7), (.c 0), (w (.add e2 (.c 1))), (.c 0)] (by kernel_rfl) (by kernel_rfl) (fun v hG => by kernel_rfl)
theorem r501_3 (val : Nat → Int) (h : Holds val (.is (qu H) 2 :: .ne (qu H) 1 :: .ne (qu H) 0 :: .is (lo T) 5 :: .is (qu T) 0 :: .is (mi T) 4 :: .is (lo H) 4 :: .ne (qu H) 3 :: pre 5 0 1)) (ht : Tabs 5 val) : Q val := leafR (by omega) h ht [(.c 0), (.c 0), (.c 0), (.c 0), (.c 0), (.c 0), (.c 0), (.c 0), (.c 0), (.c 0), (.c 9)] (by kernel_rfl) (by kernel_rfl) (fun v hG => by kernel_rfl)
theorem r501_4 (val : Nat → Int) (h : Holds val (.ne (qu H) 2 :: .ne (qu H) 1 :: .ne (qu H) 0 :: .is (lo T) 5 :: .is (qu T) 0 :: .is (mi T) 4 :: .is (lo H) 4 :: .ne (qu H) 3 :: pre 5 0 1)) (ht : Tabs 5 val) : Q val := leafR (by omega) h ht [(mi H), (.c (-1)), (.c 5), (.c 13), (.c 0), (.c 0), (.c 0), (.c 0), (.c 0), e2, (.c 0)] (by kernel_rfl) (by kernel_rfl) (fun v hG => by kernel_rfl)
theorem r501_5 (val : Nat → Int) (h : Holds val (.is (qu H) 1 :: .ne (lo T) 5 :: .is (qu T) 0 :: .is (mi T) 4 :: .is (lo H) 4 :: .ne (qu H) 3 :: pre 5 0 1)) (ht : Tabs 5 val) : Q val := leafR (by omega) h ht [(mi H), (.c (-1)), (.c 5), (w (.add (.c 8) (lo T))), (.c 0), (.c 0), (.c 0), (.a 7), (.c 0), (w (.add e2 (.c 1))), (.c 0)] (by kernel_rfl) (by kernel_rfl) (fun v hG => by kernel_rfl)
theorem r501_6 (val : Nat → Int) (h : Holds val (.is (qu H) 2 :: .ne (qu H) 1 :: .ne (lo T) 5 :: .is (qu T) 0 :: .is (mi T) 4 :: .is (lo H) 4 :: .ne (qu H) 3 :: pre 5 0 1)) (ht : Tabs 5 val) : Q val := leafR (by omega) h ht [(.c 0), (.c 0), (.c 0), (.c 0), (.c 0), (.c 0), (.c 0), (.c 0), (.c 0), (.c 0), (.c 9)] (by kernel_rfl) (by kernel_rfl) (fun v hG => by kernel_rfl)
theorem r501_7 (val : Nat → Int) (h : Holds val (.is (qu H) 0 :: .ne (qu H) 2 :: .ne (qu H) 1 :: .ne (lo T) 5 :: .is (qu T) 0 :: .is (mi T) 4 :: .is (lo H) 4 :: .ne (qu H) 3 :: pre 5 0 1)) (ht : Tabs 5 val) : Q val := leafR (by omega) h ht [(mi H), (.c (-1)), (.c 5), (w (.add (.c 8) (lo T))), (.c 0), (.c 0), (.c 0), (.c 0), (.c 0), e2, (.c 0)] (by kernel_rfl) (by kernel_rfl) (fun v hG => by kernel_rfl)
theorem r501_8 (val : Nat → Int) (h : Holds val (.ne (qu H) 0 :: .ne (qu H) 2 :: .ne (qu H) 1 :: .ne (lo T) 5 :: .is (qu T) 0 :: .is (mi T) 4 :: .is (lo H) 4 :: .ne (qu H) 3 :: pre 5 0 1)) (ht : Tabs 5 val) : Q val := leafR (by omega) h ht [(mi H), (.c (-1)), (.c 5), (w (.add (.c 8) (lo T))), (.c 0), (.c 0), (.c 0), (.c 0), (.c 0), e2, (.c 0)] (by kernel_rfl) (by kernel_rfl) (fun v hG => by kernel_rfl)
theorem r501_9 (val : Nat → Int) (h : Holds val (.ne (qu T) 0 :: .is (mi T) 4 :: .is (lo H) 4 :: .ne (qu H) 3 :: pre 5 0 1)) (ht : Tabs 5 val) : Q val := leafR (by omega) h ht [(.c 0), (.c 0), (.c 0), (.c 0), (.c 0), (.c 0), (.c 0), (.c 0), (.c 0), (.c 0), (.c 4)] (by kernel_rfl) (by kernel_rfl) (fun v hG => by kernel_rfl)
theorem r501_10 (val : Nat → Int) (h : Holds val (.is (qu H) 0 :: .is (lo T) 5 :: .is (qu T) 0 :: .ne (mi T) 4 :: .is (lo H) 4 :: .ne (qu H) 3 :: pre 5 0 1)) (ht : Tabs 5 val) : Q val := leafR (by omega) h ht [(.c 0), (.c 0), (.c 0), (.c 0), (.c 0), (.c 0), (.c 0), (.c 0), (.c 0), (.c 0), (.c 4)] (by kernel_rfl) (by kernel_rfl) (fun v hG => by kernel_rfl)
theorem r501_11 (val : Nat → Int) (h : Holds val (.is (qu H) 1 :: .ne (qu H) 0 :: .is (lo T) 5 :: .is (qu T) 0 :: .ne (mi T) 4 :: .is (lo H) 4 :: .ne (qu H) 3 :: pre 5 0 1)) (ht : Tabs 5 val) : Q val := leafR (by omega) h ht [(mi H), (.c (-1)), (.c 5), (.c 13), (.c 5), (w (.add (.c 0) (mi T))), (.c 1), (.a 7), (.c 0), (w (.add e2 (.c 1))), (.c 0)] (by kernel_rfl) (by kernel_rfl) (fun v hG => by kernel_rfl)
theorem r501_12 (val : Nat → Int) (h : Holds val (.is (qu H) 2 :: .ne (qu H) 1 :: .ne (qu H) 0 :: .is (lo T) 5 :: .is (qu T) 0 :: .ne (mi T) 4 :: .is (lo H) 4 :: .ne (qu H) 3 :: pre 5 0 1)) (ht : Tabs 5 val) : Q val := leafR (by omega) h ht [(.c 0), (.c 0), (.c 0), (.c 0), (.c 0), (.c 0), (.c 0), (.c 0), (.c 0), (.c 0), (.c 9)] (by kernel_rfl) (by kernel_rfl) (fun v hG => by kernel_rfl)
theorem r501_13 (val : Nat → Int) (h : Holds val (.ne (qu H) 2 :: .ne (qu H) 1 :: .ne (qu H) 0 :: .is (lo T) 5 :: .is (qu T) 0 :: .ne (mi T) 4 :: .is (lo H) 4 :: .ne (qu H) 3 :: pre 5 0 1)) (ht : Tabs 5 val) : Q val := leafR (by omega) h ht [(mi H), (.c (-1)), (.c 5), (.c 13), (.c 5), (w (.add (.c 0) (mi T))), (.c 1), (.c 0), (.c 0), e2, (.c 0)] (by kernel_rfl) (by kernel_rfl) (fun v hG => by kernel_rfl)
theorem r501_14 (val : Nat → Int) (h : Holds val (.is (qu H) 1 :: .ne (lo T) 5 :: .is (qu T) 0 :: .ne (mi T) 4 :: .is (lo H) 4 :: .ne (qu H) 3 :: pre 5 0 1)) (ht : Tabs 5 val) : Q val := leafR (by omega) h ht [(mi H), (.c (-1)), (.c 5), (w (.add (.c 8) (lo T))), (.c 5), (w (.add (.c 0) (mi T))), (.c 1), (.a 7), (.c 0), (w (.add e2 (.c 1))), (.c 0)] (by kernel_rfl) (by kernel_rfl) (fun v hG => by kernel_rfl)
theorem r501_15 (val : Nat → Int) (h : Holds val (.is (qu H) 2 :: .ne (qu H) 1 :: .ne (lo T) 5 :: .is (qu T) 0 :: .ne (mi T) 4 :: .is (lo H) 4 :: .ne (qu H) 3 :: pre 5 0 1)) (ht : Tabs 5 val) : Q val := leafR (by omega) h ht [(.c 0), (.c 0), (.c 0), (.c 0), (.c 0), (.c 0), (.c 0), (.c 0), (.c 0), (.c 0), (.c 9)] (by kernel_rfl) (by kernel_rfl) (fun v hG => by kernel_rfl)
theorem r501_16 (val : Nat → Int) (h : Holds val (.is (qu H) 0 :: .ne (qu H) 2 :: .ne (qu H) 1 :: .ne (lo T) 5 :: .is (qu T) 0 :: .ne (mi T) 4 :: .is (lo H) 4 :: .ne (qu H) 3 :: pre 5 0 1)) (ht : Tabs 5 val) : Q val := leafR (by omega) h ht [(mi H), (.c (-1)), (.c 5), (w (.add (.c 8) (lo T))), (.c 5), (w (.add (.c 0) (mi T))), (.c 1), (.c 0), (.c 0), e2, (.c 0)] (by kernel_rfl) (by kernel_rfl) (fun v hG => by kernel_rfl)
theorem r501_17 (val : Nat → Int) (h : Holds val (.ne (qu H) 0 :: .ne (qu H) 2 :: .ne (qu H) 1 :: .ne (lo T) 5 :: .is (qu T) 0 :: .ne (mi T) 4 :: .is (lo H) 4 :: .ne (qu H) 3 :: pre 5 0 1)) (ht : Tabs 5 val) : Q val := leafR (by omega) h ht [(mi H), (.c (-1)), (.c 5), (w (.add (.c 8) (lo T))), (.c 5), (w (.add (.c 0) (mi T))), (.c 1), (.c 0), (.c 0), e2, (.c 0)] (by kernel_rfl) (by kernel_rfl) (fun v hG => by kernel_rfl)
theorem r501_18 (val : Nat → Int) (h : Holds val (.is (qu H) 0 :: .is (lo T) 5 :: .is (qu T) 1 :: .ne (qu T) 0 :: .ne (mi T) 4 :: .is (lo H) 4 :: .ne (qu H) 3 :: pre 5 0 1)) (ht : Tabs 5 val) : Q val := leafR (by omega) h ht [(.c 0), (.c 0), (.c 0), (.c 0), (.c 0), (.c 0), (.c 0), (.c 0), (.c 0), (.c 0), (.c 4)] (by kernel_rfl) (by kernel_rfl) (fun v hG => by kernel_rfl)
theorem r501_19 (val : Nat → Int) (h : Holds val (.is (qu H) 1 :: .ne (qu H) 0 :: .is (lo T) 5 :: .is (qu T) 1 :: .ne (qu T) 0 :: .ne (mi T) 4 :: .is (lo H) 4 :: .ne (qu H) 3 :: pre 5 0 1)) (ht : Tabs 5 val) : Q val := leafR (by omega) h ht [(mi H), (.c (-1)), (.c 5), (.c 13), (.c 5), (w (.add (.c 0) (mi T))), (.c 2), (.a 7), (.c 0), (w (.add e2 (.c 1))), (.c 0)] (by kernel_rfl) (by kernel_rfl) (fun v hG => by kernel_rfl)
theorem r501_20 (val : Nat → Int) (h : Holds val (.is (qu H) 2 :: .ne (qu H) 1 :: .ne (qu H) 0 :: .is (lo T) 5 :: .is (qu T) 1 :: .ne (qu T) 0 :: .ne (mi T) 4 :: .is (lo H) 4 :: .ne (qu H) 3 :: pre 5 0 1)) (ht : Tabs 5 val) : Q val := leafR (by omega) h ht [(.c 0), (.c 0), (.c 0), (.c 0), (.c 0), (.c 0), (.c 0), (.c 0), (.c 0), (.c 0), (.c 9)] (by kernel_rfl) (by kernel_rfl) (fun v hG => by kernel_rfl)
theorem r501_21 (val : Nat → Int) (h : Holds val (.ne (qu H) 2 :: .ne (qu H) 1 :: .ne (qu H) 0 :: .is (lo T) 5 :: .is (qu T) 1 :: .ne (qu T) 0 :: .ne (mi T) 4 :: .is (lo H) 4 :: .ne (qu H) 3 :: pre 5 0 1)) (ht : Tabs 5 val) : Q val := leafR (by omega) h ht [(mi H), (.c (-1)), (.c 5), (.c 13), (.c 5), (w (.add (.c 0) (mi T))), (.c 2), (.c 0), (.c 0), e2, (.c 0)] (by kernel_rfl) (by kernel_rfl) (fun v hG => by kernel_rfl)
theorem r501_22 (val : Nat → Int) (h : Holds val (.is (qu H) 1 :: .ne (lo T) 5 :: .is (qu T) 1 :: .ne (qu T) 0 :: .ne (mi T) 4 :: .is (lo H) 4 :: .ne (qu H) 3 :: pre 5 0 1)) (ht : Tabs 5 val) : Q val := leafR (by omega) h ht [(mi H), (.c (-1)), (.c 5), (w (.add (.c 8) (lo T))), (.c 5), (w (.add (.c 0) (mi T))), (.c 2), (.a 7), (.c 0), (w (.add e2 (.c 1))), (.c 0)] (by kernel_rfl) (by kernel_rfl) (fun v hG => by kernel_rfl)
theorem r501_23 (val : Nat → Int) (h : Holds val (.is (qu H) 2 :: .ne (qu H) 1 :: .ne (lo T) 5 :: .is (qu T) 1 :: .ne (qu T) 0 :: .ne (mi T) 4 :: .is (lo H) 4 :: .ne (qu H) 3 :: pre 5 0 1)) (ht : Tabs 5 val) : Q val := leafR (by omega) h ht [(.c 0), (.c 0), (.c 0), (.c 0), (.c 0), (.c 0), (.c 0), (.c 0), (.c 0), (.c 0), (.c 9)] (by kernel_rfl) (by kernel_rfl) (fun v hG => by kernel_rfl)
theorem r501_24 (val : Nat → Int) (h : Holds val (.is (qu H) 0 :: .ne (qu H) 2 :: .ne (qu H) 1 :: .ne (lo T) 5 :: .is (qu T) 1 :: .ne (qu T) 0 :: .ne (mi T) 4 :: .is (lo H) 4 :: .ne (qu H) 3 :: pre 5 0 1)) (ht : Tabs 5 val) : Q val := leafR (by omega) h ht [(mi H), (.c (-1)), (.c 5), (w (.add (.c 8) (lo T))), (.c 5), (w (.add (.c 0) (mi T))), (.c 2), (.c 0), (.c 0), e2, (.c 0)] (by kernel_rfl) (by kernel_rfl) (fun v hG => by kernel_rfl)
theorem r501_25 (val : Nat → Int) (h : Holds val (.ne (qu H) 0 :: .ne (qu H) 2 :: .ne (qu H) 1 :: .ne (lo T) 5 :: .is (qu T) 1 :: .ne (qu T) 0 :: .ne (mi T) 4 :: .is (lo H) 4 :: .ne (qu H) 3 :: pre 5 0 1)) (ht : Tabs 5 val) : Q val := leafR (by omega) h ht [(mi H), (.c (-1)), (.c 5), (w (.add (.c 8) (lo T))), (.c 5), (w (.add (.c 0) (mi T))), (.c 2), (.c 0), (.c 0), e2, (.c 0)] (by kernel_rfl) (by kernel_rfl) (fun v hG => by kernel_rfl)
theorem r501_26 (val : Nat → Int) (h : Holds val (.is (qu H) 0 :: .is (lo T) 5 :: .is (qu T) 2 :: .ne (qu T) 1 :: .ne (qu T) 0 :: .ne (mi T) 4 :: .is (lo H) 4 :: .ne (qu H) 3 :: pre 5 0 1)) (ht : Tabs 5 val) : Q val := leafR (by omega) h ht [(.c 0), (.c 0), (.c 0), (.c 0), (.c 0), (.c 0), (.c 0), (.c 0), (.c 0), (.c 0), (.c 4)] (by kernel_rfl) (by kernel_rfl) (fun v hG => by kernel_rfl)
theorem r501_27 (val : Nat → Int) (h : Holds val (.is (qu H) 1 :: .ne (qu H) 0 :: .is (lo T) 5 :: .is (qu T) 2 :: .ne (qu T) 1 :: .ne (qu T) 0 :: .ne (mi T) 4 :: .is (lo H) 4 :: .ne (qu H) 3 :: pre 5 0 1)) (ht : Tabs 5 val) : Q val := leafR (by omega) h ht [(mi H), (.c (-1)), (.c 5), (.c 13), (.c 5), (w (.add (.c 0) (mi T))), (.c 4), (.a 7), (.c 0), (w (.add e2 (.c 1))), (.c 0)] (by kernel_rfl) (by kernel_rfl) (fun v hG => by kernel_rfl)
theorem r501_28 (val : Nat → Int) (h : Holds val (.is (qu H) 2 :: .ne (qu H) 1 :: .ne (qu H) 0 :: .is (lo T) 5 :: .is (qu T) 2 :: .ne (qu T) 1 :: .ne (qu T) 0 :: .ne (mi T) 4 :: .is (lo H) 4 :: .ne (qu H) 3 :: pre 5 0 1)) (ht : Tabs 5 val) : Q val := leafR (by omega) h ht [(.c 0), (.c 0), (.c 0), (.c 0), (.c 0), (.c 0), (.c 0), (.c 0), (.c 0), (.c 0), (.c 9)] (by kernel_rfl) (by kernel_rfl) (fun v hG => by kernel_rfl)
theorem r501_29 (val : Nat → Int) (h : Holds val (.ne (qu H) 2 :: .ne (qu H) 1 :: .ne (qu H) 0 :: .is (lo T) 5 :: .is (qu T) 2 :: .ne (qu T) 1 :: .ne (qu T) 0 :: .ne (mi T) 4 :: .is (lo H) 4 :: .ne (qu H) 3 :: pre 5 0 1)) (ht : Tabs 5 val) : Q val := leafR (by omega) h ht [(mi H), (.c (-1)), (.c 5), (.c 13), (.c 5), (w (.add (.c 0) (mi T))), (.c 4), (.c 0), (.c 0), e2, (.c 0)] (by kernel_rfl) (by kernel_rfl) (fun v hG => by kernel_rfl)
theorem r501_30 (val : Nat → Int) (h : Holds val (.is (qu H) 1 :: .ne (lo T) 5 :: .is (qu T) 2 :: .ne (qu T) 1 :: .ne (qu T) 0 :: .ne (mi T) 4 :: .is (lo H) 4 :: .ne (qu H) 3 :: pre 5 0 1)) (ht : Tabs 5 val) : Q val := leafR (by omega) h ht [(mi H), (.c (-1)), (.c 5), (w (.add (.c 8) (lo T))), (.c 5), (w (.add (.c 0) (mi T))), (.c 4), (.a 7), (.c 0), (w (.add e2 (.c 1))), (.c 0)] (by kernel_rfl) (by kernel_rfl) (fun v hG => by kernel_rfl)
theorem r501_31 (val : Nat → Int) (h : Holds val (.is (qu H) 2 :: .ne (qu H) 1 :: .ne (lo T) 5 :: .is (qu T) 2 :: .ne (qu T) 1 :: .ne (qu T) 0 :: .ne (mi T) 4 :: .is (lo H) 4 :: .ne (qu H) 3 :: pre 5 0 1)) (ht : Tabs 5 val) : Q val := leafR (by omega) h ht [(.c 0), (.c 0), (.c 0), (.c 0), (.c 0), (.c 0), (.c 0), (.c 0), (.c 0), (.c 0), (.c 9)] (by kernel_rfl) (by kernel_rfl) (fun v hG => by kernel_rfl)
theorem r501_32 (val : Nat → Int) (h : Holds val (.is (qu H) 0 :: .ne (qu H) 2 :: .ne (qu H) 1 :: .ne (lo T) 5 :: .is (qu T) 2 :: .ne (qu T) 1 :: .ne (qu T) 0 :: .ne (mi T) 4 :: .is (lo H) 4 :: .ne (qu H) 3 :: pre 5 0 1)) (ht : Tabs 5 val) : Q val := leafR (by omega) h ht [(mi H), (.c (-1)), (.c 5), (w (.add (.c 8) (lo T))), (.c 5), (w (.add (.c 0) (mi T))), (.c 4), (.c 0), (.c 0), e2, (.c 0)] (by kernel_rfl) (by kernel_rfl) (fun v hG => by kernel_rfl)
theorem r501_33 (val : Nat → Int) (h : Holds val (.ne (qu H) 0 :: .ne (qu H) 2 :: .ne (qu H) 1 :: .ne (lo T) 5 :: .is (qu T) 2 :: .ne (qu T) 1 :: .ne (qu T) 0 :: .ne (mi T) 4 :: .is (lo H) 4 :: .ne (qu H) 3 :: pre 5 0 1)) (ht : Tabs 5 val) : Q val := leafR (by omega) h ht [(mi H), (.c (-1)), (.c 5), (w (.add (.c 8) (lo T))), (.c 5), (w (.add (.c 0) (mi T))), (.c 4), (.c 0), (.c 0), e2, (.c 0)] (by kernel_rfl) (by kernel_rfl) (fun v hG => by kernel_rfl)
theorem r501_34 (val : Nat → Int) (h : Holds val (.is (qu H) 0 :: .is (lo T) 5 :: .ne (qu T) 2 :: .ne (qu T) 1 :: .ne (qu T) 0 :: .ne (mi T) 4 :: .is (lo H) 4 :: .ne (qu H) 3 :: pre 5 0 1)) (ht : Tabs 5 val) : Q val := leafR (by omega) h ht [(.c 0), (.c 0), (.c 0), (.c 0), (.c 0), (.c 0), (.c 0), (.c 0), (.c 0), (.c 0), (.c 4)] (by kernel_rfl) (by kernel_rfl) (fun v hG => by kernel_rfl)
theorem r501_35 (val : Nat → Int) (h : Holds val (.is (qu H) 1 :: .ne (qu H) 0 :: .is (lo T) 5 :: .ne (qu T) 2 :: .ne (qu T) 1 :: .ne (qu T) 0 :: .ne (mi T) 4 :: .is (lo H) 4 :: .ne (qu H) 3 :: pre 5 0 1)) (ht : Tabs 5 val) : Q val := leafR (by omega) h ht [(mi H), (.c (-1)), (.c 5), (.c 13), (.c 5), (w (.add (.c 0) (mi T))), (.c 8), (.a 7), (.c 0), (w (.add e2 (.c 1))), (.c 0)] (by kernel_rfl) (by kernel_rfl) (fun v hG => by kernel_rfl)
theorem r501_36 (val : Nat → Int) (h : Holds val (.is (qu H) 2 :: .ne (qu H) 1 :: .ne (qu H) 0 :: .is (lo T) 5 :: .ne (qu T) 2 :: .ne (qu T) 1 :: .ne (qu T) 0 :: .ne (mi T) 4 :: .is (lo H) 4 :: .ne (qu H) 3 :: pre 5 0 1)) (ht : Tabs 5 val) : Q val := leafR (by omega) h ht [(.c 0), (.c 0), (.c 0), (.c 0), (.c 0), (.c 0), (.c 0), (.c 0), (.c 0), (.c 0), (.c 9)] (by kernel_rfl) (by kernel_rfl) (fun v hG => by kernel_rfl)
theorem r501_37 (val : Nat → Int) (h : Holds val (.ne (qu H) 2 :: .ne (qu H) 1 :: .ne (qu H) 0 :: .is (lo T) 5 :: .ne (qu T) 2 :: .ne (qu T) 1 :: .ne (qu T) 0 :: .ne (mi T) 4 :: .is (lo H) 4 :: .ne (qu H) 3 :: pre 5 0 1)) (ht : Tabs 5 val) : Q val := leafR (by omega) h ht [(mi H), (.c (-1)), (.c 5), (.c 13), (.c 5), (w (.add (.c 0) (mi T))), (.c 8), (.c 0), (.c 0), e2, (.c 0)] (by kernel_rfl) (by kernel_rfl) (fun v hG => by kernel_rfl)
theorem r501_38 (val : Nat → Int) (h : Holds val (.is (qu H) 1 :: .ne (lo T) 5 :: .ne (qu T) 2 :: .ne (qu T) 1 :: .ne (qu T) 0 :: .ne (mi T) 4 :: .is (lo H) 4 :: .ne (qu H) 3 :: pre 5 0 1)) (ht : Tabs 5 val) : Q val := leafR (by omega) h ht [(mi H), (.c (-1)), (.c 5), (w (.add (.c 8) (lo T))), (.c 5), (w (.add (.c 0) (mi T))), (.c 8), (.a 7), (.c 0), (w (.add e2 (.c 1))), (.c 0)] (by kernel_rfl) (by kernel_rfl) (fun v hG => by kernel_rfl)
theorem r501_39 (val : Nat → Int) (h : Holds val (.is (qu H) 2 :: .ne (qu H) 1 :: .ne (lo T) 5 :: .ne (qu T) 2 :: .ne (qu T) 1 :: .ne (qu T) 0 :: .ne (mi T) 4 :: .is (lo H) 4 :: .ne (qu H) 3 :: pre 5 0 1)) (ht : Tabs 5 val) : Q val := leafR (by omega) h ht [(.c 0), (.c 0), (.c 0), (.c 0), (.c 0), (.c 0), (.c 0), (.c 0), (.c 0), (.c 0), (.c 9)] (by kernel_rfl) (by kernel_rfl) (fun v hG => by kernel_rfl)
theorem r501_40 (val : Nat → Int) (h : Holds val (.is (qu H) 0 :: .ne (qu H) 2 :: .ne (qu H) 1 :: .ne (lo T) 5 :: .ne (qu T) 2 :: .ne (qu T) 1 :: .ne (qu T) 0 :: .ne (mi T) 4 :: .is (lo H) 4 :: .ne (qu H) 3 :: pre 5 0 1)) (ht : Tabs 5 val) : Q val := leafR (by omega) h ht [(mi H), (.c (-1)), (.c 5), (w (.add (.c 8) (lo T))), (.c 5), (w (.add (.c 0) (mi T))), (.c 8), (.c 0), (.c 0), e2, (.c 0)] (by kernel_rfl) (by kernel_rfl) (fun v hG => by kernel_rfl)
theorem r501_41 (val : Nat → Int) (h : Holds val (.ne (qu H) 0 :: .ne (qu H) 2 :: .ne (qu H) 1 :: .ne (lo T) 5 :: .ne (qu T) 2 :: .ne (qu T) 1 :: .ne (qu T) 0 :: .ne (mi T) 4 :: .is (lo H) 4 :: .ne (qu H) 3 :: pre 5 0 1)) (ht : Tabs 5 val) : Q val := leafR (by omega) h ht [(mi H), (.c (-1)), (.c 5), (w (.add (.c 8) (lo T))), (.c 5), (w (.add (.c 0) (mi T))), (.c 8), (.c 0), (.c 0), e2, (.c 0)] (by kernel_rfl) (by kernel_rfl) (fun v hG => by kernel_rfl)
theorem r501_42 (val : Nat → Int) (h : Holds val (.is (lo H) 5 :: .is (qu H) 0 :: .ne (lo H) 4 :: .ne (qu H) 3 :: pre 5 0 1)) (ht : Tabs 5 val) : Q val := leafR (by omega) h ht [(.c 0), (.c 0), (.c 0), (.c 0), (.c 0), (.c 0), (.c 0), (.c 0), (.c 0), (.c 0), (.c 4)] (by kernel_rfl) (by kernel_rfl) (fun v hG => by kernel_rfl)
theorem r501_43 (val : Nat → Int) (h : Holds val (.ne (lo H) 5 :: .is (qu H) 0 :: .ne (lo H) 4 :: .ne (qu H) 3 :: pre 5 0 1)) (ht : Tabs 5 val) : Q val := leafR (by omega) h ht [(mi H), (.c (-1)), (.c 5), (w (.add (.c 8) (lo H))), (.c 0), (.c 0), (.c 0), (.c 0), (.c 0), e1, (.c 0)] (by kernel_rfl) (by kernel_rfl) (fun v hG => by kernel_rfl)
theorem r501_44 (val : Nat → Int) (h : Holds val (.is (qu H) 1 :: .ne (qu H) 0 :: .ne (lo H) 4 :: .ne (qu H) 3 :: pre 5 0 1)) (ht : Tabs 5 val) : Q val := leafR (by omega) h ht [(mi H), (.c (-1)), (.c 5), (w (.add (.c 8) (lo H))), (.c 0), (.c 0), (.c 0), (.a 5), (.c 0), e2, (.c 0)] (by kernel_rfl) (by kernel_rfl) (fun v hG => by kernel_rfl)
theorem r501_45 (val : Nat → Int) (h : Holds val (.is (qu H) 2 :: .ne (qu H) 1 :: .ne (qu H) 0 :: .ne (lo H) 4 :: .ne (qu H) 3 :: pre 5 0 1)) (ht : Tabs 5 val) : Q val := leafR (by omega) h ht [(mi H), (.c (-1)), (.c 5), (w (.add (.c 8) (lo H))), (.c 0), (.c 0), (.c 0), (.a 6), (.c 0), (w (.add e1 (.c 4))), (.c 0)] (by kernel_rfl) (by kernel_rfl) (fun v hG => by kernel_rfl)
theorem r501_46 (val : Nat → Int) (h : Holds val (.ne (qu H) 2 :: .ne (qu H) 1 :: .ne (qu H) 0 :: .ne (lo H) 4 :: .ne (qu H) 3 :: pre 5 0 1)) (ht : Tabs 5 val) : Q val := leafR (by omega) h ht [(mi H), (.c (-1)), (.c 5), (w (.add (.c 8) (lo H))), (.c 0), (.c 0), (.c 0), (.c 0), (.c 0), e1, (.c 0)] (by kernel_rfl) (by kernel_rfl) (fun v hG => by kernel_rfl)

theorem r501 : DR 5 0 1 := fun val h ht =>
  by_way (.eq (qu H) (.c 3)) (.is (qu H) 3) (.ne (qu H) 3) (by kernel_rfl) (by kernel_rfl) h
  (fun h => r501_0 val h ht)
  (fun h => by_way (.eq (lo H) (.c 4)) (.is (lo H) 4) (.ne (lo H) 4) (by kernel_rfl) (by kernel_rfl) h
  (fun h => by_way (.eq (mi T) (.c 4)) (.is (mi T) 4) (.ne (mi T) 4) (by kernel_rfl) (by kernel_rfl) h
  (fun h => by_way (.eq (qu T) (.c 0)) (.is (qu T) 0) (.ne (qu T) 0) (by kernel_rfl) (by kernel_rfl) h
  (fun h => by_way (.eq (lo T) (.c 5)) (.is (lo T) 5) (.ne (lo T) 5) (by kernel_rfl) (by kernel_rfl) h
  (fun h => by_way (.eq (qu H) (.c 0)) (.is (qu H) 0) (.ne (qu H) 0) (by kernel_rfl) (by kernel_rfl) h
  (fun h => r501_1 val h ht)
  (fun h => by_way (.eq (qu H) (.c 1)) (.is (qu H) 1) (.ne (qu H) 1) (by kernel_rfl) (by kernel_rfl) h
  (fun h => r501_2 val h ht)
  (fun h => by_way (.eq (qu H) (.c 2)) (.is (qu H) 2) (.ne (qu H) 2) (by kernel_rfl) (by kernel_rfl) h
  (fun h => r501_3 val h ht)
  (fun h => r501_4 val h ht))))
  (fun h => by_way (.eq (qu H) (.c 1)) (.is (qu H) 1) (.ne (qu H) 1) (by kernel_rfl) (by kernel_rfl) h
  (fun h => r501_5 val h ht)
  (fun h => by_way (.eq (qu H) (.c 2)) (.is (qu H) 2) (.ne (qu H) 2) (by kernel_rfl) (by kernel_rfl) h
  (fun h => r501_6 val h ht)
  (fun h => by_way (.eq (qu H) (.c 0)) (.is (qu H) 0) (.ne (qu H) 0) (by kernel_rfl) (by kernel_rfl) h
  (fun h => r501_7 val h ht)
  (fun h => r501_8 val h ht)))))
  (fun h => r501_9 val h ht))
  (fun h => by_way (.eq (qu T) (.c 0)) (.is (qu T) 0) (.ne (qu T) 0) (by kernel_rfl) (by kernel_rfl) h
  (fun h => by_way (.eq (lo T) (.c 5)) (.is (lo T) 5) (.ne (lo T) 5) (by kernel_rfl) (by kernel_rfl) h
  (fun h => by_way (.eq (qu H) (.c 0)) (.is (qu H) 0) (.ne (qu H) 0) (by kernel_rfl) (by kernel_rfl) h
  (fun h => r501_10 val h ht)
  (fun h => by_way (.eq (qu H) (.c 1)) (.is (qu H) 1) (.ne (qu H) 1) (by kernel_rfl) (by kernel_rfl) h
  (fun h => r501_11 val h ht)
  (fun h => by_way (.eq (qu H) (.c 2)) (.is (qu H) 2) (.ne (qu H) 2) (by kernel_rfl) (by kernel_rfl) h
  (fun h => r501_12 val h ht)
  (fun h => r501_13 val h ht))))
  (fun h => by_way (.eq (qu H) (.c 1)) (.is (qu H) 1) (.ne (qu H) 1) (by kernel_rfl) (by kernel_rfl) h
  (fun h => r501_14 val h ht)
  (fun h => by_way (.eq (qu H) (.c 2)) (.is (qu H) 2) (.ne (qu H) 2) (by kernel_rfl) (by kernel_rfl) h
  (fun h => r501_15 val h ht)
  (fun h => by_way (.eq (qu H) (.c 0)) (.is (qu H) 0) (.ne (qu H) 0) (by kernel_rfl) (by kernel_rfl) h
  (fun h => r501_16 val h ht)
  (fun h => r501_17 val h ht)))))
  (fun h => by_way (.eq (qu T) (.c 1)) (.is (qu T) 1) (.ne (qu T) 1) (by kernel_rfl) (by kernel_rfl) h
  (fun h => by_way (.eq (lo T) (.c 5)) (.is (lo T) 5) (.ne (lo T) 5) (by kernel_rfl) (by kernel_rfl) h
  (fun h => by_way (.eq (qu H) (.c 0)) (.is (qu H) 0) (.ne (qu H) 0) (by kernel_rfl) (by kernel_rfl) h
  (fun h => r501_18 val h ht)
  (fun h => by_way (.eq (qu H) (.c 1)) (.is (qu H) 1) (.ne (qu H) 1) (by kernel_rfl) (by kernel_rfl) h
  (fun h => r501_19 val h ht)
  (fun h => by_way (.eq (qu H) (.c 2)) (.is (qu H) 2) (.ne (qu H) 2) (by kernel_rfl) (by kernel_rfl) h
  (fun h => r501_20 val h ht)
  (fun h => r501_21 val h ht))))
  (fun h => by_way (.eq (qu H) (.c 1)) (.is (qu H) 1) (.ne (qu H) 1) (by kernel_rfl) (by kernel_rfl) h
  (fun h => r501_22 val h ht)
  (fun h => by_way (.eq (qu H) (.c 2)) (.is (qu H) 2) (.ne (qu H) 2) (by kernel_rfl) (by kernel_rfl) h
  (fun h => r501_23 val h ht)
  (fun h => by_way (.eq (qu H) (.c 0)) (.is (qu H) 0) (.ne (qu H) 0) (by kernel_rfl) (by kernel_rfl) h
  (fun h => r501_24 val h ht)
  (fun h => r501_25 val h ht)))))
  (fun h => by_way (.eq (qu T) (.c 2)) (.is (qu T) 2) (.ne (qu T) 2) (by kernel_rfl) (by kernel_rfl) h
  (fun h => by_way (.eq (lo T) (.c 5)) (.is (lo T) 5) (.ne (lo T) 5) (by kernel_rfl) (by kernel_rfl) h
  (fun h => by_way (.eq (qu H) (.c 0)) (.is (qu H) 0) (.ne (qu H) 0) (by kernel_rfl) (by kernel_rfl) h
  (fun h => r501_26 val h ht)
  (fun h => by_way (.eq (qu H) (.c 1)) (.is (qu H) 1) (.ne (qu H) 1) (by kernel_rfl) (by kernel_rfl) h
  (fun h => r501_27 val h ht)
  (fun h => by_way (.eq (qu H) (.c 2)) (.is (qu H) 2) (.ne (qu H) 2) (by kernel_rfl) (by kernel_rfl) h
  (fun h => r501_28 val h ht)
  (fun h => r501_29 val h ht))))
  (fun h => by_way (.eq (qu H) (.c 1)) (.is (qu H) 1) (.ne (qu H) 1) (by kernel_rfl) (by kernel_rfl) h
  (fun h => r501_30 val h ht)
  (fun h => by_way (.eq (qu H) (.c 2)) (.is (qu H) 2) (.ne (qu H) 2) (by kernel_rfl) (by kernel_rfl) h
  (fun h => r501_31 val h ht)
  (fun h => by_way (.eq (qu H) (.c 0)) (.is (qu H) 0) (.ne (qu H) 0) (by kernel_rfl) (by kernel_rfl) h
  (fun h => r501_32 val h ht)
  (fun h => r501_33 val h ht)))))
  (fun h => by_way (.eq (lo T) (.c 5)) (.is (lo T) 5) (.ne (lo T) 5) (by kernel_rfl) (by kernel_rfl) h
  (fun h => by_way (.eq (qu H) (.c 0)) (.is (qu H) 0) (.ne (qu H) 0) (by kernel_rfl) (by kernel_rfl) h
  (fun h => r501_34 val h ht)
  (fun h => by_way (.eq (qu H) (.c 1)) (.is (qu H) 1) (.ne (qu H) 1) (by kernel_rfl) (by kernel_rfl) h
  (fun h => r501_35 val h ht)
  (fun h => by_way (.eq (qu H) (.c 2)) (.is (qu H) 2) (.ne (qu H) 2) (by kernel_rfl) (by kernel_rfl) h
  (fun h => r501_36 val h ht)
  (fun h => r501_37 val h ht))))
  (fun h => by_way (.eq (qu H) (.c 1)) (.is (qu H) 1) (.ne (qu H) 1) (by kernel_rfl) (by kernel_rfl) h
  (fun h => r501_38 val h ht)
  (fun h => by_way (.eq (qu H) (.c 2)) (.is (qu H) 2) (.ne (qu H) 2) (by kernel_rfl) (by kernel_rfl) h
  (fun h => r501_39 val h ht)
  (fun h => by_way (.eq (qu H) (.c 0)) (.is (qu H) 0) (.ne (qu H) 0) (by kernel_rfl) (by kernel_rfl) h
  (fun h => r501_40 val h ht)
  (fun h => r501_41 val h ht)))))))))
  (fun h => by_way (.eq (qu H) (.c 0)) (.is (qu H) 0) (.ne (qu H) 0) (by kernel_rfl) (by kernel_rfl) h
  (fun h => by_way (.eq (lo H) (.c 5)) (.is (lo H) 5) (.ne (lo H) 5) (by kernel_rfl) (by kernel_rfl) h
  (fun h => r501_42 val h ht)
  (fun h => r501_43 val h ht))
  (fun h => by_way (.eq (qu H) (.c 1)) (.is (qu H) 1) (.ne (qu H) 1) (by kernel_rfl) (by kernel_rfl) h
  (fun h => r501_44 val h ht)
  (fun h => by_way (.eq (qu H) (.c 2)) (.is (qu H) 2) (.ne (qu H) 2) (by kernel_rfl) (by kernel_rfl) h
  (fun h => r501_45 val h ht)
  (fun h => r501_46 val h ht)))))

theorem r001_0 (val : Nat → Int) (h : Holds val (pre 0 0 1)) (ht : Tabs 0 val) : Q val := leafR (by omega) h ht [(.c 0), (.c 0), (.c 0), (.c 0), (.c 0), (.c 0), (.c 0), (.c 0), (.c 0), (.c 0), (.c 9)] (by kernel_rfl) (by kernel_rfl) (fun v hG => by kernel_rfl)

theorem r001 : DR 0 0 1 := fun val h ht =>
  r001_0 val h ht

end Go.Proofs.Ytbenfglhomiocaa.Rd
