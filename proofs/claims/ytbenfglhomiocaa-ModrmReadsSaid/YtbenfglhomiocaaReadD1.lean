/-
  The ways of both, part 1.
-/
import Derived.Test.YtbenfglhomiocaaReadH
namespace Go.Proofs.Ytbenfglhomiocaa.Rd
open Go.Sim Go.Proofs.Ytbenfglhomiocaa.Fld Go.Proofs.Ytbenfglhomiocaa.Tab
set_option maxRecDepth 100000

theorem r211_0 (val : Nat → Int) (h : Holds val (.is (qu H) 3 :: pre 2 1 1)) (ht : Tabs 2 val) : Q val := leafR (by omega) h ht [(.c 0), (.c 0), (.c 0), (.c 0), (.c 0), (.c 0), (.c 0), (.c 0), (.c 0), (.c 0), (.c 4)] (by kernel_rfl) (by kernel_rfl) (fun v hG => by kernel_rfl)
theorem r211_1 (val : Nat → Int) (h : Holds val (.is (qu H) 0 :: .is (lo T) 5 :: .is (qu T) 0 :: .is (mi T) 4 :: .is (lo H) 4 :: .ne (qu H) 3 :: pre 2 1 1)) (ht : Tabs 2 val) : Q val := leafR (by omega) h ht [(.c 0), (.c 0), (.c 0), (.c 0), (.c 0), (.c 0), (.c 0), (.c 0), (.c 0), (.c 0), (.c 4)] (by kernel_rfl) (by kernel_rfl) (fun v hG => by kernel_rfl)
theorem r211_2 (val : Nat → Int) (h : Holds val (.is (qu H) 1 :: .ne (qu H) 0 :: .is (lo T) 5 :: .is (qu T) 0 :: .is (mi T) 4 :: .is (lo H) 4 :: .ne (qu H) 3 :: pre 2 1 1)) (ht : Tabs 2 val) : Q val := leafR (by omega) h ht [(.c 0), (.c 0), (.c 0), (.c 0), (.c 0), (.c 0), (.c 0), (.c 0), (.c 0), (.c 0), (.c 9)] (by kernel_rfl) (by kernel_rfl) (fun v hG => by kernel_rfl)
theorem r211_3 (val : Nat → Int) (h : Holds val (.is (qu H) 2 :: .ne (qu H) 1 :: .ne (qu H) 0 :: .is (lo T) 5 :: .is (qu T) 0 :: .is (mi T) 4 :: .is (lo H) 4 :: .ne (qu H) 3 :: pre 2 1 1)) (ht : Tabs 2 val) : Q val := leafR (by omega) h ht [(.c 0), (.c 0), (.c 0), (.c 0), (.c 0), (.c 0), (.c 0), (.c 0), (.c 0), (.c 0), (.c 9)] (by kernel_rfl) (by kernel_rfl) (fun v hG => by kernel_rfl)
theorem r211_4 (val : Nat → Int) (h : Holds val (.ne (qu H) 2 :: .ne (qu H) 1 :: .ne (qu H) 0 :: .is (lo T) 5 :: .is (qu T) 0 :: .is (mi T) 4 :: .is (lo H) 4 :: .ne (qu H) 3 :: pre 2 1 1)) (ht : Tabs 2 val) : Q val := leafR (by omega) h ht [(mi H), (.c (-1)), (.c 5), (.c 13), (.c 5), (.c 12), (.c 1), (.c 0), (.c 0), e2, (.c 0)] (by kernel_rfl) (by kernel_rfl) (fun v hG => by kernel_rfl)
theorem r211_5 (val : Nat → Int) (h : Holds val (.is (qu H) 1 :: .ne (lo T) 5 :: .is (qu T) 0 :: .is (mi T) 4 :: .is (lo H) 4 :: .ne (qu H) 3 :: pre 2 1 1)) (ht : Tabs 2 val) : Q val := leafR (by omega) h ht [(.c 0), (.c 0), (.c 0), (.c 0), (.c 0), (.c 0), (.c 0), (.c 0), (.c 0), (.c 0), (.c 9)] (by kernel_rfl) (by kernel_rfl) (fun v hG => by kernel_rfl)
theorem r211_6 (val : Nat → Int) (h : Holds val (.is (qu H) 2 :: .ne (qu H) 1 :: .ne (lo T) 5 :: .is (qu T) 0 :: .is (mi T) 4 :: .is (lo H) 4 :: .ne (qu H) 3 :: pre 2 1 1)) (ht : Tabs 2 val) : Q val := leafR (by omega) h ht [(.c 0), (.c 0), (.c 0), (.c 0), (.c 0), (.c 0), (.c 0), (.c 0), (.c 0), (.c 0), (.c 9)] (by kernel_rfl) (by kernel_rfl) (fun v hG => by kernel_rfl)
theorem r211_7 (val : Nat → Int) (h : Holds val (.is (qu H) 0 :: .ne (qu H) 2 :: .ne (qu H) 1 :: .ne (lo T) 5 :: .is (qu T) 0 :: .is (mi T) 4 :: .is (lo H) 4 :: .ne (qu H) 3 :: pre 2 1 1)) (ht : Tabs 2 val) : Q val := leafR (by omega) h ht [(mi H), (.c (-1)), (.c 5), (w (.add (.c 8) (lo T))), (.c 5), (.c 12), (.c 1), (.c 0), (.c 0), e2, (.c 0)] (by kernel_rfl) (by kernel_rfl) (fun v hG => by kernel_rfl)
theorem r211_8 (val : Nat → Int) (h : Holds val (.ne (qu H) 0 :: .ne (qu H) 2 :: .ne (qu H) 1 :: .ne (lo T) 5 :: .is (qu T) 0 :: .is (mi T) 4 :: .is (lo H) 4 :: .ne (qu H) 3 :: pre 2 1 1)) (ht : Tabs 2 val) : Q val := leafR (by omega) h ht [(mi H), (.c (-1)), (.c 5), (w (.add (.c 8) (lo T))), (.c 5), (.c 12), (.c 1), (.c 0), (.c 0), e2, (.c 0)] (by kernel_rfl) (by kernel_rfl) (fun v hG => by kernel_rfl)
theorem r211_9 (val : Nat → Int) (h : Holds val (.is (qu H) 0 :: .is (lo T) 5 :: .is (qu T) 1 :: .ne (qu T) 0 :: .is (mi T) 4 :: .is (lo H) 4 :: .ne (qu H) 3 :: pre 2 1 1)) (ht : Tabs 2 val) : Q val := leafR (by omega) h ht [(.c 0), (.c 0), (.c 0), (.c 0), (.c 0), (.c 0), (.c 0), (.c 0), (.c 0), (.c 0), (.c 4)] (by kernel_rfl) (by kernel_rfl) (fun v hG => by kernel_rfl)
theorem r211_10 (val : Nat → Int) (h : Holds val (.is (qu H) 1 :: .ne (qu H) 0 :: .is (lo T) 5 :: .is (qu T) 1 :: .ne (qu T) 0 :: .is (mi T) 4 :: .is (lo H) 4 :: .ne (qu H) 3 :: pre 2 1 1)) (ht : Tabs 2 val) : Q val := leafR (by omega) h ht [(.c 0), (.c 0), (.c 0), (.c 0), (.c 0), (.c 0), (.c 0), (.c 0), (.c 0), (.c 0), (.c 9)] (by kernel_rfl) (by kernel_rfl) (fun v hG => by kernel_rfl)
theorem r211_11 (val : Nat → Int) (h : Holds val (.is (qu H) 2 :: .ne (qu H) 1 :: .ne (qu H) 0 :: .is (lo T) 5 :: .is (qu T) 1 :: .ne (qu T) 0 :: .is (mi T) 4 :: .is (lo H) 4 :: .ne (qu H) 3 :: pre 2 1 1)) (ht : Tabs 2 val) : Q val := leafR (by omega) h ht [(.c 0), (.c 0), (.c 0), (.c 0), (.c 0), (.c 0), (.c 0), (.c 0), (.c 0), (.c 0), (.c 9)] (by kernel_rfl) (by kernel_rfl) (fun v hG => by kernel_rfl)
theorem r211_12 (val : Nat → Int) (h : Holds val (.ne (qu H) 2 :: .ne (qu H) 1 :: .ne (qu H) 0 :: .is (lo T) 5 :: .is (qu T) 1 :: .ne (qu T) 0 :: .is (mi T) 4 :: .is (lo H) 4 :: .ne (qu H) 3 :: pre 2 1 1)) (ht : Tabs 2 val) : Q val := leafR (by omega) h ht [(mi H), (.c (-1)), (.c 5), (.c 13), (.c 5), (.c 12), (.c 2), (.c 0), (.c 0), e2, (.c 0)] (by kernel_rfl) (by kernel_rfl) (fun v hG => by kernel_rfl)
theorem r211_13 (val : Nat → Int) (h : Holds val (.is (qu H) 1 :: .ne (lo T) 5 :: .is (qu T) 1 :: .ne (qu T) 0 :: .is (mi T) 4 :: .is (lo H) 4 :: .ne (qu H) 3 :: pre 2 1 1)) (ht : Tabs 2 val) : Q val := leafR (by omega) h ht [(.c 0), (.c 0), (.c 0), (.c 0), (.c 0), (.c 0), (.c 0), (.c 0), (.c 0), (.c 0), (.c 9)] (by kernel_rfl) (by kernel_rfl) (fun v hG => by kernel_rfl)
theorem r211_14 (val : Nat → Int) (h : Holds val (.is (qu H) 2 :: .ne (qu H) 1 :: .ne (lo T) 5 :: .is (qu T) 1 :: .ne (qu T) 0 :: .is (mi T) 4 :: .is (lo H) 4 :: .ne (qu H) 3 :: pre 2 1 1)) (ht : Tabs 2 val) : Q val := leafR (by omega) h ht [(.c 0), (.c 0), (.c 0), (.c 0), (.c 0), (.c 0), (.c 0), (.c 0), (.c 0), (.c 0), (.c 9)] (by kernel_rfl) (by kernel_rfl) (fun v hG => by kernel_rfl)
theorem r211_15 (val : Nat → Int) (h : Holds val (.is (qu H) 0 :: .ne (qu H) 2 :: .ne (qu H) 1 :: .ne (lo T) 5 :: .is (qu T) 1 :: .ne (qu T) 0 :: .is (mi T) 4 :: .is (lo H) 4 :: .ne (qu H) 3 :: pre 2 1 1)) (ht : Tabs 2 val) : Q val := leafR (by omega) h ht [(mi H), (.c (-1)), (.c 5), (w (.add (.c 8) (lo T))), (.c 5), (.c 12), (.c 2), (.c 0), (.c 0), e2, (.c 0)] (by kernel_rfl) (by kernel_rfl) (fun v hG => by kernel_rfl)
theorem r211_16 (val : Nat → Int) (h : Holds val (.ne (qu H) 0 :: .ne (qu H) 2 :: .ne (qu H) 1 :: .ne (lo T) 5 :: .is (qu T) 1 :: .ne (qu T) 0 :: .is (mi T) 4 :: .is (lo H) 4 :: .ne (qu H) 3 :: pre 2 1 1)) (ht : Tabs 2 val) : Q val := leafR (by omega) h ht [(mi H), (.c (-1)), (.c 5), (w (.add (.c 8) (lo T))), (.c 5), (.c 12), (.c 2), (.c 0), (.c 0), e2, (.c 0)] (by kernel_rfl) (by kernel_rfl) (fun v hG => by kernel_rfl)
theorem r211_17 (val : Nat → Int) (h : Holds val (.is (qu H) 0 :: .is (lo T) 5 :: .is (qu T) 2 :: .ne (qu T) 1 :: .ne (qu T) 0 :: .is (mi T) 4 :: .is (lo H) 4 :: .ne (qu H) 3 :: pre 2 1 1)) (ht : Tabs 2 val) : Q val := leafR (by omega) h ht [(.c 0), (.c 0), (.c 0), (.c 0), (.c 0), (.c 0), (.c 0), (.c 0), (.c 0), (.c 0), (.c 4)] (by kernel_rfl) (by kernel_rfl) (fun v hG => by kernel_rfl)
theorem r211_18 (val : Nat → Int) (h : Holds val (.is (qu H) 1 :: .ne (qu H) 0 :: .is (lo T) 5 :: .is (qu T) 2 :: .ne (qu T) 1 :: .ne (qu T) 0 :: .is (mi T) 4 :: .is (lo H) 4 :: .ne (qu H) 3 :: pre 2 1 1)) (ht : Tabs 2 val) : Q val := leafR (by omega) h ht [(.c 0), (.c 0), (.c 0), (.c 0), (.c 0), (.c 0), (.c 0), (.c 0), (.c 0), (.c 0), (.c 9)] (by kernel_rfl) (by kernel_rfl) (fun v hG => by kernel_rfl)
theorem r211_19 (val : Nat → Int) (h : Holds val (.is (qu H) 2 :: .ne (qu H) 1 :: .ne (qu H) 0 :: .is (lo T) 5 :: .is (qu T) 2 :: .ne (qu T) 1 :: .ne (qu T) 0 :: .is (mi T) 4 :: .is (lo H) 4 :: .ne (qu H) 3 :: pre 2 1 1)) (ht : Tabs 2 val) : Q val := leafR (by omega) h ht [(.c 0), (.c 0), (.c 0), (.c 0), (.c 0), (.c 0), (.c 0), (.c 0), (.c 0), (.c 0), (.c 9)] (by kernel_rfl) (by kernel_rfl) (fun v hG => by kernel_rfl)
theorem r211_20 (val : Nat → Int) (h : Holds val (.ne (qu H) 2 :: .ne (qu H) 1 :: .ne (qu H) 0 :: .is (lo T) 5 :: .is (qu T) 2 :: .ne (qu T) 1 :: .ne (qu T) 0 :: .is (mi T) 4 :: .is (lo H) 4 :: .ne (qu H) 3 :: pre 2 1 1)) (ht : Tabs 2 val) : Q val := leafR (by omega) h ht [(mi H), (.c (-1)), (.c 5), (.c 13), (.c 5), (.c 12), (.c 4), (.c 0), (.c 0), e2, (.c 0)] (by kernel_rfl) (by kernel_rfl) (fun v hG => by kernel_rfl)
theorem r211_21 (val : Nat → Int) (h : Holds val (.is (qu H) 1 :: .ne (lo T) 5 :: .is (qu T) 2 :: .ne (qu T) 1 :: .ne (qu T) 0 :: .is (mi T) 4 :: .is (lo H) 4 :: .ne (qu H) 3 :: pre 2 1 1)) (ht : Tabs 2 val) : Q val := leafR (by omega) h ht [(.c 0), (.c 0), (.c 0), (.c 0), (.c 0), (.c 0), (.c 0), (.c 0), (.c 0), (.c 0), (.c 9)] (by kernel_rfl) (by kernel_rfl) (fun v hG => by kernel_rfl)
theorem r211_22 (val : Nat → Int) (h : Holds val (.is (qu H) 2 :: .ne (qu H) 1 :: .ne (lo T) 5 :: .is (qu T) 2 :: .ne (qu T) 1 :: .ne (qu T) 0 :: .is (mi T) 4 :: .is (lo H) 4 :: .ne (qu H) 3 :: pre 2 1 1)) (ht : Tabs 2 val) : Q val := leafR (by omega) h ht [(.c 0), (.c 0), (.c 0), (.c 0), (.c 0), (.c 0), (.c 0), (.c 0), (.c 0), (.c 0), (.c 9)] (by kernel_rfl) (by kernel_rfl) (fun v hG => by kernel_rfl)
theorem r211_23 (val : Nat → Int) (h : Holds val (.is (qu H) 0 :: .ne (qu H) 2 :: .ne (qu H) 1 :: .ne (lo T) 5 :: .is (qu T) 2 :: .ne (qu T) 1 :: .ne (qu T) 0 :: .is (mi T) 4 :: .is (lo H) 4 :: .ne (qu H) 3 :: pre 2 1 1)) (ht : Tabs 2 val) : Q val := leafR (by omega) h ht [(mi H), (.c (-1)), (.c 5), (w (.add (.c 8) (lo T))), (.c 5), (.c 12), (.c 4), (.c 0), (.c 0), e2, (.c 0)] (by kernel_rfl) (by kernel_rfl) (fun v hG => by kernel_rfl)
theorem r211_24 (val : Nat → Int) (h : Holds val (.ne (qu H) 0 :: .ne (qu H) 2 :: .ne (qu H) 1 :: .ne (lo T) 5 :: .is (qu T) 2 :: .ne (qu T) 1 :: .ne (qu T) 0 :: .is (mi T) 4 :: .is (lo H) 4 :: .ne (qu H) 3 :: pre 2 1 1)) (ht : Tabs 2 val) : Q val := leafR (by omega) h ht [(mi H), (.c (-1)), (.c 5), (w (.add (.c 8) (lo T))), (.c 5), (.c 12), (.c 4), (.c 0), (.c 0), e2, (.c 0)] (by kernel_rfl) (by kernel_rfl) (fun v hG => by kernel_rfl)
theorem r211_25 (val : Nat → Int) (h : Holds val (.is (qu H) 0 :: .is (lo T) 5 :: .ne (qu T) 2 :: .ne (qu T) 1 :: .ne (qu T) 0 :: .is (mi T) 4 :: .is (lo H) 4 :: .ne (qu H) 3 :: pre 2 1 1)) (ht : Tabs 2 val) : Q val := leafR (by omega) h ht [(.c 0), (.c 0), (.c 0), (.c 0), (.c 0), (.c 0), (.c 0), (.c 0), (.c 0), (.c 0), (.c 4)] (by kernel_rfl) (by kernel_rfl) (fun v hG => by kernel_rfl)
theorem r211_26 (val : Nat → Int) (h : Holds val (.is (qu H) 1 :: .ne (qu H) 0 :: .is (lo T) 5 :: .ne (qu T) 2 :: .ne (qu T) 1 :: .ne (qu T) 0 :: .is (mi T) 4 :: .is (lo H) 4 :: .ne (qu H) 3 :: pre 2 1 1)) (ht : Tabs 2 val) : Q val := leafR (by omega) h ht [(.c 0), (.c 0), (.c 0), (.c 0), (.c 0), (.c 0), (.c 0), (.c 0), (.c 0), (.c 0), (.c 9)] (by kernel_rfl) (by kernel_rfl) (fun v hG => by kernel_rfl)
theorem r211_27 (val : Nat → Int) (h : Holds val (.is (qu H) 2 :: .ne (qu H) 1 :: .ne (qu H) 0 :: .is (lo T) 5 :: .ne (qu T) 2 :: .ne (qu T) 1 :: .ne (qu T) 0 :: .is (mi T) 4 :: .is (lo H) 4 :: .ne (qu H) 3 :: pre 2 1 1)) (ht : Tabs 2 val) : Q val := leafR (by omega) h ht [(.c 0), (.c 0), (.c 0), (.c 0), (.c 0), (.c 0), (.c 0), (.c 0), (.c 0), (.c 0), (.c 9)] (by kernel_rfl) (by kernel_rfl) (fun v hG => by kernel_rfl)
theorem r211_28 (val : Nat → Int) (h : Holds val (.ne (qu H) 2 :: .ne (qu H) 1 :: .ne (qu H) 0 :: .is (lo T) 5 :: .ne (qu T) 2 :: .ne (qu T) 1 :: .ne (qu T) 0 :: .is (mi T) 4 :: .is (lo H) 4 :: .ne (qu H) 3 :: pre 2 1 1)) (ht : Tabs 2 val) : Q val := leafR (by omega) h ht [(mi H), (.c (-1)), (.c 5), (.c 13), (.c 5), (.c 12), (.c 8), (.c 0), (.c 0), e2, (.c 0)] (by kernel_rfl) (by kernel_rfl) (fun v hG => by kernel_rfl)
theorem r211_29 (val : Nat → Int) (h : Holds val (.is (qu H) 1 :: .ne (lo T) 5 :: .ne (qu T) 2 :: .ne (qu T) 1 :: .ne (qu T) 0 :: .is (mi T) 4 :: .is (lo H) 4 :: .ne (qu H) 3 :: pre 2 1 1)) (ht : Tabs 2 val) : Q val := leafR (by omega) h ht [(.c 0), (.c 0), (.c 0), (.c 0), (.c 0), (.c 0), (.c 0), (.c 0), (.c 0), (.c 0), (.c 9)] (by kernel_rfl) (by kernel_rfl) (fun v hG => by kernel_rfl)
theorem r211_30 (val : Nat → Int) (h : Holds val (.is (qu H) 2 :: .ne (qu H) 1 :: .ne (lo T) 5 :: .ne (qu T) 2 :: .ne (qu T) 1 :: .ne (qu T) 0 :: .is (mi T) 4 :: .is (lo H) 4 :: .ne (qu H) 3 :: pre 2 1 1)) (ht : Tabs 2 val) : Q val := leafR (by omega) h ht [(.c 0), (.c 0), (.c 0), (.c 0), (.c 0), (.c 0), (.c 0), (.c 0), (.c 0), (.c 0), (.c 9)] (by kernel_rfl) (by kernel_rfl) (fun v hG => by kernel_rfl)
theorem r211_31 (val : Nat → Int) (h : Holds val (.is (qu H) 0 :: .ne (qu H) 2 :: .ne (qu H) 1 :: .ne (lo T) 5 :: .ne (qu T) 2 :: .ne (qu T) 1 :: .ne (qu T) 0 :: .is (mi T) 4 :: .is (lo H) 4 :: .ne (qu H) 3 :: pre 2 1 1)) (ht : Tabs 2 val) : Q val := leafR (by omega) h ht [(mi H), (.c (-1)), (.c 5), (w (.add (.c 8) (lo T))), (.c 5), (.c 12), (.c 8), (.c 0), (.c 0), e2, (.c 0)] (by kernel_rfl) (by kernel_rfl) (fun v hG => by kernel_rfl)
theorem r211_32 (val : Nat → Int) (h : Holds val (.ne (qu H) 0 :: .ne (qu H) 2 :: .ne (qu H) 1 :: .ne (lo T) 5 :: .ne (qu T) 2 :: .ne (qu T) 1 :: .ne (qu T) 0 :: .is (mi T) 4 :: .is (lo H) 4 :: .ne (qu H) 3 :: pre 2 1 1)) (ht : Tabs 2 val) : Q val := leafR (by omega) h ht [(mi H), (.c (-1)), (.c 5), (w (.add (.c 8) (lo T))), (.c 5), (.c 12), (.c 8), (.c 0), (.c 0), e2, (.c 0)] (by kernel_rfl) (by kernel_rfl) (fun v hG => by kernel_rfl)
theorem r211_33 (val : Nat → Int) (h : Holds val (.is (qu H) 0 :: .is (lo T) 5 :: .is (qu T) 0 :: .ne (mi T) 4 :: .is (lo H) 4 :: .ne (qu H) 3 :: pre 2 1 1)) (ht : Tabs 2 val) : Q val := leafR (by omega) h ht [(.c 0), (.c 0), (.c 0), (.c 0), (.c 0), (.c 0), (.c 0), (.c 0), (.c 0), (.c 0), (.c 4)] (by kernel_rfl) (by kernel_rfl) (fun v hG => by kernel_rfl)
theorem r211_34 (val : Nat → Int) (h : Holds val (.is (qu H) 1 :: .ne (qu H) 0 :: .is (lo T) 5 :: .is (qu T) 0 :: .ne (mi T) 4 :: .is (lo H) 4 :: .ne (qu H) 3 :: pre 2 1 1)) (ht : Tabs 2 val) : Q val := leafR (by omega) h ht [(.c 0), (.c 0), (.c 0), (.c 0), (.c 0), (.c 0), (.c 0), (.c 0), (.c 0), (.c 0), (.c 9)] (by kernel_rfl) (by kernel_rfl) (fun v hG => by kernel_rfl)
theorem r211_35 (val : Nat → Int) (h : Holds val (.is (qu H) 2 :: .ne (qu H) 1 :: .ne (qu H) 0 :: .is (lo T) 5 :: .is (qu T) 0 :: .ne (mi T) 4 :: .is (lo H) 4 :: .ne (qu H) 3 :: pre 2 1 1)) (ht : Tabs 2 val) : Q val := leafR (by omega) h ht [(.c 0), (.c 0), (.c 0), (.c 0), (.c 0), (.c 0), (.c 0), (.c 0), (.c 0), (.c 0), (.c 9)] (by kernel_rfl) (by kernel_rfl) (fun v hG => by kernel_rfl)
theorem r211_36 (val : Nat → Int) (h : Holds val (.ne (qu H) 2 :: .ne (qu H) 1 :: .ne (qu H) 0 :: .is (lo T) 5 :: .is (qu T) 0 :: .ne (mi T) 4 :: .is (lo H) 4 :: .ne (qu H) 3 :: pre 2 1 1)) (ht : Tabs 2 val) : Q val := leafR (by omega) h ht [(mi H), (.c (-1)), (.c 5), (.c 13), (.c 5), (w (.add (.c 8) (mi T))), (.c 1), (.c 0), (.c 0), e2, (.c 0)] (by kernel_rfl) (by kernel_rfl) (fun v hG => by kernel_rfl)
theorem r211_37 (val : Nat → Int) (h : Holds val (.is (qu H) 1 :: .ne (lo T) 5 :: .is (qu T) 0 :: .ne (mi T) 4 :: .is (lo H) 4 :: .ne (qu H) 3 :: pre 2 1 1)) (ht : Tabs 2 val) : Q val := leafR (by omega) h ht [(.c 0), (.c 0), (.c 0), (.c 0), (.c 0), (.c 0), (.c 0), (.c 0), (.c 0), (.c 0), (.c 9)] (by kernel_rfl) (by kernel_rfl) (fun v hG => by kernel_rfl)
theorem r211_38 (val : Nat → Int) (h : Holds val (.is (qu H) 2 :: .ne (qu H) 1 :: .ne (lo T) 5 :: .is (qu T) 0 :: .ne (mi T) 4 :: .is (lo H) 4 :: .ne (qu H) 3 :: pre 2 1 1)) (ht : Tabs 2 val) : Q val := leafR (by omega) h ht [(.c 0), (.c 0), (.c 0), (.c 0), (.c 0), (.c 0), (.c 0), (.c 0), (.c 0), (.c 0), (.c 9)] (by kernel_rfl) (by kernel_rfl) (fun v hG => by kernel_rfl)
theorem r211_39 (val : Nat → Int) (h : Holds val (.is (qu H) 0 :: .ne (qu H) 2 :: .ne (qu H) 1 :: .ne (lo T) 5 :: .is (qu T) 0 :: .ne (mi T) 4 :: .is (lo H) 4 :: .ne (qu H) 3 :: pre 2 1 1)) (ht : Tabs 2 val) : Q val := leafR (by omega) h ht [(mi H), (.c (-1)), (.c 5), (w (.add (.c 8) (lo T))), (.c 5), (w (.add (.c 8) (mi T))), (.c 1), (.c 0), (.c 0), e2, (.c 0)] (by kernel_rfl) (by kernel_rfl) (fun v hG => by kernel_rfl)
theorem r211_40 (val : Nat → Int) (h : Holds val (.ne (qu H) 0 :: .ne (qu H) 2 :: .ne (qu H) 1 :: .ne (lo T) 5 :: .is (qu T) 0 :: .ne (mi T) 4 :: .is (lo H) 4 :: .ne (qu H) 3 :: pre 2 1 1)) (ht : Tabs 2 val) : Q val := leafR (by omega) h ht [(mi H), (.c (-1)), (.c 5), (w (.add (.c 8) (lo T))), (.c 5), (w (.add (.c 8) (mi T))), (.c 1), (.c 0), (.c 0), e2, (.c 0)] (by kernel_rfl) (by kernel_rfl) (fun v hG => by kernel_rfl)
theorem r211_41 (val : Nat → Int) (h : Holds val (.is (qu H) 0 :: .is (lo T) 5 :: .is (qu T) 1 :: .ne (qu T) 0 :: .ne (mi T) 4 :: .is (lo H) 4 :: .ne (qu H) 3 :: pre 2 1 1)) (ht : Tabs 2 val) : Q val := leafR (by omega) h ht [(.c 0), (.c 0), (.c 0), (.c 0), (.c 0), (.c 0), (.c 0), (.c 0), (.c 0), (.c 0), (.c 4)] (by kernel_rfl) (by kernel_rfl) (fun v hG => by kernel_rfl)
theorem r211_42 (val : Nat → Int) (h : Holds val (.is (qu H) 1 :: .ne (qu H) 0 :: .is (lo T) 5 :: .is (qu T) 1 :: .ne (qu T) 0 :: .ne (mi T) 4 :: .is (lo H) 4 :: .ne (qu H) 3 :: pre 2 1 1)) (ht : Tabs 2 val) : Q val := leafR (by omega) h ht [(.c 0), (.c 0), (.c 0), (.c 0), (.c 0), (.c 0), (.c 0), (.c 0), (.c 0), (.c 0), (.c 9)] (by kernel_rfl) (by kernel_rfl) (fun v hG => by kernel_rfl)
theorem r211_43 (val : Nat → Int) (h : Holds val (.is (qu H) 2 :: .ne (qu H) 1 :: .ne (qu H) 0 :: .is (lo T) 5 :: .is (qu T) 1 :: .ne (qu T) 0 :: .ne (mi T) 4 :: .is (lo H) 4 :: .ne (qu H) 3 :: pre 2 1 1)) (ht : Tabs 2 val) : Q val := leafR (by omega) h ht [(.c 0), (.c 0), (.c 0), (.c 0), (.c 0), (.c 0), (.c 0), (.c 0), (.c 0), (.c 0), (.c 9)] (by kernel_rfl) (by kernel_rfl) (fun v hG => by kernel_rfl)
theorem r211_44 (val : Nat → Int) (h : Holds val (.ne (qu H) 2 :: .ne (qu H) 1 :: .ne (qu H) 0 :: .is (lo T) 5 :: .is (qu T) 1 :: .ne (qu T) 0 :: .ne (mi T) 4 :: .is (lo H) 4 :: .ne (qu H) 3 :: pre 2 1 1)) (ht : Tabs 2 val) : Q val := leafR (by omega) h ht [(mi H), (.c (-1)), (.c 5), (.c 13), (.c 5), (w (.add (.c 8) (mi T))), (.c 2), (.c 0), (.c 0), e2, (.c 0)] (by kernel_rfl) (by kernel_rfl) (fun v hG => by kernel_rfl)
theorem r211_45 (val : Nat → Int) (h : Holds val (.is (qu H) 1 :: .ne (lo T) 5 :: .is (qu T) 1 :: .ne (qu T) 0 :: .ne (mi T) 4 :: .is (lo H) 4 :: .ne (qu H) 3 :: pre 2 1 1)) (ht : Tabs 2 val) : Q val := leafR (by omega) h ht [(.c 0), (.c 0), (.c 0), (.c 0), (.c 0), (.c 0), (.c 0), (.c 0), (.c 0), (.c 0), (.c 9)] (by kernel_rfl) (by kernel_rfl) (fun v hG => by kernel_rfl)
theorem r211_46 (val : Nat → Int) (h : Holds val (.is (qu H) 2 :: .ne (qu H) 1 :: .ne (lo T) 5 :: .is (qu T) 1 :: .ne (qu T) 0 :: .ne (mi T) 4 :: .is (lo H) 4 :: .ne (qu H) 3 :: pre 2 1 1)) (ht : Tabs 2 val) : Q val := leafR (by omega) h ht [(.c 0), (.c 0), (.c 0), (.c 0), (.c 0), (.c 0), (.c 0), (.c 0), (.c 0), (.c 0), (.c 9)] (by kernel_rfl) (by kernel_rfl) (fun v hG => by kernel_rfl)
theorem r211_47 (val : Nat → Int) (h : Holds val (.is (qu H) 0 :: .ne (qu H) 2 :: .ne (qu H) 1 :: .ne (lo T) 5 :: .is (qu T) 1 :: .ne (qu T) 0 :: .ne (mi T) 4 :: .is (lo H) 4 :: .ne (qu H) 3 :: pre 2 1 1)) (ht : Tabs 2 val) : Q val := leafR (by omega) h ht [(mi H), (.c (-1)), (.c 5), (w (.add (.c 8) (lo T))), (.c 5), (w (.add (.c 8) (mi T))), (.c 2), (.c 0), (.c 0), e2, (.c 0)] (by kernel_rfl) (by kernel_rfl) (fun v hG => by kernel_rfl)
theorem r211_48 (val : Nat → Int) (h : Holds val (.ne (qu H) 0 :: .ne (qu H) 2 :: .ne (qu H) 1 :: .ne (lo T) 5 :: .is (qu T) 1 :: .ne (qu T) 0 :: .ne (mi T) 4 :: .is (lo H) 4 :: .ne (qu H) 3 :: pre 2 1 1)) (ht : Tabs 2 val) : Q val := leafR (by omega) h ht [(mi H), (.c (-1)), (.c 5), (w (.add (.c 8) (lo T))), (.c 5), (w (.add (.c 8) (mi T))), (.c 2), (.c 0), (.c 0), e2, (.c 0)] (by kernel_rfl) (by kernel_rfl) (fun v hG => by kernel_rfl)
theorem r211_49 (val : Nat → Int) (h : Holds val (.is (qu H) 0 :: .is (lo T) 5 :: .is (qu T) 2 :: .ne (qu T) 1 :: .ne (qu T) 0 :: .ne (mi T) 4 :: .is (lo H) 4 :: .ne (qu H) 3 :: pre 2 1 1)) (ht : Tabs 2 val) : Q val := leafR (by omega) h ht [(.c 0), (.c 0), (.c 0), (.c 0), (.c 0), (.c 0), (.c 0), (.c 0), (.c 0), (.c 0), (.c 4)] (by kernel_rfl) (by kernel_rfl) (fun v hG => by kernel_rfl)
theorem r211_50 (val : Nat → Int) (h : Holds val (.is (qu H) 1 :: .ne (qu H) 0 :: .is (lo T) 5 :: .is (qu T) 2 :: .ne (qu T) 1 :: .ne (qu T) 0 :: .ne (mi T) 4 :: .is (lo H) 4 :: .ne (qu H) 3 :: pre 2 1 1)) (ht : Tabs 2 val) : Q val := leafR (by omega) h ht [(.c 0), (.c 0), (.c 0), (.c 0), (.c 0), (.c 0), (.c 0), (.c 0), (.c 0), (.c 0), (.c 9)] (by kernel_rfl) (by kernel_rfl) (fun v hG => by kernel_rfl)
theorem r211_51 (val : Nat → Int) (h : Holds val (.is (qu H) 2 :: .ne (qu H) 1 :: .ne (qu H) 0 :: .is (lo T) 5 :: .is (qu T) 2 :: .ne (qu T) 1 :: .ne (qu T) 0 :: .ne (mi T) 4 :: .is (lo H) 4 :: .ne (qu H) 3 :: pre 2 1 1)) (ht : Tabs 2 val) : Q val := leafR (by omega) h ht [(.c 0), (.c 0), (.c 0), (.c 0), (.c 0), (.c 0), (.c 0), (.c 0), (.c 0), (.c 0), (.c 9)] (by kernel_rfl) (by kernel_rfl) (fun v hG => by kernel_rfl)
theorem r211_52 (val : Nat → Int) (h : Holds val (.ne (qu H) 2 :: .ne (qu H) 1 :: .ne (qu H) 0 :: .is (lo T) 5 :: .is (qu T) 2 :: .ne (qu T) 1 :: .ne (qu T) 0 :: .ne (mi T) 4 :: .is (lo H) 4 :: .ne (qu H) 3 :: pre 2 1 1)) (ht : Tabs 2 val) : Q val := leafR (by omega) h ht [(mi H), (.c (-1)), (.c 5), (.c 13), (.c 5), (w (.add (.c 8) (mi T))), (.c 4), (.c 0), (.c 0), e2, (.c 0)] (by kernel_rfl) (by kernel_rfl) (fun v hG => by kernel_rfl)
theorem r211_53 (val : Nat → Int) (h : Holds val (.is (qu H) 1 :: .ne (lo T) 5 :: .is (qu T) 2 :: .ne (qu T) 1 :: .ne (qu T) 0 :: .ne (mi T) 4 :: .is (lo H) 4 :: .ne (qu H) 3 :: pre 2 1 1)) (ht : Tabs 2 val) : Q val := leafR (by omega) h ht [(.c 0), (.c 0), (.c 0), (.c 0), (.c 0), (.c 0), (.c 0), (.c 0), (.c 0), (.c 0), (.c 9)] (by kernel_rfl) (by kernel_rfl) (fun v hG => by kernel_rfl)
theorem r211_54 (val : Nat → Int) (h : Holds val (.is (qu H) 2 :: .ne (qu H) 1 :: .ne (lo T) 5 :: .is (qu T) 2 :: .ne (qu T) 1 :: .ne (qu T) 0 :: .ne (mi T) 4 :: .is (lo H) 4 :: .ne (qu H) 3 :: pre 2 1 1)) (ht : Tabs 2 val) : Q val := leafR (by omega) h ht [(.c 0), (.c 0), (.c 0), (.c 0), (.c 0), (.c 0), (.c 0), (.c 0), (.c 0), (.c 0), (.c 9)] (by kernel_rfl) (by kernel_rfl) (fun v hG => by kernel_rfl)
theorem r211_55 (val : Nat → Int) (h : Holds val (.is (qu H) 0 :: .ne (qu H) 2 :: .ne (qu H) 1 :: .ne (lo T) 5 :: .is (qu T) 2 :: .ne (qu T) 1 :: .ne (qu T) 0 :: .ne (mi T) 4 :: .is (lo H) 4 :: .ne (qu H) 3 :: pre 2 1 1)) (ht : Tabs 2 val) : Q val := leafR (by omega) h ht [(mi H), (.c (-1)), (.c 5), (w (.add (.c 8) (lo T))), (.c 5), (w (.add (.c 8) (mi T))), (.c 4), (.c 0), (.c 0), e2, (.c 0)] (by kernel_rfl) (by kernel_rfl) (fun v hG => by kernel_rfl)
theorem r211_56 (val : Nat → Int) (h : Holds val (.ne (qu H) 0 :: .ne (qu H) 2 :: .ne (qu H) 1 :: .ne (lo T) 5 :: .is (qu T) 2 :: .ne (qu T) 1 :: .ne (qu T) 0 :: .ne (mi T) 4 :: .is (lo H) 4 :: .ne (qu H) 3 :: pre 2 1 1)) (ht : Tabs 2 val) : Q val := leafR (by omega) h ht [(mi H), (.c (-1)), (.c 5), (w (.add (.c 8) (lo T))), (.c 5), (w (.add (.c 8) (mi T))), (.c 4), (.c 0), (.c 0), e2, (.c 0)] (by kernel_rfl) (by kernel_rfl) (fun v hG => by kernel_rfl)
theorem r211_57 (val : Nat → Int) (h : Holds val (.is (qu H) 0 :: .is (lo T) 5 :: .ne (qu T) 2 :: .ne (qu T) 1 :: .ne (qu T) 0 :: .ne (mi T) 4 :: .is (lo H) 4 :: .ne (qu H) 3 :: pre 2 1 1)) (ht : Tabs 2 val) : Q val := leafR (by omega) h ht [(.c 0), (.c 0), (.c 0), (.c 0), (.c 0), (.c 0), (.c 0), (.c 0), (.c 0), (.c 0), (.c 4)] (by kernel_rfl) (by kernel_rfl) (fun v hG => by kernel_rfl)
theorem r211_58 (val : Nat → Int) (h : Holds val (.is (qu H) 1 :: .ne (qu H) 0 :: .is (lo T) 5 :: .ne (qu T) 2 :: .ne (qu T) 1 :: .ne (qu T) 0 :: .ne (mi T) 4 :: .is (lo H) 4 :: .ne (qu H) 3 :: pre 2 1 1)) (ht : Tabs 2 val) : Q val := leafR (by omega) h ht [(.c 0), (.c 0), (.c 0), (.c 0), (.c 0), (.c 0), (.c 0), (.c 0), (.c 0), (.c 0), (.c 9)] (by kernel_rfl) (by kernel_rfl) (fun v hG => by kernel_rfl)
theorem r211_59 (val : Nat → Int) (h : Holds val (.is (qu H) 2 :: .ne (qu H) 1 :: .ne (qu H) 0 :: .is (lo T) 5 :: .ne (qu T) 2 :: .ne (qu T) 1 :: .ne (qu T) 0 :: .ne (mi T) 4 :: .is (lo H) 4 :: .ne (qu H) 3 :: pre 2 1 1)) (ht : Tabs 2 val) : Q val := leafR (by omega) h ht [(.c 0), (.c 0), (.c 0), (.c 0), (.c 0), (.c 0), (.c 0), (.c 0), (.c 0), (.c 0), (.c 9)] (by kernel_rfl) (by kernel_rfl) (fun v hG => by kernel_rfl)
theorem r211_60 (val : Nat → Int) (h : Holds val (.ne (qu H) 2 :: .ne (qu H) 1 :: .ne (qu H) 0 :: .is (lo T) 5 :: .ne (qu T) 2 :: .ne (qu T) 1 :: .ne (qu T) 0 :: .ne (mi T) 4 :: .is (lo H) 4 :: .ne (qu H) 3 :: pre 2 1 1)) (ht : Tabs 2 val) : Q val := leafR (by omega) h ht [(mi H), (.c (-1)), (.c 5), (.c 13), (.c 5), (w (.add (.c 8) (mi T))), (.c 8), (.c 0), (.c 0), e2, (.c 0)] (by kernel_rfl) (by kernel_rfl) (fun v hG => by kernel_rfl)
theorem r211_61 (val : Nat → Int) (h : Holds val (.is (qu H) 1 :: .ne (lo T) 5 :: .ne (qu T) 2 :: .ne (qu T) 1 :: .ne (qu T) 0 :: .ne (mi T) 4 :: .is (lo H) 4 :: .ne (qu H) 3 :: pre 2 1 1)) (ht : Tabs 2 val) : Q val := leafR (by omega) h ht [(.c 0), (.c 0), (.c 0), (.c 0), (.c 0), (.c 0), (.c 0), (.c 0), (.c 0), (.c 0), (.c 9)] (by kernel_rfl) (by kernel_rfl) (fun v hG => by kernel_rfl)
theorem r211_62 (val : Nat → Int) (h : Holds val (.is (qu H) 2 :: .ne (qu H) 1 :: .ne (lo T) 5 :: .ne (qu T) 2 :: .ne (qu T) 1 :: .ne (qu T) 0 :: .ne (mi T) 4 :: .is (lo H) 4 :: .ne (qu H) 3 :: pre 2 1 1)) (ht : Tabs 2 val) : Q val := leafR (by omega) h ht [(.c 0), (.c 0), (.c 0), (.c 0), (.c 0), (.c 0), (.c 0), (.c 0), (.c 0), (.c 0), (.c 9)] (by kernel_rfl) (by kernel_rfl) (fun v hG => by kernel_rfl)
theorem r211_63 (val : Nat → Int) (h : Holds val (.is (qu H) 0 :: .ne (qu H) 2 :: .ne (qu H) 1 :: .ne (lo T) 5 :: .ne (qu T) 2 :: .ne (qu T) 1 :: .ne (qu T) 0 :: .ne (mi T) 4 :: .is (lo H) 4 :: .ne (qu H) 3 :: pre 2 1 1)) (ht : Tabs 2 val) : Q val := leafR (by omega) h ht [(mi H), (.c (-1)), (.c 5), (w (.add (.c 8) (lo T))), (.c 5), (w (.add (.c 8) (mi T))), (.c 8), (.c 0), (.c 0), e2, (.c 0)] (by kernel_rfl) (by kernel_rfl) (fun v hG => by kernel_rfl)
theorem r211_64 (val : Nat → Int) (h : Holds val (.ne (qu H) 0 :: .ne (qu H) 2 :: .ne (qu H) 1 :: .ne (lo T) 5 :: .ne (qu T) 2 :: .ne (qu T) 1 :: .ne (qu T) 0 :: .ne (mi T) 4 :: .is (lo H) 4 :: .ne (qu H) 3 :: pre 2 1 1)) (ht : Tabs 2 val) : Q val := leafR (by omega) h ht [(mi H), (.c (-1)), (.c 5), (w (.add (.c 8) (lo T))), (.c 5), (w (.add (.c 8) (mi T))), (.c 8), (.c 0), (.c 0), e2, (.c 0)] (by kernel_rfl) (by kernel_rfl) (fun v hG => by kernel_rfl)
theorem r211_65 (val : Nat → Int) (h : Holds val (.ne (lo H) 4 :: .ne (qu H) 3 :: pre 2 1 1)) (ht : Tabs 2 val) : Q val := leafR (by omega) h ht [(.c 0), (.c 0), (.c 0), (.c 0), (.c 0), (.c 0), (.c 0), (.c 0), (.c 0), (.c 0), (.c 4)] (by kernel_rfl) (by kernel_rfl) (fun v hG => by kernel_rfl)

theorem r211 : DR 2 1 1 := fun val h ht =>
  by_way (.eq (qu H) (.c 3)) (.is (qu H) 3) (.ne (qu H) 3) (by kernel_rfl) (by kernel_rfl) h
  (fun h => r211_0 val h ht)
  (fun h => by_way (.eq (lo H) (.c 4)) (.is (lo H) 4) (.ne (lo H) 4) (by kernel_rfl) (by kernel_rfl) h
  (fun h => by_way (.eq (mi T) (.c 4)) (.is (mi T) 4) (.ne (mi T) 4) (by kernel_rfl) (by kernel_rfl) h
  (fun h => by_way (.eq (qu T) (.c 0)) (.is (qu T) 0) (.ne (qu T) 0) (by kernel_rfl) (by kernel_rfl) h
  (fun h => by_way (.eq (lo T) (.c 5)) (.is (lo T) 5) (.ne (lo T) 5) (by kernel_rfl) (by kernel_rfl) h
  (fun h => by_way (.eq (qu H) (.c 0)) (.is (qu H) 0) (.ne (qu H) 0) (by kernel_rfl) (by kernel_rfl) h
  (fun h => r211_1 val h ht)
  (fun h => by_way (.eq (qu H) (.c 1)) (.is (qu H) 1) (.ne (qu H) 1) (by kernel_rfl) (by kernel_rfl) h
  (fun h => r211_2 val h ht)
  (fun h => by_way (.eq (qu H) (.c 2)) (.is (qu H) 2) (.ne (qu H) 2) (by kernel_rfl) (by kernel_rfl) h
  (fun h => r211_3 val h ht)
  (fun h => r211_4 val h ht))))
  (fun h => by_way (.eq (qu H) (.c 1)) (.is (qu H) 1) (.ne (qu H) 1) (by kernel_rfl) (by kernel_rfl) h
  (fun h => r211_5 val h ht)
  (fun h => by_way (.eq (qu H) (.c 2)) (.is (qu H) 2) (.ne (qu H) 2) (by kernel_rfl) (by kernel_rfl) h
  (fun h => r211_6 val h ht)
  (fun h => by_way (.eq (qu H) (.c 0)) (.is (qu H) 0) (.ne (qu H) 0) (by kernel_rfl) (by kernel_rfl) h
  (fun h => r211_7 val h ht)
  (fun h => r211_8 val h ht)))))
  (fun h => by_way (.eq (qu T) (.c 1)) (.is (qu T) 1) (.ne (qu T) 1) (by kernel_rfl) (by kernel_rfl) h
  (fun h => by_way (.eq (lo T) (.c 5)) (.is (lo T) 5) (.ne (lo T) 5) (by kernel_rfl) (by kernel_rfl) h
  (fun h => by_way (.eq (qu H) (.c 0)) (.is (qu H) 0) (.ne (qu H) 0) (by kernel_rfl) (by kernel_rfl) h
  (fun h => r211_9 val h ht)
  (fun h => by_way (.eq (qu H) (.c 1)) (.is (qu H) 1) (.ne (qu H) 1) (by kernel_rfl) (by kernel_rfl) h
  (fun h => r211_10 val h ht)
  (fun h => by_way (.eq (qu H) (.c 2)) (.is (qu H) 2) (.ne (qu H) 2) (by kernel_rfl) (by kernel_rfl) h
  (fun h => r211_11 val h ht)
  (fun h => r211_12 val h ht))))
  (fun h => by_way (.eq (qu H) (.c 1)) (.is (qu H) 1) (.ne (qu H) 1) (by kernel_rfl) (by kernel_rfl) h
  (fun h => r211_13 val h ht)
  (fun h => by_way (.eq (qu H) (.c 2)) (.is (qu H) 2) (.ne (qu H) 2) (by kernel_rfl) (by kernel_rfl) h
  (fun h => r211_14 val h ht)
  (fun h => by_way (.eq (qu H) (.c 0)) (.is (qu H) 0) (.ne (qu H) 0) (by kernel_rfl) (by kernel_rfl) h
  (fun h => r211_15 val h ht)
  (fun h => r211_16 val h ht)))))
  (fun h => by_way (.eq (qu T) (.c 2)) (.is (qu T) 2) (.ne (qu T) 2) (by kernel_rfl) (by kernel_rfl) h
  (fun h => by_way (.eq (lo T) (.c 5)) (.is (lo T) 5) (.ne (lo T) 5) (by kernel_rfl) (by kernel_rfl) h
  (fun h => by_way (.eq (qu H) (.c 0)) (.is (qu H) 0) (.ne (qu H) 0) (by kernel_rfl) (by kernel_rfl) h
  (fun h => r211_17 val h ht)
  (fun h => by_way (.eq (qu H) (.c 1)) (.is (qu H) 1) (.ne (qu H) 1) (by kernel_rfl) (by kernel_rfl) h
  (fun h => r211_18 val h ht)
  (fun h => by_way (.eq (qu H) (.c 2)) (.is (qu H) 2) (.ne (qu H) 2) (by kernel_rfl) (by kernel_rfl) h
  (fun h => r211_19 val h ht)
  (fun h => r211_20 val h ht))))
  (fun h => by_way (.eq (qu H) (.c 1)) (.is (qu H) 1) (.ne (qu H) 1) (by kernel_rfl) (by kernel_rfl) h
  (fun h => r211_21 val h ht)
  (fun h => by_way (.eq (qu H) (.c 2)) (.is (qu H) 2) (.ne (qu H) 2) (by kernel_rfl) (by kernel_rfl) h
  (fun h => r211_22 val h ht)
  (fun h => by_way (.eq (qu H) (.c 0)) (.is (qu H) 0) (.ne (qu H) 0) (by kernel_rfl) (by kernel_rfl) h
  (fun h => r211_23 val h ht)
  (fun h => r211_24 val h ht)))))
  (fun h => by_way (.eq (lo T) (.c 5)) (.is (lo T) 5) (.ne (lo T) 5) (by kernel_rfl) (by kernel_rfl) h
  (fun h => by_way (.eq (qu H) (.c 0)) (.is (qu H) 0) (.ne (qu H) 0) (by kernel_rfl) (by kernel_rfl) h
  (fun h => r211_25 val h ht)
  (fun h => by_way (.eq (qu H) (.c 1)) (.is (qu H) 1) (.ne (qu H) 1) (by kernel_rfl) (by kernel_rfl) h
  (fun h => r211_26 val h ht)
  (fun h => by_way (.eq (qu H) (.c 2)) (.is (qu H) 2) (.ne (qu H) 2) (by kernel_rfl) (by kernel_rfl) h
  (fun h => r211_27 val h ht)
  (fun h => r211_28 val h ht))))
  (fun h => by_way (.eq (qu H) (.c 1)) (.is (qu H) 1) (.ne (qu H) 1) (by kernel_rfl) (by kernel_rfl) h
  (fun h => r211_29 val h ht)
  (fun h => by_way (.eq (qu H) (.c 2)) (.is (qu H) 2) (.ne (qu H) 2) (by kernel_rfl) (by kernel_rfl) h
  (fun h => r211_30 val h ht)
  (fun h => by_way (.eq (qu H) (.c 0)) (.is (qu H) 0) (.ne (qu H) 0) (by kernel_rfl) (by kernel_rfl) h
  (fun h => r211_31 val h ht)
  (fun h => r211_32 val h ht))))))))
  (fun h => by_way (.eq (qu T) (.c 0)) (.is (qu T) 0) (.ne (qu T) 0) (by kernel_rfl) (by kernel_rfl) h
  (fun h => by_way (.eq (lo T) (.c 5)) (.is (lo T) 5) (.ne (lo T) 5) (by kernel_rfl) (by kernel_rfl) h
  (fun h => by_way (.eq (qu H) (.c 0)) (.is (qu H) 0) (.ne (qu H) 0) (by kernel_rfl) (by kernel_rfl) h
  (fun h => r211_33 val h ht)
  (fun h => by_way (.eq (qu H) (.c 1)) (.is (qu H) 1) (.ne (qu H) 1) (by kernel_rfl) (by kernel_rfl) h
  (fun h => r211_34 val h ht)
  (fun h => by_way (.eq (qu H) (.c 2)) (.is (qu H) 2) (.ne (qu H) 2) (by kernel_rfl) (by kernel_rfl) h
  (fun h => r211_35 val h ht)
  (fun h => r211_36 val h ht))))
  (fun h => by_way (.eq (qu H) (.c 1)) (.is (qu H) 1) (.ne (qu H) 1) (by kernel_rfl) (by kernel_rfl) h
  (fun h => r211_37 val h ht)
  (fun h => by_way (.eq (qu H) (.c 2)) (.is (qu H) 2) (.ne (qu H) 2) (by kernel_rfl) (by kernel_rfl) h
  (fun h => r211_38 val h ht)
  (fun h => by_way (.eq (qu H) (.c 0)) (.is (qu H) 0) (.ne (qu H) 0) (by kernel_rfl) (by kernel_rfl) h
  (fun h => r211_39 val h ht)
  (fun h => r211_40 val h ht)))))
  (fun h => by_way (.eq (qu T) (.c 1)) (.is (qu T) 1) (.ne (qu T) 1) (by kernel_rfl) (by kernel_rfl) h
  (fun h => by_way (.eq (lo T) (.c 5)) (.is (lo T) 5) (.ne (lo T) 5) (by kernel_rfl) (by kernel_rfl) h
  (fun h => by_way (.eq (qu H) (.c 0)) (.is (qu H) 0) (.ne (qu H) 0) (by kernel_rfl) (by kernel_rfl) h
  (fun h => r211_41 val h ht)
  (fun h => by_way (.eq (qu H) (.c 1)) (.is (qu H) 1) (.ne (qu H) 1) (by kernel_rfl) (by kernel_rfl) h
  (fun h => r211_42 val h ht)
  (fun h => by_way (.eq (qu H) (.c 2)) (.is (qu H) 2) (.ne (qu H) 2) (by kernel_rfl) (by kernel_rfl) h
  (fun h => r211_43 val h ht)
  (fun h => r211_44 val h ht))))
  (fun h => by_way (.eq (qu H) (.c 1)) (.is (qu H) 1) (.ne (qu H) 1) (by kernel_rfl) (by kernel_rfl) h
  (fun h => r211_45 val h ht)
  (fun h => by_way (.eq (qu H) (.c 2)) (.is (qu H) 2) (.ne (qu H) 2) (by kernel_rfl) (by kernel_rfl) h
  (fun h => r211_46 val h ht)
  (fun h => by_way (.eq (qu H) (.c 0)) (.is (qu H) 0) (.ne (qu H) 0) (by kernel_rfl) (by kernel_rfl) h
  (fun h => r211_47 val h ht)
  (fun h => r211_48 val h ht)))))
  (fun h => by_way (.eq (qu T) (.c 2)) (.is (qu T) 2) (.ne (qu T) 2) (by kernel_rfl) (by kernel_rfl) h
  (fun h => by_way (.eq (lo T) (.c 5)) (.is (lo T) 5) (.ne (lo T) 5) (by kernel_rfl) (by kernel_rfl) h
  (fun h => by_way (.eq (qu H) (.c 0)) (.is (qu H) 0) (.ne (qu H) 0) (by kernel_rfl) (by kernel_rfl) h
  (fun h => r211_49 val h ht)
  (fun h => by_way (.eq (qu H) (.c 1)) (.is (qu H) 1) (.ne (qu H) 1) (by kernel_rfl) (by kernel_rfl) h
  (fun h => r211_50 val h ht)
  (fun h => by_way (.eq (qu H) (.c 2)) (.is (qu H) 2) (.ne (qu H) 2) (by kernel_rfl) (by kernel_rfl) h
  (fun h => r211_51 val h ht)
  (fun h => r211_52 val h ht))))
  (fun h => by_way (.eq (qu H) (.c 1)) (.is (qu H) 1) (.ne (qu H) 1) (by kernel_rfl) (by kernel_rfl) h
  (fun h => r211_53 val h ht)
  (fun h => by_way (.eq (qu H) (.c 2)) (.is (qu H) 2) (.ne (qu H) 2) (by kernel_rfl) (by kernel_rfl) h
  (fun h => r211_54 val h ht)
  (fun h => by_way (.eq (qu H) (.c 0)) (.is (qu H) 0) (.ne (qu H) 0) (by kernel_rfl) (by kernel_rfl) h
  (fun h => r211_55 val h ht)
  (fun h => r211_56 val h ht)))))
  (fun h => by_way (.eq (lo T) (.c 5)) (.is (lo T) 5) (.ne (lo T) 5) (by kernel_rfl) (by kernel_rfl) h
  (fun h => by_way (.eq (qu H) (.c 0)) (.is (qu H) 0) (.ne (qu H) 0) (by kernel_rfl) (by kernel_rfl) h
  (fun h => r211_57 val h ht)
  (fun h => by_way (.eq (qu H) (.c 1)) (.is (qu H) 1) (.ne (qu H) 1) (by kernel_rfl) (by kernel_rfl) h
  (fun h => r211_58 val h ht)
  (fun h => by_way (.eq (qu H) (.c 2)) (.is (qu H) 2) (.ne (qu H) 2) (by kernel_rfl) (by kernel_rfl) h
  (fun h => r211_59 val h ht)
  (fun h => r211_60 val h ht))))
  (fun h => by_way (.eq (qu H) (.c 1)) (.is (qu H) 1) (.ne (qu H) 1) (by kernel_rfl) (by kernel_rfl) h
  (fun h => r211_61 val h ht)
  (fun h => by_way (.eq (qu H) (.c 2)) (.is (qu H) 2) (.ne (qu H) 2) (by kernel_rfl) (by kernel_rfl) h
  (fun h => r211_62 val h ht)
  (fun h => by_way (.eq (qu H) (.c 0)) (.is (qu H) 0) (.ne (qu H) 0) (by kernel_rfl) (by kernel_rfl) h
  (fun h => r211_63 val h ht)
  (fun h => r211_64 val h ht)))))))))
  (fun h => r211_65 val h ht))

theorem r201_0 (val : Nat → Int) (h : Holds val (.is (qu H) 3 :: pre 2 0 1)) (ht : Tabs 2 val) : Q val := leafR (by omega) h ht [(mi H), (w (.add (.c 8) (lo H))), (.c 0), (.c 0), (.c 0), (.c 0), (.c 0), (.c 0), (.c 0), e1, (.c 0)] (by kernel_rfl) (by kernel_rfl) (fun v hG => by kernel_rfl)
theorem r201_1 (val : Nat → Int) (h : Holds val (.is (qu H) 0 :: .is (lo T) 5 :: .is (qu T) 0 :: .is (mi T) 4 :: .is (lo H) 4 :: .ne (qu H) 3 :: pre 2 0 1)) (ht : Tabs 2 val) : Q val := leafR (by omega) h ht [(.c 0), (.c 0), (.c 0), (.c 0), (.c 0), (.c 0), (.c 0), (.c 0), (.c 0), (.c 0), (.c 4)] (by kernel_rfl) (by kernel_rfl) (fun v hG => by kernel_rfl)
theorem r201_2 (val : Nat → Int) (h : Holds val (.is (qu H) 1 :: .ne (qu H) 0 :: .is (lo T) 5 :: .is (qu T) 0 :: .is (mi T) 4 :: .is (lo H) 4 :: .ne (qu H) 3 :: pre 2 0 1)) (ht : Tabs 2 val) : Q val := leafR (by omega) h ht [(.c 0), (.c 0), (.c 0), (.c 0), (.c 0), (.c 0), (.c 0), (.c 0), (.c 0), (.c 0), (.c 9)] (by kernel_rfl) (by kernel_rfl) (fun v hG => by kernel_rfl)
theorem r201_3 (val : Nat → Int) (h : Holds val (.is (qu H) 2 :: .ne (qu H) 1 :: .ne (qu H) 0 :: .is (lo T) 5 :: .is (qu T) 0 :: .is (mi T) 4 :: .is (lo H) 4 :: .ne (qu H) 3 :: pre 2 0 1)) (ht : Tabs 2 val) : Q val := leafR (by omega) h ht [(.c 0), (.c 0), (.c 0), (.c 0), (.c 0), (.c 0), (.c 0), (.c 0), (.c 0), (.c 0), (.c 9)] (by kernel_rfl) (by kernel_rfl) (fun v hG => by kernel_rfl)
theorem r201_4 (val : Nat → Int) (h : Holds val (.ne (qu H) 2 :: .ne (qu H) 1 :: .ne (qu H) 0 :: .is (lo T) 5 :: .is (qu T) 0 :: .is (mi T) 4 :: .is (lo H) 4 :: .ne (qu H) 3 :: pre 2 0 1)) (ht : Tabs 2 val) : Q val := leafR (by omega) h ht [(mi H), (.c (-1)), (.c 5), (.c 13), (.c 0), (.c 0), (.c 0), (.c 0), (.c 0), e2, (.c 0)] (by kernel_rfl) (by kernel_rfl) (fun v hG => by kernel_rfl)
theorem r201_5 (val : Nat → Int) (h : Holds val (.is (qu H) 1 :: .ne (lo T) 5 :: .is (qu T) 0 :: .is (mi T) 4 :: .is (lo H) 4 :: .ne (qu H) 3 :: pre 2 0 1)) (ht : Tabs 2 val) : Q val := leafR (by omega) h ht [(.c 0), (.c 0), (.c 0), (.c 0), (.c 0), (.c 0), (.c 0), (.c 0), (.c 0), (.c 0), (.c 9)] (by kernel_rfl) (by kernel_rfl) (fun v hG => by kernel_rfl)
theorem r201_6 (val : Nat → Int) (h : Holds val (.is (qu H) 2 :: .ne (qu H) 1 :: .ne (lo T) 5 :: .is (qu T) 0 :: .is (mi T) 4 :: .is (lo H) 4 :: .ne (qu H) 3 :: pre 2 0 1)) (ht : Tabs 2 val) : Q val := leafR (by omega) h ht [(.c 0), (.c 0), (.c 0), (.c 0), (.c 0), (.c 0), (.c 0), (.c 0), (.c 0), (.c 0), (.c 9)] (by kernel_rfl) (by kernel_rfl) (fun v hG => by kernel_rfl)
theorem r201_7 (val : Nat → Int) (h : Holds val (.is (qu H) 0 :: .ne (qu H) 2 :: .ne (qu H) 1 :: .ne (lo T) 5 :: .is (qu T) 0 :: .is (mi T) 4 :: .is (lo H) 4 :: .ne (qu H) 3 :: pre 2 0 1)) (ht : Tabs 2 val) : Q val := leafR (by omega) h ht [(mi H), (.c (-1)), (.c 5), (w (.add (.c 8) (lo T))), (.c 0), (.c 0), (.c 0), (.c 0), (.c 0), e2, (.c 0)] (by kernel_rfl) (by kernel_rfl) (fun v hG => by kernel_rfl)
theorem r201_8 (val : Nat → Int) (h : Holds val (.ne (qu H) 0 :: .ne (qu H) 2 :: .ne (qu H) 1 :: .ne (lo T) 5 :: .is (qu T) 0 :: .is (mi T) 4 :: .is (lo H) 4 :: .ne (qu H) 3 :: pre 2 0 1)) (ht : Tabs 2 val) : Q val := leafR (by omega) h ht [(mi H), (.c (-1)), (.c 5), (w (.add (.c 8) (lo T))), (.c 0), (.c 0), (.c 0), (.c 0), (.c 0), e2, (.c 0)] (by kernel_rfl) (by kernel_rfl) (fun v hG => by kernel_rfl)
theorem r201_9 (val : Nat → Int) (h : Holds val (.ne (qu T) 0 :: .is (mi T) 4 :: .is (lo H) 4 :: .ne (qu H) 3 :: pre 2 0 1)) (ht : Tabs 2 val) : Q val := leafR (by omega) h ht [(.c 0), (.c 0), (.c 0), (.c 0), (.c 0), (.c 0), (.c 0), (.c 0), (.c 0), (.c 0), (.c 4)] (by kernel_rfl) (by kernel_rfl) (fun v hG => by kernel_rfl)
theorem r201_10 (val : Nat → Int) (h : Holds val (.is (qu H) 0 :: .is (lo T) 5 :: .is (qu T) 0 :: .ne (mi T) 4 :: .is (lo H) 4 :: .ne (qu H) 3 :: pre 2 0 1)) (ht : Tabs 2 val) : Q val := leafR (by omega) h ht [(.c 0), (.c 0), (.c 0), (.c 0), (.c 0), (.c 0), (.c 0), (.c 0), (.c 0), (.c 0), (.c 4)] (by kernel_rfl) (by kernel_rfl) (fun v hG => by kernel_rfl)
theorem r201_11 (val : Nat → Int) (h : Holds val (.is (qu H) 1 :: .ne (qu H) 0 :: .is (lo T) 5 :: .is (qu T) 0 :: .ne (mi T) 4 :: .is (lo H) 4 :: .ne (qu H) 3 :: pre 2 0 1)) (ht : Tabs 2 val) : Q val := leafR (by omega) h ht [(.c 0), (.c 0), (.c 0), (.c 0), (.c 0), (.c 0), (.c 0), (.c 0), (.c 0), (.c 0), (.c 9)] (by kernel_rfl) (by kernel_rfl) (fun v hG => by kernel_rfl)
theorem r201_12 (val : Nat → Int) (h : Holds val (.is (qu H) 2 :: .ne (qu H) 1 :: .ne (qu H) 0 :: .is (lo T) 5 :: .is (qu T) 0 :: .ne (mi T) 4 :: .is (lo H) 4 :: .ne (qu H) 3 :: pre 2 0 1)) (ht : Tabs 2 val) : Q val := leafR (by omega) h ht [(.c 0), (.c 0), (.c 0), (.c 0), (.c 0), (.c 0), (.c 0), (.c 0), (.c 0), (.c 0), (.c 9)] (by kernel_rfl) (by kernel_rfl) (fun v hG => by kernel_rfl)
theorem r201_13 (val : Nat → Int) (h : Holds val (.ne (qu H) 2 :: .ne (qu H) 1 :: .ne (qu H) 0 :: .is (lo T) 5 :: .is (qu T) 0 :: .ne (mi T) 4 :: .is (lo H) 4 :: .ne (qu H) 3 :: pre 2 0 1)) (ht : Tabs 2 val) : Q val := leafR (by omega) h ht [(mi H), (.c (-1)), (.c 5), (.c 13), (.c 5), (w (.add (.c 0) (mi T))), (.c 1), (.c 0), (.c 0), e2, (.c 0)] (by kernel_rfl) (by kernel_rfl) (fun v hG => by kernel_rfl)
theorem r201_14 (val : Nat → Int) (h : Holds val (.is (qu H) 1 :: .ne (lo T) 5 :: .is (qu T) 0 :: .ne (mi T) 4 :: .is (lo H) 4 :: .ne (qu H) 3 :: pre 2 0 1)) (ht : Tabs 2 val) : Q val := leafR (by omega) h ht [(.c 0), (.c 0), (.c 0), (.c 0), (.c 0), (.c 0), (.c 0), (.c 0), (.c 0), (.c 0), (.c 9)] (by kernel_rfl) (by kernel_rfl) (fun v hG => by kernel_rfl)
theorem r201_15 (val : Nat → Int) (h : Holds val (.is (qu H) 2 :: .ne (qu H) 1 :: .ne (lo T) 5 :: .is (qu T) 0 :: .ne (mi T) 4 :: .is (lo H) 4 :: .ne (qu H) 3 :: pre 2 0 1)) (ht : Tabs 2 val) : Q val := leafR (by omega) h ht [(.c 0), (.c 0), (.c 0), (.c 0), (.c 0), (.c 0), (.c 0), (.c 0), (.c 0), (.c 0), (.c 9)] (by kernel_rfl) (by kernel_rfl) (fun v hG => by kernel_rfl)
theorem r201_16 (val : Nat → Int) (h : Holds val (.is (qu H) 0 :: .ne (qu H) 2 :: .ne (qu H) 1 :: .ne (lo T) 5 :: .is (qu T) 0 :: .ne (mi T) 4 :: .is (lo H) 4 :: .ne (qu H) 3 :: pre 2 0 1)) (ht : Tabs 2 val) : Q val := leafR (by omega) h ht [(mi H), (.c (-1)), (.c 5), (w (.add (.c 8) (lo T))), (.c 5), (w (.add (.c 0) (mi T))), (.c 1), (.c 0), (.c 0), e2, (.c 0)] (by kernel_rfl) (by kernel_rfl) (fun v hG => by kernel_rfl)
theorem r201_17 (val : Nat → Int) (h : Holds val (.ne (qu H) 0 :: .ne (qu H) 2 :: .ne (qu H) 1 :: .ne (lo T) 5 :: .is (qu T) 0 :: .ne (mi T) 4 :: .is (lo H) 4 :: .ne (qu H) 3 :: pre 2 0 1)) (ht : Tabs 2 val) : Q val := leafR (by omega) h ht [(mi H), (.c (-1)), (.c 5), (w (.add (.c 8) (lo T))), (.c 5), (w (.add (.c 0) (mi T))), (.c 1), (.c 0), (.c 0), e2, (.c 0)] (by kernel_rfl) (by kernel_rfl) (fun v hG => by kernel_rfl)
theorem r201_18 (val : Nat → Int) (h : Holds val (.is (qu H) 0 :: .is (lo T) 5 :: .is (qu T) 1 :: .ne (qu T) 0 :: .ne (mi T) 4 :: .is (lo H) 4 :: .ne (qu H) 3 :: pre 2 0 1)) (ht : Tabs 2 val) : Q val := leafR (by omega) h ht [(.c 0), (.c 0), (.c 0), (.c 0), (.c 0), (.c 0), (.c 0), (.c 0), (.c 0), (.c 0), (.c 4)] (by kernel_rfl) (by kernel_rfl) (fun v hG => by kernel_rfl)
theorem r201_19 (val : Nat → Int) (h : Holds val (.is (qu H) 1 :: .ne (qu H) 0 :: .is (lo T) 5 :: .is (qu T) 1 :: .ne (qu T) 0 :: .ne (mi T) 4 :: .is (lo H) 4 :: .ne (qu H) 3 :: pre 2 0 1)) (ht : Tabs 2 val) : Q val := leafR (by omega) h ht [(.c 0), (.c 0), (.c 0), (.c 0), (.c 0), (.c 0), (.c 0), (.c 0), (.c 0), (.c 0), (.c 9)] (by kernel_rfl) (by kernel_rfl) (fun v hG => by kernel_rfl)
theorem r201_20 (val : Nat → Int) (h : Holds val (.is (qu H) 2 :: .ne (qu H) 1 :: .ne (qu H) 0 :: .is (lo T) 5 :: .is (qu T) 1 :: .ne (qu T) 0 :: .ne (mi T) 4 :: .is (lo H) 4 :: .ne (qu H) 3 :: pre 2 0 1)) (ht : Tabs 2 val) : Q val := leafR (by omega) h ht [(.c 0), (.c 0), (.c 0), (.c 0), (.c 0), (.c 0), (.c 0), (.c 0), (.c 0), (.c 0), (.c 9)] (by kernel_rfl) (by kernel_rfl) (fun v hG => by kernel_rfl)
theorem r201_21 (val : Nat → Int) (h : Holds val (.ne (qu H) 2 :: .ne (qu H) 1 :: .ne (qu H) 0 :: .is (lo T) 5 :: .is (qu T) 1 :: .ne (qu T) 0 :: .ne (mi T) 4 :: .is (lo H) 4 :: .ne (qu H) 3 :: pre 2 0 1)) (ht : Tabs 2 val) : Q val := leafR (by omega) h ht [(mi H), (.c (-1)), (.c 5), (.c 13), (.c 5), (w (.add (.c 0) (mi T))), (.c 2), (.c 0), (.c 0), e2, (.c 0)] (by kernel_rfl) (by kernel_rfl) (fun v hG => by kernel_rfl)
theorem r201_22 (val : Nat → Int) (h : Holds val (.is (qu H) 1 :: .ne (lo T) 5 :: .is (qu T) 1 :: .ne (qu T) 0 :: .ne (mi T) 4 :: .is (lo H) 4 :: .ne (qu H) 3 :: pre 2 0 1)) (ht : Tabs 2 val) : Q val := leafR (by omega) h ht [(.c 0), (.c 0), (.c 0), (.c 0), (.c 0), (.c 0), (.c 0), (.c 0), (.c 0), (.c 0), (.c 9)] (by kernel_rfl) (by kernel_rfl) (fun v hG => by kernel_rfl)
theorem r201_23 (val : Nat → Int) (h : Holds val (.is (qu H) 2 :: .ne (qu H) 1 :: .ne (lo T) 5 :: .is (qu T) 1 :: .ne (qu T) 0 :: .ne (mi T) 4 :: .is (lo H) 4 :: .ne (qu H) 3 :: pre 2 0 1)) (ht : Tabs 2 val) : Q val := leafR (by omega) h ht [(.c 0), (.c 0), (.c 0), (.c 0), (.c 0), (.c 0), (.c 0), (.c 0), (.c 0), (.c 0), (.c 9)] (by kernel_rfl) (by kernel_rfl) (fun v hG => by kernel_rfl)
theorem r201_24 (val : Nat → Int) (h : Holds val (.is (qu H) 0 :: .ne (qu H) 2 :: .ne (qu H) 1 :: .ne (lo T) 5 :: .is (qu T) 1 :: .ne (qu T) 0 :: .ne (mi T) 4 :: .is (lo H) 4 :: .ne (qu H) 3 :: pre 2 0 1)) (ht : Tabs 2 val) : Q val := leafR (by omega) h ht [(mi H), (.c (-1)), (.c 5), (w (.add (.c 8) (lo T))), (.c 5), (w (.add (.c 0) (mi T))), (.c 2), (.c 0), (.c 0), e2, (.c 0)] (by kernel_rfl) (by kernel_rfl) (fun v hG => by kernel_rfl)
theorem r201_25 (val : Nat → Int) (h : Holds val (.ne (qu H) 0 :: .ne (qu H) 2 :: .ne (qu H) 1 :: .ne (lo T) 5 :: .is (qu T) 1 :: .ne (qu T) 0 :: .ne (mi T) 4 :: .is (lo H) 4 :: .ne (qu H) 3 :: pre 2 0 1)) (ht : Tabs 2 val) : Q val := leafR (by omega) h ht [(mi H), (.c (-1)), (.c 5), (w (.add (.c 8) (lo T))), (.c 5), (w (.add (.c 0) (mi T))), (.c 2), (.c 0), (.c 0), e2, (.c 0)] (by kernel_rfl) (by kernel_rfl) (fun v hG => by kernel_rfl)
theorem r201_26 (val : Nat → Int) (h : Holds val (.is (qu H) 0 :: .is (lo T) 5 :: .is (qu T) 2 :: .ne (qu T) 1 :: .ne (qu T) 0 :: .ne (mi T) 4 :: .is (lo H) 4 :: .ne (qu H) 3 :: pre 2 0 1)) (ht : Tabs 2 val) : Q val := leafR (by omega) h ht [(.c 0), (.c 0), (.c 0), (.c 0), (.c 0), (.c 0), (.c 0), (.c 0), (.c 0), (.c 0), (.c 4)] (by kernel_rfl) (by kernel_rfl) (fun v hG => by kernel_rfl)
theorem r201_27 (val : Nat → Int) (h : Holds val (.is (qu H) 1 :: .ne (qu H) 0 :: .is (lo T) 5 :: .is (qu T) 2 :: .ne (qu T) 1 :: .ne (qu T) 0 :: .ne (mi T) 4 :: .is (lo H) 4 :: .ne (qu H) 3 :: pre 2 0 1)) (ht : Tabs 2 val) : Q val := leafR (by omega) h ht [(.c 0), (.c 0), (.c 0), (.c 0), (.c 0), (.c 0), (.c 0), (.c 0), (.c 0), (.c 0), (.c 9)] (by kernel_rfl) (by kernel_rfl) (fun v hG => by kernel_rfl)
theorem r201_28 (val : Nat → Int) (h : Holds val (.is (qu H) 2 :: .ne (qu H) 1 :: .ne (qu H) 0 :: .is (lo T) 5 :: .is (qu T) 2 :: .ne (qu T) 1 :: .ne (qu T) 0 :: .ne (mi T) 4 :: .is (lo H) 4 :: .ne (qu H) 3 :: pre 2 0 1)) (ht : Tabs 2 val) : Q val := leafR (by omega) h ht [(.c 0), (.c 0), (.c 0), (.c 0), (.c 0), (.c 0), (.c 0), (.c 0), (.c 0), (.c 0), (.c 9)] (by kernel_rfl) (by kernel_rfl) (fun v hG => by kernel_rfl)
theorem r201_29 (val : Nat → Int) (h : Holds val (.ne (qu H) 2 :: .ne (qu H) 1 :: .ne (qu H) 0 :: .is (lo T) 5 :: .is (qu T) 2 :: .ne (qu T) 1 :: .ne (qu T) 0 :: .ne (mi T) 4 :: .is (lo H) 4 :: .ne (qu H) 3 :: pre 2 0 1)) (ht : Tabs 2 val) : Q val := leafR (by omega) h ht [(mi H), (.c (-1)), (.c 5), (.c 13), (.c 5), (w (.add (.c 0) (mi T))), (.c 4), (.c 0), (.c 0), e2, (.c 0)] (by kernel_rfl) (by kernel_rfl) (fun v hG => by kernel_rfl)
theorem r201_30 (val : Nat → Int) (h : Holds val (.is (qu H) 1 :: .ne (lo T) 5 :: .is (qu T) 2 :: .ne (qu T) 1 :: .ne (qu T) 0 :: .ne (mi T) 4 :: .is (lo H) 4 :: .ne (qu H) 3 :: pre 2 0 1)) (ht : Tabs 2 val) : Q val := leafR (by omega) h ht [(.c 0), (.c 0), (.c 0), (.c 0), (.c 0), (.c 0), (.c 0), (.c 0), (.c 0), (.c 0), (.c 9)] (by kernel_rfl) (by kernel_rfl) (fun v hG => by kernel_rfl)
theorem r201_31 (val : Nat → Int) (h : Holds val (.is (qu H) 2 :: .ne (qu H) 1 :: .ne (lo T) 5 :: .is (qu T) 2 :: .ne (qu T) 1 :: .ne (qu T) 0 :: .ne (mi T) 4 :: .is (lo H) 4 :: .ne (qu H) 3 :: pre 2 0 1)) (ht : Tabs 2 val) : Q val := leafR (by omega) h ht [(.c 0), (.c 0), (.c 0), (.c 0), (.c 0), (.c 0), (.c 0), (.c 0), (.c 0), (.c 0), (.c 9)] (by kernel_rfl) (by kernel_rfl) (fun v hG => by kernel_rfl)
theorem r201_32 (val : Nat → Int) (h : Holds val (.is (qu H) 0 :: .ne (qu H) 2 :: .ne (qu H) 1 :: .ne (lo T) 5 :: .is (qu T) 2 :: .ne (qu T) 1 :: .ne (qu T) 0 :: .ne (mi T) 4 :: .is (lo H) 4 :: .ne (qu H) 3 :: pre 2 0 1)) (ht : Tabs 2 val) : Q val := leafR (by omega) h ht [(mi H), (.c (-1)), (.c 5), (w (.add (.c 8) (lo T))), (.c 5), (w (.add (.c 0) (mi T))), (.c 4), (.c 0), (.c 0), e2, (.c 0)] (by kernel_rfl) (by kernel_rfl) (fun v hG => by kernel_rfl)
theorem r201_33 (val : Nat → Int) (h : Holds val (.ne (qu H) 0 :: .ne (qu H) 2 :: .ne (qu H) 1 :: .ne (lo T) 5 :: .is (qu T) 2 :: .ne (qu T) 1 :: .ne (qu T) 0 :: .ne (mi T) 4 :: .is (lo H) 4 :: .ne (qu H) 3 :: pre 2 0 1)) (ht : Tabs 2 val) : Q val := leafR (by omega) h ht [(mi H), (.c (-1)), (.c 5), (w (.add (.c 8) (lo T))), (.c 5), (w (.add (.c 0) (mi T))), (.c 4), (.c 0), (.c 0), e2, (.c 0)] (by kernel_rfl) (by kernel_rfl) (fun v hG => by kernel_rfl)
theorem r201_34 (val : Nat → Int) (h : Holds val (.is (qu H) 0 :: .is (lo T) 5 :: .ne (qu T) 2 :: .ne (qu T) 1 :: .ne (qu T) 0 :: .ne (mi T) 4 :: .is (lo H) 4 :: .ne (qu H) 3 :: pre 2 0 1)) (ht : Tabs 2 val) : Q val := leafR (by omega) h ht [(.c 0), (.c 0), (.c 0), (.c 0), (.c 0), (.c 0), (.c 0), (.c 0), (.c 0), (.c 0), (.c 4)] (by kernel_rfl) (by kernel_rfl) (fun v hG => by kernel_rfl)
theorem r201_35 (val : Nat → Int) (h : Holds val (.is (qu H) 1 :: .ne (qu H) 0 :: .is (lo T) 5 :: .ne (qu T) 2 :: .ne (qu T) 1 :: .ne (qu T) 0 :: .ne (mi T) 4 :: .is (lo H) 4 :: .ne (qu H) 3 :: pre 2 0 1)) (ht : Tabs 2 val) : Q val := leafR (by omega) h ht [(.c 0), (.c 0), (.c 0), (.c 0), (.c 0), (.c 0), (.c 0), (.c 0), (.c 0), (.c 0), (.c 9)] (by kernel_rfl) (by kernel_rfl) (fun v hG => by kernel_rfl)
theorem r201_36 (val : Nat → Int) (h : Holds val (.is (qu H) 2 :: .ne (qu H) 1 :: .ne (qu H) 0 :: .is (lo T) 5 :: .ne (qu T) 2 :: .ne (qu T) 1 :: .ne (qu T) 0 :: .ne (mi T) 4 :: .is (lo H) 4 :: .ne (qu H) 3 :: pre 2 0 1)) (ht : Tabs 2 val) : Q val := leafR (by omega) h ht [(.c 0), (.c 0), (.c 0), (.c 0), (.c 0), (.c 0), (.c 0), (.c 0), (.c 0), (.c 0), (.c 9)] (by kernel_rfl) (by kernel_rfl) (fun v hG => by kernel_rfl)
theorem r201_37 (val : Nat → Int) (h : Holds val (.ne (qu H) 2 :: .ne (qu H) 1 :: .ne (qu H) 0 :: .is (lo T) 5 :: .ne (qu T) 2 :: .ne (qu T) 1 :: .ne (qu T) 0 :: .ne (mi T) 4 :: .is (lo H) 4 :: .ne (qu H) 3 :: pre 2 0 1)) (ht : Tabs 2 val) : Q val := leafR (by omega) h ht [(mi H), (.c (-1)), (.c 5), (.c 13), (.c 5), (w (.add (.c 0) (mi T))), (.c 8), (.c 0), (.c 0), e2, (.c 0)] (by kernel_rfl) (by kernel_rfl) (fun v hG => by kernel_rfl)
theorem r201_38 (val : Nat → Int) (h : Holds val (.is (qu H) 1 :: .ne (lo T) 5 :: .ne (qu T) 2 :: .ne (qu T) 1 :: .ne (qu T) 0 :: .ne (mi T) 4 :: .is (lo H) 4 :: .ne (qu H) 3 :: pre 2 0 1)) (ht : Tabs 2 val) : Q val := leafR (by omega) h ht [(.c 0), (.c 0), (.c 0), (.c 0), (.c 0), (.c 0), (.c 0), (.c 0), (.c 0), (.c 0), (.c 9)] (by kernel_rfl) (by kernel_rfl) (fun v hG => by kernel_rfl)
theorem r201_39 (val : Nat → Int) (h : Holds val (.is (qu H) 2 :: .ne (qu H) 1 :: .ne (lo T) 5 :: .ne (qu T) 2 :: .ne (qu T) 1 :: .ne (qu T) 0 :: .ne (mi T) 4 :: .is (lo H) 4 :: .ne (qu H) 3 :: pre 2 0 1)) (ht : Tabs 2 val) : Q val := leafR (by omega) h ht [(.c 0), (.c 0), (.c 0), (.c 0), (.c 0), (.c 0), (.c 0), (.c 0), (.c 0), (.c 0), (.c 9)] (by kernel_rfl) (by kernel_rfl) (fun v hG => by kernel_rfl)
theorem r201_40 (val : Nat → Int) (h : Holds val (.is (qu H) 0 :: .ne (qu H) 2 :: .ne (qu H) 1 :: .ne (lo T) 5 :: .ne (qu T) 2 :: .ne (qu T) 1 :: .ne (qu T) 0 :: .ne (mi T) 4 :: .is (lo H) 4 :: .ne (qu H) 3 :: pre 2 0 1)) (ht : Tabs 2 val) : Q val := leafR (by omega) h ht [(mi H), (.c (-1)), (.c 5), (w (.add (.c 8) (lo T))), (.c 5), (w (.add (.c 0) (mi T))), (.c 8), (.c 0), (.c 0), e2, (.c 0)] (by kernel_rfl) (by kernel_rfl) (fun v hG => by kernel_rfl)
theorem r201_41 (val : Nat → Int) (h : Holds val (.ne (qu H) 0 :: .ne (qu H) 2 :: .ne (qu H) 1 :: .ne (lo T) 5 :: .ne (qu T) 2 :: .ne (qu T) 1 :: .ne (qu T) 0 :: .ne (mi T) 4 :: .is (lo H) 4 :: .ne (qu H) 3 :: pre 2 0 1)) (ht : Tabs 2 val) : Q val := leafR (by omega) h ht [(mi H), (.c (-1)), (.c 5), (w (.add (.c 8) (lo T))), (.c 5), (w (.add (.c 0) (mi T))), (.c 8), (.c 0), (.c 0), e2, (.c 0)] (by kernel_rfl) (by kernel_rfl) (fun v hG => by kernel_rfl)
theorem r201_42 (val : Nat → Int) (h : Holds val (.is (lo H) 5 :: .is (qu H) 0 :: .ne (lo H) 4 :: .ne (qu H) 3 :: pre 2 0 1)) (ht : Tabs 2 val) : Q val := leafR (by omega) h ht [(.c 0), (.c 0), (.c 0), (.c 0), (.c 0), (.c 0), (.c 0), (.c 0), (.c 0), (.c 0), (.c 4)] (by kernel_rfl) (by kernel_rfl) (fun v hG => by kernel_rfl)
theorem r201_43 (val : Nat → Int) (h : Holds val (.ne (lo H) 5 :: .is (qu H) 0 :: .ne (lo H) 4 :: .ne (qu H) 3 :: pre 2 0 1)) (ht : Tabs 2 val) : Q val := leafR (by omega) h ht [(mi H), (.c (-1)), (.c 5), (w (.add (.c 8) (lo H))), (.c 0), (.c 0), (.c 0), (.c 0), (.c 0), e1, (.c 0)] (by kernel_rfl) (by kernel_rfl) (fun v hG => by kernel_rfl)
theorem r201_44 (val : Nat → Int) (h : Holds val (.is (qu H) 1 :: .ne (qu H) 0 :: .ne (lo H) 4 :: .ne (qu H) 3 :: pre 2 0 1)) (ht : Tabs 2 val) : Q val := leafR (by omega) h ht [(mi H), (.c (-1)), (.c 5), (w (.add (.c 8) (lo H))), (.c 0), (.c 0), (.c 0), (.a 5), (.c 0), e2, (.c 0)] (by kernel_rfl) (by kernel_rfl) (fun v hG => by kernel_rfl)
theorem r201_45 (val : Nat → Int) (h : Holds val (.is (qu H) 2 :: .ne (qu H) 1 :: .ne (qu H) 0 :: .ne (lo H) 4 :: .ne (qu H) 3 :: pre 2 0 1)) (ht : Tabs 2 val) : Q val := leafR (by omega) h ht [(.c 0), (.c 0), (.c 0), (.c 0), (.c 0), (.c 0), (.c 0), (.c 0), (.c 0), (.c 0), (.c 9)] (by kernel_rfl) (by kernel_rfl) (fun v hG => by kernel_rfl)
theorem r201_46 (val : Nat → Int) (h : Holds val (.ne (qu H) 2 :: .ne (qu H) 1 :: .ne (qu H) 0 :: .ne (lo H) 4 :: .ne (qu H) 3 :: pre 2 0 1)) (ht : Tabs 2 val) : Q val := leafR (by omega) h ht [(mi H), (.c (-1)), (.c 5), (w (.add (.c 8) (lo H))), (.c 0), (.c 0), (.c 0), (.c 0), (.c 0), e1, (.c 0)] (by kernel_rfl) (by kernel_rfl) (fun v hG => by kernel_rfl)

theorem r201 : DR 2 0 1 := fun val h ht =>
  by_way (.eq (qu H) (.c 3)) (.is (qu H) 3) (.ne (qu H) 3) (by kernel_rfl) (by kernel_rfl) h
  (fun h => r201_0 val h ht)
  (fun h => by_way (.eq (lo H) (.c 4)) (.is (lo H) 4) (.ne (lo H) 4) (by kernel_rfl) (by kernel_rfl) h
  (fun h => by_way (.eq (mi T) (.c 4)) (.is (mi T) 4) (.ne (mi T) 4) (by kernel_rfl) (by kernel_rfl) h
  (fun h => by_way (.eq (qu T) (.c 0)) (.is (qu T) 0) (.ne (qu T) 0) (by kernel_rfl) (by kernel_rfl) h
  (fun h => by_way (.eq (lo T) (.c 5)) (.is (lo T) 5) (.ne (lo T) 5) (by kernel_rfl) (by kernel_rfl) h
  (fun h => by_way (.eq (qu H) (.c 0)) (.is (qu H) 0) (.ne (qu H) 0) (by kernel_rfl) (by kernel_rfl) h
  (fun h => r201_1 val h ht)
  (fun h => by_way (.eq (qu H) (.c 1)) (.is (qu H) 1) (.ne (qu H) 1) (by kernel_rfl) (by kernel_rfl) h
  (fun h => r201_2 val h ht)
  (fun h => by_way (.eq (qu H) (.c 2)) (.is (qu H) 2) (.ne (qu H) 2) (by kernel_rfl) (by kernel_rfl) h
  (fun h => r201_3 val h ht)
  (fun h => r201_4 val h ht))))
  (fun h => by_way (.eq (qu H) (.c 1)) (.is (qu H) 1) (.ne (qu H) 1) (by kernel_rfl) (by kernel_rfl) h
  (fun h => r201_5 val h ht)
  (fun h => by_way (.eq (qu H) (.c 2)) (.is (qu H) 2) (.ne (qu H) 2) (by kernel_rfl) (by kernel_rfl) h
  (fun h => r201_6 val h ht)
  (fun h => by_way (.eq (qu H) (.c 0)) (.is (qu H) 0) (.ne (qu H) 0) (by kernel_rfl) (by kernel_rfl) h
  (fun h => r201_7 val h ht)
  (fun h => r201_8 val h ht)))))
  (fun h => r201_9 val h ht))
  (fun h => by_way (.eq (qu T) (.c 0)) (.is (qu T) 0) (.ne (qu T) 0) (by kernel_rfl) (by kernel_rfl) h
  (fun h => by_way (.eq (lo T) (.c 5)) (.is (lo T) 5) (.ne (lo T) 5) (by kernel_rfl) (by kernel_rfl) h
  (fun h => by_way (.eq (qu H) (.c 0)) (.is (qu H) 0) (.ne (qu H) 0) (by kernel_rfl) (by kernel_rfl) h
  (fun h => r201_10 val h ht)
  (fun h => by_way (.eq (qu H) (.c 1)) (.is (qu H) 1) (.ne (qu H) 1) (by kernel_rfl) (by kernel_rfl) h
  (fun h => r201_11 val h ht)
  (fun h => by_way (.eq (qu H) (.c 2)) (.is (qu H) 2) (.ne (qu H) 2) (by kernel_rfl) (by kernel_rfl) h
  (fun h => r201_12 val h ht)
  (fun h => r201_13 val h ht))))
  (fun h => by_way (.eq (qu H) (.c 1)) (.is (qu H) 1) (.ne (qu H) 1) (by kernel_rfl) (by kernel_rfl) h
  (fun h => r201_14 val h ht)
  (fun h => by_way (.eq (qu H) (.c 2)) (.is (qu H) 2) (.ne (qu H) 2) (by kernel_rfl) (by kernel_rfl) h
  (fun h => r201_15 val h ht)
  (fun h => by_way (.eq (qu H) (.c 0)) (.is (qu H) 0) (.ne (qu H) 0) (by kernel_rfl) (by kernel_rfl) h
  (fun h => r201_16 val h ht)
  (fun h => r201_17 val h ht)))))
  (fun h => by_way (.eq (qu T) (.c 1)) (.is (qu T) 1) (.ne (qu T) 1) (by kernel_rfl) (by kernel_rfl) h
  (fun h => by_way (.eq (lo T) (.c 5)) (.is (lo T) 5) (.ne (lo T) 5) (by kernel_rfl) (by kernel_rfl) h
  (fun h => by_way (.eq (qu H) (.c 0)) (.is (qu H) 0) (.ne (qu H) 0) (by kernel_rfl) (by kernel_rfl) h
  (fun h => r201_18 val h ht)
  (fun h => by_way (.eq (qu H) (.c 1)) (.is (qu H) 1) (.ne (qu H) 1) (by kernel_rfl) (by kernel_rfl) h
  (fun h => r201_19 val h ht)
  (fun h => by_way (.eq (qu H) (.c 2)) (.is (qu H) 2) (.ne (qu H) 2) (by kernel_rfl) (by kernel_rfl) h
  (fun h => r201_20 val h ht)
  (fun h => r201_21 val h ht))))
  (fun h => by_way (.eq (qu H) (.c 1)) (.is (qu H) 1) (.ne (qu H) 1) (by kernel_rfl) (by kernel_rfl) h
  (fun h => r201_22 val h ht)
  (fun h => by_way (.eq (qu H) (.c 2)) (.is (qu H) 2) (.ne (qu H) 2) (by kernel_rfl) (by kernel_rfl) h
  (fun h => r201_23 val h ht)
  (fun h => by_way (.eq (qu H) (.c 0)) (.is (qu H) 0) (.ne (qu H) 0) (by kernel_rfl) (by kernel_rfl) h
  (fun h => r201_24 val h ht)
  (fun h => r201_25 val h ht)))))
  (fun h => by_way (.eq (qu T) (.c 2)) (.is (qu T) 2) (.ne (qu T) 2) (by kernel_rfl) (by kernel_rfl) h
  (fun h => by_way (.eq (lo T) (.c 5)) (.is (lo T) 5) (.ne (lo T) 5) (by kernel_rfl) (by kernel_rfl) h
  (fun h => by_way (.eq (qu H) (.c 0)) (.is (qu H) 0) (.ne (qu H) 0) (by kernel_rfl) (by kernel_rfl) h
  (fun h => r201_26 val h ht)
  (fun h => by_way (.eq (qu H) (.c 1)) (.is (qu H) 1) (.ne (qu H) 1) (by kernel_rfl) (by kernel_rfl) h
  (fun h => r201_27 val h ht)
  (fun h => by_way (.eq (qu H) (.c 2)) (.is (qu H) 2) (.ne (qu H) 2) (by kernel_rfl) (by kernel_rfl) h
  (fun h => r201_28 val h ht)
  (fun h => r201_29 val h ht))))
  (fun h => by_way (.eq (qu H) (.c 1)) (.is (qu H) 1) (.ne (qu H) 1) (by kernel_rfl) (by kernel_rfl) h
  (fun h => r201_30 val h ht)
  (fun h => by_way (.eq (qu H) (.c 2)) (.is (qu H) 2) (.ne (qu H) 2) (by kernel_rfl) (by kernel_rfl) h
  (fun h => r201_31 val h ht)
  (fun h => by_way (.eq (qu H) (.c 0)) (.is (qu H) 0) (.ne (qu H) 0) (by kernel_rfl) (by kernel_rfl) h
  (fun h => r201_32 val h ht)
  (fun h => r201_33 val h ht)))))
  (fun h => by_way (.eq (lo T) (.c 5)) (.is (lo T) 5) (.ne (lo T) 5) (by kernel_rfl) (by kernel_rfl) h
  (fun h => by_way (.eq (qu H) (.c 0)) (.is (qu H) 0) (.ne (qu H) 0) (by kernel_rfl) (by kernel_rfl) h
  (fun h => r201_34 val h ht)
  (fun h => by_way (.eq (qu H) (.c 1)) (.is (qu H) 1) (.ne (qu H) 1) (by kernel_rfl) (by kernel_rfl) h
  (fun h => r201_35 val h ht)
  (fun h => by_way (.eq (qu H) (.c 2)) (.is (qu H) 2) (.ne (qu H) 2) (by kernel_rfl) (by kernel_rfl) h
  (fun h => r201_36 val h ht)
  (fun h => r201_37 val h ht))))
  (fun h => by_way (.eq (qu H) (.c 1)) (.is (qu H) 1) (.ne (qu H) 1) (by kernel_rfl) (by kernel_rfl) h
  (fun h => r201_38 val h ht)
  (fun h => by_way (.eq (qu H) (.c 2)) (.is (qu H) 2) (.ne (qu H) 2) (by kernel_rfl) (by kernel_rfl) h
  (fun h => r201_39 val h ht)
  (fun h => by_way (.eq (qu H) (.c 0)) (.is (qu H) 0) (.ne (qu H) 0) (by kernel_rfl) (by kernel_rfl) h
  (fun h => r201_40 val h ht)
  (fun h => r201_41 val h ht)))))))))
  (fun h => by_way (.eq (qu H) (.c 0)) (.is (qu H) 0) (.ne (qu H) 0) (by kernel_rfl) (by kernel_rfl) h
  (fun h => by_way (.eq (lo H) (.c 5)) (.is (lo H) 5) (.ne (lo H) 5) (by kernel_rfl) (by kernel_rfl) h
  (fun h => r201_42 val h ht)
  (fun h => r201_43 val h ht))
  (fun h => by_way (.eq (qu H) (.c 1)) (.is (qu H) 1) (.ne (qu H) 1) (by kernel_rfl) (by kernel_rfl) h
  (fun h => r201_44 val h ht)
  (fun h => by_way (.eq (qu H) (.c 2)) (.is (qu H) 2) (.ne (qu H) 2) (by kernel_rfl) (by kernel_rfl) h
  (fun h => r201_45 val h ht)
  (fun h => r201_46 val h ht)))))

theorem r101_0 (val : Nat → Int) (h : Holds val (.is (qu H) 3 :: pre 1 0 1)) (ht : Tabs 1 val) : Q val := leafR (by omega) h ht [(mi H), (w (.add (.c 8) (lo H))), (.c 0), (.c 0), (.c 0), (.c 0), (.c 0), (.c 0), (.c 0), e1, (.c 0)] (by kernel_rfl) (by kernel_rfl) (fun v hG => by kernel_rfl)
theorem r101_1 (val : Nat → Int) (h : Holds val (.is (lo H) 4 :: .ne (qu H) 3 :: pre 1 0 1)) (ht : Tabs 1 val) : Q val := leafR (by omega) h ht [(.c 0), (.c 0), (.c 0), (.c 0), (.c 0), (.c 0), (.c 0), (.c 0), (.c 0), (.c 0), (.c 9)] (by kernel_rfl) (by kernel_rfl) (fun v hG => by kernel_rfl)
theorem r101_2 (val : Nat → Int) (h : Holds val (.is (lo H) 5 :: .is (qu H) 0 :: .ne (lo H) 4 :: .ne (qu H) 3 :: pre 1 0 1)) (ht : Tabs 1 val) : Q val := leafR (by omega) h ht [(.c 0), (.c 0), (.c 0), (.c 0), (.c 0), (.c 0), (.c 0), (.c 0), (.c 0), (.c 0), (.c 4)] (by kernel_rfl) (by kernel_rfl) (fun v hG => by kernel_rfl)
theorem r101_3 (val : Nat → Int) (h : Holds val (.ne (lo H) 5 :: .is (qu H) 0 :: .ne (lo H) 4 :: .ne (qu H) 3 :: pre 1 0 1)) (ht : Tabs 1 val) : Q val := leafR (by omega) h ht [(mi H), (.c (-1)), (.c 5), (w (.add (.c 8) (lo H))), (.c 0), (.c 0), (.c 0), (.c 0), (.c 0), e1, (.c 0)] (by kernel_rfl) (by kernel_rfl) (fun v hG => by kernel_rfl)
theorem r101_4 (val : Nat → Int) (h : Holds val (.is (qu H) 1 :: .ne (qu H) 0 :: .ne (lo H) 4 :: .ne (qu H) 3 :: pre 1 0 1)) (ht : Tabs 1 val) : Q val := leafR (by omega) h ht [(.c 0), (.c 0), (.c 0), (.c 0), (.c 0), (.c 0), (.c 0), (.c 0), (.c 0), (.c 0), (.c 9)] (by kernel_rfl) (by kernel_rfl) (fun v hG => by kernel_rfl)
theorem r101_5 (val : Nat → Int) (h : Holds val (.is (qu H) 2 :: .ne (qu H) 1 :: .ne (qu H) 0 :: .ne (lo H) 4 :: .ne (qu H) 3 :: pre 1 0 1)) (ht : Tabs 1 val) : Q val := leafR (by omega) h ht [(.c 0), (.c 0), (.c 0), (.c 0), (.c 0), (.c 0), (.c 0), (.c 0), (.c 0), (.c 0), (.c 9)] (by kernel_rfl) (by kernel_rfl) (fun v hG => by kernel_rfl)
theorem r101_6 (val : Nat → Int) (h : Holds val (.ne (qu H) 2 :: .ne (qu H) 1 :: .ne (qu H) 0 :: .ne (lo H) 4 :: .ne (qu H) 3 :: pre 1 0 1)) (ht : Tabs 1 val) : Q val := leafR (by omega) h ht [(mi H), (.c (-1)), (.c 5), (w (.add (.c 8) (lo H))), (.c 0), (.c 0), (.c 0), (.c 0), (.c 0), e1, (.c 0)] (by kernel_rfl) (by kernel_rfl) (fun v hG => by kernel_rfl)

theorem r101 : DR 1 0 1 := fun val h ht =>
  by_way (.eq (qu H) (.c 3)) (.is (qu H) 3) (.ne (qu H) 3) (by kernel_rfl) (by kernel_rfl) h
  (fun h => r101_0 val h ht)
  (fun h => by_way (.eq (lo H) (.c 4)) (.is (lo H) 4) (.ne (lo H) 4) (by kernel_rfl) (by kernel_rfl) h
  (fun h => r101_1 val h ht)
  (fun h => by_way (.eq (qu H) (.c 0)) (.is (qu H) 0) (.ne (qu H) 0) (by kernel_rfl) (by kernel_rfl) h
  (fun h => by_way (.eq (lo H) (.c 5)) (.is (lo H) 5) (.ne (lo H) 5) (by kernel_rfl) (by kernel_rfl) h
  (fun h => r101_2 val h ht)
  (fun h => r101_3 val h ht))
  (fun h => by_way (.eq (qu H) (.c 1)) (.is (qu H) 1) (.ne (qu H) 1) (by kernel_rfl) (by kernel_rfl) h
  (fun h => r101_4 val h ht)
  (fun h => by_way (.eq (qu H) (.c 2)) (.is (qu H) 2) (.ne (qu H) 2) (by kernel_rfl) (by kernel_rfl) h
  (fun h => r101_5 val h ht)
  (fun h => r101_6 val h ht)))))

end Go.Proofs.Ytbenfglhomiocaa.Rd
