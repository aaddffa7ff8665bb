/-
  The law by lengths and kinds.
-/
import Derived.Test.YtlggmhchgicjkaaLawD0
import Derived.Test.YtlggmhchgicjkaaLawD1
import Derived.Test.YtlggmhchgicjkaaLawD2
namespace Go.Proofs.Ytlggmhchgicjkaa.Tab
open Go.Sim
set_option maxRecDepth 100000

theorem law_some (n : Nat) (h4 : 0 < n ∧ n ≤ 4) (m : Nat) (hm : m < 2 ^ n) (t : Bool) (val : Nat → Int) (h : Holds val (lawFt n m t)) : LwCl Try.prog (outsN n) 3 [fA, instB 2 n] (lawTt n m t) val := by
  match n, h4, m, hm, t with
  | 1, _, 0, _, true => exact lawt1_0 val h
  | 1, _, 0, _, false => exact lawf1_0 val h
  | 1, _, 1, _, true => exact lawt1_1 val h
  | 1, _, 1, _, false => exact lawf1_1 val h
  | 2, _, 0, _, true => exact lawt2_0 val h
  | 2, _, 0, _, false => exact lawf2_0 val h
  | 2, _, 1, _, true => exact lawt2_1 val h
  | 2, _, 1, _, false => exact lawf2_1 val h
  | 2, _, 2, _, true => exact lawt2_2 val h
  | 2, _, 2, _, false => exact lawf2_2 val h
  | 2, _, 3, _, true => exact lawt2_3 val h
  | 2, _, 3, _, false => exact lawf2_3 val h
  | 3, _, 0, _, true => exact lawt3_0 val h
  | 3, _, 0, _, false => exact lawf3_0 val h
  | 3, _, 1, _, true => exact lawt3_1 val h
  | 3, _, 1, _, false => exact lawf3_1 val h
  | 3, _, 2, _, true => exact lawt3_2 val h
  | 3, _, 2, _, false => exact lawf3_2 val h
  | 3, _, 3, _, true => exact lawt3_3 val h
  | 3, _, 3, _, false => exact lawf3_3 val h
  | 3, _, 4, _, true => exact lawt3_4 val h
  | 3, _, 4, _, false => exact lawf3_4 val h
  | 3, _, 5, _, true => exact lawt3_5 val h
  | 3, _, 5, _, false => exact lawf3_5 val h
  | 3, _, 6, _, true => exact lawt3_6 val h
  | 3, _, 6, _, false => exact lawf3_6 val h
  | 3, _, 7, _, true => exact lawt3_7 val h
  | 3, _, 7, _, false => exact lawf3_7 val h
  | 4, _, 0, _, true => exact lawt4_0 val h
  | 4, _, 0, _, false => exact lawf4_0 val h
  | 4, _, 1, _, true => exact lawt4_1 val h
  | 4, _, 1, _, false => exact lawf4_1 val h
  | 4, _, 2, _, true => exact lawt4_2 val h
  | 4, _, 2, _, false => exact lawf4_2 val h
  | 4, _, 3, _, true => exact lawt4_3 val h
  | 4, _, 3, _, false => exact lawf4_3 val h
  | 4, _, 4, _, true => exact lawt4_4 val h
  | 4, _, 4, _, false => exact lawf4_4 val h
  | 4, _, 5, _, true => exact lawt4_5 val h
  | 4, _, 5, _, false => exact lawf4_5 val h
  | 4, _, 6, _, true => exact lawt4_6 val h
  | 4, _, 6, _, false => exact lawf4_6 val h
  | 4, _, 7, _, true => exact lawt4_7 val h
  | 4, _, 7, _, false => exact lawf4_7 val h
  | 4, _, 8, _, true => exact lawt4_8 val h
  | 4, _, 8, _, false => exact lawf4_8 val h
  | 4, _, 9, _, true => exact lawt4_9 val h
  | 4, _, 9, _, false => exact lawf4_9 val h
  | 4, _, 10, _, true => exact lawt4_10 val h
  | 4, _, 10, _, false => exact lawf4_10 val h
  | 4, _, 11, _, true => exact lawt4_11 val h
  | 4, _, 11, _, false => exact lawf4_11 val h
  | 4, _, 12, _, true => exact lawt4_12 val h
  | 4, _, 12, _, false => exact lawf4_12 val h
  | 4, _, 13, _, true => exact lawt4_13 val h
  | 4, _, 13, _, false => exact lawf4_13 val h
  | 4, _, 14, _, true => exact lawt4_14 val h
  | 4, _, 14, _, false => exact lawf4_14 val h
  | 4, _, 15, _, true => exact lawt4_15 val h
  | 4, _, 15, _, false => exact lawf4_15 val h
  | 0, h, _, _, _ => omega
  | 1, _, m + 2, h, _ => omega
  | 2, _, m + 4, h, _ => omega
  | 3, _, m + 8, h, _ => omega
  | 4, _, m + 16, h, _ => omega
  | n + 5, h, _, _, _ => omega

theorem law_err (n : Nat) (h9 : 0 < n ∧ n ≤ 9) (val : Nat → Int) (h : Holds val (lawFe n)) : LwCl Try.prog (outsN n) 3 [fA, instB 2 n] (lawTe n) val := by
  match n, h9 with
  | 1, _ => exact lawe1 val h
  | 2, _ => exact lawe2 val h
  | 3, _ => exact lawe3 val h
  | 4, _ => exact lawe4 val h
  | 5, _ => exact lawe5 val h
  | 6, _ => exact lawe6 val h
  | 7, _ => exact lawe7 val h
  | 8, _ => exact lawe8 val h
  | 9, _ => exact lawe9 val h
  | 0, h => omega
  | n + 10, h => omega

end Go.Proofs.Ytlggmhchgicjkaa.Tab
