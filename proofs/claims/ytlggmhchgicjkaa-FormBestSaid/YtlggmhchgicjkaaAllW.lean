/-
  Bits, Check and Fits of any number of operands up to nine.
-/
import Derived.Test.YtlggmhchgicjkaaFitW
import Derived.Test.YtlggmhchgicjkaaArgW
namespace Go.Proofs.Ytlggmhchgicjkaa.Tab
open Go.Sim
set_option maxRecDepth 100000

theorem bits_n (n : Nat) (h9 : n ≤ 9) (u : Nat → Int) (h3 : 0 ≤ u 3) (h38 : u 38 = 0) : ∃ b s : Int, ∀ (op : Int) (zs : List Int) (r : Nat → Int), zs.length = 11 * n → Ag dnB u (iv op zs r) → Ret Try.prog 18 [.int .i64 op] (.bool (r 2 == 1)) →
    Ret Try.prog 21 [.int .i64 op] (.tuple #[.int .i64 (r 3), .bool (r 4 == 1)]) → (0 < n → Ret Try.prog 22 [argOf zs 0] (.int .i64 (r 52))) → RI 9 op zs (.tuple #[.int .i64 b, .bool (s == 1)]) := by
  match n, h9 with
  | 0, _ =>
    obtain ⟨b, s, h⟩ := bitsR0 u h3 h38
    refine ⟨b, s, fun op zs r hl hag h18 h21 _ => ?_⟩
    obtain rfl : zs = [] := List.eq_nil_of_length_eq_zero hl
    exact h op r hag h18 h21
  | 1, _ =>
    obtain ⟨b, s, h⟩ := bitsR1 u h3
    exact ⟨b, s, fun op zs r hl hag h18 h21 h22 => h op zs r hl hag h18 h21 (h22 (by omega))⟩
  | 2, _ =>
    obtain ⟨b, s, h⟩ := bitsR2 u h3
    exact ⟨b, s, fun op zs r hl hag h18 h21 h22 => h op zs r hl hag h18 h21 (h22 (by omega))⟩
  | 3, _ =>
    obtain ⟨b, s, h⟩ := bitsR3 u h3
    exact ⟨b, s, fun op zs r hl hag h18 h21 h22 => h op zs r hl hag h18 h21 (h22 (by omega))⟩
  | 4, _ =>
    obtain ⟨b, s, h⟩ := bitsR4 u h3
    exact ⟨b, s, fun op zs r hl hag h18 h21 h22 => h op zs r hl hag h18 h21 (h22 (by omega))⟩
  | 5, _ =>
    obtain ⟨b, s, h⟩ := bitsR5 u h3
    exact ⟨b, s, fun op zs r hl hag h18 h21 h22 => h op zs r hl hag h18 h21 (h22 (by omega))⟩
  | 6, _ =>
    obtain ⟨b, s, h⟩ := bitsR6 u h3
    exact ⟨b, s, fun op zs r hl hag h18 h21 h22 => h op zs r hl hag h18 h21 (h22 (by omega))⟩
  | 7, _ =>
    obtain ⟨b, s, h⟩ := bitsR7 u h3
    exact ⟨b, s, fun op zs r hl hag h18 h21 h22 => h op zs r hl hag h18 h21 (h22 (by omega))⟩
  | 8, _ =>
    obtain ⟨b, s, h⟩ := bitsR8 u h3
    exact ⟨b, s, fun op zs r hl hag h18 h21 h22 => h op zs r hl hag h18 h21 (h22 (by omega))⟩
  | 9, _ =>
    obtain ⟨b, s, h⟩ := bitsR9 u h3
    exact ⟨b, s, fun op zs r hl hag h18 h21 h22 => h op zs r hl hag h18 h21 (h22 (by omega))⟩
  | n + 10, h => omega

theorem chk_n (n : Nat) (h9 : n ≤ 9) (u : Nat → Int) (h38 : u 38 = 0) : ∃ c : Int, (n ≤ 4 → c = 0 → ∀ k, k < n → u (40 + 40 * k + 11) = 0 ∧ (u (40 + 40 * k) = 3 → u (40 + 40 * k + 31) = 0)) ∧ (4 < n → c ≠ 0) ∧ ∀ (op : Int) (zs : List Int) (r : Nat → Int), zs.length = 11 * n → Ag dnK u (iv op zs r) →
    Ret Try.prog 18 [.int .i64 op] (.bool (r 2 == 1)) → (∀ k, k < n → Ret Try.prog 20 [argOf zs k] (.int .i64 (r (40 + 40 * k + 11)))) →
    (∀ k, k < n → zs.getD (11 * k) 0 = 3 → Ret Try.prog 11 [.int .i64 (zs.getD (11 * k + 10) 0), .int .i64 (r 5), .bool (r 6 == 1)] (.tuple #[.int .i64 (r (40 + 40 * k + 32)), .int .i64 (r (40 + 40 * k + 31))])) →
    RI 9 op zs (.tuple #[.int .i64 (r 5), .bool (r 6 == 1)]) → RI 8 op zs (.int .i64 c) := by
  match n, h9 with
  | 0, _ =>
    obtain ⟨c, _, h⟩ := chkR0 u h38
    refine ⟨c, fun _ _ k hk => by omega, fun h => by omega, fun op zs r hl hag h18 _ _ h9 => ?_⟩
    obtain rfl : zs = [] := List.eq_nil_of_length_eq_zero hl
    exact h op r hag h18 h9
  | 1, _ =>
    obtain ⟨c, hp, h⟩ := chkR1 u
    refine ⟨c, fun _ hc => ?_, fun h => by omega, fun op zs r hl hag h18 ha hi h9 => h op zs r hl hag h18 (ha 0 (by omega)) (hi 0 (by omega)) h9⟩
    obtain p0 := hp hc
    intro k hk
    match k, hk with
    | 0, _ => exact p0
    | k + 1, h => omega
  | 2, _ =>
    obtain ⟨c, hp, h⟩ := chkR2 u
    refine ⟨c, fun _ hc => ?_, fun h => by omega, fun op zs r hl hag h18 ha hi h9 => h op zs r hl hag h18 (ha 0 (by omega)) (ha 1 (by omega)) (hi 0 (by omega)) (hi 1 (by omega)) h9⟩
    obtain ⟨p0, p1⟩ := hp hc
    intro k hk
    match k, hk with
    | 0, _ => exact p0
    | 1, _ => exact p1
    | k + 2, h => omega
  | 3, _ =>
    obtain ⟨c, hp, h⟩ := chkR3 u
    refine ⟨c, fun _ hc => ?_, fun h => by omega, fun op zs r hl hag h18 ha hi h9 => h op zs r hl hag h18 (ha 0 (by omega)) (ha 1 (by omega)) (ha 2 (by omega)) (hi 0 (by omega)) (hi 1 (by omega)) (hi 2 (by omega)) h9⟩
    obtain ⟨p0, p1, p2⟩ := hp hc
    intro k hk
    match k, hk with
    | 0, _ => exact p0
    | 1, _ => exact p1
    | 2, _ => exact p2
    | k + 3, h => omega
  | 4, _ =>
    obtain ⟨c, hp, h⟩ := chkR4 u
    refine ⟨c, fun _ hc => ?_, fun h => by omega, fun op zs r hl hag h18 ha hi h9 => h op zs r hl hag h18 (ha 0 (by omega)) (ha 1 (by omega)) (ha 2 (by omega)) (ha 3 (by omega)) (hi 0 (by omega)) (hi 1 (by omega)) (hi 2 (by omega)) (hi 3 (by omega)) h9⟩
    obtain ⟨p0, p1, p2, p3⟩ := hp hc
    intro k hk
    match k, hk with
    | 0, _ => exact p0
    | 1, _ => exact p1
    | 2, _ => exact p2
    | 3, _ => exact p3
    | k + 4, h => omega
  | 5, _ =>
    obtain ⟨c, hp, h⟩ := chkR5 u
    exact ⟨c, fun h => by omega, fun _ => hp, fun op zs r hl hag h18 _ _ h9 => h op zs r hl hag h18 h9⟩
  | 6, _ =>
    obtain ⟨c, hp, h⟩ := chkR6 u
    exact ⟨c, fun h => by omega, fun _ => hp, fun op zs r hl hag h18 _ _ h9 => h op zs r hl hag h18 h9⟩
  | 7, _ =>
    obtain ⟨c, hp, h⟩ := chkR7 u
    exact ⟨c, fun h => by omega, fun _ => hp, fun op zs r hl hag h18 _ _ h9 => h op zs r hl hag h18 h9⟩
  | 8, _ =>
    obtain ⟨c, hp, h⟩ := chkR8 u
    exact ⟨c, fun h => by omega, fun _ => hp, fun op zs r hl hag h18 _ _ h9 => h op zs r hl hag h18 h9⟩
  | 9, _ =>
    obtain ⟨c, hp, h⟩ := chkR9 u
    exact ⟨c, fun h => by omega, fun _ => hp, fun op zs r hl hag h18 _ _ h9 => h op zs r hl hag h18 h9⟩
  | n + 10, h => omega

theorem fit_n (n : Nat) (h9 : n ≤ 9) (u : Nat → Int) (hf : u 28 = 0 → u 11 = n → n ≤ 4 ∧ ∀ k, k < n → 1 ≤ u (400 + k) ∧ u (400 + k) ≤ 34) (h11 : 0 ≤ u 11 ∧ u 11 ≤ 100) (h13 : 0 ≤ u 13 ∧ u 13 ≤ 100) (h38 : u 38 = 0) :
    ∃ t : Int, (t = 1 → u 28 = 0 ∧ u 7 = 0 ∧ u 20 = u 0 ∧ u 11 = n) ∧ ∀ (op : Int) (zs : List Int) (r : Nat → Int) (sla : Nat → Option Addr × Nat), zs.length = 11 * n → Ag dnX u (iv op zs r) →
    (∀ (sla' : Nat → Option Addr × Nat) (c : Nat), RetO Try.prog 7 [fA] outsF sla' (iv op zs (capR r c)) (.int .i64 (r 28)) ∧ RetO Try.prog 7 [fA] outsF sla' (iv op zs r) (.int .i64 (r 28))) → RI 8 op zs (.int .i64 (r 7)) → RI 9 op zs (.tuple #[.int .i64 (r 5), .bool (r 6 == 1)]) →
    (∀ k, k < n → zs.getD (11 * k) 0 = 3 → Ret Try.prog 11 [.int .i64 (zs.getD (11 * k + 10) 0), .int .i64 (r 5), .bool (r 6 == 1)] (.tuple #[.int .i64 (r (40 + 40 * k + 32)), .int .i64 (r (40 + 40 * k + 31))])) →
    (∀ k, k < n → FitsK zs r k) → XF 6 (iv op zs r) sla op zs (.bool (t == 1)) := by
  match n, h9 with
  | 0, _ =>
    obtain ⟨t, h1, h⟩ := fitR0 u h11 h13 h38
    refine ⟨t, h1, fun op zs r sla hl hag hC h8 h9 _ _ => ?_⟩
    obtain rfl : zs = [] := List.eq_nil_of_length_eq_zero hl
    exact h op r sla hag hC h8 h9
  | 1, _ =>
    obtain ⟨t, h1, h⟩ := fitR1 u (fun k hk h2 h1 => (hf h2 h1).2 k hk) h11 h13
    exact ⟨t, h1, fun op zs r sla hl hag hC h8 h9 hi hk => h op zs r sla hl hag hC h8 h9 (hi 0 (by omega)) (hk 0 (by omega)) ⟩
  | 2, _ =>
    obtain ⟨t, h1, h⟩ := fitR2 u (fun k hk h2 h1 => (hf h2 h1).2 k hk) h11 h13
    exact ⟨t, h1, fun op zs r sla hl hag hC h8 h9 hi hk => h op zs r sla hl hag hC h8 h9 (hi 0 (by omega)) (hi 1 (by omega)) (hk 0 (by omega)) (hk 1 (by omega)) ⟩
  | 3, _ =>
    obtain ⟨t, h1, h⟩ := fitR3 u (fun k hk h2 h1 => (hf h2 h1).2 k hk) h11 h13
    exact ⟨t, h1, fun op zs r sla hl hag hC h8 h9 hi hk => h op zs r sla hl hag hC h8 h9 (hi 0 (by omega)) (hi 1 (by omega)) (hi 2 (by omega)) (hk 0 (by omega)) (hk 1 (by omega)) (hk 2 (by omega)) ⟩
  | 4, _ =>
    obtain ⟨t, h1, h⟩ := fitR4 u (fun k hk h2 h1 => (hf h2 h1).2 k hk) h11 h13
    exact ⟨t, h1, fun op zs r sla hl hag hC h8 h9 hi hk => h op zs r sla hl hag hC h8 h9 (hi 0 (by omega)) (hi 1 (by omega)) (hi 2 (by omega)) (hi 3 (by omega)) (hk 0 (by omega)) (hk 1 (by omega)) (hk 2 (by omega)) (hk 3 (by omega)) ⟩
  | 5, _ =>
    obtain ⟨t, h1, h⟩ := fitR5 u (fun h2 h1 => by have := (hf h2 h1).1; omega) h11 h13
    exact ⟨t, h1, fun op zs r sla hl hag hC h8 h9 _ _ => h op zs r sla hl hag hC h8 h9⟩
  | 6, _ =>
    obtain ⟨t, h1, h⟩ := fitR6 u (fun h2 h1 => by have := (hf h2 h1).1; omega) h11 h13
    exact ⟨t, h1, fun op zs r sla hl hag hC h8 h9 _ _ => h op zs r sla hl hag hC h8 h9⟩
  | 7, _ =>
    obtain ⟨t, h1, h⟩ := fitR7 u (fun h2 h1 => by have := (hf h2 h1).1; omega) h11 h13
    exact ⟨t, h1, fun op zs r sla hl hag hC h8 h9 _ _ => h op zs r sla hl hag hC h8 h9⟩
  | 8, _ =>
    obtain ⟨t, h1, h⟩ := fitR8 u (fun h2 h1 => by have := (hf h2 h1).1; omega) h11 h13
    exact ⟨t, h1, fun op zs r sla hl hag hC h8 h9 _ _ => h op zs r sla hl hag hC h8 h9⟩
  | 9, _ =>
    obtain ⟨t, h1, h⟩ := fitR9 u (fun h2 h1 => by have := (hf h2 h1).1; omega) h11 h13
    exact ⟨t, h1, fun op zs r sla hl hag hC h8 h9 _ _ => h op zs r sla hl hag hC h8 h9⟩
  | n + 10, h => omega

end Go.Proofs.Ytlggmhchgicjkaa.Tab
