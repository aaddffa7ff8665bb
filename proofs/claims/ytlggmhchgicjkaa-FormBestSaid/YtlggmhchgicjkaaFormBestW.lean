/-
  FormBest gives true for any form and any instruction: of more than nine shapes, slots or operands; of none of all of these; of others.
-/
import Derived.Test.YtlggmhchgicjkaaBestW
namespace Go.Proofs.Ytlggmhchgicjkaa.Tab
open Go.Sim
set_option maxRecDepth 100000

/-- What a function gives of a form without shapes and slots, and of an instruction without operands. -/
def XZ (f : FuncId) (val : Nat → Int) (sla : Nat → Option Addr × Nat) (op : Int) (v : Value) : Prop := ∀ (w : World) (x : Value), SliV w x [] → Calls Try.prog f #[@conc (nameS val sla) E0 fZ, insV op x] w fun e w' => e = .returned v ∧ RowKit.Below w.heap.size w w'

theorem form_checkZ (d : Fm) (hz : d.zs = []) (ht : d.ts = []) : ∃ (cf : Int) (rF : Nat → Int), ∀ val sla, Ag dnF (d.val rF) val → RetO Try.prog 7 [fZ] [] sla val (.int .i64 cf) := by
  obtain ⟨v, hv⟩ := ret_valid d.op
  obtain ⟨tk, htk⟩ := ret_taken d.code
  let r : Nat → Int := fun k => if k = 613 then tk else if k = 614 then v else 0
  obtain ⟨Y, _, _, hc⟩ := checkZ (d.val r) (fun f hf => by
    simp only [List.mem_cons, List.not_mem_nil, or_false] at hf
    rcases hf with rfl | rfl
    · show (d.zs.length : Int) = 0; rw [hz]; rfl
    · show (d.ts.length : Int) = 0; rw [ht]; rfl)
  refine ⟨Y.getD 0 0, r, fun val sla hag => ?_⟩
  have n20 : val 20 = d.op := hag 20 rfl
  have n23 : val 23 = d.code := hag 23 rfl
  exact hc val sla hag holds_nil (tbT (tCons (by
    rw [← bo_conc (hag 614 rfl : val 614 = v)]
    simp only [concs, conc, SX.eval]
    show Ret Try.prog 18 [.int .i64 (val 20)] _
    rw [n20]
    exact hv) (tCons (by
    rw [← bo_conc (hag 613 rfl : val 613 = tk)]
    simp only [concs, conc, SX.eval]
    show Ret Try.prog 64 [.int .i64 (val 23)] _
    rw [n23]
    exact htk) tNil))) (7, [fZ], [.i 0]) (by simp [L_checkZ])

theorem concZ {u v : Nat → Int} {sla sla' : Nat → Option Addr × Nat} {E E' : Env} (h : ∀ k, dn0 k = true → u k = v k) (s0 : sla 11 = sla' 11) (s1 : sla 13 = sla' 13) : @conc (nameS u sla) E fZ = @conc (nameS v sla') E' fZ := by
  simp only [conc, concs, SX.eval, SB.eval]
  show Value.agg #[.int .i64 (u 20), .slice (sla 11).1 (u 11).toNat (sla 11).2, .slice (sla 13).1 (u 13).toNat (sla 13).2, .int .i64 (u 21), .int .i64 (u 22), .int .i64 (u 23), .int .i64 (u 24), .int .i64 (u 25), .bool (u 26 == 1), .int .i64 (u 27)] =
    Value.agg #[.int .i64 (v 20), .slice (sla' 11).1 (v 11).toNat (sla' 11).2, .slice (sla' 13).1 (v 13).toNat (sla' 13).2, .int .i64 (v 21), .int .i64 (v 22), .int .i64 (v 23), .int .i64 (v 24), .int .i64 (v 25), .bool (v 26 == 1), .int .i64 (v 27)]
  rw [h 20 rfl, h 11 rfl, h 13 rfl, h 21 rfl, h 22 rfl, h 23 rfl, h 24 rfl, h 25 rfl, h 26 rfl, h 27 rfl, s0, s1]

theorem xzE {f : FuncId} {val : Nat → Int} {sla : Nat → Option Addr × Nat} {op : Int} {v : Value} (h : XZ f val sla op v) (E : Env) (w : World) (x : Value) (hx : SliV w x []) : Calls Try.prog f #[@conc (nameS val sla) E fZ, insV op x] w fun e w' => e = .returned v ∧ RowKit.Below w.heap.size w w' := by
  rw [concZ (v := val) (sla' := sla) (E' := E0) (fun _ _ => rfl) rfl rfl]
  exact h w x hx

theorem xeZ {op : Int} {val : Nat → Int} {sla : Nat → Option Addr × Nat} {p : Pt} {v : Value} {v0 : AV} (hv : v = @conc (nameS val sla) E0 v0) (h : XZ 6 val sla op v) (hp : ∀ w y, @PtOf (nameS val sla) w p y → ∃ x, y = insV op x ∧ SliV w x []) : XeQ Try.prog [] val sla ⟨6, fZ, p, v0⟩ := by
  subst hv
  intro E w y _ hy
  obtain ⟨x, rfl, hx⟩ := hp w y hy
  exact xzE h E w x hx

/-- Out of calls of names. -/
theorem riZZ {f : FuncId} {op : Int} {r : Nat → Int} {sla : Nat → Option Addr × Nat} {v : Value} (h38 : r 38 = 0) (h : ∀ sla', sla 11 = sla' 11 → sla 13 = sla' 13 → SlaOK sla' → RetO Try.prog f [fZ, instE] [] sla' (iv op [] r) v) : XZ f (iv op [] r) sla op v := by
  intro w x hx
  obtain ⟨ad, cap, rfl, hc⟩ := sli_zero hx
  have k := h (fun k => if k = 38 then (ad, cap) else sla k) rfl rfl hc E0 w (fun k o hk => by simp at hk)
  have e : @concs (nameS (iv op [] r) fun k => if k = 38 then (ad, cap) else sla k) E0 [fZ, instE] = [@conc (nameS (iv op [] r) sla) E0 fZ, insV op (.slice ad 0 cap)] := by
    have e1 : @conc (nameS (iv op [] r) fun k => if k = 38 then (ad, cap) else sla k) E0 fZ = @conc (nameS (iv op [] r) sla) E0 fZ := concZ (fun _ _ => rfl) rfl rfl
    have e2 : @conc (nameS (iv op [] r) fun k => if k = 38 then (ad, cap) else sla k) E0 instE = insV op (.slice ad 0 cap) := by
      simp only [conc, concs]
      show Value.agg #[.int .i64 op, .slice ad (r 38).toNat cap] = _
      rw [h38]
      rfl
    show [_, @conc (nameS (iv op [] r) fun k => if k = 38 then (ad, cap) else sla k) E0 instE] = _
    rw [e2]
    exact congrArg (fun q => [q, insV op (.slice ad 0 cap)]) e1
  rw [e] at k
  exact k

theorem xz_sla {f : FuncId} {u v : Nat → Int} {sla sla' : Nat → Option Addr × Nat} {op : Int} {b : Value} (hu : ∀ k, dn0 k = true → u k = v k) (s0 : sla 11 = sla' 11) (s1 : sla 13 = sla' 13) (h : XZ f u sla op b) : XZ f v sla' op b := by
  intro w x hx
  have := h w x hx
  rw [concZ (v := v) (sla' := sla') (E' := E0) hu s0 s1] at this
  exact this

theorem law_Z (d : Fm) (hz : d.zs = []) (ht : d.ts = []) (op : Int) (sla : Nat → Option Addr × Nat) : XZ 3 (d.val fun _ => 0) sla op (.bool true) := by
  obtain ⟨cf, rF, hC⟩ := form_checkZ d hz ht
  obtain ⟨v, mb, ms, hmb, h18, h21⟩ := name_all op
  obtain ⟨b, s, hB⟩ := bits_n 0 (by omega) (iv op [] (rr d rF (loF v mb ms 0 0 0 0) (gg d [] false 0))) hmb rfl
  obtain ⟨ci, _, _, hK⟩ := chk_n 0 (by omega) (iv op [] (rr d rF (loF v mb ms b s 0 cf) (gg d [] (s == 1) b))) rfl
  have hr : ∃ r, r = rr d rF (loF v mb ms b s ci cf) (gg d [] (s == 1) b) := ⟨_, rfl⟩
  obtain ⟨r, hr⟩ := hr
  have r5 : r 5 = b := by rw [hr]; rfl
  have r6 : r 6 = s := by rw [hr]; rfl
  have r7 : r 7 = ci := by rw [hr]; rfl
  have r28 : r 28 = cf := by rw [hr]; rfl
  have r38 : r 38 = 0 := by rw [hr]; rfl
  have r11 : r 11 = 0 := by rw [hr]; show (d.zs.length : Int) = 0; rw [hz]; rfl
  have r13 : r 13 = 0 := by rw [hr]; show (d.ts.length : Int) = 0; rw [ht]; rfl
  have h18' : Ret Try.prog 18 [.int .i64 op] (.bool (r 2 == 1)) := by rw [hr]; exact h18
  have h21' : Ret Try.prog 21 [.int .i64 op] (.tuple #[.int .i64 (r 3), .bool (r 4 == 1)]) := by rw [hr]; exact h21
  have rF' : ∀ k, dnF k = true → r k = d.val rF k := fun k hk => by rw [hr]; exact rr_fm hk
  have form : ∀ (sla' : Nat → Option Addr × Nat) (c : Nat), RetO Try.prog 7 [fZ] [] sla' (iv op [] (capR r c)) (.int .i64 (r 28)) ∧ RetO Try.prog 7 [fZ] [] sla' (iv op [] r) (.int .i64 (r 28)) := by
    intro sla' c
    rw [r28]
    have k1 : Ag dnF (d.val rF) (iv op [] r) := fun k hk => by
      obtain ⟨a1, a2, _⟩ := dnF_iv hk
      rw [iv_r a1 a2]
      exact rF' k hk
    exact ⟨hC _ sla' (ag_cap k1 rfl), hC _ sla' k1⟩
  have i9 : RI 9 op [] (.tuple #[.int .i64 (r 5), .bool (r 6 == 1)]) := by
    rw [r5, r6]
    exact hB op [] r rfl (by rw [hr]; exact agB rfl rfl rfl rfl) h18' h21' fun hn => by omega
  have i8 : RI 8 op [] (.int .i64 (r 7)) := by
    rw [r7]
    exact hK op [] r rfl (by rw [hr]; exact agK (fun _ _ => rfl) rfl rfl rfl rfl rfl rfl) h18' (fun k hk => by omega) (fun k hk => by omega) i9
  obtain ⟨t, hti, hF⟩ := fitR0z (iv op [] r) r11 r13 r38
  have hx : ∀ sla', XZ 6 (iv op [] r) sla' op (.bool (t == 1)) := fun sla' w x hx => hF op r sla' agR form i8 i9 E0 w x hx
  have main : XZ 3 (iv op [] r) sla op (.bool true) := by
    refine riZZ r38 fun sla' s0 s1 hs => ?_
    have h11' : Fact.holds (iv op [] r) (.is (.a 11) 0) := r11
    have h13' : Fact.holds (iv op [] r) (.is (.a 13) 0) := r13
    have h38' : Fact.holds (iv op [] r) (.is (.a 38) 0) := r38
    by_cases h0 : ci = 0
    · have h7' : Fact.holds (iv op [] r) (.is (.a 7) 0) := r7.trans h0
      by_cases t1 : t = 1
      · subst t1
        obtain ⟨q1, q2, q3, q4⟩ := hti rfl
        have hx := hx sla'
        exact lawt0z (iv op [] r) (fun f hf => by
          simp only [List.mem_cons, List.not_mem_nil, or_false] at hf
          rcases hf with rfl | rfl | rfl | rfl | rfl | rfl
          · exact q1
          · simp only [Fact.holds, SB.eval, SX.eval, beq_iff_eq]; exact q3
          · exact h7'
          · exact h11'
          · exact h13'
          · exact h38') sla' ⟨tCons formKnown tNil, gNil, oCons (form sla' 0).2 (a_conc rfl) oNil, mCons (me_of (fun w y hy => patE_of hs r38 hy) (by simp only [conc]; rfl) i8) (mCons (me_of (fun w y hy => patE_of hs r38 hy) (by simp only [conc, concs]; rfl) i9) mNil), kNil,
            xCons (xeZ (by simp only [conc]; rfl) hx (fun w y hy => patE_of hs r38 hy)) (xCons (xeZ (by simp only [conc]; rfl) hx (fun w y hy => patN_of hy)) xNil)⟩
      · have tf : (t == 1) = false := beq_eq_false_iff_ne.2 t1
        have hx := hx sla'
        rw [tf] at hx
        exact lawf0z (iv op [] r) (fun f hf => by
          simp only [List.mem_cons, List.not_mem_nil, or_false] at hf
          rcases hf with rfl | rfl | rfl | rfl
          · exact h7'
          · exact h11'
          · exact h13'
          · exact h38') sla' ⟨tCons formKnown tNil, gNil, oCons (form sla' 0).2 (a_conc rfl) oNil, mCons (me_of (fun w y hy => patE_of hs r38 hy) (by simp only [conc]; rfl) i8) (mCons (me_of (fun w y hy => patE_of hs r38 hy) (by simp only [conc, concs]; rfl) i9) mNil), kNil,
            xCons (xeZ (by simp only [conc]) hx (fun w y hy => patE_of hs r38 hy)) (xCons (xeZ (by simp only [conc]) hx (fun w y hy => patN_of hy)) xNil)⟩
    · have tf : (t == 1) = false := beq_eq_false_iff_ne.2 fun t1 => h0 (r7.symm.trans (hti t1).2.1)
      have hx := hx sla'
      rw [tf] at hx
      have h7' : Fact.holds (iv op [] r) (.ne (.a 7) 0) := fun h => h0 (r7.symm.trans h)
      exact lawe0z (iv op [] r) (fun f hf => by
        simp only [List.mem_cons, List.not_mem_nil, or_false] at hf
        rcases hf with rfl | rfl | rfl | rfl
        · exact h7'
        · exact h11'
        · exact h13'
        · exact h38') sla' ⟨tCons formKnown tNil, gNil, oCons (form sla' 0).2 (a_conc rfl) oNil, mCons (me_of (fun w y hy => patE_of hs r38 hy) (by simp only [conc]; rfl) i8) mNil, kNil,
          xCons (xeZ (by simp only [conc]) hx (fun w y hy => patE_of hs r38 hy)) xNil⟩
  refine xz_sla (fun k hk => ?_) rfl rfl main
  obtain ⟨a1, a2, _⟩ := dnF_iv (dn0_F hk)
  rw [iv_r a1 a2, rF' k (dn0_F hk)]
  exact (agFm d (r := rF) (r' := fun _ => 0) (dn := dn0) fun k hk h6 => by have := dnF_iv (dn0_F hk); have := dn0_lt hk; omega) k hk |>.symm

/-- More than nine. -/
theorem law_big (d : Fm) (op : Int) (n : Nat) (sla : Nat → Option Addr × Nat) (w : World) (h : 10 ≤ d.zs.length ∨ 10 ≤ d.ts.length ∨ 10 ≤ n) :
    Calls Try.prog 3 #[@conc (nameS (d.val fun _ => 0) sla) E0 fZ, insV op (.slice (sla 38).1 n (sla 38).2)] w fun e w' => e = .returned (.bool true) ∧ RowKit.Below w.heap.size w w' := by
  have hr : ∃ r : Nat → Int, r = fun k => if k = 38 then (n : Int) else d.val (fun _ => 0) k := ⟨_, rfl⟩
  obtain ⟨r, hr⟩ := hr
  have r38 : iv op [] r 38 = n := by rw [hr]; rfl
  have r11 : iv op [] r 11 = d.zs.length := by rw [hr]; rfl
  have r13 : iv op [] r 13 = d.ts.length := by rw [hr]; rfl
  have tb : TbOK Try.prog (iv op [] r) sla T_big1 := tbT (tCons formKnown tNil)
  have key : LawO Try.prog 3 [fZ, instE] [] sla (iv op [] r) := by
    by_cases h1 : 10 ≤ d.zs.length
    · exact big1 (iv op [] r) (fun f hf => by
        obtain rfl := List.mem_singleton.1 hf
        show (10 : Int) ≤ iv op [] r 11; rw [r11]; omega) sla tb
    · by_cases h2 : 10 ≤ d.ts.length
      · exact big2 (iv op [] r) (fun f hf => by
          simp only [List.mem_cons, List.not_mem_nil, or_false] at hf
          rcases hf with rfl | rfl | rfl
          · show (0 : Int) ≤ iv op [] r 11; rw [r11]; omega
          · show iv op [] r 11 ≤ 9; rw [r11]; omega
          · show (10 : Int) ≤ iv op [] r 13; rw [r13]; omega) sla tb
      · exact big3 (iv op [] r) (fun f hf => by
          simp only [List.mem_cons, List.not_mem_nil, or_false] at hf
          rcases hf with rfl | rfl | rfl | rfl | rfl
          · show (0 : Int) ≤ iv op [] r 11; rw [r11]; omega
          · show iv op [] r 11 ≤ 9; rw [r11]; omega
          · show (0 : Int) ≤ iv op [] r 13; rw [r13]; omega
          · show iv op [] r 13 ≤ 9; rw [r13]; omega
          · show (10 : Int) ≤ iv op [] r 38; rw [r38]; omega) sla tb
  have k := key E0 w (fun k o hk => by simp at hk)
  have e : @concs (nameS (iv op [] r) sla) E0 [fZ, instE] = [@conc (nameS (d.val fun _ => 0) sla) E0 fZ, insV op (.slice (sla 38).1 n (sla 38).2)] := by
    have e1 : @conc (nameS (iv op [] r) sla) E0 fZ = @conc (nameS (d.val fun _ => 0) sla) E0 fZ := concZ (fun k hk => by
      obtain ⟨a1, a2, _⟩ := dnF_iv (dn0_F hk)
      rw [iv_r a1 a2, hr]
      show (if k = 38 then (n : Int) else _) = _
      rw [if_neg (by rintro rfl; cases hk)]) rfl rfl
    have e2 : @conc (nameS (iv op [] r) sla) E0 instE = insV op (.slice (sla 38).1 n (sla 38).2) := by
      simp only [conc, concs]
      show Value.agg #[.int .i64 op, .slice (sla 38).1 (iv op [] r 38).toNat (sla 38).2] = _
      rw [r38]
      rfl
    show [_, @conc (nameS (iv op [] r) sla) E0 instE] = _
    rw [e2]
    exact congrArg (fun q => [q, insV op (.slice (sla 38).1 n (sla 38).2)]) e1
  rw [e] at k
  exact k

/-! From memory to numbers. -/

theorem rows_get {w : World} {m : Nat} {v : Value} (h : Sim.RowsIn w m v) : ∃ (ad : Option Addr) (n cap : Nat) (zs : List Int), v = .slice ad n cap ∧ zs.length = n * m ∧ n ≤ cap ∧ (n = 0 → ad = none → cap = 0) ∧
    (0 < n → ∃ b off, ad = some ⟨b, off, none⟩ ∧ b < w.heap.size ∧ ∀ (i : Nat) (k : Int), zs[i]? = some k → w.cell? ⟨b, off + i, none⟩ = some (.int .i64 k)) := by
  rcases h with rfl | ⟨a, cap, rfl⟩ | ⟨b, off, len, cap, zs, h0, rfl, h1, h2, h3, h4, _⟩
  · exact ⟨none, 0, 0, [], rfl, by simp, Nat.le_refl _, fun _ _ => rfl, fun h => by omega⟩
  · exact ⟨some a, 0, cap, [], rfl, by simp, Nat.zero_le _, (fun _ h => by cases h), fun h => by omega⟩
  · exact ⟨some ⟨b, off, none⟩, len, cap, zs, rfl, h2, h1, (fun h => by omega), fun _ => ⟨b, off, rfl, h3, h4⟩⟩

theorem walk0 (op pre map code dig wi le : Int) (vex : Bool) (S T : Value) (iop : Int) (x : Value) (w : World) (hS : Sim.RowsIn w 1 S) (hT : Sim.RowsIn w 1 T) (hx : Sim.RowsIn w 11 x) :
    Calls Try.prog 3 #[.agg #[.int .i64 op, S, T, .int .i64 pre, .int .i64 map, .int .i64 code, .int .i64 dig, .int .i64 wi, .bool vex, .int .i64 le], insV iop x] w fun e w' => e = .returned (.bool true) ∧ RowKit.Below w.heap.size w w' := by
  obtain ⟨aS, nS, cS, zs, rfl, lS, kS, eS, mS⟩ := rows_get hS
  obtain ⟨aT, nT, cT, ts, rfl, lT, kT, eT, mT⟩ := rows_get hT
  obtain ⟨ax, nx, cx, xs, rfl, lx, kx, ex, mx⟩ := rows_get hx
  rw [Nat.mul_one] at lS lT
  have hd : ∃ d : Fm, d = ⟨op, zs, ts, cS, cT, pre, map, code, dig, wi, cond vex 1 0, le⟩ := ⟨_, rfl⟩
  obtain ⟨d, hd⟩ := hd
  have hsla : ∃ sla : Nat → Option Addr × Nat, sla = fun k => if k = 0 ∨ k = 11 then (aS, cS) else if k = 1 ∨ k = 13 then (aT, cT) else (ax, cx) := ⟨_, rfl⟩
  obtain ⟨sla, hsla⟩ := hsla
  have dz : d.zs = zs := by rw [hd]
  have dt : d.ts = ts := by rw [hd]
  have evex : ((cond vex (1 : Int) 0) == 1) = vex := b01 vex
  have fz : @conc (nameS (d.val fun _ => 0) sla) E0 fZ = .agg #[.int .i64 op, .slice aS nS cS, .slice aT nT cT, .int .i64 pre, .int .i64 map, .int .i64 code, .int .i64 dig, .int .i64 wi, .bool vex, .int .i64 le] := by
    simp only [conc, concs, SX.eval, SB.eval]
    rw [hd, hsla]
    show Value.agg #[.int .i64 op, .slice aS (zs.length : Int).toNat cS, .slice aT (ts.length : Int).toNat cT, .int .i64 pre, .int .i64 map, .int .i64 code, .int .i64 dig, .int .i64 wi, .bool ((cond vex (1 : Int) 0) == 1), .int .i64 le] = _
    rw [evex, lS, lT]
    rfl
  by_cases hb : 10 ≤ nS ∨ 10 ≤ nT ∨ 10 ≤ nx
  · have k := law_big d iop nx sla w (by rw [dz, dt, lS, lT]; exact hb)
    rw [fz] at k
    have e38 : sla 38 = (ax, cx) := by rw [hsla]; rfl
    rw [e38] at k
    exact k
  · have hS9 : nS ≤ 9 := by omega
    have hT9 : nT ≤ 9 := by omega
    have hx9 : nx ≤ 9 := by omega
    have hsli : SliV w (.slice ax nx cx) xs := by
      by_cases h0 : nx = 0
      · subst h0
        obtain rfl : xs = [] := List.eq_nil_of_length_eq_zero (by omega)
        refine .inl ⟨rfl, ?_⟩
        cases ax with
        | none => rw [ex rfl rfl]; exact .inl rfl
        | some ad => exact .inr ⟨ad, cx, rfl⟩
      · obtain ⟨b, off, rfl, hb1, hb2⟩ := mx (by omega)
        refine .inr ⟨b, off, nx, cx, by omega, rfl, by rw [List.length_map]; exact lx, kx, hb1, fun i z hz => ?_⟩
        rw [List.getElem?_map] at hz
        cases he : xs[i]? with
        | none => rw [he] at hz; cases hz
        | some k =>
          rw [he] at hz
          cases hz
          exact hb2 i k he
    by_cases hz : nS = 0 ∧ nT = 0 ∧ nx = 0
    · obtain ⟨z1, z2, z3⟩ := hz
      have ez : zs = [] := List.eq_nil_of_length_eq_zero (by omega)
      have et : ts = [] := List.eq_nil_of_length_eq_zero (by omega)
      have exs : xs = [] := List.eq_nil_of_length_eq_zero (by omega)
      rw [exs] at hsli
      have k := law_Z d (by rw [dz, ez]) (by rw [dt, et]) iop sla w _ hsli
      rw [fz] at k
      exact k
    · -- some block
      have hblk : ∃ b0 : Nat, b0 < w.heap.size := by
        by_cases q1 : 0 < nS
        · obtain ⟨b, _, _, h, _⟩ := mS q1; exact ⟨b, h⟩
        · by_cases q2 : 0 < nT
          · obtain ⟨b, _, _, h, _⟩ := mT q2; exact ⟨b, h⟩
          · obtain ⟨b, _, _, h, _⟩ := mx (by omega); exact ⟨b, h⟩
      obtain ⟨b0, hb0⟩ := hblk
      have getB : ∀ (ad : Option Addr) (n : Nat) (l : List Int), (0 < n → ∃ b off, ad = some ⟨b, off, none⟩ ∧ b < w.heap.size ∧ ∀ (i : Nat) (k : Int), l[i]? = some k → w.cell? ⟨b, off + i, none⟩ = some (.int .i64 k)) →
          ∃ b off, b < w.heap.size ∧ (0 < n → ad = some ⟨b, off, none⟩ ∧ ∀ (i : Nat) (k : Int), l[i]? = some k → w.cell? ⟨b, off + i, none⟩ = some (.int .i64 k)) := by
        intro ad n l h
        by_cases q : 0 < n
        · obtain ⟨b, off, h1, h2, h3⟩ := h q
          exact ⟨b, off, h2, fun _ => ⟨h1, h3⟩⟩
        · exact ⟨b0, 0, hb0, fun q' => absurd q' q⟩
      obtain ⟨bS, oS, hbS, mS'⟩ := getB aS nS zs mS
      obtain ⟨bT, oT, hbT, mT'⟩ := getB aT nT ts mT
      have hE : ∃ E : Env, E = ⟨fun k => if k = 0 then bS else bT, fun k => if k = 0 then oS else oT⟩ := ⟨_, rfl⟩
      obtain ⟨E, hE⟩ := hE
      have E0' : E.ρ 0 = bS := by rw [hE]; rfl
      have E1' : E.ρ 1 = bT := by rw [hE]; rfl
      have K0' : E.κ 0 = oS := by rw [hE]; rfl
      have K1' : E.κ 1 = oT := by rw [hE]; rfl
      have hO : @OutOK (nameS (d.val fun _ => 0) sla) E w outsF := by
        intro k o hk
        match k with
        | 0 =>
          simp only [outsF, List.getElem?_cons_zero, Option.some.injEq] at hk
          subst hk
          refine ⟨by rw [E0']; exact hbS, fun hne => absurd rfl hne, fun ki k0 m he => ?_⟩
          cases he
          intro i hi
          have hi : (i : Int) < d.val (fun _ => 0) 11 := hi
          have e11 : d.val (fun _ => 0) 11 = (nS : Int) := by show (d.zs.length : Int) = _; rw [dz, lS]
          rw [e11] at hi
          have hi' : i < nS := by omega
          rw [E0', K0']
          obtain ⟨_, q⟩ := mS' (by omega)
          have hv : d.val (fun _ => 0) (400 + i) = zs.getD i 0 := by rw [fm_z d _ (by omega), dz]
          show w.cell? ⟨bS, oS + i, none⟩ = some (.int .i64 (d.val (fun _ => 0) (400 + i)))
          rw [hv]
          refine q i _ ?_
          rw [List.getD_eq_getElem?_getD, List.getElem?_eq_getElem (by omega)]
          rfl
        | 1 =>
          simp only [outsF, List.getElem?_cons_succ, List.getElem?_cons_zero, Option.some.injEq] at hk
          subst hk
          refine ⟨by rw [E1']; exact hbT, fun hne => absurd rfl hne, fun ki k0 m he => ?_⟩
          cases he
          intro i hi
          have hi : (i : Int) < d.val (fun _ => 0) 13 := hi
          have e13 : d.val (fun _ => 0) 13 = (nT : Int) := by show (d.ts.length : Int) = _; rw [dt, lT]
          rw [e13] at hi
          have hi' : i < nT := by omega
          rw [E1', K1']
          obtain ⟨_, q⟩ := mT' (by omega)
          have hv : d.val (fun _ => 0) (500 + i) = ts.getD i 0 := by rw [fm_t d _ (by omega), dt]
          show w.cell? ⟨bT, oT + i, none⟩ = some (.int .i64 (d.val (fun _ => 0) (500 + i)))
          rw [hv]
          refine q i _ ?_
          rw [List.getD_eq_getElem?_getD, List.getElem?_eq_getElem (by omega)]
          rfl
        | k + 2 => simp [outsF] at hk
      have fa : @conc (nameS (d.val fun _ => 0) sla) E fA = .agg #[.int .i64 op, .slice aS nS cS, .slice aT nT cT, .int .i64 pre, .int .i64 map, .int .i64 code, .int .i64 dig, .int .i64 wi, .bool vex, .int .i64 le] := by
        simp only [conc, concs, SX.eval, SB.eval, E0', E1', K0', K1']
        rw [hd, hsla]
        show Value.agg #[.int .i64 op, .slice (if (zs.length : Int) = 0 then aS else some ⟨bS, oS + (if (cS : Int) = 0 then 0 else (0 : Int).toNat), none⟩) (zs.length : Int).toNat (if (zs.length : Int) = 0 then cS else ((cS : Int) - 0).toNat), .slice (if (ts.length : Int) = 0 then aT else some ⟨bT, oT + (if (cT : Int) = 0 then 0 else (0 : Int).toNat), none⟩) (ts.length : Int).toNat (if (ts.length : Int) = 0 then cT else ((cT : Int) - 0).toNat), .int .i64 pre, .int .i64 map, .int .i64 code, .int .i64 dig, .int .i64 wi, .bool ((cond vex (1 : Int) 0) == 1), .int .i64 le] = _
        rw [evex, lS, lT]
        have one : ∀ (a : Option Addr) (n c b o : Nat), (0 < n → a = some ⟨b, o, none⟩) → Value.slice (if (n : Int) = 0 then a else some ⟨b, o + (if (c : Int) = 0 then 0 else (0 : Int).toNat), none⟩) (n : Int).toNat (if (n : Int) = 0 then c else ((c : Int) - 0).toNat) = .slice a n c := by
          intro a n c b o h
          have en : (n : Int).toNat = n := by omega
          have ec : ((c : Int) - 0).toNat = c := by omega
          have eo : o + (if (c : Int) = 0 then 0 else (0 : Int).toNat) = o := by split <;> rfl
          rw [en, ec, eo]
          by_cases q : n = 0
          · rw [if_pos (by omega), if_pos (by omega)]
          · rw [if_neg (by omega), if_neg (by omega), ← h (by omega)]
        rw [one aS nS cS bS oS fun h => (mS' h).1, one aT nT cT bT oT fun h => (mT' h).1]
      have k := law_R d (by rw [hd]; show (zs.length : Int) ≤ cS; omega) (by rw [hd]; show (ts.length : Int) ≤ cT; omega) (by rw [dz]; omega) (by rw [dt]; omega) nx hx9 iop xs (by omega) sla E w _ hO hsli
      rw [fa] at k
      exact k

end Go.Proofs.Ytlggmhchgicjkaa.Tab
