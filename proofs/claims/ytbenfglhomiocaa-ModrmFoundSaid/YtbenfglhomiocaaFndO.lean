/-
  The law 'ModrmFound': what the bytes say is one of the ways.
-/
import Derived.Test.YtbenfglhomiocaaFndW
import Derived.Test.YtbenfglhomiocaaFndG

namespace Go.Proofs.Ytbenfglhomiocaa.Fnd
open Go.Sim Go.Proofs.Ytbenfglhomiocaa.Fld Go.Proofs.Ytbenfglhomiocaa.Tab
set_option maxRecDepth 100000

/-- Which kind of number: 4, 5, or another. -/
def Kind (r : Nat) (n : Int) : Prop := (r = 0 ∧ n ≠ 4 ∧ n ≠ 5) ∨ (r = 1 ∧ n = 4) ∨ (r = 2 ∧ n = 5)

def rk (n : Int) : Nat := if n = 4 then 1 else if n = 5 then 2 else 0

theorem rk_kind (n : Int) : Kind (rk n) n := by
  unfold Kind rk
  by_cases h4 : n = 4
  · rw [if_pos h4]; exact .inr (.inl ⟨rfl, h4⟩)
  · rw [if_neg h4]
    by_cases h5 : n = 5
    · rw [if_pos h5]; exact .inr (.inr ⟨rfl, h5⟩)
    · rw [if_neg h5]; exact .inl ⟨rfl, h4, h5⟩

theorem rk_le (n : Int) : rk n ≤ 2 := by
  unfold rk
  by_cases h4 : n = 4
  · rw [if_pos h4]; omega
  · rw [if_neg h4]
    by_cases h5 : n = 5
    · rw [if_pos h5]; omega
    · rw [if_neg h5]; omega

/-- Is the displacement whole? -/
def wholeZ (c : Cfg) (zs : List Int) : Bool := decide (c.at + c.dsp ≤ zs.length)

/-- Does one of four bytes fit in one? -/
def fitZ (c : Cfg) (zs : List Int) : Bool := decide (-128 ≤ gv zs c.at 4 true ∧ gv zs c.at 4 true ≤ 127)

theorem ofMk {x bb md rm ss ix bs : Nat} {two e f : Bool} {zs : List Int} (c : Cfg) (hc : c = ⟨x, bb, md, rm, ss, ix, bs, two, true, false⟩) (he : wholeZ c zs = e) (hf : fitZ c zs = f) (x1 : x ≤ 1) (b1 : bb ≤ 1) (len : 1 ≤ zs.length) (hm : zs.getD 0 0 / 64 = (md : Int))
    (hrm : (rm = 8 ∧ (md = 3 ∨ (zs.getD 0 0 % 8 ≠ 4 ∧ zs.getD 0 0 % 8 ≠ 5))) ∨ (rm ≠ 8 ∧ zs.getD 0 0 % 8 = (rm : Int)))
    (hn : c.sib = true → two = decide (2 ≤ zs.length)) (hss : c.sib = true → zs.getD 1 0 / 64 = (ss : Int))
    (hix : (c.sib = true ∧ ix = 8 ∧ zs.getD 1 0 / 8 % 8 ≠ 4 ∧ (ss = 0 → zs.getD 1 0 / 8 % 8 ≠ 5)) ∨ (ix ≠ 8 ∧ (c.sib = true → zs.getD 1 0 / 8 % 8 = (ix : Int))))
    (hbs : (c.sib = true ∧ bs = 8 ∧ zs.getD 1 0 % 8 ≠ 4 ∧ zs.getD 1 0 % 8 ≠ 5) ∨ (bs ≠ 8 ∧ (c.sib = true → zs.getD 1 0 % 8 = (bs : Int))))
    (hk : c.sib = true → two = false → Nat.beq md 0 = true → c.dsp = 0) (h0 : c.dsp = 0 → (c.sib = true → two = true) → c.at ≤ zs.length) :
    let en := cond (c.sib && !two) (Nat.beq md 0) (Nat.beq c.dsp 0 || e)
    let d : Cfg := ⟨x, bb, md, rm, ss, ix, bs, two, en, en && Nat.beq c.dsp 4 && f⟩
    Of d zs ∧ d.ends ≤ zs.length := by
  intro en d
  have q1 : d.sib = c.sib := by rw [hc]; rfl
  have q2 : d.dsp = c.dsp := by rw [hc]; rfl
  have q3 : d.at = c.at := by unfold Cfg.at; rw [q1]
  have hen : (d.sib = true → d.two = true) → d.en = decide (d.at + d.dsp ≤ zs.length) := fun h => by
    rw [q2, q3]
    show en = _
    have : (c.sib && !two) = false := by
      cases hs : c.sib
      · rfl
      · rw [show two = true from h (q1.trans hs)]; rfl
    show cond (c.sib && !two) _ _ = _
    rw [this]
    show (Nat.beq c.dsp 0 || e) = _
    cases hd : Nat.beq c.dsp 0
    · rw [← he]; rfl
    · have hd := Nat.eq_of_beq_eq_true hd
      have := h0 hd fun hs => h (q1.trans hs)
      rw [hd]
      exact (decide_eq_true (by omega)).symm
  have hcut : d.sib = true → d.two = false → d.en = true → d.dsp = 0 := fun hs ht hen => by
    rw [q2]
    refine hk (q1.symm.trans hs) ht ?_
    have : (c.sib && !two) = true := by rw [q1.symm.trans hs, show two = false from ht]; rfl
    have hen : cond (c.sib && !two) (Nat.beq md 0) (Nat.beq c.dsp 0 || e) = true := hen
    rw [this] at hen
    exact hen
  refine ⟨⟨x1, b1, len, hm, hrm, fun h => hn (q1.symm.trans h), fun h => hss (q1.symm.trans h), q1 ▸ hix, q1 ▸ hbs, hen, hcut, fun h => ?_, fun h h4 hh => ?_⟩, ?_⟩
  · have h : (en && Nat.beq c.dsp 4 && f) = true := h
    have := (Bool.and_eq_true _ _).mp h
    rw [q3]
    exact of_decide_eq_true (hf.trans this.2)
  · show (en && Nat.beq c.dsp 4 && f) = true
    rw [q3] at hh
    rw [q2] at h4
    rw [show en = true from h, h4, ← hf]
    exact decide_eq_true hh
  · unfold Cfg.ends
    cases hs : d.sib
    · have := hen fun h => by rw [hs] at h; cases h
      cases hh : d.en
      · exact len
      · rw [hh] at this
        have := of_decide_eq_true this.symm
        unfold Cfg.at at this
        rw [hs] at this
        simpa using this
    · cases ht : d.two
      · cases hh : d.en
        · exact len
        · rw [hcut hs ht hh]
          exact len
      · have h2 : 2 ≤ zs.length := of_decide_eq_true ((hn (q1.symm.trans hs)).symm.trans ht)
        have := hen fun _ => ht
        cases hh : d.en
        · exact h2
        · rw [hh] at this
          have := of_decide_eq_true this.symm
          unfold Cfg.at at this
          rw [hs] at this
          show 1 + (1 + d.dsp) ≤ _
          have this : 2 + d.dsp ≤ zs.length := this
          omega

theorem kindK {r : Nat} {n : Int} (h : Kind r n) : (r = 0 ∧ n ≠ 4 ∧ n ≠ 5) ∨ (r = 1 ∧ n = 4) ∨ (r = 2 ∧ n = 5) := h

/-- The way of the bytes. -/
def cfgB (x bb : Nat) (zs : List Int) (e f : Bool) : Cfg :=
  cfgOf x bb (zs.getD 0 0 / 64).toNat (rk (zs.getD 0 0 % 8)) (zs.getD 1 0 / 64).toNat (rk (zs.getD 1 0 / 8 % 8)) (rk (zs.getD 1 0 % 8)) (decide (2 ≤ zs.length)) e f

/-- The bytes are of the kind that the way says. -/
theorem ofCfg {x bb md r ss i b : Nat} {zs : List Int} (x1 : x ≤ 1) (b1 : bb ≤ 1) (len : 1 ≤ zs.length) (hm : zs.getD 0 0 / 64 = (md : Int)) (hm3 : md ≤ 3) (hr : Kind r (zs.getD 0 0 % 8)) (hss : zs.getD 1 0 / 64 = (ss : Int))
    (hi : Kind i (zs.getD 1 0 / 8 % 8)) (hbs : Kind b (zs.getD 1 0 % 8)) (l2 : Bool) (h2 : l2 = decide (2 ≤ zs.length)) (hl1 : l2 = false → zs.getD 1 0 = 0) :
    ∃ e f, Of (cfgOf x bb md r ss i b l2 e f) zs ∧ (cfgOf x bb md r ss i b l2 e f).ends ≤ zs.length := by
  refine ⟨wholeZ (cfgOf x bb md r ss i b l2 true true) zs, fitZ (cfgOf x bb md r ss i b l2 true true) zs, ?_⟩
  by_cases h3 : md = 3
  · subst h3
    exact ofMk ⟨x, bb, 3, 8, 0, 0, 0, false, true, false⟩ rfl rfl rfl x1 b1 len hm (.inl ⟨rfl, .inl rfl⟩) (fun h => by cases h) (fun h => by cases h) (.inr ⟨show (0 : Nat) ≠ 8 by decide, fun h => by cases h⟩) (.inr ⟨show (0 : Nat) ≠ 8 by decide, fun h => by cases h⟩) (fun h => by cases h) (fun _ _ => len)
  · have m' : md = 0 ∨ md = 1 ∨ md = 2 := by omega
    rcases hr with ⟨rfl, h4, h5⟩ | ⟨rfl, h4⟩ | ⟨rfl, h5⟩
    · rcases m' with rfl | rfl | rfl <;>
      exact ofMk ⟨x, bb, _, 8, 0, 0, 0, false, true, false⟩ rfl rfl rfl x1 b1 len hm (.inl ⟨rfl, .inr ⟨h4, h5⟩⟩) (fun h => by cases h) (fun h => by cases h) (.inr ⟨show (0 : Nat) ≠ 8 by decide, fun h => by cases h⟩) (.inr ⟨show (0 : Nat) ≠ 8 by decide, fun h => by cases h⟩) (fun h => by cases h) (fun _ _ => len)
    · cases l2
      · have t0 := hl1 rfl
        have r8 : zs.getD 1 0 / 64 = ((0 : Nat) : Int) := by rw [t0]; rfl
        have r9 : zs.getD 1 0 / 8 % 8 = ((0 : Nat) : Int) := by rw [t0]; rfl
        have r7 : zs.getD 1 0 % 8 = ((0 : Nat) : Int) := by rw [t0]; rfl
        rcases m' with rfl | rfl | rfl <;>
        exact ofMk ⟨x, bb, _, 4, 0, 0, 0, false, true, false⟩ rfl rfl rfl x1 b1 len hm (.inr ⟨show (4 : Nat) ≠ 8 by decide, h4⟩) (fun _ => h2) (fun _ => r8) (.inr ⟨show (0 : Nat) ≠ 8 by decide, fun _ => r9⟩) (.inr ⟨show (0 : Nat) ≠ 8 by decide, fun _ => r7⟩) (fun _ _ h => by first | rfl | cases h) (fun _ h => by cases h rfl)
      · have l2' : 2 ≤ zs.length := of_decide_eq_true h2.symm
        have hbs' : (true = true ∧ kn b = 8 ∧ zs.getD 1 0 % 8 ≠ 4 ∧ zs.getD 1 0 % 8 ≠ 5) ∨ (kn b ≠ 8 ∧ (true = true → zs.getD 1 0 % 8 = (kn b : Int))) := by
          rcases hbs with ⟨rfl, k4, k5⟩ | ⟨rfl, k4⟩ | ⟨rfl, k5⟩
          · exact .inl ⟨rfl, rfl, k4, k5⟩
          · exact .inr ⟨by decide, fun _ => k4⟩
          · exact .inr ⟨by decide, fun _ => k5⟩
        by_cases hs0 : ss = 0
        · subst hs0
          have hix' : (true = true ∧ kn i = 8 ∧ zs.getD 1 0 / 8 % 8 ≠ 4 ∧ (0 = 0 → zs.getD 1 0 / 8 % 8 ≠ 5)) ∨ (kn i ≠ 8 ∧ (true = true → zs.getD 1 0 / 8 % 8 = (kn i : Int))) := by
            rcases hi with ⟨rfl, k4, k5⟩ | ⟨rfl, k4⟩ | ⟨rfl, k5⟩
            · exact .inl ⟨rfl, rfl, k4, fun _ => k5⟩
            · exact .inr ⟨by decide, fun _ => k4⟩
            · exact .inr ⟨by decide, fun _ => k5⟩
          rcases hi with ⟨rfl, _, _⟩ | ⟨rfl, _⟩ | ⟨rfl, _⟩ <;> rcases m' with rfl | rfl | rfl <;>
          exact ofMk ⟨x, bb, _, 4, 0, _, kn b, true, true, false⟩ rfl rfl rfl x1 b1 len hm (.inr ⟨show (4 : Nat) ≠ 8 by decide, h4⟩) (fun _ => h2) (fun _ => hss) hix' hbs' (fun _ h => by cases h) (fun _ _ => l2')
        · obtain ⟨s, rfl⟩ : ∃ s, ss = s + 1 := ⟨ss - 1, by omega⟩
          rcases hi with ⟨rfl, k4, k5⟩ | ⟨rfl, k4⟩ | ⟨rfl, k5⟩
          · rcases m' with rfl | rfl | rfl <;>
            exact ofMk ⟨x, bb, _, 4, s + 1, 8, kn b, true, true, false⟩ rfl rfl rfl x1 b1 len hm (.inr ⟨show (4 : Nat) ≠ 8 by decide, h4⟩) (fun _ => h2) (fun _ => hss) (.inl ⟨rfl, rfl, k4, fun h => by cases h⟩) hbs' (fun _ h => by cases h) (fun _ _ => l2')
          · rcases m' with rfl | rfl | rfl <;>
            exact ofMk ⟨x, bb, _, 4, s + 1, 4, kn b, true, true, false⟩ rfl rfl rfl x1 b1 len hm (.inr ⟨show (4 : Nat) ≠ 8 by decide, h4⟩) (fun _ => h2) (fun _ => hss) (.inr ⟨show (4 : Nat) ≠ 8 by decide, fun _ => k4⟩) hbs' (fun _ h => by cases h) (fun _ _ => l2')
          · rcases m' with rfl | rfl | rfl <;>
            exact ofMk ⟨x, bb, _, 4, s + 1, 8, kn b, true, true, false⟩ rfl rfl rfl x1 b1 len hm (.inr ⟨show (4 : Nat) ≠ 8 by decide, h4⟩) (fun _ => h2) (fun _ => hss) (.inl ⟨rfl, rfl, by omega, fun h => by cases h⟩) hbs' (fun _ h => by cases h) (fun _ _ => l2')
    · rcases m' with rfl | rfl | rfl <;>
      exact ofMk ⟨x, bb, _, 5, 0, 0, 0, false, true, false⟩ rfl rfl rfl x1 b1 len hm (.inr ⟨show (5 : Nat) ≠ 8 by decide, h5⟩) (fun h => by cases h) (fun h => by cases h) (.inr ⟨show (0 : Nat) ≠ 8 by decide, fun h => by cases h⟩) (.inr ⟨show (0 : Nat) ≠ 8 by decide, fun h => by cases h⟩) (fun h => by cases h) (fun _ _ => len)

end Go.Proofs.Ytbenfglhomiocaa.Fnd
