/-
  The law 'ModrmBack': all kinds of reading.
-/
import Derived.Test.YtbenfglhomiocaaBakM
import Derived.Test.YtbenfglhomiocaaBrS

namespace Go.Proofs.Ytbenfglhomiocaa.Bak
open Go.Sim Go.Proofs.Ytbenfglhomiocaa.Fld Go.Proofs.Ytbenfglhomiocaa.Tab Go.Proofs.Ytbenfglhomiocaa.Br
set_option maxRecDepth 100000

theorem n3 {m : Nat} (h : m ≤ 2) : m = 0 ∨ m = 1 ∨ m = 2 := by omega

theorem n2 {m : Nat} (h : m ≤ 1) : m = 0 ∨ m = 1 := by omega

theorem selAll : SelAll := by
  intro r k hin hk h2 h3
  obtain ⟨t, md, x, b, ss, lb, li⟩ := r
  rcases hin with h | h | h | h | h | h | h
  · obtain ⟨e1, e2, e3, hb, e4, e5, e6⟩ := h
    simp only at e1 e2 e3 hb e4 e5 e6
    subst e1 e2 e3 e4 e5 e6
    exact pickR ga_0_3_0 (gm_0_3_0 ⟨b, by omega⟩ 0 false false ⟨k, by omega⟩) h2 h3
  · cases h
    exact pickR ga_1_0_0 (gm_1_0_0 ⟨k, by omega⟩) h2 h3
  · cases h
    exact pickR ga_2_0_0 (gm_2_0_0 ⟨k, by omega⟩) h2 h3
  · obtain ⟨e1, hm, e3, hb, e4, e5, e6⟩ := h
    simp only at e1 hm e3 hb e4 e5 e6
    subst e1 e3 e4 e5 e6
    rcases n3 hm with rfl | rfl | rfl
    · exact pickR ga_3_0_0 (gm_3_0_0 ⟨b, by omega⟩ 0 false false ⟨k, by omega⟩) h2 h3
    · exact pickR ga_3_1_0 (gm_3_1_0 ⟨b, by omega⟩ 0 false false ⟨k, by omega⟩) h2 h3
    · exact pickR ga_3_2_0 (gm_3_2_0 ⟨b, by omega⟩ 0 false false ⟨k, by omega⟩) h2 h3
  · obtain ⟨e1, hm, e3, hb, e4, h5, e6⟩ := h
    simp only at e1 hm e3 hb e4 h5 e6
    subst e1 e3 e4 e6
    rcases n3 hm with rfl | rfl | rfl
    · rcases h5 with rfl | ⟨_, h⟩
      · exact pickR ga_4_0_0 (gm_4_0_0 ⟨b, by omega⟩ 0 false false ⟨k, by omega⟩) h2 h3
      · exact absurd rfl h
    · rcases h5 with rfl | ⟨rfl, _⟩
      · exact pickR ga_4_1_0 (gm_4_1_0 ⟨b, by omega⟩ 0 false false ⟨k, by omega⟩) h2 h3
      · exact pickR ga_4_1_0 (gm_4_1_0 ⟨b, by omega⟩ 0 true false ⟨k, by omega⟩) h2 h3
    · rcases h5 with rfl | ⟨rfl, _⟩
      · exact pickR ga_4_2_0 (gm_4_2_0 ⟨b, by omega⟩ 0 false false ⟨k, by omega⟩) h2 h3
      · exact pickR ga_4_2_0 (gm_4_2_0 ⟨b, by omega⟩ 0 true false ⟨k, by omega⟩) h2 h3
  · obtain ⟨e1, e2, hx, e3, hs, e4, h6⟩ := h
    simp only at e1 e2 hx e3 hs e4 h6
    subst e1 e2 e3 e4
    rcases n2 hx with rfl | rfl
    · rcases h6 with rfl | ⟨_, h⟩
      · exact pickR ga_5_0_0 (gm_5_0_0 0 ⟨ss, by omega⟩ false false ⟨k, by omega⟩) h2 h3
      · exact absurd h (by decide)
    · rcases h6 with rfl | ⟨rfl, _⟩
      · exact pickR ga_5_0_1 (gm_5_0_1 0 ⟨ss, by omega⟩ false false ⟨k, by omega⟩) h2 h3
      · exact pickR ga_5_0_1 (gm_5_0_1 0 ⟨ss, by omega⟩ false true ⟨k, by omega⟩) h2 h3
  · obtain ⟨e1, hm, hx, hb, hs, h5, h6⟩ := h
    simp only at e1 hm hx hb hs h5 h6
    subst e1
    rcases n3 hm with rfl | rfl | rfl
    · rcases n2 hx with rfl | rfl
      · rcases h5 with rfl | ⟨rfl, h5⟩
        · rcases h6 with rfl | ⟨rfl, h6⟩
          · exact pickR ga_6_0_0 (gm_6_0_0 ⟨b, by omega⟩ ⟨ss, by omega⟩ false false ⟨k, by omega⟩) h2 h3
          · exact absurd h6 (by decide)
        · exact absurd rfl h5
      · rcases h5 with rfl | ⟨rfl, h5⟩
        · rcases h6 with rfl | ⟨rfl, h6⟩
          · exact pickR ga_6_0_1 (gm_6_0_1 ⟨b, by omega⟩ ⟨ss, by omega⟩ false false ⟨k, by omega⟩) h2 h3
          · exact pickR ga_6_0_1 (gm_6_0_1 ⟨b, by omega⟩ ⟨ss, by omega⟩ false true ⟨k, by omega⟩) h2 h3
        · exact absurd rfl h5
    · rcases n2 hx with rfl | rfl
      · rcases h5 with rfl | ⟨rfl, h5⟩
        · rcases h6 with rfl | ⟨rfl, h6⟩
          · exact pickR ga_6_1_0 (gm_6_1_0 ⟨b, by omega⟩ ⟨ss, by omega⟩ false false ⟨k, by omega⟩) h2 h3
          · exact absurd h6 (by decide)
        · rcases h6 with rfl | ⟨rfl, h6⟩
          · exact pickR ga_6_1_0 (gm_6_1_0 ⟨b, by omega⟩ ⟨ss, by omega⟩ true false ⟨k, by omega⟩) h2 h3
          · exact absurd h6 (by decide)
      · rcases h5 with rfl | ⟨rfl, h5⟩
        · rcases h6 with rfl | ⟨rfl, h6⟩
          · exact pickR ga_6_1_1 (gm_6_1_1 ⟨b, by omega⟩ ⟨ss, by omega⟩ false false ⟨k, by omega⟩) h2 h3
          · exact pickR ga_6_1_1 (gm_6_1_1 ⟨b, by omega⟩ ⟨ss, by omega⟩ false true ⟨k, by omega⟩) h2 h3
        · rcases h6 with rfl | ⟨rfl, h6⟩
          · exact pickR ga_6_1_1 (gm_6_1_1 ⟨b, by omega⟩ ⟨ss, by omega⟩ true false ⟨k, by omega⟩) h2 h3
          · exact pickR ga_6_1_1 (gm_6_1_1 ⟨b, by omega⟩ ⟨ss, by omega⟩ true true ⟨k, by omega⟩) h2 h3
    · rcases n2 hx with rfl | rfl
      · rcases h5 with rfl | ⟨rfl, h5⟩
        · rcases h6 with rfl | ⟨rfl, h6⟩
          · exact pickR ga_6_2_0 (gm_6_2_0 ⟨b, by omega⟩ ⟨ss, by omega⟩ false false ⟨k, by omega⟩) h2 h3
          · exact absurd h6 (by decide)
        · rcases h6 with rfl | ⟨rfl, h6⟩
          · exact pickR ga_6_2_0 (gm_6_2_0 ⟨b, by omega⟩ ⟨ss, by omega⟩ true false ⟨k, by omega⟩) h2 h3
          · exact absurd h6 (by decide)
      · rcases h5 with rfl | ⟨rfl, h5⟩
        · rcases h6 with rfl | ⟨rfl, h6⟩
          · exact pickR ga_6_2_1 (gm_6_2_1 ⟨b, by omega⟩ ⟨ss, by omega⟩ false false ⟨k, by omega⟩) h2 h3
          · exact pickR ga_6_2_1 (gm_6_2_1 ⟨b, by omega⟩ ⟨ss, by omega⟩ false true ⟨k, by omega⟩) h2 h3
        · rcases h6 with rfl | ⟨rfl, h6⟩
          · exact pickR ga_6_2_1 (gm_6_2_1 ⟨b, by omega⟩ ⟨ss, by omega⟩ true false ⟨k, by omega⟩) h2 h3
          · exact pickR ga_6_2_1 (gm_6_2_1 ⟨b, by omega⟩ ⟨ss, by omega⟩ true true ⟨k, by omega⟩) h2 h3

end Go.Proofs.Ytbenfglhomiocaa.Bak
