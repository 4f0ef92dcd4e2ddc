/- IntegerDivides: for any two integers of at most 10 limbs, the program's quotient and rest are the reference's. No condition but the machine's own bounds. -/
import Derived.Test.YtaclkccgjpjdjaaQnjohdmigamZBase
import Derived.Test.YtaclkccgjpjdjaaQainecbaplbBDx1
namespace Go.Proofs.Ytaclkccgjpjdjaa.Pure
open Go.RowKit Go.Proofs.Ytaclkccgjpjdjaa.BD Go.Proofs.YtaclkccgjpjdjaaW.PrintWords Go.Proofs.YtaclkccgjpjdjaaW.PrintLast Go.Proofs.Ytaclkccgjpjdjaa.Nt Go.Proofs.Ytaclkccgjpjdjaa.Zi Go.Proofs.Ytaclkccgjpjdjaa.Zb
set_option linter.unusedVariables false
set_option linter.unusedSimpArgs false
theorem IntegerDivides (a : Bool) (l : List Int) (b : Bool) (m : List Int) (hl : lim l) (hm : lim m) : ∃ k, foliotlaw02_IntegerDivides.f k a l b m = some true := by
  by_cases h12 : l.length ≤ 10 ∧ m.length ≤ 10
  · have fl : few 50000 l := ⟨hl, by omega⟩
    have fm : few 50000 m := ⟨hm, by omega⟩
    have l1 := zval_len (b := a) hl
    have l2 := zval_len (b := b) hm
    have e1 : integer_Div.f a l b m = some (divZ (zval a l) (zval b m)) := if_pos ⟨fl, fm⟩
    have e2 : foliotref02_Div.f a l b m = some (divZ (zval a l) (zval b m)) := if_pos ⟨fl, fm⟩
    generalize zval a l = A at *
    generalize zval b m = B at *
    obtain ⟨p, q, r, s, t, hD, hq, hs⟩ : ∃ p q r s t, divZ A B = (p, q, r, s, t) ∧ q.length ≤ 100 ∧ s.length ≤ 100 := by
      unfold divZ
      by_cases hB : B = 0
      · rw [if_pos hB]; exact ⟨_, _, _, _, _, rfl, by simp, by simp⟩
      · rw [if_neg hB]
        have hr : (ofN (A.fmod B).natAbs).length ≤ 12 := by
          have h := Int.mul_fdiv_add_fmod A B
          refine Nat.le_trans (len_mono (n := B.natAbs) ?_) (by omega)
          rcases Int.lt_or_gt_of_ne hB with hn | hp
          · have g1 := Int.fmod_nonneg_of_pos (-A) (show 0 < -B by omega)
            have g2 := Int.fmod_lt_of_pos (-A) (show 0 < -B by omega)
            rw [Int.neg_fmod_neg] at g1 g2
            omega
          · have f1 : 0 ≤ A.fmod B := Int.fmod_nonneg_of_pos A hp
            have f2 : A.fmod B < B := Int.fmod_lt_of_pos A hp
            omega
        have hd : (ofN (A.fdiv B).natAbs).length ≤ 12 := by
          by_cases h : decide (A < 0) = decide (B < 0) ∨ A.natAbs % B.natAbs = 0
          · rw [(div_same hB h).1, abs_sg]; exact Nat.le_trans (len_mono (Nat.div_le_self _ _)) (by omega)
          · rw [(div_other hB (fun e => h (Or.inl e)) (fun e => h (Or.inr e))).1, Int.natAbs_neg, Int.natAbs_natCast]
            have := len_add (A.natAbs / B.natAbs) 1
            have h2 : (ofN (A.natAbs / B.natAbs)).length ≤ (ofN A.natAbs).length := len_mono (Nat.div_le_self _ _)
            have h3 : (ofN 1).length = 1 := rfl
            omega
        exact ⟨_, _, _, _, _, rfl, by show (ofN _).length ≤ _; omega, by show (ofN _).length ≤ _; omega⟩
    rw [hD] at e1 e2
    have s1 := samez_ev (a := p) (b := p) (l := q) (m := q) (by omega)
    have s2 := samez_ev (a := r) (b := r) (l := s) (m := s) (by omega)
    simp only [decide_true, Bool.and_self] at s1 s2
    obtain ⟨K1, h1⟩ := s1
    obtain ⟨K2, h2⟩ := s2
    have g : (decide (l.length ≤ 10) && decide (m.length ≤ 10)) = true := by simp [h12.1, h12.2]
    refine ⟨K1 + K2, ?_⟩
    unfold foliotlaw02_IntegerDivides.f
    simp only [few_at, g, Option.bind_some, if_true, e1, e2, h1 _ (show K1 ≤ K1 + K2 by omega), h2 _ (show K2 ≤ K1 + K2 by omega), awake_at]
  · refine ⟨0, ?_⟩
    unfold foliotlaw02_IntegerDivides.f
    have g : (decide (l.length ≤ 10) && decide (m.length ≤ 10)) = false := by
      rw [← Bool.decide_and]; exact decide_eq_false h12
    rw [few_at, g]
    rfl
end Go.Proofs.Ytaclkccgjpjdjaa.Pure
