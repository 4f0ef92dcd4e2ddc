/- IntegerRest: the quotient times the divisor, and the rest, are the integer (of at most 10 limbs), and the rest lies between 0 and the divisor, which it is not; by 0 nothing is divided. No condition but the machine's own bounds. -/
import Derived.Test.YtaclkccgjpjdjaaQlhlieeinilZBase
import Derived.Test.YtaclkccgjpjdjaaQenlapaphpeBRx2
namespace Go.Proofs.Ytaclkccgjpjdjaa.Pure
open Go.RowKit Go.Proofs.Ytaclkccgjpjdjaa.BR Go.Proofs.YtaclkccgjpjdjaaW.PrintWords Go.Proofs.YtaclkccgjpjdjaaW.PrintLast Go.Proofs.Ytaclkccgjpjdjaa.Nt Go.Proofs.Ytaclkccgjpjdjaa.Zi Go.Proofs.Ytaclkccgjpjdjaa.Zb
set_option linter.unusedVariables false
set_option linter.unusedSimpArgs false
theorem rest_range {A B : Int} (hB : B ≠ 0) : (0 < B → 0 ≤ A.fmod B ∧ A.fmod B < B) ∧ (B < 0 → A.fmod B ≤ 0 ∧ B < A.fmod B) := by
  constructor
  · intro hp
    exact ⟨Int.fmod_nonneg_of_pos A hp, Int.fmod_lt_of_pos A hp⟩
  · intro hn
    have g1 := Int.fmod_nonneg_of_pos (-A) (show 0 < -B by omega)
    have g2 := Int.fmod_lt_of_pos (-A) (show 0 < -B by omega)
    rw [Int.neg_fmod_neg] at g1 g2
    omega
theorem IntegerRest (a : Bool) (l : List Int) (b : Bool) (m : List Int) (hl : lim l) (hm : lim m) : ∃ k, foliotlaw02_IntegerRest.f k a l b m = some true := by
  by_cases h12 : l.length ≤ 10 ∧ m.length ≤ 10
  · have g : (decide (l.length ≤ 10) && decide (m.length ≤ 10)) = true := by simp [h12.1, h12.2]
    have fl : few 50000 l := ⟨hl, by omega⟩
    have fm : few 50000 m := ⟨hm, by omega⟩
    have l1 := zval_len (b := a) hl
    have l2 := zval_len (b := b) hm
    have e1 : integer_Div.f a l b m = some (divZ (zval a l) (zval b m)) := if_pos ⟨fl, fm⟩
    have e2 : integer_Sign.f b m = some (sgn (zval b m)) := if_pos fm
    have e3 : integer_Norm.f a l = some (ofZ (zval a l)) := if_pos fl
    have mu : ∀ Z, few 50000 (ofZ Z).2 → integer_Mul.f (ofZ Z).1 (ofZ Z).2 b m = some (ofZ (Z * zval b m)) := fun Z h => by
      unfold integer_Mul.f; rw [if_pos ⟨h, fm⟩, zval_ofZ]
    have cm : ∀ Z, few 50000 (ofZ Z).2 → integer_Cmp.f (ofZ Z).1 (ofZ Z).2 b m = some (cmpZ Z (zval b m)) := fun Z h => by
      unfold integer_Cmp.f; rw [if_pos ⟨h, fm⟩, zval_ofZ]
    generalize zval a l = A at *
    generalize zval b m = B at *
    have s0 := samez_ev (a := false) (b := false) (l := []) (m := []) (by simp)
    simp only [decide_true, Bool.and_self] at s0
    obtain ⟨K0, h0⟩ := s0
    obtain ⟨K1, h1⟩ := samez (z := A) (k := 100) (few_ofZ (by omega)) (by omega)
    refine ⟨K0 + K1 + 1, ?_⟩
    unfold foliotlaw02_IntegerRest.f
    simp only [few_at, g, Option.bind_some, if_true, e1, e2]
    by_cases hB : B = 0
    · have d0 : divZ A B = (false, [], false, [], 3) := if_pos hB
      have s0 : sgn B = 0 := by subst hB; rfl
      simp only [d0, s0, if_true, h0 _ (show K0 ≤ K0 + K1 + 1 by omega), Option.bind_some, awake_at]
    · have dd : divZ A B = ((ofZ (A.fdiv B)).1, (ofZ (A.fdiv B)).2, (ofZ (A.fmod B)).1, (ofZ (A.fmod B)).2, 0) := if_neg hB
      obtain ⟨hp, hn⟩ := rest_range (A := A) hB
      have e := Int.mul_fdiv_add_fmod A B
      have hr : (ofN (A.fmod B).natAbs).length ≤ 12 := by
        refine Nat.le_trans (len_mono (n := B.natAbs) ?_) (by omega)
        rcases Int.lt_or_gt_of_ne hB with h | h
        · have := hn h; omega
        · have := hp h; omega
      have hd : (ofN (A.fdiv B).natAbs).length ≤ 12 := by
        by_cases h : decide (A < 0) = decide (B < 0) ∨ A.natAbs % B.natAbs = 0
        · rw [(div_same hB h).1, abs_sg]; exact Nat.le_trans (len_mono (Nat.div_le_self _ _)) (by omega)
        · rw [(div_other hB (fun e => h (Or.inl e)) (fun e => h (Or.inr e))).1, Int.natAbs_neg, Int.natAbs_natCast]
          have := len_add (A.natAbs / B.natAbs) 1
          have h2 : (ofN (A.natAbs / B.natAbs)).length ≤ (ofN A.natAbs).length := len_mono (Nat.div_le_self _ _)
          have h3 : (ofN 1).length = 1 := rfl
          omega
      have hm1 := @len_natAbs_mul (A.fdiv B) B
      have f1 := mu (A.fdiv B) (few_ofZ (by omega))
      have f2 : integer_Add.f (ofZ (A.fdiv B * B)).1 (ofZ (A.fdiv B * B)).2 (ofZ (A.fmod B)).1 (ofZ (A.fmod B)).2 = some (ofZ A) := by
        unfold integer_Add.f
        rw [if_pos ⟨few_ofZ (by omega), few_ofZ (by omega)⟩, zval_ofZ, zval_ofZ, Int.mul_comm, e]
      have f3 : integer_Sign.f (ofZ (A.fmod B)).1 (ofZ (A.fmod B)).2 = some (sgn (A.fmod B)) := by
        unfold integer_Sign.f
        rw [if_pos (few_ofZ (by omega)), zval_ofZ]
      have f4 := cm (A.fmod B) (few_ofZ (by omega))
      clear mu cm e
      generalize A.fdiv B = Q at *
      generalize A.fmod B = R at *
      have hs0 : ¬ sgn B = 0 := by unfold sgn; split <;> (try split) <;> omega
      have hj : ∀ x9 : Bool, (0 < B → x9 = true) → foliotlaw02_IntegerRest.j0 (K0 + K1 + 1) 0 x9 a l b m (ofZ R).1 (ofZ R).2 (ofZ A).1 (ofZ A).2 = some true := by
        intro x9 hx
        simp only [foliotlaw02_IntegerRest.j0, e2, e3, f3, f4, Option.bind_some, h1 _ (show K1 ≤ K0 + K1 by omega), if_true, awake_at]
        by_cases hb : B < 0
        · obtain ⟨r1, r2⟩ := hn hb
          rw [if_pos (by unfold sgn; rw [if_pos hb]; omega), if_pos (by unfold sgn; split <;> (try split) <;> omega), if_pos (by unfold cmpZ sgn; rw [if_neg (by omega), if_pos (by omega)]; omega)]
        · rw [if_neg (by unfold sgn; rw [if_neg hb, if_pos (by omega)]; omega), if_pos (hx (by omega))]
      simp only [dd, if_neg hs0, f1, f2, f3, f4, Option.bind_some]
      by_cases hr0 : sgn R ≥ 0
      · rw [if_pos hr0]
        refine hj _ (fun h => ?_)
        obtain ⟨r1, r2⟩ := hp h
        exact decide_eq_true (by unfold cmpZ sgn; rw [if_pos (by omega)]; omega)
      · rw [if_neg hr0]
        refine hj _ (fun h => ?_)
        obtain ⟨r1, r2⟩ := hp h
        exact absurd (by unfold sgn; rw [if_neg (by omega)]; split <;> omega) hr0
  · refine ⟨0, ?_⟩
    unfold foliotlaw02_IntegerRest.f
    have g : (decide (l.length ≤ 10) && decide (m.length ≤ 10)) = false := by
      rw [← Bool.decide_and]; exact decide_eq_false h12
    rw [few_at, g]
    rfl
end Go.Proofs.Ytaclkccgjpjdjaa.Pure
