/- IntegerSums: for any two integers of at most 10 limbs, the program's sums, differences, products, opposites, comparison and sign are the reference's. No condition but the machine's own bounds. -/
import Derived.Test.YtaclkccgjpjdjaaQIntegerSumsZBase
import Derived.Test.YtaclkccgjpjdjaaQIntegerSumsBSx2
namespace Go.Proofs.Ytaclkccgjpjdjaa.Pure
open Go.RowKit Go.Proofs.Ytaclkccgjpjdjaa.BS Go.Proofs.YtaclkccgjpjdjaaW.PrintWords Go.Proofs.YtaclkccgjpjdjaaW.PrintLast Go.Proofs.Ytaclkccgjpjdjaa.Nt Go.Proofs.Ytaclkccgjpjdjaa.Zi Go.Proofs.Ytaclkccgjpjdjaa.Zb
set_option linter.unusedVariables false
set_option linter.unusedSimpArgs false
theorem IntegerSums (a : Bool) (l : List Int) (b : Bool) (m : List Int) (hl : lim l) (hm : lim m) : ∃ k, foliotlaw02_IntegerSums.f k a l b m = some true := by
  by_cases h12 : l.length ≤ 10 ∧ m.length ≤ 10
  · have fl : few 50000 l := ⟨hl, by omega⟩
    have fm : few 50000 m := ⟨hm, by omega⟩
    have l1 := zval_len (b := a) hl
    have l2 := zval_len (b := b) hm
    have e1 : integer_Norm.f a l = some (ofZ (zval a l)) := if_pos fl
    have e2 : foliotref02_Norm.f a l = some (ofZ (zval a l)) := if_pos fl
    have e3 : integer_Add.f a l b m = some (ofZ (zval a l + zval b m)) := if_pos ⟨fl, fm⟩
    have e4 : foliotref02_Add.f a l b m = some (ofZ (zval a l + zval b m)) := if_pos ⟨fl, fm⟩
    have e5 : integer_Sub.f a l b m = some (ofZ (zval a l - zval b m)) := if_pos ⟨fl, fm⟩
    have e6 : foliotref02_Sub.f a l b m = some (ofZ (zval a l - zval b m)) := if_pos ⟨fl, fm⟩
    have e7 : integer_Mul.f a l b m = some (ofZ (zval a l * zval b m)) := if_pos ⟨fl, fm⟩
    have e8 : foliotref02_Mul.f a l b m = some (ofZ (zval a l * zval b m)) := if_pos ⟨fl, fm⟩
    have e9 : integer_Neg.f a l = some (ofZ (-zval a l)) := if_pos fl
    have e10 : foliotref02_Neg.f a l = some (ofZ (-zval a l)) := if_pos fl
    have e11 : integer_Cmp.f a l b m = some (cmpZ (zval a l) (zval b m)) := if_pos ⟨fl, fm⟩
    have e12 : foliotref02_Cmp.f a l b m = some (cmpZ (zval a l) (zval b m)) := if_pos ⟨fl, fm⟩
    have e13 : integer_Sign.f a l = some (sgn (zval a l)) := if_pos fl
    have e14 : foliotref02_Sign.f a l = some (sgn (zval a l)) := if_pos fl
    generalize zval a l = A at *
    generalize zval b m = B at *
    obtain ⟨K1, h1⟩ := samez (z := A) (k := 100) (few_ofZ (by omega)) (by omega)
    obtain ⟨K2, h2⟩ := samez (z := A + B) (k := 100) (few_ofZ (by have := @len_natAbs_add A B; omega)) (by omega)
    obtain ⟨K3, h3⟩ := samez (z := A - B) (k := 100) (few_ofZ (by have := @len_natAbs_sub A B; omega)) (by omega)
    obtain ⟨K4, h4⟩ := samez (z := A * B) (k := 100) (few_ofZ (by have := @len_natAbs_mul A B; omega)) (by omega)
    obtain ⟨K5, h5⟩ := samez (z := -A) (k := 100) (few_ofZ (by rw [Int.natAbs_neg]; omega)) (by omega)
    have g : (decide (l.length ≤ 10) && decide (m.length ≤ 10)) = true := by simp [h12.1, h12.2]
    refine ⟨K1 + K2 + K3 + K4 + K5, ?_⟩
    unfold foliotlaw02_IntegerSums.f
    simp only [few_at, g, Option.bind_some, if_true, e1, e2, e3, e4, e5, e6, e7, e8, e9, e10, e11, e12, e13, e14, h1 _ (show K1 ≤ K1 + K2 + K3 + K4 + K5 by omega), h2 _ (show K2 ≤ K1 + K2 + K3 + K4 + K5 by omega), h3 _ (show K3 ≤ K1 + K2 + K3 + K4 + K5 by omega), h4 _ (show K4 ≤ K1 + K2 + K3 + K4 + K5 by omega), h5 _ (show K5 ≤ K1 + K2 + K3 + K4 + K5 by omega), awake_at]
  · refine ⟨0, ?_⟩
    unfold foliotlaw02_IntegerSums.f
    have g : (decide (l.length ≤ 10) && decide (m.length ≤ 10)) = false := by
      rw [← Bool.decide_and]; exact decide_eq_false h12
    rw [few_at, g]
    rfl
end Go.Proofs.Ytaclkccgjpjdjaa.Pure
