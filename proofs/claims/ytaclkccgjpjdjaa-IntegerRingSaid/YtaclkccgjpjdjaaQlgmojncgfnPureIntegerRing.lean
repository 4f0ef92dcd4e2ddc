/- IntegerRing: sums and products of integers of at most 10 limbs do not hang on their order, products are parted over sums, what was added may be taken away, and an integer and its opposite are nought together. No condition but the machine's own bounds. -/
import Derived.Test.YtaclkccgjpjdjaaQkepoklingfZBase
import Derived.Test.YtaclkccgjpjdjaaQadgecombjbBGx2
namespace Go.Proofs.Ytaclkccgjpjdjaa.Pure
open Go.RowKit Go.Proofs.Ytaclkccgjpjdjaa.BG Go.Proofs.YtaclkccgjpjdjaaW.PrintWords Go.Proofs.YtaclkccgjpjdjaaW.PrintLast Go.Proofs.Ytaclkccgjpjdjaa.Nt Go.Proofs.Ytaclkccgjpjdjaa.Zi Go.Proofs.Ytaclkccgjpjdjaa.Zb
set_option linter.unusedVariables false
set_option linter.unusedSimpArgs false
theorem IntegerRing (a : Bool) (l : List Int) (b : Bool) (m : List Int) (c : Bool) (n : List Int) (hl : lim l) (hm : lim m) (hn : lim n) : ∃ k, foliotlaw02_IntegerRing.f k a l b m c n = some true := by
  have hno : ∀ k, foliotlaw02_IntegerRing.j0 (k + 1) true a l b m c n = some true := fun k => by simp only [foliotlaw02_IntegerRing.j0, if_true]
  by_cases h12 : l.length ≤ 10 ∧ m.length ≤ 10
  · have g : (decide (l.length ≤ 10) && decide (m.length ≤ 10)) = true := by simp [h12.1, h12.2]
    by_cases h10 : n.length ≤ 10
    · have g2 : (decide (n.length ≤ 10) && decide (n.length ≤ 10)) = true := by simp [h10]
      have fl : few 50000 l := ⟨hl, by omega⟩
      have fm : few 50000 m := ⟨hm, by omega⟩
      have fn : few 50000 n := ⟨hn, by omega⟩
      have l1 := zval_len (b := a) hl
      have l2 := zval_len (b := b) hm
      have l3 := zval_len (b := c) hn
      have ad : ∀ a l b m, few 50000 l → few 50000 m → integer_Add.f a l b m = some (ofZ (zval a l + zval b m)) := fun _ _ _ _ h1 h2 => if_pos ⟨h1, h2⟩
      have mu : ∀ a l b m, few 50000 l → few 50000 m → integer_Mul.f a l b m = some (ofZ (zval a l * zval b m)) := fun _ _ _ _ h1 h2 => if_pos ⟨h1, h2⟩
      have e1 := ad a l b m fl fm
      have e2 := mu a l b m fl fm
      have e3 := ad b m a l fm fl
      have e4 := mu b m a l fm fl
      have e6 := mu a l c n fl fn
      have e7 := mu b m c n fm fn
      have e10 := ad b m c n fm fn
      have e13 : integer_Norm.f a l = some (ofZ (zval a l)) := if_pos fl
      have e14 : integer_Neg.f a l = some (ofZ (-zval a l)) := if_pos fl
      have q1 := @len_natAbs_add (zval a l) (zval b m)
      have q2 := @len_natAbs_mul (zval a l) (zval c n)
      have q3 := @len_natAbs_mul (zval b m) (zval c n)
      have q4 := @len_natAbs_add (zval b m) (zval c n)
      have q5 := @len_natAbs_mul (zval a l) (zval b m)
      have q6 := @len_natAbs_mul (zval a l + zval b m) (zval c n)
      have q7 := @len_natAbs_add (zval a l + zval b m) (zval c n)
      have e5 := mu (ofZ (zval a l + zval b m)).1 _ c n (few_ofZ (k := 50000) (z := zval a l + zval b m) (by omega)) fn
      have e8 := ad (ofZ (zval a l * zval c n)).1 _ (ofZ (zval b m * zval c n)).1 _ (few_ofZ (k := 50000) (z := zval a l * zval c n) (by omega)) (few_ofZ (k := 50000) (z := zval b m * zval c n) (by omega))
      have e9 := ad (ofZ (zval a l + zval b m)).1 _ c n (few_ofZ (k := 50000) (z := zval a l + zval b m) (by omega)) fn
      have e11 := ad a l (ofZ (zval b m + zval c n)).1 _ fl (few_ofZ (k := 50000) (z := zval b m + zval c n) (by omega))
      have e12 : integer_Sub.f (ofZ (zval a l + zval b m)).1 (ofZ (zval a l + zval b m)).2 b m = some (ofZ (zval (ofZ (zval a l + zval b m)).1 (ofZ (zval a l + zval b m)).2 - zval b m)) := if_pos ⟨few_ofZ (by omega), fm⟩
      have e15 := ad a l (ofZ (-zval a l)).1 _ fl (few_ofZ (k := 50000) (z := -zval a l) (by rw [Int.natAbs_neg]; omega))
      simp only [zval_ofZ] at e5 e8 e9 e11 e12 e15
      clear ad mu
      generalize zval a l = A at *
      generalize zval b m = B at *
      generalize zval c n = C at *
      rw [Int.add_comm B A] at e3
      rw [Int.mul_comm B A] at e4
      rw [← Int.add_mul] at e8
      rw [← Int.add_assoc] at e11
      rw [Int.add_sub_cancel] at e12
      rw [Int.add_right_neg] at e15
      have e16 : integer_Sign.f (ofZ 0).1 (ofZ 0).2 = some 0 := by decide +kernel
      obtain ⟨K1, h1⟩ := samez (z := A + B) (k := 100) (few_ofZ (by omega)) (by omega)
      obtain ⟨K2, h2⟩ := samez (z := A * B) (k := 100) (few_ofZ (by omega)) (by omega)
      obtain ⟨K3, h3⟩ := samez (z := (A + B) * C) (k := 100) (few_ofZ (by omega)) (by omega)
      obtain ⟨K4, h4⟩ := samez (z := A + B + C) (k := 100) (few_ofZ (by omega)) (by omega)
      obtain ⟨K5, h5⟩ := samez (z := A) (k := 100) (few_ofZ (by omega)) (by omega)
      refine ⟨K1 + K2 + K3 + K4 + K5 + 1, ?_⟩
      unfold foliotlaw02_IntegerRing.f
      simp only [few_at, g, g2, Option.bind_some, if_true, Bool.not_true, foliotlaw02_IntegerRing.j0, Bool.false_eq_true, if_false, e1, e2, e3, e4, e5, e6, e7, e8, e9, e10, e11, e12, e13, e14, e15, e16, h1 _ (show K1 ≤ K1 + K2 + K3 + K4 + K5 by omega), h2 _ (show K2 ≤ K1 + K2 + K3 + K4 + K5 by omega), h3 _ (show K3 ≤ K1 + K2 + K3 + K4 + K5 by omega), h4 _ (show K4 ≤ K1 + K2 + K3 + K4 + K5 by omega), h5 _ (show K5 ≤ K1 + K2 + K3 + K4 + K5 by omega), awake_at]
    · refine ⟨1, ?_⟩
      have g2 : (decide (n.length ≤ 10) && decide (n.length ≤ 10)) = false := by simp [h10]
      unfold foliotlaw02_IntegerRing.f
      simp only [few_at, g, g2, Option.bind_some, if_true, Bool.not_false]
      exact hno 0
  · refine ⟨1, ?_⟩
    unfold foliotlaw02_IntegerRing.f
    have g : (decide (l.length ≤ 10) && decide (m.length ≤ 10)) = false := by
      rw [← Bool.decide_and]; exact decide_eq_false h12
    rw [few_at, g]
    exact hno 0
end Go.Proofs.Ytaclkccgjpjdjaa.Pure
