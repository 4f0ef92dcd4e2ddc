/- IntegerOrder: integers of at most 10 limbs are ordered as sums and opposites go. No condition but the machine's own bounds. -/
import Derived.Test.YtaclkccgjpjdjaaQidjkfbiklaZBase
import Derived.Test.YtaclkccgjpjdjaaQadlcfcppnmBOx2
namespace Go.Proofs.Ytaclkccgjpjdjaa.Pure
open Go.RowKit Go.Proofs.Ytaclkccgjpjdjaa.BO Go.Proofs.YtaclkccgjpjdjaaW.PrintWords Go.Proofs.YtaclkccgjpjdjaaW.PrintLast Go.Proofs.Ytaclkccgjpjdjaa.Nt Go.Proofs.Ytaclkccgjpjdjaa.Zi Go.Proofs.Ytaclkccgjpjdjaa.Zb
set_option linter.unusedVariables false
set_option linter.unusedSimpArgs false
theorem cmp_w (A B : Int) : wrap64 (-cmpZ A B) = -cmpZ A B := by
  apply w64 <;> (unfold cmpZ sgn; repeat' split) <;> omega
theorem cmp_swap (A B : Int) : cmpZ B A = -cmpZ A B := by unfold cmpZ sgn; repeat' split
                                                          all_goals omega
theorem cmp_add (A B C : Int) : cmpZ (A + C) (B + C) = cmpZ A B := by unfold cmpZ; rw [show A + C - (B + C) = A - B by omega]
theorem cmp_neg (A B : Int) : cmpZ (-A) (-B) = -cmpZ A B := by rw [← cmp_swap]; unfold cmpZ; rw [show -A - -B = B - A by omega]
theorem cmp_zero (A B : Int) : (cmpZ A B == 0) = decide (A = B) := by
  rw [Bool.eq_iff_iff, beq_iff_eq, decide_eq_true_iff]
  unfold cmpZ sgn
  constructor
  · intro h; revert h; repeat' split
    all_goals omega
  · intro h; subst h; repeat' split
    all_goals omega
theorem ofZ_inj {A B : Int} (h1 : (ofZ A).1 = (ofZ B).1) (h2 : (ofZ A).2 = (ofZ B).2) : A = B := by rw [← zval_ofZ A, h1, h2, zval_ofZ]
theorem IntegerOrder (a : Bool) (l : List Int) (b : Bool) (m : List Int) (c : Bool) (n : List Int) (hl : lim l) (hm : lim m) (hn : lim n) : ∃ k, foliotlaw02_IntegerOrder.f k a l b m c n = some true := by
  have hno : ∀ k, foliotlaw02_IntegerOrder.j0 (k + 1) true a l b m c n = some true := fun k => by simp only [foliotlaw02_IntegerOrder.j0, if_true]
  by_cases h12 : l.length ≤ 10 ∧ m.length ≤ 10
  · have g : (decide (l.length ≤ 10) && decide (m.length ≤ 10)) = true := by simp [h12.1, h12.2]
    by_cases h10 : n.length ≤ 10
    · have g2 : (decide (n.length ≤ 10) && decide (n.length ≤ 10)) = true := by simp [h10]
      have fl : few 50000 l := ⟨hl, by omega⟩
      have fm : few 50000 m := ⟨hm, by omega⟩
      have fn : few 50000 n := ⟨hn, by omega⟩
      have l1 := zval_len (b := a) hl
      have l2 := zval_len (b := b) hm
      have l3 := zval_len (b := c) hn
      have e1 : integer_Cmp.f a l b m = some (cmpZ (zval a l) (zval b m)) := if_pos ⟨fl, fm⟩
      have e2 : integer_Cmp.f b m a l = some (cmpZ (zval b m) (zval a l)) := if_pos ⟨fm, fl⟩
      have e3 : integer_Add.f a l c n = some (ofZ (zval a l + zval c n)) := if_pos ⟨fl, fn⟩
      have e4 : integer_Add.f b m c n = some (ofZ (zval b m + zval c n)) := if_pos ⟨fm, fn⟩
      have e5 : integer_Neg.f a l = some (ofZ (-zval a l)) := if_pos fl
      have e6 : integer_Neg.f b m = some (ofZ (-zval b m)) := if_pos fm
      have e7 : integer_Norm.f a l = some (ofZ (zval a l)) := if_pos fl
      have e8 : integer_Norm.f b m = some (ofZ (zval b m)) := if_pos fm
      have e9 : integer_Sub.f a l b m = some (ofZ (zval a l - zval b m)) := if_pos ⟨fl, fm⟩
      generalize zval a l = A at *
      generalize zval b m = B at *
      generalize zval c n = C at *
      have q1 := @len_natAbs_add A C
      have q2 := @len_natAbs_add B C
      have q3 := @len_natAbs_sub A B
      have cz : ∀ X Y : Int, (ofN X.natAbs).length ≤ 100 → (ofN Y.natAbs).length ≤ 100 → integer_Cmp.f (ofZ X).1 (ofZ X).2 (ofZ Y).1 (ofZ Y).2 = some (cmpZ X Y) := by
        intro X Y hx hy
        unfold integer_Cmp.f
        rw [if_pos ⟨few_ofZ (by omega), few_ofZ (by omega)⟩, zval_ofZ, zval_ofZ]
      have e10 := cz (A + C) (B + C) (by omega) (by omega)
      have e11 := cz (-A) (-B) (by rw [Int.natAbs_neg]; omega) (by rw [Int.natAbs_neg]; omega)
      have e12 : integer_Sign.f (ofZ (A - B)).1 (ofZ (A - B)).2 = some (cmpZ A B) := by
        unfold integer_Sign.f
        rw [if_pos (few_ofZ (by omega)), zval_ofZ]; rfl
      rw [cmp_add] at e10
      rw [cmp_neg] at e11
      rw [cmp_swap] at e2
      have s1 := samez_ev (a := (ofZ A).1) (b := (ofZ B).1) (l := (ofZ A).2) (m := (ofZ B).2) (by show (ofN _).length < _; omega)
      have es : (decide ((ofZ A).1 = (ofZ B).1) && decide ((ofZ A).2 = (ofZ B).2)) = decide (A = B) := by
        rw [← Bool.decide_and, decide_eq_decide]
        exact ⟨fun h => ofZ_inj h.1 h.2, fun h => by subst h; exact ⟨rfl, rfl⟩⟩
      rw [es] at s1
      obtain ⟨K1, h1⟩ := s1
      refine ⟨K1 + 1, ?_⟩
      unfold foliotlaw02_IntegerOrder.f
      simp only [few_at, g, g2, Option.bind_some, if_true, Bool.not_true, foliotlaw02_IntegerOrder.j0, Bool.false_eq_true, if_false, e1, e2, e3, e4, e5, e6, e7, e8, e9, e10, e11, e12, cmp_w, cmp_zero, h1 _ (show K1 ≤ K1 by omega), beq_self_eq_true, awake_at]
    · refine ⟨1, ?_⟩
      have g2 : (decide (n.length ≤ 10) && decide (n.length ≤ 10)) = false := by simp [h10]
      unfold foliotlaw02_IntegerOrder.f
      simp only [few_at, g, g2, Option.bind_some, if_true, Bool.not_false]
      exact hno 0
  · refine ⟨1, ?_⟩
    unfold foliotlaw02_IntegerOrder.f
    have g : (decide (l.length ≤ 10) && decide (m.length ≤ 10)) = false := by
      rw [← Bool.decide_and]; exact decide_eq_false h12
    rw [few_at, g]
    exact hno 0
end Go.Proofs.Ytaclkccgjpjdjaa.Pure
