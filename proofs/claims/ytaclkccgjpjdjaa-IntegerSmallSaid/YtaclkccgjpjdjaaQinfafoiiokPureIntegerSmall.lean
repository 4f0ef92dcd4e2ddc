/- IntegerSmall: which integers (of at most 10 limbs) are an int64, and which integer any int64 is, are told as the reference tells them; and an int64's integer is that int64. No condition but the machine's own bounds. -/
import Derived.Test.YtaclkccgjpjdjaaQbhlpeicbhlZBase
import Derived.Test.YtaclkccgjpjdjaaQapjgebdlpcBMx1
namespace Go.Proofs.Ytaclkccgjpjdjaa.Pure
open Go.RowKit Go.Proofs.Ytaclkccgjpjdjaa.BM Go.Proofs.YtaclkccgjpjdjaaW.PrintWords Go.Proofs.YtaclkccgjpjdjaaW.PrintLast Go.Proofs.Ytaclkccgjpjdjaa.Nt Go.Proofs.Ytaclkccgjpjdjaa.Zi Go.Proofs.Ytaclkccgjpjdjaa.Zb
set_option linter.unusedVariables false
set_option linter.unusedSimpArgs false
theorem IntegerSmall (a : Bool) (l : List Int) (n : Int) (hl : lim l) (hn : (Lit.int .i64 n).wf = true) : ∃ k, foliotlaw02_IntegerSmall.f k a l n = some true := by
  have hn2 : -9223372036854775808 ≤ n ∧ n < 9223372036854775808 := by
    simp only [Lit.wf, Bool.and_eq_true, decide_eq_true_eq] at hn
    have h1 : IntKind.i64.min = -9223372036854775808 := rfl
    have h2 : IntKind.i64.max = 9223372036854775807 := rfl
    omega
  by_cases h12 : l.length ≤ 10
  · have fl : few 50000 l := ⟨hl, by omega⟩
    have l1 := zval_len (b := a) hl
    have e1 : integer_Small.f a l = some (smallZ (zval a l)) := if_pos fl
    have e2 : foliotref02_Small.f a l = some (rsm (zval a l), (smallZ (zval a l)).2) := if_pos fl
    have e3 : integer_Of.f n = some (ofZ n) := if_pos hn2
    have e4 : foliotref02_Of.f n = some (ofZ n) := if_pos hn2
    have ln : (ofN n.natAbs).length ≤ 2 := len_ofN_le (k := 2) (by omega)
    have e5 : integer_Small.f (ofZ n).1 (ofZ n).2 = some (n, true) := by
      unfold integer_Small.f
      rw [if_pos (few_ofZ (by omega)), zval_ofZ]
      unfold smallZ
      rw [if_pos hn2]
    generalize zval a l = A at *
    obtain ⟨K1, h1⟩ := samez (z := n) (k := 100) (few_ofZ (by omega)) (by omega)
    have g : (decide (l.length ≤ 10) && decide (l.length ≤ 10)) = true := by simp [h12]
    have hj : foliotlaw02_IntegerSmall.j0 (K1 + 1) n (smallZ A).1 (smallZ A).2 (smallZ A).1 (smallZ A).2 = some true := by
      simp only [foliotlaw02_IntegerSmall.j0, e3, e4, e5, Option.bind_some, if_true, beq_self_eq_true, h1 _ (show K1 ≤ K1 by omega), awake_at]
    refine ⟨K1 + 1, ?_⟩
    unfold foliotlaw02_IntegerSmall.f
    simp only [few_at, g, Option.bind_some, if_true, e1, e2]
    by_cases hs : (smallZ A).2 = true
    · rw [if_pos hs, rsm_small hs]; exact hj
    · rw [if_neg hs]
      have h0 : (smallZ A).1 = 0 := by
        unfold smallZ at *
        split
        · rename_i hh; rw [if_pos hh] at hs; exact absurd rfl hs
        · rfl
      rw [h0] at hj ⊢
      exact hj
  · refine ⟨0, ?_⟩
    unfold foliotlaw02_IntegerSmall.f
    have g : (decide (l.length ≤ 10) && decide (l.length ≤ 10)) = false := by simp [h12]
    rw [few_at, g]
    rfl
end Go.Proofs.Ytaclkccgjpjdjaa.Pure
