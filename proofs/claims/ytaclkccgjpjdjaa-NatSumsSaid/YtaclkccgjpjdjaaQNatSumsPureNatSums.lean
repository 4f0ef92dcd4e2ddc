/- NatSums: for any two numbers of at most 12 limbs, the program's sums, differences, products, comparison, bits and trimmed limbs are the reference's. No condition but the machine's own bounds. -/
import Derived.Test.YtaclkccgjpjdjaaQNatSumsNaBase
import Derived.Test.YtaclkccgjpjdjaaQNatSumsSx1
namespace Go.Proofs.Ytaclkccgjpjdjaa.Pure
open Go.RowKit Go.Proofs.Ytaclkccgjpjdjaa.S Go.Proofs.YtaclkccgjpjdjaaW.PrintWords Go.Proofs.YtaclkccgjpjdjaaW.PrintLast Go.Proofs.Ytaclkccgjpjdjaa.Nt Go.Proofs.Ytaclkccgjpjdjaa.Na
set_option linter.unusedVariables false
set_option linter.unusedSimpArgs false
theorem NatSums : foliotlaw01_NatSums.Pure := by
  intro a b _ _ ha _ _ hb
  have la := lim_of ha
  have lb := lim_of hb
  by_cases h12 : a.length ≤ 12 ∧ b.length ≤ 12
  · have fa : fits a := fits_of la (by omega)
    have fb : fits b := fits_of lb (by omega)
    have ra : Nb.rfits a := ⟨la, by omega⟩
    have rb : Nb.rfits b := ⟨lb, by omega⟩
    have lenA := len_val_le la
    have lenB := len_val_le lb
    have l1 := len_add (val a) (val b)
    have l2 := len_mul (val a) (val b)
    have l3 : (ofN (val a - val b)).length ≤ (ofN (val a)).length := len_mono (Nat.sub_le _ _)
    have e0 : nat_Sub.f a b = foliotref01_Sub.f a b := (if_pos ⟨fa, fb⟩).trans (if_pos ⟨ra, rb⟩).symm
    have e1 : nat_Add.f a b = some (ofN (val a + val b)) := if_pos ⟨fa, fb⟩
    have e2 : foliotref01_Add.f a b = some (ofN (val a + val b)) := if_pos ⟨ra, rb⟩
    have e3 : nat_Mul.f a b = some (ofN (val a * val b)) := if_pos ⟨fa, fb⟩
    have e4 : foliotref01_Mul.f a b = some (ofN (val a * val b)) := if_pos ⟨ra, rb⟩
    have e5 : nat_Cmp.f a b = some (Nb.cmp3 (val a) (val b)) := if_pos ⟨fa, fb⟩
    have e6 : foliotref01_Cmp.f a b = some (Nb.cmp3 (val a) (val b)) := if_pos ⟨ra, rb⟩
    have e7 : nat_Bits.f a = some ((Nb.bitsN (val a)).length : Int) := if_pos fa
    have e8 : foliotref01_Bits.f a = some ((Nb.bitsN (val a)).length : Int) := if_pos ra
    have e9 : nat_Trim.f a = some (ofN (val a)) := if_pos fa
    have e10 : foliotref01_Trim.f a = some (ofN (val a)) := if_pos ra
    obtain ⟨⟨d, x⟩, e11, hd⟩ : ∃ p : List Int × Int, foliotref01_Sub.f a b = some p ∧ p.1.length ≤ 12 := by
      refine ⟨_, if_pos ⟨ra, rb⟩, ?_⟩
      split
      · simp
      · simp only; omega
    rw [e11] at e0
    obtain ⟨K1, h1⟩ := same_of (l := ofN (val a + val b)) (m := ofN (val a + val b)) (by omega) rfl
    obtain ⟨K2, h2⟩ := same_of (l := ofN (val a * val b)) (m := ofN (val a * val b)) (by omega) rfl
    obtain ⟨K3, h3⟩ := same_of (l := d) (m := d) (by simp only at hd; omega) rfl
    obtain ⟨K4, h4⟩ := same_of (l := ofN (val a)) (m := ofN (val a)) (by omega) rfl
    obtain ⟨K5, h5⟩ := awake_ev
    refine ⟨K1 + K2 + K3 + K4 + K5, ?_⟩
    unfold foliotlaw01_NatSums.f
    have g : (decide (a.length ≤ 12) && decide (b.length ≤ 12)) = true := by simp [h12.1, h12.2]
    rw [few_at, g]
    simp only [Option.bind_some, if_true, e0, e1, e2, e3, e4, e5, e6, e7, e8, e9, e10, e11]
    simp only [h1 _ (show K1 ≤ K1 + K2 + K3 + K4 + K5 by omega), h2 _ (show K2 ≤ K1 + K2 + K3 + K4 + K5 by omega), h3 _ (show K3 ≤ K1 + K2 + K3 + K4 + K5 by omega), h4 _ (show K4 ≤ K1 + K2 + K3 + K4 + K5 by omega), h5 _ (show K5 ≤ K1 + K2 + K3 + K4 + K5 by omega), Option.bind_some, if_true]
  · refine ⟨0, ?_⟩
    unfold foliotlaw01_NatSums.f
    have g : (decide (a.length ≤ 12) && decide (b.length ≤ 12)) = false := by
      rw [← Bool.decide_and]; exact decide_eq_false h12
    rw [few_at, g]
    rfl
end Go.Proofs.Ytaclkccgjpjdjaa.Pure
