/- NatDivides: for any two numbers of at most 12 limbs, the program's quotient and rest, and (up to 6 limbs) the greatest common divisor, are the reference's. No condition but the machine's own bounds. -/
import Derived.Test.YtaclkccgjpjdjaaQNatDividesNaBase
import Derived.Test.YtaclkccgjpjdjaaQNatDividesDx1
namespace Go.Proofs.Ytaclkccgjpjdjaa.Pure
open Go.RowKit Go.Proofs.Ytaclkccgjpjdjaa.D Go.Proofs.YtaclkccgjpjdjaaW.PrintWords Go.Proofs.YtaclkccgjpjdjaaW.PrintLast Go.Proofs.Ytaclkccgjpjdjaa.Nt Go.Proofs.Ytaclkccgjpjdjaa.Na
set_option linter.unusedVariables false
set_option linter.unusedSimpArgs false
theorem NatDivides : foliotlaw01_NatDivides.Pure := by
  intro a b _ _ ha _ _ hb
  have la := lim_of ha
  have lb := lim_of hb
  by_cases h12 : a.length ≤ 12 ∧ b.length ≤ 12
  · have fa : fits a := fits_of la (by omega)
    have fb : fits b := fits_of lb (by omega)
    have ra : Nb.rfits a := ⟨la, by omega⟩
    have rb : Nb.rfits b := ⟨lb, by omega⟩
    have lenA := len_val_le la
    have lenB := len_val_le lb
    have l1 : (ofN (val a / val b)).length ≤ (ofN (val a)).length := len_mono (Nat.div_le_self _ _)
    have l2 : (ofN (val a % val b)).length ≤ (ofN (val a)).length := len_mono (Nat.mod_le _ _)
    have l3 : (ofN (Nat.gcd (val a) (val b))).length ≤ 12 := by
      by_cases h0 : val a = 0
      · rw [h0, Nat.gcd_zero_left]; omega
      · exact Nat.le_trans (len_mono (Nat.le_of_dvd (Nat.pos_of_ne_zero h0) (Nat.gcd_dvd_left _ _))) (by omega)
    have e0 : nat_Div.f a b = foliotref01_Div.f a b := (if_pos ⟨fa, fb⟩).trans (if_pos ⟨ra, rb⟩).symm
    have e1 : nat_Gcd.f a b = some (ofN (Nat.gcd (val a) (val b))) := if_pos ⟨fa, fb⟩
    have e2 : foliotref01_Gcd.f a b = some (ofN (Nat.gcd (val a) (val b))) := if_pos ⟨ra, rb⟩
    obtain ⟨⟨p, q, x⟩, e11, hp, hq⟩ : ∃ p : List Int × List Int × Int, foliotref01_Div.f a b = some p ∧ p.1.length ≤ 12 ∧ p.2.1.length ≤ 12 := by
      refine ⟨_, if_pos ⟨ra, rb⟩, ?_⟩
      unfold Nb.divided
      split
      · simp
      · simp only; omega
    rw [e11] at e0
    simp only at hp hq
    obtain ⟨K1, h1⟩ := same_of (l := p) (m := p) (by omega) rfl
    obtain ⟨K2, h2⟩ := same_of (l := q) (m := q) (by omega) rfl
    obtain ⟨K3, h3⟩ := same_of (l := ofN (Nat.gcd (val a) (val b))) (m := ofN (Nat.gcd (val a) (val b))) (by omega) rfl
    obtain ⟨K5, h5⟩ := awake_ev
    refine ⟨K1 + K2 + K3 + K5 + 1, ?_⟩
    have g : (decide (a.length ≤ 12) && decide (b.length ≤ 12)) = true := by simp [h12.1, h12.2]
    have hj : foliotlaw01_NatDivides.j0 (K1 + K2 + K3 + K5 + 1) a b (x != x) = some true := by
      simp only [foliotlaw01_NatDivides.j0, bne_self_eq_false, Bool.false_eq_true, if_false, e1, e2, Option.bind_some]
      simp only [h5 _ (show K5 ≤ K1 + K2 + K3 + K5 by omega), h3 _ (show K3 ≤ K1 + K2 + K3 + K5 by omega), Option.bind_some, if_true, ite_self]
    unfold foliotlaw01_NatDivides.f
    rw [few_at, g]
    simp only [Option.bind_some, if_true, e0, e11]
    simp only [h1 _ (show K1 ≤ K1 + K2 + K3 + K5 + 1 by omega), h2 _ (show K2 ≤ K1 + K2 + K3 + K5 + 1 by omega), Option.bind_some, if_true]
    exact hj
  · refine ⟨0, ?_⟩
    unfold foliotlaw01_NatDivides.f
    have g : (decide (a.length ≤ 12) && decide (b.length ≤ 12)) = false := by
      rw [← Bool.decide_and]; exact decide_eq_false h12
    rw [few_at, g]
    rfl
end Go.Proofs.Ytaclkccgjpjdjaa.Pure
