/- NatRest: for any two numbers of at most 12 limbs, the quotient times the divisor and the rest are the number, and the rest is below the divisor; a division by nought tells ErrZero and nothing else. No condition but the machine's own bounds. -/
import Derived.Test.YtaclkccgjpjdjaaNaBase
import Derived.Test.YtaclkccgjpjdjaaAx1
namespace Go.Proofs.Ytaclkccgjpjdjaa.Pure
open Go.RowKit Go.Proofs.Ytaclkccgjpjdjaa.A Go.Proofs.YtaclkccgjpjdjaaW.PrintWords Go.Proofs.YtaclkccgjpjdjaaW.PrintLast Go.Proofs.Ytaclkccgjpjdjaa.Nt Go.Proofs.Ytaclkccgjpjdjaa.Na
theorem NatRest : foliotlaw01_NatRest.Pure := by
  intro a b _ _ ha _ _ hb
  apply Ev.rounds (r := true)
  have la := lim_of ha
  have lb := lim_of hb
  unfold foliotlaw01_NatRest.f
  rw [few_at]
  simp only [Option.bind_some]
  by_cases h12 : (decide (a.length ≤ 12) && decide (b.length ≤ 12)) = true
  · simp only [h12, if_true]
    simp only [Bool.and_eq_true, decide_eq_true_eq] at h12
    have fa : fits a := fits_of la (by omega)
    have fb : fits b := fits_of lb (by omega)
    have lenA := len_val_le la
    have lenB := len_val_le lb
    by_cases h0 : val b = 0
    · rw [div_zero fa fb h0, trim_at fb]
      simp only [Option.bind_some, h0, ofN_zero, List.length_nil, Int.natCast_zero, if_true, show wrap64 (0 + 0) = 0 from w64 (by decide) (by decide)]
      exact Ev.bind awake_ev (Ev.now _)
    · have hlen : ((ofN (val b)).length : Int) ≠ 0 := fun e => h0 (ofN_nil.1 (List.eq_nil_of_length_eq_zero (by omega)))
      have fq : fits (ofN (val a / val b)) := fits_ofN (Nat.le_trans (len_mono (Nat.div_le_self _ _)) (by omega))
      have hml := Nat.mod_lt (val a) (Nat.pos_of_ne_zero h0)
      have fr : fits (ofN (val a % val b)) := fits_ofN (Nat.le_trans (len_mono (Nat.mod_le _ _)) (by omega))
      have hdm := Nat.div_add_mod' (val a) (val b)
      have fm : fits (ofN (val a / val b * val b)) := fits_ofN (Nat.le_trans (len_mono (show val a / val b * val b ≤ val a by omega)) (by omega))
      rw [div_at fa fb h0, trim_at fb, trim_at fa]
      simp only [Option.bind_some, hlen, if_false, if_true, mul_at fq fb, val_ofN, add_at fm fr, hdm, cmp_at fr fb]
      refine Ev.bind (same_of (by omega) rfl) ?_
      simp only [if_true, if_pos hml, show ((-1 : Int) < 0) = True from eq_true (by decide)]
      exact Ev.bind awake_ev (Ev.now _)
  · simp only [h12]
    exact Ev.now _
end Go.Proofs.Ytaclkccgjpjdjaa.Pure
