/- NatShares: for any three numbers of at most 12 limbs, the greatest common divisor of a*c and b*c divides both, c divides it, and it does not hang on the order; it is nought only where both are. No condition but the machine's own bounds. -/
import Derived.Test.YtaclkccgjpjdjaaNaBase
import Derived.Test.YtaclkccgjpjdjaaAx1
namespace Go.Proofs.Ytaclkccgjpjdjaa.Pure
open Go.RowKit Go.Proofs.Ytaclkccgjpjdjaa.A Go.Proofs.YtaclkccgjpjdjaaW.PrintWords Go.Proofs.YtaclkccgjpjdjaaW.PrintLast Go.Proofs.Ytaclkccgjpjdjaa.Nt Go.Proofs.Ytaclkccgjpjdjaa.Na
theorem NatShares_j {a b c : List Int} (fa : fits a) (fb : fits b) (fc : fits c) (hl : a.length ≤ 12 ∧ b.length ≤ 12 ∧ c.length ≤ 12) : Ev (fun k => foliotlaw01_NatShares.j0 k a b c false) true := by
  have lenA := len_val_le fa.1
  have lenB := len_val_le fb.1
  have lenC := len_val_le fc.1
  have lx := len_mul (val a) (val c)
  have ly := len_mul (val b) (val c)
  have fx : fits (ofN (val a * val c)) := fits_ofN (by omega)
  have fy : fits (ofN (val b * val c)) := fits_ofN (by omega)
  generalize hA : val a = A at *
  generalize hB : val b = B at *
  generalize hC : val c = C at *
  have eg : Nat.gcd (A * C) (B * C) = Nat.gcd A B * C := Nat.gcd_mul_right _ _ _
  have e1 := mul_at fa fc
  have e2 := mul_at fb fc
  have e3 := gcd_at fx fy
  have e4 := gcd_at fy fx
  have t1 := trim_at fx
  have t2 := trim_at fy
  rw [hA, hC] at e1
  rw [hB, hC] at e2
  rw [val_ofN, val_ofN] at e3
  rw [val_ofN, val_ofN, Nat.gcd_comm] at e4
  rw [val_ofN] at t1 t2
  have wz : wrap64 (0 + 0) = 0 := w64 (by decide) (by decide)
  by_cases h0 : Nat.gcd (A * C) (B * C) = 0
  · obtain ⟨hx, hy⟩ := Nat.gcd_eq_zero_iff.1 h0
    have z1 : ((ofN (Nat.gcd (A * C) (B * C))).length : Int) = 0 := by rw [h0, ofN_zero]; rfl
    have z2 : ((ofN (A * C)).length : Int) = 0 := by rw [hx, ofN_zero]; rfl
    have z3 : ((ofN (B * C)).length : Int) = 0 := by rw [hy, ofN_zero]; rfl
    generalize ofN (Nat.gcd (A * C) (B * C)) = G at *
    generalize ofN (A * C) = X at *
    generalize ofN (B * C) = Y at *
    refine Ev.step (f := fun k => (foliotlaw01_awake.f k).bind fun t => some t) (fun k => ?_) (Ev.bind awake_ev (Ev.now _))
    simp only [foliotlaw01_NatShares.j0, Bool.false_eq_true, if_false, e1, e2, e3, Option.bind_some]
    rw [if_pos z1, t1, Option.bind_some, t2, Option.bind_some, z2, z3, wz, if_pos rfl]
  · have hd1 : Nat.gcd (A * C) (B * C) ∣ A * C := Nat.gcd_dvd_left _ _
    have hd2 : Nat.gcd (A * C) (B * C) ∣ B * C := Nat.gcd_dvd_right _ _
    have hC0 : C ≠ 0 := fun e => h0 (by rw [e]; simp)
    have hd3 : C ∣ Nat.gcd (A * C) (B * C) := by rw [eg]; exact Nat.dvd_mul_left _ _
    have hgl : (ofN (Nat.gcd (A * C) (B * C))).length ≤ 100 := by
      by_cases hx : A * C = 0
      · have hy : B * C ≠ 0 := fun e => h0 (by rw [hx, e]; rfl)
        exact Nat.le_trans (len_mono (Nat.le_of_dvd (Nat.pos_of_ne_zero hy) hd2)) (by omega)
      · exact Nat.le_trans (len_mono (Nat.le_of_dvd (Nat.pos_of_ne_zero hx) hd1)) (by omega)
    have fg : fits (ofN (Nat.gcd (A * C) (B * C))) := fits_ofN (by omega)
    have hlen : ((ofN (Nat.gcd (A * C) (B * C))).length : Int) ≠ 0 := fun e => h0 (ofN_nil.1 (List.eq_nil_of_length_eq_zero (by omega)))
    have d1 := div_at fx fg (by rw [val_ofN]; exact h0)
    have d2 := div_at fy fg (by rw [val_ofN]; exact h0)
    have d3 := div_at fg fc (by rw [hC]; exact hC0)
    rw [val_ofN, val_ofN, Nat.mod_eq_zero_of_dvd hd1, ofN_zero] at d1
    rw [val_ofN, val_ofN, Nat.mod_eq_zero_of_dvd hd2, ofN_zero] at d2
    rw [val_ofN, hC, Nat.mod_eq_zero_of_dvd hd3, ofN_zero] at d3
    generalize ofN (A * C / Nat.gcd (A * C) (B * C)) = Q1 at *
    generalize ofN (B * C / Nat.gcd (A * C) (B * C)) = Q2 at *
    generalize ofN (Nat.gcd (A * C) (B * C) / C) = Q3 at *
    generalize ofN (Nat.gcd (A * C) (B * C)) = G at *
    generalize ofN (A * C) = X at *
    generalize ofN (B * C) = Y at *
    have hs := same_of (l := G) (m := G) (by omega) rfl
    refine Ev.step (f := fun k => (foliotref01_Same.f k G G).bind fun t => if t = true then (foliotlaw01_awake.f k).bind fun t => some t else none) (fun k => ?_) (Ev.bind hs (by simp only [if_true]; exact Ev.bind awake_ev (Ev.now _)))
    have zl : (([] : List Int).length : Int) = 0 := rfl
    have wz2 : wrap64 (wrap64 (0 + 0) + 0) = 0 := by rw [wz]; exact wz
    simp only [foliotlaw01_NatShares.j0, Bool.false_eq_true, if_false, e1, e2, e3, Option.bind_some]
    rw [if_neg hlen, d1, Option.bind_some, d2, Option.bind_some, d3, Option.bind_some]
    show (if wrap64 (wrap64 ((([] : List Int).length : Int) + (([] : List Int).length : Int)) + (([] : List Int).length : Int)) = 0 then (if (0 : Int) = 0 then (nat_Gcd.f Y X).bind fun t => (foliotref01_Same.f k t G).bind fun t => if t = true then (foliotlaw01_awake.f k).bind fun t => some t else none else none) else none) = _
    rw [zl, wz2, if_pos rfl, if_pos rfl, e4, Option.bind_some]
theorem NatShares : foliotlaw01_NatShares.Pure := by
  intro a b c _ _ ha _ _ hb _ _ hc
  apply Ev.rounds (r := true)
  have la := lim_of ha
  have lb := lim_of hb
  have lc := lim_of hc
  unfold foliotlaw01_NatShares.f
  rw [few_at, few_at]
  simp only [Option.bind_some, List.length_nil]
  have hno : Ev (fun k => foliotlaw01_NatShares.j0 k a b c true) true := Ev.step (f := fun _ => some true) (fun k => by simp [foliotlaw01_NatShares.j0]) (Ev.now _)
  by_cases h12 : (decide (a.length ≤ 12) && decide (b.length ≤ 12)) = true
  · simp only [h12, if_true]
    by_cases hc12 : c.length ≤ 12
    · simp only [hc12, decide_true, Nat.zero_le, Bool.and_self, Bool.not_true]
      simp only [Bool.and_eq_true, decide_eq_true_eq] at h12
      exact NatShares_j (fits_of la (by omega)) (fits_of lb (by omega)) (fits_of lc (by omega)) ⟨h12.1, h12.2, hc12⟩
    · simp only [hc12, decide_false, Bool.false_and, Bool.not_false]
      exact hno
  · simp only [h12]
    exact hno
end Go.Proofs.Ytaclkccgjpjdjaa.Pure
