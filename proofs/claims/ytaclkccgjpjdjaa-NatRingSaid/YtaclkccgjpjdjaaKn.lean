namespace Go.Proofs.Ytaclkccgjpjdjaa.Nt
/-- the first guess is not too small -/
theorem kn_first {qt v1 v2 vr P t u2 ur U V : Nat} (hV : V = (v1 * 4294967296 + v2) * P + vr) (hU : U = (t * 4294967296 + u2) * P + ur) (h : qt * V ≤ U) (hu2 : u2 < 4294967296) (hur : ur < P) (hv1 : 0 < v1) : qt ≤ t / v1 := by
  rw [Nat.le_div_iff_mul_le hv1]
  apply Nat.le_of_not_lt
  intro hc
  have h1 : (t + 1) * (4294967296 * P) ≤ (qt * v1) * (4294967296 * P) := Nat.mul_le_mul_right _ hc
  have h2 : (qt * v1) * (4294967296 * P) ≤ qt * V := by
    rw [hV, Nat.mul_assoc]
    apply Nat.mul_le_mul_left
    have : v1 * (4294967296 * P) = v1 * 4294967296 * P := by rw [Nat.mul_assoc]
    rw [this, Nat.add_mul]; omega
  have h3 : (u2 + 1) * P ≤ 4294967296 * P := Nat.mul_le_mul_right _ hu2
  rw [Nat.add_mul] at h1 h3
  have h4 : U = t * (4294967296 * P) + u2 * P + ur := by rw [hU, Nat.add_mul, Nat.mul_assoc]
  omega
/-- where the test with the second limb says so, the guess is too large -/
theorem kn_less {qt q r v1 v2 vr P t u2 ur U V : Nat} (hV : V = (v1 * 4294967296 + v2) * P + vr) (hU : U = (t * 4294967296 + u2) * P + ur) (h : qt * V ≤ U) (hur : ur < P) (ht : t = q * v1 + r) (hc : r * 4294967296 + u2 < q * v2) : qt < q := by
  apply Nat.lt_of_not_le
  intro hq
  have h1 : q * V ≤ qt * V := Nat.mul_le_mul_right _ hq
  have h2 : q * V = (q * (v1 * 4294967296 + v2)) * P + q * vr := by rw [hV, Nat.mul_add, Nat.mul_assoc]
  have h3 : t * 4294967296 + u2 + 1 ≤ q * (v1 * 4294967296 + v2) := by
    rw [Nat.mul_add, ← Nat.mul_assoc, ht, Nat.add_mul]; omega
  have h4 := Nat.mul_le_mul_right P h3
  rw [Nat.add_mul _ 1] at h4
  omega
/-- where it doesn't, it is one too large at most -/
theorem kn_near {q r v1 v2 vr P t u2 ur U V : Nat} (hV : V = (v1 * 4294967296 + v2) * P + vr) (hU : U = (t * 4294967296 + u2) * P + ur) (hvr : vr < P) (hv1 : 0 < v1) (hq : q < 4294967296) (ht : t = q * v1 + r) (hc : q * v2 ≤ r * 4294967296 + u2) : (q - 1) * V ≤ U := by
  have h3 : q * (v1 * 4294967296 + v2) ≤ t * 4294967296 + u2 := by
    rw [Nat.mul_add, ← Nat.mul_assoc, ht, Nat.add_mul]; omega
  have h4 := Nat.mul_le_mul_right P h3
  rcases Nat.eq_zero_or_pos q with rfl | hp
  · simp
  · obtain ⟨p, rfl⟩ : ∃ p, q = p + 1 := ⟨q - 1, by omega⟩
    rw [Nat.add_sub_cancel]
    have h5 : p * V = p * (v1 * 4294967296 + v2) * P + p * vr := by rw [hV, Nat.mul_add, Nat.mul_assoc]
    have h6 : p * vr ≤ (v1 * 4294967296 + v2) * P := Nat.mul_le_mul (by omega) (by omega)
    rw [Nat.add_mul p 1, Nat.one_mul, Nat.add_mul] at h4
    omega
end Go.Proofs.Ytaclkccgjpjdjaa.Nt
