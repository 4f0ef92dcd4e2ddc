/-! Numbers as rows of limbs (base 2^32, the least first): plain lemmas. -/
namespace Go.Proofs.Ytaclkccgjpjdjaa.Nt
/-- the number of a row of limbs -/
def val : List Int → Nat
  | [] => 0
  | x :: l => x.toNat + 4294967296 * val l
/-- are they limbs? -/
def lim (l : List Int) : Prop := ∀ x ∈ l, 0 ≤ x ∧ x < 4294967296
def ofF : Nat → Nat → List Int
  | 0, _ => []
  | k + 1, n => if n = 0 then [] else ((n % 4294967296 : Nat) : Int) :: ofF k (n / 4294967296)
/-- the limbs of a number, none nought at the end -/
def ofN (n : Nat) : List Int := ofF n n
theorem ofF_zero (k : Nat) : ofF k 0 = [] := by cases k <;> simp [ofF]
theorem ofF_eq : ∀ (k m n : Nat), n ≤ k → n ≤ m → ofF k n = ofF m n
  | 0, m, n, h, _ => by obtain rfl : n = 0 := by omega
                        simp [ofF_zero]
  | k + 1, 0, n, _, h => by obtain rfl : n = 0 := by omega
                            simp [ofF_zero]
  | k + 1, m + 1, n, h, h' => by
    by_cases e : n = 0
    · subst e; simp [ofF]
    · simp only [ofF, if_neg e]; rw [ofF_eq k m (n / 4294967296) (by omega) (by omega)]
theorem ofN_zero : ofN 0 = [] := rfl
theorem ofN_pos {n : Nat} (h : n ≠ 0) : ofN n = ((n % 4294967296 : Nat) : Int) :: ofN (n / 4294967296) := by
  unfold ofN
  obtain ⟨k, rfl⟩ : ∃ k, n = k + 1 := ⟨n - 1, by omega⟩
  simp only [ofF, if_neg h]
  rw [ofF_eq k ((k + 1) / 4294967296) _ (by omega) (by omega)]
theorem val_nil : val [] = 0 := rfl
theorem val_cons (x : Int) (l : List Int) : val (x :: l) = x.toNat + 4294967296 * val l := rfl
theorem val_ofN (n : Nat) : val (ofN n) = n := by
  induction n using Nat.strongRecOn with
  | _ n ih =>
    by_cases h : n = 0
    · subst h; rfl
    · rw [ofN_pos h, val_cons, ih _ (by omega), Int.toNat_natCast]; omega
theorem lim_nil : lim [] := by intro x h; cases h
theorem lim_cons {x : Int} {l : List Int} : lim (x :: l) ↔ (0 ≤ x ∧ x < 4294967296) ∧ lim l := by simp [lim]
theorem lim_append {l m : List Int} : lim (l ++ m) ↔ lim l ∧ lim m := by
  simp only [lim, List.mem_append]
  exact ⟨fun h => ⟨fun x hx => h x (.inl hx), fun x hx => h x (.inr hx)⟩, fun h x hx => hx.elim (h.1 x) (h.2 x)⟩
theorem lim_ofN (n : Nat) : lim (ofN n) := by
  induction n using Nat.strongRecOn with
  | _ n ih =>
    by_cases h : n = 0
    · subst h; exact lim_nil
    · rw [ofN_pos h, lim_cons]; exact ⟨by omega, ih _ (by omega)⟩
theorem ofN_inj {m n : Nat} (h : ofN m = ofN n) : m = n := by rw [← val_ofN m, h, val_ofN]
theorem ofN_nil {n : Nat} : ofN n = [] ↔ n = 0 := ⟨fun h => ofN_inj (h.trans ofN_zero.symm), fun h => by rw [h]; rfl⟩
theorem val_append (l m : List Int) : val (l ++ m) = val l + 4294967296 ^ l.length * val m := by
  induction l with
  | nil => simp [val_nil]
  | cons x l ih => rw [List.cons_append, val_cons, ih, val_cons, List.length_cons, Nat.pow_succ]; grind
theorem val_lt {l : List Int} (h : lim l) : val l < 4294967296 ^ l.length := by
  induction l with
  | nil => simp [val_nil]
  | cons x l ih =>
    obtain ⟨hx, hl⟩ := lim_cons.1 h
    have := ih hl
    rw [val_cons, List.length_cons, Nat.pow_succ]
    omega
theorem val_replicate_zero (k : Nat) : val (List.replicate k 0) = 0 := by
  induction k with
  | zero => rfl
  | succ k ih => rw [List.replicate_succ, val_cons, ih]; rfl
/-- limbs without a nought at the end are the limbs of their number -/
theorem ofN_val {l : List Int} (h : lim l) (hl : ∀ x, l.getLast? = some x → x ≠ 0) : ofN (val l) = l := by
  induction l with
  | nil => rfl
  | cons x l ih =>
    obtain ⟨hx, hl'⟩ := lim_cons.1 h
    have hih : ofN (val l) = l := by
      apply ih hl'
      intro y hy
      cases l with
      | nil => simp at hy
      | cons z l => exact hl y (by rw [List.getLast?_cons_cons]; exact hy)
    have hne : val (x :: l) ≠ 0 := by
      intro e
      rw [val_cons] at e
      have h0 : val l = 0 := by omega
      rw [h0] at hih
      rw [← hih] at hl
      exact hl x (by simp [ofN_zero]) (by omega)
    rw [ofN_pos hne, val_cons, show (x.toNat + 4294967296 * val l) / 4294967296 = val l by omega, hih]
    congr 1
    omega
theorem val_snoc_zero (l : List Int) : val (l ++ [0]) = val l := by rw [val_append]; simp [val_cons, val_nil]
theorem len_ofN_le {n k : Nat} (h : n < 4294967296 ^ k) : (ofN n).length ≤ k := by
  induction k generalizing n with
  | zero => obtain rfl : n = 0 := by simpa using h
            exact Nat.le_refl _
  | succ k ih =>
    by_cases e : n = 0
    · subst e; exact Nat.zero_le _
    · rw [ofN_pos e, List.length_cons]
      have := ih (n := n / 4294967296) (by rw [Nat.pow_succ] at h; omega)
      omega
theorem lt_len_ofN (n : Nat) : n < 4294967296 ^ (ofN n).length := by
  have := val_lt (lim_ofN n); rwa [val_ofN] at this
theorem len_le_iff {n k : Nat} : (ofN n).length ≤ k ↔ n < 4294967296 ^ k :=
  ⟨fun h => Nat.lt_of_lt_of_le (lt_len_ofN n) (Nat.pow_le_pow_right (by omega) h), len_ofN_le⟩
theorem len_mono {m n : Nat} (h : m ≤ n) : (ofN m).length ≤ (ofN n).length := len_ofN_le (Nat.lt_of_le_of_lt h (lt_len_ofN n))
theorem len_val_le {l : List Int} (h : lim l) : (ofN (val l)).length ≤ l.length := len_ofN_le (val_lt h)
theorem len_mul (m n : Nat) : (ofN (m * n)).length ≤ (ofN m).length + (ofN n).length := by
  apply len_ofN_le
  rw [Nat.pow_add]
  exact Nat.mul_lt_mul'' (lt_len_ofN m) (lt_len_ofN n)
theorem len_add (m n : Nat) : (ofN (m + n)).length ≤ max (ofN m).length (ofN n).length + 1 := by
  apply len_ofN_le
  rw [Nat.pow_succ]
  have h1 := Nat.lt_of_lt_of_le (lt_len_ofN m) (Nat.pow_le_pow_right (n := 4294967296) (by omega) (Nat.le_max_left (ofN m).length (ofN n).length))
  have h2 := Nat.lt_of_lt_of_le (lt_len_ofN n) (Nat.pow_le_pow_right (n := 4294967296) (by omega) (Nat.le_max_right (ofN m).length (ofN n).length))
  omega
/-- a row and noughts behind it are the same number -/
theorem val_zeros (l : List Int) (m : List Int) (h : ∀ x ∈ m, x = 0) : val (l ++ m) = val l := by
  have : m = List.replicate m.length 0 := List.eq_replicate_iff.2 ⟨rfl, h⟩
  rw [val_append, this, val_replicate_zero]; omega
/-- what is left of a row when the noughts at its end are taken off -/
theorem take_ofN {l : List Int} (hl : lim l) (n : Nat) (hn : n ≤ l.length) (hz : ∀ j, n ≤ j → j < l.length → l.getD j 0 = 0) (hx : n = 0 ∨ l.getD (n - 1) 0 ≠ 0) : l.take n = ofN (val l) := by
  have e : val l = val (l.take n) := by
    have h := val_zeros (l.take n) (l.drop n) (fun x hx => by
      obtain ⟨j, hj, rfl⟩ := List.getElem_of_mem hx
      rw [List.length_drop] at hj
      have := hz (n + j) (by omega) (by omega)
      rw [List.getD_eq_getElem?_getD, List.getElem?_eq_getElem (by omega)] at this
      simpa using this)
    rwa [List.take_append_drop] at h
  have hlt : lim (l.take n) := fun x hx => hl x (List.mem_of_mem_take hx)
  rw [e, ofN_val hlt]
  intro x h
  rw [List.getLast?_eq_getElem?, List.length_take, Nat.min_eq_left hn] at h
  rcases hx with rfl | hx
  · simp at h
  · by_cases h0 : n = 0
    · subst h0; simp at h
    · rw [List.getElem?_take_of_lt (by omega)] at h
      rw [List.getD_eq_getElem?_getD, h] at hx
      simpa using hx
/-- limbs that are not too many for the machine -/
def fits (l : List Int) : Prop := lim l ∧ l.length ≤ 8796093022208
instance (l : List Int) : Decidable (lim l) := List.decidableBAll _ l
instance (l : List Int) : Decidable (fits l) := inferInstanceAs (Decidable (_ ∧ _))
theorem fits.lt {l : List Int} (h : fits l) : l.length < 35184372088800 := by have := h.2; omega
theorem fits_ofN {n : Nat} (h : (ofN n).length ≤ 8796093022208) : fits (ofN n) := ⟨lim_ofN n, h⟩
end Go.Proofs.Ytaclkccgjpjdjaa.Nt
