/- The nat functions as they are printed tell the numbers that they should: cut, Trim, Cmp, Add, Mul. -/
import Derived.Test.YtaclkccgjpjdjaaNt
import Derived.Test.YtaclkccgjpjdjaaNx1
import Derived.Test.YtaclkccgjpjdjaaNx5
import Derived.Test.YtaclkccgjpjdjaaNx5
import Derived.Test.YtaclkccgjpjdjaaNx5
namespace Go.Proofs.Ytaclkccgjpjdjaa.Nt
open Go.RowKit Go.Proofs.YtaclkccgjpjdjaaW.PrintWords Go.Proofs.YtaclkccgjpjdjaaW.PrintMore Go.Proofs.Ytaclkccgjpjdjaa.N
set_option linter.unusedVariables false
set_option linter.unusedSimpArgs false
theorem w64 {x : Int} (h0 : -9223372036854775808 ≤ x) (h1 : x ≤ 9223372036854775807) : wrap64 x = x := by unfold wrap64; omega
theorem u64 {x : Int} (h0 : 0 ≤ x) (h1 : x < 18446744073709551616) : IntKind.u64.wrap x = x := by
  simp only [IntKind.wrap, IntKind.signed, IntKind.bits]; simp; omega
theorem rd_app (p : List Int) (x : Int) (r : List Int) (i : Int) (h : i = p.length) : rd (p ++ x :: r) i = x := by
  subst h; simp [rd]
theorem set_app (p : List Int) (x y : Int) (r : List Int) (i : Int) (h : i = p.length) : (p ++ x :: r).set i.toNat y = p ++ y :: r := by
  subst h; simp
theorem rd_drop {a : List Int} {i : Nat} {x : Int} {r : List Int} (h : a.drop i = x :: r) : rd a (i : Int) = x ∧ i < a.length ∧ a.drop (i + 1) = r := by
  have hl : i < a.length := by
    apply Nat.lt_of_not_le; intro hc; rw [List.drop_eq_nil_of_le hc] at h; cases h
  rw [List.drop_eq_getElem_cons hl] at h
  injection h with h1 h2
  exact ⟨by simp [rd, hl, h1], hl, h2⟩
theorem lim_drop {a : List Int} (h : lim a) (i : Nat) : lim (a.drop i) := fun x hx => h x (List.mem_of_mem_drop hx)
theorem lim_take {a : List Int} (h : lim a) (i : Nat) : lim (a.take i) := fun x hx => h x (List.mem_of_mem_take hx)
theorem rd_lim {a : List Int} (h : lim a) (i : Int) : 0 ≤ rd a i ∧ rd a i < 4294967296 := by
  unfold rd
  rw [List.getD_eq_getElem?_getD]
  by_cases hi : i.toNat < a.length
  · rw [List.getElem?_eq_getElem hi]; exact h _ (List.getElem_mem _)
  · rw [List.getElem?_eq_none (by omega)]; exact ⟨by decide, by decide⟩
/-! ### cut -/
theorem cut_l0 {a : List Int} (ha : lim a) (hl : a.length ≤ 9223372036854775807) : ∀ n : Nat, n ≤ a.length → (∀ j, n ≤ j → j < a.length → a.getD j 0 = 0) → Ev (fun k => nat_cut.l0 k a (n : Int)) (ofN (val a)) := by
  intro n
  induction n with
  | zero =>
    intro _ hz
    refine Ev.step (f := fun _ => some (a.take 0)) (fun k => ?_) ?_
    · simp only [nat_cut.l0]; rw [if_neg (by omega), if_pos (by omega), if_pos (by omega)]; rfl
    · rw [← take_ofN ha 0 (Nat.zero_le _) (fun j _ hj => hz j (Nat.zero_le _) hj) (.inl rfl)]; exact Ev.now _
  | succ n ih =>
    intro hn hz
    have e : wrap64 (((n + 1 : Nat) : Int) - 1) = (n : Int) := by rw [w64 (by omega) (by omega)]; omega
    have er : rd a (n : Int) = a.getD n 0 := by simp [rd]
    by_cases h0 : a.getD n 0 = 0
    · refine Ev.step (f := fun k => nat_cut.l0 k a (n : Int)) (fun k => ?_) (ih (by omega) (fun j hj hj' => ?_))
      · simp only [nat_cut.l0]; rw [if_pos (by omega), e, if_pos (by omega), if_pos (by omega), er, if_pos h0]
      · by_cases ej : j = n
        · subst ej; exact h0
        · exact hz j (by omega) hj'
    · refine Ev.step (f := fun _ => some (a.take (n + 1))) (fun k => ?_) ?_
      · simp only [nat_cut.l0]; rw [if_pos (by omega), e, if_pos (by omega), if_pos (by omega), er, if_neg h0, if_pos (by omega), if_pos (by omega)]; rfl
      · rw [← take_ofN ha (n + 1) hn hz (.inr (by simpa using h0))]; exact Ev.now _
theorem cut_ev {a : List Int} (ha : lim a) (hl : a.length ≤ 9223372036854775807) : Ev (fun k => nat_cut.f k a) (ofN (val a)) :=
  cut_l0 ha hl a.length (Nat.le_refl _) (fun j h h' => by omega)
theorem clone_some {a : List Int} (hl : a.length < 35184372088832) : slices_Clone_uint32_uint32.f a = some a := by
  simp only [slices_Clone_uint32_uint32.f, Option.bind_some, List.length_nil, List.nil_append]; rw [if_pos (by omega)]
theorem len_cut {a : List Int} (ha : lim a) : (ofN (val a)).length ≤ a.length := len_val_le ha
theorem trim_ev {a : List Int} (ha : lim a) (hl : a.length < 35184372088832) : Ev (fun k => nat_Trim.f k a) (ofN (val a)) := by
  unfold nat_Trim.f
  refine Ev.bind (cut_ev ha (by omega)) ?_
  have := len_cut ha
  rw [clone_some (by omega)]; exact Ev.now _
/-! ### Cmp -/
theorem cmp_l0 : ∀ (p q : List Int), lim p → lim q → p.length = q.length → p.length ≤ 9223372036854775807 → ∀ r s : List Int, Ev (fun k => nat_Cmp.l0 k (p ++ r) (q ++ s) ((p.length : Int) - 1)) (if val p < val q then -1 else if val q < val p then 1 else 0) := by
  intro p
  induction hn : p.length generalizing p with
  | zero =>
    intro q _ _ hq _ r s
    obtain rfl : p = [] := List.eq_nil_of_length_eq_zero hn
    obtain rfl : q = [] := List.eq_nil_of_length_eq_zero (by omega)
    refine Ev.step (f := fun _ => some 0) (fun k => ?_) ?_
    · simp only [nat_Cmp.l0]; rw [if_neg (by simp)]
    · simp only [val_nil, Nat.lt_irrefl, if_false]; exact Ev.now _
  | succ n ih =>
    intro q hp hq hpq hl r s
    obtain ⟨p, x, rfl⟩ : ∃ p' x, p = p' ++ [x] := ⟨p.dropLast, p.getLast (by intro e; rw [e] at hn; simp at hn), (List.dropLast_concat_getLast _).symm⟩
    obtain ⟨q, y, rfl⟩ : ∃ q' y, q = q' ++ [y] := ⟨q.dropLast, q.getLast (by intro e; rw [e] at hpq; simp at hpq), (List.dropLast_concat_getLast _).symm⟩
    simp only [List.length_append, List.length_singleton] at hn hpq
    obtain ⟨hp1, hx⟩ := lim_append.1 hp
    obtain ⟨hq1, hy⟩ := lim_append.1 hq
    have hx := hx x (by simp)
    have hy := hy y (by simp)
    have vp := val_lt hp1
    have vq := val_lt hq1
    have eP : val (p ++ [x]) = val p + 4294967296 ^ n * x.toNat := by rw [val_append]; simp [val_cons, val_nil, show p.length = n by omega]
    have eQ : val (q ++ [y]) = val q + 4294967296 ^ n * y.toNat := by rw [val_append]; simp [val_cons, val_nil, show q.length = n by omega]
    rw [show p.length = n by omega] at vp
    rw [show q.length = n by omega] at vq
    have ei : ((n + 1 : Nat) : Int) - 1 = (n : Int) := by omega
    have r1 : rd (p ++ [x] ++ r) (n : Int) = x := by rw [List.append_assoc]; exact rd_app _ _ _ _ (by omega)
    have r2 : rd (q ++ [y] ++ s) (n : Int) = y := by rw [List.append_assoc]; exact rd_app _ _ _ _ (by omega)
    rw [ei]
    by_cases hlt : x < y
    · have hm : 4294967296 ^ n * (x.toNat + 1) ≤ 4294967296 ^ n * y.toNat := Nat.mul_le_mul_left _ (by omega)
      rw [Nat.mul_add] at hm
      rw [if_pos (by omega)]
      refine Ev.step (f := fun _ => some (-1)) (fun k => ?_) (Ev.now _)
      simp only [nat_Cmp.l0]; rw [if_pos (by omega), if_pos (by omega), if_pos (by simp; omega), if_pos (by simp; omega), r1, r2, if_pos hlt]
    · by_cases hgt : x > y
      · have hm : 4294967296 ^ n * (y.toNat + 1) ≤ 4294967296 ^ n * x.toNat := Nat.mul_le_mul_left _ (by omega)
        rw [Nat.mul_add] at hm
        rw [if_neg (by omega), if_pos (by omega)]
        refine Ev.step (f := fun _ => some 1) (fun k => ?_) (Ev.now _)
        simp only [nat_Cmp.l0]; rw [if_pos (by omega), if_pos (by omega), if_pos (by simp; omega), if_pos (by simp; omega), r1, r2, if_neg hlt, if_pos hgt]
      · obtain rfl : x = y := by omega
        have h := ih p (by omega) q hp1 hq1 (by omega) (by omega) ([x] ++ r) ([x] ++ s)
        rw [← List.append_assoc, ← List.append_assoc] at h
        refine Ev.step (f := fun k => nat_Cmp.l0 k (p ++ [x] ++ r) (q ++ [x] ++ s) ((n : Int) - 1)) (fun k => ?_) ?_
        · simp only [nat_Cmp.l0]; rw [if_pos (by omega), if_pos (by omega), if_pos (by simp; omega), if_pos (by simp; omega), r1, r2, if_neg hlt, if_neg hgt, w64 (by omega) (by omega)]
        · rw [eP, eQ]
          simp only [Nat.add_lt_add_iff_right]
          exact h
theorem len_lt_val {m n : Nat} (h : (ofN m).length < (ofN n).length) : m < n := by
  apply Nat.lt_of_not_le; intro hc; have := len_mono hc; omega
theorem cmp_ev {a b : List Int} (ha : lim a) (hb : lim b) (hl : a.length ≤ 9223372036854775807) (hm : b.length ≤ 9223372036854775807) :
    Ev (fun k => nat_Cmp.f k a b) (if val a < val b then -1 else if val b < val a then 1 else 0) := by
  unfold nat_Cmp.f
  refine Ev.bind (cut_ev ha hl) (Ev.bind (cut_ev hb hm) ?_)
  have h1 := len_cut ha
  have h2 := len_cut hb
  by_cases c : (ofN (val a)).length < (ofN (val b)).length
  · have := len_lt_val c
    refine Ev.congr (f := fun _ => some (-1)) (fun k => if_pos (by omega)) ?_
    rw [if_pos this]; exact Ev.now _
  · by_cases d : (ofN (val b)).length < (ofN (val a)).length
    · have := len_lt_val d
      refine Ev.congr (f := fun _ => some 1) (fun k => by rw [if_neg (by omega), if_pos (by omega)]) ?_
      rw [if_neg (by omega), if_pos this]; exact Ev.now _
    · refine Ev.congr (f := fun k => nat_Cmp.l0 k (ofN (val a)) (ofN (val b)) (((ofN (val a)).length : Int) - 1)) (fun k => by rw [if_neg (by omega), if_neg (by omega), w64 (by omega) (by omega)]) ?_
      have h := cmp_l0 (ofN (val a)) (ofN (val b)) (lim_ofN _) (lim_ofN _) (by omega) (by omega) [] []
      simpa only [List.append_nil, val_ofN] using h
/-! ### Add -/
def addl : Int → List Int → List Int → List Int
  | c, [], _ => [c % 4294967296]
  | c, x :: a, [] => (c + x) % 4294967296 :: addl ((c + x) / 4294967296) a []
  | c, x :: a, y :: b => (c + x + y) % 4294967296 :: addl ((c + x + y) / 4294967296) a b
theorem addl_val : ∀ (a b : List Int) (c : Int), lim a → lim b → 0 ≤ c → c ≤ 1 → b.length ≤ a.length → lim (addl c a b) ∧ (val (addl c a b) : Int) = c + val a + val b ∧ (addl c a b).length = a.length + 1
  | [], [], c, _, _, h0, h1, _ => by
    refine ⟨?_, ?_, rfl⟩
    · intro x hx; simp only [addl, List.mem_singleton] at hx; subst hx; omega
    · simp only [addl, val_cons, val_nil]; omega
  | [], _ :: _, _, _, _, _, _, h => by simp at h
  | x :: a, [], c, ha, hb, h0, h1, hl => by
    obtain ⟨hx, ha'⟩ := lim_cons.1 ha
    obtain ⟨i1, i2, i3⟩ := addl_val a [] ((c + x) / 4294967296) ha' hb (by omega) (by omega) (by simp)
    refine ⟨?_, ?_, ?_⟩
    · rw [addl, lim_cons]; exact ⟨by omega, i1⟩
    · rw [addl, val_cons, val_cons]; rw [val_nil] at i2 ⊢; omega
    · rw [addl, List.length_cons, i3, List.length_cons]
  | x :: a, y :: b, c, ha, hb, h0, h1, hl => by
    obtain ⟨hx, ha'⟩ := lim_cons.1 ha
    obtain ⟨hy, hb'⟩ := lim_cons.1 hb
    obtain ⟨i1, i2, i3⟩ := addl_val a b ((c + x + y) / 4294967296) ha' hb' (by omega) (by omega) (by simpa using hl)
    refine ⟨?_, ?_, ?_⟩
    · rw [addl, lim_cons]; exact ⟨by omega, i1⟩
    · rw [addl, val_cons, val_cons, val_cons]; omega
    · rw [addl, List.length_cons, i3, List.length_cons]
theorem add_l0 {a b : List Int} (ha : lim a) (hb : lim b) (hl : a.length < 35184372088800) : ∀ (r : List Int) (i : Nat) (out : List Int) (c : Int), a.drop i = r → i + r.length = a.length → 0 ≤ c → c ≤ 1 → lim out → out.length = i → b.length ≤ a.length →
    Ev (fun k => nat_Add.l0 k b out c a (a.length : Int) (i : Int)) (ofN (val (out ++ addl c r (b.drop i)))) := by
  intro r
  induction r with
  | nil =>
    intro i out c hr hi h0 h1 ho hol hba
    simp only [List.length_nil] at hi
    have hc := cut_ev (a := out ++ [c % 4294967296]) (lim_append.2 ⟨ho, by intro x hx; simp at hx; subst hx; omega⟩) (by simp; omega)
    refine Ev.step (f := fun k => nat_cut.f k (out ++ [c % 4294967296])) (fun k => ?_) ?_
    · simp only [nat_Add.l0]; rw [if_neg (by omega), if_pos (by omega)]; simp
    · simpa only [addl] using hc
  | cons x r ih =>
    intro i out c hr hi h0 h1 ho hol hba
    obtain ⟨e1, e2, e3⟩ := rd_drop hr
    have hx : 0 ≤ x ∧ x < 4294967296 := by have := lim_drop ha i; rw [hr] at this; exact (lim_cons.1 this).1
    simp only [List.length_cons] at hi
    cases hbd : b.drop i with
    | nil =>
      have hbl : b.length ≤ i := by have := congrArg List.length hbd; rw [List.length_drop] at this; simpa [Nat.sub_eq_zero_iff_le] using this
      have hbd' : b.drop (i + 1) = [] := List.drop_eq_nil_of_le (by omega)
      have h := ih (i + 1) (out ++ [(c + x) % 4294967296]) ((c + x) / 4294967296) e3 (by omega) (by omega) (by omega) (lim_append.2 ⟨ho, by intro z hz; simp at hz; subst hz; omega⟩) (by simp; omega) hba
      rw [hbd', List.append_assoc] at h
      refine Ev.step (f := fun k => nat_Add.l0 k b (out ++ [(c + x) % 4294967296]) ((c + x) / 4294967296) a (a.length : Int) ((i + 1 : Nat) : Int)) (fun k => ?_) (by simpa only [addl, List.singleton_append] using h)
      simp only [nat_Add.l0]
      rw [if_pos (by omega), if_pos (by omega), if_pos (by omega), if_neg (by omega), if_pos (by omega), e1, u64 hx.1 (by omega), u64 (by omega) (by omega), w64 (by omega) (by omega)]
      rfl
    | cons y bs =>
      obtain ⟨f1, f2, f3⟩ := rd_drop hbd
      have hy : 0 ≤ y ∧ y < 4294967296 := by have := lim_drop hb i; rw [hbd] at this; exact (lim_cons.1 this).1
      have h := ih (i + 1) (out ++ [(c + x + y) % 4294967296]) ((c + x + y) / 4294967296) e3 (by omega) (by omega) (by omega) (lim_append.2 ⟨ho, by intro z hz; simp at hz; subst hz; omega⟩) (by simp; omega) hba
      rw [f3, List.append_assoc] at h
      refine Ev.step (f := fun k => nat_Add.l0 k b (out ++ [(c + x + y) % 4294967296]) ((c + x + y) / 4294967296) a (a.length : Int) ((i + 1 : Nat) : Int)) (fun k => ?_) (by simpa only [addl, List.singleton_append] using h)
      simp only [nat_Add.l0]
      rw [if_pos (by omega), if_pos (by omega), if_pos (by omega), if_pos (by omega), if_pos (by omega), e1, f1, u64 hx.1 (by omega), u64 hy.1 (by omega), u64 (x := c + x) (by omega) (by omega), u64 (by omega) (by omega), w64 (by omega) (by omega)]
      rfl
theorem add_g {a b : List Int} (ha : lim a) (hb : lim b) (hl : a.length < 35184372088800) (hba : b.length ≤ a.length) : Ev (fun k => nat_Add.g k a b) (ofN (val a + val b)) := by
  have h := add_l0 ha hb hl a 0 [] 0 rfl (by simp) (by omega) (by omega) lim_nil rfl hba
  obtain ⟨h1, h2, h3⟩ := addl_val a b 0 ha hb (by omega) (by omega) hba
  simp only [List.nil_append, List.drop_zero] at h
  rw [show val (addl 0 a b) = val a + val b by omega] at h
  unfold nat_Add.g
  refine Ev.congr (fun k => ?_) h
  rw [if_pos (by omega)]; rfl
theorem add_ev {a b : List Int} (ha : lim a) (hb : lim b) (hl : a.length < 35184372088800) (hm : b.length < 35184372088800) : Ev (fun k => nat_Add.f k a b) (ofN (val a + val b)) := by
  unfold nat_Add.f
  by_cases c : a.length < b.length
  · refine Ev.congr (fun k => if_pos c) ?_
    rw [Nat.add_comm]; exact add_g hb ha hm (by omega)
  · exact Ev.congr (fun k => if_neg c) (add_g ha hb hl (by omega))
end Go.Proofs.Ytaclkccgjpjdjaa.Nt
