/- The nat functions as they are printed tell the numbers that they should: Sub. -/
import Derived.Test.YtaclkccgjpjdjaaNtD
import Derived.Test.YtaclkccgjpjdjaaNx7
namespace Go.Proofs.Ytaclkccgjpjdjaa.Nt
open Go.RowKit Go.Proofs.YtaclkccgjpjdjaaW.PrintWords Go.Proofs.YtaclkccgjpjdjaaW.PrintMore Go.Proofs.Ytaclkccgjpjdjaa.N
set_option linter.unusedVariables false
set_option linter.unusedSimpArgs false
def subl : Int → List Int → List Int → List Int × Int
  | l, [], _ => ([], l)
  | l, x :: a, [] => ((x - l) % 4294967296 :: (subl (if x < l then 1 else 0) a []).1, (subl (if x < l then 1 else 0) a []).2)
  | l, x :: a, y :: b => ((x - (l + y)) % 4294967296 :: (subl (if x < l + y then 1 else 0) a b).1, (subl (if x < l + y then 1 else 0) a b).2)
theorem subl_val : ∀ (a b : List Int) (l : Int), lim a → lim b → 0 ≤ l → l ≤ 1 →
    lim (subl l a b).1 ∧ (subl l a b).1.length = a.length ∧ 0 ≤ (subl l a b).2 ∧ (subl l a b).2 ≤ 1 ∧ (val (subl l a b).1 : Int) - 4294967296 ^ a.length * (subl l a b).2 = val a - l - val (b.take a.length)
  | [], b, l, _, _, h0, h1 => by
    simp only [subl]
    exact ⟨lim_nil, trivial, h0, h1, by simp [val_nil]⟩
  | x :: a, [], l, ha, hb, h0, h1 => by
    obtain ⟨hx, ha'⟩ := lim_cons.1 ha
    generalize hL : (if x < l then (1 : Int) else 0) = L
    have hL2 : (x - l) % 4294967296 = x - l + 4294967296 * L ∧ 0 ≤ L ∧ L ≤ 1 := by subst hL; split <;> omega
    obtain ⟨i1, i2, i3, i4, i5⟩ := subl_val a [] L ha' hb hL2.2.1 hL2.2.2
    simp only [subl]
    rw [hL]
    generalize (subl L a []).1 = T at *
    generalize (subl L a []).2 = D at *
    refine ⟨lim_cons.2 ⟨by omega, i1⟩, by simp [i2], i3, i4, ?_⟩
    rw [List.take_nil, val_nil] at i5 ⊢
    rw [val_cons, val_cons, List.length_cons, Int.pow_succ, Int.mul_comm _ (4294967296 : Int), Int.mul_assoc]
    generalize (4294967296 : Int) ^ a.length * D = X at *
    rw [hL2.1]
    omega
  | x :: a, y :: b, l, ha, hb, h0, h1 => by
    obtain ⟨hx, ha'⟩ := lim_cons.1 ha
    obtain ⟨hy, hb'⟩ := lim_cons.1 hb
    generalize hL : (if x < l + y then (1 : Int) else 0) = L
    have hL2 : (x - (l + y)) % 4294967296 = x - (l + y) + 4294967296 * L ∧ 0 ≤ L ∧ L ≤ 1 := by subst hL; split <;> omega
    obtain ⟨i1, i2, i3, i4, i5⟩ := subl_val a b L ha' hb' hL2.2.1 hL2.2.2
    simp only [subl]
    rw [hL]
    generalize (subl L a b).1 = T at *
    generalize (subl L a b).2 = D at *
    refine ⟨lim_cons.2 ⟨by omega, i1⟩, by simp [i2], i3, i4, ?_⟩
    rw [List.length_cons, List.take_succ_cons, val_cons, val_cons, val_cons, Int.pow_succ, Int.mul_comm _ (4294967296 : Int), Int.mul_assoc]
    generalize (4294967296 : Int) ^ a.length * D = X at *
    generalize val (b.take a.length) = Y at *
    rw [hL2.1]
    omega
theorem dif_u64 {x z : Int} (hx : 0 ≤ x ∧ x < 4294967296) (hz : 0 ≤ z ∧ z ≤ 4294967296) : IntKind.u64.wrap (x - z) % 4294967296 = (x - z) % 4294967296 := by
  by_cases h : x - z < 0
  · rw [u64neg h (by omega)]; omega
  · rw [u64 (by omega) (by omega)]
theorem sub_l0 {b : List Int} (hb : lim b) (n : Nat) (hn : n < 35184372088800) : ∀ (r : List Int) (i : Nat) (p : List Int) (l : Int), p.length = i → i + r.length = n → lim p → lim r → 0 ≤ l → l ≤ 1 →
    Ev (fun k => nat_Sub.l0 k b (p ++ r) l (n : Int) (i : Int)) (ofN (val (p ++ (subl l r (b.drop i)).1)), 0) := by
  intro r
  induction r with
  | nil =>
    intro i p l hp hi hlp _ h0 h1
    simp only [List.length_nil] at hi
    have hc := cut_ev hlp (by omega)
    refine Ev.step (f := fun k => (nat_cut.f k p).bind fun t => some (t, 0)) (fun k => ?_) (by simp only [subl, List.append_nil]; exact Ev.bind hc (Ev.now _))
    simp only [nat_Sub.l0]; rw [if_neg (by omega), List.append_nil]
  | cons x r ih =>
    intro i p l hp hi hlp hlr h0 h1
    obtain ⟨hx, hlr'⟩ := lim_cons.1 hlr
    simp only [List.length_cons] at hi
    have e1 : rd (p ++ x :: r) (i : Int) = x := rd_app _ _ _ _ (by omega)
    cases hbd : b.drop i with
    | nil =>
      have hbl : b.length ≤ i := by have := congrArg List.length hbd; rw [List.length_drop, List.length_nil] at this; omega
      have hbd' : b.drop (i + 1) = [] := List.drop_eq_nil_of_le (by omega)
      have h := ih (i + 1) (p ++ [(x - l) % 4294967296]) (if x < l then 1 else 0) (by simp; omega) (by omega) (lim_append.2 ⟨hlp, by intro z hz; simp at hz; subst hz; omega⟩) hlr' (by split <;> omega) (by split <;> omega)
      rw [hbd', List.append_assoc, List.append_assoc, List.singleton_append, List.singleton_append] at h
      refine Ev.step (fun k => ?_) (by simpa only [subl] using h)
      simp only [nat_Sub.l0]
      rw [if_pos (by omega), if_pos (by omega), if_pos (by simp; omega), if_neg (by omega), e1, u64 hx.1 (by omega), u64 h0 (by omega), dif_u64 hx ⟨h0, by omega⟩, set_app _ _ _ _ _ (by omega), w64 (by omega) (by omega)]
      split <;> rfl
    | cons y bs =>
      obtain ⟨f1, f2, f3⟩ := rd_drop hbd
      have hy : 0 ≤ y ∧ y < 4294967296 := by have := lim_drop hb i; rw [hbd] at this; exact (lim_cons.1 this).1
      have h := ih (i + 1) (p ++ [(x - (l + y)) % 4294967296]) (if x < l + y then 1 else 0) (by simp; omega) (by omega) (lim_append.2 ⟨hlp, by intro z hz; simp at hz; subst hz; omega⟩) hlr' (by split <;> omega) (by split <;> omega)
      rw [f3, List.append_assoc, List.append_assoc, List.singleton_append, List.singleton_append] at h
      refine Ev.step (fun k => ?_) (by simpa only [subl] using h)
      simp only [nat_Sub.l0]
      rw [if_pos (by omega), if_pos (by omega), if_pos (by simp; omega), if_pos (by omega), e1, f1, u64 hx.1 (by omega), u64 hy.1 (by omega), u64 h0 (by omega), u64 (x := l + y) (by omega) (by omega), dif_u64 hx ⟨by omega, by omega⟩, set_app _ _ _ _ _ (by omega), w64 (by omega) (by omega)]
      split <;> rfl
theorem sub_ev {a b : List Int} (ha : lim a) (hb : lim b) (hl : a.length ≤ 8796093022208) (hm : b.length ≤ 8796093022208) :
    Ev (fun k => nat_Sub.f k a b) (if val a < val b then ([], 1) else (ofN (val a - val b), 0)) := by
  unfold nat_Sub.f
  have hcmp := cmp_ev ha hb (by omega) (by omega)
  have h1 := len_cut ha
  by_cases hlt : val a < val b
  · rw [if_pos hlt] at hcmp ⊢
    exact Ev.bind hcmp (Ev.congr (f := fun _ => some ([], 1)) (fun k => if_pos (by decide)) (Ev.now _))
  · have hge : ¬ ((if val b < val a then (1 : Int) else 0) < 0) := by split <;> decide
    rw [if_neg hlt] at hcmp ⊢
    refine Ev.bind hcmp (Ev.congr (f := fun k => _) (fun k => if_neg hge) ?_)
    refine Ev.bind (cut_ev ha (by omega)) ?_
    rw [clone_some (by omega)]
    obtain ⟨s1, s2, s3, s4, s5⟩ := subl_val (ofN (val a)) b 0 (lim_ofN _) hb (by omega) (by omega)
    have h := sub_l0 hb (ofN (val a)).length (by omega) (ofN (val a)) 0 [] 0 rfl (by omega) lim_nil (lim_ofN _) (by omega) (by omega)
    have hbt : val (b.take (ofN (val a)).length) = val b := by
      have e := val_append (b.take (ofN (val a)).length) (b.drop (ofN (val a)).length)
      rw [List.take_append_drop] at e
      by_cases hbl : b.length ≤ (ofN (val a)).length
      · rw [List.take_of_length_le hbl]
      · rw [List.length_take, Nat.min_eq_left (by omega)] at e
        have h2 := lt_len_ofN (val a)
        by_cases hz : val (b.drop (ofN (val a)).length) = 0
        · rw [hz] at e; omega
        · have h3 := Nat.mul_le_mul_left (4294967296 ^ (ofN (val a)).length) (show 1 ≤ val (b.drop (ofN (val a)).length) by omega)
          omega
    rw [hbt, val_ofN] at s5
    have s6 := val_lt s1
    rw [s2] at s6
    have hpow : ((4294967296 : Int) ^ (ofN (val a)).length) = ((4294967296 ^ (ofN (val a)).length : Nat) : Int) := by simp
    rw [hpow] at s5
    have hv : val (subl 0 (ofN (val a)) b).1 = val a - val b := by
      rcases (show (subl 0 (ofN (val a)) b).2 = 0 ∨ (subl 0 (ofN (val a)) b).2 = 1 by omega) with e | e
      · rw [e, Int.mul_zero] at s5; omega
      · rw [e, Int.mul_one] at s5; omega
    simp only [List.drop_zero, List.nil_append] at h
    rw [hv] at h
    exact h
end Go.Proofs.Ytaclkccgjpjdjaa.Nt
