import Derived.Test.YtaclkccgjpjdjaaQhfgapicklcM
import Derived.Test.YtaclkccgjpjdjaaQehenpapdheIx1
import Derived.Test.YtaclkccgjpjdjaaQpdmllhohdfIx4
import Derived.Test.YtaclkccgjpjdjaaQnidljigplkIx3
import Derived.Test.YtaclkccgjpjdjaaQbnhjpaggelIx2
import Derived.Test.YtaclkccgjpjdjaaQaljbeemcheIx0
import Derived.Test.YtaclkccgjpjdjaaQipcojhjkmgM
section
/- The program's and the reference's integers as whole numbers. -/
namespace Go.Proofs.Ytaclkccgjpjdjaa.Zi
open Go.RowKit Go.Proofs.YtaclkccgjpjdjaaW.PrintWords Go.Proofs.YtaclkccgjpjdjaaW.PrintMore Go.Proofs.Ytaclkccgjpjdjaa.I Go.Proofs.Ytaclkccgjpjdjaa.Nt
set_option linter.unusedVariables false
set_option linter.unusedSimpArgs false
def zval (b : Bool) (m : List Int) : Int := if b then -(val m : Int) else (val m : Int)
def ofZ (z : Int) : Bool × List Int := (decide (z < 0), ofN z.natAbs)
theorem abs_zval (b : Bool) (m : List Int) : (zval b m).natAbs = val m := by unfold zval; cases b <;> simp
theorem zval_ofZ (z : Int) : zval (ofZ z).1 (ofZ z).2 = z := by
  unfold ofZ zval
  simp only [val_ofN]
  by_cases h : z < 0
  · rw [decide_eq_true h]; simp only [if_true]; omega
  · rw [decide_eq_false h]; simp; omega
theorem val_ofZ (z : Int) : val (ofZ z).2 = z.natAbs := val_ofN _
theorem lim_ofZ (z : Int) : lim (ofZ z).2 := lim_ofN _
theorem ofZ_of (b : Bool) (n : Nat) : (b && decide (n ≠ 0), ofN n) = ofZ (if b then -(n : Int) else (n : Int)) := by
  unfold ofZ
  cases b
  · simp
  · by_cases h : n = 0
    · subst h; rfl
    · simp [h]; omega
theorem len_pos (n : Nat) : decide ((((ofN n).length : Nat) : Int) > 0) = decide (n ≠ 0) := by
  rw [decide_eq_decide]
  constructor
  · intro h e; subst e; simp [ofN_zero] at h
  · intro h
    have := List.length_pos_iff.2 (fun e => h (ofN_nil.1 e))
    omega
theorem pair_of {z w : Int} (h : z = w) : some ((ofZ z).1, (ofZ z).2) = some (ofZ w) := by subst h; rfl
theorem with_at {b : Bool} {m : List Int} (h : fits m) : integer_sign_with.f b m = some (ofZ (zval b m)) := by
  have e : nat_Trim.f m = some (ofN (val m)) := if_pos h
  unfold integer_sign_with.f
  rw [e, Option.bind_some]
  have g := ofZ_of b (val m)
  cases b
  · rw [if_neg (by simp)]; exact congrArg some g
  · rw [if_pos rfl, len_pos]; exact congrArg some g
theorem norm_at {b : Bool} {m : List Int} (h : fits m) : integer_Norm.f b m = some (ofZ (zval b m)) := by
  unfold integer_Norm.f; rw [with_at h]; rfl
theorem rnorm_at {b : Bool} {m : List Int} (h : Nb.rfits m) : foliotref02_Norm.f b m = some (ofZ (zval b m)) := by
  have e : foliotref01_Trim.f m = some (ofN (val m)) := if_pos h
  unfold foliotref02_Norm.f
  rw [e, Option.bind_some]
  have g := ofZ_of b (val m)
  cases b
  · rw [if_neg (by simp)]; exact congrArg some g
  · rw [if_pos rfl, len_pos]; exact congrArg some g
def few (k : Nat) (m : List Int) : Prop := lim m ∧ m.length ≤ k
theorem few.fits {k : Nat} {m : List Int} (h : few k m) (hk : k ≤ 1000000) : fits m := ⟨h.1, by have := h.2; omega⟩
theorem few.rfits {k : Nat} {m : List Int} (h : few k m) (hk : k ≤ 1000000) : Nb.rfits m := ⟨h.1, by have := h.2; omega⟩
theorem few_ofZ {k : Nat} {z : Int} (h : (ofN z.natAbs).length ≤ k) : few k (ofZ z).2 := ⟨lim_ofZ z, h⟩
theorem zval_same (b : Bool) (l m : List Int) : zval b (ofN (val l + val m)) = zval b l + zval b m := by
  unfold zval; rw [val_ofN]; cases b <;> simp <;> omega
theorem add_at {b c : Bool} {l m : List Int} (hl : fits l) (hm : fits m) (hk : l.length + m.length ≤ 1000000) : integer_Add.f b l c m = some (ofZ (zval b l + zval c m)) := by
  have h1 := len_val_le hl.1
  have h2 := len_val_le hm.1
  unfold integer_Add.f
  by_cases e : b = c
  · subst e
    have ea : nat_Add.f l m = some (ofN (val l + val m)) := if_pos ⟨hl, hm⟩
    have hla := len_add (val l) (val m)
    rw [if_pos (by simp), ea, Option.bind_some, with_at (fits_ofN (by omega)), zval_same]; rfl
  · rw [if_neg (by simpa using e)]
    by_cases hlt : val l < val m
    · have es : nat_Sub.f l m = some ([], 1) := by unfold nat_Sub.f; rw [if_pos ⟨hl, hm⟩, if_pos hlt]
      have es2 : nat_Sub.f m l = some (ofN (val m - val l), 0) := by unfold nat_Sub.f; rw [if_pos ⟨hm, hl⟩, if_neg (by omega)]
      have hls : (ofN (val m - val l)).length ≤ (ofN (val m)).length := len_mono (Nat.sub_le _ _)
      rw [es, Option.bind_some, if_neg (by simp), es2, Option.bind_some, with_at (fits_ofN (by omega)), Option.bind_some]
      refine pair_of ?_
      unfold zval
      rw [val_ofN]
      cases b <;> cases c <;> simp at e ⊢ <;> omega
    · have es : nat_Sub.f l m = some (ofN (val l - val m), 0) := by unfold nat_Sub.f; rw [if_pos ⟨hl, hm⟩, if_neg hlt]
      have hls : (ofN (val l - val m)).length ≤ (ofN (val l)).length := len_mono (Nat.sub_le _ _)
      rw [es, Option.bind_some, if_pos rfl, with_at (fits_ofN (by omega)), Option.bind_some]
      refine pair_of ?_
      unfold zval
      rw [val_ofN]
      cases b <;> cases c <;> simp at e ⊢ <;> omega
theorem zval_mul (b c : Bool) (l m : List Int) : zval (b != c) (ofN (val l * val m)) = zval b l * zval c m := by
  unfold zval; rw [val_ofN]; cases b <;> cases c <;> simp [Int.neg_mul, Int.mul_neg]
theorem mul_at {b c : Bool} {l m : List Int} (hl : fits l) (hm : fits m) (hk : l.length + m.length ≤ 1000000) : integer_Mul.f b l c m = some (ofZ (zval b l * zval c m)) := by
  have h1 := len_val_le hl.1
  have h2 := len_val_le hm.1
  have h3 := len_mul (val l) (val m)
  have e : nat_Mul.f l m = some (ofN (val l * val m)) := if_pos ⟨hl, hm⟩
  unfold integer_Mul.f
  rw [e, Option.bind_some, with_at (fits_ofN (by omega)), Option.bind_some]
  exact pair_of (zval_mul b c l m)
def sgn (z : Int) : Int := if z < 0 then -1 else if 0 < z then 1 else 0
theorem len_ofZ_pos (z : Int) : (((ofZ z).2.length : Int) > 0) ↔ z ≠ 0 := by
  show (((ofN z.natAbs).length : Int) > 0) ↔ _
  constructor
  · intro h e; subst e; simp [ofN_zero] at h
  · intro h
    have := List.length_pos_iff.2 (fun e => (by omega : z.natAbs ≠ 0) (ofN_nil.1 e))
    omega
theorem sign_at {b : Bool} {m : List Int} (h : fits m) : integer_Sign.f b m = some (sgn (zval b m)) := by
  unfold integer_Sign.f sgn
  rw [norm_at h, Option.bind_some]
  generalize zval b m = z
  have hp := len_ofZ_pos z
  by_cases h1 : z < 0
  · rw [if_pos h1, if_pos (show (ofZ z).1 = true from decide_eq_true h1)]
  · rw [if_neg h1, if_neg (by show ¬ decide (z < 0) = true; simpa using h1)]
    by_cases h2 : 0 < z
    · rw [if_pos h2, if_pos (hp.2 (by omega))]
    · rw [if_neg h2, if_neg (fun e => hp.1 e (by omega))]
def cmpZ (x y : Int) : Int := sgn (x - y)
theorem cmp_at {b c : Bool} {l m : List Int} (k : Nat) (hl : fits l) (hm : fits m) (hk : l.length + m.length ≤ 1000000) : integer_Cmp.f (k + 1) b l c m = some (cmpZ (zval b l) (zval c m)) := by
  have h1 := len_val_le hl.1
  have h2 := len_val_le hm.1
  unfold integer_Cmp.f
  rw [norm_at hl, norm_at hm]
  simp only [Option.bind_some]
  have fa : fits (ofZ (zval b l)).2 := ⟨lim_ofZ _, by show (ofN _).length ≤ _; rw [abs_zval]; omega⟩
  have fb : fits (ofZ (zval c m)).2 := ⟨lim_ofZ _, by show (ofN _).length ≤ _; rw [abs_zval]; omega⟩
  have e1 : nat_Cmp.f (ofZ (zval b l)).2 (ofZ (zval c m)).2 = some (if (zval b l).natAbs < (zval c m).natAbs then -1 else if (zval c m).natAbs < (zval b l).natAbs then 1 else 0) := by
    have h := (if_pos ⟨fa, fb⟩ : nat_Cmp.f (ofZ (zval b l)).2 (ofZ (zval c m)).2 = _)
    unfold nat_Cmp.f; rw [if_pos ⟨fa, fb⟩, val_ofZ, val_ofZ]
  have e2 : nat_Cmp.f (ofZ (zval c m)).2 (ofZ (zval b l)).2 = some (if (zval c m).natAbs < (zval b l).natAbs then -1 else if (zval b l).natAbs < (zval c m).natAbs then 1 else 0) := by
    unfold nat_Cmp.f; rw [if_pos ⟨fb, fa⟩, val_ofZ, val_ofZ]
  have n1 : (ofZ (zval b l)).1 = decide (zval b l < 0) := rfl
  have n2 : (ofZ (zval c m)).1 = decide (zval c m < 0) := rfl
  simp only [integer_Cmp.j0, e1, e2, Option.bind_some, n1, n2]
  unfold cmpZ sgn
  generalize zval b l = x
  generalize zval c m = y
  by_cases hx : x < 0 <;> by_cases hy : y < 0
  · rw [decide_eq_true hx, decide_eq_true hy]
    simp only [if_true]
    congr 1
    repeat' split
    all_goals omega
  · rw [decide_eq_true hx, decide_eq_false hy]
    simp only [if_true, Bool.false_eq_true, if_false]
    rw [if_pos (by omega)]
  · rw [decide_eq_false hx, decide_eq_true hy]
    simp only [if_true, Bool.false_eq_true, if_false]
    rw [if_neg (by omega), if_pos (by omega)]
  · rw [decide_eq_false hx, decide_eq_false hy]
    simp only [if_true, Bool.false_eq_true, if_false]
    congr 1
    repeat' split
    all_goals omega
end Go.Proofs.Ytaclkccgjpjdjaa.Zi
end
section
/- Division, texts and small integers, as whole numbers. -/
namespace Go.Proofs.Ytaclkccgjpjdjaa.Zi
open Go.RowKit Go.Proofs.YtaclkccgjpjdjaaW.PrintWords Go.Proofs.YtaclkccgjpjdjaaW.PrintMore Go.Proofs.Ytaclkccgjpjdjaa.I Go.Proofs.Ytaclkccgjpjdjaa.Nt
set_option linter.unusedVariables false
set_option linter.unusedSimpArgs false
def divZ (A B : Int) : Bool × List Int × Bool × List Int × Int := if B = 0 then (false, [], false, [], 3) else ((ofZ (A.fdiv B)).1, (ofZ (A.fdiv B)).2, (ofZ (A.fmod B)).1, (ofZ (A.fmod B)).2, 0)
theorem fdiv_of {A B q r : Int} (hB : B ≠ 0) (h : A = q * B + r) (h1 : 0 < B → 0 ≤ r ∧ r < B) (h2 : B < 0 → r ≤ 0 ∧ B < r) : A.fdiv B = q ∧ A.fmod B = r := by
  have e := Int.mul_fdiv_add_fmod A B
  have hr : A.fmod B = A - B * A.fdiv B := by omega
  have key : A.fdiv B = q := by
    rcases Int.lt_or_gt_of_ne hB with hn | hp
    · obtain ⟨a, b⟩ := h2 hn
      have g1 := Int.fmod_nonneg_of_pos (-A) (show 0 < -B by omega)
      have g2 := Int.fmod_lt_of_pos (-A) (show 0 < -B by omega)
      rw [Int.neg_fmod_neg] at g1 g2
      have f1 : A.fmod B ≤ 0 := by omega
      have f2 : B < A.fmod B := by omega
      clear g1 g2
      generalize A.fdiv B = Q at *
      generalize A.fmod B = R at *
      subst hr
      have h3 : (Q - q) * B = r - (A - B * Q) := by rw [Int.sub_mul, Int.mul_comm B Q]; omega
      by_cases hq : Q = q
      · exact hq
      · exfalso
        rcases Int.lt_or_gt_of_ne hq with g | g
        · have := Int.mul_le_mul_of_nonpos_right (show Q - q ≤ -1 by omega) (show B ≤ 0 by omega); omega
        · have := Int.mul_le_mul_of_nonpos_right (show 1 ≤ Q - q by omega) (show B ≤ 0 by omega); omega
    · obtain ⟨a, b⟩ := h1 hp
      have f1 : 0 ≤ A.fmod B := Int.fmod_nonneg_of_pos A hp
      have f2 : A.fmod B < B := Int.fmod_lt_of_pos A hp
      generalize A.fdiv B = Q at *
      generalize A.fmod B = R at *
      subst hr
      have h3 : (Q - q) * B = r - (A - B * Q) := by rw [Int.sub_mul, Int.mul_comm B Q]; omega
      by_cases hq : Q = q
      · exact hq
      · exfalso
        rcases Int.lt_or_gt_of_ne hq with g | g
        · have := Int.mul_le_mul_of_nonneg_right (show Q - q ≤ -1 by omega) (show 0 ≤ B by omega); omega
        · have := Int.mul_le_mul_of_nonneg_right (show 1 ≤ Q - q by omega) (show 0 ≤ B by omega); omega
  refine ⟨key, ?_⟩
  rw [hr, key, h, Int.mul_comm B q]; omega
def sg (b : Bool) (n : Nat) : Int := if b then -(n : Int) else (n : Int)
theorem abs_sg (b : Bool) (n : Nat) : (sg b n).natAbs = n := by unfold sg; cases b <;> simp
theorem zval_ofN (b : Bool) (n : Nat) : zval b (ofN n) = sg b n := by unfold zval sg; rw [val_ofN]
theorem div_same {A B : Int} (hB : B ≠ 0) (h : decide (A < 0) = decide (B < 0) ∨ A.natAbs % B.natAbs = 0) :
    A.fdiv B = sg (decide (A < 0) != decide (B < 0)) (A.natAbs / B.natAbs) ∧ A.fmod B = sg (decide (B < 0)) (A.natAbs % B.natAbs) := by
  have e := Nat.div_add_mod A.natAbs B.natAbs
  have hr := Nat.mod_lt A.natAbs (show 0 < B.natAbs by omega)
  generalize A.natAbs / B.natAbs = q at *
  generalize A.natAbs % B.natAbs = r at *
  have e' : (B.natAbs : Int) * (q : Int) + (r : Int) = (A.natAbs : Int) := by exact_mod_cast e
  unfold sg
  by_cases ha : A < 0 <;> by_cases hb : B < 0
  · rw [show (B.natAbs : Int) = -B by omega, show (A.natAbs : Int) = -A by omega] at e'
    rw [decide_eq_true ha, decide_eq_true hb]
    refine fdiv_of hB ?_ (fun h => by omega) (fun _ => by simp; omega)
    simp
    rw [Int.neg_mul, Int.mul_comm B] at e'
    omega
  · rw [show (B.natAbs : Int) = B by omega, show (A.natAbs : Int) = -A by omega] at e'
    rw [decide_eq_true ha, decide_eq_false hb] at *
    obtain rfl : r = 0 := by simpa using h
    refine fdiv_of hB ?_ (fun _ => by simp; omega) (fun h => by omega)
    simp
    rw [Int.mul_comm B] at e'
    rw [Int.neg_mul]
    omega
  · rw [show (B.natAbs : Int) = -B by omega, show (A.natAbs : Int) = A by omega] at e'
    rw [decide_eq_false ha, decide_eq_true hb] at *
    obtain rfl : r = 0 := by simpa using h
    refine fdiv_of hB ?_ (fun h => by omega) (fun _ => by simp; omega)
    simp
    rw [Int.neg_mul, Int.mul_comm B] at e'
    rw [Int.neg_mul]
    omega
  · rw [show (B.natAbs : Int) = B by omega, show (A.natAbs : Int) = A by omega] at e'
    rw [decide_eq_false ha, decide_eq_false hb]
    refine fdiv_of hB ?_ (fun _ => by simp; omega) (fun h => by omega)
    simp
    rw [Int.mul_comm B] at e'
    omega
theorem div_other {A B : Int} (hB : B ≠ 0) (h1 : decide (A < 0) ≠ decide (B < 0)) (h2 : A.natAbs % B.natAbs ≠ 0) :
    A.fdiv B = -((A.natAbs / B.natAbs + 1 : Nat) : Int) ∧ A.fmod B = sg (decide (B < 0)) (B.natAbs - A.natAbs % B.natAbs) := by
  have e := Nat.div_add_mod A.natAbs B.natAbs
  have hr := Nat.mod_lt A.natAbs (show 0 < B.natAbs by omega)
  generalize A.natAbs / B.natAbs = q at *
  generalize A.natAbs % B.natAbs = r at *
  have e' : (B.natAbs : Int) * (q : Int) + (r : Int) = (A.natAbs : Int) := by exact_mod_cast e
  unfold sg
  by_cases ha : A < 0 <;> by_cases hb : B < 0
  · exact absurd ((decide_eq_true ha).trans (decide_eq_true hb).symm) h1
  · rw [show (B.natAbs : Int) = B by omega, show (A.natAbs : Int) = -A by omega] at e'
    rw [decide_eq_false hb]
    refine fdiv_of hB ?_ (fun _ => by simp; omega) (fun h => by omega)
    simp
    rw [Int.mul_comm B] at e'
    rw [Int.neg_mul, Int.add_mul]
    omega
  · rw [show (B.natAbs : Int) = -B by omega, show (A.natAbs : Int) = A by omega] at e'
    rw [decide_eq_true hb]
    refine fdiv_of hB ?_ (fun h => by omega) (fun _ => by simp; omega)
    simp
    rw [Int.neg_mul, Int.mul_comm B] at e'
    rw [Int.neg_mul, Int.add_mul]
    omega
  · exact absurd ((decide_eq_false ha).trans (decide_eq_false hb).symm) h1
theorem tup_of {x y z w : Int} (h : x = z ∧ y = w) : some ((ofZ x).1, (ofZ x).2, (ofZ y).1, (ofZ y).2, (0 : Int)) = some ((ofZ z).1, (ofZ z).2, (ofZ w).1, (ofZ w).2, (0 : Int)) := by
  obtain ⟨rfl, rfl⟩ := h; rfl
theorem div_at {b c : Bool} {l m : List Int} (k : Nat) (hl : fits l) (hm : fits m) (hk : l.length + m.length ≤ 1000000) : integer_Div.f (k + 1) b l c m = some (divZ (zval b l) (zval c m)) := by
  have h1 := len_val_le hl.1
  have h2 := len_val_le hm.1
  unfold integer_Div.f
  rw [norm_at hl, norm_at hm]
  simp only [Option.bind_some]
  have a1 := abs_zval b l
  have a2 := abs_zval c m
  generalize zval b l = A at *
  generalize zval c m = B at *
  rw [← a1] at h1
  rw [← a2] at h2
  have fa : fits (ofZ A).2 := ⟨lim_ofZ _, by show (ofN _).length ≤ _; omega⟩
  have fb : fits (ofZ B).2 := ⟨lim_ofZ _, by show (ofN _).length ≤ _; omega⟩
  have e1 : nat_Div.f (ofZ A).2 (ofZ B).2 = some (if B.natAbs = 0 then ([], [], 3) else (ofN (A.natAbs / B.natAbs), ofN (A.natAbs % B.natAbs), 0)) := by
    unfold nat_Div.f; rw [if_pos ⟨fa, fb⟩, val_ofZ, val_ofZ]
  rw [e1, Option.bind_some]
  unfold divZ
  by_cases hB : B = 0
  · subst hB; rfl
  · have hB' : B.natAbs ≠ 0 := by omega
    rw [if_neg hB', if_neg hB]
    simp only [if_true]
    have n1 : (ofZ A).1 = decide (A < 0) := rfl
    have n2 : (ofZ B).1 = decide (B < 0) := rfl
    have lq : (ofN (A.natAbs / B.natAbs)).length ≤ (ofN A.natAbs).length := len_mono (Nat.div_le_self _ _)
    have lr : (ofN (A.natAbs % B.natAbs)).length ≤ (ofN A.natAbs).length := len_mono (Nat.mod_le _ _)
    have fq : fits (ofN (A.natAbs / B.natAbs)) := fits_ofN (by omega)
    have fr : fits (ofN (A.natAbs % B.natAbs)) := fits_ofN (by omega)
    have yes : (decide (A < 0) = decide (B < 0) ∨ A.natAbs % B.natAbs = 0) → integer_Div.j0 (k + 1) (ofN (A.natAbs / B.natAbs)) (ofN (A.natAbs % B.natAbs)) true (ofZ A).1 (ofZ A).2 (ofZ B).1 (ofZ B).2 = some ((ofZ (A.fdiv B)).1, (ofZ (A.fdiv B)).2, (ofZ (A.fmod B)).1, (ofZ (A.fmod B)).2, 0) := by
      intro h
      obtain ⟨d1, d2⟩ := div_same hB h
      simp only [integer_Div.j0, if_true]
      rw [with_at fq, Option.bind_some, with_at fr, Option.bind_some, zval_ofN, zval_ofN]
      exact tup_of ⟨d1.symm, d2.symm⟩
    by_cases hs : decide (A < 0) = decide (B < 0)
    · rw [if_pos (by rw [n1, n2]; simpa using hs)]
      exact yes (Or.inl hs)
    · rw [if_neg (by rw [n1, n2]; simpa using hs)]
      by_cases h0 : A.natAbs % B.natAbs = 0
      · have hy := yes (Or.inr h0)
        rw [show ((((ofN (A.natAbs % B.natAbs)).length : Nat) : Int) == 0) = true by rw [h0, ofN_zero]; rfl]
        exact hy
      · rw [show ((((ofN (A.natAbs % B.natAbs)).length : Nat) : Int) == 0) = false by
          have := List.length_pos_iff.2 (fun e => h0 (ofN_nil.1 e)); rw [beq_eq_false_iff_ne]; omega]
        obtain ⟨d1, d2⟩ := div_other hB hs h0
        have hlt := Nat.mod_lt A.natAbs (show 0 < B.natAbs by omega)
        have es : nat_Sub.f (ofZ B).2 (ofN (A.natAbs % B.natAbs)) = some (ofN (B.natAbs - A.natAbs % B.natAbs), 0) := by
          unfold nat_Sub.f; rw [if_pos ⟨fb, fr⟩, val_ofZ, val_ofN, if_neg (by omega)]
        have f1 : fits [1] := fits_ofN (n := 1) (by decide)
        have ea : nat_Add.f (ofN (A.natAbs / B.natAbs)) [1] = some (ofN (A.natAbs / B.natAbs + 1)) := by
          unfold nat_Add.f; rw [if_pos ⟨fq, f1⟩, val_ofN]; rfl
        have l3 : (ofN (B.natAbs - A.natAbs % B.natAbs)).length ≤ (ofN B.natAbs).length := len_mono (Nat.sub_le _ _)
        have l4 := len_add (A.natAbs / B.natAbs) 1
        have l5 : (ofN 1).length = 1 := rfl
        simp only [integer_Div.j0, Bool.false_eq_true, if_false]
        rw [es, Option.bind_some, ea, Option.bind_some, with_at (fits_ofN (by omega)), Option.bind_some, with_at (fits_ofN (by omega)), Option.bind_some, zval_ofN, zval_ofN]
        exact tup_of ⟨d1.symm, d2.symm⟩
theorem of_u {n : Int} (h0 : -9223372036854775808 ≤ n) (h1 : n < 9223372036854775808) : ∀ u : Int, u = (n.natAbs : Int) → fits [u % 4294967296, u / 4294967296 % 4294967296] ∧ zval (decide (n < 0)) [u % 4294967296, u / 4294967296 % 4294967296] = n := by
  intro u hu
  refine ⟨⟨fun x hx => ?_, by simp⟩, ?_⟩
  · simp only [List.mem_cons, List.not_mem_nil, or_false] at hx
    rcases hx with rfl | rfl <;> omega
  · have hv : val [u % 4294967296, u / 4294967296 % 4294967296] = n.natAbs := by simp only [val_cons, val_nil]; omega
    unfold zval
    rw [hv]
    by_cases h : n < 0
    · rw [if_pos (decide_eq_true h)]; omega
    · rw [if_neg (by simpa using h)]; omega
theorem u64n {n : Int} (h0 : -9223372036854775808 ≤ n) (h1 : n < 0) : IntKind.u64.wrap (-(IntKind.u64.wrap n)) = (n.natAbs : Int) := by
  rw [u64neg h1 (by omega)]
  show (-(n + 18446744073709551616)) % 18446744073709551616 = _
  omega
theorem rof_at {n : Int} (h0 : -9223372036854775808 ≤ n) (h1 : n < 9223372036854775808) : foliotref02_Of.f n = some (ofZ n) := by
  unfold foliotref02_Of.f
  by_cases h : n < 0
  · obtain ⟨f, z⟩ := of_u h0 h1 _ (u64n h0 h)
    rw [if_pos h, rnorm_at ⟨f.1, by simp⟩, Option.bind_some, z]
  · have e : IntKind.u64.wrap n = (n.natAbs : Int) := by rw [u64 (by omega) (by omega)]; omega
    obtain ⟨f, z⟩ := of_u h0 h1 _ e
    rw [if_neg h, rnorm_at ⟨f.1, by simp⟩, Option.bind_some, z]
theorem len_natAbs_mul {x y : Int} : (ofN (x * y).natAbs).length ≤ (ofN x.natAbs).length + (ofN y.natAbs).length := by rw [Int.natAbs_mul]; exact len_mul _ _
end Go.Proofs.Ytaclkccgjpjdjaa.Zi
end
section
/- Texts and small integers, as whole numbers. -/
namespace Go.Proofs.Ytaclkccgjpjdjaa.Zi
open Go.RowKit Go.Proofs.YtaclkccgjpjdjaaW.PrintWords Go.Proofs.YtaclkccgjpjdjaaW.PrintMore Go.Proofs.Ytaclkccgjpjdjaa.I Go.Proofs.Ytaclkccgjpjdjaa.Nt
set_option linter.unusedVariables false
set_option linter.unusedSimpArgs false
def printZ (z : Int) : ByteArray := if z < 0 then (⟨#[45]⟩ : ByteArray) ++ text z.natAbs else text z.natAbs
theorem text_size (n : Nat) : (text n).size ≤ 10 * (ofN n).length + 1 := by
  have := low_ofN n
  unfold text told
  split
  · exact Nat.le_trans (show (⟨#[48]⟩ : ByteArray).size ≤ 1 from Nat.le_refl 1) (by omega)
  · rw [strOfNums_size, List.length_reverse]; omega
theorem print_at {b : Bool} {m : List Int} (h : fits m) (hk : m.length ≤ 1000000) : integer_Print.f b m = some (printZ (zval b m)) := by
  have e : nat_Print.f m = some (text (val m)) := if_pos h
  have h1 := len_val_le h.1
  have h2 := text_size (val m)
  unfold integer_Print.f printZ
  rw [sign_at h, Option.bind_some, e, Option.bind_some, abs_zval]
  unfold sgn
  by_cases hz : zval b m < 0
  · rw [if_pos hz, if_pos hz, if_pos (by omega), if_pos (by omega)]
  · rw [if_neg hz, if_neg hz]
    split <;> rw [if_neg (by omega)] <;> rfl
def minus (s : ByteArray) : Bool := decide (0 < s.size) && (bt s 0 == 45)
def parseZ (s : ByteArray) : Bool × List Int × Int :=
  let r := parsed (if minus s then s.extract 1 s.size else s)
  if r.2 = 0 then ((ofZ (zval (minus s) r.1)).1, (ofZ (zval (minus s) r.1)).2, 0) else (false, [], r.2)
theorem parsed_fits (s : ByteArray) : lim (parsed s).1 ∧ (parsed s).1.length ≤ 300 := by
  unfold parsed
  split
  · exact ⟨lim_nil, by simp⟩
  · rename_i h1
    split
    · exact ⟨lim_nil, by simp⟩
    · rename_i h2
      refine ⟨lim_ofN _, ?_⟩
      have hd : Dig (bytesOf s) := dig_of (fun e => h1 (Or.inr e))
      have hsz := bytesOf_size s
      refine Nat.le_trans (len_ofN_le (k := s.size) ?_) (by omega)
      rw [hsz]
      exact Nat.lt_of_lt_of_le (numL_lt hd) (Nat.pow_le_pow_left (by omega) _)
theorem prefix_at (s : ByteArray) : strings_CutPrefix.f s (⟨#[45]⟩ : ByteArray) = some (if minus s then s.extract 1 s.size else s, minus s) := by
  have h1 : (⟨#[45]⟩ : ByteArray).size = 1 := rfl
  unfold strings_CutPrefix.f stringslite_CutPrefix.f stringslite_HasPrefix.f minus
  by_cases h0 : 0 < s.size
  · rw [decide_eq_true h0, Bool.true_and, if_pos (by omega), if_pos (by omega), if_pos (by omega)]
    obtain ⟨x, r, hx⟩ : ∃ x r, s.data.toList = x :: r := by
      have : 0 < s.data.toList.length := by rw [data_length]; exact h0
      cases hs : s.data.toList with
      | nil => rw [hs] at this; simp at this
      | cons x r => exact ⟨x, r, rfl⟩
    have hb : bt s 0 = (x.toNat : Int) := by
      rw [← rd_bytesOf]; unfold bytesOf; rw [hx]; rfl
    have eb : ((s.extract 0 (((⟨#[45]⟩ : ByteArray).size : Int).toNat)).toList == (⟨#[45]⟩ : ByteArray).toList) = (bt s 0 == 45) := by
      have hl : (s.extract 0 (((⟨#[45]⟩ : ByteArray).size : Int).toNat)).toList = [x] := by
        rw [toList_eq, h1]
        show (s.extract 0 1).data.toList = _
        rw [ByteArray.data_extract, Array.toList_extract, hx]
        simp
      rw [hl, toList_eq, hb]
      show ([x] == [45]) = ((x.toNat : Int) == 45)
      rw [Bool.eq_iff_iff, beq_iff_eq, beq_iff_eq]
      constructor
      · intro e; injection e with e; subst e; rfl
      · intro e
        have : x.toNat = 45 := by omega
        congr 1
        exact UInt8.toNat_inj.1 this
    rw [eb]
    simp only [Option.bind_some]
    cases hb : (bt s 0 == 45)
    · simp
    · simp only [if_true]
      rw [if_pos (by omega), if_pos (by omega)]
      rfl
  · rw [decide_eq_false h0, Bool.false_and, if_neg (by omega)]
    simp
theorem zval_len {b : Bool} {m : List Int} (h : lim m) : (ofN (zval b m).natAbs).length ≤ m.length := by rw [abs_zval]; exact len_val_le h
theorem parse_at {s : ByteArray} (h : s.size ≤ 140737488351232) : integer_Parse.f s = some (parseZ s) := by
  have hs : (if minus s then s.extract 1 s.size else s).size ≤ 140737488351232 := by
    split
    · rw [ByteArray.size_extract]; omega
    · exact h
  have e : nat_Parse.f (if minus s then s.extract 1 s.size else s) = some (parsed (if minus s then s.extract 1 s.size else s)) := if_pos hs
  have hf := parsed_fits (if minus s then s.extract 1 s.size else s)
  unfold integer_Parse.f parseZ
  rw [prefix_at]
  simp only [Option.bind_some]
  rw [e]
  simp only [Option.bind_some]
  generalize parsed (if minus s then s.extract 1 s.size else s) = r at *
  by_cases hr : r.2 = 0
  · rw [if_pos hr, if_pos hr, with_at ⟨hf.1, by omega⟩]; rfl
  · rw [if_neg hr, if_neg hr]
instance (k : Nat) (m : List Int) : Decidable (few k m) := inferInstanceAs (Decidable (_ ∧ _))
end Go.Proofs.Ytaclkccgjpjdjaa.Zi
end
