import Derived.Test.YtjfkhbkddenfoaaQnidlabefboM
import Derived.Test.YtjfkhbkddenfoaaQcfiefdingdNx6
import Derived.Test.YtjfkhbkddenfoaaQegbfnpgdgeNx8
import Derived.Test.YtjfkhbkddenfoaaQpfgookmfekNx5
import Derived.Test.YtjfkhbkddenfoaaQemcbhdnholNx7
import Derived.Test.YtjfkhbkddenfoaaQihpklnamlcNx4
import Derived.Test.YtjfkhbkddenfoaaQcohbjfendhNx10
import Derived.Lib.SliceRun
import Derived.Test.YtjfkhbkddenfoaaQmedckfoofjNx1
import Derived.Test.YtjfkhbkddenfoaaQppdajcigknNx9
import Derived.Laws.Externs
import Derived.RangeFuncLeaves
import Derived.RangeFuncRecord
set_option linter.unusedVariables false
set_option linter.unusedSimpArgs false
namespace Go.Proofs.Ytjfkhbkddenfoaa.Nb
open Go.RowKit Go.Proofs.YtjfkhbkddenfoaaW.PrintWords Go.Proofs.YtjfkhbkddenfoaaW.PrintMore Go.Proofs.Ytjfkhbkddenfoaa.N Go.Proofs.Ytjfkhbkddenfoaa.Nt
section
theorem or32 {x j : Nat} (hx : x < 2 ^ j) (hj : j < 32) : Go.bits .or .u32 (x : Int) (shl .u32 1 (j : Int)) = ((x + 2 ^ j : Nat) : Int) := by
  have h32 : (2 : Nat) ^ j ≤ 2 ^ 31 := Nat.pow_le_pow_right (by omega) (by omega)
  have es : shl .u32 1 (j : Int) = ((2 ^ j : Nat) : Int) := by
    have : ∀ j : Nat, j < 32 → shl .u32 1 (j : Int) = ((2 ^ j : Nat) : Int) := by decide +kernel
    exact this j hj
  rw [es]
  have hp : 0 < 2 ^ j := Nat.pow_pos (by omega)
  have e := Nat.two_pow_add_eq_or_of_lt hx 1
  rw [Nat.mul_one] at e
  generalize 2 ^ j = z at *
  rw [u32_or _ _ (by omega) (by omega) (by omega) (by omega), Int.toNat_natCast, Int.toNat_natCast, Nat.or_comm, ← e]
  omega
theorem limbs_l1 (A : Nat) (hA : (bitsN A).length < 100000000000) (y : List Int) (hy : y.length < 10000000000) (i : Nat) (hi : i < 100000000000) (r : List Int)
    (hk : Ev (fun k => foliotref01_Limbs.l0 k (bitsN A) (y ++ [((A / 2 ^ i % 4294967296 : Nat) : Int)]) ((i + 32 : Nat) : Int)) r) :
    ∀ (d j : Nat), j + d = 32 → Ev (fun k => foliotref01_Limbs.l1 k (bitsN A) y (i : Int) ((A / 2 ^ i % 2 ^ j : Nat) : Int) (j : Int)) r := by
  have push : ∀ x : Nat, x = A / 2 ^ i % 4294967296 → ∀ j : Nat, Ev (fun k => foliotref01_Limbs.j2 k (bitsN A) y (i : Int) (x : Int) (j : Int) false) r := by
    intro x hx j
    subst hx
    refine Ev.step (fun k => ?_) hk
    simp only [foliotref01_Limbs.j2]
    rw [if_neg (by simp), if_pos (by omega), w64 (by omega) (by omega)]; rfl
  intro d
  induction d with
  | zero =>
    intro j hj
    obtain rfl : j = 32 := by omega
    refine Ev.step (fun k => ?_) (push _ (by rfl) 32)
    simp only [foliotref01_Limbs.l1]
    rw [if_neg (by omega)]
  | succ d ih =>
    intro j hj
    have ew : wrap64 ((i : Int) + (j : Int)) = ((i + j : Nat) : Int) := by rw [w64 (by omega) (by omega)]; omega
    by_cases hlen : i + j < (bitsN A).length
    · refine Ev.step (f := fun k => foliotref01_Limbs.j2 k (bitsN A) y (i : Int) ((A / 2 ^ i % 2 ^ j : Nat) : Int) (j : Int) true) (fun k => ?_) (Ev.step (fun k => ?_) (ih (j + 1) (by omega)))
      · simp only [foliotref01_Limbs.l1]
        rw [if_pos (by omega), ew, decide_eq_true (by omega)]
      · simp only [foliotref01_Limbs.j2]
        have hb := getD_bit (bitsN A) (i + j)
        rw [bval_bitsN, Nat.pow_add, ← Nat.div_div_eq_div_mul] at hb
        have hlt : A / 2 ^ i % 2 ^ j < 2 ^ j := Nat.mod_lt _ (Nat.pow_pos (by omega))
        rw [if_pos trivial, ew, if_pos (by omega), if_pos (by omega), rdOf_nat, hb, if_pos (show (0 : Int) ≤ (j : Int) by omega), or32 hlt (by omega), w64 (x := (j : Int) + 1) (by omega) (by omega), bits_succ]
        by_cases h1 : A / 2 ^ i / 2 ^ j % 2 = 1
        · rw [if_pos (by rw [h1]; rfl), h1, Nat.mul_one]; rfl
        · have h0 : A / 2 ^ i / 2 ^ j % 2 = 0 := by omega
          rw [if_neg (by rw [h0]; decide), h0, Nat.mul_zero, Nat.add_zero]; rfl
    · have hz : A / 2 ^ i < 2 ^ j := by
        apply Nat.div_lt_of_lt_mul
        rw [← Nat.pow_add]
        exact Nat.lt_of_lt_of_le (lt_len_bitsN A) (Nat.pow_le_pow_right (by omega) (by omega))
      have hz2 : (2 : Nat) ^ j ≤ 2 ^ 32 := Nat.pow_le_pow_right (by omega) (by omega)
      refine Ev.step (fun k => ?_) (push (A / 2 ^ i % 2 ^ j) (by rw [Nat.mod_eq_of_lt hz, Nat.mod_eq_of_lt (by omega)]) j)
      simp only [foliotref01_Limbs.l1]
      rw [if_pos (by omega), ew, decide_eq_false (by omega)]
theorem limbs_l0 (A : Nat) (hA : (bitsN A).length < 100000000000) : ∀ (d i : Nat) (y : List Int), (bitsN A).length ≤ i + d → i < 100000000000 + 32 → y.length ≤ i → (i < (bitsN A).length → y.length < 10000000000) →
    y.length * 32 = i → ofN A = y ++ ofN (A / 2 ^ i) → Ev (fun k => foliotref01_Limbs.l0 k (bitsN A) y (i : Int)) (ofN A) := by
  intro d
  induction d using Nat.strongRecOn with
  | _ d ih =>
    intro i y hd hi hy hyl hy32 hv
    by_cases hlen : i < (bitsN A).length
    · have hne : A / 2 ^ i ≠ 0 := by
        intro h0
        have : A < 2 ^ i := by
          apply Nat.lt_of_not_le; intro hc
          have := Nat.div_pos hc (Nat.pow_pos (by omega)); omega
        have := len_bitsN_le this; omega
      rw [ofN_pos hne, Nat.div_div_eq_div_mul, show (4294967296 : Nat) = 2 ^ 32 from rfl, ← Nat.pow_add] at hv
      have h1 := limbs_l1 A hA y (by omega) i (by omega) (ofN A) (ih (d - 32) (by omega) (i + 32) _ (by omega) (by omega) (by simp; omega) (fun _ => by simp; omega) (by simp; omega) (by rw [hv]; simp)) 32 0 (by omega)
      refine Ev.step (fun k => ?_) h1
      simp only [foliotref01_Limbs.l0]
      rw [if_pos (by omega), Nat.pow_zero, Nat.mod_one]; rfl
    · have h0 : A / 2 ^ i = 0 := Nat.div_eq_of_lt (Nat.lt_of_lt_of_le (lt_len_bitsN A) (Nat.pow_le_pow_right (by omega) (by omega)))
      rw [h0, ofN_zero, List.append_nil] at hv
      refine Ev.step (f := fun _ => some (ofN A)) (fun k => ?_) (Ev.now _)
      simp only [foliotref01_Limbs.l0]
      rw [if_neg (by omega), hv]
theorem limbs_ev {l : List Bool} (hl : l.length < 100000000000) : Ev (fun k => foliotref01_Limbs.f k l) (ofN (bval l)) := by
  have h := len_bval_le l
  unfold foliotref01_Limbs.f
  refine Ev.bind (cut_ev (by omega)) ?_
  exact limbs_l0 (bval l) (by omega) (bitsN (bval l)).length 0 [] (by omega) (by omega) (by simp) (fun _ => by simp) rfl (by simp)
end
section
theorem lenb {l : List Int} (h : lim l) : (bitsN (val l)).length ≤ 32 * l.length := by
  have := val_lt h
  rw [show (4294967296 : Nat) = 2 ^ 32 from rfl, ← Nat.pow_mul] at this
  exact len_bitsN_le this
theorem bits_lt' (m n : Nat) (h : m ≤ n) : (bitsN m).length ≤ (bitsN n).length := len_bitsN_le (Nat.lt_of_le_of_lt h (lt_len_bitsN n))
theorem rcmp_ev {l m : List Int} (hl : l.length ≤ 1000000000) (hm : m.length ≤ 1000000000) (l1 : lim l) (m1 : lim m) : Ev (fun k => foliotref01_Cmp.f k l m) (cmp3 (val l) (val m)) := by
  have e1 := lenb l1
  have e2 := lenb m1
  unfold foliotref01_Cmp.f
  refine Ev.bind (of_ev (by omega) l1) (Ev.bind (of_ev (by omega) m1) (Ev.bind (a := cmp3 (val l) (val m)) ?_ (Ev.now _)))
  have h := cmp_ev (a := bitsN (val l)) (b := bitsN (val m)) (by omega) (by omega)
  rwa [bval_bitsN, bval_bitsN] at h
theorem rsub_ev {l m : List Int} (hl : l.length ≤ 1000000000) (hm : m.length ≤ 1000000000) (l1 : lim l) (m1 : lim m) :
    Ev (fun k => foliotref01_Sub.f k l m) (if val l < val m then ([], 1) else (ofN (val l - val m), 0)) := by
  have e1 := lenb l1
  have e2 := lenb m1
  unfold foliotref01_Sub.f
  have h := cmp_ev (a := bitsN (val l)) (b := bitsN (val m)) (by omega) (by omega)
  rw [bval_bitsN, bval_bitsN] at h
  refine Ev.bind (of_ev (by omega) l1) (Ev.bind (of_ev (by omega) m1) (Ev.bind h ?_))
  by_cases hlt : val l < val m
  · rw [show cmp3 (val l) (val m) = -1 from if_pos hlt, if_pos hlt]
    exact Ev.congr (f := fun _ => some ([], 1)) (fun k => if_pos (by omega)) (Ev.now _)
  · have hc : ¬ cmp3 (val l) (val m) < 0 := by unfold cmp3; rw [if_neg hlt]; split <;> omega
    rw [if_neg hlt]
    have hs := sub_evb (x0 := bitsN (val l)) (x1 := bitsN (val m)) (by omega) (by rw [bval_bitsN, bval_bitsN]; omega)
    rw [bval_bitsN, bval_bitsN] at hs
    have hb := bits_lt' (val l - val m) (val l) (by omega)
    have hL := limbs_ev (l := bitsN (val l - val m)) (by omega)
    rw [bval_bitsN] at hL
    exact Ev.congr (fun k => if_neg hc) (Ev.bind hs (Ev.bind hL (Ev.now _)))
end
section
theorem rtrim_l0 (l : List Int) (hlim : lim l) (hl : l.length < 1000000000000) : ∀ i : Nat, i ≤ l.length → val (l.take i) = val l →
    Ev (fun k => foliotref01_Trim.l0 k l (i : Int)) (ofN (val l)) := by
  intro i
  induction i with
  | zero =>
    intro _ hv
    refine Ev.step (f := fun _ => some (ofN (val l))) (fun k => ?_) (Ev.now _)
    simp only [foliotref01_Trim.l0]
    rw [if_neg (by omega), Option.bind_some, if_pos (by omega), if_pos (by omega), if_pos (by simp), ← hv]
    simp [val_nil, ofN_zero]
  | succ i ih =>
    intro hi hv
    have e : wrap64 (((i + 1 : Nat) : Int) - 1) = (i : Int) := by rw [w64 (by omega) (by omega)]; omega
    have hr : rd l (i : Int) = l[i]'(by omega) := by
      simp [rd, List.getD_eq_getElem?_getD, List.getElem?_eq_getElem (show i < l.length by omega)]
    have ht : l.take (i + 1) = l.take i ++ [l[i]'(by omega)] := List.take_succ_eq_append_getElem (by omega)
    by_cases h0 : l[i]'(by omega) = 0
    · refine Ev.step (f := fun k => foliotref01_Trim.l0 k l (i : Int)) (fun k => ?_) (ih (by omega) ?_)
      · simp only [foliotref01_Trim.l0]
        rw [e, if_pos (by omega), if_pos (by omega), if_pos (by omega), hr, if_pos h0]
      · rw [ht, h0, val_snoc_zero] at hv; exact hv
    · refine Ev.step (f := fun _ => some (ofN (val l))) (fun k => ?_) (Ev.now _)
      simp only [foliotref01_Trim.l0]
      rw [e, if_pos (by omega), if_pos (by omega), if_pos (by omega), hr, if_neg h0, Option.bind_some, if_pos (by omega), if_pos (by omega), Int.toNat_natCast, if_pos (by simp; omega), List.nil_append, ← hv,
        ofN_val (fun x hx => hlim x (List.mem_of_mem_take hx)) (by intro x hx; rw [ht, List.getLast?_concat] at hx; cases hx; exact h0)]
theorem rtrim_ev {l : List Int} (h : lim l) (hl : l.length < 1000000000000) : Ev (fun k => foliotref01_Trim.f k l) (ofN (val l)) :=
  rtrim_l0 l h hl l.length (Nat.le_refl _) (by rw [List.take_length])
end
section
theorem rlimbs_ev {n : Nat} (h : n < 18446744073709551616) : Ev (fun k => foliotref01_limbs.f k (n : Int)) (ofN n) := by
  have hlim : lim [(n : Int) % 4294967296, (n : Int) / 4294967296 % 4294967296] := by
    intro x hx
    simp only [List.mem_cons, List.not_mem_nil, or_false] at hx
    rcases hx with rfl | rfl <;> omega
  have e := rtrim_ev hlim (by simp)
  rw [show val [(n : Int) % 4294967296, (n : Int) / 4294967296 % 4294967296] = n by simp only [val_cons, val_nil]; omega] at e
  unfold foliotref01_limbs.f
  exact Ev.bind e (Ev.now _)
theorem short_at {l : List Int} (h : lim l) : foliotref01_short.f l = some (rd l 0, decide (l.length ≤ 1)) := by
  unfold foliotref01_short.f
  cases l with
  | nil => rfl
  | cons x l =>
    have hx := h x (List.mem_cons_self ..)
    rw [if_neg (by simp only [List.length_cons]; omega), if_pos (by simp only [List.length_cons]; omega), show rd (x :: l) 0 = x from rfl, u64 hx.1 (by omega)]
    congr 2
    rw [Bool.eq_iff_iff, beq_iff_eq, decide_eq_true_iff]; simp only [List.length_cons]; omega
end
section
theorem val_short {l : List Int} (h : lim l) (hs : l.length ≤ 1) : ∃ n : Nat, n < 4294967296 ∧ rd l 0 = (n : Int) ∧ val l = n := by
  match l, hs with
  | [], _ => exact ⟨0, by omega, rfl, rfl⟩
  | [x], _ =>
    have hx := h x (List.mem_cons_self ..)
    exact ⟨x.toNat, by omega, by show x = _; omega, by simp [val_cons, val_nil]⟩
theorem radd_j {l m : List Int} (hl : l.length ≤ 1000000000) (hm : m.length ≤ 1000000000) (l1 : lim l) (m1 : lim m) (x y : Int) :
    Ev (fun k => foliotref01_Add.j0 k l m x y false) (ofN (val l + val m)) := by
  have e1 := lenb l1
  have e2 := lenb m1
  have ha := add_ev (x0 := bitsN (val l)) (x1 := bitsN (val m)) (by omega) (by omega)
  rw [bval_bitsN, bval_bitsN] at ha
  have hn : (bitsN (val l + val m)).length ≤ 32 * (l.length + m.length) + 1 := by
    refine len_bitsN_le ?_
    have f1 := Nat.lt_of_lt_of_le (lt_len_bitsN (val l)) (Nat.pow_le_pow_right (n := 2) (by omega) (show (bitsN (val l)).length ≤ 32 * (l.length + m.length) by omega))
    have f2 := Nat.lt_of_lt_of_le (lt_len_bitsN (val m)) (Nat.pow_le_pow_right (n := 2) (by omega) (show (bitsN (val m)).length ≤ 32 * (l.length + m.length) by omega))
    rw [Nat.pow_succ]; omega
  have hL := limbs_ev (l := bitsN (val l + val m)) (by omega)
  rw [bval_bitsN] at hL
  refine Ev.step (f := fun k => (foliotref01_Of.f k l).bind fun a => (foliotref01_Of.f k m).bind fun b => (foliotref01_add.f k a b).bind fun c => (foliotref01_Limbs.f k c).bind fun d => some d) (fun k => ?_) (Ev.bind (of_ev (by omega) l1) (Ev.bind (of_ev (by omega) m1) (Ev.bind ha (Ev.bind hL (Ev.now _)))))
  simp only [foliotref01_Add.j0]
  rw [if_neg (by simp)]
theorem radd_ev {l m : List Int} (hl : l.length ≤ 1000000000) (hm : m.length ≤ 1000000000) (l1 : lim l) (m1 : lim m) :
    Ev (fun k => foliotref01_Add.f k l m) (ofN (val l + val m)) := by
  unfold foliotref01_Add.f
  rw [short_at l1, short_at m1]
  simp only [Option.bind_some]
  by_cases h1 : l.length ≤ 1
  · by_cases h2 : m.length ≤ 1
    · obtain ⟨a, ha, ea, va⟩ := val_short l1 h1
      obtain ⟨b, hb, eb, vb⟩ := val_short m1 h2
      refine Ev.congr (f := fun k => foliotref01_Add.j0 k l m (rd l 0) (rd m 0) true) (fun k => ?_) ?_
      · rw [if_pos (decide_eq_true h1), decide_eq_true h2]
      · rw [va, vb, ea, eb]
        refine Ev.step (fun k => ?_) (Ev.bind (rlimbs_ev (n := a + b) (by omega)) (Ev.now _))
        simp only [foliotref01_Add.j0]
        rw [if_pos trivial, u64 (by omega) (by omega)]; rfl
    · refine Ev.congr (fun k => ?_) (radd_j hl hm l1 m1 (rd l 0) (rd m 0))
      rw [if_pos (decide_eq_true h1), decide_eq_false h2]
  · refine Ev.congr (fun k => ?_) (radd_j hl hm l1 m1 (rd l 0) (rd m 0))
    rw [if_neg (by simp; omega)]
end
section
theorem rmul_l0 (x0 x1 : List Bool) (h0 : x0.length < 40000000000) (h1 : x1.length < 40000000000) : ∀ (i : Nat) (y : List Bool), i ≤ x1.length →
    y.length + i ≤ x0.length + x1.length → bval y = bval x0 * (bval x1 / 2 ^ i) →
    Ev (fun k => foliotref01_Mul.l0 k x0 x1 y ((i : Int) - 1)) (ofN (bval x0 * bval x1)) := by
  intro i
  induction i with
  | zero =>
    intro y _ hy hv
    rw [Nat.pow_zero, Nat.div_one] at hv
    have h := limbs_ev (l := y) (by omega)
    rw [hv] at h
    refine Ev.step (f := fun k => (foliotref01_Limbs.f k y).bind fun t => some t) (fun k => ?_) (Ev.bind h (Ev.now _))
    simp only [foliotref01_Mul.l0]
    rw [if_neg (by omega)]
  | succ i ih =>
    intro y hi hy hv
    have e : (((i + 1 : Nat) : Int) - 1) = (i : Int) := by omega
    have hg := getD_bit x1 i
    have hB : bval x1 / 2 ^ i = 2 * (bval x1 / 2 ^ (i + 1)) + bval x1 / 2 ^ i % 2 := by
      rw [Nat.pow_succ, ← Nat.div_div_eq_div_mul]; omega
    have hf : bval ([false] ++ y) = 2 * bval y := by simp [bval_cons]
    rw [e]
    by_cases hb : bval x1 / 2 ^ i % 2 = 1
    · have hs : 2 * bval y + bval x0 = bval x0 * (bval x1 / 2 ^ i) := by
        rw [hB, hb, hv, Nat.mul_add, Nat.mul_one, ← Nat.mul_assoc, Nat.mul_comm 2, Nat.mul_assoc]
      have ha := add_ev (x0 := [false] ++ y) (x1 := x0) (by simp; omega) (by omega)
      rw [hf, hs] at ha
      have hl : (bitsN (bval x0 * (bval x1 / 2 ^ i))).length ≤ x0.length + (x1.length - i) := by
        refine len_bitsN_le ?_
        rw [Nat.pow_add]
        refine Nat.mul_lt_mul'' (bval_lt x0) ?_
        apply Nat.div_lt_of_lt_mul
        rw [← Nat.pow_add, show i + (x1.length - i) = x1.length by omega]
        exact bval_lt x1
      refine Ev.step (f := fun k => (foliotref01_add.f k ([false] ++ y) x0).bind fun t => foliotref01_Mul.l0 k x0 x1 t ((i : Int) - 1)) (fun k => ?_) (Ev.bind ha (ih _ (by omega) (by omega) (bval_bitsN _)))
      simp only [foliotref01_Mul.l0]
      rw [if_pos (by omega), Option.bind_some, if_pos (by simp; omega), Option.bind_some, if_pos (by omega), if_pos (by omega), rdOf_nat, hg, if_pos (by rw [hb]; rfl), w64 (by omega) (by omega)]
    · have hb0 : bval x1 / 2 ^ i % 2 = 0 := by omega
      refine Ev.step (f := fun k => foliotref01_Mul.l0 k x0 x1 ([false] ++ y) ((i : Int) - 1)) (fun k => ?_) (ih _ (by omega) (by simp; omega) ?_)
      · simp only [foliotref01_Mul.l0]
        rw [if_pos (by omega), Option.bind_some, if_pos (by simp; omega), Option.bind_some, if_pos (by omega), if_pos (by omega), rdOf_nat, hg, if_neg (by rw [hb0]; decide), w64 (by omega) (by omega)]
      · rw [hf, hv, hB, hb0, ← Nat.mul_assoc, Nat.mul_comm 2, Nat.mul_assoc]; rfl
theorem rmul_j {l m : List Int} (hl : l.length ≤ 1000000000) (hm : m.length ≤ 1000000000) (l1 : lim l) (m1 : lim m) (x y : Int) :
    Ev (fun k => foliotref01_Mul.j0 k l m x y false) (ofN (val l * val m)) := by
  have e1 := lenb l1
  have e2 := lenb m1
  have h := rmul_l0 (bitsN (val l)) (bitsN (val m)) (by omega) (by omega) (bitsN (val m)).length [] (Nat.le_refl _) (by simp)
    (by rw [Nat.div_eq_of_lt (bval_lt _)]; simp [bval_nil])
  rw [bval_bitsN, bval_bitsN] at h
  refine Ev.step (f := fun k => (foliotref01_Of.f k l).bind fun a => (foliotref01_Of.f k m).bind fun b => foliotref01_Mul.l0 k a b [] (wrap64 ((b.length : Int) - 1))) (fun k => ?_)
    (Ev.bind (of_ev (by omega) l1) (Ev.bind (of_ev (by omega) m1) (Ev.congr (fun k => ?_) h)))
  · simp only [foliotref01_Mul.j0]
    rw [if_neg (by simp)]
  · rw [w64 (by omega) (by omega)]
theorem rmul_ev {l m : List Int} (hl : l.length ≤ 1000000000) (hm : m.length ≤ 1000000000) (l1 : lim l) (m1 : lim m) :
    Ev (fun k => foliotref01_Mul.f k l m) (ofN (val l * val m)) := by
  unfold foliotref01_Mul.f
  rw [short_at l1, short_at m1]
  simp only [Option.bind_some]
  by_cases h1 : l.length ≤ 1
  · by_cases h2 : m.length ≤ 1
    · obtain ⟨a, ha, ea, va⟩ := val_short l1 h1
      obtain ⟨b, hb, eb, vb⟩ := val_short m1 h2
      have hab : a * b < 18446744073709551616 := by
        have := Nat.mul_le_mul (show a ≤ 4294967295 by omega) (show b ≤ 4294967295 by omega)
        omega
      refine Ev.congr (f := fun k => foliotref01_Mul.j0 k l m (rd l 0) (rd m 0) true) (fun k => ?_) ?_
      · rw [if_pos (decide_eq_true h1), decide_eq_true h2]
      · rw [va, vb, ea, eb]
        refine Ev.step (fun k => ?_) (Ev.bind (rlimbs_ev hab) (Ev.now _))
        simp only [foliotref01_Mul.j0]
        rw [if_pos trivial, show (a : Int) * (b : Int) = ((a * b : Nat) : Int) from (Int.natCast_mul a b).symm, u64 (by omega) (by omega)]
    · refine Ev.congr (fun k => ?_) (rmul_j hl hm l1 m1 (rd l 0) (rd m 0))
      rw [if_pos (decide_eq_true h1), decide_eq_false h2]
  · refine Ev.congr (fun k => ?_) (rmul_j hl hm l1 m1 (rd l 0) (rd m 0))
    rw [if_neg (by simp; omega)]
end
section
theorem two_step {a q r B bit : Nat} (ha : a = B * q + r) (hr : r < B) (hbit : bit ≤ 1) :
    (2 * r + bit < B → (2 * a + bit) / B = 2 * q ∧ (2 * a + bit) % B = 2 * r + bit) ∧ (¬ 2 * r + bit < B → (2 * a + bit) / B = 2 * q + 1 ∧ (2 * a + bit) % B = 2 * r + bit - B) := by
  have hB : 0 < B := by omega
  have e : 2 * a + bit = B * (2 * q) + (2 * r + bit) := by
    rw [ha, Nat.mul_add, ← Nat.mul_assoc, Nat.mul_comm 2 B, Nat.mul_assoc]; omega
  constructor
  · intro h
    rw [e, Nat.mul_add_div hB, Nat.mul_add_mod, Nat.div_eq_of_lt h, Nat.mod_eq_of_lt h]; simp
  · intro h
    have e' : 2 * a + bit = B * (2 * q + 1) + (2 * r + bit - B) := by rw [e, Nat.mul_add, Nat.mul_one]; omega
    have h2 : 2 * r + bit - B < B := by omega
    rw [e', Nat.mul_add_div hB, Nat.mul_add_mod, Nat.div_eq_of_lt h2, Nat.mod_eq_of_lt h2]; simp
theorem rdiv_l0 (x0 x1 : List Bool) (h0 : x0.length < 40000000000) (h1 : x1.length < 40000000000) (hB : bval x1 ≠ 0) : ∀ (i : Nat) (hi_ : List Bool) (r : List Bool), i + hi_.length = x0.length →
    bval hi_ = bval x0 / 2 ^ i / bval x1 → r = bitsN (bval x0 / 2 ^ i % bval x1) →
    Ev (fun k => foliotref01_div.l0 k x0 x1 (List.replicate i false ++ hi_) r ((i : Int) - 1)) (bitsN (bval x0 / bval x1), bitsN (bval x0 % bval x1)) := by
  intro i
  induction i with
  | zero =>
    intro q r hl hq hr
    rw [Nat.pow_zero, Nat.div_one] at hq hr
    have h := cut_ev (l := q) (by omega)
    rw [hq] at h
    subst hr
    refine Ev.step (f := fun k => (foliotref01_cut.f k q).bind fun t => some (t, bitsN (bval x0 % bval x1))) (fun k => ?_) (Ev.bind h (Ev.now _))
    simp only [foliotref01_div.l0]
    rw [if_neg (by omega)]; rfl
  | succ i ih =>
    intro q r hl hq hr
    subst hr
    have e : (((i + 1 : Nat) : Int) - 1) = (i : Int) := by omega
    rw [e]
    have hg := getD_bit x0 i
    have ht := bit_toNat (bval x0) i
    have ha : bval x0 / 2 ^ i = 2 * (bval x0 / 2 ^ (i + 1)) + bval x0 / 2 ^ i % 2 := by
      rw [Nat.pow_succ, ← Nat.div_div_eq_div_mul]; omega
    have hbit : bval x0 / 2 ^ i % 2 ≤ 1 := by omega
    have ts := two_step (Nat.div_add_mod (bval x0 / 2 ^ (i + 1)) (bval x1)).symm (Nat.mod_lt _ (by omega)) hbit
    rw [← ha] at ts
    have hmod : bval x0 / 2 ^ (i + 1) % bval x1 < bval x1 := Nat.mod_lt _ (by omega)
    have hrl : (bitsN (bval x0 / 2 ^ (i + 1) % bval x1)).length ≤ x1.length := len_bitsN_le (Nat.lt_trans hmod (bval_lt x1))
    have hy : bval ([x0.getD i false] ++ bitsN (bval x0 / 2 ^ (i + 1) % bval x1)) = 2 * (bval x0 / 2 ^ (i + 1) % bval x1) + bval x0 / 2 ^ i % 2 := by
      rw [List.cons_append, List.nil_append, bval_cons, bval_bitsN, hg, ht]; omega
    have hc := cut_ev (l := [x0.getD i false] ++ bitsN (bval x0 / 2 ^ (i + 1) % bval x1)) (by simp; omega)
    rw [hy] at hc
    have hvl : (bitsN (2 * (bval x0 / 2 ^ (i + 1) % bval x1) + bval x0 / 2 ^ i % 2)).length ≤ x1.length + 1 := by
      refine len_bitsN_le ?_
      have hb1 := bval_lt x1
      have e2 : 2 ^ (x1.length + 1) = 2 * 2 ^ x1.length := by rw [Nat.pow_succ, Nat.mul_comm]
      rw [e2]
      generalize bval x0 / 2 ^ (i + 1) % bval x1 = Z at *
      omega
    have hm := cmp_ev (a := bitsN (2 * (bval x0 / 2 ^ (i + 1) % bval x1) + bval x0 / 2 ^ i % 2)) (b := x1) (by omega) (by omega)
    rw [bval_bitsN] at hm
    by_cases hlt : 2 * (bval x0 / 2 ^ (i + 1) % bval x1) + bval x0 / 2 ^ i % 2 < bval x1
    · have hcm : ¬ cmp3 (2 * (bval x0 / 2 ^ (i + 1) % bval x1) + bval x0 / 2 ^ i % 2) (bval x1) ≥ 0 := by unfold cmp3; rw [if_pos hlt]; omega
      obtain ⟨d1, d2⟩ := ts.1 hlt
      have hk := ih (false :: q) _ (by simp; omega) (by rw [bval_cons, hq, d1]; simp) rfl
      rw [d2, show List.replicate i false ++ false :: q = List.replicate (i + 1) false ++ q by rw [List.replicate_succ', List.append_assoc]; rfl] at hk
      refine Ev.step (f := fun k => (foliotref01_cut.f k ([x0.getD i false] ++ bitsN (bval x0 / 2 ^ (i + 1) % bval x1))).bind fun t => (foliotref01_cmp.f k t x1).bind fun c =>
        if c ≥ 0 then (foliotref01_sub.f k t x1).bind fun u => (if (i : Int) < ((List.replicate (i + 1) false ++ q).length : Int) then (foliotref01_div.l0 k x0 x1 ((List.replicate (i + 1) false ++ q).set (i : Int).toNat true) u ((i : Int) - 1)) else none)
        else foliotref01_div.l0 k x0 x1 (List.replicate (i + 1) false ++ q) t ((i : Int) - 1)) (fun k => ?_) (Ev.bind hc (Ev.bind hm (Ev.congr (fun k => if_neg hcm) hk)))
      simp only [foliotref01_div.l0]
      rw [if_pos (by omega), if_pos (by omega), if_pos (by omega), Option.bind_some, if_pos (by simp; omega), rdOf_nat, w64 (by omega) (by omega)]
    · have hcm : cmp3 (2 * (bval x0 / 2 ^ (i + 1) % bval x1) + bval x0 / 2 ^ i % 2) (bval x1) ≥ 0 := by unfold cmp3; rw [if_neg hlt]; split <;> omega
      obtain ⟨d1, d2⟩ := ts.2 hlt
      have hk := ih (true :: q) _ (by simp; omega) (by rw [bval_cons, hq, d1]; simp; omega) rfl
      have hset : (List.replicate (i + 1) false ++ q).set (i : Int).toNat true = List.replicate i false ++ true :: q := by
        rw [List.replicate_succ', List.append_assoc, Int.toNat_natCast, List.set_append_right _ _ (by simp)]; simp
      have hs := sub_evb (x0 := bitsN (2 * (bval x0 / 2 ^ (i + 1) % bval x1) + bval x0 / 2 ^ i % 2)) (x1 := x1) (by omega) (by rw [bval_bitsN]; omega)
      rw [bval_bitsN] at hs
      rw [d2, ← hset] at hk
      refine Ev.step (f := fun k => (foliotref01_cut.f k ([x0.getD i false] ++ bitsN (bval x0 / 2 ^ (i + 1) % bval x1))).bind fun t => (foliotref01_cmp.f k t x1).bind fun c =>
        if c ≥ 0 then (foliotref01_sub.f k t x1).bind fun u => (if (i : Int) < ((List.replicate (i + 1) false ++ q).length : Int) then (foliotref01_div.l0 k x0 x1 ((List.replicate (i + 1) false ++ q).set (i : Int).toNat true) u ((i : Int) - 1)) else none)
        else foliotref01_div.l0 k x0 x1 (List.replicate (i + 1) false ++ q) t ((i : Int) - 1)) (fun k => ?_) (Ev.bind hc (Ev.bind hm (Ev.congr (fun k => if_pos hcm) (Ev.bind hs (Ev.congr (fun k => if_pos (by simp; omega)) hk)))))
      simp only [foliotref01_div.l0]
      rw [if_pos (by omega), if_pos (by omega), if_pos (by omega), Option.bind_some, if_pos (by simp; omega), rdOf_nat, w64 (by omega) (by omega)]
theorem rdiv_ev {x0 x1 : List Bool} (h0 : x0.length < 40000000000) (h1 : x1.length < 40000000000) (hB : bval x1 ≠ 0) :
    Ev (fun k => foliotref01_div.f k x0 x1) (bitsN (bval x0 / bval x1), bitsN (bval x0 % bval x1)) := by
  have hz : bval x0 / 2 ^ x0.length = 0 := Nat.div_eq_of_lt (bval_lt x0)
  have h := rdiv_l0 x0 x1 h0 h1 hB x0.length [] [] rfl (by rw [hz]; simp [bval_nil]) (by rw [hz]; simp [bitsN_zero])
  rw [List.append_nil] at h
  unfold foliotref01_div.f
  refine Ev.congr (fun k => ?_) h
  rw [if_pos (by omega), if_pos (by omega), Int.toNat_natCast, w64 (by omega) (by omega)]
def divided (A B : Nat) : List Int × List Int × Int := if B = 0 then ([], [], 3) else (ofN (A / B), ofN (A % B), 0)
theorem len_bits_le (m n : Nat) (h : m ≤ n) : (bitsN m).length ≤ (bitsN n).length := len_bitsN_le (Nat.lt_of_le_of_lt h (lt_len_bitsN n))
theorem bitsN_eq_nil {n : Nat} : (bitsN n).length = 0 ↔ n = 0 := by
  constructor
  · intro h
    have := lt_len_bitsN n
    rw [h] at this
    omega
  · intro h; subst h; rfl
theorem rdivN_ev {A B : Nat} (h0 : (bitsN A).length < 40000000000) (h1 : (bitsN B).length < 40000000000) (hB : B ≠ 0) :
    Ev (fun k => foliotref01_div.f k (bitsN A) (bitsN B)) (bitsN (A / B), bitsN (A % B)) := by
  have h := rdiv_ev h0 h1 (by rw [bval_bitsN]; exact hB)
  rw [bval_bitsN, bval_bitsN] at h
  exact h
theorem limbsN_ev {A : Nat} (h : (bitsN A).length < 100000000000) : Ev (fun k => foliotref01_Limbs.f k (bitsN A)) (ofN A) := by
  have h2 := limbs_ev h
  rw [bval_bitsN] at h2
  exact h2
theorem rdivide_ev {l m : List Int} (hl : l.length ≤ 1000000000) (hm : m.length ≤ 1000000000) (l1 : lim l) (m1 : lim m) :
    Ev (fun k => foliotref01_Div.f k l m) (divided (val l) (val m)) := by
  have e1 := lenb l1
  have e2 := lenb m1
  unfold foliotref01_Div.f divided
  by_cases h : val m = 0
  · rw [if_pos h]
    refine Ev.bind (of_ev (by omega) l1) (Ev.bind (of_ev (by omega) m1) (Ev.congr (fun k => ?_) (Ev.now _)))
    rw [if_pos (by rw [h]; rfl)]
  · rw [if_neg h]
    have q1 := len_bits_le (val l / val m) (val l) (Nat.div_le_self _ _)
    have q2 := len_bits_le (val l % val m) (val l) (Nat.mod_le _ _)
    have d1 := rdivN_ev (A := val l) (B := val m) (by omega) (by omega) h
    have d2 := limbsN_ev (A := val l / val m) (by omega)
    have d3 := limbsN_ev (A := val l % val m) (by omega)
    refine Ev.bind (of_ev (by omega) l1) (Ev.bind (of_ev (by omega) m1) (Ev.congr (f := fun k => (foliotref01_div.f k (bitsN (val l)) (bitsN (val m))).bind fun bt => (foliotref01_Limbs.f k bt.1).bind fun t1 => (foliotref01_Limbs.f k bt.2).bind fun t2 => some (t1, t2, 0)) (fun k => ?_) (Ev.bind d1 (Ev.bind d2 (Ev.bind (f := fun k t2 => some (ofN (val l / val m), t2, 0)) d3 (Ev.now _))))))
    rw [if_neg]
    intro h2
    exact h (bitsN_eq_nil.1 (by omega))
theorem rgcd_l0 : ∀ (d A B : Nat), B ≤ d → (bitsN A).length < 40000000000 → (bitsN B).length < 40000000000 → Ev (fun k => foliotref01_Gcd.l0 k (bitsN A) (bitsN B)) (ofN (Nat.gcd A B)) := by
  intro d
  induction d with
  | zero =>
    intro A B hB hA _
    obtain rfl : B = 0 := by omega
    refine Ev.step (f := fun k => (foliotref01_Limbs.f k (bitsN A)).bind fun t => some t) (fun k => ?_) ?_
    · simp only [foliotref01_Gcd.l0]
      rw [if_neg (by rw [bitsN_zero]; simp)]
    · rw [Nat.gcd_zero_right]
      exact Ev.bind (limbsN_ev (by omega)) (Ev.now _)
  | succ d ih =>
    intro A B hB hA hB2
    by_cases h : B = 0
    · subst h
      refine Ev.step (f := fun k => (foliotref01_Limbs.f k (bitsN A)).bind fun t => some t) (fun k => ?_) ?_
      · simp only [foliotref01_Gcd.l0]
        rw [if_neg (by rw [bitsN_zero]; simp)]
      · rw [Nat.gcd_zero_right]
        exact Ev.bind (limbsN_ev (by omega)) (Ev.now _)
    · have hm := Nat.mod_lt A (Nat.pos_of_ne_zero h)
      have q2 := len_bits_le (A % B) B (by omega)
      have hne : ¬ (bitsN B).length = 0 := fun e => h (bitsN_eq_nil.1 e)
      refine Ev.step (f := fun k => (foliotref01_div.f k (bitsN A) (bitsN B)).bind fun t => foliotref01_Gcd.l0 k (bitsN B) t.2) (fun k => ?_) ?_
      · simp only [foliotref01_Gcd.l0]
        rw [if_pos (by omega)]
      · rw [show Nat.gcd A B = Nat.gcd B (A % B) by rw [Nat.gcd_comm B, ← Nat.gcd_rec, Nat.gcd_comm]]
        exact Ev.bind (rdivN_ev hA hB2 h) (ih B (A % B) (by omega) hB2 (by omega))
theorem rgcd_ev {l m : List Int} (hl : l.length ≤ 1000000000) (hm : m.length ≤ 1000000000) (l1 : lim l) (m1 : lim m) :
    Ev (fun k => foliotref01_Gcd.f k l m) (ofN (Nat.gcd (val l) (val m))) := by
  have e1 := lenb l1
  have e2 := lenb m1
  unfold foliotref01_Gcd.f
  exact Ev.bind (of_ev (by omega) l1) (Ev.bind (of_ev (by omega) m1) (rgcd_l0 _ _ _ (Nat.le_refl _) (by omega) (by omega)))
end
section
theorem len_bits_of {n L : Nat} (h1 : 2 ^ L ≤ n) (h2 : n < 2 ^ (L + 1)) : (bitsN n).length = L + 1 := by
  have a := len_bitsN_le h2
  have b := lt_len_bitsN n
  by_cases h : (bitsN n).length ≤ L
  · have := Nat.pow_le_pow_right (n := 2) (by omega) h
    omega
  · omega
theorem pbits_ev {l : List Int} (hl : l.length ≤ 8796093022208) (l1 : lim l) : Ev (fun k => nat_Bits.f k l) ((bitsN (val l)).length : Int) := by
  unfold nat_Bits.f
  have hlen := len_val_le l1
  refine Ev.bind (Nt.cut_ev l1 (by omega)) ?_
  by_cases h0 : val l = 0
  · rw [h0]; exact Ev.congr (f := fun _ => some 0) (fun k => by rw [if_pos (by rw [ofN_zero]; rfl)]) (Ev.now _)
  · have hne : ofN (val l) ≠ [] := fun e => h0 (ofN_nil.1 e)
    have hpos := List.length_pos_iff.2 hne
    obtain ⟨r, y, hr, hrl⟩ := snoc_of (l := ofN (val l)) (n := (ofN (val l)).length - 1) (by omega)
    obtain ⟨y0, y1, hlr, e⟩ := last_ofN hr
    obtain ⟨n, b0, b1, b2, b3, b4⟩ := len32 y0 y1
    have hyy : ((y.toNat : Nat) : Int) = y := by omega
    have hrv := val_lt hlr
    have hP : 4294967296 ^ r.length = 2 ^ (32 * r.length) := by rw [show (4294967296 : Nat) = 2 ^ 32 from rfl, ← Nat.pow_mul]
    have c3 : 2 ^ (n - 1) ≤ y.toNat := by
      have : ((2 ^ (n - 1) : Nat) : Int) ≤ (y.toNat : Int) := by rw [hyy]; exact_mod_cast b3
      omega
    have c4 : y.toNat + 1 ≤ 2 ^ n := by
      have : (y.toNat : Int) < ((2 ^ n : Nat) : Int) := by rw [hyy]; exact_mod_cast b4
      omega
    have hL : (bitsN (val l)).length = 32 * r.length + (n - 1) + 1 := by
      apply len_bits_of
      · rw [Nat.pow_add, ← hP, e]
        exact Nat.le_trans (Nat.mul_le_mul_left _ c3) (Nat.le_add_left _ _)
      · rw [show 32 * r.length + (n - 1) + 1 = 32 * r.length + n by omega, Nat.pow_add, ← hP, e]
        have := Nat.mul_le_mul_left (4294967296 ^ r.length) c4
        rw [Nat.mul_add, Nat.mul_one] at this
        omega
    have hlr2 : (ofN (val l)).length = r.length + 1 := by rw [hr]; simp
    refine Ev.congr (f := fun _ => some (((bitsN (val l)).length : Nat) : Int)) (fun k => ?_) (Ev.now _)
    rw [hL, hlr2]
    have e1 : wrap64 (((r.length + 1 : Nat) : Int) - 1) = (r.length : Int) := by rw [w64 (by omega) (by omega)]; omega
    rw [if_neg (by omega), e1, if_pos (by omega), if_pos (by omega), hr, rd_app _ _ _ _ rfl, b0]
    simp only [Option.bind_some]
    rw [w64 (x := 32 * (r.length : Int)) (by omega) (by omega), w64 (by omega) (by omega)]
    congr 1
    omega
end
section
theorem nums_cons (x : Int) (l : List Int) : strOfNums [x] ++ strOfNums l = strOfNums (x :: l) := by
  apply ByteArray.ext
  simp [strOfNums, ByteArray.data_append]
theorem nums_nil : strOfNums [] = (⟨#[]⟩ : ByteArray) := rfl
theorem nums_eq_nil (l : List Int) : (strOfNums l).toList = ([] : List UInt8) ↔ l = [] := by
  rw [toList_nil, strOfNums_size]; exact List.length_eq_zero_iff
theorem rprint_s0 : ∀ (N n : Nat) (D : List Int), n ≤ N → n < 4294967296 → D ≠ [] → D.length + (low n).length < 4000000000000000000 →
    Ev (fun k => foliotref01_Print.l0 k (n : Int) (strOfNums D)) (strOfNums ((low n).reverse ++ D)) := by
  intro N
  induction N with
  | zero =>
    intro n D hn _ hD _
    obtain rfl : n = 0 := by omega
    refine Ev.step (f := fun _ => some (strOfNums ((low 0).reverse ++ D))) (fun k => ?_) (Ev.now _)
    simp only [foliotref01_Print.l0]
    rw [if_neg (by rw [nums_eq_nil]; exact hD), if_neg (by omega)]
    rfl
  | succ N ih =>
    intro n D hn hb hD hl
    by_cases h0 : n = 0
    · subst h0
      exact ih 0 D (by omega) hb hD hl
    · have el := low_pos h0
      rw [el] at hl
      simp only [List.length_cons] at hl
      have h := ih (n / 10) ((48 + ((n % 10 : Nat) : Int)) :: D) (by omega) (by omega) (by simp) (by simp; omega)
      rw [el, List.reverse_cons, List.append_assoc, List.singleton_append]
      refine Ev.step (fun k => ?_) h
      simp only [foliotref01_Print.l0, Option.bind_some]
      have e1 : IntKind.u64.wrap (48 + Int.tmod (n : Int) 10) % 256 = 48 + ((n % 10 : Nat) : Int) := by
        rw [Int.tmod_eq_emod_of_nonneg (by omega), u64 (by omega) (by omega)]; omega
      have e2 : IntKind.u64.wrap (Int.tdiv (n : Int) 10) = ((n / 10 : Nat) : Int) := by
        rw [Int.tdiv_eq_ediv_of_nonneg (by omega), u64 (by omega) (by omega)]; omega
      rw [if_neg (by rw [nums_eq_nil]; exact hD), if_pos (by omega), e1, e2, if_pos (by rw [strOfNums_size, strOfNums_size]; simp; omega), nums_cons]
theorem rprint_short {n : Nat} (hb : n < 4294967296) : Ev (fun k => foliotref01_Print.l0 k (n : Int) (⟨#[]⟩ : ByteArray)) (text n) := by
  have hl := low_len 10 (n / 10) (by omega)
  have h := rprint_s0 (n / 10) (n / 10) [48 + ((n % 10 : Nat) : Int)] (Nat.le_refl _) (by omega) (by simp) (by simp; omega)
  refine Ev.step (f := fun k => foliotref01_Print.l0 k ((n / 10 : Nat) : Int) (strOfNums [48 + ((n % 10 : Nat) : Int)])) (fun k => ?_) ?_
  · simp only [foliotref01_Print.l0, Option.bind_some]
    have e1 : IntKind.u64.wrap (48 + Int.tmod (n : Int) 10) % 256 = 48 + ((n % 10 : Nat) : Int) := by
      rw [Int.tmod_eq_emod_of_nonneg (by omega), u64 (by omega) (by omega)]; omega
    have e2 : IntKind.u64.wrap (Int.tdiv (n : Int) 10) = ((n / 10 : Nat) : Int) := by
      rw [Int.tdiv_eq_ediv_of_nonneg (by omega), u64 (by omega) (by omega)]; omega
    rw [← nums_nil, if_pos ((nums_eq_nil []).2 rfl), e1, e2, if_pos (by rw [strOfNums_size, strOfNums_size]; simp), nums_cons]
  · have e : text n = strOfNums ((low (n / 10)).reverse ++ [48 + ((n % 10 : Nat) : Int)]) := by
      unfold text told
      by_cases h0 : n = 0
      · subst h0; rfl
      · rw [if_neg (fun e => h0 (low_nil.1 e)), low_pos h0, List.reverse_cons]
    rw [e]; exact h
theorem rprint_l2 {r x7 x9 : List Bool} {s : ByteArray} (hr : r.length < 1000) (hv : bval r < 10) (R : ByteArray)
    (hR : Ev (fun k => (some (([48 + (bval r : Int)] : List Int) : List Int)).bind fun y => if (strOfNums y).size + s.size ≤ 9223372036854775807 then foliotref01_Print.l1 k x9 x7 (strOfNums y ++ s) else none) R) :
    ∀ i : Nat, i ≤ r.length → Ev (fun k => foliotref01_Print.l2 k x7 s x9 r ((bval r / 2 ^ i : Nat) : Int) ((i : Int) - 1)) R := by
  intro i
  induction i with
  | zero =>
    intro _
    refine Ev.step (fun k => ?_) hR
    simp only [foliotref01_Print.l2]
    rw [if_neg (by omega), Nat.pow_zero, Nat.div_one, w64 (by omega) (by omega)]
    congr 4
    omega
  | succ i ih =>
    intro hi
    have h := ih (by omega)
    have hg := getD_bit r i
    have e : (((i + 1 : Nat) : Int) - 1) = (i : Int) := by omega
    have hB : bval r / 2 ^ i = 2 * (bval r / 2 ^ (i + 1)) + bval r / 2 ^ i % 2 := by
      rw [Nat.pow_succ, ← Nat.div_div_eq_div_mul]; omega
    have hle : bval r / 2 ^ i < 10 := Nat.lt_of_le_of_lt (Nat.div_le_self _ _) hv
    rw [e]
    refine Ev.step (fun k => ?_) h
    simp only [foliotref01_Print.l2]
    rw [if_pos (by omega), if_pos (by omega), if_pos (by omega), rdOf_nat, hg]
    generalize bval r / 2 ^ i = X at *
    generalize bval r / 2 ^ (i + 1) = Y at *
    by_cases hb : X % 2 = 1
    · rw [if_pos (by rw [hb]; rfl), ww (x := 2 * (Y : Int)) (by omega), ww (by omega), w64 (by omega) (by omega)]
      congr 1
      omega
    · rw [if_neg (by simpa using hb), ww (x := 2 * (Y : Int)) (by omega), w64 (by omega) (by omega)]
      congr 1
      omega
theorem rprint_l1 : ∀ (N n : Nat) (D : List Int), n ≤ N → (bitsN n).length < 40000000000 → D.length + (low n).length < 4000000000000000000 →
    Ev (fun k => foliotref01_Print.l1 k (bitsN n) (bitsN 10) (strOfNums D)) (if D = [] then text n else strOfNums ((low n).reverse ++ D)) := by
  intro N
  induction N using Nat.strongRecOn with
  | _ N ih =>
    intro n D hn hb hl
    -- one digit, and on
    have go : (n ≠ 0 ∨ D = []) → Ev (fun k => foliotref01_Print.j2 k (bitsN n) (bitsN 10) (strOfNums D) true) (if D = [] then text n else strOfNums ((low n).reverse ++ D)) := by
      intro hgo
      have hd := rdivN_ev (A := n) (B := 10) hb (by decide) (by omega)
      have q2 : (bitsN (n % 10)).length ≤ 4 := len_bitsN_le (by omega)
      have q1 := len_bits_le (n / 10) n (Nat.div_le_self _ _)
      have hlow : (low (n / 10)).length ≤ (low n).length := by
        by_cases h0 : n = 0
        · subst h0; exact Nat.le_refl _
        · rw [low_pos h0]; simp
      have hR : Ev (fun k => (some (([48 + (bval (bitsN (n % 10)) : Int)] : List Int) : List Int)).bind fun y => if (strOfNums y).size + (strOfNums D).size ≤ 9223372036854775807 then foliotref01_Print.l1 k (bitsN (n / 10)) (bitsN 10) (strOfNums y ++ strOfNums D) else none) (if D = [] then text n else strOfNums ((low n).reverse ++ D)) := by
        rw [bval_bitsN]
        have e : (if D = [] then text n else strOfNums ((low n).reverse ++ D)) = strOfNums ((low (n / 10)).reverse ++ (48 + ((n % 10 : Nat) : Int)) :: D) := by
          by_cases h0 : n = 0
          · subst h0
            have hD : D = [] := hgo.elim (fun h => absurd rfl h) id
            subst hD
            rfl
          · by_cases hD : D = []
            · subst hD
              rw [if_pos rfl]
              unfold text told
              rw [if_neg (fun e => h0 (low_nil.1 e)), low_pos h0, List.reverse_cons]
            · rw [if_neg hD, low_pos h0, List.reverse_cons, List.append_assoc, List.singleton_append]
        rw [e]
        by_cases h0 : n = 0
        · subst h0
          have hD : D = [] := hgo.elim (fun h => absurd rfl h) id
          subst hD
          refine Ev.congr (f := fun k => foliotref01_Print.l1 k (bitsN (0 / 10)) (bitsN 10) (strOfNums [48])) (fun k => ?_) ?_
          · rw [Option.bind_some, if_pos (by rw [strOfNums_size, strOfNums_size]; simp), nums_cons]; rfl
          · refine Ev.step (f := fun k => foliotref01_Print.j2 k (bitsN (0 / 10)) (bitsN 10) (strOfNums [48]) false) (fun k => ?_) ?_
            · simp only [foliotref01_Print.l1]
              rw [if_neg (by rw [nums_eq_nil]; simp)]
              rfl
            · refine Ev.step (f := fun _ => some (strOfNums [48])) (fun k => ?_) (Ev.now _)
              simp only [foliotref01_Print.j2]
              rw [if_neg (by simp)]
        · have h := ih (n / 10) (by omega) (n / 10) ((48 + ((n % 10 : Nat) : Int)) :: D) (Nat.le_refl _) (by omega) (by
            rw [low_pos h0] at hl; simp only [List.length_cons] at hl ⊢; omega)
          rw [if_neg (by simp)] at h
          refine Ev.congr (fun k => ?_) h
          rw [Option.bind_some, if_pos (by rw [strOfNums_size, strOfNums_size]; simp; omega), nums_cons]
      have h2 := rprint_l2 (r := bitsN (n % 10)) (x7 := bitsN 10) (x9 := bitsN (n / 10)) (s := strOfNums D) (by omega) (by rw [bval_bitsN]; omega) _ hR (bitsN (n % 10)).length (Nat.le_refl _)
      rw [Nat.div_eq_of_lt (bval_lt _)] at h2
      refine Ev.step (f := fun k => (foliotref01_div.f k (bitsN n) (bitsN 10)).bind fun bt => foliotref01_Print.l2 k (bitsN 10) (strOfNums D) bt.1 bt.2 0 (wrap64 ((bt.2.length : Int) - 1))) (fun k => ?_) (Ev.bind hd (Ev.congr (fun k => ?_) h2))
      · simp only [foliotref01_Print.j2]
        rw [if_pos trivial]
      · show foliotref01_Print.l2 k (bitsN 10) (strOfNums D) (bitsN (n / 10)) (bitsN (n % 10)) 0 (wrap64 (((bitsN (n % 10)).length : Int) - 1)) = _
        rw [w64 (by omega) (by omega)]; rfl
    by_cases hD : D = []
    · refine Ev.step (fun k => ?_) (go (Or.inr hD))
      simp only [foliotref01_Print.l1]
      rw [if_pos (by rw [nums_eq_nil]; exact hD)]
    · by_cases h0 : n = 0
      · subst h0
        rw [if_neg hD]
        refine Ev.step (f := fun k => foliotref01_Print.j2 k (bitsN 0) (bitsN 10) (strOfNums D) false) (fun k => ?_) ?_
        · simp only [foliotref01_Print.l1]
          rw [if_neg (by rw [nums_eq_nil]; exact hD)]
          rfl
        · refine Ev.step (f := fun _ => some (strOfNums ((low 0).reverse ++ D))) (fun k => ?_) (Ev.now _)
          simp only [foliotref01_Print.j2]
          rw [if_neg (by simp)]
          rfl
      · have hne : ¬ (bitsN n).length = 0 := fun e => h0 (bitsN_eq_nil.1 e)
        refine Ev.step (fun k => ?_) (go (Or.inl h0))
        simp only [foliotref01_Print.l1]
        rw [if_neg (by rw [nums_eq_nil]; exact hD), decide_eq_true (show ((bitsN n).length : Int) > 0 by omega)]
theorem low_bits (n : Nat) : (low n).length ≤ (bitsN n).length := by
  apply low_len
  exact Nat.lt_of_lt_of_le (lt_len_bitsN n) (Nat.pow_le_pow_left (by omega) _)
theorem rprint_ev {l : List Int} (hl : l.length ≤ 1000000000) (l1 : lim l) : Ev (fun k => foliotref01_Print.f k l) (text (val l)) := by
  unfold foliotref01_Print.f
  rw [short_at l1]
  simp only [Option.bind_some]
  by_cases h1 : l.length ≤ 1
  · obtain ⟨a, ha, ea, va⟩ := val_short l1 h1
    rw [va, ea]
    exact Ev.congr (fun k => if_pos (decide_eq_true h1)) (rprint_short ha)
  · have e1 := lenb l1
    have e2 := low_bits (val l)
    have h := rprint_l1 (val l) (val l) [] (Nat.le_refl _) (by omega) (by simp; omega)
    rw [if_pos rfl] at h
    have h10 : Ev (fun k => foliotref01_Of.f k [10]) (bitsN 10) := of_ev (by simp) (lim_cons.2 ⟨by omega, lim_nil⟩)
    exact Ev.congr (f := fun k => (foliotref01_Of.f k l).bind fun a => (foliotref01_Of.f k [10]).bind fun b => foliotref01_Print.l1 k a b (⟨#[]⟩ : ByteArray)) (fun k => if_neg (by rw [decide_eq_false h1]; simp)) (Ev.bind (of_ev (by omega) l1) (Ev.bind h10 h))
def rfits (l : List Int) : Prop := lim l ∧ l.length ≤ 1000000000
instance (l : List Int) : Decidable (rfits l) := inferInstanceAs (Decidable (_ ∧ _))
end
end Go.Proofs.Ytjfkhbkddenfoaa.Nb
namespace Go.Proofs.Ytjfkhbkddenfoaa.Ev
open Go Go.RowKit Go.Proofs.YtjfkhbkddenfoaaW.PrintWords Go.Proofs.YtjfkhbkddenfoaaW.PrintMore Go.Proofs.YtjfkhbkddenfoaaW.PrintLast Go.Proofs.Ytjfkhbkddenfoaa
section
def nat_Trim.f (l0 : List Int) : Option (List Int) := if Nt.fits l0 then some (Nt.ofN (Nt.val l0)) else none
theorem nat_Trim.calls (A0 : Option Addr) (c0 : Nat) (l0 : List Int) (r : List Int) (w : World) (hr0 : Kd.C (Kd.int .u32) w A0 l0.length l0) (hc0 : l0.length ≤ c0) (h : nat_Trim.f l0 = some r) :
    Calls Try.prog 112 #[.slice A0 l0.length c0] w fun e w' => ∃ v0_ : Value, e = .returned (v0_) ∧ Kd.R (Kd.int .u32) 87 w' w.heap.size (fun _ => True) v0_ r ∧ Below w.heap.size w w' := by
  unfold nat_Trim.f at h
  split at h
  · rename_i hf
    injection h with h
    subst h
    obtain ⟨K, hK⟩ := Nt.trim_ev hf.1 (by have := hf.2; omega)
    exact N.nat_Trim.calls K A0 c0 l0 _ w hr0 hc0 (hK K (Nat.le_refl _))
  · cases h
theorem nat_Trim.con (l0 : List Int) (r1 : List Int) (h : nat_Trim.f l0 = some r1) : Con Try.prog 112 [.one (limbs l0)] (.g (.one (limbs r1))) := by
  refine .inl ⟨⟨_, Try.func112, by kernel_rfl, rfl⟩, fun ok us w hA => ?_⟩
  obtain ⟨A0, c0, rfl, hc0, hF0⟩ := in1 hA
  refine (nat_Trim.calls A0 c0 l0 r1 w (Kd.F_now hF0) hc0 h).mono ?_
  rintro e w' ⟨v0, rfl, h0, hb⟩
  exact ⟨_, rfl, (outR h0 : TC [] _ _ _ _), hb⟩
def nat_Add.f (l0 : List Int) (l1 : List Int) : Option (List Int) := if Nt.fits l0 ∧ Nt.fits l1 then some (Nt.ofN (Nt.val l0 + Nt.val l1)) else none
theorem nat_Add.calls (A0 : Option Addr) (c0 : Nat) (l0 : List Int) (A1 : Option Addr) (c1 : Nat) (l1 : List Int) (r : List Int) (w : World) (hr0 : Kd.C (Kd.int .u32) w A0 l0.length l0) (hc0 : l0.length ≤ c0) (hr1 : Kd.C (Kd.int .u32) w A1 l1.length l1) (hc1 : l1.length ≤ c1) (h : nat_Add.f l0 l1 = some r) :
    Calls Try.prog 102 #[.slice A0 l0.length c0, .slice A1 l1.length c1] w fun e w' => ∃ v0_ : Value, e = .returned (v0_) ∧ Kd.V (Kd.int .u32) 87 w' w.heap.size (fun k_ => (w.heap.size ≤ k_)) v0_ r ∧ Below w.heap.size w w' := by
  unfold nat_Add.f at h
  split at h
  · rename_i hf
    injection h with h
    subst h
    obtain ⟨K, hK⟩ := Nt.add_ev hf.1.1 hf.2.1 hf.1.lt hf.2.lt
    exact N.nat_Add.calls K A0 c0 l0 A1 c1 l1 _ w hr0 hc0 hr1 hc1 (hK K (Nat.le_refl _))
  · cases h
theorem nat_Add.con (l0 : List Int) (l1 : List Int) (r1 : List Int) (h : nat_Add.f l0 l1 = some r1) : Con Try.prog 102 [.one (limbs l0), .one (limbs l1)] (.g (.one (limbs r1))) := by
  refine .inl ⟨⟨_, Try.func102, by kernel_rfl, rfl⟩, fun ok us w hA => ?_⟩
  obtain ⟨A0, c0, A1, c1, rfl, hc0, hF0, hc1, hF1⟩ := in2 hA
  refine (nat_Add.calls A0 c0 l0 A1 c1 l1 r1 w (Kd.F_now hF0) hc0 (Kd.F_now hF1) hc1 h).mono ?_
  rintro e w' ⟨v0, rfl, h0, hb⟩
  exact ⟨_, rfl, (outV h0 (fun k hk => .inr hk) : TC [] _ _ _ _), hb⟩
def nat_Mul.f (l0 : List Int) (l1 : List Int) : Option (List Int) := if Nt.fits l0 ∧ Nt.fits l1 then some (Nt.ofN (Nt.val l0 * Nt.val l1)) else none
theorem nat_Mul.calls (A0 : Option Addr) (c0 : Nat) (l0 : List Int) (A1 : Option Addr) (c1 : Nat) (l1 : List Int) (r : List Int) (w : World) (hr0 : Kd.C (Kd.int .u32) w A0 l0.length l0) (hc0 : l0.length ≤ c0) (hr1 : Kd.C (Kd.int .u32) w A1 l1.length l1) (hc1 : l1.length ≤ c1) (h : nat_Mul.f l0 l1 = some r) :
    Calls Try.prog 75 #[.slice A0 l0.length c0, .slice A1 l1.length c1] w fun e w' => ∃ v0_ : Value, e = .returned (v0_) ∧ Kd.V (Kd.int .u32) 87 w' w.heap.size (fun k_ => (w.heap.size ≤ k_)) v0_ r ∧ Below w.heap.size w w' := by
  unfold nat_Mul.f at h
  split at h
  · rename_i hf
    injection h with h
    subst h
    obtain ⟨K, hK⟩ := Nt.mul_ev hf.1.1 hf.2.1 (by have := hf.1.2; have := hf.2.2; omega)
    exact N.nat_Mul.calls K A0 c0 l0 A1 c1 l1 _ w hr0 hc0 hr1 hc1 (hK K (Nat.le_refl _))
  · cases h
theorem nat_Mul.con (l0 : List Int) (l1 : List Int) (r1 : List Int) (h : nat_Mul.f l0 l1 = some r1) : Con Try.prog 75 [.one (limbs l0), .one (limbs l1)] (.g (.one (limbs r1))) := by
  refine .inl ⟨⟨_, Try.func75, by kernel_rfl, rfl⟩, fun ok us w hA => ?_⟩
  obtain ⟨A0, c0, A1, c1, rfl, hc0, hF0, hc1, hF1⟩ := in2 hA
  refine (nat_Mul.calls A0 c0 l0 A1 c1 l1 r1 w (Kd.F_now hF0) hc0 (Kd.F_now hF1) hc1 h).mono ?_
  rintro e w' ⟨v0, rfl, h0, hb⟩
  exact ⟨_, rfl, (outV h0 (fun k hk => .inr hk) : TC [] _ _ _ _), hb⟩
def nat_Sub.f (l0 : List Int) (l1 : List Int) : Option (List Int × Int) := if Nt.fits l0 ∧ Nt.fits l1 then some (if Nt.val l0 < Nt.val l1 then ([], 1) else (Nt.ofN (Nt.val l0 - Nt.val l1), 0)) else none
theorem nat_Sub.calls (P0_ : Nat → Prop) (A0 : Option Addr) (c0 : Nat) (l0 : List Int) (A1 : Option Addr) (c1 : Nat) (l1 : List Int) (r1 : List Int) (r2 : Int) (w : World) (hs0 : Kd.V (Kd.int .u32) 87 w w.heap.size (fun k_ => P0_ k_) (.slice A0 l0.length c0) l0) (hr1 : Kd.C (Kd.int .u32) w A1 l1.length l1) (hc1 : l1.length ≤ c1) (h : nat_Sub.f l0 l1 = some (r1, r2)) :
    Calls Try.prog 103 #[.slice A0 l0.length c0, .slice A1 l1.length c1] w fun e w' => ∃ v0_ : Value, e = .returned (.tuple #[v0_, .int .i64 r2]) ∧ Kd.V (Kd.int .u32) 87 w' w.heap.size (fun k_ => (P0_ k_ ∨ w.heap.size ≤ k_)) v0_ r1 ∧ Below w.heap.size w w' := by
  unfold nat_Sub.f at h
  split at h
  · rename_i hf
    injection h with h
    obtain ⟨K, hK⟩ := Nt.sub_ev hf.1.1 hf.2.1 hf.1.2 hf.2.2
    exact N.nat_Sub.calls K P0_ A0 c0 l0 A1 c1 l1 r1 r2 w hs0 hr1 hc1 ((hK K (Nat.le_refl _)).trans (congrArg some h))
  · cases h
theorem nat_Sub.con (l0 : List Int) (l1 : List Int) (r1 : List Int) (r2 : Int) (h : nat_Sub.f l0 l1 = some (r1, r2)) : Con Try.prog 103 [.one (limbs l0), .one (limbs l1)] (.tup [.one (limbs r1), .one (.v (.int .i64 r2))]) := by
  refine .inl ⟨⟨_, Try.func103, by kernel_rfl, rfl⟩, fun ok us w hA => ?_⟩
  obtain ⟨A0, c0, A1, c1, rfl, hc0, hF0, hc1, hF1⟩ := in2 hA
  refine (nat_Sub.calls ok A0 c0 l0 A1 c1 l1 r1 r2 w ⟨A0, c0, rfl, hc0, hF0⟩ (Kd.F_now hF1) hc1 h).mono ?_
  rintro e w' ⟨v0, rfl, h0, hb⟩
  exact ⟨_, rfl, out2 ((outV h0 (fun k hk => hk) : TC [] _ _ _ _)) ((outN rfl : TC [] _ _ (.v _) _)), hb⟩
def nat_Div.f (l0 : List Int) (l1 : List Int) : Option (List Int × List Int × Int) := if Nt.fits l0 ∧ Nt.fits l1 then some (if Nt.val l1 = 0 then ([], [], 3) else (Nt.ofN (Nt.val l0 / Nt.val l1), Nt.ofN (Nt.val l0 % Nt.val l1), 0)) else none
theorem nat_Div.calls (P0_ : Nat → Prop) (A0 : Option Addr) (c0 : Nat) (l0 : List Int) (P1_ : Nat → Prop) (A1 : Option Addr) (c1 : Nat) (l1 : List Int) (r1 : List Int) (r2 : List Int) (r3 : Int) (w : World) (hs0 : Kd.V (Kd.int .u32) 87 w w.heap.size (fun k_ => P0_ k_) (.slice A0 l0.length c0) l0) (hs1 : Kd.V (Kd.int .u32) 87 w w.heap.size (fun k_ => P1_ k_) (.slice A1 l1.length c1) l1) (h : nat_Div.f l0 l1 = some (r1, r2, r3)) :
    Calls Try.prog 101 #[.slice A0 l0.length c0, .slice A1 l1.length c1] w fun e w' => ∃ v0_ v1_ : Value, e = .returned (.tuple #[v0_, v1_, .int .i64 r3]) ∧ Kd.V (Kd.int .u32) 87 w' w.heap.size (fun k_ => ((P0_ k_ ∨ P1_ k_) ∨ w.heap.size ≤ k_)) v0_ r1 ∧ Kd.V (Kd.int .u32) 87 w' w.heap.size (fun k_ => ((P0_ k_ ∨ P1_ k_) ∨ w.heap.size ≤ k_)) v1_ r2 ∧ Below w.heap.size w w' := by
  unfold nat_Div.f at h
  split at h
  · rename_i hf
    injection h with h
    obtain ⟨K, hK⟩ := Nt.div_ev hf.1.1 hf.2.1 hf.1.2 hf.2.2
    exact N.nat_Div.calls K P0_ A0 c0 l0 P1_ A1 c1 l1 r1 r2 r3 w hs0 hs1 ((hK K (Nat.le_refl _)).trans (congrArg some h))
  · cases h
theorem nat_Div.con (l0 : List Int) (l1 : List Int) (r1 : List Int) (r2 : List Int) (r3 : Int) (h : nat_Div.f l0 l1 = some (r1, r2, r3)) : Con Try.prog 101 [.one (limbs l0), .one (limbs l1)] (.tup [.one (limbs r1), .one (limbs r2), .one (.v (.int .i64 r3))]) := by
  refine .inl ⟨⟨_, Try.func101, by kernel_rfl, rfl⟩, fun ok us w hA => ?_⟩
  obtain ⟨A0, c0, A1, c1, rfl, hc0, hF0, hc1, hF1⟩ := in2 hA
  refine (nat_Div.calls ok A0 c0 l0 ok A1 c1 l1 r1 r2 r3 w ⟨A0, c0, rfl, hc0, hF0⟩ ⟨A1, c1, rfl, hc1, hF1⟩ h).mono ?_
  rintro e w' ⟨v0, v1, rfl, h0, h1, hb⟩
  exact ⟨_, rfl, out3 ((outV h0 (fun k hk => hk.elim (fun hk => .inl (hk.elim id id)) .inr) : TC [] _ _ _ _)) ((outV h1 (fun k hk => hk.elim (fun hk => .inl (hk.elim id id)) .inr) : TC [] _ _ _ _)) ((outN rfl : TC [] _ _ (.v _) _)), hb⟩
def nat_Gcd.f (l0 : List Int) (l1 : List Int) : Option (List Int) := if Nt.fits l0 ∧ Nt.fits l1 then some (Nt.ofN (Nat.gcd (Nt.val l0) (Nt.val l1))) else none
set_option maxHeartbeats 2000000 in
theorem nat_Gcd.calls (A0 : Option Addr) (c0 : Nat) (l0 : List Int) (A1 : Option Addr) (c1 : Nat) (l1 : List Int) (r : List Int) (w : World) (hr0 : Kd.C (Kd.int .u32) w A0 l0.length l0) (hc0 : l0.length ≤ c0) (hr1 : Kd.C (Kd.int .u32) w A1 l1.length l1) (hc1 : l1.length ≤ c1) (h : nat_Gcd.f l0 l1 = some r) :
    Calls Try.prog 100 #[.slice A0 l0.length c0, .slice A1 l1.length c1] w fun e w' => ∃ v0_ : Value, e = .returned (v0_) ∧ Kd.V (Kd.int .u32) 87 w' w.heap.size (fun k_ => (w.heap.size ≤ k_)) v0_ r ∧ Below w.heap.size w w' := by
  unfold nat_Gcd.f at h
  split at h
  case isFalse => cases h
  case isTrue hf =>
  injection h with h
  have T0 := Aside0.mk (show nat_Trim.f l0 = some (Nt.ofN (Nt.val l0)) from if_pos hf.1)
  have T1 := Aside0.mk (show nat_Trim.f l1 = some (Nt.ofN (Nt.val l1)) from if_pos hf.2)
  have L0 := Aside0.mk (Nat.le_trans (Nt.len_val_le hf.1.1) hf.1.2)
  have L1 := Aside0.mk (Nat.le_trans (Nt.len_val_le hf.2.1) hf.2.2)
  generalize Nt.val l0 = x0 at *
  generalize Nt.val l1 = y0 at *
  have HG := Aside0.mk h
  have HR0 := Aside0.mk hr0
  have HC0 := Aside0.mk hc0
  have HR1 := Aside0.mk hr1
  have HC1 := Aside0.mk hc1
  clear h hf hr0 hc0 hr1 hc1
  go_enter Try.func100, Try.ntmps100
  go_wp2_with (go_at_call 112; (with_reducible refine (nat_Trim.calls A0 c0 l0 _ _ HR0.out HC0.out T0.out).mono ?_); rintro e w1 ⟨v0, rfl, ho0, hb0⟩; have HV0 := Aside0.mk (Kd.R_V (base' := w.heap.size) (Kd.R_mono (ok' := fun k_ => w.heap.size ≤ k_) (Kd.R_bound ho0) (fun k hk => hk.2.1))); have HB0 := Aside0.mk hb0; clear ho0 hb0 HR0 HC0 T0)
  go_wp2_with (go_at_call 112; (with_reducible refine (nat_Trim.calls A1 c1 l1 _ _ (Kd.C_below HR1.out HB0.out) HC1.out T1.out).mono ?_); rintro e w2 ⟨v1, rfl, ho1, hb1⟩; have HV1 := Aside0.mk (Kd.R_V (base' := w.heap.size) (Kd.R_mono (ok' := fun k_ => w.heap.size ≤ k_) (Kd.R_bound ho1) (fun k hk => Nat.le_trans HB0.out.size hk.2.1))); have HV0' := Aside0.mk (Kd.V_below HV0.out hb1); have HB1 := Aside0.mk (below_step HB0.out hb1); clear ho1 hb1 HR1 HC1 T1 HV0 HB0)
  go_loopg [0, 1] y0 (fun gq v0 v1 w' => ∃ (x y : Nat), Aside0 (y ≤ gq) ∧ Aside0 (Nt.ofN (Nat.gcd x y) = r) ∧ Aside0 ((Nt.ofN x).length ≤ 8796093022208) ∧ Aside0 ((Nt.ofN y).length ≤ 8796093022208) ∧ Aside0 (Kd.V (Kd.int .u32) 87 w' w.heap.size (fun k_ => w.heap.size ≤ k_) v0 (Nt.ofN x)) ∧ Aside0 (Kd.V (Kd.int .u32) 87 w' w.heap.size (fun k_ => w.heap.size ≤ k_) v1 (Nt.ofN y)) ∧ Aside0 (Below w.heap.size w w'))
  case atStart => exact ⟨x0, y0, ⟨Nat.le_refl _⟩, HG, L0, L1, HV0', HV1, HB1⟩
  case round =>
    clear HG L0 L1 HV0' HV1 HB1
    obtain ⟨x, y, HY, HG, LX, LY, HV0, HV1, HB⟩ := hrel
    obtain ⟨A, c, eA⟩ := Kd.V_slice HV0.out
    subst eA
    obtain ⟨A', c', eA'⟩ := Kd.V_slice HV1.out
    subst eA'
    by_cases hy : y = 0
    · subst hy
      have hl : (Nt.ofN 0).length = 0 := rfl
      have d1 : decide (0 < ((Nt.ofN 0).length : Int)) = false := by rw [hl]; rfl
      have d2 : decide (0 < (Nt.ofN 0).length) = false := by rw [hl]; rfl
      clear hl
      go_wp2
      go_ret
      exact ⟨_, rfl, by have h0 := HV0.out; rw [← HG.out, Nat.gcd_zero_right]; exact h0, HB.out⟩
    · have hl : 0 < (Nt.ofN y).length := List.length_pos_iff.2 (fun e => hy (Nt.ofN_nil.1 e))
      have d1 : decide (0 < ((Nt.ofN y).length : Int)) = true := decide_eq_true (by omega)
      have d2 : decide (0 < (Nt.ofN y).length) = true := decide_eq_true hl
      have hmod := Nat.mod_lt x (Nat.pos_of_ne_zero hy)
      have D := Aside0.mk (show nat_Div.f (Nt.ofN x) (Nt.ofN y) = some (Nt.ofN (x / y), Nt.ofN (x % y), 0) by
        unfold nat_Div.f; rw [if_pos ⟨Nt.fits_ofN LX.out, Nt.fits_ofN LY.out⟩, Nt.val_ofN, Nt.val_ofN, if_neg hy])
      have HM := Aside0.mk hmod
      clear hmod hy hl
      go_wp2_with (go_at_call 101; (with_reducible refine (nat_Div.calls (fun k_ => w.heap.size ≤ k_) A c (Nt.ofN x) (fun k_ => w.heap.size ≤ k_) A' c' (Nt.ofN y) _ _ _ _ HV0.out HV1.out D.out).mono ?_); rintro e w3 ⟨q0, q1, rfl, hq0, hq1, hb⟩; have HQ := Aside0.mk (Kd.V_mono (ok' := fun k_ => w.heap.size ≤ k_) hq1 (fun k_ hk => hk.elim (fun h_ => h_.elim id id) (fun h_ => Nat.le_trans HB.out.size h_))); have HV1' := Aside0.mk (Kd.V_below HV1.out hb); have HB' := Aside0.mk (below_step HB.out hb); clear hq0 hq1 hb HV0 HV1 HB D)
      go_roundg (x % y)
      case measure => have := HM.out; have := HY.out; omega
      case rel => exact ⟨y, x % y, ⟨Nat.le_refl _⟩, ⟨by rw [← HG.out, Nat.gcd_comm y, ← Nat.gcd_rec, Nat.gcd_comm]⟩, LY, ⟨Nat.le_trans (Nt.len_mono (Nat.mod_le _ _)) LX.out⟩, HV1', HQ, HB'⟩
theorem nat_Gcd.con (l0 : List Int) (l1 : List Int) (r1 : List Int) (h : nat_Gcd.f l0 l1 = some r1) : Con Try.prog 100 [.one (limbs l0), .one (limbs l1)] (.g (.one (limbs r1))) := by
  refine .inl ⟨⟨_, Try.func100, by kernel_rfl, rfl⟩, fun ok us w hA => ?_⟩
  obtain ⟨A0, c0, A1, c1, rfl, hc0, hF0, hc1, hF1⟩ := in2 hA
  refine (nat_Gcd.calls A0 c0 l0 A1 c1 l1 r1 w (Kd.F_now hF0) hc0 (Kd.F_now hF1) hc1 h).mono ?_
  rintro e w' ⟨v0, rfl, h0, hb⟩
  exact ⟨_, rfl, (outV h0 (fun k hk => .inr hk) : TC [] _ _ _ _), hb⟩
def nat_Cmp.f (l0 : List Int) (l1 : List Int) : Option (Int) := if Nt.fits l0 ∧ Nt.fits l1 then some (if Nt.val l0 < Nt.val l1 then -1 else if Nt.val l1 < Nt.val l0 then 1 else 0) else none
theorem nat_Cmp.calls (A0 : Option Addr) (c0 : Nat) (l0 : List Int) (A1 : Option Addr) (c1 : Nat) (l1 : List Int) (r : Int) (w : World) (hr0 : Kd.C (Kd.int .u32) w A0 l0.length l0) (hc0 : l0.length ≤ c0) (hr1 : Kd.C (Kd.int .u32) w A1 l1.length l1) (hc1 : l1.length ≤ c1) (h : nat_Cmp.f l0 l1 = some r) :
    Calls Try.prog 96 #[.slice A0 l0.length c0, .slice A1 l1.length c1] w fun e w' => e = .returned (.int .i64 r) ∧ Below w.heap.size w w' := by
  unfold nat_Cmp.f at h
  split at h
  · rename_i hf
    injection h with h
    subst h
    obtain ⟨K, hK⟩ := Nt.cmp_ev hf.1.1 hf.2.1 (by have := hf.1.2; omega) (by have := hf.2.2; omega)
    exact N.nat_Cmp.calls K A0 c0 l0 A1 c1 l1 _ w hr0 hc0 hr1 hc1 (hK K (Nat.le_refl _))
  · cases h
theorem nat_Cmp.con (l0 : List Int) (l1 : List Int) (r1 : Int) (h : nat_Cmp.f l0 l1 = some r1) : Con Try.prog 96 [.one (limbs l0), .one (limbs l1)] (.g (.one (.v (.int .i64 r1)))) := by
  refine .inl ⟨⟨_, Try.func96, by kernel_rfl, rfl⟩, fun ok us w hA => ?_⟩
  obtain ⟨A0, c0, A1, c1, rfl, hc0, hF0, hc1, hF1⟩ := in2 hA
  refine (nat_Cmp.calls A0 c0 l0 A1 c1 l1 r1 w (Kd.F_now hF0) hc0 (Kd.F_now hF1) hc1 h).mono ?_
  rintro e w' ⟨rfl, hb⟩
  exact ⟨_, rfl, (outN rfl : TC [] _ _ (.v _) _), hb⟩
def nat_Bits.f (l0 : List Int) : Option (Int) := if Nt.fits l0 then some (((Nb.bitsN (Nt.val l0)).length : Int)) else none
theorem nat_Bits.calls (A0 : Option Addr) (c0 : Nat) (l0 : List Int) (r : Int) (w : World) (hr0 : Kd.C (Kd.int .u32) w A0 l0.length l0) (hc0 : l0.length ≤ c0) (h : nat_Bits.f l0 = some r) :
    Calls Try.prog 94 #[.slice A0 l0.length c0] w fun e w' => e = .returned (.int .i64 r) ∧ Below w.heap.size w w' := by
  unfold nat_Bits.f at h
  split at h
  · rename_i hf
    injection h with h
    subst h
    obtain ⟨K, hK⟩ := Nb.pbits_ev hf.2 hf.1
    exact N.nat_Bits.calls K A0 c0 l0 _ w hr0 hc0 (hK K (Nat.le_refl _))
  · cases h
theorem nat_Bits.con (l0 : List Int) (r1 : Int) (h : nat_Bits.f l0 = some r1) : Con Try.prog 94 [.one (limbs l0)] (.g (.one (.v (.int .i64 r1)))) := by
  refine .inl ⟨⟨_, Try.func94, by kernel_rfl, rfl⟩, fun ok us w hA => ?_⟩
  obtain ⟨A0, c0, rfl, hc0, hF0⟩ := in1 hA
  refine (nat_Bits.calls A0 c0 l0 r1 w (Kd.F_now hF0) hc0 h).mono ?_
  rintro e w' ⟨rfl, hb⟩
  exact ⟨_, rfl, (outN rfl : TC [] _ _ (.v _) _), hb⟩
def foliotref01_Trim.f (l0 : List Int) : Option (List Int) := if Nb.rfits l0 then some (Nt.ofN (Nt.val l0)) else none
theorem foliotref01_Trim.calls (A0 : Option Addr) (c0 : Nat) (l0 : List Int) (r : List Int) (w : World) (hr0 : Kd.C (Kd.int .u32) w A0 l0.length l0) (hc0 : l0.length ≤ c0) (h : foliotref01_Trim.f l0 = some r) :
    Calls Try.prog 56 #[.slice A0 l0.length c0] w fun e w' => ∃ v0_ : Value, e = .returned (v0_) ∧ Kd.R (Kd.int .u32) 87 w' w.heap.size (fun _ => True) v0_ r ∧ Below w.heap.size w w' := by
  unfold foliotref01_Trim.f at h
  split at h
  · rename_i hf
    injection h with h
    obtain ⟨K, hK⟩ := Nb.rtrim_ev hf.1 (by have := hf.2; omega)
    exact N.foliotref01_Trim.calls K A0 c0 l0 _ w hr0 hc0 ((hK K (Nat.le_refl _)).trans (congrArg some h))
  · cases h
theorem foliotref01_Trim.con (l0 : List Int) (r1 : List Int) (h : foliotref01_Trim.f l0 = some r1) : Con Try.prog 56 [.one (limbs l0)] (.g (.one (limbs r1))) := by
  refine .inl ⟨⟨_, Try.func56, by kernel_rfl, rfl⟩, fun ok us w hA => ?_⟩
  obtain ⟨A0, c0, rfl, hc0, hF0⟩ := in1 hA
  refine (foliotref01_Trim.calls A0 c0 l0 r1 w (Kd.F_now hF0) hc0 h).mono ?_
  rintro e w' ⟨v0, rfl, h0, hb⟩
  exact ⟨_, rfl, (outR h0 : TC [] _ _ _ _), hb⟩
def foliotref01_Add.f (l0 : List Int) (l1 : List Int) : Option (List Int) := if Nb.rfits l0 ∧ Nb.rfits l1 then some (Nt.ofN (Nt.val l0 + Nt.val l1)) else none
theorem foliotref01_Add.calls (A0 : Option Addr) (c0 : Nat) (l0 : List Int) (A1 : Option Addr) (c1 : Nat) (l1 : List Int) (r : List Int) (w : World) (hr0 : Kd.C (Kd.int .u32) w A0 l0.length l0) (hc0 : l0.length ≤ c0) (hr1 : Kd.C (Kd.int .u32) w A1 l1.length l1) (hc1 : l1.length ≤ c1) (h : foliotref01_Add.f l0 l1 = some r) :
    Calls Try.prog 81 #[.slice A0 l0.length c0, .slice A1 l1.length c1] w fun e w' => ∃ v0_ : Value, e = .returned (v0_) ∧ Kd.R (Kd.int .u32) 87 w' w.heap.size (fun _ => True) v0_ r ∧ Below w.heap.size w w' := by
  unfold foliotref01_Add.f at h
  split at h
  · rename_i hf
    injection h with h
    obtain ⟨K, hK⟩ := Nb.radd_ev hf.1.2 hf.2.2 hf.1.1 hf.2.1
    exact N.foliotref01_Add.calls K A0 c0 l0 A1 c1 l1 _ w hr0 hc0 hr1 hc1 ((hK K (Nat.le_refl _)).trans (congrArg some h))
  · cases h
theorem foliotref01_Add.con (l0 : List Int) (l1 : List Int) (r1 : List Int) (h : foliotref01_Add.f l0 l1 = some r1) : Con Try.prog 81 [.one (limbs l0), .one (limbs l1)] (.g (.one (limbs r1))) := by
  refine .inl ⟨⟨_, Try.func81, by kernel_rfl, rfl⟩, fun ok us w hA => ?_⟩
  obtain ⟨A0, c0, A1, c1, rfl, hc0, hF0, hc1, hF1⟩ := in2 hA
  refine (foliotref01_Add.calls A0 c0 l0 A1 c1 l1 r1 w (Kd.F_now hF0) hc0 (Kd.F_now hF1) hc1 h).mono ?_
  rintro e w' ⟨v0, rfl, h0, hb⟩
  exact ⟨_, rfl, (outR h0 : TC [] _ _ _ _), hb⟩
def foliotref01_Mul.f (l0 : List Int) (l1 : List Int) : Option (List Int) := if Nb.rfits l0 ∧ Nb.rfits l1 then some (Nt.ofN (Nt.val l0 * Nt.val l1)) else none
theorem foliotref01_Mul.calls (A0 : Option Addr) (c0 : Nat) (l0 : List Int) (A1 : Option Addr) (c1 : Nat) (l1 : List Int) (r : List Int) (w : World) (hr0 : Kd.C (Kd.int .u32) w A0 l0.length l0) (hc0 : l0.length ≤ c0) (hr1 : Kd.C (Kd.int .u32) w A1 l1.length l1) (hc1 : l1.length ≤ c1) (h : foliotref01_Mul.f l0 l1 = some r) :
    Calls Try.prog 54 #[.slice A0 l0.length c0, .slice A1 l1.length c1] w fun e w' => ∃ v0_ : Value, e = .returned (v0_) ∧ Kd.R (Kd.int .u32) 87 w' w.heap.size (fun _ => True) v0_ r ∧ Below w.heap.size w w' := by
  unfold foliotref01_Mul.f at h
  split at h
  · rename_i hf
    injection h with h
    obtain ⟨K, hK⟩ := Nb.rmul_ev hf.1.2 hf.2.2 hf.1.1 hf.2.1
    exact N.foliotref01_Mul.calls K A0 c0 l0 A1 c1 l1 _ w hr0 hc0 hr1 hc1 ((hK K (Nat.le_refl _)).trans (congrArg some h))
  · cases h
theorem foliotref01_Mul.con (l0 : List Int) (l1 : List Int) (r1 : List Int) (h : foliotref01_Mul.f l0 l1 = some r1) : Con Try.prog 54 [.one (limbs l0), .one (limbs l1)] (.g (.one (limbs r1))) := by
  refine .inl ⟨⟨_, Try.func54, by kernel_rfl, rfl⟩, fun ok us w hA => ?_⟩
  obtain ⟨A0, c0, A1, c1, rfl, hc0, hF0, hc1, hF1⟩ := in2 hA
  refine (foliotref01_Mul.calls A0 c0 l0 A1 c1 l1 r1 w (Kd.F_now hF0) hc0 (Kd.F_now hF1) hc1 h).mono ?_
  rintro e w' ⟨v0, rfl, h0, hb⟩
  exact ⟨_, rfl, (outR h0 : TC [] _ _ _ _), hb⟩
def foliotref01_Sub.f (l0 : List Int) (l1 : List Int) : Option (List Int × Int) := if Nb.rfits l0 ∧ Nb.rfits l1 then some (if Nt.val l0 < Nt.val l1 then ([], 1) else (Nt.ofN (Nt.val l0 - Nt.val l1), 0)) else none
theorem foliotref01_Sub.calls (A0 : Option Addr) (c0 : Nat) (l0 : List Int) (A1 : Option Addr) (c1 : Nat) (l1 : List Int) (r1 : List Int) (r2 : Int) (w : World) (hr0 : Kd.C (Kd.int .u32) w A0 l0.length l0) (hc0 : l0.length ≤ c0) (hr1 : Kd.C (Kd.int .u32) w A1 l1.length l1) (hc1 : l1.length ≤ c1) (h : foliotref01_Sub.f l0 l1 = some (r1, r2)) :
    Calls Try.prog 83 #[.slice A0 l0.length c0, .slice A1 l1.length c1] w fun e w' => ∃ v0_ : Value, e = .returned (.tuple #[v0_, .int .i64 r2]) ∧ Kd.R (Kd.int .u32) 87 w' w.heap.size (fun _ => True) v0_ r1 ∧ Below w.heap.size w w' := by
  unfold foliotref01_Sub.f at h
  split at h
  · rename_i hf
    injection h with h
    obtain ⟨K, hK⟩ := Nb.rsub_ev hf.1.2 hf.2.2 hf.1.1 hf.2.1
    exact N.foliotref01_Sub.calls K A0 c0 l0 A1 c1 l1 _ _ w hr0 hc0 hr1 hc1 ((hK K (Nat.le_refl _)).trans (congrArg some h))
  · cases h
theorem foliotref01_Sub.con (l0 : List Int) (l1 : List Int) (r1 : List Int) (r2 : Int) (h : foliotref01_Sub.f l0 l1 = some (r1, r2)) : Con Try.prog 83 [.one (limbs l0), .one (limbs l1)] (.tup [.one (limbs r1), .one (.v (.int .i64 r2))]) := by
  refine .inl ⟨⟨_, Try.func83, by kernel_rfl, rfl⟩, fun ok us w hA => ?_⟩
  obtain ⟨A0, c0, A1, c1, rfl, hc0, hF0, hc1, hF1⟩ := in2 hA
  refine (foliotref01_Sub.calls A0 c0 l0 A1 c1 l1 r1 r2 w (Kd.F_now hF0) hc0 (Kd.F_now hF1) hc1 h).mono ?_
  rintro e w' ⟨v0, rfl, h0, hb⟩
  exact ⟨_, rfl, out2 ((outR h0 : TC [] _ _ _ _)) ((outN rfl : TC [] _ _ (.v _) _)), hb⟩
def foliotref01_Div.f (l0 : List Int) (l1 : List Int) : Option (List Int × List Int × Int) := if Nb.rfits l0 ∧ Nb.rfits l1 then some (Nb.divided (Nt.val l0) (Nt.val l1)) else none
theorem foliotref01_Div.calls (A0 : Option Addr) (c0 : Nat) (l0 : List Int) (A1 : Option Addr) (c1 : Nat) (l1 : List Int) (r1 : List Int) (r2 : List Int) (r3 : Int) (w : World) (hr0 : Kd.C (Kd.int .u32) w A0 l0.length l0) (hc0 : l0.length ≤ c0) (hr1 : Kd.C (Kd.int .u32) w A1 l1.length l1) (hc1 : l1.length ≤ c1) (h : foliotref01_Div.f l0 l1 = some (r1, r2, r3)) :
    Calls Try.prog 58 #[.slice A0 l0.length c0, .slice A1 l1.length c1] w fun e w' => ∃ v0_ v1_ : Value, e = .returned (.tuple #[v0_, v1_, .int .i64 r3]) ∧ Kd.R (Kd.int .u32) 87 w' w.heap.size (fun k_ => some k_ ≠ (v1_ : Value).ownBlock) v0_ r1 ∧ Kd.R (Kd.int .u32) 87 w' w.heap.size (fun k_ => some k_ ≠ (v0_ : Value).ownBlock) v1_ r2 ∧ Below w.heap.size w w' := by
  unfold foliotref01_Div.f at h
  split at h
  · rename_i hf
    injection h with h
    obtain ⟨K, hK⟩ := Nb.rdivide_ev hf.1.2 hf.2.2 hf.1.1 hf.2.1
    exact N.foliotref01_Div.calls K A0 c0 l0 A1 c1 l1 _ _ _ w hr0 hc0 hr1 hc1 ((hK K (Nat.le_refl _)).trans (congrArg some h))
  · cases h
theorem foliotref01_Div.con (l0 : List Int) (l1 : List Int) (r1 : List Int) (r2 : List Int) (r3 : Int) (h : foliotref01_Div.f l0 l1 = some (r1, r2, r3)) : Con Try.prog 58 [.one (limbs l0), .one (limbs l1)] (.tup [.one (limbs r1), .one (limbs r2), .one (.v (.int .i64 r3))]) := by
  refine .inl ⟨⟨_, Try.func58, by kernel_rfl, rfl⟩, fun ok us w hA => ?_⟩
  obtain ⟨A0, c0, A1, c1, rfl, hc0, hF0, hc1, hF1⟩ := in2 hA
  refine (foliotref01_Div.calls A0 c0 l0 A1 c1 l1 r1 r2 r3 w (Kd.F_now hF0) hc0 (Kd.F_now hF1) hc1 h).mono ?_
  rintro e w' ⟨v0, v1, rfl, h0, h1, hb⟩
  exact ⟨_, rfl, out3 ((outR h0 : TC [] _ _ _ _)) ((outR h1 : TC [] _ _ _ _)) ((outN rfl : TC [] _ _ (.v _) _)), hb⟩
def foliotref01_Gcd.f (l0 : List Int) (l1 : List Int) : Option (List Int) := if Nb.rfits l0 ∧ Nb.rfits l1 then some (Nt.ofN (Nat.gcd (Nt.val l0) (Nt.val l1))) else none
theorem foliotref01_Gcd.calls (A0 : Option Addr) (c0 : Nat) (l0 : List Int) (A1 : Option Addr) (c1 : Nat) (l1 : List Int) (r : List Int) (w : World) (hr0 : Kd.C (Kd.int .u32) w A0 l0.length l0) (hc0 : l0.length ≤ c0) (hr1 : Kd.C (Kd.int .u32) w A1 l1.length l1) (hc1 : l1.length ≤ c1) (h : foliotref01_Gcd.f l0 l1 = some r) :
    Calls Try.prog 57 #[.slice A0 l0.length c0, .slice A1 l1.length c1] w fun e w' => ∃ v0_ : Value, e = .returned (v0_) ∧ Kd.R (Kd.int .u32) 87 w' w.heap.size (fun _ => True) v0_ r ∧ Below w.heap.size w w' := by
  unfold foliotref01_Gcd.f at h
  split at h
  · rename_i hf
    injection h with h
    obtain ⟨K, hK⟩ := Nb.rgcd_ev hf.1.2 hf.2.2 hf.1.1 hf.2.1
    exact N.foliotref01_Gcd.calls K A0 c0 l0 A1 c1 l1 _ w hr0 hc0 hr1 hc1 ((hK K (Nat.le_refl _)).trans (congrArg some h))
  · cases h
theorem foliotref01_Gcd.con (l0 : List Int) (l1 : List Int) (r1 : List Int) (h : foliotref01_Gcd.f l0 l1 = some r1) : Con Try.prog 57 [.one (limbs l0), .one (limbs l1)] (.g (.one (limbs r1))) := by
  refine .inl ⟨⟨_, Try.func57, by kernel_rfl, rfl⟩, fun ok us w hA => ?_⟩
  obtain ⟨A0, c0, A1, c1, rfl, hc0, hF0, hc1, hF1⟩ := in2 hA
  refine (foliotref01_Gcd.calls A0 c0 l0 A1 c1 l1 r1 w (Kd.F_now hF0) hc0 (Kd.F_now hF1) hc1 h).mono ?_
  rintro e w' ⟨v0, rfl, h0, hb⟩
  exact ⟨_, rfl, (outR h0 : TC [] _ _ _ _), hb⟩
def foliotref01_Cmp.f (l0 : List Int) (l1 : List Int) : Option (Int) := if Nb.rfits l0 ∧ Nb.rfits l1 then some (Nb.cmp3 (Nt.val l0) (Nt.val l1)) else none
theorem foliotref01_Cmp.calls (A0 : Option Addr) (c0 : Nat) (l0 : List Int) (A1 : Option Addr) (c1 : Nat) (l1 : List Int) (r : Int) (w : World) (hr0 : Kd.C (Kd.int .u32) w A0 l0.length l0) (hc0 : l0.length ≤ c0) (hr1 : Kd.C (Kd.int .u32) w A1 l1.length l1) (hc1 : l1.length ≤ c1) (h : foliotref01_Cmp.f l0 l1 = some r) :
    Calls Try.prog 82 #[.slice A0 l0.length c0, .slice A1 l1.length c1] w fun e w' => e = .returned (.int .i64 r) ∧ Below w.heap.size w w' := by
  unfold foliotref01_Cmp.f at h
  split at h
  · rename_i hf
    injection h with h
    obtain ⟨K, hK⟩ := Nb.rcmp_ev hf.1.2 hf.2.2 hf.1.1 hf.2.1
    exact N.foliotref01_Cmp.calls K A0 c0 l0 A1 c1 l1 _ w hr0 hc0 hr1 hc1 ((hK K (Nat.le_refl _)).trans (congrArg some h))
  · cases h
theorem foliotref01_Cmp.con (l0 : List Int) (l1 : List Int) (r1 : Int) (h : foliotref01_Cmp.f l0 l1 = some r1) : Con Try.prog 82 [.one (limbs l0), .one (limbs l1)] (.g (.one (.v (.int .i64 r1)))) := by
  refine .inl ⟨⟨_, Try.func82, by kernel_rfl, rfl⟩, fun ok us w hA => ?_⟩
  obtain ⟨A0, c0, A1, c1, rfl, hc0, hF0, hc1, hF1⟩ := in2 hA
  refine (foliotref01_Cmp.calls A0 c0 l0 A1 c1 l1 r1 w (Kd.F_now hF0) hc0 (Kd.F_now hF1) hc1 h).mono ?_
  rintro e w' ⟨rfl, hb⟩
  exact ⟨_, rfl, (outN rfl : TC [] _ _ (.v _) _), hb⟩
def foliotref01_Print.f (l0 : List Int) : Option (ByteArray) := if Nb.rfits l0 then some (Nt.text (Nt.val l0)) else none
theorem foliotref01_Print.calls (A0 : Option Addr) (c0 : Nat) (l0 : List Int) (r : ByteArray) (w : World) (hr0 : Kd.C (Kd.int .u32) w A0 l0.length l0) (hc0 : l0.length ≤ c0) (h : foliotref01_Print.f l0 = some r) :
    Calls Try.prog 80 #[.slice A0 l0.length c0] w fun e w' => e = .returned (.string r) ∧ Below w.heap.size w w' := by
  unfold foliotref01_Print.f at h
  split at h
  · rename_i hf
    injection h with h
    obtain ⟨K, hK⟩ := Nb.rprint_ev hf.2 hf.1
    exact N.foliotref01_Print.calls K A0 c0 l0 _ w hr0 hc0 ((hK K (Nat.le_refl _)).trans (congrArg some h))
  · cases h
theorem foliotref01_Print.con (l0 : List Int) (r1 : ByteArray) (h : foliotref01_Print.f l0 = some r1) : Con Try.prog 80 [.one (limbs l0)] (.g (.one (.v (.string r1)))) := by
  refine .inl ⟨⟨_, Try.func80, by kernel_rfl, rfl⟩, fun ok us w hA => ?_⟩
  obtain ⟨A0, c0, rfl, hc0, hF0⟩ := in1 hA
  refine (foliotref01_Print.calls A0 c0 l0 r1 w (Kd.F_now hF0) hc0 h).mono ?_
  rintro e w' ⟨rfl, hb⟩
  exact ⟨_, rfl, (outN rfl : TC [] _ _ (.v _) _), hb⟩
end
section
def LL : Lays := [(4, ⟨1, [.v (.bool false)], .bool⟩),
  (23, ⟨1, [.row 1 0 []], .sl 87⟩),
  (3, ⟨1, [.v (.int .i64 0)], .int .i64⟩),
  (25, ⟨2, [.v (.bool false), .row 1 0 []], .st [(0, 4), (1, 23)]⟩),
  (27, ⟨3, [.v (.bool false), .row 1 0 [], .row 1 0 []], .st [(0, 25), (2, 23)]⟩),
  (74, ⟨1, [.v (.int .i64 0)], .int .i64⟩),
  (2, ⟨1, [.v (.int .i64 0)], .int .i64⟩),
  (9, ⟨1, [.v (.string ⟨#[]⟩)], .str⟩),
  (87, ⟨1, [.v (.int .u32 0)], .int .u32⟩),
  (105, ⟨1, [.v (.int .u64 0)], .int .u64⟩),
  (124, ⟨1, [.v (.bool false)], .bool⟩),
  (5, ⟨1, [.v (.int .u8 0)], .int .u8⟩),
  (126, ⟨1, [.v (.int .u64 0)], .int .u64⟩),
  (127, ⟨1, [.row 1 0 []], .sl 5⟩),
  (37, ⟨7, [.v (.bool false), .v (.bool false), .row 1 0 [], .row 1 0 [], .v (.bool false), .row 1 0 [], .row 1 0 []], .st [(0, 4), (1, 27), (4, 27)]⟩),
  (22, ⟨1, [.row 7 0 []], .sl 37⟩),
  (32, ⟨1, [.row 1 0 []], .sl 4⟩)]
theorem LL_ok : LaysOk Try.prog LL := lays_ok (by kernel_rfl) (by kernel_rfl)
def DD : Drawn := drawn LL
theorem DD_ok : DrawnOk Try.prog DD := drawn_ok (by kernel_rfl) LL_ok
theorem Con.to {f : FuncId} {xs : List AG} {r r' : AV} (h : Con Try.prog f xs r) (e : r = r') : Con Try.prog f xs r' := e ▸ h
theorem by_ {f : FuncId} {fn : Func} {c : Code} {xs : List AG} (r : AV) (hf : Try.prog.funcs[f]? = some fn) (hb : fn.body = some c) (pf : List (Prf Try.prog)) (h : evF LL DD fn c xs (Prf.ans pf) = some (r, [], Prf.dem pf)) (hname : (fn.name == "runtime.NumGoroutine") = false := by kernel_rfl) : Con Try.prog f xs r :=
  con_of LL_ok DD_ok pf hf hname hb h
theorem at_ {c : Code} {p : St} (e : Exit) (q : St) (pf : List (Prf Try.prog)) (h : (match runC LL DD c p (Prf.ans pf) with
  | some (e', q', az, ds) => (some (e', fit q q', az, ds) : Option (Exit × (St × List (List AC)) × List Ans × List Dem))
  | none => none) = some (e, (q, []), [], Prf.dem pf)) : CodeCon Try.prog c p e q := code_of LL_ok DD_ok pf [] (fun cs h => by cases h) h
theorem at_m (ms : List Nat) {c : Code} {p : St} (e : Exit) (q : St) (pf : List (Prf Try.prog)) (pl : List (List AC)) (hp : ∀ cs ∈ pl, Plain cs) (h : (match runC LL DD c p (Prf.ans pf) with
  | some (e', q', az, ds) => (some (e', fit q q' ms, az, ds) : Option (Exit × (St × List (List AC)) × List Ans × List Dem))
  | none => none) = some (e, (q, pl), [], Prf.dem pf)) : CodeCon Try.prog c p e q := code_of LL_ok DD_ok pf ms hp h
theorem none_ : ∀ cs ∈ ([] : List (List AC)), Plain cs := fun cs h => by cases h
theorem Con.nil {f : FuncId} {xs : List AG} (h : Con Try.prog f xs (.g (.one (.v (.slice none 0 0))))) : Con Try.prog f xs (.g (.one (limbs []))) := by
  have key : ∀ {ok : Nat → Prop} {w : World} {u : Value}, TV [] ok w (.g (.one (.v (.slice none 0 0)))) u → TV [] ok w (.g (.one (limbs []))) u := by
    intro ok w u h
    have e := TC.v_eq (show TC [] ok w (.v (.slice none 0 0)) u from h)
    subst e
    exact (foot_mk fun W' _ => Rd.nil 1 none 0 : Foot (fun W => Rd W (limbs []) (.slice none 0 0)) w ok)
  rcases h with ⟨hf, h⟩ | h
  · refine .inl ⟨hf, fun ok us w hA => (h ok us w hA).mono ?_⟩
    rintro e w' ⟨u, rfl, hT, hb⟩
    exact ⟨u, rfl, key hT, hb⟩
  · refine .inr (fun ok us w hA => ?_)
    obtain ⟨u, w', h1, hT, hb⟩ := h ok us w hA
    exact ⟨u, w', h1, key hT, hb⟩
end
end Go.Proofs.Ytjfkhbkddenfoaa.Ev
namespace Go.Proofs.Ytjfkhbkddenfoaa.Zi
open Go Go.RowKit Go.Proofs.YtjfkhbkddenfoaaW.PrintWords Go.Proofs.YtjfkhbkddenfoaaW.PrintMore Go.Proofs.Ytjfkhbkddenfoaa.Nt
section
def zval (b : Bool) (m : List Int) : Int := if b then -(val m : Int) else (val m : Int)
def ofZ (z : Int) : Bool × List Int := (decide (z < 0), ofN z.natAbs)
theorem abs_zval (b : Bool) (m : List Int) : (zval b m).natAbs = val m := by unfold zval; cases b <;> simp
theorem zval_ofZ (z : Int) : zval (ofZ z).1 (ofZ z).2 = z := by
  unfold ofZ zval
  simp only [val_ofN]
  by_cases h : z < 0
  · rw [decide_eq_true h]; simp only [if_true]; omega
  · rw [decide_eq_false h]; simp; omega
theorem val_ofZ (z : Int) : val (ofZ z).2 = z.natAbs := val_ofN _
theorem lim_ofZ (z : Int) : lim (ofZ z).2 := lim_ofN _
theorem ofZ_of (b : Bool) (n : Nat) : (b && decide (n ≠ 0), ofN n) = ofZ (if b then -(n : Int) else (n : Int)) := by
  unfold ofZ
  cases b
  · simp
  · by_cases h : n = 0
    · subst h; rfl
    · simp [h]; omega
theorem len_pos (n : Nat) : decide ((((ofN n).length : Nat) : Int) > 0) = decide (n ≠ 0) := by
  rw [decide_eq_decide]
  constructor
  · intro h e; subst e; simp [ofN_zero] at h
  · intro h
    have := List.length_pos_iff.2 (fun e => h (ofN_nil.1 e))
    omega
theorem zval_not (b : Bool) (m : List Int) : zval (!b) m = -zval b m := by unfold zval; cases b <;> simp
def few (k : Nat) (m : List Int) : Prop := lim m ∧ m.length ≤ k
theorem few.fits {k : Nat} {m : List Int} (h : few k m) (hk : k ≤ 1000000) : fits m := ⟨h.1, by have := h.2; omega⟩
theorem few.rfits {k : Nat} {m : List Int} (h : few k m) (hk : k ≤ 1000000) : Nb.rfits m := ⟨h.1, by have := h.2; omega⟩
theorem few_ofZ {k : Nat} {z : Int} (h : (ofN z.natAbs).length ≤ k) : few k (ofZ z).2 := ⟨lim_ofZ z, h⟩
theorem few_zval {k : Nat} {b : Bool} {m : List Int} (h : few k m) : (ofN (zval b m).natAbs).length ≤ k := by
  rw [abs_zval]; exact Nat.le_trans (len_val_le h.1) h.2
theorem zval_same (b : Bool) (l m : List Int) : zval b (ofN (val l + val m)) = zval b l + zval b m := by
  unfold zval; rw [val_ofN]; cases b <;> simp <;> omega
theorem zval_mul (b c : Bool) (l m : List Int) : zval (b != c) (ofN (val l * val m)) = zval b l * zval c m := by
  unfold zval; rw [val_ofN]; cases b <;> cases c <;> simp [Int.neg_mul, Int.mul_neg]
def sgn (z : Int) : Int := if z < 0 then -1 else if 0 < z then 1 else 0
theorem len_ofZ_pos (z : Int) : (((ofZ z).2.length : Int) > 0) ↔ z ≠ 0 := by
  show (((ofN z.natAbs).length : Int) > 0) ↔ _
  constructor
  · intro h e; subst e; simp [ofN_zero] at h
  · intro h
    have := List.length_pos_iff.2 (fun e => (by omega : z.natAbs ≠ 0) (ofN_nil.1 e))
    omega
def cmpZ (x y : Int) : Int := sgn (x - y)
def sg (b : Bool) (n : Nat) : Int := if b then -(n : Int) else (n : Int)
theorem zval_ofN (b : Bool) (n : Nat) : zval b (ofN n) = sg b n := by unfold zval sg; rw [val_ofN]
theorem of_u {n : Int} (h0 : -9223372036854775808 ≤ n) (h1 : n < 9223372036854775808) : ∀ u : Int, u = (n.natAbs : Int) → fits [u % 4294967296, u / 4294967296 % 4294967296] ∧ zval (decide (n < 0)) [u % 4294967296, u / 4294967296 % 4294967296] = n := by
  intro u hu
  refine ⟨⟨fun x hx => ?_, by simp⟩, ?_⟩
  · simp only [List.mem_cons, List.not_mem_nil, or_false] at hx
    rcases hx with rfl | rfl <;> omega
  · have hv : val [u % 4294967296, u / 4294967296 % 4294967296] = n.natAbs := by simp only [val_cons, val_nil]; omega
    unfold zval
    rw [hv]
    by_cases h : n < 0
    · rw [if_pos (decide_eq_true h)]; omega
    · rw [if_neg (by simpa using h)]; omega
theorem u64n {n : Int} (h0 : -9223372036854775808 ≤ n) (h1 : n < 0) : IntKind.u64.wrap (-(IntKind.u64.wrap n)) = (n.natAbs : Int) := by
  rw [u64neg h1 (by omega)]
  show (-(n + 18446744073709551616)) % 18446744073709551616 = _
  omega
theorem len_natAbs_mul {x y : Int} : (ofN (x * y).natAbs).length ≤ (ofN x.natAbs).length + (ofN y.natAbs).length := by rw [Int.natAbs_mul]; exact len_mul _ _
theorem len_natAbs_add {x y : Int} : (ofN (x + y).natAbs).length ≤ max (ofN x.natAbs).length (ofN y.natAbs).length + 1 :=
  Nat.le_trans (len_mono (Int.natAbs_add_le x y)) (len_add _ _)
def printZ (z : Int) : ByteArray := if z < 0 then (⟨#[45]⟩ : ByteArray) ++ text z.natAbs else text z.natAbs
theorem text_size (n : Nat) : (text n).size ≤ 10 * (ofN n).length + 1 := by
  have := low_ofN n
  unfold text told
  split
  · exact Nat.le_trans (show (⟨#[48]⟩ : ByteArray).size ≤ 1 from Nat.le_refl 1) (by omega)
  · rw [strOfNums_size, List.length_reverse]; omega
end
end Go.Proofs.Ytjfkhbkddenfoaa.Zi
namespace Go.Proofs.Ytjfkhbkddenfoaa.Ev
open Go Go.RowKit Go.Proofs.YtjfkhbkddenfoaaW.PrintWords Go.Proofs.YtjfkhbkddenfoaaW.PrintMore Go.Proofs.YtjfkhbkddenfoaaW.PrintLast Go.Proofs.Ytjfkhbkddenfoaa Go.Proofs.Ytjfkhbkddenfoaa.Nt Go.Proofs.Ytjfkhbkddenfoaa.Zi
section
def int (b : Bool) (l : List Int) : AG := .agg [.v (.bool b), limbs l]
def zi (z : Int) : AG := int (ofZ z).1 (ofZ z).2
def num (n : Int) : AG := .one (.v (.int .i64 n))
def truth (b : Bool) : AG := .one (.v (.bool b))
def text' (s : ByteArray) : AG := .one (.v (.string s))
theorem zi_of {b : Bool} {n : Nat} {c : Bool} (h : c = (b && decide (n ≠ 0))) {z : Int} (hz : z = if b then -(n : Int) else (n : Int)) : (AV.g (.agg [.v (.bool c), limbs (ofN n)])) = .g (zi z) := by
  subst h
  subst hz
  have := ofZ_of b n
  unfold zi
  rw [← this]
  rfl
theorem iWith (b : Bool) (m : List Int) (h : fits m) : Con Try.prog 97 [one (.bool b), .one (limbs m)] (.g (zi (zval b m))) := by
  cases b
  · exact (by_ (.g (.agg [.v (.bool false), limbs (ofN (val m))])) Try.func97 rfl [gives (nat_Trim.con m _ (if_pos h)), ends (rfl : false = false)] (by kernel_rfl)).to (zi_of (b := false) rfl rfl)
  · exact (by_ (.g (.agg [.v (.bool (decide (((ofN (val m)).length : Int) > 0))), limbs (ofN (val m))])) Try.func97 rfl [gives (nat_Trim.con m _ (if_pos h)), ends (rfl : true = true)] (by kernel_rfl)).to (zi_of (b := true) (len_pos _) rfl)
theorem ff {m : List Int} (h : few 50000 m) : fits m := h.fits (by decide)
theorem rf {m : List Int} (h : few 50000 m) : Nb.rfits m := h.rfits (by decide)
theorem few_len {m : List Int} (h : few 50000 m) : (ofN (val m)).length ≤ 50000 := Nat.le_trans (len_val_le h.1) h.2
theorem few_zi {z : Int} (h : (ofN z.natAbs).length ≤ 50000) : few 50000 (ofZ z).2 := few_ofZ h
theorem few_of {b : Bool} {m : List Int} (h : few 50000 m) : (ofN (zval b m).natAbs).length ≤ 50000 := few_zval h
theorem iNorm (b : Bool) (l : List Int) (h : few 50000 l) : Con Try.prog 95 [int b l] (.g (zi (zval b l))) := by_ _ Try.func95 rfl [gives (iWith b l (ff h))] (by kernel_rfl)
theorem iNeg (b : Bool) (l : List Int) (h : few 50000 l) : Con Try.prog 70 [int b l] (.g (zi (-zval b l))) := (by_ (.g (zi (zval (!b) l))) Try.func70 rfl [gives (iWith (!b) l (ff h))] (by kernel_rfl)).to (by rw [zval_not])
theorem iAdd (b : Bool) (l : List Int) (c : Bool) (m : List Int) (hl : few 50000 l) (hm : few 50000 m) : Con Try.prog 74 [int b l, int c m] (.g (zi (zval b l + zval c m))) := by
  have h1 := few_len hl
  have h2 := few_len hm
  by_cases e : b = c
  · subst e
    have h3 := len_add (val l) (val m)
    exact (by_ (.g (zi (zval b (ofN (val l + val m))))) Try.func74 rfl [ends (show (b == b) = true by simp), gives (nat_Add.con l m _ (if_pos ⟨(ff hl), (ff hm)⟩)), gives (iWith b (ofN (val l + val m)) (fits_ofN (by omega)))] (by kernel_rfl)).to (by rw [zval_same])
  · have eb : (b == c) = false := by simpa using e
    by_cases hlt : val l < val m
    · have h3 : (ofN (val m - val l)).length ≤ (ofN (val m)).length := len_mono (Nat.sub_le _ _)
      refine (by_ (.g (zi (zval c (ofN (val m - val l))))) Try.func74 rfl [ends eb, gives (nat_Sub.con l m [] 1 (by unfold nat_Sub.f; rw [if_pos ⟨(ff hl), (ff hm)⟩, if_pos hlt])), ends (rfl : ((1 : Int) == 0) = false),
        gives (nat_Sub.con m l (ofN (val m - val l)) 0 (by unfold nat_Sub.f; rw [if_pos ⟨(ff hm), (ff hl)⟩, if_neg (by omega)])), gives (iWith c (ofN (val m - val l)) (fits_ofN (by omega)))] (by kernel_rfl)).to (congrArg (fun z => AV.g (zi z)) ?_)
      unfold zval
      rw [val_ofN]
      cases b <;> cases c <;> simp at e ⊢ <;> omega
    · have h3 : (ofN (val l - val m)).length ≤ (ofN (val l)).length := len_mono (Nat.sub_le _ _)
      refine (by_ (.g (zi (zval b (ofN (val l - val m))))) Try.func74 rfl [ends eb, gives (nat_Sub.con l m (ofN (val l - val m)) 0 (by unfold nat_Sub.f; rw [if_pos ⟨(ff hl), (ff hm)⟩, if_neg hlt])), ends (rfl : ((0 : Int) == 0) = true), gives (iWith b (ofN (val l - val m)) (fits_ofN (by omega)))] (by kernel_rfl)).to (congrArg (fun z => AV.g (zi z)) ?_)
      unfold zval
      rw [val_ofN]
      cases b <;> cases c <;> simp at e ⊢ <;> omega
theorem iMul (b : Bool) (l : List Int) (c : Bool) (m : List Int) (hl : few 50000 l) (hm : few 50000 m) : Con Try.prog 76 [int b l, int c m] (.g (zi (zval b l * zval c m))) := by
  have h1 := few_len hl
  have h2 := few_len hm
  have h3 := len_mul (val l) (val m)
  exact (by_ (.g (zi (zval (!(b == c)) (ofN (val l * val m))))) Try.func76 rfl [gives (nat_Mul.con l m _ (if_pos ⟨(ff hl), (ff hm)⟩)), gives (iWith (!(b == c)) (ofN (val l * val m)) (fits_ofN (by omega)))] (by kernel_rfl)).to (congrArg (fun z => AV.g (zi z)) (zval_mul b c l m))
theorem iSign (b : Bool) (l : List Int) (h : few 50000 l) : Con Try.prog 68 [int b l] (.g (num (sgn (zval b l)))) := by
  have hl := len_ofZ_pos (zval b l)
  by_cases h1 : zval b l < 0
  · exact (by_ (.g (num (-1))) Try.func68 rfl [gives (iNorm b l h), ends (decide_eq_true h1)] (by kernel_rfl)).to (by unfold sgn; rw [if_pos h1])
  · by_cases h2 : 0 < zval b l
    · exact (by_ (.g (num 1)) Try.func68 rfl [gives (iNorm b l h), ends (decide_eq_false h1), ends (decide_eq_true (hl.2 (by omega)))] (by kernel_rfl)).to (by unfold sgn; rw [if_neg h1, if_pos h2])
    · exact (by_ (.g (num 0)) Try.func68 rfl [gives (iNorm b l h), ends (decide_eq_false h1), ends (decide_eq_false (fun e => hl.1 e (by omega)))] (by kernel_rfl)).to (by unfold sgn; rw [if_neg h1, if_neg h2])
theorem val_zi (z : Int) : val (ofZ z).2 = z.natAbs := val_ofZ z
theorem iCmp (b : Bool) (l : List Int) (c : Bool) (m : List Int) (hl : few 50000 l) (hm : few 50000 m) : Con Try.prog 66 [int b l, int c m] (.g (num (cmpZ (zval b l) (zval c m)))) := by
  have fx := ff (few_zi (few_of (b := b) hl))
  have fy := ff (few_zi (few_of (b := c) hm))
  have N1 := iNorm b l hl
  have N2 := iNorm c m hm
  generalize zval b l = x at *
  generalize zval c m = y at *
  have e1 : nat_Cmp.f (ofZ y).2 (ofZ x).2 = some (if y.natAbs < x.natAbs then -1 else if x.natAbs < y.natAbs then 1 else 0) := by
    unfold nat_Cmp.f; rw [if_pos ⟨fy, fx⟩, val_zi, val_zi]
  have e2 : nat_Cmp.f (ofZ x).2 (ofZ y).2 = some (if x.natAbs < y.natAbs then -1 else if y.natAbs < x.natAbs then 1 else 0) := by
    unfold nat_Cmp.f; rw [if_pos ⟨fx, fy⟩, val_zi, val_zi]
  by_cases hx : x < 0 <;> by_cases hy : y < 0
  · refine (by_ (.g (num (if y.natAbs < x.natAbs then -1 else if x.natAbs < y.natAbs then 1 else 0))) Try.func66 rfl [gives N1, gives N2, ends (decide_eq_true hx), ends (decide_eq_true hy), gives (nat_Cmp.con _ _ _ e1)] (by kernel_rfl)).to (congrArg (fun n => AV.g (num n)) ?_)
    unfold cmpZ sgn
    repeat' split
    all_goals omega
  · refine (by_ (.g (num (-1))) Try.func66 rfl [gives N1, gives N2, ends (decide_eq_true hx), ends (decide_eq_false hy), ends (decide_eq_true hx)] (by kernel_rfl)).to (congrArg (fun n => AV.g (num n)) ?_)
    unfold cmpZ sgn
    rw [if_pos (by omega)]
  · refine (by_ (.g (num 1)) Try.func66 rfl [gives N1, gives N2, ends (decide_eq_false hx), ends (rfl : false = false), ends (decide_eq_false hx), ends (decide_eq_true hy)] (by kernel_rfl)).to (congrArg (fun n => AV.g (num n)) ?_)
    unfold cmpZ sgn
    rw [if_neg (by omega), if_pos (by omega)]
  · refine (by_ (.g (num (if x.natAbs < y.natAbs then -1 else if y.natAbs < x.natAbs then 1 else 0))) Try.func66 rfl [gives N1, gives N2, ends (decide_eq_false hx), ends (rfl : false = false), ends (decide_eq_false hx), ends (decide_eq_false hy), gives (nat_Cmp.con _ _ _ e2)] (by kernel_rfl)).to (congrArg (fun n => AV.g (num n)) ?_)
    unfold cmpZ sgn
    repeat' split
    all_goals omega
end
section
theorem shr_at (a : Int) : ∀ (P : Program) (t : TypeId) (w : World), (binOp .shr t (.int .u64 a) (.int .u64 32)).run P w = .ok (.int .u64 (a / 4294967296)) w := by
  intro P t w
  have : a.fdiv (2 ^ min 32 IntKind.u64.bits) = a / 4294967296 := by
    rw [show (2 : Int) ^ min 32 IntKind.u64.bits = 4294967296 from rfl, Int.fdiv_eq_ediv_of_nonneg _ (by decide)]
  simp [binOp, Op.shift, this]
theorem u32w (x : Int) : IntKind.u32.wrap x = x % 4294967296 := rfl
theorem iOf {n : Int} (h0 : -9223372036854775808 ≤ n) (h1 : n < 9223372036854775808) : Con Try.prog 72 [num n] (.g (zi n)) := by
  by_cases h : n < 0
  · obtain ⟨f, z⟩ := of_u h0 h1 _ (u64n h0 h)
    refine (by_ (.g (zi (zval (decide (n < 0)) [IntKind.u32.wrap (IntKind.u64.wrap (0 - IntKind.u64.wrap n)), IntKind.u32.wrap (IntKind.u64.wrap (0 - IntKind.u64.wrap n) / 4294967296)]))) Try.func72 rfl
      [ends (decide_eq_true h), byBits (shr_at (IntKind.u64.wrap (0 - IntKind.u64.wrap n))), gives (iWith (decide (n < 0)) [IntKind.u32.wrap (IntKind.u64.wrap (0 - IntKind.u64.wrap n)), IntKind.u32.wrap (IntKind.u64.wrap (0 - IntKind.u64.wrap n) / 4294967296)] (by rw [Int.zero_sub]; exact f))] (by kernel_rfl)).to ?_
    rw [Int.zero_sub, u32w, u32w, z]
  · have e : IntKind.u64.wrap n = (n.natAbs : Int) := by rw [u64 (by omega) (by omega)]; omega
    obtain ⟨f, z⟩ := of_u h0 h1 _ e
    refine (by_ (.g (zi (zval (decide (n < 0)) [IntKind.u32.wrap (IntKind.u64.wrap n), IntKind.u32.wrap (IntKind.u64.wrap n / 4294967296)]))) Try.func72 rfl
      [ends (decide_eq_false h), byBits (shr_at (IntKind.u64.wrap n)), gives (iWith (decide (n < 0)) [IntKind.u32.wrap (IntKind.u64.wrap n), IntKind.u32.wrap (IntKind.u64.wrap n / 4294967296)] f)] (by kernel_rfl)).to ?_
    rw [u32w, u32w, z]
end
section
theorem lim_at {l : List Int} {i : Nat} (h : i < l.length) : (0 : Int) ≤ (i : Int) ∧ (l.map fun n => [AC.v (.int .u32 n)])[(i : Int).toNat]? = some [.v (.int .u32 l[i])] := ⟨by omega, by simp [h]⟩
theorem wr {x : Int} (h0 : -9223372036854775808 ≤ x) (h1 : x < 9223372036854775808) : IntKind.i64.wrap x = x := by
  simp only [IntKind.wrap, IntKind.signed, IntKind.bits]; simp; omega
def S33 (l m : List Int) (i : Int) : St := (st (sparse 26 [(0, .g (.one (limbs l))), (1, .g (.one (limbs m))), (4, .g (truth false)), (5, .g (num i))]) [])
theorem same_loop (l m : List Int) (hl : l.length = m.length) (hb : l.length < 4000000000000000000) : ∀ (d i : Nat), i + d = l.length →
    (l.drop i = m.drop i → Rounds Try.prog (lp Try.f37 0) (S33 l m i) (.exit 0) (S33 l m l.length)) ∧ (l.drop i ≠ m.drop i → Rounds Try.prog (lp Try.f37 0) (S33 l m i) .ret (st (sparse 26 [(4, .g (truth false))]) []))
  | 0, i, h => by
    have : i = l.length := by omega
    subst this
    refine ⟨fun _ => Rounds.out (at_ _ _ [ends (show decide ((l.length : Int) < (l.length : Int)) = false by simp)] (by kernel_rfl)) (by simp), fun h => absurd ?_ h⟩
    rw [List.drop_eq_nil_of_le (by omega), List.drop_eq_nil_of_le (by omega)]
  | d + 1, i, h => by
    have h1 : i < l.length := by omega
    have h2 : i < m.length := by omega
    have ih := same_loop l m hl hb d (i + 1) (by omega)
    have hlt : decide ((i : Int) < (l.length : Int)) = true := by rw [decide_eq_true_iff]; omega
    rw [List.drop_eq_getElem_cons h1, List.drop_eq_getElem_cons h2]
    by_cases e : l[i] = m[i]
    · have step := at_ (c := lp Try.f37 0) (p := S33 l m i) .normal (S33 l m (IntKind.i64.wrap ((i : Int) + 1))) [ends hlt, elem (lim_at h1), elem (lim_at h2), ends (show (l[i] != m[i]) = false by simpa using e)] (by kernel_rfl)
      rw [show IntKind.i64.wrap ((i : Int) + 1) = ((i + 1 : Nat) : Int) by rw [wr (by omega) (by omega)]; omega] at step
      refine ⟨fun hd => (ih.1 ?_).step' step, fun hd => (ih.2 ?_).step' step⟩
      · injection hd
      · intro h3
        exact hd (by rw [e, h3])
    · refine ⟨fun hd => ?_, fun hd => Rounds.out (at_ _ _ [ends hlt, elem (lim_at h1), elem (lim_at h2), ends (show (l[i] != m[i]) = true by simpa using e)] (by kernel_rfl)) (by simp)⟩
      injection hd with h3
      exact absurd h3 e
theorem jSame (l m : List Int) (hb : l.length < 4000000000000000000) : Con Try.prog 37 [.one (limbs l), .one (limbs m)] (.g (truth (decide (l = m)))) := by
  by_cases hl : l.length = m.length
  · have h := same_loop l m hl hb l.length 0 (by omega)
    by_cases e : l = m
    · exact (by_ (.g (truth true)) Try.func37 rfl [ends (show ((l.length : Int) != (m.length : Int)) = false by simp; omega), goes (h.1 (by simpa using e)).loop] (by kernel_rfl)).to (by rw [decide_eq_true e])
    · exact (by_ (.g (truth false)) Try.func37 rfl [ends (show ((l.length : Int) != (m.length : Int)) = false by simp; omega), goes (h.2 (by simpa using e)).loop] (by kernel_rfl)).to (by rw [decide_eq_false e])
  · refine (by_ (.g (truth false)) Try.func37 rfl [ends (show ((l.length : Int) != (m.length : Int)) = true by simp; omega)] (by kernel_rfl)).to ?_
    rw [decide_eq_false (fun e => hl (by rw [e]))]
theorem jNorm (b : Bool) (l : List Int) (h : few 50000 l) : Con Try.prog 55 [int b l] (.g (zi (zval b l))) := by
  have T := foliotref01_Trim.con l _ (if_pos (rf h))
  cases b
  · exact (by_ (.g (.agg [.v (.bool false), limbs (ofN (val l))])) Try.func55 rfl [gives T, ends (rfl : false = false)] (by kernel_rfl)).to (zi_of (b := false) rfl rfl)
  · exact (by_ (.g (.agg [.v (.bool (decide (((ofN (val l)).length : Int) > 0))), limbs (ofN (val l))])) Try.func55 rfl [gives T, ends (rfl : true = true)] (by kernel_rfl)).to (zi_of (b := true) (len_pos _) rfl)
theorem jNeg (b : Bool) (l : List Int) (h : few 50000 l) : Con Try.prog 99 [int b l] (.g (zi (-zval b l))) := (by_ (.g (zi (zval (!b) l))) Try.func99 rfl [gives (jNorm (!b) l h)] (by kernel_rfl)).to (by rw [zval_not])
theorem few_ofN {n : Nat} (h : (ofN n).length ≤ 50000) : few 50000 (ofN n) := ⟨lim_ofN _, h⟩
theorem jAdd (b : Bool) (l : List Int) (c : Bool) (m : List Int) (hl : few 20000 l) (hm : few 20000 m) : Con Try.prog 51 [int b l, int c m] (.g (zi (zval b l + zval c m))) := by
  have hA : (ofN (zval b l).natAbs).length ≤ 20000 := few_zval hl
  have hB : (ofN (zval c m).natAbs).length ≤ 20000 := few_zval hm
  have fx := rf (few_zi (z := zval b l) (by omega))
  have fy := rf (few_zi (z := zval c m) (by omega))
  have N1 := jNorm b l ⟨hl.1, by have := hl.2; omega⟩
  have N2 := jNorm c m ⟨hm.1, by have := hm.2; omega⟩
  generalize zval b l = x at *
  generalize zval c m = y at *
  by_cases e : decide (x < 0) = decide (y < 0)
  · have ea : foliotref01_Add.f (ofZ x).2 (ofZ y).2 = some (ofN (x.natAbs + y.natAbs)) := by
      unfold foliotref01_Add.f; rw [if_pos ⟨fx, fy⟩, val_zi, val_zi]
    have h3 := len_add x.natAbs y.natAbs
    refine (by_ (.g (zi (zval (decide (x < 0)) (ofN (x.natAbs + y.natAbs))))) Try.func51 rfl [gives N1, gives N2, ends (show (decide (x < 0) == decide (y < 0)) = true by simpa using e), gives (foliotref01_Add.con _ _ _ ea), gives (jNorm (decide (x < 0)) (ofN (x.natAbs + y.natAbs)) (few_ofN (by omega)))] (by kernel_rfl)).to (congrArg (fun z => AV.g (zi z)) ?_)
    rw [zval_ofN]
    unfold sg
    rw [decide_eq_decide] at e
    split <;> rename_i h <;> simp at h <;> omega
  · have ef : (decide (x < 0) == decide (y < 0)) = false := by simpa using e
    have ec : foliotref01_Cmp.f (ofZ x).2 (ofZ y).2 = some (Nb.cmp3 x.natAbs y.natAbs) := by
      unfold foliotref01_Cmp.f; rw [if_pos ⟨fx, fy⟩, val_zi, val_zi]
    rw [decide_eq_decide] at e
    by_cases hlt : x.natAbs < y.natAbs
    · have es : foliotref01_Sub.f (ofZ y).2 (ofZ x).2 = some (ofN (y.natAbs - x.natAbs), 0) := by
        unfold foliotref01_Sub.f; rw [if_pos ⟨fy, fx⟩, val_zi, val_zi, if_neg (by omega)]
      have h3 : (ofN (y.natAbs - x.natAbs)).length ≤ (ofN y.natAbs).length := len_mono (Nat.sub_le _ _)
      refine (by_ (.g (zi (zval (decide (y < 0)) (ofN (y.natAbs - x.natAbs))))) Try.func51 rfl [gives N1, gives N2, ends ef, gives (foliotref01_Cmp.con _ _ _ ec), ends (show decide (Nb.cmp3 x.natAbs y.natAbs ≥ 0) = false by unfold Nb.cmp3; rw [if_pos hlt]; rfl), gives (foliotref01_Sub.con _ _ _ _ es), gives (jNorm (decide (y < 0)) (ofN (y.natAbs - x.natAbs)) (few_ofN (by omega)))] (by kernel_rfl)).to (congrArg (fun z => AV.g (zi z)) ?_)
      rw [zval_ofN]
      unfold sg
      split <;> rename_i h <;> simp at h <;> omega
    · have es : foliotref01_Sub.f (ofZ x).2 (ofZ y).2 = some (ofN (x.natAbs - y.natAbs), 0) := by
        unfold foliotref01_Sub.f; rw [if_pos ⟨fx, fy⟩, val_zi, val_zi, if_neg (by omega)]
      have h3 : (ofN (x.natAbs - y.natAbs)).length ≤ (ofN x.natAbs).length := len_mono (Nat.sub_le _ _)
      refine (by_ (.g (zi (zval (decide (x < 0)) (ofN (x.natAbs - y.natAbs))))) Try.func51 rfl [gives N1, gives N2, ends ef, gives (foliotref01_Cmp.con _ _ _ ec), ends (show decide (Nb.cmp3 x.natAbs y.natAbs ≥ 0) = true by unfold Nb.cmp3; rw [if_neg hlt]; split <;> rfl), gives (foliotref01_Sub.con _ _ _ _ es), gives (jNorm (decide (x < 0)) (ofN (x.natAbs - y.natAbs)) (few_ofN (by omega)))] (by kernel_rfl)).to (congrArg (fun z => AV.g (zi z)) ?_)
      rw [zval_ofN]
      unfold sg
      split <;> rename_i h <;> simp at h <;> omega
theorem few_up {k n : Nat} {l : List Int} (h : few k l) (hk : k ≤ n) : few n l := ⟨h.1, Nat.le_trans h.2 hk⟩
theorem jMul (b : Bool) (l : List Int) (c : Bool) (m : List Int) (hl : few 20000 l) (hm : few 20000 m) : Con Try.prog 52 [int b l, int c m] (.g (zi (zval b l * zval c m))) := by
  have h1 := few_len (few_up hl (n := 50000) (by decide))
  have h2 : (ofN (val l)).length ≤ 20000 := Nat.le_trans (len_val_le hl.1) hl.2
  have h4 : (ofN (val m)).length ≤ 20000 := Nat.le_trans (len_val_le hm.1) hm.2
  have h3 := len_mul (val l) (val m)
  exact (by_ (.g (zi (zval (!(b == c)) (ofN (val l * val m))))) Try.func52 rfl [gives (foliotref01_Mul.con l m _ (if_pos ⟨rf (few_up hl (by decide)), rf (few_up hm (by decide))⟩)), gives (jNorm (!(b == c)) (ofN (val l * val m)) (few_ofN (by omega)))] (by kernel_rfl)).to (congrArg (fun z => AV.g (zi z)) (zval_mul b c l m))
theorem jSign (b : Bool) (l : List Int) (h : few 50000 l) : Con Try.prog 98 [int b l] (.g (num (sgn (zval b l)))) := by
  have N := jNorm b l h
  have hp := len_ofZ_pos (zval b l)
  generalize zval b l = x at *
  by_cases h0 : x = 0
  · subst h0
    exact by_ _ Try.func98 rfl [gives N, ends (show ((((ofN (0 : Int).natAbs).length : Nat) : Int) == 0) = true by rw [show (0 : Int).natAbs = 0 from rfl, ofN_zero]; rfl)] (by kernel_rfl)
  · have hz : ((((ofN x.natAbs).length : Nat) : Int) == 0) = false := by
      have := hp.2 h0
      have e : (ofZ x).2.length = (ofN x.natAbs).length := rfl
      rw [beq_eq_false_iff_ne]; omega
    by_cases h1 : x < 0
    · exact (by_ (.g (num (-1))) Try.func98 rfl [gives N, ends hz, ends (decide_eq_true h1)] (by kernel_rfl)).to (by unfold sgn; rw [if_pos h1])
    · exact (by_ (.g (num 1)) Try.func98 rfl [gives N, ends hz, ends (decide_eq_false h1)] (by kernel_rfl)).to (by unfold sgn; rw [if_neg h1, if_pos (by omega)])
theorem jPrint (b : Bool) (l : List Int) (h : few 50000 l) : Con Try.prog 79 [int b l] (.g (text' (printZ (zval b l)))) := by
  have N := jNorm b l h
  have h3 := few_of (b := b) h
  generalize zval b l = x at *
  have T := foliotref01_Print.con (ofZ x).2 _ (if_pos (rf (few_zi h3)))
  rw [val_zi] at T
  have h2 := text_size x.natAbs
  by_cases hz : x < 0
  · exact (by_ (.g (text' ((⟨#[45]⟩ : ByteArray) ++ text x.natAbs))) Try.func79 rfl [gives N, ends (decide_eq_true hz), gives T, fact (show (((⟨#[45]⟩ : ByteArray).size + (text x.natAbs).size : Nat) : Int) ≤ IntKind.i64.max by rw [show IntKind.i64.max = 9223372036854775807 from rfl, show (⟨#[45]⟩ : ByteArray).size = 1 from rfl]; omega)] (by kernel_rfl)).to (by unfold printZ; rw [if_pos hz])
  · exact (by_ (.g (text' (text x.natAbs))) Try.func79 rfl [gives N, ends (decide_eq_false hz), gives T] (by kernel_rfl)).to (by unfold printZ; rw [if_neg hz])
theorem jSameZ (b : Bool) (l : List Int) (c : Bool) (m : List Int) (h : l.length < 4000000000000000000) : Con Try.prog 36 [int b l, int c m] (.g (truth (decide (b = c ∧ l = m)))) := by
  have S := jSame l m h
  by_cases e : b = c
  · subst e
    exact (by_ (.g (truth (decide (l = m)))) Try.func36 rfl [ends (show (b == b) = true by simp), gives S] (by kernel_rfl)).to (by simp)
  · exact (by_ (.g (truth false)) Try.func36 rfl [ends (show (b == c) = false by simpa using e)] (by kernel_rfl)).to (by simp [e])
end
section
def rv (b : Bool) (l d : List Int) : Rat := mkRat (zval b l) (val d)
def rat (b : Bool) (l d : List Int) : AG := .agg [.v (.bool b), limbs l, limbs d]
def ra (x : Rat) : AG := rat (ofZ x.num).1 (ofZ x.num).2 (ofN x.den)
def short (k : Nat) (x : Rat) : Prop := (ofN x.num.natAbs).length ≤ k ∧ (ofN x.den).length ≤ k
theorem rv_told (x : Rat) : rv (ofZ x.num).1 (ofZ x.num).2 (ofN x.den) = x := by
  unfold rv
  rw [zval_ofZ, val_ofN, Rat.mkRat_self]
theorem num_le (n : Int) (d : Nat) : (mkRat n d).num.natAbs ≤ n.natAbs := by
  rw [Rat.num_mkRat]
  split
  · simp
  · rw [Int.natAbs_ediv_of_dvd (Int.ofNat_dvd_left.2 (Nat.gcd_dvd_right d n.natAbs))]
    exact Nat.div_le_self _ _
theorem den_le {n : Int} {d : Nat} (h : d ≠ 0) : (mkRat n d).den ≤ d := by
  rw [Rat.den_mkRat, if_neg h]
  exact Nat.div_le_self _ _
theorem short_mk {k : Nat} {n : Int} {d : Nat} (hd : d ≠ 0) (h1 : (ofN n.natAbs).length ≤ k) (h2 : (ofN d).length ≤ k) : short k (mkRat n d) :=
  ⟨Nat.le_trans (len_mono (num_le n d)) h1, Nat.le_trans (len_mono (den_le hd)) h2⟩
theorem short_up {k m : Nat} {x : Rat} (h : short k x) (hk : k ≤ m) : short m x := ⟨Nat.le_trans h.1 hk, Nat.le_trans h.2 hk⟩
theorem len_pos' {n : Nat} (h : n ≠ 0) : 1 ≤ (ofN n).length := List.length_pos_iff.2 (fun e => h (ofN_nil.1 e))
theorem short_rv {k : Nat} {b : Bool} {l d : List Int} (hl : few k l) (hd : few k d) (hk : 1 ≤ k) : short k (rv b l d) := by
  by_cases h : val d = 0
  · unfold rv
    rw [h, Rat.mkRat_zero]
    exact ⟨by show (ofN 0).length ≤ k; rw [ofN_zero]; simp, by show (ofN 1).length ≤ k; exact hk⟩
  · exact short_mk h (few_zval hl) (Nat.le_trans (len_val_le hd.1) hd.2)
theorem short_neg {k : Nat} {x : Rat} (h : short k x) : short k (-x) := by
  unfold short at *
  rw [Rat.neg_num, Rat.neg_den, Int.natAbs_neg]
  exact h
theorem short_add {k m : Nat} {x y : Rat} (hx : short k x) (hy : short m y) : short (k + m + 1) (x + y) := by
  rw [Rat.add_def']
  refine short_mk (Nat.mul_ne_zero x.den_nz y.den_nz) ?_ ?_
  · have h1 := @len_natAbs_add (x.num * y.den) (y.num * x.den)
    have h2 := @len_natAbs_mul x.num (y.den : Int)
    have h3 := @len_natAbs_mul y.num (x.den : Int)
    have := hx.1; have := hx.2; have := hy.1; have := hy.2
    simp only [Int.natAbs_natCast] at h2 h3
    omega
  · have := len_mul x.den y.den
    have := hx.2; have := hy.2
    omega
theorem short_sub {k m : Nat} {x y : Rat} (hx : short k x) (hy : short m y) : short (k + m + 1) (x - y) := by
  rw [Rat.sub_eq_add_neg]
  exact short_add hx (short_neg hy)
theorem short_mul {k m : Nat} {x y : Rat} (hx : short k x) (hy : short m y) : short (k + m) (x * y) := by
  rw [Rat.mul_def']
  refine short_mk (Nat.mul_ne_zero x.den_nz y.den_nz) ?_ ?_
  · have h2 := @len_natAbs_mul x.num y.num
    have := hx.1; have := hy.1
    omega
  · have := len_mul x.den y.den
    have := hx.2; have := hy.2
    omega
theorem short_inv {k : Nat} {x : Rat} (hx : short k x) (hk : 1 ≤ k) : short k x⁻¹ := by
  unfold short
  rw [Rat.num_inv, Rat.den_inv]
  refine ⟨?_, ?_⟩
  · rw [Int.natAbs_mul]
    by_cases h : x.num = 0
    · rw [h]; simp [ofN_zero]
    · rw [Int.natAbs_sign_of_ne_zero h]
      simpa using hx.2
  · split
    · exact hk
    · exact hx.1
theorem short_div {k m : Nat} {x y : Rat} (hx : short k x) (hy : short m y) (hm : 1 ≤ m) : short (k + m) (x / y) := by
  rw [Rat.div_def]
  exact short_mul hx (short_inv hy hm)
theorem short_int {k : Nat} {z : Int} (h : (ofN z.natAbs).length ≤ k) (hk : 1 ≤ k) : short k (z : Rat) := ⟨by rw [Rat.num_intCast]; exact h, by rw [Rat.den_intCast]; exact hk⟩
theorem short.num {k : Nat} {x : Rat} (h : short k x) : few k (ofZ x.num).2 := few_ofZ h.1
theorem short.den {k : Nat} {x : Rat} (h : short k x) : few k (ofN x.den) := ⟨lim_ofN _, h.2⟩
theorem red_num (b : Bool) (m : List Int) (D : Nat) (hD : D ≠ 0) : zval b (ofN (val m / Nat.gcd (val m) D)) = (mkRat (zval b m) D).num := by
  rw [zval_ofN, Rat.num_mkRat, if_neg hD]
  unfold sg zval
  cases b
  · simp [Int.gcd, Nat.gcd_comm]
  · simp only [if_true]
    rw [Int.neg_ediv_of_dvd]
    · simp [Int.gcd, Nat.gcd_comm]
    · simp only [Int.gcd, Int.natAbs_neg, Int.natAbs_natCast]
      exact Int.ofNat_dvd.2 (by first | exact Nat.gcd_dvd_left _ _ | exact Nat.gcd_dvd_right _ _)
theorem red_den (b : Bool) (m : List Int) (D : Nat) (hD : D ≠ 0) : D / Nat.gcd (val m) D = (mkRat (zval b m) D).den := by
  rw [Rat.den_mkRat, if_neg hD, abs_zval, Nat.gcd_comm]
end
section
theorem ndiv {l m : List Int} (hl : fits l) (hm : fits m) (h : val m ≠ 0) : nat_Div.f l m = some (ofN (val l / val m), ofN (val l % val m), 0) := by unfold nat_Div.f; rw [if_pos ⟨hl, hm⟩, if_neg h]
theorem lowest (b : Bool) (m d : List Int) (hm : few 50000 m) (hd : few 50000 d) (h : val d ≠ 0) : Con Try.prog 73 [int b m, .one (limbs d)] (.g (ra (mkRat (zval b m) (val d)))) := by
  have hg : Nat.gcd (val m) (val d) ≠ 0 := fun e => h (Nat.gcd_eq_zero_iff.1 e).2
  have hgl : (ofN (Nat.gcd (val m) (val d))).length ≤ 50000 := Nat.le_trans (len_mono (Nat.gcd_le_right _ (Nat.pos_of_ne_zero h))) (few_len hd)
  have fg : fits (ofN (Nat.gcd (val m) (val d))) := fits_ofN (by omega)
  have e1 := ndiv (ff hm) fg (by rw [val_ofN]; exact hg)
  have e2 := ndiv (ff hd) fg (by rw [val_ofN]; exact hg)
  rw [val_ofN] at e1 e2
  have hq : (ofN (val m / Nat.gcd (val m) (val d))).length ≤ 50000 := Nat.le_trans (len_mono (Nat.div_le_self _ _)) (few_len hm)
  have N := iNorm b (ofN (val m / Nat.gcd (val m) (val d))) (few_ofN hq)
  rw [red_num b m (val d) h] at N
  have hden := red_den b m (val d) h
  rw [hden] at e2
  exact by_ _ Try.func73 rfl [gives (nat_Gcd.con m d _ (if_pos ⟨ff hm, ff hd⟩)), gives (nat_Div.con _ _ _ _ _ e1), gives (nat_Div.con _ _ _ _ _ e2), gives N] (by kernel_rfl)
theorem zAdd {x y : Int} (hx : few 50000 (ofZ x).2) (hy : few 50000 (ofZ y).2) : Con Try.prog 74 [zi x, zi y] (.g (zi (x + y))) := by
  have A := iAdd (ofZ x).1 (ofZ x).2 (ofZ y).1 (ofZ y).2 hx hy
  rw [zval_ofZ, zval_ofZ] at A
  exact A
theorem zCmp {x y : Int} (hx : few 50000 (ofZ x).2) (hy : few 50000 (ofZ y).2) : Con Try.prog 66 [zi x, zi y] (.g (num (cmpZ x y))) := by
  have A := iCmp (ofZ x).1 (ofZ x).2 (ofZ y).1 (ofZ y).2 hx hy
  rw [zval_ofZ, zval_ofZ] at A
  exact A
theorem one1 : ofN 1 = [1] := rfl
theorem qOf {n : Int} (h0 : -9223372036854775808 ≤ n) (h1 : n < 9223372036854775808) : Con Try.prog 42 [num n] (.g (ra (n : Rat))) := by
  have e : ra (n : Rat) = rat (ofZ n).1 (ofZ n).2 [1] := by unfold ra; rw [Rat.num_intCast, Rat.den_intCast, one1]
  rw [e]
  exact by_ _ Try.func42 rfl [gives (iOf h0 h1)] (by kernel_rfl)
theorem qNorm (b : Bool) (l d : List Int) (hl : few 2000 l) (hd : few 2000 d) : Con Try.prog 65 [rat b l d] (.g (ra (rv b l d))) := by
  have hl' := few_up hl (n := 50000) (by decide)
  have hd' := few_up hd (n := 50000) (by decide)
  have B := nat_Bits.con d _ (if_pos (ff hd'))
  by_cases h : val d = 0
  · have O := qOf (n := 0) (by omega) (by omega)
    have e : rv b l d = ((0 : Int) : Rat) := by unfold rv; rw [h, Rat.mkRat_zero]; rfl
    rw [e]
    rw [h] at B
    exact by_ _ Try.func65 rfl [gives B, ends (rfl : ((((Nb.bitsN 0).length : Nat) : Int) == 0) = true), gives O] (by kernel_rfl)
  · exact by_ _ Try.func65 rfl [gives B, ends (show ((((Nb.bitsN (val d)).length : Nat) : Int) == 0) = false by
      rw [beq_eq_false_iff_ne]; intro e; exact h (Nb.bitsN_eq_nil.1 (by omega))), gives (lowest b l d hl' hd' h)] (by kernel_rfl)
theorem times (b : Bool) (l d : List Int) (hl : few 50000 l) (hd : few 50000 d) : Con Try.prog 67 [int b l, .one (limbs d)] (.g (zi (zval b l * (val d : Int)))) :=
  by_ _ Try.func67 rfl [gives (iMul b l false d hl hd)] (by kernel_rfl)
section
variable {x y : Rat}
theorem sN (h : short 2000 x) : few 50000 (ofZ x.num).2 := few_up h.num (by decide)
theorem sD (h : short 2000 x) : few 50000 (ofN x.den) := few_up h.den (by decide)
theorem tT (hx : short 2000 x) (hy : short 2000 y) : Con Try.prog 67 [zi x.num, .one (limbs (ofN y.den))] (.g (zi (x.num * (y.den : Int)))) ∧ few 50000 (ofZ (x.num * (y.den : Int))).2 := by
  have T := times (ofZ x.num).1 (ofZ x.num).2 (ofN y.den) (sN hx) (sD hy)
  rw [zval_ofZ, val_ofN] at T
  have h2 := @len_natAbs_mul x.num (y.den : Int)
  have h3 := hx.1
  have h4 := hy.2
  simp only [Int.natAbs_natCast] at h2
  exact ⟨T, few_zi (by omega)⟩
end
def cmpR (x y : Rat) : Int := if x < y then -1 else if y < x then 1 else 0
theorem cmpR_of (x y : Rat) : cmpZ (x.num * (y.den : Int)) (y.num * (x.den : Int)) = cmpR x y := by
  unfold cmpZ sgn cmpR
  simp only [Rat.lt_iff]
  repeat' split
  all_goals omega
section
variable (b : Bool) (l d : List Int) (c : Bool) (m e : List Int)
theorem qCmp (hl : few 2000 l) (hd : few 2000 d) (hm : few 2000 m) (he : few 2000 e) : Con Try.prog 33 [rat b l d, rat c m e] (.g (num (cmpR (rv b l d) (rv c m e)))) := by
  have N1 := qNorm b l d hl hd
  have N2 := qNorm c m e hm he
  have hx := short_rv (b := b) hl hd (by decide)
  have hy := short_rv (b := c) hm he (by decide)
  generalize rv b l d = x at *
  generalize rv c m e = y at *
  have C := zCmp (tT hx hy).2 (tT hy hx).2
  rw [cmpR_of] at C
  exact by_ _ Try.func33 rfl [gives N1, gives N2, gives (tT hx hy).1, gives (tT hy hx).1, gives C] (by kernel_rfl)
theorem qSign (hl : few 2000 l) (hd : few 2000 d) : Con Try.prog 35 [rat b l d] (.g (num (sgn (rv b l d).num))) := by
  have N1 := qNorm b l d hl hd
  have hx := short_rv (b := b) hl hd (by decide)
  generalize rv b l d = x at *
  have S := iSign (ofZ x.num).1 (ofZ x.num).2 (sN hx)
  rw [zval_ofZ] at S
  exact by_ _ Try.func35 rfl [gives N1, gives S] (by kernel_rfl)
theorem ra_neg (x : Rat) : ra (-x) = .agg [.v (.bool (ofZ (-x.num)).1), limbs (ofZ (-x.num)).2, limbs (ofN x.den)] := by unfold ra; rw [Rat.neg_num, Rat.neg_den]; rfl
theorem qNeg (hl : few 2000 l) (hd : few 2000 d) : Con Try.prog 39 [rat b l d] (.g (ra (-rv b l d))) := by
  have N1 := qNorm b l d hl hd
  have hx := short_rv (b := b) hl hd (by decide)
  generalize rv b l d = x at *
  have G := iNeg (ofZ x.num).1 (ofZ x.num).2 (sN hx)
  rw [zval_ofZ] at G
  rw [ra_neg]
  exact by_ _ Try.func39 rfl [gives N1, gives G] (by kernel_rfl)
theorem dD {x y : Rat} (hx : short 2000 x) (hy : short 2000 y) : Con Try.prog 75 [.one (limbs (ofN x.den)), .one (limbs (ofN y.den))] (.g (.one (limbs (ofN (x.den * y.den))))) ∧ few 50000 (ofN (x.den * y.den)) := by
  have M := nat_Mul.con (ofN x.den) (ofN y.den) _ (if_pos ⟨ff (sD hx), ff (sD hy)⟩)
  rw [val_ofN, val_ofN] at M
  have := len_mul x.den y.den
  have := hx.2
  have := hy.2
  exact ⟨M, few_ofN (by omega)⟩
theorem qAdd (hl : few 2000 l) (hd : few 2000 d) (hm : few 2000 m) (he : few 2000 e) : Con Try.prog 43 [rat b l d, rat c m e] (.g (ra (rv b l d + rv c m e))) := by
  have N1 := qNorm b l d hl hd
  have N2 := qNorm c m e hm he
  have hx := short_rv (b := b) hl hd (by decide)
  have hy := short_rv (b := c) hm he (by decide)
  generalize rv b l d = x at *
  generalize rv c m e = y at *
  have A := zAdd (tT hx hy).2 (tT hy hx).2
  have h1 := @len_natAbs_add (x.num * y.den) (y.num * x.den)
  have h2 := @len_natAbs_mul x.num (y.den : Int)
  have h3 := @len_natAbs_mul y.num (x.den : Int)
  have := hx.1; have := hx.2; have := hy.1; have := hy.2
  simp only [Int.natAbs_natCast] at h2 h3
  have L := lowest (ofZ (x.num * (y.den : Int) + y.num * (x.den : Int))).1 _ _ (few_zi (z := x.num * (y.den : Int) + y.num * (x.den : Int)) (by omega)) (dD hx hy).2 (by rw [val_ofN]; exact Nat.mul_ne_zero x.den_nz y.den_nz)
  rw [zval_ofZ, val_ofN, ← Rat.add_def'] at L
  exact by_ _ Try.func43 rfl [gives N1, gives N2, gives (tT hx hy).1, gives (tT hy hx).1, gives A, gives (dD hx hy).1, gives L] (by kernel_rfl)
theorem qMul (hl : few 2000 l) (hd : few 2000 d) (hm : few 2000 m) (he : few 2000 e) : Con Try.prog 44 [rat b l d, rat c m e] (.g (ra (rv b l d * rv c m e))) := by
  have N1 := qNorm b l d hl hd
  have N2 := qNorm c m e hm he
  have hx := short_rv (b := b) hl hd (by decide)
  have hy := short_rv (b := c) hm he (by decide)
  generalize rv b l d = x at *
  generalize rv c m e = y at *
  have M := iMul (ofZ x.num).1 (ofZ x.num).2 (ofZ y.num).1 (ofZ y.num).2 (sN hx) (sN hy)
  rw [zval_ofZ, zval_ofZ] at M
  have h2 := @len_natAbs_mul x.num y.num
  have := hx.1; have := hy.1
  have L := lowest (ofZ (x.num * y.num)).1 _ _ (few_zi (z := x.num * y.num) (by omega)) (dD hx hy).2 (by rw [val_ofN]; exact Nat.mul_ne_zero x.den_nz y.den_nz)
  rw [zval_ofZ, val_ofN, ← Rat.mul_def'] at L
  exact by_ _ Try.func44 rfl [gives N1, gives N2, gives M, gives (dD hx hy).1, gives L] (by kernel_rfl)
def makeT (n z : Int) : AV := if z = 0 then .tup [rat false [] [], num 3] else .tup [ra (Rat.divInt n z), num 0]
theorem qMake (hl : few 50000 l) (hm : few 50000 m) : Con Try.prog 69 [int b l, int c m] (makeT (zval b l) (zval c m)) := by
  have S := iSign c m hm
  have hv : val m = (zval c m).natAbs := (abs_zval c m).symm
  unfold makeT
  by_cases h0 : zval c m = 0
  · rw [h0] at S
    rw [if_pos h0]
    exact by_ _ Try.func69 rfl [gives S, ends (rfl : (sgn 0 == 0) = true)] (by kernel_rfl)
  · rw [if_neg h0]
    have hvm : val m ≠ 0 := by omega
    by_cases h1 : zval c m < 0
    · rw [show sgn (zval c m) = -1 by unfold sgn; rw [if_pos h1]] at S
      have L := lowest (ofZ (-zval b l)).1 (ofZ (-zval b l)).2 m (few_zi (by rw [Int.natAbs_neg]; exact few_of hl)) hm hvm
      rw [zval_ofZ, show mkRat (-zval b l) (val m) = Rat.divInt (zval b l) (zval c m) by
        rw [← Rat.divInt_ofNat, hv, show ((zval c m).natAbs : Int) = -zval c m by omega, Rat.divInt_neg', Int.neg_neg]] at L
      exact by_ _ Try.func69 rfl [gives S, ends (rfl : ((-1 : Int) == 0) = false), ends (rfl : ((-1 : Int) == -1) = true), gives (iNeg b l hl), gives L] (by kernel_rfl)
    · rw [show sgn (zval c m) = 1 by unfold sgn; rw [if_neg h1, if_pos (by omega)]] at S
      have L := lowest b l m hl hm hvm
      rw [show mkRat (zval b l) (val m) = Rat.divInt (zval b l) (zval c m) by
        rw [← Rat.divInt_ofNat, hv, show ((zval c m).natAbs : Int) = zval c m by omega]] at L
      exact by_ _ Try.func69 rfl [gives S, ends (rfl : ((1 : Int) == 0) = false), ends (rfl : ((1 : Int) == -1) = false), gives L] (by kernel_rfl)
def divR (x y : Rat) : AV := if y = 0 then .tup [rat false [] [], num 3] else .tup [ra (x / y), num 0]
theorem makeT_div (x y : Rat) : makeT (x.num * (y.den : Int)) (y.num * (x.den : Int)) = divR x y := by
  unfold makeT divR
  have hx := x.den_nz
  by_cases h : y = 0
  · subst h
    rw [if_pos (by show (0 : Int) * _ = 0; omega), if_pos rfl]
  · have hn : y.num ≠ 0 := fun e => h (Rat.num_eq_zero.1 e)
    rw [if_neg (Int.mul_ne_zero hn (by omega)), if_neg h]
    congr 4
    rw [Rat.div_def, Rat.inv_def]
    conv => rhs; rw [← Rat.mkRat_self x, ← Rat.divInt_ofNat]
    rw [Rat.divInt_mul_divInt, Int.mul_comm y.num]
theorem qDiv (hl : few 2000 l) (hd : few 2000 d) (hm : few 2000 m) (he : few 2000 e) : Con Try.prog 38 [rat b l d, rat c m e] (divR (rv b l d) (rv c m e)) := by
  have N1 := qNorm b l d hl hd
  have N2 := qNorm c m e hm he
  have hx := short_rv (b := b) hl hd (by decide)
  have hy := short_rv (b := c) hm he (by decide)
  generalize rv b l d = x at *
  generalize rv c m e = y at *
  have M := qMake (ofZ (x.num * (y.den : Int))).1 _ (ofZ (y.num * (x.den : Int))).1 _ (tT hx hy).2 (tT hy hx).2
  rw [zval_ofZ, zval_ofZ, makeT_div] at M
  unfold divR at *
  by_cases h : y = 0
  · rw [if_pos h] at *
    exact by_ _ Try.func38 rfl [gives N1, gives N2, gives (tT hx hy).1, gives (tT hy hx).1, gives M] (by kernel_rfl)
  · rw [if_neg h] at *
    exact by_ _ Try.func38 rfl [gives N1, gives N2, gives (tT hx hy).1, gives (tT hy hx).1, gives M] (by kernel_rfl)
def printR (x : Rat) : ByteArray := if x.den = 1 then printZ x.num else (printZ x.num ++ (⟨#[47]⟩ : ByteArray)) ++ text x.den
theorem printZ_size (z : Int) : (printZ z).size ≤ 10 * (ofN z.natAbs).length + 2 := by
  have := text_size z.natAbs
  unfold printZ
  split
  · rw [ByteArray.size_append, show (⟨#[45]⟩ : ByteArray).size = 1 from rfl]; omega
  · omega
end
end
section
def u64v (x : Int) : AG := .one (.v (.int .u64 x))
theorem rLimbs {X : Int} {n : Nat} (h : X = (n : Int)) (hn : n < 18446744073709551616) : Con Try.prog 77 [u64v X] (.g (.one (limbs (ofN n)))) := by
  by_cases h0 : n = 0
  · subst h0
    exact Con.nil (by_ _ Try.func77 rfl [ends (show (X == 0) = true by rw [h]; rfl)] (by kernel_rfl))
  · have e0 : (X == 0) = false := by rw [beq_eq_false_iff_ne]; omega
    by_cases h1 : n < 4294967296
    · refine (by_ (.g (.one (limbs [IntKind.u32.wrap X]))) Try.func77 rfl [ends e0, ends (show decide (X < 4294967296) = true by rw [decide_eq_true_iff]; omega)] (by kernel_rfl)).to ?_
      rw [u32w, h, ofN_pos h0, Nat.div_eq_of_lt h1, ofN_zero]
      rfl
    · refine (by_ (.g (.one (limbs [IntKind.u32.wrap X, IntKind.u32.wrap (X / 4294967296)]))) Try.func77 rfl [ends e0, ends (show decide (X < 4294967296) = false by rw [decide_eq_false_iff_not]; omega), byBits (shr_at X)] (by kernel_rfl)).to ?_
      have h2 : n / 4294967296 ≠ 0 := by omega
      rw [u32w, u32w, h, ofN_pos h0, ofN_pos h2, Nat.div_eq_of_lt (show n / 4294967296 < 4294967296 by omega), ofN_zero]
      rfl
def S157 (n d U A B : Int) : St := (st (sparse 36 [(0, .g (num n)), (1, .g (num d)), (4, .g (.one (.ptr 0 0))), (5, .g (u64v U)), (6, .g (u64v A)), (7, .g (u64v B))]) [[.v (.bool false), .row 1 0 [], .row 1 0 []]])
theorem told_loop (n d U : Int) : ∀ (b a : Nat) (A B : Int), A = (a : Int) → B = (b : Int) → b < 18446744073709551616 → Rounds Try.prog (lp Try.f50 0) (S157 n d U A B) (.exit 0) (S157 n d U ((Nat.gcd a b : Nat) : Int) 0) := by
  intro b
  induction b using Nat.strongRecOn with
  | _ b ih =>
    intro a A B hA hB hb
    by_cases h0 : b = 0
    · subst h0
      subst hA
      subst hB
      rw [Nat.gcd_zero_right]
      exact Rounds.out (at_ _ _ [ends (rfl : ((((0 : Nat) : Int)) != 0) = false)] (by kernel_rfl)) (by simp)
    · have hn : (B != 0) = true := by rw [bne_iff_ne]; omega
      have step := at_ (c := lp Try.f50 0) (p := S157 n d U A B) .normal (S157 n d U B (A.tmod B)) [ends hn, fact (show B ≠ 0 by omega)] (by kernel_rfl)
      have e : A.tmod B = ((a % b : Nat) : Int) := by rw [hA, hB]; rfl
      have := ih (a % b) (Nat.mod_lt _ (Nat.pos_of_ne_zero h0)) b B (A.tmod B) hB e (by have := Nat.mod_lt a (Nat.pos_of_ne_zero h0); omega)
      rw [show Nat.gcd a b = Nat.gcd b (a % b) by rw [Nat.gcd_comm a b, Nat.gcd_rec, Nat.gcd_comm]]
      exact this.step' step
theorem ra_mk (n : Int) (D : Nat) (hD : D ≠ 0) : rat (decide (n < 0)) (ofN (n.natAbs / Nat.gcd n.natAbs D)) (ofN (D / Nat.gcd n.natAbs D)) = ra (mkRat n D) := by
  have hg : Nat.gcd n.natAbs D ≠ 0 := fun e => hD (Nat.gcd_eq_zero_iff.1 e).2
  have hdv : ((D.gcd n.natAbs : Nat) : Int) ∣ n := Int.ofNat_dvd_left.2 (Nat.gcd_dvd_right _ _)
  have en : (mkRat n D).num.natAbs = n.natAbs / Nat.gcd n.natAbs D := by
    rw [Rat.num_mkRat, if_neg hD, Int.natAbs_ediv_of_dvd hdv, Int.natAbs_natCast, Nat.gcd_comm]
  have ed : (mkRat n D).den = D / Nat.gcd n.natAbs D := by rw [Rat.den_mkRat, if_neg hD, Nat.gcd_comm]
  have es : decide ((mkRat n D).num < 0) = decide (n < 0) := by
    rw [decide_eq_decide, Rat.num_mkRat, if_neg hD]
    have hp : (0 : Int) < ((D.gcd n.natAbs : Nat) : Int) := by rw [Nat.gcd_comm]; omega
    constructor
    · intro h
      by_cases hn : n < 0
      · exact hn
      · have h9 : 0 ≤ n / ((D.gcd n.natAbs : Nat) : Int) := Int.ediv_nonneg (by omega) (by omega)
        omega
    · intro h
      exact Int.ediv_neg_of_neg_of_pos h hp
  unfold ra ofZ
  simp only
  rw [es, en, ed]
theorem rTold (n d : Int) (h0 : -4611686018427387904 < n) (h1 : n < 4611686018427387904) (h2 : 0 < d) (h3 : d < 4611686018427387904) : Con Try.prog 50 [num n, num d] (.g (ra (mkRat n d.toNat))) := by
  have hD : d.toNat ≠ 0 := by omega
  have hg : Nat.gcd n.natAbs d.toNat ≠ 0 := fun e => hD (Nat.gcd_eq_zero_iff.1 e).2
  have ud : IntKind.u64.wrap d = (d.toNat : Int) := by rw [u64 (by omega) (by omega)]; omega
  have L2 : ∀ g : Nat, g ≠ 0 → IntKind.u64.wrap ((IntKind.u64.wrap d).tdiv (g : Int)) = ((d.toNat / g : Nat) : Int) := fun g hg => by
    have := Nat.div_le_self d.toNat g
    rw [ud, show ((d.toNat : Int)).tdiv (g : Int) = ((d.toNat / g : Nat) : Int) from rfl]
    generalize d.toNat / g = k at this ⊢
    exact u64 (by omega) (by omega)
  have L1 : ∀ (U : Int) (g : Nat), U = (n.natAbs : Int) → g ≠ 0 → IntKind.u64.wrap (U.tdiv (g : Int)) = ((n.natAbs / g : Nat) : Int) := fun U g hU hg => by
    have := Nat.div_le_self n.natAbs g
    rw [hU, show ((n.natAbs : Int)).tdiv (g : Int) = ((n.natAbs / g : Nat) : Int) from rfl]
    generalize n.natAbs / g = k at this ⊢
    exact u64 (by omega) (by omega)
  have q1 := Nat.div_le_self n.natAbs (Nat.gcd n.natAbs d.toNat)
  have q2 := Nat.div_le_self d.toNat (Nat.gcd n.natAbs d.toNat)
  have fin := congrArg AV.g (ra_mk n d.toNat hD)
  by_cases h : n < 0
  · have eu : IntKind.u64.wrap (0 - IntKind.u64.wrap n) = (n.natAbs : Int) := by rw [Int.zero_sub]; exact u64n (by omega) h
    exact (by_ (.g (rat (decide (n < 0)) (ofN (n.natAbs / Nat.gcd n.natAbs d.toNat)) (ofN (d.toNat / Nat.gcd n.natAbs d.toNat)))) Try.func50 rfl
      [ends (decide_eq_true h), goes (told_loop n d (IntKind.u64.wrap (0 - IntKind.u64.wrap n)) d.toNat n.natAbs (IntKind.u64.wrap (0 - IntKind.u64.wrap n)) (IntKind.u64.wrap d) eu ud (by omega)).loop,
       fact (show ((Nat.gcd n.natAbs d.toNat : Nat) : Int) ≠ 0 by omega), gives (rLimbs (L1 _ _ eu hg) (by omega)), fact (show ((Nat.gcd n.natAbs d.toNat : Nat) : Int) ≠ 0 by omega), gives (rLimbs (L2 _ hg) (by omega))] (by kernel_rfl)).to fin
  · have eu : IntKind.u64.wrap n = (n.natAbs : Int) := by rw [u64 (by omega) (by omega)]; omega
    exact (by_ (.g (rat (decide (n < 0)) (ofN (n.natAbs / Nat.gcd n.natAbs d.toNat)) (ofN (d.toNat / Nat.gcd n.natAbs d.toNat)))) Try.func50 rfl
      [ends (decide_eq_false h), goes (told_loop n d (IntKind.u64.wrap n) d.toNat n.natAbs (IntKind.u64.wrap n) (IntKind.u64.wrap d) eu ud (by omega)).loop,
       fact (show ((Nat.gcd n.natAbs d.toNat : Nat) : Int) ≠ 0 by omega), gives (rLimbs (L1 _ _ eu hg) (by omega)), fact (show ((Nat.gcd n.natAbs d.toNat : Nat) : Int) ≠ 0 by omega), gives (rLimbs (L2 _ hg) (by omega))] (by kernel_rfl)).to fin
def quickT (n d : Int) (ok : Bool) : AV := .tup [num n, num d, truth ok]
def Quick (b : Bool) (l d : List Int) : Prop := ∃ n m ok, Con Try.prog 48 [rat b l d] (quickT n m ok) ∧ (ok = true → -1073741824 < n ∧ n < 1073741824 ∧ 0 < m ∧ m < 1073741824 ∧ rv b l d = mkRat n m.toNat)
theorem at0 (x : Int) : (0 : Int) ≤ 0 ∧ ([x].map fun n => [AC.v (.int .u32 n)])[(0 : Int).toNat]? = some [.v (.int .u32 x)] := ⟨by omega, rfl⟩
theorem rQuick (b : Bool) (l d : List Int) (hl : lim l) (hd : lim d) (hll : l.length < 4000000000000000000) : Quick b l d := by
  match l, hl, hll with
  | x :: y :: r, hl, hll =>
    exact ⟨0, 0, false, by_ _ Try.func48 rfl [ends (show decide ((((x :: y :: r).length : Nat) : Int) > 1) = true by rw [decide_eq_true_iff]; simp only [List.length_cons]; omega), ends (rfl : true = true), ends (rfl : true = true), ends (rfl : true = true)] (by kernel_rfl), fun e => by cases e⟩
  | [], hl, hll =>
    match d, hd with
    | [], hd => exact ⟨0, 0, false, by_ _ Try.func48 rfl [ends (rfl : false = false), ends (rfl : true = true), ends (rfl : true = true), ends (rfl : true = true)] (by kernel_rfl), fun e => by cases e⟩
    | y :: z :: r, hd =>
      exact ⟨0, 0, false, by_ _ Try.func48 rfl [ends (rfl : false = false), ends (show ((((y :: z :: r).length : Nat) : Int) != 1) = true by rw [bne_iff_ne]; simp only [List.length_cons]; omega), ends (rfl : true = true), ends (rfl : true = true)] (by kernel_rfl), fun e => by cases e⟩
    | [y], hd =>
      have hy := hd y (by simp)
      by_cases h0 : y = 0
      · exact ⟨0, 0, false, by_ _ Try.func48 rfl [ends (rfl : false = false), ends (rfl : false = false), elem (at0 y), ends (show (y == 0) = true by simpa using h0), ends (rfl : true = true)] (by kernel_rfl), fun e => by cases e⟩
      · have e0 : (y == 0) = false := by simpa using h0
        by_cases h1 : y ≥ 1073741824
        · exact ⟨0, 0, false, by_ _ Try.func48 rfl [ends (rfl : false = false), ends (rfl : false = false), elem (at0 y), ends e0, elem (at0 y), ends (decide_eq_true h1)] (by kernel_rfl), fun e => by cases e⟩
        · have hw : IntKind.i64.wrap y = y := wr (by omega) (by omega)
          have hv : rv b [] [y] = mkRat 0 y.toNat := by
            unfold rv
            rw [show val [y] = y.toNat by rw [val_cons, val_nil]; omega]
            cases b <;> rfl
          cases b with
          | true =>
            refine ⟨IntKind.i64.wrap (0 - 0), IntKind.i64.wrap y, true, by_ _ Try.func48 rfl [ends (rfl : false = false), ends (rfl : false = false), elem (at0 y), ends e0, elem (at0 y), ends (decide_eq_false h1), ends (rfl : false = false), ends (rfl : false = false), ends (rfl : true = true), elem (at0 y)] (by kernel_rfl), fun _ => ?_⟩
            rw [hw, hv]
            exact ⟨by decide, by decide, by omega, by omega, rfl⟩
          | false =>
            refine ⟨0, IntKind.i64.wrap y, true, by_ _ Try.func48 rfl [ends (rfl : false = false), ends (rfl : false = false), elem (at0 y), ends e0, elem (at0 y), ends (decide_eq_false h1), ends (rfl : false = false), ends (rfl : false = false), ends (rfl : false = false), elem (at0 y)] (by kernel_rfl), fun _ => ?_⟩
            rw [hw, hv]
            exact ⟨by decide, by decide, by omega, by omega, rfl⟩
  | [x], hl, hll =>
    have hx := hl x (by simp)
    match d, hd with
    | [], hd => exact ⟨0, 0, false, by_ _ Try.func48 rfl [ends (rfl : false = false), ends (rfl : true = true), ends (rfl : true = true), ends (rfl : true = true)] (by kernel_rfl), fun e => by cases e⟩
    | y :: z :: r, hd =>
      exact ⟨0, 0, false, by_ _ Try.func48 rfl [ends (rfl : false = false), ends (show ((((y :: z :: r).length : Nat) : Int) != 1) = true by rw [bne_iff_ne]; simp only [List.length_cons]; omega), ends (rfl : true = true), ends (rfl : true = true)] (by kernel_rfl), fun e => by cases e⟩
    | [y], hd =>
      have hy := hd y (by simp)
      by_cases h0 : y = 0
      · exact ⟨0, 0, false, by_ _ Try.func48 rfl [ends (rfl : false = false), ends (rfl : false = false), elem (at0 y), ends (show (y == 0) = true by simpa using h0), ends (rfl : true = true)] (by kernel_rfl), fun e => by cases e⟩
      · have e0 : (y == 0) = false := by simpa using h0
        by_cases h1 : y ≥ 1073741824
        · exact ⟨0, 0, false, by_ _ Try.func48 rfl [ends (rfl : false = false), ends (rfl : false = false), elem (at0 y), ends e0, elem (at0 y), ends (decide_eq_true h1)] (by kernel_rfl), fun e => by cases e⟩
        · have hw : IntKind.i64.wrap y = y := wr (by omega) (by omega)
          have hwx : IntKind.i64.wrap x = x := wr (by omega) (by omega)
          by_cases h2 : IntKind.i64.wrap x ≥ 1073741824
          · exact ⟨0, 0, false, by_ _ Try.func48 rfl [ends (rfl : false = false), ends (rfl : false = false), elem (at0 y), ends e0, elem (at0 y), ends (decide_eq_false h1), ends (rfl : true = true), elem (at0 x), ends (decide_eq_true h2)] (by kernel_rfl), fun e => by cases e⟩
          · have hvy : val [y] = y.toNat := by rw [val_cons, val_nil]; omega
            have hvx : (val [x] : Int) = x := by rw [val_cons, val_nil]; omega
            cases b with
            | true =>
              refine ⟨IntKind.i64.wrap (0 - IntKind.i64.wrap x), IntKind.i64.wrap y, true, by_ _ Try.func48 rfl [ends (rfl : false = false), ends (rfl : false = false), elem (at0 y), ends e0, elem (at0 y), ends (decide_eq_false h1), ends (rfl : true = true), elem (at0 x), ends (decide_eq_false h2), ends (rfl : true = true), elem (at0 y)] (by kernel_rfl), fun _ => ?_⟩
              rw [hwx] at h2 ⊢
              rw [hw, wr (by omega) (by omega)]
              refine ⟨by omega, by omega, by omega, by omega, ?_⟩
              unfold rv zval
              rw [hvy, hvx, Int.zero_sub]
              rfl
            | false =>
              refine ⟨IntKind.i64.wrap x, IntKind.i64.wrap y, true, by_ _ Try.func48 rfl [ends (rfl : false = false), ends (rfl : false = false), elem (at0 y), ends e0, elem (at0 y), ends (decide_eq_false h1), ends (rfl : true = true), elem (at0 x), ends (decide_eq_false h2), ends (rfl : false = false), elem (at0 y)] (by kernel_rfl), fun _ => ?_⟩
              rw [hwx] at h2 ⊢
              rw [hw]
              refine ⟨by omega, by omega, by omega, by omega, ?_⟩
              unfold rv zval
              rw [hvy, hvx]
              rfl
end
section
theorem rNorm (b : Bool) (l d : List Int) (hl : few 15000 l) (hd : few 15000 d) : Con Try.prog 25 [rat b l d] (.g (ra (rv b l d))) := by
  obtain ⟨n, m, ok, Q, hq⟩ := rQuick b l d hl.1 hd.1 (by have := hl.2; omega)
  cases ok with
  | true =>
    obtain ⟨h1, h2, h3, h4, h5⟩ := hq rfl
    rw [h5]
    exact by_ _ Try.func25 rfl [gives Q, ends (rfl : true = true), gives (rTold n m (by omega) (by omega) h3 (by omega))] (by kernel_rfl)
  | false =>
    have N := jNorm b l (few_up hl (by decide))
    have hz : (ofN (zval b l).natAbs).length ≤ 15000 := few_zval hl
    have hD : (ofN (val d)).length ≤ 15000 := Nat.le_trans (len_val_le hd.1) hd.2
    have T := foliotref01_Trim.con d _ (if_pos (rf (few_up hd (by decide))))
    unfold rv
    generalize zval b l = z at *
    generalize val d = D at *
    by_cases h0 : D = 0
    · subst h0
      rw [Rat.mkRat_zero]
      exact by_ _ Try.func25 rfl [gives Q, ends (rfl : false = false), gives N, gives T, ends (rfl : ((((ofN 0).length : Nat) : Int) == 0) = true)] (by kernel_rfl)
    · have hg : Nat.gcd z.natAbs D ≠ 0 := fun e => h0 (Nat.gcd_eq_zero_iff.1 e).2
      have hgl : (ofN (Nat.gcd z.natAbs D)).length ≤ 15000 := Nat.le_trans (len_mono (Nat.gcd_le_right _ (Nat.pos_of_ne_zero h0))) hD
      have fz := rf (few_zi (z := z) (by omega))
      have fD := rf (few_ofN (n := D) (by omega))
      have fg := rf (few_ofN (n := Nat.gcd z.natAbs D) (by omega))
      have G := foliotref01_Gcd.con (ofZ z).2 (ofN D) _ (if_pos ⟨fz, fD⟩)
      rw [val_zi, val_ofN] at G
      have e1 : foliotref01_Div.f (ofZ z).2 (ofN (Nat.gcd z.natAbs D)) = some (ofN (z.natAbs / Nat.gcd z.natAbs D), ofN (z.natAbs % Nat.gcd z.natAbs D), 0) := by
        unfold foliotref01_Div.f Nb.divided; rw [if_pos ⟨fz, fg⟩, val_zi, val_ofN, if_neg hg]
      have e2 : foliotref01_Div.f (ofN D) (ofN (Nat.gcd z.natAbs D)) = some (ofN (D / Nat.gcd z.natAbs D), ofN (D % Nat.gcd z.natAbs D), 0) := by
        unfold foliotref01_Div.f Nb.divided; rw [if_pos ⟨fD, fg⟩, val_ofN, val_ofN, if_neg hg]
      rw [← ra_mk z D h0]
      exact by_ _ Try.func25 rfl [gives Q, ends (rfl : false = false), gives N, gives T, ends (show ((((ofN D).length : Nat) : Int) == 0) = false by
        rw [beq_eq_false_iff_ne]; have := len_pos' h0; omega), gives G, gives (foliotref01_Div.con _ _ _ _ _ e1), gives (foliotref01_Div.con _ _ _ _ _ e2)] (by kernel_rfl)
theorem rMake (b : Bool) (l : List Int) (c : Bool) (m : List Int) (hl : few 10000 l) (hm : few 10000 m) : Con Try.prog 71 [int b l, int c m] (makeT (zval b l) (zval c m)) := by
  have S := jSign c m (few_up hm (by decide))
  have hv : val m = (zval c m).natAbs := (abs_zval c m).symm
  unfold makeT
  by_cases h0 : zval c m = 0
  · rw [h0] at S
    rw [if_pos h0]
    exact by_ _ Try.func71 rfl [gives S, ends (rfl : (sgn 0 == 0) = true)] (by kernel_rfl)
  · rw [if_neg h0]
    have hs : (sgn (zval c m) == 0) = false := by
      rw [beq_eq_false_iff_ne]; unfold sgn; repeat' split
      all_goals omega
    cases c with
    | true =>
      have N := rNorm (ofZ (-zval b l)).1 (ofZ (-zval b l)).2 m (few_ofZ (by rw [Int.natAbs_neg]; exact Nat.le_trans (few_zval hl) (by decide))) (few_up hm (by decide))
      have e : rv (ofZ (-zval b l)).1 (ofZ (-zval b l)).2 m = Rat.divInt (zval b l) (zval true m) := by
        unfold rv
        rw [zval_ofZ, ← Rat.divInt_ofNat]
        show _ = Rat.divInt _ (-(val m : Int))
        rw [Rat.divInt_neg']
      rw [e] at N
      exact by_ _ Try.func71 rfl [gives S, ends hs, ends (rfl : true = true), gives (jNeg b l (few_up hl (by decide))), gives N] (by kernel_rfl)
    | false =>
      have N := rNorm b l m (few_up hl (by decide)) (few_up hm (by decide))
      have e : rv b l m = Rat.divInt (zval b l) (zval false m) := by
        unfold rv
        rw [← Rat.divInt_ofNat]
        rfl
      rw [e] at N
      exact by_ _ Try.func71 rfl [gives S, ends hs, ends (rfl : false = false), gives N] (by kernel_rfl)
theorem rDen (b : Bool) (l d : List Int) : Con Try.prog 53 [rat b l d] (.g (int false d)) := by_ _ Try.func53 rfl [] (by kernel_rfl)
theorem zval_den (n : Nat) : zval false (ofN n) = (n : Int) := by rw [zval_ofN]; rfl
section
variable {x y : Rat}
theorem rtT (hx : short 2000 x) (hy : short 2000 y) : Con Try.prog 52 [zi x.num, int false (ofN y.den)] (.g (zi (x.num * (y.den : Int)))) ∧ few 20000 (ofZ (x.num * (y.den : Int))).2 := by
  have T := jMul (ofZ x.num).1 (ofZ x.num).2 false (ofN y.den) (few_up hx.num (by decide)) (few_up hy.den (by decide))
  rw [zval_ofZ, zval_den] at T
  have h2 := @len_natAbs_mul x.num (y.den : Int)
  have h3 := hx.1
  have h4 := hy.2
  simp only [Int.natAbs_natCast] at h2
  exact ⟨T, few_ofZ (by omega)⟩
theorem rdD (hx : short 2000 x) (hy : short 2000 y) : Con Try.prog 54 [.one (limbs (ofN x.den)), .one (limbs (ofN y.den))] (.g (.one (limbs (ofN (x.den * y.den))))) ∧ few 15000 (ofN (x.den * y.den)) := by
  have M := foliotref01_Mul.con (ofN x.den) (ofN y.den) _ (if_pos ⟨rf (few_up hx.den (by decide)), rf (few_up hy.den (by decide))⟩)
  rw [val_ofN, val_ofN] at M
  have := len_mul x.den y.den
  have := hx.2
  have := hy.2
  exact ⟨M, ⟨lim_ofN _, by omega⟩⟩
end
theorem zjAdd {x y : Int} (hx : few 20000 (ofZ x).2) (hy : few 20000 (ofZ y).2) : Con Try.prog 51 [zi x, zi y] (.g (zi (x + y))) := by
  have A := jAdd (ofZ x).1 (ofZ x).2 (ofZ y).1 (ofZ y).2 hx hy
  rw [zval_ofZ, zval_ofZ] at A
  exact A
theorem rv_zi (z : Int) (n : Nat) : rv (ofZ z).1 (ofZ z).2 (ofN n) = mkRat z n := by unfold rv; rw [zval_ofZ, val_ofN]
theorem mulw {a b : Int} (h1 : -1073741824 < a) (h2 : a < 1073741824) (h3 : -1073741824 < b) (h4 : b < 1073741824) : IntKind.i64.wrap (a * b) = a * b ∧ -1152921504606846976 < a * b ∧ a * b < 1152921504606846976 := by
  have h : (a * b).natAbs ≤ 1073741823 * 1073741823 := by
    rw [Int.natAbs_mul]
    exact Nat.mul_le_mul (by omega) (by omega)
  exact ⟨wr (by omega) (by omega), by omega, by omega⟩
section
variable (b : Bool) (l d : List Int) (c : Bool) (m e : List Int)
theorem rAdd (hl : few 2000 l) (hd : few 2000 d) (hm : few 2000 m) (he : few 2000 e) : Con Try.prog 24 [rat b l d, rat c m e] (.g (ra (rv b l d + rv c m e))) := by
  have N1 := rNorm b l d (few_up hl (by decide)) (few_up hd (by decide))
  have N2 := rNorm c m e (few_up hm (by decide)) (few_up he (by decide))
  obtain ⟨n1, m1, ok1, Q1, q1⟩ := rQuick b l d hl.1 hd.1 (by have := hl.2; omega)
  obtain ⟨n2, m2, ok2, Q2, q2⟩ := rQuick c m e hm.1 he.1 (by have := hm.2; omega)
  have hx := short_rv (b := b) hl hd (by decide)
  have hy := short_rv (b := c) hm he (by decide)
  generalize rv b l d = x at *
  generalize rv c m e = y at *
  have A := zjAdd (rtT hx hy).2 (rtT hy hx).2
  have h1 := @len_natAbs_add (x.num * y.den) (y.num * x.den)
  have h2 := @len_natAbs_mul x.num (y.den : Int)
  have h3 := @len_natAbs_mul y.num (x.den : Int)
  have := hx.1; have := hx.2; have := hy.1; have := hy.2
  simp only [Int.natAbs_natCast] at h2 h3
  have L := rNorm (ofZ (x.num * (y.den : Int) + y.num * (x.den : Int))).1 _ _ (few_ofZ (z := x.num * (y.den : Int) + y.num * (x.den : Int)) (by omega)) (rdD hx hy).2
  rw [rv_zi, ← Rat.add_def'] at L
  cases ok1 <;> cases ok2
  · exact by_ _ Try.func24 rfl [gives Q1, gives Q2, ends (rfl : false = false), ends (rfl : false = false), gives N1, gives N2, gives (rDen (ofZ y.num).1 (ofZ y.num).2 (ofN y.den)), gives (rtT hx hy).1, gives (rDen (ofZ x.num).1 (ofZ x.num).2 (ofN x.den)), gives (rtT hy hx).1, gives A, gives (rdD hx hy).1, gives L] (by kernel_rfl)
  · exact by_ _ Try.func24 rfl [gives Q1, gives Q2, ends (rfl : false = false), ends (rfl : false = false), gives N1, gives N2, gives (rDen (ofZ y.num).1 (ofZ y.num).2 (ofN y.den)), gives (rtT hx hy).1, gives (rDen (ofZ x.num).1 (ofZ x.num).2 (ofN x.den)), gives (rtT hy hx).1, gives A, gives (rdD hx hy).1, gives L] (by kernel_rfl)
  · exact by_ _ Try.func24 rfl [gives Q1, gives Q2, ends (rfl : true = true), ends (rfl : false = false), gives N1, gives N2, gives (rDen (ofZ y.num).1 (ofZ y.num).2 (ofN y.den)), gives (rtT hx hy).1, gives (rDen (ofZ x.num).1 (ofZ x.num).2 (ofN x.den)), gives (rtT hy hx).1, gives A, gives (rdD hx hy).1, gives L] (by kernel_rfl)
  · obtain ⟨a1, a2, a3, a4, a5⟩ := q1 rfl
    obtain ⟨b1, b2, b3, b4, b5⟩ := q2 rfl
    have w1 := mulw a1 a2 (show -1073741824 < m2 by omega) b4
    have w2 := mulw b1 b2 (show -1073741824 < m1 by omega) a4
    have w3 := mulw (show -1073741824 < m1 by omega) a4 (show -1073741824 < m2 by omega) b4
    have wp : 0 < m1 * m2 := Int.mul_pos a3 b3
    have es : IntKind.i64.wrap (IntKind.i64.wrap (n1 * m2) + IntKind.i64.wrap (n2 * m1)) = n1 * m2 + n2 * m1 := by rw [w1.1, w2.1]; exact wr (by omega) (by omega)
    have K := rTold (IntKind.i64.wrap (IntKind.i64.wrap (n1 * m2) + IntKind.i64.wrap (n2 * m1))) (IntKind.i64.wrap (m1 * m2)) (by rw [es]; omega) (by rw [es]; omega) (by rw [w3.1]; exact wp) (by rw [w3.1]; omega)
    have ex : mkRat (IntKind.i64.wrap (IntKind.i64.wrap (n1 * m2) + IntKind.i64.wrap (n2 * m1))) (IntKind.i64.wrap (m1 * m2)).toNat = x + y := by
      rw [es, w3.1, a5, b5, Rat.mkRat_add_mkRat _ _ (by omega) (by omega), Int.toNat_mul (by omega) (by omega), Int.toNat_of_nonneg (by omega), Int.toNat_of_nonneg (by omega)]
    rw [ex] at K
    exact by_ _ Try.func24 rfl [gives Q1, gives Q2, ends (rfl : true = true), ends (rfl : true = true), gives K] (by kernel_rfl)
theorem rNeg (hl : few 2000 l) (hd : few 2000 d) : Con Try.prog 41 [rat b l d] (.g (ra (-rv b l d))) := by
  have N1 := rNorm b l d (few_up hl (by decide)) (few_up hd (by decide))
  generalize rv b l d = x at *
  by_cases h : x.num < 0
  · refine (by_ (.g (rat false (ofN x.num.natAbs) (ofN x.den))) Try.func41 rfl [gives N1, ends (show (!decide (x.num < 0)) = false by rw [decide_eq_true h]; rfl)] (by kernel_rfl)).to ?_
    rw [ra_neg]
    unfold ofZ
    rw [decide_eq_false (show ¬ -x.num < 0 by omega), Int.natAbs_neg]
    rfl
  · refine (by_ (.g (rat (decide ((((ofN x.num.natAbs).length : Nat) : Int) > 0)) (ofN x.num.natAbs) (ofN x.den))) Try.func41 rfl [gives N1, ends (show (!decide (x.num < 0)) = true by rw [decide_eq_false h]; rfl)] (by kernel_rfl)).to ?_
    rw [ra_neg, len_pos]
    unfold ofZ
    rw [Int.natAbs_neg, show decide (x.num.natAbs ≠ 0) = decide (-x.num < 0) by rw [decide_eq_decide]; omega]
    rfl
theorem rSub (hl : few 2000 l) (hd : few 2000 d) (hm : few 2000 m) (he : few 2000 e) : Con Try.prog 49 [rat b l d, rat c m e] (.g (ra (rv b l d - rv c m e))) := by
  have G := rNeg c m e hm he
  have hy := short_neg (short_rv (b := c) hm he (by decide))
  have A := rAdd b l d (ofZ (-rv c m e).num).1 (ofZ (-rv c m e).num).2 (ofN (-rv c m e).den) hl hd hy.num hy.den
  rw [rv_told, ← Rat.sub_eq_add_neg] at A
  exact by_ _ Try.func49 rfl [gives G, gives A] (by kernel_rfl)
theorem rMul (hl : few 2000 l) (hd : few 2000 d) (hm : few 2000 m) (he : few 2000 e) : Con Try.prog 46 [rat b l d, rat c m e] (.g (ra (rv b l d * rv c m e))) := by
  have N1 := rNorm b l d (few_up hl (by decide)) (few_up hd (by decide))
  have N2 := rNorm c m e (few_up hm (by decide)) (few_up he (by decide))
  obtain ⟨n1, m1, ok1, Q1, q1⟩ := rQuick b l d hl.1 hd.1 (by have := hl.2; omega)
  obtain ⟨n2, m2, ok2, Q2, q2⟩ := rQuick c m e hm.1 he.1 (by have := hm.2; omega)
  have hx := short_rv (b := b) hl hd (by decide)
  have hy := short_rv (b := c) hm he (by decide)
  generalize rv b l d = x at *
  generalize rv c m e = y at *
  have M := jMul (ofZ x.num).1 (ofZ x.num).2 (ofZ y.num).1 (ofZ y.num).2 (few_up hx.num (by decide)) (few_up hy.num (by decide))
  rw [zval_ofZ, zval_ofZ] at M
  have h2 := @len_natAbs_mul x.num y.num
  have := hx.1; have := hy.1
  have L := rNorm (ofZ (x.num * y.num)).1 _ _ (few_ofZ (z := x.num * y.num) (by omega)) (rdD hx hy).2
  rw [rv_zi, ← Rat.mul_def'] at L
  cases ok1 <;> cases ok2
  · exact by_ _ Try.func46 rfl [gives Q1, gives Q2, ends (rfl : false = false), ends (rfl : false = false), gives N1, gives N2, gives M, gives (rdD hx hy).1, gives L] (by kernel_rfl)
  · exact by_ _ Try.func46 rfl [gives Q1, gives Q2, ends (rfl : false = false), ends (rfl : false = false), gives N1, gives N2, gives M, gives (rdD hx hy).1, gives L] (by kernel_rfl)
  · exact by_ _ Try.func46 rfl [gives Q1, gives Q2, ends (rfl : true = true), ends (rfl : false = false), gives N1, gives N2, gives M, gives (rdD hx hy).1, gives L] (by kernel_rfl)
  · obtain ⟨a1, a2, a3, a4, a5⟩ := q1 rfl
    obtain ⟨b1, b2, b3, b4, b5⟩ := q2 rfl
    have w1 := mulw a1 a2 b1 b2
    have w3 := mulw (show -1073741824 < m1 by omega) a4 (show -1073741824 < m2 by omega) b4
    have wp : 0 < m1 * m2 := Int.mul_pos a3 b3
    have K := rTold (IntKind.i64.wrap (n1 * n2)) (IntKind.i64.wrap (m1 * m2)) (by rw [w1.1]; omega) (by rw [w1.1]; omega) (by rw [w3.1]; exact wp) (by rw [w3.1]; omega)
    have ex : mkRat (IntKind.i64.wrap (n1 * n2)) (IntKind.i64.wrap (m1 * m2)).toNat = x * y := by
      rw [w1.1, w3.1, a5, b5, Rat.mkRat_mul_mkRat, Int.toNat_mul (by omega) (by omega)]
    rw [ex] at K
    exact by_ _ Try.func46 rfl [gives Q1, gives Q2, ends (rfl : true = true), ends (rfl : true = true), gives K] (by kernel_rfl)
theorem rDiv (hl : few 2000 l) (hd : few 2000 d) (hm : few 2000 m) (he : few 2000 e) : Con Try.prog 40 [rat b l d, rat c m e] (divR (rv b l d) (rv c m e)) := by
  have N1 := rNorm b l d (few_up hl (by decide)) (few_up hd (by decide))
  have N2 := rNorm c m e (few_up hm (by decide)) (few_up he (by decide))
  obtain ⟨n1, m1, ok1, Q1, q1⟩ := rQuick b l d hl.1 hd.1 (by have := hl.2; omega)
  obtain ⟨n2, m2, ok2, Q2, q2⟩ := rQuick c m e hm.1 he.1 (by have := hm.2; omega)
  have hx := short_rv (b := b) hl hd (by decide)
  have hy := short_rv (b := c) hm he (by decide)
  generalize rv b l d = x at *
  generalize rv c m e = y at *
  have M := jMul false (ofN x.den) (ofZ y.num).1 (ofZ y.num).2 (few_up hx.den (by decide)) (few_up hy.num (by decide))
  rw [zval_ofZ, zval_den, Int.mul_comm] at M
  have h2 := @len_natAbs_mul x.num (y.den : Int)
  have h3 := @len_natAbs_mul y.num (x.den : Int)
  have := hx.1; have := hx.2; have := hy.1; have := hy.2
  simp only [Int.natAbs_natCast] at h2 h3
  have K := rMake (ofZ (x.num * (y.den : Int))).1 (ofZ (x.num * (y.den : Int))).2 (ofZ (y.num * (x.den : Int))).1 (ofZ (y.num * (x.den : Int))).2 (few_ofZ (by omega)) (few_ofZ (by omega))
  rw [zval_ofZ, zval_ofZ, makeT_div] at K
  have whole : divR x y = .tup [rat false [] [], num 3] ∨ divR x y = .tup [ra (x / y), num 0] := by
    unfold divR; split
    · exact .inl rfl
    · exact .inr rfl
  cases ok1 <;> cases ok2
  · rcases whole with W | W <;> rw [W] at K ⊢ <;> exact by_ _ Try.func40 rfl [gives Q1, gives Q2, ends (rfl : false = false), ends (rfl : false = false), ends (rfl : false = false), ends (rfl : false = false), ends (rfl : false = false), ends (rfl : false = false), gives N1, gives N2, gives (rDen (ofZ y.num).1 (ofZ y.num).2 (ofN y.den)), gives (rtT hx hy).1, gives (rDen (ofZ x.num).1 (ofZ x.num).2 (ofN x.den)), gives M, gives K] (by kernel_rfl)
  · rcases whole with W | W <;> rw [W] at K ⊢ <;> exact by_ _ Try.func40 rfl [gives Q1, gives Q2, ends (rfl : false = false), ends (rfl : false = false), ends (rfl : false = false), ends (rfl : false = false), ends (rfl : false = false), ends (rfl : false = false), gives N1, gives N2, gives (rDen (ofZ y.num).1 (ofZ y.num).2 (ofN y.den)), gives (rtT hx hy).1, gives (rDen (ofZ x.num).1 (ofZ x.num).2 (ofN x.den)), gives M, gives K] (by kernel_rfl)
  · rcases whole with W | W <;> rw [W] at K ⊢ <;> exact by_ _ Try.func40 rfl [gives Q1, gives Q2, ends (rfl : true = true), ends (rfl : false = false), ends (rfl : false = false), ends (rfl : true = true), ends (rfl : false = false), ends (rfl : false = false), gives N1, gives N2, gives (rDen (ofZ y.num).1 (ofZ y.num).2 (ofN y.den)), gives (rtT hx hy).1, gives (rDen (ofZ x.num).1 (ofZ x.num).2 (ofN x.den)), gives M, gives K] (by kernel_rfl)
  · obtain ⟨a1, a2, a3, a4, a5⟩ := q1 rfl
    obtain ⟨b1, b2, b3, b4, b5⟩ := q2 rfl
    have dy : y = Rat.divInt n2 m2 := by rw [b5, ← Rat.divInt_ofNat, Int.toNat_of_nonneg (by omega)]
    have dx : x = Rat.divInt n1 m1 := by rw [a5, ← Rat.divInt_ofNat, Int.toNat_of_nonneg (by omega)]
    have dq : x / y = Rat.divInt (n1 * m2) (m1 * n2) := by rw [Rat.div_def, dx, dy, Rat.inv_divInt, Rat.divInt_mul_divInt]
    have y0 : y = 0 ↔ n2 = 0 := by rw [b5]; exact Rat.mkRat_eq_zero (by omega)
    by_cases hp : n2 > 0
    · have w1 := mulw a1 a2 (show -1073741824 < m2 by omega) b4
      have w3 := mulw (show -1073741824 < m1 by omega) a4 b1 b2
      have wp : 0 < m1 * n2 := Int.mul_pos a3 hp
      have K := rTold (IntKind.i64.wrap (n1 * m2)) (IntKind.i64.wrap (m1 * n2)) (by rw [w1.1]; omega) (by rw [w1.1]; omega) (by rw [w3.1]; exact wp) (by rw [w3.1]; omega)
      have ex : mkRat (IntKind.i64.wrap (n1 * m2)) (IntKind.i64.wrap (m1 * n2)).toNat = x / y := by
        rw [w1.1, w3.1, dq, ← Rat.divInt_ofNat, Int.toNat_of_nonneg (by omega)]
      rw [ex] at K
      unfold divR
      rw [if_neg (fun h => by have := y0.1 h; omega)]
      exact by_ _ Try.func40 rfl [gives Q1, gives Q2, ends (rfl : true = true), ends (rfl : true = true), ends (decide_eq_true hp), gives K] (by kernel_rfl)
    · by_cases hn : n2 < 0
      · have i1 : IntKind.i64.wrap (0 - n1) = -n1 := by rw [wr (by omega) (by omega)]; omega
        have i2 : IntKind.i64.wrap (0 - m1) = -m1 := by rw [wr (by omega) (by omega)]; omega
        have w1 := mulw (show -1073741824 < -n1 by omega) (by omega) (show -1073741824 < m2 by omega) b4
        have w3 := mulw (show -1073741824 < -m1 by omega) (by omega) b1 b2
        have wp : 0 < -m1 * n2 := by have := Int.mul_pos a3 (show 0 < -n2 by omega); rw [Int.mul_neg] at this; rw [Int.neg_mul]; exact this
        have e1 : IntKind.i64.wrap (IntKind.i64.wrap (0 - n1) * m2) = -n1 * m2 := by rw [i1]; exact w1.1
        have e3 : IntKind.i64.wrap (IntKind.i64.wrap (0 - m1) * n2) = -m1 * n2 := by rw [i2]; exact w3.1
        have K := rTold (IntKind.i64.wrap (IntKind.i64.wrap (0 - n1) * m2)) (IntKind.i64.wrap (IntKind.i64.wrap (0 - m1) * n2)) (by rw [e1]; omega) (by rw [e1]; omega) (by rw [e3]; exact wp) (by rw [e3]; omega)
        have ex : mkRat (IntKind.i64.wrap (IntKind.i64.wrap (0 - n1) * m2)) (IntKind.i64.wrap (IntKind.i64.wrap (0 - m1) * n2)).toNat = x / y := by
          rw [e1, e3, dq, ← Rat.divInt_ofNat, Int.toNat_of_nonneg (by omega), Int.neg_mul, Int.neg_mul, Rat.neg_divInt_neg]
        rw [ex] at K
        unfold divR
        rw [if_neg (fun h => by have := y0.1 h; omega)]
        exact by_ _ Try.func40 rfl [gives Q1, gives Q2, ends (rfl : true = true), ends (rfl : true = true), ends (decide_eq_false hp), ends (rfl : true = true), ends (rfl : true = true), ends (decide_eq_true hn), gives K] (by kernel_rfl)
      · rcases whole with W | W <;> rw [W] at K ⊢ <;> exact by_ _ Try.func40 rfl [gives Q1, gives Q2, ends (rfl : true = true), ends (rfl : true = true), ends (decide_eq_false hp), ends (rfl : true = true), ends (rfl : true = true), ends (decide_eq_false hn), gives N1, gives N2, gives (rDen (ofZ y.num).1 (ofZ y.num).2 (ofN y.den)), gives (rtT hx hy).1, gives (rDen (ofZ x.num).1 (ofZ x.num).2 (ofN x.den)), gives M, gives K] (by kernel_rfl)
theorem rSign (hl : few 2000 l) (hd : few 2000 d) : Con Try.prog 22 [rat b l d] (.g (num (sgn (rv b l d).num))) := by
  have N1 := rNorm b l d (few_up hl (by decide)) (few_up hd (by decide))
  generalize rv b l d = x at *
  have hp := len_ofZ_pos x.num
  have e : (ofZ x.num).2.length = (ofN x.num.natAbs).length := rfl
  unfold sgn
  by_cases h0 : x.num = 0
  · rw [if_neg (by omega), if_neg (by omega)]
    exact by_ _ Try.func22 rfl [gives N1, ends (show ((((ofN x.num.natAbs).length : Nat) : Int) == 0) = true by rw [h0]; rfl)] (by kernel_rfl)
  · have := hp.2 h0
    have hz : ((((ofN x.num.natAbs).length : Nat) : Int) == 0) = false := by rw [beq_eq_false_iff_ne]; omega
    by_cases h1 : x.num < 0
    · rw [if_pos h1]
      exact by_ _ Try.func22 rfl [gives N1, ends hz, ends (decide_eq_true h1)] (by kernel_rfl)
    · rw [if_neg h1, if_pos (by omega)]
      exact by_ _ Try.func22 rfl [gives N1, ends hz, ends (decide_eq_false h1)] (by kernel_rfl)
theorem sgn_sub (x y : Rat) : sgn (x - y).num = cmpR x y := by
  unfold sgn cmpR
  have h1 : (x - y).num < 0 ↔ x < y := by
    rw [← Rat.not_le, Rat.le_iff_sub_nonneg, ← Rat.num_nonneg]; omega
  have h2 : 0 < (x - y).num ↔ y < x := by
    rw [Rat.lt_iff_sub_pos, Rat.lt_iff_le_and_ne, ← Rat.num_nonneg]
    have := @Rat.num_eq_zero (x - y)
    constructor
    · intro h; exact ⟨by omega, fun e => by rw [← e] at h; exact absurd h (by decide)⟩
    · rintro ⟨h, hne⟩
      have : (x - y).num ≠ 0 := fun e => hne ((Rat.num_eq_zero.1 e).symm)
      omega
  simp only [h1, h2]
theorem rCmp (hl : few 2000 l) (hd : few 2000 d) (hm : few 2000 m) (he : few 2000 e) : Con Try.prog 23 [rat b l d, rat c m e] (.g (num (cmpR (rv b l d) (rv c m e)))) := by
  have D := rSub b l d c m e hl hd hm he
  obtain ⟨n1, m1, ok1, Q1, q1⟩ := rQuick b l d hl.1 hd.1 (by have := hl.2; omega)
  obtain ⟨n2, m2, ok2, Q2, q2⟩ := rQuick c m e hm.1 he.1 (by have := hm.2; omega)
  have hx := short_rv (b := b) (k := 2000) hl hd (by decide)
  have hy := short_rv (b := c) (k := 2000) hm he (by decide)
  generalize rv b l d = x at *
  generalize rv c m e = y at *
  have hs := short_sub hx hy
  have N := rNorm (ofZ (x - y).num).1 (ofZ (x - y).num).2 (ofN (x - y).den) (few_up hs.num (by decide)) (few_up hs.den (by decide))
  rw [rv_told] at N
  have S : Con Try.prog 22 [ra (x - y)] (.g (num (cmpR x y))) := by
    rw [← sgn_sub]
    generalize x - y = z at *
    have hp := len_ofZ_pos z.num
    have e : (ofZ z.num).2.length = (ofN z.num.natAbs).length := rfl
    unfold sgn
    by_cases h0 : z.num = 0
    · rw [if_neg (by omega), if_neg (by omega)]
      exact by_ _ Try.func22 rfl [gives N, ends (show ((((ofN z.num.natAbs).length : Nat) : Int) == 0) = true by rw [h0]; rfl)] (by kernel_rfl)
    · have := hp.2 h0
      have hz : ((((ofN z.num.natAbs).length : Nat) : Int) == 0) = false := by rw [beq_eq_false_iff_ne]; omega
      by_cases h1 : z.num < 0
      · rw [if_pos h1]
        exact by_ _ Try.func22 rfl [gives N, ends hz, ends (decide_eq_true h1)] (by kernel_rfl)
      · rw [if_neg h1, if_pos (by omega)]
        exact by_ _ Try.func22 rfl [gives N, ends hz, ends (decide_eq_false h1)] (by kernel_rfl)
  cases ok1 <;> cases ok2
  · exact by_ _ Try.func23 rfl [gives Q1, gives Q2, ends (rfl : (!false) = true), ends (rfl : true = true), gives D, gives S] (by kernel_rfl)
  · exact by_ _ Try.func23 rfl [gives Q1, gives Q2, ends (rfl : (!false) = true), ends (rfl : true = true), gives D, gives S] (by kernel_rfl)
  · exact by_ _ Try.func23 rfl [gives Q1, gives Q2, ends (rfl : (!true) = false), ends (rfl : (!false) = true), gives D, gives S] (by kernel_rfl)
  · obtain ⟨a1, a2, a3, a4, a5⟩ := q1 rfl
    obtain ⟨b1, b2, b3, b4, b5⟩ := q2 rfl
    have w1 := mulw a1 a2 (show -1073741824 < m2 by omega) b4
    have w2 := mulw b1 b2 (show -1073741824 < m1 by omega) a4
    have lt : ∀ {n m : Int} {p q : Int}, 0 < m → 0 < q → (mkRat n m.toNat < mkRat p q.toNat ↔ n * q < p * m) := fun {n m p q} hm hq => by
      rw [← Rat.divInt_ofNat, ← Rat.divInt_ofNat, Int.toNat_of_nonneg (by omega), Int.toNat_of_nonneg (by omega), ← Rat.not_le, Rat.le_iff_sub_nonneg, Rat.divInt_sub_divInt _ _ (by omega) (by omega), Rat.divInt_nonneg_iff_of_pos_right (Int.mul_pos hm hq)]
      omega
    have l1 := lt (n := n1) (p := n2) a3 b3
    have l2 := lt (n := n2) (p := n1) b3 a3
    rw [a5, b5]
    unfold cmpR
    by_cases c1 : n1 * m2 < n2 * m1
    · rw [if_pos (l1.2 c1)]
      exact by_ _ Try.func23 rfl [gives Q1, gives Q2, ends (rfl : (!true) = false), ends (rfl : (!true) = false), ends (show decide (IntKind.i64.wrap (n1 * m2) < IntKind.i64.wrap (n2 * m1)) = true by rw [w1.1, w2.1]; exact decide_eq_true c1)] (by kernel_rfl)
    · rw [if_neg (fun h => c1 (l1.1 h))]
      have f1 : decide (IntKind.i64.wrap (n1 * m2) < IntKind.i64.wrap (n2 * m1)) = false := by rw [w1.1, w2.1]; exact decide_eq_false c1
      by_cases c2 : n2 * m1 < n1 * m2
      · rw [if_pos (l2.2 c2)]
        exact by_ _ Try.func23 rfl [gives Q1, gives Q2, ends (rfl : (!true) = false), ends (rfl : (!true) = false), ends f1, ends (show decide (IntKind.i64.wrap (n1 * m2) > IntKind.i64.wrap (n2 * m1)) = true by rw [w1.1, w2.1]; exact decide_eq_true c2)] (by kernel_rfl)
      · rw [if_neg (fun h => c2 (l2.1 h))]
        exact by_ _ Try.func23 rfl [gives Q1, gives Q2, ends (rfl : (!true) = false), ends (rfl : (!true) = false), ends f1, ends (show decide (IntKind.i64.wrap (n1 * m2) > IntKind.i64.wrap (n2 * m1)) = false by rw [w1.1, w2.1]; exact decide_eq_false c2)] (by kernel_rfl)
theorem rSame (h1 : l.length < 4000000000000000000) (h2 : d.length < 4000000000000000000) : Con Try.prog 16 [rat b l d, rat c m e] (.g (truth (decide (b = c ∧ l = m) && decide (d = e)))) := by
  have S1 := jSameZ b l c m h1
  have S2 := jSame d e h2
  by_cases h : b = c ∧ l = m
  · rw [decide_eq_true h] at S1 ⊢
    exact by_ _ Try.func16 rfl [gives S1, ends (rfl : true = true), gives S2] (by kernel_rfl)
  · rw [decide_eq_false h] at S1 ⊢
    exact by_ _ Try.func16 rfl [gives S1, ends (rfl : false = false)] (by kernel_rfl)
end
end
section
def Is (A : AG) (x : Rat) : Prop := ∃ b l d, A = rat b l d ∧ few 2000 l ∧ few 2000 d ∧ rv b l d = x
theorem is_ra {x : Rat} {k : Nat} (h : short k x) (hk : k ≤ 2000) : Is (ra x) x := ⟨_, _, _, rfl, few_up h.num hk, few_up h.den hk, rv_told x⟩
section
variable {A B : AG} {x y : Rat} (ha : Is A x) (hb : Is B y)
include ha
theorem gSign : Con Try.prog 35 [A] (.g (num (sgn x.num))) := by obtain ⟨b, l, d, rfl, h1, h2, rfl⟩ := ha; exact qSign b l d h1 h2
include hb
theorem gCmp : Con Try.prog 33 [A, B] (.g (num (cmpR x y))) := by obtain ⟨b, l, d, rfl, h1, h2, rfl⟩ := ha; obtain ⟨c, m, e, rfl, h3, h4, rfl⟩ := hb; exact qCmp b l d c m e h1 h2 h3 h4
theorem gAdd : Con Try.prog 43 [A, B] (.g (ra (x + y))) := by obtain ⟨b, l, d, rfl, h1, h2, rfl⟩ := ha; obtain ⟨c, m, e, rfl, h3, h4, rfl⟩ := hb; exact qAdd b l d c m e h1 h2 h3 h4
theorem gMul : Con Try.prog 44 [A, B] (.g (ra (x * y))) := by obtain ⟨b, l, d, rfl, h1, h2, rfl⟩ := ha; obtain ⟨c, m, e, rfl, h3, h4, rfl⟩ := hb; exact qMul b l d c m e h1 h2 h3 h4
theorem gDiv : Con Try.prog 38 [A, B] (divR x y) := by obtain ⟨b, l, d, rfl, h1, h2, rfl⟩ := ha; obtain ⟨c, m, e, rfl, h3, h4, rfl⟩ := hb; exact qDiv b l d c m e h1 h2 h3 h4
end
theorem eqS (s : ByteArray) : (s.toList == s.toList) = true := by simp
def cells (r : Bool × List Int × List Int) : List AC := [.v (.bool r.1), limbs r.2.1, limbs r.2.2]
def rows (rs : List (Bool × List Int × List Int)) : AC := .row 3 rs.length (rs.map cells)
def four (r : Bool × List Int × List Int) : Bool := decide (r.2.1.length ≤ 4) && decide (r.2.2.length ≤ 4)
theorem ConF.holds {f : FuncId} {xs : List AG} (h : ConF Try.prog f xs (.g (truth true))) {ok : Nat → Prop} {us : Array Value} {w : World} (hA : TA ok w xs us) : Calls Try.prog f us w fun e w' => e = .returned (.bool true) ∧ Below w.heap.size w w' := by
  refine (h.2 ok us w hA).mono ?_
  rintro e w' ⟨u, rfl, hT, hb⟩
  have := TC.v_eq (show TC [] _ w' (.v (.bool true)) u from hT)
  exact ⟨by rw [this], hb⟩
theorem byF {f : FuncId} {fn : Func} {c : Code} {xs : List AG} (r : AV) (hf : Try.prog.funcs[f]? = some fn) (hb : fn.body = some c) (pf : List (Prf Try.prog)) (h : evF LL DD fn c xs (Prf.ans pf) = some (r, [], Prf.dem pf)) (hname : (fn.name == "runtime.NumGoroutine") = false := by kernel_rfl) : ConF Try.prog f xs r :=
  conF_of LL_ok DD_ok pf hf hname hb h
end
section
abbrev R3 := Bool × List Int × List Int
def R3.ok (r : R3) : Prop := few 2000 r.2.1 ∧ few 2000 r.2.2
def R3.q (r : R3) : Rat := rv r.1 r.2.1 r.2.2
structure Lin where
  on : Bool
  v : R3
  s : R3
def Lin.c (x : Lin) : List AC := [.v (.bool x.on), .v (.bool x.v.1), limbs x.v.2.1, limbs x.v.2.2, .v (.bool x.s.1), limbs x.s.2.1, limbs x.s.2.2]
structure Lin.ok (x : Lin) : Prop where
  v : x.v.ok
  s : x.s.ok
  vs : short 600 x.v.q
  ss : short 600 x.s.q
def belowF (x : Lin) : Bool := x.on && decide (sgn x.v.q.num < 0)
theorem below_con (x : Lin) (h : x.ok) : Con Try.prog 34 [.agg x.c] (.g (truth (belowF x))) := by
  obtain ⟨on, v, s⟩ := x
  cases on with
  | false => exact by_ (.g (truth false)) Try.func34 rfl [ends (rfl : false = false)] (by kernel_rfl)
  | true => exact by_ (.g (truth (decide (sgn v.q.num < 0)))) Try.func34 rfl [ends (rfl : true = true), gives (qSign v.1 v.2.1 v.2.2 h.v.1 h.v.2)] (by kernel_rfl)
def atR (x : Lin) (t : Rat) : Rat := if x.on then x.v.q + x.s.q * t else 0
theorem is_v {x : Lin} (h : x.ok) : Is (rat x.v.1 x.v.2.1 x.v.2.2) x.v.q := ⟨_, _, _, rfl, h.v.1, h.v.2, rfl⟩
theorem is_s {x : Lin} (h : x.ok) : Is (rat x.s.1 x.s.2.1 x.s.2.2) x.s.q := ⟨_, _, _, rfl, h.s.1, h.s.2, rfl⟩
theorem at_con (x : Lin) (h : x.ok) (r : R3) (hr : r.ok) (hs : short 600 r.q) : Con Try.prog 19 [.agg x.c, rat r.1 r.2.1 r.2.2] (.g (ra (atR x r.q))) := by
  have M := gMul (is_s h) (⟨_, _, _, rfl, hr.1, hr.2, rfl⟩ : Is (rat r.1 r.2.1 r.2.2) r.q)
  have A := gAdd (is_v h) (is_ra (short_mul h.ss hs) (by decide))
  obtain ⟨on, v, s⟩ := x
  cases on with
  | false => exact by_ (.g (ra ((0 : Int) : Rat))) Try.func19 rfl [ends (rfl : (!false) = true), gives (qOf (n := 0) (by decide) (by decide))] (by kernel_rfl)
  | true => exact by_ (.g (ra (v.q + s.q * r.q))) Try.func19 rfl [ends (rfl : (!true) = false), gives M, gives A] (by kernel_rfl)
def passF (x : Lin) : Option Rat := if belowF x && decide (0 < sgn x.s.q.num) then some (-x.v.q / x.s.q) else none
def passR : Option Rat → AV
  | some t => .tup [ra t, truth true]
  | none => .tup [rat false [] [], truth false]
theorem passes_con (x : Lin) (h : x.ok) : Con Try.prog 17 [.agg x.c] (passR (passF x)) := by
  have B := below_con x h
  have S := gSign (is_s h)
  unfold passF
  cases hb : belowF x with
  | false =>
    rw [hb] at B
    exact by_ (.tup [rat false [] [], truth false]) Try.func17 rfl [gives B, ends (rfl : (!false) = true), ends (rfl : true = true)] (by kernel_rfl)
  | true =>
    rw [hb] at B
    by_cases hs : 0 < sgn x.s.q.num
    · rw [decide_eq_true hs]
      have hn : x.s.q ≠ 0 := fun e => by
        rw [e] at hs
        exact absurd hs (by decide)
      have N := qNeg x.v.1 x.v.2.1 x.v.2.2 h.v.1 h.v.2
      have D := gDiv (is_ra (short_neg h.vs) (by decide)) (is_s h)
      rw [show divR (-x.v.q) x.s.q = .tup [ra (-x.v.q / x.s.q), num 0] from if_neg hn] at D
      exact by_ (.tup [ra (-x.v.q / x.s.q), truth true]) Try.func17 rfl [gives B, ends (rfl : (!true) = false), gives S, ends (decide_eq_false (by omega) : decide (sgn x.s.q.num ≤ 0) = false), gives N, gives D] (by kernel_rfl)
    · rw [decide_eq_false hs]
      exact by_ (.tup [rat false [] [], truth false]) Try.func17 rfl [gives B, ends (rfl : (!true) = false), gives S, ends (decide_eq_true (by omega) : decide (sgn x.s.q.num ≤ 0) = true)] (by kernel_rfl)
end
section
section
variable (b : Bool) (l d : List Int)
theorem rWhole (hl : few 2000 l) (hd : few 2000 d) : Con Try.prog 78 [rat b l d] (.g (truth (decide ((rv b l d).den = 1)))) := by
  have N1 := rNorm b l d (few_up hl (by decide)) (few_up hd (by decide))
  have hx := short_rv (b := b) hl hd (by decide)
  generalize rv b l d = x at *
  have S := jSame (ofN x.den) [1] (by have := hx.2; omega)
  rw [show decide (ofN x.den = [1]) = decide (x.den = 1) by
    rw [decide_eq_decide]
    exact ⟨fun h => ofN_inj (h.trans one1.symm), fun h => by rw [h, one1]⟩] at S
  exact by_ _ Try.func78 rfl [gives N1, gives S] (by kernel_rfl)
theorem rPrint (hl : few 2000 l) (hd : few 2000 d) : Con Try.prog 47 [rat b l d] (.g (text' (printR (rv b l d)))) := by
  have N1 := rNorm b l d (few_up hl (by decide)) (few_up hd (by decide))
  have hx := short_rv (b := b) hl hd (by decide)
  generalize rv b l d = x at *
  have W := rWhole (ofZ x.num).1 (ofZ x.num).2 (ofN x.den) hx.num hx.den
  rw [rv_told] at W
  have P := jPrint (ofZ x.num).1 (ofZ x.num).2 (sN hx)
  rw [zval_ofZ] at P
  have h1 := printZ_size x.num
  have h2 := text_size x.den
  have h3 := hx.1
  have h4 := hx.2
  unfold printR
  by_cases h : x.den = 1
  · rw [if_pos h]
    exact by_ _ Try.func47 rfl [gives N1, gives W, ends (decide_eq_true h), gives P] (by kernel_rfl)
  · rw [if_neg h]
    have T := foliotref01_Print.con (ofN x.den) _ (if_pos (rf (sD hx)))
    rw [val_ofN] at T
    have hm : IntKind.i64.max = 9223372036854775807 := rfl
    have h47 : (⟨#[47]⟩ : ByteArray).size = 1 := rfl
    exact by_ _ Try.func47 rfl [gives N1, gives W, ends (decide_eq_false h), gives P, fact (show (((printZ x.num).size + (⟨#[47]⟩ : ByteArray).size : Nat) : Int) ≤ IntKind.i64.max by rw [hm, h47]; omega), gives T,
      fact (show (((printZ x.num ++ (⟨#[47]⟩ : ByteArray)).size + (text x.den).size : Nat) : Int) ≤ IntKind.i64.max by rw [hm, ByteArray.size_append, h47]; omega)] (by kernel_rfl)
end
theorem rOf {n : Int} (h0 : -9223372036854775808 ≤ n) (h1 : n < 9223372036854775808) : Con Try.prog 45 [num n] (.g (ra (n : Rat))) := by
  have e : ra (n : Rat) = rat (decide (n < 0)) (ofN n.natAbs) [1] := by unfold ra; rw [Rat.num_intCast, Rat.den_intCast, one1]; rfl
  rw [e]
  by_cases h : n < 0
  · exact by_ _ Try.func45 rfl [ends (decide_eq_true h), gives (rLimbs (X := IntKind.u64.wrap (0 - IntKind.u64.wrap n)) (by rw [Int.zero_sub]; exact u64n h0 h) (by omega))] (by kernel_rfl)
  · exact by_ _ Try.func45 rfl [ends (decide_eq_false h), gives (rLimbs (X := IntKind.u64.wrap n) (n := n.natAbs) (by rw [u64 (by omega) (by omega)]; omega) (by omega))] (by kernel_rfl)
theorem bt_at {s : ByteArray} (h : 0 < s.size) : (0 : Int) ≤ 0 ∧ ∃ u : UInt8, s[(0 : Int).toNat]? = some u ∧ bt s 0 = (u.toNat : Int) := ⟨by omega, s[0], by simp [h], by unfold bt; rw [dif_pos (by simpa using h)]; rfl⟩
end
section
theorem sat_con (x : Lin) (h : x.ok) (r : R3) (hr : r.ok) (hs : short 600 r.q) : Con Try.prog 20 [.agg x.c, rat r.1 r.2.1 r.2.2] (.g (ra (atR x r.q))) := by
  have M := rMul x.s.1 x.s.2.1 x.s.2.2 r.1 r.2.1 r.2.2 h.s.1 h.s.2 hr.1 hr.2
  obtain ⟨b, l, d, e, h1, h2, e2⟩ := is_ra (short_mul h.ss hs) (by decide)
  have A := rAdd x.v.1 x.v.2.1 x.v.2.2 b l d h.v.1 h.v.2 h1 h2
  rw [← e, e2] at A
  obtain ⟨on, v, s⟩ := x
  cases on with
  | false => exact by_ (.g (ra ((0 : Int) : Rat))) Try.func20 rfl [ends (rfl : (!false) = true), gives (rOf (n := 0) (by decide) (by decide))] (by kernel_rfl)
  | true => exact by_ (.g (ra (v.q + s.q * r.q))) Try.func20 rfl [ends (rfl : (!true) = false), gives M, gives A] (by kernel_rfl)
theorem spasses_con (x : Lin) (h : x.ok) : Con Try.prog 18 [.agg x.c] (passR (passF x)) := by
  have V := rSign x.v.1 x.v.2.1 x.v.2.2 h.v.1 h.v.2
  have S := rSign x.s.1 x.s.2.1 x.s.2.2 h.s.1 h.s.2
  have N := rNeg x.v.1 x.v.2.1 x.v.2.2 h.v.1 h.v.2
  obtain ⟨b, l, d, e, h1, h2, e2⟩ := is_ra (short_neg h.vs) (by decide)
  have D := rDiv b l d x.s.1 x.s.2.1 x.s.2.2 h1 h2 h.s.1 h.s.2
  rw [← e, e2] at D
  have D : Con Try.prog 40 [ra (-x.v.q), rat x.s.1 x.s.2.1 x.s.2.2] (divR (-x.v.q) x.s.q) := D
  unfold passF belowF
  obtain ⟨on, v, s⟩ := x
  cases on with
  | false => exact by_ (.tup [rat false [] [], truth false]) Try.func18 rfl [ends (rfl : (!false) = true), ends (rfl : true = true), ends (rfl : true = true)] (by kernel_rfl)
  | true =>
    simp only [Bool.true_and]
    by_cases hv : sgn v.q.num < 0
    · rw [decide_eq_true hv]
      by_cases hs : 0 < sgn s.q.num
      · rw [decide_eq_true hs]
        have hn : s.q ≠ 0 := fun e => by
          rw [e] at hs
          exact absurd hs (by decide)
        rw [show divR (-v.q) s.q = .tup [ra (-v.q / s.q), num 0] from if_neg hn] at D
        exact by_ (.tup [ra (-v.q / s.q), truth true]) Try.func18 rfl [ends (rfl : (!true) = false), gives V, ends (decide_eq_false (show ¬ sgn v.q.num ≥ 0 by omega)), gives S, ends (decide_eq_false (show ¬ sgn s.q.num ≤ 0 by omega)), gives N, gives D] (by kernel_rfl)
      · rw [decide_eq_false hs]
        exact by_ (.tup [rat false [] [], truth false]) Try.func18 rfl [ends (rfl : (!true) = false), gives V, ends (decide_eq_false (show ¬ sgn v.q.num ≥ 0 by omega)), gives S, ends (decide_eq_true (show sgn s.q.num ≤ 0 by omega))] (by kernel_rfl)
    · rw [decide_eq_false hv]
      exact by_ (.tup [rat false [] [], truth false]) Try.func18 rfl [ends (rfl : (!true) = false), gives V, ends (decide_eq_true (show sgn v.q.num ≥ 0 by omega)), ends (rfl : true = true)] (by kernel_rfl)
end
section
def longF (r : R3) : Bool := decide ((r.2.1.length : Int) > 4) || decide ((r.2.2.length : Int) > 4)
theorem long_con (r : R3) : Con Try.prog 11 [rat r.1 r.2.1 r.2.2] (.g (truth (longF r))) := by
  unfold longF
  rcases bc (decide ((r.2.1.length : Int) > 4)) with h | h
  · rw [h]
    exact by_ (.g (truth true)) Try.func11 rfl [ends h] (by kernel_rfl)
  · rw [h, Bool.false_or]
    exact by_ (.g (truth (decide ((r.2.2.length : Int) > 4)))) Try.func11 rfl [ends h] (by kernel_rfl)
def lins (l : List Lin) : AC := .row 7 l.length (l.map Lin.c)
theorem lin_at {l : List Lin} {i : Nat} (h : i < l.length) : (0 : Int) ≤ (i : Int) ∧ (l.map Lin.c)[(i : Int).toNat]? = some l[i].c := ⟨by omega, by simp [h]⟩
def fewL (x : Lin) : Bool := !longF x.v && !longF x.s
theorem fewlin_loop (l : List Lin) (hb : l.length < 4000000000000000000) : ∀ (d i : Nat), i + d = l.length →
    ((l.drop i).all fewL = true → Rounds Try.prog (lp Try.f10 0) (st (sparse 27 [(0, .g (.one (lins l))), (3, .g (num i))]) []) (.exit 0) (st (sparse 27 [(0, .g (.one (lins l)))]) [])) ∧
    ((l.drop i).all fewL = false → Rounds Try.prog (lp Try.f10 0) (st (sparse 27 [(0, .g (.one (lins l))), (3, .g (num i))]) []) .ret (st (sparse 27 [(2, .g (truth false))]) []))
  | 0, i, h => by
    have : i = l.length := by omega
    subst this
    rw [List.drop_eq_nil_of_le (Nat.le_refl _)]
    exact ⟨fun _ => Rounds.out (at_ _ _ [ends (show decide ((l.length : Int) < (l.length : Int)) = false by simp)] (by kernel_rfl)) (by simp), fun h => by cases h⟩
  | d + 1, i, h => by
    have hi : i < l.length := by omega
    have hlt : decide ((i : Int) < (l.length : Int)) = true := by rw [decide_eq_true_iff]; omega
    have ih := fewlin_loop l hb d (i + 1) (by omega)
    have hel := lin_at hi
    rw [List.drop_eq_getElem_cons hi, List.all_cons]
    have L1 := long_con l[i].v
    have L2 := long_con l[i].s
    unfold fewL
    cases h1 : longF l[i].v with
    | true =>
      rw [h1] at L1
      exact ⟨fun h => by simp at h, fun _ => Rounds.out (at_ _ _ [ends hlt, elem hel, gives L1, ends (rfl : true = true), ends (rfl : true = true)] (by kernel_rfl)) (by simp)⟩
    | false =>
      rw [h1] at L1
      cases h2 : longF l[i].s with
      | true =>
        rw [h2] at L2
        exact ⟨fun h => by simp at h, fun _ => Rounds.out (at_ _ _ [ends hlt, elem hel, gives L1, ends (rfl : false = false), elem hel, gives L2, ends (rfl : true = true)] (by kernel_rfl)) (by simp)⟩
      | false =>
        rw [h2] at L2
        have step := at_ (c := lp Try.f10 0) (p := st (sparse 27 [(0, .g (.one (lins l))), (3, .g (num i))]) []) .normal (st (sparse 27 [(0, .g (.one (lins l))), (3, .g (num (IntKind.i64.wrap ((i : Int) + 1))))]) []) [ends hlt, elem hel, gives L1, ends (rfl : false = false), elem hel, gives L2, ends (rfl : false = false)] (by kernel_rfl)
        rw [show IntKind.i64.wrap ((i : Int) + 1) = ((i + 1 : Nat) : Int) by rw [wr (by omega) (by omega)]; omega] at step
        exact ⟨fun h => (ih.1 (by simpa [fewL] using h)).step' step, fun h => (ih.2 (by simpa [fewL] using h)).step' step⟩
def fewF (l : List Lin) : Bool := !decide ((l.length : Int) > 20) && l.all fewL
theorem fewLines (l : List Lin) : Con Try.prog 10 [.one (lins l)] (.g (truth (fewF l))) := by
  unfold fewF
  by_cases h : (l.length : Int) > 20
  · rw [decide_eq_true h]
    exact by_ (.g (truth false)) Try.func10 rfl [ends (decide_eq_true h)] (by kernel_rfl)
  · rw [decide_eq_false h]
    have L := fewlin_loop l (by omega) l.length 0 (by omega)
    rw [List.drop_zero] at L
    simp only [Bool.not_false, Bool.true_and]
    cases ha : l.all fewL with
    | true => exact by_ (.g (truth true)) Try.func10 rfl [ends (decide_eq_false h), goes (L.1 ha).loop] (by kernel_rfl)
    | false => exact by_ (.g (truth false)) Try.func10 rfl [ends (decide_eq_false h), goes (L.2 ha).loop] (by kernel_rfl)
end
section
def bcells (l : List Bool) : List AC := l.map fun b => .v (.bool b)
def bools (l : List Bool) : AC := .row 1 l.length (l.map fun b => [.v (.bool b)])
theorem bcells_bare (l : List Bool) : ∀ c ∈ bcells l, c.noptr = true := fun c hc => by
  obtain ⟨b, _, rfl⟩ := List.mem_map.1 hc
  rfl
theorem bcells_flat (l : List Bool) : bcells l = (l.map fun b => [AC.v (.bool b)]).flatten := by
  induction l with
  | nil => rfl
  | cons b r ih => simp only [bcells, List.map_cons, List.flatten_cons] at ih ⊢; rw [ih]; rfl
theorem plain1 (sl : List Bool) : ∀ cs ∈ [bcells sl], Plain cs := fun cs hc => by
  rw [List.mem_singleton.1 hc]; exact bcells_bare sl
theorem reps_b : ∀ n : Nat, reps [.v (.bool false)] n = bcells (List.replicate n false)
  | 0 => rfl
  | n + 1 => by simp [reps, reps_b n, bcells, List.replicate_succ]
theorem put_b {bs : List Bool} {i : Nat} (h : i < bs.length) (b : Bool) : i * 1 + 0 + 1 ≤ (bcells bs).length ∧ over (bcells bs) (i * 1 + 0) [.v (.bool b)] = bcells (bs.set i b) := by
  refine ⟨by simp [bcells]; omega, ?_⟩
  unfold over bcells
  rw [List.map_set, Nat.mul_one, Nat.add_zero]
  rw [List.set_eq_take_append_cons_drop, if_pos (by simpa using h)]
  simp
def wentF (t : Rat) (x : Lin) : Bool := belowF x && decide (sgn (atR x t).num ≥ 0)
theorem short_at {x : Lin} (h : x.ok) {t : Rat} (hs : short 600 t) : short 1801 (atR x t) := by
  unfold atR
  split
  · exact short_add h.vs (short_mul h.ss hs)
  · exact short_int (z := 0) (by decide) (by decide)
def PS (l : List Lin) (r : R3) (bs : List Bool) (i : Int) : St := ⟨sparse 32 [(3, .g (.one (.ptr 0 0))), (5, .g (.one (.sl 1 4 1 l.length))), (11, .g (.one (lins l))), (12, .g (num l.length)), (13, .g (num i))], [some (false, [.v (.bool r.1), limbs r.2.1, limbs r.2.2]), some (false, bcells bs)], 0⟩
theorem passed_loop (l : List Lin) (hb : l.length < 4000000000000000000) (hl : ∀ x ∈ l, x.ok) (r : R3) (hr : r.ok) (hs : short 600 r.q) : ∀ (d i : Nat) (bs : List Bool), i + d = l.length → bs.length = l.length →
    Rounds Try.prog (lp Try.f14 0) (PS l r bs i) (.exit 0) (PS l r (bs.take i ++ (l.drop i).map (wentF r.q)) l.length)
  | 0, i, bs, h, hn => by
    have : i = l.length := by omega
    subst this
    rw [List.drop_eq_nil_of_le (Nat.le_refl _), List.map_nil, List.append_nil, List.take_of_length_le (by omega)]
    exact Rounds.out (at_m [] _ _ [ends (show decide ((l.length : Int) < (l.length : Int)) = false by simp)] [bcells bs] (plain1 bs) (by kernel_rfl)) (by simp)
  | d + 1, i, bs, h, hn => by
    have hi : i < l.length := by omega
    have hlt : decide ((i : Int) < (l.length : Int)) = true := by rw [decide_eq_true_iff]; omega
    have hx := hl _ (List.getElem_mem hi)
    have hel := lin_at hi
    have ih := passed_loop l hb hl r hr hs d (i + 1) (bs.set i (wentF r.q l[i])) (by omega) (by simpa using hn)
    have e : (bs.set i (wentF r.q l[i])).take (i + 1) ++ (l.drop (i + 1)).map (wentF r.q) = bs.take i ++ (l.drop i).map (wentF r.q) := by
      rw [List.drop_eq_getElem_cons hi, List.map_cons, List.take_add_one, List.getElem?_set_self (by omega), List.take_set_of_le (Nat.le_refl i)]
      simp
    rw [e] at ih
    have B := below_con l[i] hx
    have A := at_con l[i] hx r hr hs
    have S := gSign (is_ra (short_at hx hs) (by decide))
    have P := fun b => put_b (bs := bs) (i := i) (by omega) b
    have sp : (i : Int) = (i : Int) ∧ i < l.length := ⟨rfl, hi⟩
    cases hbl : belowF l[i] with
    | false =>
      rw [hbl] at B
      have ew : wentF r.q l[i] = false := by unfold wentF; rw [hbl]; rfl
      rw [ew] at ih
      have step := at_m [] (c := lp Try.f14 0) (p := PS l r bs i) .normal (PS l r (bs.set i false) (IntKind.i64.wrap ((i : Int) + 1))) [ends hlt, elem hel, gives B, ends (rfl : false = false), spot sp, put1 (P false)] [bcells (bs.set i false)] (plain1 _) (by kernel_rfl)
      rw [show IntKind.i64.wrap ((i : Int) + 1) = ((i + 1 : Nat) : Int) by rw [wr (by omega) (by omega)]; omega] at step
      exact ih.step' step
    | true =>
      rw [hbl] at B
      have ew : wentF r.q l[i] = decide (sgn (atR l[i] r.q).num ≥ 0) := by unfold wentF; rw [hbl]; rfl
      rw [ew] at ih
      have step := at_m [] (c := lp Try.f14 0) (p := PS l r bs i) .normal (PS l r (bs.set i (decide (sgn (atR l[i] r.q).num ≥ 0))) (IntKind.i64.wrap ((i : Int) + 1))) [ends hlt, elem hel, gives B, ends (rfl : true = true), gives A, gives S, spot sp, put1 (P (decide (sgn (atR l[i] r.q).num ≥ 0)))] [bcells (bs.set i (decide (sgn (atR l[i] r.q).num ≥ 0)))] (plain1 _) (by kernel_rfl)
      rw [show IntKind.i64.wrap ((i : Int) + 1) = ((i + 1 : Nat) : Int) by rw [wr (by omega) (by omega)]; omega] at step
      exact ih.step' step
theorem passed_con (l : List Lin) (hb : l.length ≤ 100000) (hl : ∀ x ∈ l, x.ok) (r : R3) (hr : r.ok) (hs : short 600 r.q) : Con Try.prog 14 [.one (lins l), rat r.1 r.2.1 r.2.2] (.g (.one (bools (l.map (wentF r.q))))) := by
  have L := passed_loop l (by omega) hl r hr hs l.length 0 (List.replicate l.length false) (by omega) (by simp)
  rw [List.take_zero, List.drop_zero, List.nil_append] at L
  have mk : (l.length : Int) = (l.length : Int) ∧ (l.length : Int) = (l.length : Int) ∧ l.length ≤ 134217728 ∧ reps [.v (.bool false)] l.length = bcells (List.replicate l.length false) := ⟨rfl, rfl, by omega, reps_b _⟩
  generalize List.replicate l.length false = z at *
  have res := by_ (.g (.one (.row 1 l.length ((l.map (wentF r.q)).map fun b => [.v (.bool b)])))) Try.func14 rfl (xs := [.one (lins l), rat r.1 r.2.1 r.2.2]) [makesC l.length mk, goesP [bcells z] (plain1 z) L.loop 0 [], frozen 1 l.length 1 1 ((l.map (wentF r.q)).map fun b => [.v (.bool b)]) (bcells_flat (l.map (wentF r.q))) (fun x hx => by obtain ⟨b, _, rfl⟩ := List.mem_map.1 hx; rfl) (by simp) (fun x hx c hc => by obtain ⟨b, _, rfl⟩ := List.mem_map.1 hx; rw [List.mem_singleton.1 hc]; rfl)] (by kernel_rfl)
  exact res.to (by unfold bools; rw [List.length_map])
end
section
def PR (l : List Lin) (r : R3) (bs : List Bool) (i : Nat) (z : Int) : St := ⟨sparse 41 [(0, .g (.one (lins l))), (3, .g (.one (.ptr 0 0))), (5, .g (.one (.sl 1 4 1 i))), (6, .g (num z))], [some (false, [.v (.bool r.1), limbs r.2.1, limbs r.2.2]), some (false, bcells bs)], 0⟩
theorem more_b {bs : List Bool} {i : Nat} (h : bs.length = i) (hi : i < 100000) (b : Bool) : (bcells bs).length = i * 1 ∧ 0 < 1 ∧ i + 1 ≤ 134217728 ∧ bcells bs ++ [[AC.v (.bool b)]].flatten = bcells (bs ++ [b]) :=
  ⟨by simp [bcells, h], by omega, by omega, by simp [bcells]⟩
theorem spassed_loop (l : List Lin) (hb : l.length ≤ 100000) (hl : ∀ x ∈ l, x.ok) (r : R3) (hr : r.ok) (hs : short 600 r.q) : ∀ (d i : Nat) (bs : List Bool), i + d = l.length → bs.length = i →
    Rounds Try.prog (lp Try.f15 0) (PR l r bs i i) (.exit 0) (PR l r (bs ++ (l.drop i).map (wentF r.q)) l.length l.length)
  | 0, i, bs, h, hn => by
    have : i = l.length := by omega
    subst this
    rw [List.drop_eq_nil_of_le (Nat.le_refl _), List.map_nil, List.append_nil]
    exact Rounds.out (at_m [] _ _ [ends (show decide ((l.length : Int) < (l.length : Int)) = false by simp)] [bcells bs] (plain1 bs) (by kernel_rfl)) (by simp)
  | d + 1, i, bs, h, hn => by
    have hi : i < l.length := by omega
    have hlt : decide ((i : Int) < (l.length : Int)) = true := by rw [decide_eq_true_iff]; omega
    have hx := hl _ (List.getElem_mem hi)
    have hel := lin_at hi
    have ih := spassed_loop l hb hl r hr hs d (i + 1) (bs ++ [wentF r.q l[i]]) (by omega) (by simp [hn])
    rw [List.append_assoc] at ih
    rw [List.drop_eq_getElem_cons hi, List.map_cons]
    have V := rSign l[i].v.1 l[i].v.2.1 l[i].v.2.2 hx.v.1 hx.v.2
    have A := sat_con l[i] hx r hr hs
    have hat := short_at hx hs
    obtain ⟨b', l', d', e, h1, h2, e2⟩ := is_ra hat (by decide)
    have S := rSign b' l' d' h1 h2
    rw [← e, e2] at S
    have M := fun b => more_b hn (by omega) b
    have nx : IntKind.i64.wrap ((i : Int) + 1) = ((i + 1 : Nat) : Int) := by rw [wr (by omega) (by omega)]; omega
    have V : Con Try.prog 22 [rat l[i].v.1 l[i].v.2.1 l[i].v.2.2] (.g (num (sgn l[i].v.q.num))) := V
    generalize l[i] = x at *
    obtain ⟨on, v, s⟩ := x
    cases on with
    | false =>
      have step := at_m [] (c := lp Try.f15 0) (p := PR l r bs i i) .normal (PR l r (bs ++ [false]) (i + 1) (IntKind.i64.wrap ((i : Int) + 1))) [ends hlt, elem hel, ends (rfl : false = false), ends (rfl : false = false), more (M false)] [bcells (bs ++ [false])] (plain1 _) (by kernel_rfl)
      rw [nx] at step
      exact ih.step' step
    | true =>
      by_cases hv : sgn v.q.num < 0
      · have ew : wentF r.q ⟨true, v, s⟩ = decide (sgn (atR ⟨true, v, s⟩ r.q).num ≥ 0) := by
          show (decide (sgn v.q.num < 0) && _) = _
          rw [decide_eq_true hv]; rfl
        rw [ew] at ih ⊢
        have step := at_m [] (c := lp Try.f15 0) (p := PR l r bs i i) .normal (PR l r (bs ++ [decide (sgn (atR ⟨true, v, s⟩ r.q).num ≥ 0)]) (i + 1) (IntKind.i64.wrap ((i : Int) + 1))) [ends hlt, elem hel, ends (rfl : true = true), elem hel, gives V, ends (decide_eq_true hv), elem hel, gives A, gives S, more (M (decide (sgn (atR ⟨true, v, s⟩ r.q).num ≥ 0)))] [bcells (bs ++ [decide (sgn (atR ⟨true, v, s⟩ r.q).num ≥ 0)])] (plain1 _) (by kernel_rfl)
        rw [nx] at step
        exact ih.step' step
      · have ew : wentF r.q ⟨true, v, s⟩ = false := by
          show (decide (sgn v.q.num < 0) && _) = _
          rw [decide_eq_false hv]; rfl
        rw [ew] at ih ⊢
        have step := at_m [] (c := lp Try.f15 0) (p := PR l r bs i i) .normal (PR l r (bs ++ [false]) (i + 1) (IntKind.i64.wrap ((i : Int) + 1))) [ends hlt, elem hel, ends (rfl : true = true), elem hel, gives V, ends (decide_eq_false hv), more (M false)] [bcells (bs ++ [false])] (plain1 _) (by kernel_rfl)
        rw [nx] at step
        exact ih.step' step
theorem spassed_con (l : List Lin) (hb : l.length ≤ 100000) (hl : ∀ x ∈ l, x.ok) (r : R3) (hr : r.ok) (hs : short 600 r.q) : Con Try.prog 15 [.one (lins l), rat r.1 r.2.1 r.2.2] (.g (.one (bools (l.map (wentF r.q))))) := by
  have L := spassed_loop l hb hl r hr hs l.length 0 [] (by omega) rfl
  rw [List.drop_zero, List.nil_append] at L
  have res := by_ (.g (.one (.row 1 l.length ((l.map (wentF r.q)).map fun b => [.v (.bool b)])))) Try.func15 rfl (xs := [.one (lins l), rat r.1 r.2.1 r.2.2]) [goes L.loop 0 [], frozen 1 l.length 1 1 ((l.map (wentF r.q)).map fun b => [.v (.bool b)]) (bcells_flat (l.map (wentF r.q))) (fun x hx => by obtain ⟨b, _, rfl⟩ := List.mem_map.1 hx; rfl) (by simp) (fun x hx c hc => by obtain ⟨b, _, rfl⟩ := List.mem_map.1 hx; rw [List.mem_singleton.1 hc]; rfl)] (by kernel_rfl)
  exact res.to (by unfold bools; rw [List.length_map])
end
section
def bestC : Option Rat → List AC
  | none => [.v (.bool false), .row 1 0 [], .row 1 0 []]
  | some t => [.v (.bool (ofZ t.num).1), limbs (ofZ t.num).2, limbs (ofN t.den)]
def better (o : Option Rat) (x : Lin) : Option Rat := match passF x with
  | none => o
  | some t => match o with
    | none => some t
    | some b => if cmpR t b < 0 then some t else some b
theorem pass_short {x : Lin} (h : x.ok) {t : Rat} (e : passF x = some t) : short 1200 t := by
  unfold passF at e
  split at e
  · cases e; exact short_div (short_neg h.vs) h.ss (by decide)
  · cases e
theorem better_short {o : Option Rat} {x : Lin} (h : x.ok) (ho : ∀ t, o = some t → short 1200 t) : ∀ t, better o x = some t → short 1200 t := by
  intro t e
  unfold better at e
  cases hp : passF x with
  | none => rw [hp] at e; exact ho t e
  | some u =>
    rw [hp] at e
    have hu := pass_short h hp
    cases o with
    | none => cases e; exact hu
    | some b =>
      simp only at e
      split at e
      · cases e; exact hu
      · cases e; exact ho _ rfl
def PN (l : List Lin) (o : Option Rat) (i : Int) : St := ⟨sparse 37 [(0, .g (.one (lins l))), (2, .g (.one (.ptr 0 0))), (4, .g (.one (.ptr 1 0))), (5, .g (truth o.isSome)), (6, .g (num i))], [some (false, [.v (.bool false), .row 1 0 [], .row 1 0 []]), some (false, bestC o)], 0⟩
theorem snext_loop (l : List Lin) (hb : l.length ≤ 100000) (hl : ∀ x ∈ l, x.ok) : ∀ (d i : Nat) (o : Option Rat), i + d = l.length → (∀ t, o = some t → short 1200 t) →
    Rounds Try.prog (lp Try.f13 0) (PN l o i) (.exit 0) (PN l ((l.drop i).foldl better o) l.length)
  | 0, i, o, h, ho => by
    have : i = l.length := by omega
    subst this
    rw [List.drop_eq_nil_of_le (Nat.le_refl _)]
    cases o <;> exact Rounds.out (at_m [] _ _ [ends (show decide ((l.length : Int) < (l.length : Int)) = false by simp)] [] none_ (by kernel_rfl)) (by simp)
  | d + 1, i, o, h, ho => by
    have hi : i < l.length := by omega
    have hlt : decide ((i : Int) < (l.length : Int)) = true := by rw [decide_eq_true_iff]; omega
    have hx := hl _ (List.getElem_mem hi)
    have hel := lin_at hi
    have ih := snext_loop l hb hl d (i + 1) (better o l[i]) (by omega) (better_short hx ho)
    rw [List.drop_eq_getElem_cons hi, List.foldl_cons]
    have P := spasses_con l[i] hx
    have nx : IntKind.i64.wrap ((i : Int) + 1) = ((i + 1 : Nat) : Int) := by rw [wr (by omega) (by omega)]; omega
    have hsh := fun t => pass_short (t := t) hx
    cases hp : passF l[i] with
    | none =>
      have eb : better o l[i] = o := by unfold better; rw [hp]
      rw [eb] at ih ⊢
      rw [hp] at P
      cases o with
      | none =>
        have step := at_m [] (c := lp Try.f13 0) (p := PN l none i) .normal (PN l none (IntKind.i64.wrap ((i : Int) + 1))) [ends hlt, elem hel, gives P, ends (rfl : false = false), ends (rfl : false = false)] [] none_ (by kernel_rfl)
        rw [nx] at step
        exact ih.step' step
      | some b =>
        have step := at_m [] (c := lp Try.f13 0) (p := PN l (some b) i) .normal (PN l (some b) (IntKind.i64.wrap ((i : Int) + 1))) [ends hlt, elem hel, gives P, ends (rfl : false = false), ends (rfl : false = false)] [] none_ (by kernel_rfl)
        rw [nx] at step
        exact ih.step' step
    | some t =>
      rw [hp] at P
      cases o with
      | none =>
        have eb : better none l[i] = some t := by unfold better; rw [hp]
        rw [eb] at ih ⊢
        have step := at_m [] (c := lp Try.f13 0) (p := PN l none i) .normal (PN l (some t) (IntKind.i64.wrap ((i : Int) + 1))) [ends hlt, elem hel, gives P, ends (rfl : true = true), ends (rfl : (!false) = true), ends (rfl : true = true)] [] none_ (by kernel_rfl)
        rw [nx] at step
        exact ih.step' step
      | some b =>
        have eb : better (some b) l[i] = if cmpR t b < 0 then some t else some b := by unfold better; rw [hp]
        rw [eb] at ih ⊢
        obtain ⟨b1, l1, d1, e1, h1, h2, e2⟩ := is_ra (hsh t hp) (by decide)
        obtain ⟨b3, l3, d3, e3, h3, h4, e4⟩ := is_ra (ho b rfl) (by decide)
        have K := rCmp b1 l1 d1 b3 l3 d3 h1 h2 h3 h4
        rw [← e1, ← e3, e2, e4] at K
        by_cases hc : cmpR t b < 0
        · rw [if_pos hc] at ih ⊢
          have step := at_m [] (c := lp Try.f13 0) (p := PN l (some b) i) .normal (PN l (some t) (IntKind.i64.wrap ((i : Int) + 1))) [ends hlt, elem hel, gives P, ends (rfl : true = true), ends (rfl : (!true) = false), gives K, ends (decide_eq_true hc)] [] none_ (by kernel_rfl)
          rw [nx] at step
          exact ih.step' step
        · rw [if_neg hc] at ih ⊢
          have step := at_m [] (c := lp Try.f13 0) (p := PN l (some b) i) .normal (PN l (some b) (IntKind.i64.wrap ((i : Int) + 1))) [ends hlt, elem hel, gives P, ends (rfl : true = true), ends (rfl : (!true) = false), gives K, ends (decide_eq_false hc)] [] none_ (by kernel_rfl)
          rw [nx] at step
          exact ih.step' step
theorem snext_con (l : List Lin) (hb : l.length ≤ 100000) (hl : ∀ x ∈ l, x.ok) : Con Try.prog 13 [.one (lins l)] (passR (l.foldl better none)) := by
  have L := snext_loop l hb hl l.length 0 none (by omega) (fun t h => by cases h)
  rw [List.drop_zero] at L
  generalize l.foldl better none = o at *
  cases o with
  | none => exact by_ (.tup [rat false [] [], truth false]) Try.func13 rfl [goes L.loop 0 []] (by kernel_rfl)
  | some t => exact by_ (.tup [ra t, truth true]) Try.func13 rfl [goes L.loop 0 []] (by kernel_rfl)
end
end Go.Proofs.Ytjfkhbkddenfoaa.Ev
namespace Go.Proofs.Ytjfkhbkddenfoaa.Ev
open Go Go.RowKit Go.Proofs.YtjfkhbkddenfoaaW.PrintWords Go.Proofs.YtjfkhbkddenfoaaW.PrintLast
section
def flags (own : List (Option (Bool × List AC))) : List (Option (Bool × List AC)) := own.map (Option.map fun x => (true, x.2))
theorem flags_get {own : List (Option (Bool × List AC))} {i : Nat} {m : Bool} {cs : List AC} (h : (flags own)[i]? = some (some (m, cs))) : m = true ∧ ∃ m', own[i]? = some (some (m', cs)) := by
  unfold flags at h
  rw [List.getElem?_map] at h
  obtain ⟨x, hx, he⟩ := Option.map_eq_some_iff.1 h
  obtain ⟨y, hy, h2⟩ := Option.map_eq_some_iff.1 he
  cases h2
  exact ⟨rfl, y.1, by rw [hx, hy]⟩
section
variable {P : Program} {okA okB : Nat → Prop} {W0 : Base} {g : List (Option Nat)} {s : St} {a a' : Act} {W W' : World}
theorem Ok.rebase (h : Ok okA W0 g s a W) {ds : List Deferred} (ht : a'.tmps = a.tmps) (hd : a'.defers = ds) (hs : W.heap.size ≤ W'.heap.size)
    (hk : ∀ k, FP okA W0.heap.size g k → k < W.heap.size → W'.heap[k]? = W.heap[k]? ∧ okB k)
    (hf : ∀ (i : Nat) b cur e, g[i]? = some (some b) → W.heap[b]? = some (.cells cur e (0, 0)) → ∃ cur' : Array Value, W'.heap[b]? = some (.cells cur' e (0, 0)) ∧ cur'.size = cur.size)
    (hl : ∀ (i : Nat) b m cs, g[i]? = some (some b) → s.own[i]? = some (some (m, cs)) → W'.heap[b]? = W.heap[b]?) :
    Ok okB ⟨W', g, ds⟩ g ⟨s.regs, flags s.own, g.length⟩ a' W' := by
  have m : Mv g g (FP okA W0.heap.size g) (FP okB W'.heap.size g) W W' := ⟨fun _ _ h => h, fun k hk' hlt => (hk k hk' hlt).1, fun k hk' hlt => ⟨.inl (hk k hk' hlt).2, hk'.2⟩, hf⟩
  have lv : ∀ i, Live ⟨s.regs, flags s.own, g.length⟩ i → Live s i := fun i ⟨m, cs, hi⟩ => let ⟨_, m', h'⟩ := flags_get hi; ⟨m', cs, h'⟩
  refine ⟨?_, ⟨?_, fun i mk cs b hi hg => ?_⟩, fun i j b hi hj li lj => h.nodup i j b hi hj (lv i li) (lv j lj), fun b hb => ⟨.inr hb, Nat.lt_of_lt_of_le (h.base b hb).2 hs⟩, Keep.refl _, hd, ⟨rfl, fun i hi => ⟨g[i], List.getElem?_eq_getElem hi, List.getElem?_eq_getElem hi⟩⟩, fun i b m cs hg hx hi => (flags_get hi).1, fun i m c cs hi => ?_⟩
  · have := h.regs.mv m
    exact ⟨by rw [ht]; exact this.1, fun t x hx => by rw [ht]; exact this.2 t x hx⟩
  · show (flags s.own).length = g.length
    rw [← h.own.1]; simp [flags]
  · obtain ⟨_, m', hi'⟩ := flags_get hi
    obtain ⟨cells, e, hw, hT⟩ := h.own.2 i m' cs b hi' hg
    exact ⟨cells, e, (hl i b m' cs hg hi').trans hw, hT.mv m⟩
  · obtain ⟨_, m', hi'⟩ := flags_get hi
    exact h.has i m' c cs hi'
end
abbrev Fw (rd : Option Nat) : Fence := { Fence.wide with round := rd }
section
variable {P : Program} {n : Nat} {rd : Option Nat} {Q Q' : Exit → Act → World → Prop} {a : Act} {w : World} {K K' : Act → World → Prop}
theorem callsIn_round {f : FuncId} {us : Array Value} {R : Ending → World → Prop} (h : Calls P f us w R) : CallsIn (Fw rd) n P f us w R := (callsIn_wide (n := n)).2 h
theorem oper_in {o : Oper} (hnd : ∀ c, o.op ≠ .defer c) (h : o.wp P a w K Q) : o.wpIn (Fw rd) n P a w K Q := by
  refine ⟨fun _ _ => trivial, ?_⟩
  have e : o.semAt (Fw rd).round a.eval = execOp a.eval o := by
    cases rd with
    | none => exact Oper.semAt_none a.eval o
    | some l => exact Oper.semAt_some l a.eval o hnd
  rw [e]
  unfold Oper.wp at h
  generalize (execOp a.eval o).run P w = r at h ⊢
  unfold Oper.upon at h
  split at h
  · exact h
  · exact h
  · exact h
  · exact ⟨fun hx => (by cases hx), callsIn_round h⟩
  · refine ⟨fun hx => (by cases hx), fun c cs _ => ?_⟩
    obtain ⟨v, w', hr, hs⟩ := h c cs
    exact ⟨v, w', hr, stepsIn_wide.2 hs⟩
  · exact h
  · exact h.elim
theorem oper_mono {o : Oper} (hK : ∀ a w, K a w → K' a w) (hQ : ∀ e a w, e ≠ .normal → Q e a w → Q' e a w) (h : o.wpIn (Fw rd) n P a w K Q) : o.wpIn (Fw rd) n P a w K' Q' := by
  refine ⟨h.1, ?_⟩
  have h := h.2
  have out : LetsOut Q → LetsOut Q' := fun ⟨a, w, h⟩ => ⟨a, w, hQ _ _ _ (by intro e; cases e) h⟩
  generalize (Oper.semAt (Fw rd).round a.eval o).run P w = x at h ⊢
  unfold Oper.uponIn at h ⊢
  split at h
  · exact hK _ _ h
  · exact hK _ _ h
  · exact hK _ _ h
  · refine ⟨h.1, h.2.mono (fun e w' he => ?_)⟩
    cases e with
    | returned v => exact hK _ _ he
    | panicked c => exact hQ _ _ _ (by intro e; cases e) he
    | outgrown => exact out he
  · exact ⟨h.1, h.2.mono (fun v w' he => hK _ _ he)⟩
  · refine ⟨h.1, h.2.mono (fun e w' he => ?_)⟩
    cases e with
    | returned v => exact hK _ _ he
    | panicked c => exact hQ _ _ _ (by intro e; cases e) he
    | outgrown => exact out he
  · exact hQ _ _ _ (by intro e; cases e) h
  · exact h.elim
theorem list_in {ops : Array Oper} {ys : List Oper} (hQ : ∀ e a w, Q e a w → e = .normal) : ∀ {xs : List Oper} {a : Act} {w : World}, (∀ o ∈ xs, ∀ c, o.op ≠ .defer c) → wpList P ops Q xs a w → (∀ a w, Q .normal a w → wpListIn (Fw rd) n P ops Q' ys a w) → wpListIn (Fw rd) n P ops Q' (xs ++ ys) a w
  | [], a, w, _, h, hK => hK _ _ h
  | o :: r, a, w, hnd, h, hK => by
    have hr : ∀ o ∈ r, ∀ c, o.op ≠ .defer c := fun o ho => hnd o (List.mem_cons_of_mem _ ho)
    rw [List.cons_append]
    unfold wpList at h
    unfold wpListIn
    split at h
    · rename_i hw
      rw [if_pos hw]
      rcases h with h | ⟨_, a, w, h⟩
      · exact oper_mono (fun a w h => list_in hQ hr h hK) (fun e a w he h => absurd (hQ _ _ _ h) he) (oper_in (hnd o List.mem_cons_self) h)
      · have := hQ _ _ _ h
        cases this
    · rename_i hw
      rw [if_neg hw]
      exact ⟨fun _ _ => trivial, list_in hQ hr h hK⟩
theorem seg_at {L : Lays} (hL : LaysOk P L) {ops : Array Oper} {i : Nat} {xs : List Oper} {ok0 : Nat → Prop} {w0 : Base} {g : List (Option Nat)} {s : St} (q : St) (pf : List (Prf P)) (hok : Ok ok0 w0 g s a w)
    (h : (match runL L ops i xs s (Prf.ans pf) with
      | some (s', az, ds) => (some (fit q s', az, ds) : Option ((St × List (List AC)) × List Ans × List Dem))
      | none => none) = some ((q, []), [], Prf.dem pf)) : wpList P ops (fun e a' w' => e = .normal ∧ ∃ g', Ok ok0 w0 g' q a' w') xs a w := by
  split at h
  · rename_i s' az ds h1
    injection h with h
    injection h with h2 h3
    injection h3 with h3 h4
    subst h3
    refine runL_at hL hok h1 (by rw [h4]; exact Prf.sos pf) (fun g' a' w' hk => ⟨rfl, ?_⟩)
    obtain ⟨g2, h5⟩ := hk.fit q [] (by rw [h2]; exact fun cs hc => by cases hc)
    rw [h2] at h5
    exact ⟨g2, h5⟩
  · cases h
theorem region_in {L : Lays} (hL : LaysOk P L) {id : Nat} {ops : Array Oper} {ok0 : Nat → Prop} {w0 : Base} {g : List (Option Nat)} {s : St} (q : St) (pf : List (Prf P)) (hok : Ok ok0 w0 g s a w)
    (h : (match runL L ops 0 ops.toList s (Prf.ans pf) with
      | some (s', az, ds) => (some (fit q s', az, ds) : Option ((St × List (List AC)) × List Ans × List Dem))
      | none => none) = some ((q, []), [], Prf.dem pf))
    (hnd : (ops.toList.all fun o => match o.op with | .defer _ => false | _ => true) = true) (hQ : ∀ g' a' w', Ok ok0 w0 g' q a' w' → Q .normal a' w') : (Code.region id ops false).wpIn (Fw rd) n P Q a w := by
  have nd : ∀ o ∈ ops.toList, ∀ c, o.op ≠ .defer c := fun o ho c e => by
    have := List.all_eq_true.1 hnd o ho
    rw [e] at this
    cases this
  have h2 := list_in (rd := rd) (n := n) (Q' := Q) (ys := []) (fun e a w h => h.1) nd (seg_at hL q pf hok h) (fun a w ⟨_, g', hk⟩ => hQ g' a w hk)
  rw [List.append_nil] at h2
  exact wpIn_region_list h2
end
theorem run_callYield {P : Program} {ρ : Operand → Value} {o : Oper} {x y : Operand} {ts : Array TypeId} {L : Nat} {W : World} (ho : o.op = .call { callee := .value x, args := #[y], argTypes := ts }) (hx : ρ x = .func (.yield L) #[] #[]) : (execOp ρ o).run P W = (Instr.yield L #[ρ y]).run P W := by
  simp [execOp, ho, resolve, hx, Deferred.ofValue, invoke, go_sem]
end
end Go.Proofs.Ytjfkhbkddenfoaa.Ev
namespace Go.Proofs.Ytjfkhbkddenfoaa.Ev
open Go Go.RowKit Go.Proofs.YtjfkhbkddenfoaaW.PrintWords Go.Proofs.YtjfkhbkddenfoaaW.PrintMore Go.Proofs.YtjfkhbkddenfoaaW.PrintLast Go.Proofs.Ytjfkhbkddenfoaa Go.Proofs.Ytjfkhbkddenfoaa.Nt Go.Proofs.Ytjfkhbkddenfoaa.Zi
section
def opsOf : Code → Array Oper
  | .region _ ops _ => ops
  | _ => #[]
def rfOf : Code → List (Code × Code)
  | .seq x y => rfOf x ++ rfOf y
  | .block _ c => rfOf c
  | .rangeFunc _ _ a b => [(a, b)]
  | _ => []
def rfA (fn : Func) : Code := ((rfOf (fn.body.getD .skip)).getD 0 (.skip, .skip)).1
def rfB (fn : Func) : Code := ((rfOf (fn.body.getD .skip)).getD 0 (.skip, .skip)).2
theorem times_con (l : List Lin) : ConH Try.prog 32 [.one (lins l)] [] (.g (.one (.fn 64 [] [.ptr 0 0]))) [some (false, [lins l])] :=
  conH_of LL_ok DD_ok [fact (p := ∀ cs ∈ ([] : List (List AC)), Plain cs) none_] Try.func32 (by kernel_rfl) rfl (by kernel_rfl)
def zRat : List AC := [.v (.bool false), .row 1 0 [], .row 1 0 []]
def N0 (l : List Lin) : St := ⟨sparse 21 [(0, .g (.one (lins l)))], [], 0⟩
def N1 (l : List Lin) : St := ⟨sparse 21 [(0, .g (.one (lins l))), (2, .g (.one (.ptr 0 0))), (3, .g (truth false))], [some (false, zRat)], 0⟩
def N2 (l : List Lin) : St := ⟨sparse 21 [(0, .g (.one (lins l))), (2, .g (.one (.ptr 0 0))), (3, .g (truth false)), (4, .g (.one (.ptr 1 0)))], [some (false, zRat), some (false, zRat)], 0⟩
def N3 (l : List Lin) : St := ⟨sparse 21 [(0, .g (.one (lins l))), (2, .g (.one (.ptr 0 0))), (3, .g (truth false)), (4, .g (.one (.ptr 1 0))), (5, .g (.one (.ptr 2 0)))], [some (false, zRat), some (false, zRat), some (false, [.v (.bool false)])], 0⟩
def N4 (l : List Lin) : St := ⟨sparse 21 [(2, .g (.one (.ptr 0 0))), (3, .g (truth false)), (4, .g (.one (.ptr 1 0))), (5, .g (.one (.ptr 2 0))), (8, .g (.one (.fn 64 [] [.ptr 3 0])))], [some (false, zRat), some (false, zRat), some (false, [.v (.bool false)]), some (false, [lins l])], 0⟩
theorem n0_at (l : List Lin) : CodeCon Try.prog (rg Try.f12 0) (N0 l) .normal (N1 l) := at_ _ _ [] (by kernel_rfl)
theorem n1_at (l : List Lin) : CodeCon Try.prog (rg Try.f12 1) (N1 l) .normal (N2 l) := at_ _ _ [] (by kernel_rfl)
theorem n2_at (l : List Lin) : CodeCon Try.prog (rg Try.f12 2) (N2 l) .normal (N3 l) := at_ _ _ [] (by kernel_rfl)
theorem n3_at (l : List Lin) : CodeCon Try.prog (rg Try.f12 3) (N3 l) .normal (N4 l) := at_ _ _ [bare [[lins l]] (fun cs hc c hm => by rw [List.mem_singleton.1 hc] at hm; rw [List.mem_singleton.1 hm]; rfl), hands [] [true] (times_con l)] (by kernel_rfl)
def N7 (o : Option Rat) : St := ⟨sparse 21 [(2, .g (.one (.ptr 0 0))), (3, .g (truth false)), (4, .g (.one (.ptr 1 0))), (5, .g (.one (.ptr 2 0)))], [some (true, zRat), some (true, bestC o), some (true, [.v (.bool o.isSome)])], 3⟩
def N8 (o : Option Rat) : St := ⟨sparse 21 [(2, .g (.one (.ptr 0 0))), (3, .g (truth o.isSome))], [some (true, bestC o), some (true, bestC o), some (true, [.v (.bool o.isSome)])], 3⟩
theorem n7_at (o : Option Rat) : CodeCon Try.prog (rg Try.f12 7) (N7 o) .normal (N8 o) := by
  cases o <;> exact at_ _ _ [] (by kernel_rfl)
def yv (L : Nat) : Value := .func (.yield L) #[] #[]
def T0 (l : List Lin) (L : Nat) : St := ⟨sparse 26 [(0, .g (.one (.v (yv L)))), (1, .g (.one (.ptr 0 0)))], [some (true, [lins l])], 1⟩
def T1 (l : List Lin) (L : Nat) (i : Int) : St := ⟨sparse 26 [(0, .g (.one (.v (yv L)))), (1, .g (.one (.ptr 0 0))), (7, .g (.one (lins l))), (8, .g (num l.length)), (9, .g (num i))], [some (true, [lins l])], 1⟩
def T2 (l : List Lin) (L : Nat) (i : Int) (b : Bool) : St := ⟨sparse 26 [(0, .g (.one (.v (yv L)))), (1, .g (.one (.ptr 0 0))), (7, .g (.one (lins l))), (8, .g (num l.length)), (9, .g (num i)), (10, .g (truth b))], [some (true, [lins l])], 1⟩
def tC (t : Rat) : List AC := bestC (some t)
def T3 (l : List Lin) (L : Nat) (i : Int) (o : Option Rat) : St := ⟨sparse 26 [(0, .g (.one (.v (yv L)))), (1, .g (.one (.ptr 0 0))), (7, .g (.one (lins l))), (8, .g (num l.length)), (9, .g (num i)), (5, .g (.one (.ptr 1 0))), (6, .g (truth o.isSome))], [some (true, [lins l]), some (false, bestC o)], 1⟩
def T4 (l : List Lin) (L : Nat) (i : Int) (t : Rat) : St := ⟨sparse 26 [(0, .g (.one (.v (yv L)))), (1, .g (.one (.ptr 0 0))), (7, .g (.one (lins l))), (8, .g (num l.length)), (9, .g (num i)), (19, .g (truth true)), (20, .g (.one (.v (yv L)))), (21, .g (ra t))], [some (true, [lins l])], 1⟩
def T5 (l : List Lin) (L : Nat) (i : Int) : St := ⟨sparse 26 [(0, .g (.one (.v (yv L)))), (1, .g (.one (.ptr 0 0))), (7, .g (.one (lins l))), (8, .g (num l.length)), (9, .g (num i)), (24, .g (truth false))], [some (true, [lins l])], 1⟩
theorem t0_at (l : List Lin) (L : Nat) : CodeCon Try.prog (rg Try.f64 0) (T0 l L) .normal (T1 l L 0) := at_ _ _ [] (by kernel_rfl)
theorem t1_at (l : List Lin) (L : Nat) (i : Int) : CodeCon Try.prog (rg Try.f64 1) (T1 l L i) .normal (T2 l L i (decide (i < (l.length : Int)))) := at_ _ _ [] (by kernel_rfl)
def T2x (l : List Lin) (L : Nat) (i : Int) (x : Lin) : St := ⟨sparse 26 [(0, .g (.one (.v (yv L)))), (1, .g (.one (.ptr 0 0))), (7, .g (.one (lins l))), (8, .g (num l.length)), (9, .g (num i)), (4, .g (.one (.ptr 1 0)))], [some (true, [lins l]), some (false, x.c)], 1⟩
theorem t2_at (l : List Lin) (L : Nat) (b : Bool) (i : Nat) (hi : i < l.length) : CodeCon Try.prog (rg Try.f64 2) (T2 l L i b) .normal (T2x l L i l[i]) := by
  have hel := lin_at hi
  exact at_ _ _ [elem hel] (by kernel_rfl)
theorem t3_at (l : List Lin) (L : Nat) (i : Int) (x : Lin) (hx : x.ok) : CodeCon Try.prog (rg Try.f64 3) (T2x l L i x) .normal (T3 l L i (passF x)) := by
  have P := passes_con x hx
  cases hp : passF x with
  | none => rw [hp] at P; exact at_ _ _ [gives P] (by kernel_rfl)
  | some t => rw [hp] at P; exact at_ _ _ [gives P] (by kernel_rfl)
theorem t4_at (l : List Lin) (L : Nat) (i : Int) : CodeCon Try.prog (rg Try.f64 4) (T3 l L i none) .normal (T5 l L i) := at_ _ _ [ends (rfl : false = false)] (by kernel_rfl)
theorem t5_at (l : List Lin) (L : Nat) (i : Int) : CodeCon Try.prog (rg Try.f64 5) (T5 l L i) .normal (T1 l L (IntKind.i64.wrap (i + 1))) := at_ _ _ [] (by kernel_rfl)
section
variable {ok0 : Nat → Prop} {w0 : Base} {g : List (Option Nat)} {a : Act} {w : World}
theorem t4_pre (l : List Lin) (L : Nat) (i : Int) (t : Rat) (hok : Ok ok0 w0 g (T3 l L i (some t)) a w) : wpList Try.prog (opsOf (rg Try.f64 4)) (fun e a' w' => e = .normal ∧ ∃ g', Ok ok0 w0 g' (T4 l L i t) a' w') ((opsOf (rg Try.f64 4)).toList.take 4) a w :=
  seg_at LL_ok (i := 0) (T4 l L i t) [ends (rfl : true = true)] hok (by kernel_rfl)
theorem t4_post (l : List Lin) (L : Nat) (i : Int) (t : Rat) (hok : Ok ok0 w0 g ((T4 l L i t).put (some 22) (some (.g (truth true)))) a w) : wpList Try.prog (opsOf (rg Try.f64 4)) (fun e a' w' => e = .normal ∧ ∃ g', Ok ok0 w0 g' (T5 l L i) a' w') ((opsOf (rg Try.f64 4)).toList.drop 5) a w :=
  seg_at LL_ok (i := 5) (T5 l L i) [] hok (by kernel_rfl)
def R0 (o : Option Rat) (t : Rat) : St := ⟨sparse 21 [(4, .g (.one (.ptr 0 0))), (5, .g (.one (.ptr 1 0))), (9, .g (ra t))], [some (true, bestC o), some (true, [.v (.bool o.isSome)])], 2⟩
def R1 (o : Option Rat) (t : Rat) (m : Bool) (f : Nat) : St := ⟨sparse 21 [(4, .g (.one (.ptr 0 0))), (5, .g (.one (.ptr 1 0))), (6, .g (.one (.ptr 2 0)))], [some (true, bestC o), some (true, [.v (.bool o.isSome)]), some (m, tC t)], f⟩
def R2 (o : Option Rat) (t : Rat) (b : Bool) : St := ⟨sparse 21 [(4, .g (.one (.ptr 0 0))), (5, .g (.one (.ptr 1 0))), (6, .g (.one (.ptr 2 0))), (17, .g (truth b))], [some (true, bestC o), some (true, [.v (.bool o.isSome)]), some (true, tC t)], 3⟩
def R3' (o : Option Rat) (t : Rat) : St := ⟨sparse 21 [], [some (true, bestC o), some (true, [.v (.bool o.isSome)]), some (true, tC t)], 3⟩
def better1 (o : Option Rat) (t : Rat) : Option Rat := match o with
  | none => some t
  | some b => if cmpR t b < 0 then some t else some b
variable {n : Nat} {rd : Option Nat} {Q : Exit → Act → World → Prop}
theorem r_assign (o : Option Rat) (t : Rat) (hok : Ok ok0 w0 g (R0 o t) a w) (hQ : ∀ g' a' w', Ok ok0 w0 g' (R1 o t false 2) a' w' → Q .normal a' w') : (rfA Try.f12).wpIn (Fw rd) n Try.prog Q a w := by
  cases o <;> exact region_in (id := 4) (ops := opsOf (rfA Try.f12)) LL_ok (R1 _ t false 2) [] hok (by kernel_rfl) (by kernel_rfl) hQ
theorem r_test (o : Option Rat) (t : Rat) (ht : short 1200 t) (ho : ∀ b, o = some b → short 1200 b) (hok : Ok ok0 w0 g (R1 o t true 3) a w) (hQ : ∀ g' a' w' b, (o = none → b = true) → (∀ x, o = some x → b = decide (cmpR t x < 0)) → Ok ok0 w0 g' (R2 o t b) a' w' → Q .normal a' w') : (pick1 5 (regsOf (rfB Try.f12))).wpIn (Fw rd) n Try.prog Q a w := by
  cases o with
  | none => exact region_in (id := 5) (ops := opsOf (pick1 5 (regsOf (rfB Try.f12)))) LL_ok (R2 none t true) [ends (rfl : (!false) = true)] hok (by kernel_rfl) (by kernel_rfl) (fun g' a' w' h => hQ g' a' w' true (fun _ => rfl) (fun x h => by cases h) h)
  | some b =>
    have K := gCmp (is_ra ht (by decide)) (is_ra (ho b rfl) (by decide))
    exact region_in (id := 5) (ops := opsOf (pick1 5 (regsOf (rfB Try.f12)))) LL_ok (R2 (some b) t (decide (cmpR t b < 0))) [ends (rfl : (!true) = false), gives K] hok (by kernel_rfl) (by kernel_rfl) (fun g' a' w' h => hQ g' a' w' _ (fun h => by cases h) (fun x h => by cases h; rfl) h)
theorem r_store (o : Option Rat) (t : Rat) (b : Bool) (hok : Ok ok0 w0 g (R2 o t b) a w) (hQ : ∀ g' a' w', Ok ok0 w0 g' (R3' (some t) t) a' w' → Q .normal a' w') : (pick1 6 (regsOf (rfB Try.f12))).wpIn (Fw rd) n Try.prog Q a w := by
  cases o <;> exact region_in (id := 6) (ops := opsOf (pick1 6 (regsOf (rfB Try.f12)))) LL_ok (R3' (some t) t) [] hok (by kernel_rfl) (by kernel_rfl) hQ
end
end
section
def Cel (okR : Nat → Prop) (W : World) (b : Nat) (cs : List AC) : Prop := ∃ (cells : Array Value) (e : Nat), W.heap[b]? = some (.cells cells e (0, 0)) ∧ TL [] okR W cs (cells.toList.take cs.length)
theorem Cel.move {okR : Nat → Prop} {W W' : World} {b : Nat} {cs : List AC} (h : Cel okR W b cs) (hb : W'.heap[b]? = W.heap[b]?) (hk : ∀ k, okR k → k < W.heap.size → W'.heap[k]? = W.heap[k]?) : Cel okR W' b cs := by
  obtain ⟨cells, e, h1, h2⟩ := h
  exact ⟨cells, e, hb.trans h1, h2.mv ⟨fun _ _ h => h, hk, fun _ h _ => h, fun i b cur e hb => by cases hb⟩⟩
theorem Cel.lt {okR : Nat → Prop} {W : World} {b : Nat} {cs : List AC} (h : Cel okR W b cs) : b < W.heap.size := by
  obtain ⟨cells, e, h1, h2⟩ := h
  exact (Array.getElem?_eq_some_iff.1 h1).1
theorem regs_sparse {g : List (Option Nat)} {ok : Nat → Prop} {w : World} {tm : Array Value} (n : Nat) (hn : tm.size = n) (l : List (Nat × AV)) (h : ∀ q ∈ l, ∃ u, tm[q.1]? = some u ∧ TV g ok w q.2 u) : RegsOk g ok w (sparse n l) tm := by
  have key : ∀ (l : List (Nat × AV)) (r : List (Option AV)), (∀ q ∈ l, ∃ u, tm[q.1]? = some u ∧ TV g ok w q.2 u) → RegsOk g ok w r tm → RegsOk g ok w (l.foldl (fun r p => r.set p.1 (some p.2)) r) tm := by
    intro l
    induction l with
    | nil => exact fun r _ h => h
    | cons q l ih =>
      intro r hl hr
      refine ih _ (fun q' hq => hl q' (List.mem_cons_of_mem _ hq)) ⟨by rw [List.length_set]; exact hr.1, fun t x hx => ?_⟩
      rw [List.getElem?_set] at hx
      split at hx
      · rename_i e
        subst e
        split at hx
        · cases hx; exact hl q List.mem_cons_self
        · cases hx
      · exact hr.2 t x hx
  refine key l _ h ⟨by simp [hn], fun t x hx => ?_⟩
  rw [List.getElem?_replicate] at hx
  split at hx <;> cases hx
theorem Ok.make {okR : Nat → Prop} {W : World} (l : List (Nat × List AC)) (n : Nat) (rs : List (Nat × AV)) {tm : Array Value} {ds : List Deferred} (hnd : (l.map (·.1)).Nodup) (hc : ∀ q ∈ l, Cel okR W q.1 q.2) (hx : ∀ q ∈ l, ¬ okR q.1) (hn : tm.size = n)
    (hr : ∀ q ∈ rs, ∃ u, tm[q.1]? = some u ∧ TV (l.map fun q => some q.1) (FP okR W.heap.size (l.map fun q => some q.1)) W q.2 u) :
    Ok okR ⟨W, l.map fun q => some q.1, ds⟩ (l.map fun q => some q.1) ⟨sparse n rs, l.map fun q => some (true, q.2), l.length⟩ ⟨tm, ds⟩ W := by
  have hg : ∀ (i : Nat) b, (l.map fun q => some q.1)[i]? = some (some b) → ∃ q, l[i]? = some q ∧ q.1 = b := fun i b h => by
    rw [List.getElem?_map] at h
    obtain ⟨q, hq, e⟩ := Option.map_eq_some_iff.1 h
    exact ⟨q, hq, by injection e⟩
  have ho : ∀ (i : Nat) m cs, (l.map fun q => (some (true, q.2) : Option (Bool × List AC)))[i]? = some (some (m, cs)) → m = true ∧ ∃ q, l[i]? = some q ∧ q.2 = cs := fun i m cs h => by
    rw [List.getElem?_map] at h
    obtain ⟨q, hq, e⟩ := Option.map_eq_some_iff.1 h
    injection e with e
    injection e with e1 e2
    exact ⟨e1.symm, q, hq, e2⟩
  have hm : ∀ k, okR k → some k ∉ l.map fun q => some q.1 := fun k hk hm => by
    obtain ⟨q, hq, e⟩ := List.mem_map.1 hm
    injection e with e
    exact hx q hq (e ▸ hk)
  refine ⟨regs_sparse n hn rs hr, ⟨by simp, fun i m cs b hi hb => ?_⟩, fun i j b hi hj _ _ => ?_, fun b hb => ⟨.inr hb, ?_⟩, Keep.refl _, rfl, ⟨by simp, fun i hi => ?_⟩, fun i b m cs _ _ hi => (ho i m cs hi).1, fun i m c cs hi => ?_⟩
  · obtain ⟨q, hq, rfl⟩ := hg i b hb
    obtain ⟨_, q', hq', rfl⟩ := ho i m cs hi
    rw [hq] at hq'
    cases hq'
    obtain ⟨cells, e, h1, h2⟩ := hc q (List.mem_of_getElem? hq)
    exact ⟨cells, e, h1, h2.mv ⟨fun i b hb => (by cases hb), fun _ _ _ => rfl, fun k hk _ => ⟨.inl hk, hm k hk⟩, fun i b cur e hb => by cases hb⟩⟩
  · obtain ⟨q, hq, rfl⟩ := hg i b hi
    obtain ⟨q', hq', e⟩ := hg j _ hj
    have h1 : (l.map (·.1))[i]? = some q.1 := by rw [List.getElem?_map, hq]; rfl
    have h2 : (l.map (·.1))[j]? = some q.1 := by rw [List.getElem?_map, hq', Option.map_some, e]
    exact (List.getElem?_inj (List.getElem?_eq_some_iff.1 h1).1 hnd).1 (h1.trans h2.symm)
  · obtain ⟨q, hq, e⟩ := List.mem_map.1 hb
    injection e with e
    subst e
    exact (hc q hq).lt
  · obtain ⟨q, hq⟩ : ∃ q, l[i]? = some q := ⟨l[i], List.getElem?_eq_getElem hi⟩
    exact ⟨some q.1, by rw [List.getElem?_map, hq]; rfl, by rw [List.getElem?_map, hq]; rfl⟩
  · obtain ⟨_, q, hq, _⟩ := ho i m (c :: cs) hi
    exact ⟨q.1, by rw [List.getElem?_map, hq]; rfl⟩
theorem Ok.cel {okA okR : Nat → Prop} {W0 : Base} {g : List (Option Nat)} {s : St} {a : Act} {W : World} (h : Ok okA W0 g s a W) {i b : Nat} {m : Bool} {cs : List AC} (hi : i < s.fix) (hb : W0.h[i]? = some (some b)) (ho : s.own[i]? = some (some (m, cs))) (hp : Plain cs) (hf : ∀ k, FP okA W0.heap.size g k → k < W.heap.size → okR k) : Cel okR W b cs := by
  obtain ⟨x, h1, h2⟩ := h.fixd.2 i hi
  rw [hb] at h2
  cases h2
  obtain ⟨cells, e, h3, h4⟩ := h.own.2 i m cs b ho h1
  exact ⟨cells, e, h3, h4.plain hf hp⟩
theorem Ok.reg {okA : Nat → Prop} {W0 : Base} {g : List (Option Nat)} {s : St} {a : Act} {W : World} (h : Ok okA W0 g s a W) {t : Nat} {x : AV} (hx : s.regs[t]? = some (some x)) : TV g (FP okA W0.heap.size g) W x (a.eval (.tmp t)) := by
  obtain ⟨u, hu, hT⟩ := h.regs.2 t x hx
  have : a.eval (.tmp t) = u := by
    show a.tmps.getD t undef = u
    rw [Array.getD_eq_getD_getElem?, hu]; rfl
  rw [this]
  exact hT
theorem Ok.truth_at {okA : Nat → Prop} {W0 : Base} {g : List (Option Nat)} {s : St} {a : Act} {W : World} (h : Ok okA W0 g s a W) {t : Nat} {b : Bool} (hx : s.regs[t]? = some (some (.g (truth b)))) : a.eval (.tmp t) = .bool b := TC.v_eq (g := g) (ok := FP okA W0.heap.size g) (w := W) (h.reg hx)
structure Pl where
  w0 : World
  ok : Nat → Prop
  b0 : Nat
  b1 : Nat
  b2 : Nat
  bx : Nat
  D : Nat
  L : Nat
def Pl.sp (p : Pl) : List Nat := [p.b0, p.b1, p.b2, p.bx, p.D, p.L]
def Pl.okR (p : Pl) (k : Nat) : Prop := (p.ok k ∨ p.w0.heap.size ≤ k) ∧ k ∉ p.sp
structure Pl.Good (p : Pl) : Prop where
  nd : p.sp.Nodup
  new : ∀ k ∈ p.sp, p.w0.heap.size ≤ k
structure JJ (p : Pl) (r : Loop) (o : Option Rat) (W : World) : Prop where
  below : Below p.w0.heap.size p.w0 W
  c0 : Cel p.okR W p.b0 zRat
  c1 : Cel p.okR W p.b1 (bestC o)
  c2 : Cel p.okR W p.b2 [.v (.bool o.isSome)]
  hD : W.heap[p.D]? = some (.deferred (some []))
  hL : W.heap[p.L]? = some (.loop r)
  hx : p.bx < W.heap.size
section
variable {p : Pl} {r : Loop} {o : Option Rat} {W W' : World}
theorem JJ.lt (h : JJ p r o W) : ∀ k ∈ p.sp, k < W.heap.size := fun k hk => by
  simp only [Pl.sp, List.mem_cons, List.not_mem_nil, or_false] at hk
  rcases hk with rfl | rfl | rfl | rfl | rfl | rfl
  · exact h.c0.lt
  · exact h.c1.lt
  · exact h.c2.lt
  · exact h.hx
  · exact (Array.getElem?_eq_some_iff.1 h.hD).1
  · exact (Array.getElem?_eq_some_iff.1 h.hL).1
theorem JJ.new (h : JJ p r o W) {k : Nat} (hk : W.heap.size ≤ k) : p.okR k := ⟨.inr (Nat.le_trans h.below.size hk), fun hm => by have := h.lt k hm; omega⟩
theorem JJ.fp (h : JJ p r o W) {g : List (Option Nat)} {k : Nat} (hk : FP p.okR W.heap.size g k) : p.okR k := hk.1.elim id (fun h1 => h.new h1)
theorem JJ.move (hp : p.Good) (h : JJ p r o W) (hb : Below p.w0.heap.size W W') (hk : ∀ k, k < W.heap.size → k ≠ p.bx → W'.heap[k]? = W.heap[k]?) : JJ p r o W' := by
  have nd := hp.nd
  simp only [Pl.sp, List.nodup_cons, List.mem_cons, List.not_mem_nil, or_false, not_or, not_false_eq_true, List.nodup_nil, and_true] at nd
  obtain ⟨⟨_, _, n03, _, _⟩, ⟨_, n13, _, _⟩, ⟨n23, _, _⟩, ⟨n34, n35⟩, _⟩ := nd
  have hR : ∀ k, p.okR k → k < W.heap.size → W'.heap[k]? = W.heap[k]? := fun k hk' hlt => hk k hlt (fun e => hk'.2 (by rw [e]; simp [Pl.sp]))
  exact ⟨h.below.trans hb, h.c0.move (hk _ h.c0.lt n03) hR, h.c1.move (hk _ h.c1.lt n13) hR, h.c2.move (hk _ h.c2.lt n23) hR, (hk _ (Array.getElem?_eq_some_iff.1 h.hD).1 (Ne.symm n34)).trans h.hD, (hk _ (Array.getElem?_eq_some_iff.1 h.hL).1 (Ne.symm n35)).trans h.hL, Nat.lt_of_lt_of_le h.hx hb.size⟩
theorem Keep.to (hp : p.Good) (hn : p.w0.heap.size ≤ W.heap.size) {b : Nat} (hb : b ∈ p.sp) (h : Keep ⟨W, [some b], []⟩ W') : Below p.w0.heap.size W W' ∧ ∀ k, k < W.heap.size → k ≠ b → W'.heap[k]? = W.heap[k]? := by
  have key : ∀ k, k < W.heap.size → k ≠ b → W'.heap[k]? = W.heap[k]? := fun k hk hne => h.block k hk (fun hx => hne (by
    have := List.mem_singleton.1 (show some k ∈ [some b] from hx)
    injection this))
  refine ⟨⟨h.os, h.tape, h.output, h.size, fun k hk => ?_⟩, key⟩
  exact key k (by omega) (fun e => by have := hp.new b hb; omega)
end
end
section
theorem best_plain (o : Option Rat) : Plain (bestC o) := by
  intro c hc
  cases o with
  | none =>
    simp only [bestC, List.mem_cons, List.not_mem_nil, or_false] at hc
    rcases hc with rfl | rfl | rfl <;> rfl
  | some t =>
    simp only [bestC, List.mem_cons, List.not_mem_nil, or_false] at hc
    rcases hc with rfl | rfl | rfl <;> rfl
theorem found_plain (b : Bool) : Plain [.v (.bool b)] := fun c hc => by rw [List.mem_singleton.1 hc]; rfl
def recN (f : FuncId) (tm : Array Value) (A B : Code) (D : Nat) : Loop := { state := .ready, pending := none, fn := f, tmps := tm, params := #[9], assign := A, body := B, defers := D }
section
variable {p : Pl} {o : Option Rat} {W : World}
theorem round_at (hp : p.Good) {f : FuncId} {tm : Array Value} (hJ : JJ p (recN f tm (rfA Try.f12) (rfB Try.f12) p.D) o W) (ht : tm.size = 21) (h4 : tm[4]? = some (.pointer (some ⟨p.b1, 0, none⟩))) (h5 : tm[5]? = some (.pointer (some ⟨p.b2, 0, none⟩)))
    {t : Rat} {v : Value} (hv : TG [] p.okR W (ra t) v) (hs : short 1200 t) (ho : ∀ b, o = some b → short 1200 b) (n : Nat) :
    ∃ fn tmps assign body, (Instr.yield p.L #[v]).run Try.prog W = .ok (.round p.L fn tmps assign body) W ∧ RoundIn (Fw none) n Try.prog p.L fn tmps assign body W fun e W' =>
      e = .returned (.bool true) ∧ JJ p (recN f tm (rfA Try.f12) (rfB Try.f12) p.D) (better1 o t) W' ∧ W.heap.size ≤ W'.heap.size ∧ ∀ k, k < W.heap.size → k ≠ p.b1 → k ≠ p.b2 → k ≠ p.L → W'.heap[k]? = W.heap[k]? := by
  obtain ⟨A, hA⟩ : ∃ A, A = rfA Try.f12 := ⟨_, rfl⟩
  obtain ⟨B, hB⟩ : ∃ B, B = rfB Try.f12 := ⟨_, rfl⟩
  rw [← hA, ← hB] at hJ ⊢
  have nd := hp.nd
  simp only [Pl.sp, List.nodup_cons, List.mem_cons, List.not_mem_nil, or_false, not_or, not_false_eq_true, List.nodup_nil, and_true] at nd
  obtain ⟨⟨n01, n02, n03, n04, n05⟩, ⟨n12, n13, n14, n15⟩, ⟨n23, n24, n25⟩, ⟨n34, n35⟩, n45⟩ := nd
  have s1 : ¬ p.okR p.b1 := fun h => h.2 (by simp [Pl.sp])
  have s2 : ¬ p.okR p.b2 := fun h => h.2 (by simp [Pl.sp])
  have sL : ¬ p.okR p.L := fun h => h.2 (by simp [Pl.sp])
  have hLlt := (Array.getElem?_eq_some_iff.1 hJ.hL).1
  refine ⟨_, _, _, _, run_yield hJ.hL rfl, roundIn_of_wpIn trivial ?_⟩
  show A.wpIn (Fw (some p.L)) n Try.prog _ ⟨((#[9] : Array Tmp).zip #[v]).foldl (fun tmps (x : Tmp × Value) => tmps.setIfInBounds x.1 x.2) tm, []⟩ W
  have et : ((#[9] : Array Tmp).zip #[v]).foldl (fun tmps (x : Tmp × Value) => tmps.setIfInBounds x.1 x.2) tm = tm.setIfInBounds 9 v := by simp
  rw [et]
  -- the round's state
  have k0 : Ok p.okR ⟨W, [some p.b1, some p.b2], []⟩ [some p.b1, some p.b2] (R0 o t) ⟨tm.setIfInBounds 9 v, []⟩ W := by
    refine Ok.make [(p.b1, bestC o), (p.b2, [.v (.bool o.isSome)])] 21 [(4, .g (.one (.ptr 0 0))), (5, .g (.one (.ptr 1 0))), (9, .g (ra t))] (by simpa using n12) ?_ ?_ (by simp [ht]) ?_
    · intro q hq
      simp only [List.mem_cons, List.not_mem_nil, or_false] at hq
      rcases hq with rfl | rfl
      · exact hJ.c1
      · exact hJ.c2
    · intro q hq
      simp only [List.mem_cons, List.not_mem_nil, or_false] at hq
      rcases hq with rfl | rfl
      · exact s1
      · exact s2
    · intro q hq
      simp only [List.mem_cons, List.not_mem_nil, or_false] at hq
      rcases hq with rfl | rfl | rfl
      · exact ⟨_, by rw [Array.getElem?_setIfInBounds_ne (by decide)]; exact h4, p.b1, rfl, rfl⟩
      · exact ⟨_, by rw [Array.getElem?_setIfInBounds_ne (by decide)]; exact h5, p.b2, rfl, rfl⟩
      · refine ⟨v, by rw [Array.getElem?_setIfInBounds_self_of_lt (by omega)], ?_⟩
        exact TG.mv ⟨fun i b hb => (by cases hb), fun _ _ _ => rfl, fun k hk _ => ⟨.inl hk, fun hm => by
          simp only [List.map_cons, List.map_nil, List.mem_cons, Option.some.injEq, List.not_mem_nil, or_false] at hm
          rcases hm with rfl | rfl
          · exact s1 hk
          · exact s2 hk⟩, fun i b cur e hb => by cases hb⟩ hv
  refine (congrArg (fun c => Code.wpIn (Fw (some p.L)) n Try.prog c _ _ W) hA).mpr ?_
  refine r_assign o t k0 (fun g1 a1 W1 k1 => ?_)
  have hx1 : ¬ Base.X ⟨W, [some p.b1, some p.b2], []⟩ p.L := fun hx => by
    have : some p.L ∈ [some p.b1, some p.b2] := hx
    simp only [List.mem_cons, Option.some.injEq, List.not_mem_nil, or_false] at this
    rcases this with h | h
    · exact n15 h.symm
    · exact n25 h.symm
  have hL1 : W1.heap[p.L]? = some (.loop (recN f tm A B p.D)) := (k1.below.block p.L hLlt hx1).trans hJ.hL
  have hs1 : W.heap.size ≤ W1.heap.size := k1.below.size
  refine ⟨_, run_beginRound hL1 rfl, ?_⟩
  obtain ⟨W2, hW2⟩ : ∃ W2, W1.putObj p.L (.loop { recN f tm A B p.D with state := .busy }) = W2 := ⟨_, rfl⟩
  rw [hW2]
  have hs2 : W2.heap.size = W1.heap.size := by rw [← hW2]; exact World.putObj_size
  have ho2 : ∀ k, k ≠ p.L → W2.heap[k]? = W1.heap[k]? := fun k hk => by rw [← hW2]; exact World.putObj_heap_other hk
  have hL2 : W2.heap[p.L]? = some (.loop { recN f tm A B p.D with state := .busy }) := by rw [← hW2]; exact World.putObj_heap_same (by omega)
  have gl1 : g1.length = 3 := k1.own.1.symm
  have hg1 : ∀ i, i < 2 → g1[i]? = [some p.b1, some p.b2][i]? := fun i hi => by
    obtain ⟨x, h1, h2⟩ := k1.fixd.2 i hi
    rw [h1, h2]
  have noL : ∀ (i : Nat) b cur e, g1[i]? = some (some b) → W1.heap[b]? = some (.cells cur e (0, 0)) → b ≠ p.L := fun i b cur e _ hb he => by rw [he, hL1] at hb; cases hb
  have k2 := k1.rebase (okB := p.okR) (a' := a1) (W' := W2) (ds := []) rfl k1.defers (by omega) (fun k hk hlt => by
      have : p.okR k := hJ.fp hk
      exact ⟨ho2 k (fun e => sL (e ▸ this)), this⟩) (fun i b cur e hg hb => ⟨cur, (ho2 b (noL i b cur e hg hb)).trans hb, rfl⟩) (fun i b m cs hg hi => by
      obtain ⟨cells, e, hw, _⟩ := k1.own.2 i m cs b hi hg
      exact ho2 b (noL i b cells e hg hw))
  rw [gl1] at k2
  have k2 : Ok p.okR ⟨W2, g1, []⟩ g1 (R1 o t true 3) a1 W2 := k2
  have hX2 : ∀ k, k < W.heap.size → k ≠ p.b1 → k ≠ p.b2 → ¬ Base.X ⟨W2, g1, []⟩ k := fun k hk h1 h2 hx => by
    rcases (k1.base k hx).1 with h | h
    · exact absurd hk (Nat.not_lt.2 h)
    · have : some k ∈ [some p.b1, some p.b2] := h
      simp only [List.mem_cons, Option.some.injEq, List.not_mem_nil, or_false] at this
      rcases this with h | h
      · exact h1 h
      · exact h2 h
  -- how the round ends
  have fin : ∀ {g3 : List (Option Nat)} {s3 : St} {a3 : Act} {W3 : World} {o' : Option Rat}, Ok p.okR ⟨W2, g1, []⟩ g3 s3 a3 W3 → s3.fix = 3 → (∃ m, s3.own[0]? = some (some (m, bestC o'))) → (∃ m, s3.own[1]? = some (some (m, [.v (.bool o'.isSome)]))) → o' = better1 o t →
      roundPost Try.prog p.L (fun e W' => e = .returned (.bool true) ∧ JJ p (recN f tm A B p.D) (better1 o t) W' ∧ W.heap.size ≤ W'.heap.size ∧ ∀ k, k < W.heap.size → k ≠ p.b1 → k ≠ p.b2 → k ≠ p.L → W'.heap[k]? = W.heap[k]?) .normal a3 W3 := by
    intro g3 s3 a3 W3 o' k3 hf ⟨m0, h0⟩ ⟨m1, h1⟩ e
    subst e
    have hs3 : W2.heap.size ≤ W3.heap.size := k3.below.size
    have hL3 : W3.heap[p.L]? = some (.loop { recN f tm A B p.D with state := .busy }) := (k3.below.block p.L (show p.L < W2.heap.size by omega) (hX2 p.L hLlt (Ne.symm n15) (Ne.symm n25))).trans hL2
    refine ⟨_, _, run_endRound none hL3, rfl, ?_⟩
    obtain ⟨W4, hW4⟩ : ∃ W4, W3.putObj p.L (.loop (recN f tm A B p.D)) = W4 := ⟨_, rfl⟩
    have ew : (W3.putObj p.L (.loop { ({ recN f tm A B p.D with state := .busy } : Loop) with state := if (none : Option Code).isNone then .ready else .done, pending := none })) = W4 := hW4
    rw [ew]
    have hs4 : W4.heap.size = W3.heap.size := by rw [← hW4]; exact World.putObj_size
    have ho4 : ∀ k, k ≠ p.L → W4.heap[k]? = W3.heap[k]? := fun k hk => by rw [← hW4]; exact World.putObj_heap_other hk
    have hL4 : W4.heap[p.L]? = some (.loop (recN f tm A B p.D)) := by rw [← hW4]; exact World.putObj_heap_same (by omega)
    have old : ∀ k, k < W.heap.size → k ≠ p.b1 → k ≠ p.b2 → k ≠ p.L → W4.heap[k]? = W.heap[k]? := fun k hk h1 h2 h3 => by
      have e1 : W3.heap[k]? = W2.heap[k]? := k3.below.block k (show k < W2.heap.size by omega) (hX2 k hk h1 h2)
      have e2 : W1.heap[k]? = W.heap[k]? := k1.below.block k hk (fun hx => by
        have : some k ∈ [some p.b1, some p.b2] := hx
        simp only [List.mem_cons, Option.some.injEq, List.not_mem_nil, or_false] at this
        rcases this with h | h
        · exact h1 h
        · exact h2 h)
      exact (ho4 k h3).trans (e1.trans ((ho2 k h3).trans e2))
    have oldR : ∀ k, p.okR k → k < W.heap.size → W4.heap[k]? = W.heap[k]? := fun k hk hlt => old k hlt (fun e => s1 (e ▸ hk)) (fun e => s2 (e ▸ hk)) (fun e => sL (e ▸ hk))
    have hfp : ∀ k, FP p.okR W2.heap.size g3 k → k < W3.heap.size → p.okR k := fun k hk _ => hk.1.elim id (fun h => hJ.new (by
      have h : W2.heap.size ≤ k := h
      omega))
    have oldW : ∀ k, p.okR k → k < W3.heap.size → W4.heap[k]? = W3.heap[k]? := fun k hk _ => ho4 k (fun e => sL (e ▸ hk))
    have b := hJ.below
    refine ⟨⟨⟨?_, ?_, ?_, by have := b.size; omega, fun k hk => ?_⟩, ?_, ?_, ?_, ?_, hL4, by have := hJ.hx; omega⟩, by omega, old⟩
    · rw [← hW4]; exact k3.below.os.trans ((by rw [← hW2]; exact k1.below.os : W2.os = W.os).trans b.os)
    · rw [← hW4]; exact k3.below.tape.trans ((by rw [← hW2]; exact k1.below.tape : W2.tape = W.tape).trans b.tape)
    · rw [← hW4]; exact k3.below.output.trans ((by rw [← hW2]; exact k1.below.output : W2.output = W.output).trans b.output)
    · have hn : ∀ x ∈ p.sp, k ≠ x := fun x hx e => by have := hp.new x hx; omega
      exact (old k (Nat.lt_of_lt_of_le hk b.size) (hn _ (by simp [Pl.sp])) (hn _ (by simp [Pl.sp])) (hn _ (by simp [Pl.sp]))).trans (b.block k hk)
    · exact hJ.c0.move (old _ hJ.c0.lt n01 n02 n05) oldR
    · exact (k3.cel (i := 0) (by rw [hf]; decide) (hg1 0 (by decide)) h0 (best_plain _) hfp).move (ho4 _ n15) oldW
    · exact (k3.cel (i := 1) (by rw [hf]; decide) (hg1 1 (by decide)) h1 (found_plain _) hfp).move (ho4 _ n25) oldW
    · exact (old _ (Array.getElem?_eq_some_iff.1 hJ.hD).1 (Ne.symm n14) (Ne.symm n24) n45).trans hJ.hD
  have eB : B = .block 1 (.seq (pick1 5 (regsOf (rfB Try.f12))) (.cond (.tmp 17) (pick1 6 (regsOf (rfB Try.f12))) .skip)) := by rw [hB]; kernel_rfl
  refine (congrArg (fun c => Code.wpIn (Fw (some p.L)) n Try.prog c _ a1 W2) eB).mpr ?_
  refine wpIn_block (wpIn_seq (r_test o t hs ho k2 (fun g3 a3 W3 b hb1 hb2 k3 => ?_)))
  show (Code.cond _ _ _).wpIn _ _ _ _ _ _
  refine wpIn_cond (k3.truth_at (t := 17) rfl) ?_
  cases b with
  | true =>
    refine r_store o t true k3 (fun g4 a4 W4 k4 => ?_)
    refine fin k4 rfl ⟨_, rfl⟩ ⟨_, rfl⟩ ?_
    cases o with
    | none => rfl
    | some x =>
      have := hb2 x rfl
      show some t = if cmpR t x < 0 then some t else some x
      rw [if_pos (of_decide_eq_true this.symm)]
  | false =>
    refine wpIn_skip ?_
    refine fin (o' := o) k3 rfl ⟨_, rfl⟩ ⟨_, rfl⟩ ?_
    cases o with
    | none => exact absurd (hb1 rfl) (by decide)
    | some x =>
      have := hb2 x rfl
      show some x = if cmpR t x < 0 then some t else some x
      rw [if_neg (of_decide_eq_false this.symm)]
end
end
section
theorem one_of {g : List (Option Nat)} {b : Nat} {ok0 : Nat → Prop} {W : World} {ds : List Deferred} {s : St} {a : Act} {w : World} (h : Ok ok0 ⟨W, [some b], ds⟩ g s a w) (hl : s.own.length = 1) : g = [some b] := by
  have gl : g.length = 1 := h.own.1.symm.trans hl
  have hf : 1 = s.fix := h.fixd.1
  obtain ⟨x, h1, h2⟩ := h.fixd.2 0 (by omega)
  match g, gl with
  | [y], _ =>
    have e1 : y = x := by simpa using h1
    have e2 : some b = x := by simpa using h2
    rw [e1, ← e2]
section
variable {p : Pl} {o : Option Rat} {W : World} {f : FuncId} {tm : Array Value}
theorem better_eq {x : Lin} : better o x = match passF x with
    | none => o
    | some t => better1 o t := by
  unfold better better1
  cases passF x <;> rfl
theorem iter_at (hp : p.Good) (ht : tm.size = 21) (h4 : tm[4]? = some (.pointer (some ⟨p.b1, 0, none⟩))) (h5 : tm[5]? = some (.pointer (some ⟨p.b2, 0, none⟩))) (l : List Lin) (hb : l.length ≤ 100000) (hl : ∀ x ∈ l, x.ok) (Q : Exit → Act → World → Prop) :
    ∀ (d i : Nat) (o : Option Rat) (a : Act) (W : World), i + d = l.length → (∀ b, o = some b → short 1200 b) → Ok p.okR ⟨W, [some p.bx], []⟩ [some p.bx] (T1 l p.L i) a W → JJ p (recN f tm (rfA Try.f12) (rfB Try.f12) p.D) o W →
      (∀ g a' W' W0, Ok p.okR W0 g (T2 l p.L l.length false) a' W' → W0.ds = [] → JJ p (recN f tm (rfA Try.f12) (rfB Try.f12) p.D) ((l.drop i).foldl better o) W' → Q (.exit 0) a' W') → Code.rounds Try.prog (lp Try.f64 0) Q (d + 1) a W := by
  intro d
  induction d with
  | zero =>
    intro i o a W h ho hok hJ hQ
    have : i = l.length := by omega
    subst this
    rw [List.drop_eq_nil_of_le (Nat.le_refl _)] at hQ
    rw [rounds_succ]
    have eb : lp Try.f64 0 = .seq (rg Try.f64 1) (.seq (.cond (.tmp 10) .skip (.exit 0)) (.seq (.block 1 (.seq (rg Try.f64 2) (.seq (rg Try.f64 3) (.seq (rg Try.f64 4) (.cond (.tmp 24) .ret .skip))))) (rg Try.f64 5))) := by kernel_rfl
    rw [eb]
    refine wp_seq (t1_at l p.L l.length _ _ _ _ _ _ hok (fun g1 a1 W1 k1 => ?_))
    rw [show decide ((l.length : Int) < (l.length : Int)) = false by simp] at k1
    show (Code.seq _ _).wp _ _ _ _
    refine wp_seq (wp_cond_false (k1.truth_at (t := 10) rfl) (wp_exit ?_))
    obtain ⟨m1, m2⟩ := Keep.to hp hJ.below.size (b := p.bx) (by simp [Pl.sp]) k1.below
    exact hQ g1 a1 W1 _ k1 rfl (hJ.move hp m1 m2)
  | succ d ih =>
    intro i o a W h ho hok hJ hQ
    have hi : i < l.length := by omega
    have hx := hl _ (List.getElem_mem hi)
    rw [List.drop_eq_getElem_cons hi, List.foldl_cons] at hQ
    rw [rounds_succ]
    have eb : lp Try.f64 0 = .seq (rg Try.f64 1) (.seq (.cond (.tmp 10) .skip (.exit 0)) (.seq (.block 1 (.seq (rg Try.f64 2) (.seq (rg Try.f64 3) (.seq (rg Try.f64 4) (.cond (.tmp 24) .ret .skip))))) (rg Try.f64 5))) := by kernel_rfl
    generalize hC : Code.rounds Try.prog (lp Try.f64 0) Q (d + 1) = CR at ih ⊢
    have CRe : ∀ a w, CR a w = Code.rounds Try.prog (lp Try.f64 0) Q (d + 1) a w := fun a w => by rw [hC]
    rw [eb]
    refine wp_seq (t1_at l p.L i _ _ _ _ _ _ hok (fun g1 a1 W1 k1 => ?_))
    rw [show decide ((i : Int) < (l.length : Int)) = true by rw [decide_eq_true_iff]; omega] at k1
    show (Code.seq _ _).wp _ _ _ _
    refine wp_seq (wp_cond_true (k1.truth_at (t := 10) rfl) (wp_skip ?_))
    show (Code.seq _ _).wp _ _ _ _
    -- behind the round: on to the next
    have next : ∀ {g : List (Option Nat)} {a' : Act} {W' W0 : World}, Ok p.okR ⟨W0, [some p.bx], []⟩ g (T5 l p.L i) a' W' → JJ p (recN f tm (rfA Try.f12) (rfB Try.f12) p.D) (better o l[i]) W0 →
        Exit.then ((rg Try.f64 5).wp Try.prog (Exit.then CR Q)) (Exit.then CR Q) .normal a' W' := by
      intro g a' W' W0 k hJ'
      refine t5_at l p.L i _ _ _ _ _ _ k (fun g6 a6 W6 k6 => ?_)
      rw [show IntKind.i64.wrap ((i : Int) + 1) = ((i + 1 : Nat) : Int) by rw [wr (by omega) (by omega)]; omega] at k6
      have eg := one_of k6 rfl
      subst eg
      obtain ⟨m1, m2⟩ := Keep.to hp hJ'.below.size (b := p.bx) (by simp [Pl.sp]) k6.below
      have k7 := k6.rebase (okB := p.okR) (a' := a6) (W' := W6) (ds := []) rfl k6.defers (Nat.le_refl _) (fun k hk _ => ⟨rfl, hJ'.fp hk⟩) (fun i b cur e _ hb => ⟨cur, hb, rfl⟩) (fun i b m cs _ _ => rfl)
      show CR a6 W6
      exact ih (i + 1) (better o l[i]) a6 W6 (by omega) (better_short hx ho) k7 (hJ'.move hp m1 m2) hQ
    refine wp_seq (wp_block (wp_seq (t2_at l p.L true i hi _ _ _ _ _ _ k1 (fun g2 a2 W2 k2 => ?_))))
    show (Code.seq _ _).wp _ _ _ _
    refine wp_seq (t3_at l p.L i l[i] hx _ _ _ _ _ _ k2 (fun g3 a3 W3 k3 => ?_))
    show (Code.seq _ _).wp _ _ _ _
    have be := better_eq (o := o) (x := l[i])
    have hsh := fun t => pass_short (t := t) hx
    cases hpf : passF l[i] with
    | none =>
      rw [hpf] at be k3
      refine wp_seq (t4_at l p.L i _ _ _ _ _ _ k3 (fun g4 a4 W4 k4 => ?_))
      show (Code.cond _ _ _).wp _ _ _ _
      refine wp_cond_false (k4.truth_at (t := 24) rfl) (wp_skip ?_)
      exact next k4 (by rw [be]; exact hJ)
    | some t =>
      rw [hpf] at be k3
      have e4 : rg Try.f64 4 = .region 4 (opsOf (rg Try.f64 4)) false := by kernel_rfl
      refine wp_seq ?_
      rw [e4]
      refine (wpIn_wide (n := 5)).1 (wpIn_region_list ?_)
      obtain ⟨op4, hop, hdst, hcall, hwant⟩ : ∃ op4 : Oper, (opsOf (rg Try.f64 4)).toList.drop 4 = op4 :: (opsOf (rg Try.f64 4)).toList.drop 5 ∧ op4.dst = some 22 ∧ op4.op = .call { callee := .value (.tmp 20), args := #[.tmp 21], argTypes := #[27] } ∧ want (T4 l p.L i t) (opsOf (rg Try.f64 4)) op4 = some true :=
        ⟨(opsOf (rg Try.f64 4)).toList.getD 4 ⟨none, .move (.tmp 0), 0, "", #[], none⟩, by kernel_rfl, by kernel_rfl, by kernel_rfl, by kernel_rfl⟩
      have hsplit : (opsOf (rg Try.f64 4)).toList = (opsOf (rg Try.f64 4)).toList.take 4 ++ op4 :: (opsOf (rg Try.f64 4)).toList.drop 5 := by rw [← hop, List.take_append_drop]
      have hnd : ∀ x ∈ (opsOf (rg Try.f64 4)).toList, ∀ c, x.op ≠ .defer c := fun x hx c e => by
        have h9 : ((opsOf (rg Try.f64 4)).toList.all fun o => match o.op with | .defer _ => false | _ => true) = true := by kernel_rfl
        have := List.all_eq_true.1 h9 x hx
        rw [e] at this
        cases this
      conv => arg 6; rw [hsplit]
      refine list_in (rd := none) (fun e a w h => h.1) (fun x hx => hnd x (List.mem_of_mem_take hx)) (t4_pre l p.L i t k3) ?_
      rintro a4 W4 ⟨_, g4, k4⟩
      have eg := one_of k4 rfl
      subst eg
      obtain ⟨m1, m2⟩ := Keep.to hp hJ.below.size (b := p.bx) (by simp [Pl.sp]) k4.below
      have hJ4 := hJ.move hp m1 m2
      have hv : TG [] p.okR W4 (ra t) (a4.eval (.tmp 21)) := by
        have h1 : TG [some p.bx] _ W4 (ra t) (a4.eval (.tmp 21)) := k4.reg (t := 21) rfl
        exact (h1.noptr rfl).mv ⟨fun _ _ h => h, fun _ _ _ => rfl, fun k hk _ => hJ.fp hk, fun i b cur e hb => by cases hb⟩
      have hy : a4.eval (.tmp 20) = .func (.yield p.L) #[] #[] := TC.v_eq (g := [some p.bx]) (ok := FP p.okR W.heap.size [some p.bx]) (w := W4) (k4.reg (t := 20) (x := .g (.one (.v (yv p.L)))) rfl)
      refine wpListIn_step (fun K hK => ?_)
      rw [if_pos (want_at hwant k4.regs)]
      refine ⟨fun _ _ => trivial, ?_⟩
      have er : (op4.semAt (Fw none).round a4.eval).run Try.prog W4 = (Instr.yield p.L #[a4.eval (.tmp 21)]).run Try.prog W4 := by
        rw [show op4.semAt (Fw none).round a4.eval = execOp a4.eval op4 from Oper.semAt_none a4.eval op4]
        exact run_callYield hcall hy
      obtain ⟨fn, tmps, asg, bd, hyield, hround⟩ := round_at hp hJ4 ht h4 h5 hv (hsh t hpf) ho 4
      rw [er, hyield]
      refine ⟨fun h => (by cases h), hround.mono ?_⟩
      rintro e W5 ⟨rfl, hJ5, hs5, old⟩
      show K (a4.put op4.dst (.bool true)) W5
      rw [hdst]
      refine hK _ _ ?_
      have bxR : ¬ p.okR p.bx := fun h => h.2 (by simp [Pl.sp])
      have nd := hp.nd
      simp only [Pl.sp, List.nodup_cons, List.mem_cons, List.not_mem_nil, or_false, not_or, not_false_eq_true, List.nodup_nil, and_true] at nd
      obtain ⟨_, ⟨_, n13, _, n15⟩, ⟨n23, _, n25⟩, ⟨_, n35⟩, _⟩ := nd
      have obx : W5.heap[p.bx]? = W4.heap[p.bx]? := old _ hJ4.hx (Ne.symm n13) (Ne.symm n23) n35
      have only : ∀ (i : Nat) b, [some p.bx][i]? = some (some b) → b = p.bx := fun i b h => by
        have := List.mem_of_getElem? h
        simp only [List.mem_singleton, Option.some.injEq] at this
        exact this
      have k5 := k4.rebase (okB := p.okR) (a' := a4) (W' := W5) (ds := []) rfl k4.defers hs5 (fun k hk hlt => ⟨old k hlt (fun e => (hJ.fp hk).2 (by simp [Pl.sp, e])) (fun e => (hJ.fp hk).2 (by simp [Pl.sp, e])) (fun e => (hJ.fp hk).2 (by simp [Pl.sp, e])), hJ.fp hk⟩)
        (fun i b cur e hg hw => ⟨cur, by rw [only i b hg] at hw ⊢; exact obx.trans hw, rfl⟩) (fun i b m cs hg _ => by rw [only i b hg]; exact obx)
      have k5 : Ok p.okR ⟨W5, [some p.bx], []⟩ [some p.bx] (T4 l p.L i t) a4 W5 := k5
      have k6 := k5.val (d := some 22) (x := some (.g (truth true))) (u := .bool true) (fun v hv => by cases hv; exact TC.of_v (g := [some p.bx]) (ok := FP p.okR W5.heap.size [some p.bx]) (w := W5) rfl)
      have h7 := list_in (rd := none) (n := 5) (Q' := Exit.then ((Code.cond (.tmp 24) .ret .skip).wp Try.prog (Exit.inBlock 1 (Exit.then ((rg Try.f64 5).wp Try.prog (Exit.then CR Q)) (Exit.then CR Q)))) (Exit.inBlock 1 (Exit.then ((rg Try.f64 5).wp Try.prog (Exit.then CR Q)) (Exit.then CR Q)))) (ys := []) (fun e a w h => h.1) (fun x hx => hnd x (List.mem_of_mem_drop hx)) (t4_post l p.L i t k6) (fun a8 W8 ⟨_, g8, k8⟩ => by
        show (Code.cond _ _ _).wp _ _ _ _
        refine wp_cond_false (k8.truth_at (t := 24) rfl) (wp_skip ?_)
        exact next k8 (by rw [be]; exact hJ5))
      rw [List.append_nil] at h7
      exact h7
theorem times1_at (hp : p.Good) (ht : tm.size = 21) (h4 : tm[4]? = some (.pointer (some ⟨p.b1, 0, none⟩))) (h5 : tm[5]? = some (.pointer (some ⟨p.b2, 0, none⟩))) (l : List Lin) (hb : l.length ≤ 100000) (hl : ∀ x ∈ l, x.ok) (hJ : JJ p (recN f tm (rfA Try.f12) (rfB Try.f12) p.D) none W) (hx : Cel p.okR W p.bx [lins l]) :
    Calls Try.prog 64 #[yv p.L, .pointer (some ⟨p.bx, 0, none⟩)] W fun e W' => (∃ v, e = .returned v) ∧ JJ p (recN f tm (rfA Try.f12) (rfB Try.f12) p.D) (l.foldl better none) W' := by
  have eb : Try.f64.body = some (.seq (rg Try.f64 0) (.block 0 (.loop (lp Try.f64 0)))) := by kernel_rfl
  refine calls_of_wp Try.func64 eb ?_
  have bxR : ¬ p.okR p.bx := fun h => h.2 (by simp [Pl.sp])
  rw [show Try.f64.ntmps = 26 by kernel_rfl]
  obtain ⟨tm0, htm⟩ : ∃ tm0, #[yv p.L, .pointer (some ⟨p.bx, 0, none⟩)] ++ Array.replicate (26 - (#[yv p.L, .pointer (some ⟨p.bx, 0, none⟩)] : Array Value).size) undef = tm0 := ⟨_, rfl⟩
  have k0 : Ok p.okR ⟨W, [some p.bx], []⟩ [some p.bx] (T0 l p.L) ⟨tm0, []⟩ W := by
    refine Ok.make [(p.bx, [lins l])] 26 [(0, .g (.one (.v (yv p.L)))), (1, .g (.one (.ptr 0 0)))] (by simp) ?_ ?_ (by rw [← htm]; simp) ?_
    · intro q hq
      rw [List.mem_singleton.1 hq]
      exact hx
    · intro q hq
      rw [List.mem_singleton.1 hq]
      exact bxR
    · intro q hq
      simp only [List.mem_cons, List.not_mem_nil, or_false] at hq
      rcases hq with rfl | rfl
      · exact ⟨yv p.L, by rw [← htm, Array.getElem?_append_left (by simp)]; rfl, TC.of_v (g := [some p.bx]) (ok := FP p.okR W.heap.size [some p.bx]) (w := W) rfl⟩
      · exact ⟨.pointer (some ⟨p.bx, 0, none⟩), by rw [← htm, Array.getElem?_append_left (by simp)]; rfl, p.bx, rfl, rfl⟩
  rw [htm]
  refine wp_seq (t0_at l p.L _ _ _ _ _ _ k0 (fun g1 a1 W1 k1 => ?_))
  show (Code.block _ _).wp _ _ _ _
  have eg := one_of k1 rfl
  subst eg
  obtain ⟨m1, m2⟩ := Keep.to hp hJ.below.size (b := p.bx) (by simp [Pl.sp]) k1.below
  have hJ1 := hJ.move hp m1 m2
  have k2 := k1.rebase (okB := p.okR) (a' := a1) (W' := W1) (ds := []) rfl k1.defers (Nat.le_refl _) (fun k hk _ => ⟨rfl, hJ.fp hk⟩) (fun i b cur e _ hb => ⟨cur, hb, rfl⟩) (fun i b m cs _ _ => rfl)
  refine wp_block (wp_loop_rounds (l.length + 1) (iter_at hp ht h4 h5 l hb hl _ l.length 0 none a1 W1 (by omega) (fun b h => by cases h) k2 hJ1 (fun g a' W' W0 hk hds hJ' => ?_)))
  show a'.defers = [] ∧ ∃ v, (results Try.f64 a'.tmps).run Try.prog W' = .ok v W' ∧ _
  obtain ⟨u, hu, _⟩ := resV_at (P := Try.prog) (fn := Try.f64) (r := .tup []) LL_ok hk (by kernel_rfl)
  exact ⟨hk.defers.trans hds, u, hu, ⟨_, rfl⟩, hJ'⟩
end
end
section
theorem next_con (l : List Lin) (hb : l.length ≤ 100000) (hl : ∀ x ∈ l, x.ok) : Con Try.prog 12 [.one (lins l)] (passR (l.foldl better none)) := by
  refine .inl ⟨⟨_, Try.func12, by kernel_rfl, rfl⟩, fun ok us w hA => ?_⟩
  have eb : Try.f12.body = some (.seq (rg Try.f12 0) (.seq (rg Try.f12 1) (.seq (rg Try.f12 2) (.seq (.seq (rg Try.f12 3) (.block 0 (.rangeFunc (.tmp 8) #[9] (rfA Try.f12) (rfB Try.f12)))) (.seq (rg Try.f12 7) .ret))))) := by kernel_rfl
  refine (callsIn_wide (n := 5)).1 (callsIn_of_wp_marks Try.func12 eb trivial ?_)
  have hA1 : us.size = 1 := hA.1
  have hA2 : ∀ (t : Nat) x u, [AG.one (lins l)][t]? = some x → us[t]? = some u → TG [] ok w x u := hA.2
  rw [show Try.f12.ntmps = 21 by kernel_rfl]
  have k0 : Ok ok (Base.none w) [] (N0 l) ⟨us ++ Array.replicate (21 - us.size) undef, []⟩ w := by
    refine ⟨regs_sparse 21 (by simp [hA1]) _ (fun q hq => ?_), ⟨rfl, fun i m cs b hi => by cases hi⟩, (fun i j b hi => by cases hi), fun b hb => (by cases hb), Keep.refl _, rfl, ⟨rfl, fun i hi => by cases hi⟩, fun i b m cs hi => (by cases hi), fun i m c cs hi => (by cases hi)⟩
    rw [List.mem_singleton.1 hq]
    refine ⟨us[0], by rw [Array.getElem?_append_left (by omega)]; exact Array.getElem?_eq_getElem (by omega), ?_⟩
    exact TG.mv ⟨fun _ _ h => h, fun _ _ _ => rfl, fun k hk _ => ⟨.inl hk, by simp⟩, fun i b cur e hb => by cases hb⟩ (hA2 0 _ _ rfl (Array.getElem?_eq_getElem (by omega)))
  refine wpIn_seq (wpIn_wide.2 (n0_at l _ _ _ _ _ _ k0 (fun g1 a1 w1 k1 => ?_)))
  show (Code.seq _ _).wpIn _ _ _ _ _ _
  refine wpIn_seq (wpIn_wide.2 (n1_at l _ _ _ _ _ _ k1 (fun g2 a2 w2 k2 => ?_)))
  show (Code.seq _ _).wpIn _ _ _ _ _ _
  refine wpIn_seq (wpIn_wide.2 (n2_at l _ _ _ _ _ _ k2 (fun g3 a3 w3 k3 => ?_)))
  show (Code.seq _ _).wpIn _ _ _ _ _ _
  refine wpIn_seq (wpIn_seq (wpIn_wide.2 (n3_at l _ _ _ _ _ _ k3 (fun g4 a4 w4 k4 => ?_))))
  show (Code.block _ _).wpIn _ _ _ _ _ _
  clear k0 k1 k2 k3
  -- the blocks
  have hreg : ∀ {t i off : Nat}, (N4 l).regs[t]? = some (some (.g (.one (.ptr i off)))) → ∃ b, g4[i]? = some (some b) ∧ a4.tmps[t]? = some (.pointer (some ⟨b, off, none⟩)) := fun {t i off} h => by
    obtain ⟨u, hu, b, hb, rfl⟩ := k4.regs.2 t _ h
    exact ⟨b, hb, hu⟩
  obtain ⟨b0, hg0, ht0⟩ := hreg (t := 2) (i := 0) (off := 0) rfl
  obtain ⟨b1, hg1, ht1⟩ := hreg (t := 4) (i := 1) (off := 0) rfl
  obtain ⟨b2, hg2, ht2⟩ := hreg (t := 5) (i := 2) (off := 0) rfl
  obtain ⟨u8, hu8, fs, cs, rfl, hf8, hc8⟩ := k4.regs.2 8 _ (rfl : (N4 l).regs[8]? = some (some (.g (.one (.fn 64 [] [.ptr 3 0])))))
  have hfs : fs = #[] := by
    have : fs.toList.length = 0 := hf8.1
    exact Array.toList_eq_nil_iff.1 (List.length_eq_zero_iff.1 this)
  have hcs1 : cs.toList.length = 1 := hc8.1
  obtain ⟨c0, hcs⟩ : ∃ c0, cs = #[c0] := by
    obtain ⟨c0, h⟩ := List.length_eq_one_iff.1 hcs1
    exact ⟨c0, by apply Array.toList_inj.1; rw [h]⟩
  subst hfs hcs
  obtain ⟨bx, hg3, hc0⟩ : ∃ b, g4[3]? = some (some b) ∧ c0 = .pointer (some ⟨b, 0, none⟩) := hc8.2 0 _ _ rfl rfl
  subst hc0
  have lv : ∀ i, i < 4 → Live (N4 l) i := fun i hi => by
    match i, hi with
    | 0, _ => exact ⟨_, _, rfl⟩
    | 1, _ => exact ⟨_, _, rfl⟩
    | 2, _ => exact ⟨_, _, rfl⟩
    | 3, _ => exact ⟨_, _, rfl⟩
  have ne : ∀ i j bi bj, i < 4 → j < 4 → i ≠ j → g4[i]? = some (some bi) → g4[j]? = some (some bj) → bi ≠ bj := fun i j bi bj hi hj hne h1 h2 e => by
    subst e
    exact hne (k4.nodup i j bi h1 h2 (lv i hi) (lv j hj))
  have newb : ∀ i b, g4[i]? = some (some b) → w.heap.size ≤ b ∧ b < w4.heap.size := fun i b h => by
    have := k4.base b (List.mem_of_getElem? h)
    exact ⟨this.1.elim id (fun hx => by cases hx), this.2⟩
  have gl : g4.length = 4 := k4.own.1.symm
  -- the call's place
  obtain ⟨p, hpl⟩ : ∃ p : Pl, p = ⟨w, ok, b0, b1, b2, bx, w4.heap.size, w4.heap.size + 1⟩ := ⟨_, rfl⟩
  have n0 := newb _ _ hg0
  have n1 := newb _ _ hg1
  have n2 := newb _ _ hg2
  have n3 := newb _ _ hg3
  have hgood : p.Good := by
    subst hpl
    refine ⟨?_, fun k hk => ?_⟩
    · have e01 := ne 0 1 _ _ (by decide) (by decide) (by decide) hg0 hg1
      have e02 := ne 0 2 _ _ (by decide) (by decide) (by decide) hg0 hg2
      have e03 := ne 0 3 _ _ (by decide) (by decide) (by decide) hg0 hg3
      have e12 := ne 1 2 _ _ (by decide) (by decide) (by decide) hg1 hg2
      have e13 := ne 1 3 _ _ (by decide) (by decide) (by decide) hg1 hg3
      have e23 := ne 2 3 _ _ (by decide) (by decide) (by decide) hg2 hg3
      simp only [Pl.sp, List.nodup_cons, List.mem_cons, List.not_mem_nil, or_false, not_or, not_false_eq_true, List.nodup_nil, and_true]
      exact ⟨⟨e01, e02, e03, by omega, by omega⟩, ⟨e12, e13, by omega, by omega⟩, ⟨e23, by omega, by omega⟩, ⟨by omega, by omega⟩, by omega⟩
    · have hs := k4.below.size
      have hs : w.heap.size ≤ w4.heap.size := hs
      simp only [Pl.sp, List.mem_cons, List.not_mem_nil, or_false] at hk
      show w.heap.size ≤ k
      rcases hk with rfl | rfl | rfl | rfl | rfl | rfl <;> omega
  have hD : p.D = w4.heap.size := by rw [hpl]
  have hLL : p.L = w4.heap.size + 1 := by rw [hpl]
  refine wpIn_block (wpIn_rangeFunc (fun fn _ => ?_))
  have hgv : a4.eval (.tmp 8) = .func (.func 64) #[] #[.pointer (some ⟨bx, 0, none⟩)] := by
    show a4.tmps.getD 8 undef = _
    rw [Array.getD_eq_getD_getElem?, hu8]; rfl
  obtain ⟨r, hr⟩ : ∃ r, r = recN fn a4.tmps (rfA Try.f12) (rfB Try.f12) p.D := ⟨_, rfl⟩
  obtain ⟨W1, hW1⟩ : ∃ W1, (w4.alloc (.deferred (some []))).alloc (.loop r) = W1 := ⟨_, rfl⟩
  have hs1 : W1.heap.size = w4.heap.size + 2 := by rw [← hW1, alloc_size, alloc_size]
  have old1 : ∀ k, k < w4.heap.size → W1.heap[k]? = w4.heap[k]? := fun k hk => by
    rw [← hW1, alloc_old _ (by rw [alloc_size]; omega), alloc_old _ hk]
  have hD1 : W1.heap[p.D]? = some (.deferred (some [])) := by
    rw [← hW1, hD, alloc_old _ (by rw [alloc_size]; omega)]
    exact World.alloc_heap_new _ _
  have hL1 : W1.heap[p.L]? = some (.loop r) := by
    rw [← hW1, hLL, show w4.heap.size + 1 = (w4.alloc (.deferred (some []))).heap.size by rw [alloc_size]]
    exact World.alloc_heap_new _ _
  have fpR : ∀ k, FP ok w.heap.size g4 k → k < w4.heap.size → p.okR k := fun k hk hlt => by
    refine ⟨by rw [hpl]; exact hk.1, fun hm => ?_⟩
    have hne : ∀ i b, g4[i]? = some (some b) → k ≠ b := fun i b hi e => hk.2 (e ▸ List.mem_of_getElem? hi)
    rw [hpl] at hm
    simp only [Pl.sp, List.mem_cons, List.not_mem_nil, or_false] at hm
    rcases hm with h | h | h | h | h | h
    · exact hne _ _ hg0 h
    · exact hne _ _ hg1 h
    · exact hne _ _ hg2 h
    · exact hne _ _ hg3 h
    · omega
    · omega
  have cel : ∀ {i b : Nat} {m : Bool} {cs : List AC}, (N4 l).own[i]? = some (some (m, cs)) → g4[i]? = some (some b) → Plain cs → Cel p.okR W1 b cs := fun {i b m cs} hi hb hpn => by
    obtain ⟨cells, e, h1, h2⟩ := k4.own.2 i m cs b hi hb
    have h3 : Cel p.okR w4 b cs := ⟨cells, e, h1, h2.plain fpR hpn⟩
    exact h3.move (old1 _ (newb _ _ hb).2) (fun k _ hlt => old1 k hlt)
  have bel4 : Below w.heap.size w w4 := k4.below.below
  have hJ : JJ p r none W1 := by
    refine ⟨?_, ?_, ?_, ?_, hD1, hL1, ?_⟩
    · rw [hpl, ← hW1]
      refine bel4.trans ⟨rfl, rfl, rfl, by rw [alloc_size, alloc_size]; omega, fun k hk => ?_⟩
      have h9 := bel4.size
      have hk : k < w.heap.size := hk
      rw [alloc_old _ (by rw [alloc_size]; omega), alloc_old _ (by omega)]
    · rw [show p.b0 = b0 by rw [hpl]]; exact cel (i := 0) rfl hg0 (best_plain none)
    · rw [show p.b1 = b1 by rw [hpl]]; exact cel (i := 1) rfl hg1 (best_plain none)
    · rw [show p.b2 = b2 by rw [hpl]]; exact cel (i := 2) rfl hg2 (found_plain _)
    · rw [show p.bx = bx by rw [hpl]]; omega
  have hxc : Cel p.okR W1 p.bx [lins l] := by
    rw [show p.bx = bx by rw [hpl]]
    exact cel (i := 3) rfl hg3 (fun c hc => by rw [List.mem_singleton.1 hc]; rfl)
  have tsz : a4.tmps.size = 21 := k4.regs.1
  refine ⟨p.L, [{ target := .collected p.D, args := #[] }], W1, { target := .fn (.func 64) #[.pointer (some ⟨bx, 0, none⟩)], args := #[.func (.yield p.L) #[] #[]] }, W1, 64, #[yv p.L, .pointer (some ⟨bx, 0, none⟩)], W1, ?_, ?_, fun _ _ => trivial, ?_, fun h => (by cases h), callsIn_round ?_⟩
  · rw [show Fence.wide.round = none from rfl, run_enterLoop_outer, ← hW1, hr, hLL, hD]; rfl
  · simp only [resolve, hgv]
    simp [go_sem]
  · have := enters_ Try.func64 (by kernel_rfl) rfl #[yv p.L, .pointer (some ⟨bx, 0, none⟩)] W1
    simp [invoke, yv, go_sem] at this ⊢
  have hcall := times1_at hgood tsz (by rw [show p.b1 = b1 by rw [hpl]]; exact ht1) (by rw [show p.b2 = b2 by rw [hpl]]; exact ht2) l hb hl (hr ▸ hJ) hxc
  rw [show p.bx = bx by rw [hpl]] at hcall
  rw [← hr] at hcall
  refine hcall.mono ?_
  rintro e W5 ⟨⟨v, rfl⟩, hJ5⟩
  -- behind the loop
  generalize l.foldl better none = o at *
  refine ⟨none, _, by
    have := run_endLoop (P := Try.prog) hJ5.hL (by rw [hr]; exact fun h => by cases h)
    rw [hr] at this
    exact this, ?_⟩
  obtain ⟨W6, hW6⟩ : ∃ W6, W5.putObj p.L (.loop { recN fn a4.tmps (rfA Try.f12) (rfB Try.f12) p.D with state := .exhausted }) = W6 := ⟨_, rfl⟩
  rw [hW6]
  have sL : ¬ p.okR p.L := fun h => h.2 (by simp [Pl.sp])
  have sD : ¬ p.okR p.D := fun h => h.2 (by simp [Pl.sp])
  have nd := hgood.nd
  simp only [Pl.sp, List.nodup_cons, List.mem_cons, List.not_mem_nil, or_false, not_or, not_false_eq_true, List.nodup_nil, and_true] at nd
  obtain ⟨⟨n01, n02, n03, n04, n05⟩, ⟨n12, n13, n14, n15⟩, ⟨n23, n24, n25⟩, ⟨n34, n35⟩, n45⟩ := nd
  have hs6 : W6.heap.size = W5.heap.size := by rw [← hW6]; exact World.putObj_size
  have old6 : ∀ k, k ≠ p.L → W6.heap[k]? = W5.heap[k]? := fun k hk => by rw [← hW6]; exact World.putObj_heap_other hk
  have oldR6 : ∀ k, p.okR k → k < W5.heap.size → W6.heap[k]? = W5.heap[k]? := fun k hk _ => old6 k (fun e => sL (e ▸ hk))
  have hD6 : W6.heap[p.D]? = some (.deferred (some [])) := (old6 _ n45).trans hJ5.hD
  show (Code.seq _ _).wpIn _ _ _ _ _ _
  have ea : ({ a4 with defers := [{ target := .collected p.D, args := #[] }] ++ a4.defers } : Act) = ⟨a4.tmps, [{ target := .collected p.D, args := #[] }]⟩ := by
    rw [show a4.defers = [] from k4.defers]; rfl
  rw [ea]
  have k6 : Ok p.okR ⟨W6, [some p.b0, some p.b1, some p.b2], [{ target := .collected p.D, args := #[] }]⟩ [some p.b0, some p.b1, some p.b2] (N7 o) ⟨a4.tmps, [{ target := .collected p.D, args := #[] }]⟩ W6 := by
    refine Ok.make [(p.b0, zRat), (p.b1, bestC o), (p.b2, [.v (.bool o.isSome)])] 21 [(2, .g (.one (.ptr 0 0))), (3, .g (truth false)), (4, .g (.one (.ptr 1 0))), (5, .g (.one (.ptr 2 0)))] ?_ ?_ ?_ tsz ?_
    · simp only [List.map_cons, List.map_nil, List.nodup_cons, List.mem_cons, List.not_mem_nil, or_false, not_or, not_false_eq_true, List.nodup_nil, and_true]
      exact ⟨⟨n01, n02⟩, n12⟩
    · intro q hq
      simp only [List.mem_cons, List.not_mem_nil, or_false] at hq
      rcases hq with rfl | rfl | rfl
      · exact hJ5.c0.move (old6 _ n05) oldR6
      · exact hJ5.c1.move (old6 _ n15) oldR6
      · exact hJ5.c2.move (old6 _ n25) oldR6
    · intro q hq
      simp only [List.mem_cons, List.not_mem_nil, or_false] at hq
      rcases hq with rfl | rfl | rfl <;> exact fun h => h.2 (by simp [Pl.sp])
    · intro q hq
      simp only [List.mem_cons, List.not_mem_nil, or_false] at hq
      rcases hq with rfl | rfl | rfl | rfl
      · exact ⟨_, ht0, p.b0, rfl, by rw [hpl]⟩
      · obtain ⟨u, hu, hT⟩ := k4.regs.2 3 _ (rfl : (N4 l).regs[3]? = some (some (.g (truth false))))
        have := TC.v_eq (g := g4) (ok := FP ok w.heap.size g4) (w := w4) hT
        exact ⟨u, hu, by rw [this]; exact TC.of_v (g := [some p.b0, some p.b1, some p.b2]) (ok := FP p.okR W6.heap.size [some p.b0, some p.b1, some p.b2]) (w := W6) rfl⟩
      · exact ⟨_, ht1, p.b1, rfl, by rw [hpl]⟩
      · exact ⟨_, ht2, p.b2, rfl, by rw [hpl]⟩
  refine wpIn_seq (wpIn_wide.2 (n7_at o _ _ _ _ _ _ k6 (fun g7 a7 W7 k7 => ?_)))
  show Code.ret.wpIn _ _ _ _ _ _
  refine wpIn_ret ?_
  have hs7 : W6.heap.size ≤ W7.heap.size := k7.below.size
  have hD5 : p.D < W6.heap.size := (Array.getElem?_eq_some_iff.1 hD6).1
  have hX7 : ∀ k, k ≠ p.b0 → k ≠ p.b1 → k ≠ p.b2 → ¬ Base.X ⟨W6, [some p.b0, some p.b1, some p.b2], [{ target := .collected p.D, args := #[] }]⟩ k := fun k h0 h1 h2 hx => by
    have : some k ∈ [some p.b0, some p.b1, some p.b2] := hx
    simp only [List.mem_cons, Option.some.injEq, List.not_mem_nil, or_false] at this
    rcases this with h | h | h
    · exact h0 h
    · exact h1 h
    · exact h2 h
  have hD7 : W7.heap[p.D]? = some (.deferred (some [])) := (k7.below.block _ hD5 (hX7 _ (Ne.symm n04) (Ne.symm n14) (Ne.symm n24))).trans hD6
  show LeavesInM _ _ _ _ _ _ a7.defers _ _
  rw [show a7.defers = [{ target := .collected p.D, args := #[] }] from k7.defers]
  refine ⟨by simp, .inl ⟨p.D, _, rfl, run_takeDeferred hD7, ?_⟩⟩
  obtain ⟨W8, hW8⟩ : ∃ W8, W7.putObj p.D (.deferred none) = W8 := ⟨_, rfl⟩
  rw [hW8]
  have hs8 : W8.heap.size = W7.heap.size := by rw [← hW8]; exact World.putObj_size
  have old8 : ∀ k, k ≠ p.D → W8.heap[k]? = W7.heap[k]? := fun k hk => by rw [← hW8]; exact World.putObj_heap_other hk
  have fp7 : ∀ k, FP p.okR W6.heap.size g7 k → p.okR k := fun k hk => hk.1.elim id (fun h => hJ5.new (by omega))
  have noD : ∀ (b : Nat) cur e, W7.heap[b]? = some (.cells cur e (0, 0)) → b ≠ p.D := fun b cur e hb he => by rw [he, hD7] at hb; cases hb
  have k8 := k7.rebase (okB := p.okR) (a' := a7) (W' := W8) rfl rfl (by omega) (fun k hk _ => ⟨old8 k (fun e => sD (e ▸ fp7 k hk)), fp7 k hk⟩) (fun i b cur e _ hb => ⟨cur, (old8 b (noD b cur e hb)).trans hb, rfl⟩) (fun i b m cs hg hi => by
    obtain ⟨cells, e, hw, _⟩ := k7.own.2 i m cs b hi hg
    exact old8 b (noD b cells e hw))
  obtain ⟨u, hu, hT⟩ := resV_at (P := Try.prog) (fn := Try.f12) (r := passR o) LL_ok k8 (by cases o <;> kernel_rfl)
  have hT2 := hT.noptr (by cases o <;> rfl)
  show ∃ v, (results Try.f12 a7.tmps).run Try.prog W8 = .ok v W8 ∧ _
  refine ⟨u, hu, u, rfl, hT2.mv ⟨fun _ _ h => h, fun _ _ _ => rfl, fun k hk _ => ?_, fun i b cur e hb => by cases hb⟩, ?_⟩
  · have hb := hJ5.below.size
    rw [show p.w0 = w by rw [hpl]] at hb
    rcases hk.1 with h | h
    · have := h.1
      rw [show p.ok = ok by rw [hpl], show p.w0 = w by rw [hpl]] at this
      exact this
    · have h : W8.heap.size ≤ k := h
      exact .inr (by omega)
  · have b := hJ5.below
    rw [show p.w0 = w by rw [hpl]] at b
    have hb := b.size
    have hn : ∀ x ∈ p.sp, ∀ k, k < w.heap.size → k ≠ x := fun x hx k hk e => by
      have := hgood.new x hx
      rw [show p.w0 = w by rw [hpl]] at this
      omega
    refine b.trans ⟨?_, ?_, ?_, by omega, fun k hk => ?_⟩
    · rw [← hW8]; exact k7.below.os.trans (by rw [← hW6]; rfl)
    · rw [← hW8]; exact k7.below.tape.trans (by rw [← hW6]; rfl)
    · rw [← hW8]; exact k7.below.output.trans (by rw [← hW6]; rfl)
    · rw [old8 k (hn _ (by simp [Pl.sp]) k hk)]
      exact (k7.below.block k (show k < W6.heap.size by omega) (hX7 k (hn _ (by simp [Pl.sp]) k hk) (hn _ (by simp [Pl.sp]) k hk) (hn _ (by simp [Pl.sp]) k hk))).trans (old6 k (hn _ (by simp [Pl.sp]) k hk))
end
section
theorem sgn_cmp (x : Rat) : sgn x.num = cmpR x 0 := by
  have := sgn_sub x 0
  rwa [Rat.sub_eq_add_neg, Rat.neg_zero, Rat.add_zero] at this
theorem cmp_lt {x y : Rat} : cmpR x y < 0 ↔ x < y := by
  unfold cmpR
  by_cases h : x < y
  · rw [if_pos h]; exact ⟨fun _ => h, fun _ => by decide⟩
  · rw [if_neg h]
    refine ⟨fun h2 => ?_, fun h2 => absurd h2 h⟩
    split at h2 <;> exact absurd h2 (by decide)
theorem cmp_ge {x y : Rat} : cmpR x y ≥ 0 ↔ ¬ x < y := by
  rw [← cmp_lt]; omega
theorem cmp_gt {x y : Rat} : 0 < cmpR x y ↔ y < x := by
  unfold cmpR
  by_cases h : x < y
  · rw [if_pos h]
    exact ⟨fun h2 => absurd h2 (by decide), fun h2 => absurd h2 (Rat.not_lt.2 (Rat.le_of_lt h))⟩
  · rw [if_neg h]
    by_cases h2 : y < x
    · rw [if_pos h2]; exact ⟨fun _ => h2, fun _ => by decide⟩
    · rw [if_neg h2]; exact ⟨fun h3 => absurd h3 (by decide), fun h3 => absurd h3 h2⟩
theorem cmp_eq {x y : Rat} : cmpR x y = 0 ↔ x = y := by
  unfold cmpR
  by_cases h : x < y
  · rw [if_pos h]
    exact ⟨fun h2 => absurd h2 (by decide), fun h2 => by subst h2; exact absurd h Rat.lt_irrefl⟩
  · rw [if_neg h]
    by_cases h2 : y < x
    · rw [if_pos h2]
      exact ⟨fun h3 => absurd h3 (by decide), fun h3 => by subst h3; exact absurd h2 Rat.lt_irrefl⟩
    · rw [if_neg h2]
      exact ⟨fun _ => Rat.le_antisymm (Rat.not_lt.1 h2) (Rat.not_lt.1 h), fun _ => rfl⟩
theorem sgn_lt {x : Rat} : sgn x.num < 0 ↔ x < 0 := by rw [sgn_cmp]; exact cmp_lt
theorem sgn_gt {x : Rat} : 0 < sgn x.num ↔ 0 < x := by rw [sgn_cmp]; exact cmp_gt
theorem sgn_eq {x : Rat} : sgn x.num = 0 ↔ x = 0 := by rw [sgn_cmp]; exact cmp_eq
theorem sgn_ge {x : Rat} : sgn x.num ≥ 0 ↔ ¬ x < 0 := by rw [sgn_cmp]; exact cmp_ge
section
variable {V S : Rat}
theorem line_zero (hS : 0 < S) : V + S * (-V / S) = 0 := by
  have hne : S ≠ 0 := fun e => by rw [e] at hS; exact Rat.lt_irrefl hS
  rw [Rat.div_def, Rat.mul_comm (-V), ← Rat.mul_assoc, Rat.mul_inv_cancel _ hne, Rat.one_mul, Rat.add_neg_cancel]
theorem line_mono (hS : 0 < S) {a b : Rat} : V + S * a < V + S * b ↔ a < b := by
  rw [Rat.add_lt_add_left, Rat.mul_comm S a, Rat.mul_comm S b]
  exact Rat.mul_lt_mul_right hS
theorem line_lt (hS : 0 < S) {b : Rat} : V + S * b < 0 ↔ b < -V / S := by
  have h := line_mono (V := V) hS (a := b) (b := -V / S)
  rw [line_zero hS] at h
  exact h
theorem line_pos (hV : V < 0) (hS : 0 < S) : 0 < -V / S := by
  have h := line_lt (V := V) hS (b := 0)
  rw [Rat.mul_zero, Rat.add_zero] at h
  exact h.1 hV
theorem line_stay (hV : V < 0) (hS : ¬ 0 < S) {b : Rat} (hb : ¬ b < 0) : V + S * b < 0 := by
  have h1 : S * b ≤ 0 := by
    have := Rat.mul_le_mul_of_nonneg_right (Rat.not_lt.1 hS) (Rat.not_lt.1 hb)
    rwa [Rat.zero_mul] at this
  have h2 := Rat.add_le_add_left (c := V) |>.2 h1
  rw [Rat.add_zero] at h2
  exact Rat.not_le.1 (fun h3 => absurd hV (Rat.not_lt.2 (Rat.le_trans h3 h2)))
theorem line_later (hS : 0 < S) (d : Rat) : -(V + S * d) / S + d = -V / S := by
  have hne : S ≠ 0 := fun e => by rw [e] at hS; exact Rat.lt_irrefl hS
  rw [Rat.neg_add, Rat.div_def, Rat.div_def, Rat.add_mul, Rat.neg_mul, Rat.neg_mul, Rat.mul_comm S d, Rat.mul_assoc, Rat.mul_inv_cancel _ hne, Rat.mul_one, Rat.add_assoc, Rat.neg_add_cancel, Rat.add_zero]
end
def r3 (q : Rat) : R3 := ((ofZ q.num).1, (ofZ q.num).2, ofN q.den)
theorem r3_q (q : Rat) : (r3 q).q = q := rv_told q
theorem r3_ok {q : Rat} {k : Nat} (h : short k q) (hk : k ≤ 2000) : (r3 q).ok := ⟨few_up h.num hk, few_up h.den hk⟩
structure R3.four (r : R3) : Prop where
  ok : r.ok
  sh : short 4 r.q
structure Lin.four (x : Lin) : Prop where
  v : x.v.four
  s : x.s.four
theorem Lin.four.ok {x : Lin} (h : x.four) : x.ok := ⟨h.v.ok, h.s.ok, short_up h.v.sh (by decide), short_up h.s.sh (by decide)⟩
theorem r3_four {r : R3} (h1 : lim r.2.1) (h2 : lim r.2.2) (h : longF r = false) : r.four := by
  unfold longF at h
  simp only [Bool.or_eq_false_iff, decide_eq_false_iff_not] at h
  exact ⟨⟨⟨h1, by omega⟩, ⟨h2, by omega⟩⟩, short_rv ⟨h1, by omega⟩ ⟨h2, by omega⟩ (by decide)⟩
def Lin.lim (x : Lin) : Prop := (Nt.lim x.v.2.1 ∧ Nt.lim x.v.2.2) ∧ Nt.lim x.s.2.1 ∧ Nt.lim x.s.2.2
theorem fewL_four {x : Lin} (h : x.lim) (hf : fewL x = true) : x.four := by
  unfold fewL at hf
  simp only [Bool.and_eq_true, Bool.not_eq_true'] at hf
  exact ⟨r3_four h.1.1 h.1.2 hf.1, r3_four h.2.1 h.2.2 hf.2⟩
theorem pass_eight {x : Lin} (h : x.four) {t : Rat} (e : passF x = some t) : short 8 t := by
  unfold passF at e
  split at e
  · cases e; exact short_div (short_neg h.v.sh) h.s.sh (by decide)
  · cases e
theorem below_iff {x : Lin} : belowF x = true ↔ x.on = true ∧ x.v.q < 0 := by
  unfold belowF
  rw [Bool.and_eq_true, decide_eq_true_iff, sgn_lt]
theorem pass_iff {x : Lin} {t : Rat} : passF x = some t ↔ (x.on = true ∧ x.v.q < 0) ∧ 0 < x.s.q ∧ t = -x.v.q / x.s.q := by
  unfold passF
  by_cases h : (belowF x && decide (0 < sgn x.s.q.num)) = true
  · rw [if_pos h]
    rw [Bool.and_eq_true, below_iff, decide_eq_true_iff, sgn_gt] at h
    exact ⟨fun e => ⟨h.1, h.2, by cases e; rfl⟩, fun ⟨_, _, e⟩ => by rw [e]⟩
  · rw [if_neg h]
    rw [Bool.and_eq_true, below_iff, decide_eq_true_iff, sgn_gt] at h
    exact ⟨fun e => (by cases e), fun ⟨h1, h2, _⟩ => absurd ⟨h1, h2⟩ h⟩
theorem pass_none {x : Lin} : passF x = none ↔ ¬ ((x.on = true ∧ x.v.q < 0) ∧ 0 < x.s.q) := by
  constructor
  · rintro h ⟨h1, h2⟩
    rw [pass_iff.2 ⟨h1, h2, rfl⟩] at h
    cases h
  · intro h
    cases e : passF x with
    | none => rfl
    | some t => exact absurd ⟨(pass_iff.1 e).1, (pass_iff.1 e).2.1⟩ h
theorem at_on {x : Lin} (h : x.on = true) (t : Rat) : atR x t = x.v.q + x.s.q * t := by unfold atR; rw [if_pos h]
theorem went_iff {x : Lin} {t : Rat} : wentF t x = true ↔ (x.on = true ∧ x.v.q < 0) ∧ ¬ atR x t < 0 := by
  unfold wentF
  rw [Bool.and_eq_true, below_iff, decide_eq_true_iff, sgn_ge]
theorem first_spec : ∀ (l : List Lin) (o : Option Rat), (∀ b, o = some b → ∃ t, l.foldl better o = some t ∧ ¬ b < t) ∧ (∀ x ∈ l, ∀ u, passF x = some u → ∃ t, l.foldl better o = some t ∧ ¬ u < t) ∧ (∀ t, l.foldl better o = some t → o = some t ∨ ∃ x ∈ l, passF x = some t)
  | [], o => ⟨fun b h => ⟨b, h, Rat.lt_irrefl⟩, fun x hx => (by cases hx), fun t h => .inl h⟩
  | x :: l, o => by
    obtain ⟨h1, h2, h3⟩ := first_spec l (better o x)
    have key : (∀ b, o = some b → ∃ c, better o x = some c ∧ ¬ b < c) ∧ (∀ u, passF x = some u → ∃ c, better o x = some c ∧ ¬ u < c) ∧ (∀ t, better o x = some t → o = some t ∨ passF x = some t) := by
      unfold better
      cases hp : passF x with
      | none => exact ⟨fun b h => ⟨b, h, Rat.lt_irrefl⟩, fun u h => (by cases h), fun t h => .inl h⟩
      | some u =>
        cases o with
        | none => exact ⟨fun b h => (by cases h), fun u' h => ⟨u, rfl, by cases h; exact Rat.lt_irrefl⟩, fun t h => .inr h⟩
        | some b =>
          by_cases hc : cmpR u b < 0
          · simp only [if_pos hc]
            have hc := cmp_lt.1 hc
            exact ⟨fun b' h => ⟨u, rfl, by cases h; exact Rat.not_lt.2 (Rat.le_of_lt hc)⟩, fun u' h => ⟨u, rfl, by cases h; exact Rat.lt_irrefl⟩, fun t h => .inr h⟩
          · simp only [if_neg hc]
            have hc := fun h => hc (cmp_lt.2 h)
            exact ⟨fun b' h => ⟨b, rfl, by cases h; exact Rat.lt_irrefl⟩, fun u' h => ⟨b, rfl, by cases h; exact hc⟩, fun t h => .inl h⟩
    have le : ∀ {a b c : Rat}, ¬ a < b → ¬ b < c → ¬ a < c := fun h1 h2 => Rat.not_lt.2 (Rat.le_trans (Rat.not_lt.1 h2) (Rat.not_lt.1 h1))
    refine ⟨fun b hb => ?_, fun y hy u hu => ?_, fun t ht => ?_⟩
    · obtain ⟨c, hc, hbc⟩ := key.1 b hb
      obtain ⟨t, ht, hct⟩ := h1 c hc
      exact ⟨t, ht, le hbc hct⟩
    · rcases List.mem_cons.1 hy with rfl | hy
      · obtain ⟨c, hc, hbc⟩ := key.2.1 u hu
        obtain ⟨t, ht, hct⟩ := h1 c hc
        exact ⟨t, ht, le hbc hct⟩
      · exact h2 y hy u hu
    · rcases h3 t ht with h | ⟨y, hy, h⟩
      · rcases key.2.2 t h with h | h
        · exact .inl h
        · exact .inr ⟨x, List.mem_cons_self, h⟩
      · exact .inr ⟨y, List.mem_cons_of_mem _ hy, h⟩
theorem same3 {x y : Rat} {k : Nat} (hx : short k x) (hk : k ≤ 2000) : Con Try.prog 16 [ra x, ra y] (.g (truth (decide (x = y)))) := by
  have h1 := hx.1
  have h2 := hx.2
  have S := rSame (ofZ x.num).1 (ofZ x.num).2 (ofN x.den) (ofZ y.num).1 (ofZ y.num).2 (ofN y.den) (by show (ofN x.num.natAbs).length < _; omega) (by omega)
  have e : (decide ((ofZ x.num).1 = (ofZ y.num).1 ∧ (ofZ x.num).2 = (ofZ y.num).2) && decide (ofN x.den = ofN y.den)) = decide (x = y) := by
    rw [Bool.eq_iff_iff]
    simp only [Bool.and_eq_true, decide_eq_true_eq]
    constructor
    · rintro ⟨⟨h1, h2⟩, h3⟩
      have e1 : x.num = y.num := by rw [← zval_ofZ x.num, h1, h2, zval_ofZ]
      exact Rat.ext e1 (ofN_inj h3)
    · intro h; subst h; exact ⟨⟨rfl, rfl⟩, rfl⟩
  rw [e] at S
  exact S
def xA : Lin := ⟨true, r3 ((-1 : Int) : Rat), r3 ((2 : Int) : Rat)⟩
def xB : Lin := ⟨true, r3 ((-3 : Int) : Rat), r3 ((4 : Int) : Rat)⟩
theorem short_small {z : Int} (h : (ofN z.natAbs).length ≤ 4) : (r3 (z : Rat)).four := by
  have hs : short 4 (z : Rat) := short_int h (by decide)
  exact ⟨r3_ok hs (by decide), by rw [r3_q]; exact hs⟩
theorem xAB : ∀ x ∈ [xA, xB], x.four := fun x hx => by
  simp only [List.mem_cons, List.not_mem_nil, or_false] at hx
  rcases hx with rfl | rfl
  · exact ⟨short_small (of_decide_eq_true (by kernel_rfl)), short_small (of_decide_eq_true (by kernel_rfl))⟩
  · exact ⟨short_small (of_decide_eq_true (by kernel_rfl)), short_small (of_decide_eq_true (by kernel_rfl))⟩
theorem half_short : short 4 (mkRat 1 2) := ⟨of_decide_eq_true (by kernel_rfl), of_decide_eq_true (by kernel_rfl)⟩
theorem awakeS : Con Try.prog 21 [] (.g (truth true)) := by
  have ok := fun x hx => (xAB x hx).ok
  have N : Con Try.prog 12 [.one (lins [xA, xB])] (.tup [ra (mkRat 1 2), truth true]) := (next_con [xA, xB] (by decide) ok).to (by kernel_rfl)
  have P : Con Try.prog 14 [.one (lins [xA, xB]), ra (mkRat 1 2)] (.g (.one (bools [true, false]))) := (passed_con [xA, xB] (by decide) ok (r3 (mkRat 1 2)) (r3_ok half_short (by decide)) (by rw [r3_q]; exact short_up half_short (by decide))).to (by kernel_rfl)
  have T : Con Try.prog 47 [ra (mkRat 1 2)] (.g (text' ⟨#[49, 47, 50]⟩)) := (rPrint _ _ _ (r3_ok half_short (by decide)).1 (r3_ok half_short (by decide)).2).to (by kernel_rfl)
  exact by_ _ Try.func21 rfl [gives (rOf (n := -1) (by decide) (by decide)), gives (rOf (n := 2) (by decide) (by decide)), gives (rOf (n := -3) (by decide) (by decide)), gives (rOf (n := 4) (by decide) (by decide)), gives N, gives P, ends (rfl : true = true), gives T, ends (eqS ⟨#[49, 47, 50]⟩), ends (rfl : ((2 : Int) == 2) = true), elem (⟨by decide, rfl⟩ : (0 : Int) ≤ 0 ∧ [[AC.v (.bool true)], [AC.v (.bool false)]][(0 : Int).toNat]? = some [AC.v (.bool true)]), ends (rfl : true = true), elem (⟨by decide, rfl⟩ : (0 : Int) ≤ 1 ∧ [[AC.v (.bool true)], [AC.v (.bool false)]][(1 : Int).toNat]? = some [AC.v (.bool false)])] (by kernel_rfl)
end
end Go.Proofs.Ytjfkhbkddenfoaa.Ev
