import Derived.Test.YtaclkccgjpjdjaaQpnmikjanhoM
import Derived.Lib.SmallJoins
import Derived.WalkKit
import Derived.ProofKit
import Derived.OpenShut
import Derived.SizedLaws
import Derived.ChangeSlices
import Derived.Test.YtaclkccgjpjdjaaQbamdiippodM
section
/- RatioField and RatioOrder, as the executor tells them. -/
namespace Go.Proofs.Ytaclkccgjpjdjaa.Ev
open Go Go.RowKit Go.Proofs.YtaclkccgjpjdjaaW.PrintWords Go.Proofs.YtaclkccgjpjdjaaW.PrintMore Go.Proofs.YtaclkccgjpjdjaaW.PrintLast Go.Proofs.Ytaclkccgjpjdjaa Go.Proofs.Ytaclkccgjpjdjaa.Nt Go.Proofs.Ytaclkccgjpjdjaa.Zi
set_option linter.unusedVariables false
set_option linter.unusedSimpArgs false
theorem sameT {x y : Rat} {k : Nat} (e : x = y) (hx : short k x) (hk : k ≤ 2000) : Con Try.prog 107 [ra x, ra y] (.g (truth true)) := (same_ra (y := y) hx hk).to (by rw [decide_eq_true e])
theorem lt_asymm' {x y : Rat} (h : x < y) : ¬ y < x := Rat.not_lt.2 (Rat.le_of_lt h)
theorem cmpR_anti (x y : Rat) : cmpR y x = -cmpR x y := by
  unfold cmpR
  by_cases h1 : x < y
  · rw [if_neg (lt_asymm' h1), if_pos h1, if_pos h1]; rfl
  · by_cases h2 : y < x
    · rw [if_pos h2, if_neg h1, if_pos h2]
    · rw [if_neg h2, if_neg h1, if_neg h1, if_neg h2]; rfl
theorem cmpR_add (x y z : Rat) : cmpR (x + z) (y + z) = cmpR x y := by
  unfold cmpR
  simp only [Rat.add_lt_add_right]
theorem cmpR_bound (x y : Rat) : cmpR x y = -1 ∨ cmpR x y = 0 ∨ cmpR x y = 1 := by
  unfold cmpR
  repeat' split
  all_goals simp
theorem sq_nonneg (z : Rat) : 0 ≤ z * z := by
  rcases Rat.le_total (a := 0) (b := z) with h | h
  · exact Rat.mul_nonneg h h
  · have h' : 0 ≤ -z := by have := Rat.neg_le_neg h; rwa [Rat.neg_zero] at this
    have := Rat.mul_nonneg h' h'
    rwa [Rat.neg_mul, Rat.mul_neg, Rat.neg_neg] at this
theorem sgn_sq (z : Rat) : sgn (z * z).num = if z * z = 0 then 0 else 1 := by
  have h := sq_nonneg z
  generalize z * z = u at *
  have h1 := Rat.num_nonneg.2 h
  unfold sgn
  by_cases e : u = 0
  · subst e; rfl
  · have : u.num ≠ 0 := fun e2 => e (Rat.num_eq_zero.1 e2)
    rw [if_neg (by omega), if_pos (by omega), if_neg e]
theorem cmpR_mul (x y z : Rat) : cmpR (x * (z * z)) (y * (z * z)) = cmpR x y * sgn (z * z).num := by
  rw [sgn_sq]
  have h := sq_nonneg z
  generalize z * z = u at *
  by_cases e : u = 0
  · subst e
    rw [if_pos rfl, Rat.mul_zero, Rat.mul_zero, Int.mul_zero]
    unfold cmpR
    rw [if_neg Rat.lt_irrefl, if_neg Rat.lt_irrefl]
  · rw [if_neg e, Int.mul_one]
    have hp : 0 < u := Rat.lt_iff_le_and_ne.2 ⟨h, fun e2 => e e2.symm⟩
    unfold cmpR
    simp only [Rat.mul_lt_mul_right hp]
section
variable (b0 : Bool) (l0 d0 : List Int) (b1 : Bool) (l1 d1 : List Int) (b2 : Bool) (l2 d2 : List Int)
theorem gFew3 (f : Bool) (h : [(b0, l0, d0), (b1, l1, d1), (b2, l2, d2)].all four = f) : Con Try.prog 102 [.one (rows [(b0, l0, d0), (b1, l1, d1), (b2, l2, d2)])] (.g (truth f)) := (gFew _ (by simp)).to (by rw [h])
theorem RatioOrder (hl0 : lim l0) (hd0 : lim d0) (hl1 : lim l1) (hd1 : lim d1) (hl2 : lim l2) (hd2 : lim d2) : ConF Try.prog 29 [rat b0 l0 d0, rat b1 l1 d1, rat b2 l2 d2] (.g (truth true)) := by
  cases hf : [(b0, l0, d0), (b1, l1, d1), (b2, l2, d2)].all four with
  | false => exact byF _ Try.func29 rfl [gives (gFew3 _ _ _ _ _ _ _ _ _ _ hf), ends (rfl : (!false) = true)] (by kernel_rfl)
  | true =>
    have F := gFew3 _ _ _ _ _ _ _ _ _ _ hf
    simp only [List.all_cons, List.all_nil, Bool.and_eq_true, Bool.and_true] at hf
    obtain ⟨a, sx⟩ := four_short hf.1 hl0 hd0
    obtain ⟨b, sy⟩ := four_short hf.2.1 hl1 hd1
    obtain ⟨c, sz⟩ := four_short hf.2.2 hl2 hd2
    simp only at a b c sx sy sz
    generalize rv b0 l0 d0 = x at *
    generalize rv b1 l1 d1 = y at *
    generalize rv b2 l2 d2 = z at *
    have su := short_mul sz sz
    have u := is_ra su (by decide)
    have bn := cmpR_bound x y
    have sb : sgn (z * z).num = 0 ∨ sgn (z * z).num = 1 := by rw [sgn_sq]; split <;> simp
    have e1 : (cmpR y x == IntKind.i64.wrap (0 - cmpR x y)) = true := by rw [beq_iff_eq, cmpR_anti, wr (by omega) (by omega)]; omega
    have e2 : (cmpR (x + z) (y + z) == cmpR x y) = true := by rw [beq_iff_eq, cmpR_add]
    have e3 : (cmpR (x * (z * z)) (y * (z * z)) == IntKind.i64.wrap (cmpR x y * sgn (z * z).num)) = true := by
      rw [beq_iff_eq, cmpR_mul]
      rcases bn with h | h | h <;> rcases sb with h' | h' <;> rw [h, h'] <;> rfl
    have e4 : decide (sgn (z * z).num ≥ 0) = true := by rw [decide_eq_true_iff]; omega
    have e5 : (sgn (x - y).num == cmpR x y) = true := by rw [beq_iff_eq, sgn_sub]
    exact byF _ Try.func29 rfl [gives F, ends (rfl : (!true) = false), gives (gCmp a b), gives (gMul c c), gives (gSign u),
      gives (gCmp b a), ends e1, gives (gAdd a c), gives (gAdd b c), gives (gCmp (is_ra (short_add sx sz) (by decide)) (is_ra (short_add sy sz) (by decide))), ends e2,
      gives (gMul a u), gives (gMul b u), gives (gCmp (is_ra (short_mul sx su) (by decide)) (is_ra (short_mul sy su) (by decide))), ends e3, gives (gSign u), ends e4,
      gives (gSub a b), gives (gSign (is_ra (short_sub sx sy) (by decide))), ends e5, gives awake] (by kernel_rfl)
theorem RatioField (hl0 : lim l0) (hd0 : lim d0) (hl1 : lim l1) (hd1 : lim d1) (hl2 : lim l2) (hd2 : lim d2) : ConF Try.prog 28 [rat b0 l0 d0, rat b1 l1 d1, rat b2 l2 d2] (.g (truth true)) := by
  cases hf : [(b0, l0, d0), (b1, l1, d1), (b2, l2, d2)].all four with
  | false => exact byF _ Try.func28 rfl [gives (gFew3 _ _ _ _ _ _ _ _ _ _ hf), ends (rfl : (!false) = true)] (by kernel_rfl)
  | true =>
    have F := gFew3 _ _ _ _ _ _ _ _ _ _ hf
    simp only [List.all_cons, List.all_nil, Bool.and_eq_true, Bool.and_true] at hf
    obtain ⟨a, sx⟩ := four_short hf.1 hl0 hd0
    obtain ⟨b, sy⟩ := four_short hf.2.1 hl1 hd1
    obtain ⟨c, sz⟩ := four_short hf.2.2 hl2 hd2
    simp only at a b c sx sy sz
    generalize rv b0 l0 d0 = x at *
    generalize rv b1 l1 d1 = y at *
    generalize rv b2 l2 d2 = z at *
    have ss := short_add sx sy
    have sp := short_mul sx sy
    have s := is_ra ss (by decide)
    have p := is_ra sp (by decide)
    have D := gDiv a b
    have t1 := sameT (Rat.add_comm x y) ss (by decide)
    have t2 := sameT (Rat.mul_comm x y) sp (by decide)
    have t3 := sameT (Rat.add_mul x y z) (short_mul ss sz) (by decide)
    have t4 := sameT (Rat.add_assoc x y z) (short_add ss sz) (by decide)
    have t5 := sameT (show x + y - y = x from Rat.add_sub_cancel) (short_sub ss sy) (by decide)
    have sac := short_mul sx sz
    have sbc := short_mul sy sz
    unfold divR at D
    by_cases h : y = 0
    · rw [if_pos h] at D
      have e : (sgn y.num == 0) = true := by rw [h]; rfl
      exact byF _ Try.func28 rfl [gives F, ends (rfl : (!true) = false), gives (gAdd a b), gives (gMul a b), gives D, gives (gSign b), ends e, ends (rfl : ((3 : Int) != 3) = false),
        gives (gAdd b a), gives t1, ends (rfl : true = true), gives (gMul b a), gives t2, ends (rfl : true = true), gives (gMul s c), gives (gMul a c), gives (gMul b c), gives (gAdd (is_ra sac (by decide)) (is_ra sbc (by decide))), gives t3, ends (rfl : true = true),
        gives (gAdd s c), gives (gAdd b c), gives (gAdd a (is_ra (short_add sy sz) (by decide))), gives t4, ends (rfl : true = true), gives (gSub s b), gives (gNorm a), gives t5, ends (rfl : true = true), gives awake] (by kernel_rfl)
    · rw [if_neg h] at D
      have e : (sgn y.num == 0) = false := by
        rw [beq_eq_false_iff_ne]
        have : y.num ≠ 0 := fun e2 => h (Rat.num_eq_zero.1 e2)
        unfold sgn
        repeat' split
        all_goals omega
      have sq := short_div sx sy (by decide)
      have t0 := sameT (Rat.div_mul_cancel h : x / y * y = x) (short_mul sq sy) (by decide)
      exact byF _ Try.func28 rfl [gives F, ends (rfl : (!true) = false), gives (gAdd a b), gives (gMul a b), gives D, gives (gSign b), ends e, ends (rfl : ((0 : Int) != 0) = false), gives (gMul (is_ra sq (by decide)) b), gives (gNorm a), gives t0, ends (rfl : (!true) = false),
        gives (gAdd b a), gives t1, ends (rfl : true = true), gives (gMul b a), gives t2, ends (rfl : true = true), gives (gMul s c), gives (gMul a c), gives (gMul b c), gives (gAdd (is_ra sac (by decide)) (is_ra sbc (by decide))), gives t3, ends (rfl : true = true),
        gives (gAdd s c), gives (gAdd b c), gives (gAdd a (is_ra (short_add sy sz) (by decide))), gives t4, ends (rfl : true = true), gives (gSub s b), gives (gNorm a), gives t5, ends (rfl : true = true), gives awake] (by kernel_rfl)
end
end Go.Proofs.Ytaclkccgjpjdjaa.Ev
end
section
/- Rational numbers: the reference's bits, floor, text; and the law RatioParts. -/
namespace Go.Proofs.Ytaclkccgjpjdjaa.Ev
open Go Go.RowKit Go.Proofs.YtaclkccgjpjdjaaW.PrintWords Go.Proofs.YtaclkccgjpjdjaaW.PrintMore Go.Proofs.YtaclkccgjpjdjaaW.PrintLast Go.Proofs.Ytaclkccgjpjdjaa Go.Proofs.Ytaclkccgjpjdjaa.Nt Go.Proofs.Ytaclkccgjpjdjaa.Zi
set_option linter.unusedVariables false
set_option linter.unusedSimpArgs false
def u32v (x : Int) : AG := .one (.v (.int .u32 x))
def S115 (c : List AC) (n k : Int) : St := ⟨sparse 49 [(1, .g (.one (.ptr 0 0))), (3, .g (u32v n)), (4, .g (num k))], [c]⟩
theorem bits_loop (b : Bool) (l d : List Int) : ∀ (n : Nat) (N : Int) (k : Nat), N = (n : Int) → n < 4294967296 → k < 1000000 - (Nb.bitsN n).length →
    Rounds Try.prog (lp Try.f115 0) (S115 [.v (.bool b), limbs l, limbs d] N k) (.exit 0) (S115 [.v (.bool b), limbs l, limbs d] 0 ((k + (Nb.bitsN n).length : Nat) : Int)) := by
  intro n
  induction n using Nat.strongRecOn with
  | _ n ih =>
    intro N k hN hn hk
    by_cases h0 : n = 0
    · subst h0
      subst hN
      exact Rounds.out (at_ _ _ [ends (rfl : decide (((0 : Nat) : Int) > 0) = false)] (by kernel_rfl)) (by simp)
    · have e : (Nb.bitsN n).length = (Nb.bitsN (n / 2)).length + 1 := by rw [Nb.bitsN_pos h0]; rfl
      have step := at_ (c := lp Try.f115 0) (p := S115 [.v (.bool b), limbs l, limbs d] N k) .normal (S115 [.v (.bool b), limbs l, limbs d] (IntKind.u32.wrap (N.tdiv 2)) (IntKind.i64.wrap ((k : Int) + 1))) [ends (show decide (N > 0) = true by rw [decide_eq_true_iff]; omega), fact (show (2 : Int) ≠ 0 by decide)] (by kernel_rfl)
      have e1 : IntKind.u32.wrap (N.tdiv 2) = ((n / 2 : Nat) : Int) := by
        rw [hN, show ((n : Int)).tdiv 2 = ((n / 2 : Nat) : Int) from rfl, u32w]; omega
      have e2 : IntKind.i64.wrap ((k : Int) + 1) = ((k + 1 : Nat) : Int) := by rw [wr (by omega) (by omega)]; omega
      rw [e2] at step
      have := ih (n / 2) (by omega) _ (k + 1) e1 (by omega) (by omega)
      rw [show k + 1 + (Nb.bitsN (n / 2)).length = k + (Nb.bitsN n).length by omega] at this
      exact this.step' step
theorem ofN_one {n : Nat} (h0 : n ≠ 0) (h : n < 4294967296) : ofN n = [(n : Int)] := by
  rw [ofN_pos h0, Nat.div_eq_of_lt h, ofN_zero, Nat.mod_eq_of_lt h]
theorem len_lt {n : Nat} (h : (ofN n).length ≤ 1) : n < 4294967296 := by
  have := val_lt (lim_ofN n)
  rw [val_ofN] at this
  have h2 : 4294967296 ^ (ofN n).length ≤ 4294967296 ^ 1 := Nat.pow_le_pow_right (by decide) h
  omega
theorem bits_max (m n : Nat) : (((Nb.bitsN (max m n)).length : Nat) : Int) = maxI ((Nb.bitsN m).length : Nat) ((Nb.bitsN n).length : Nat) := by
  unfold maxI
  rcases Nat.le_total m n with h | h
  · have := Nb.len_bits_le m n h
    rw [Nat.max_eq_right h]
    split <;> omega
  · have := Nb.len_bits_le n m h
    rw [Nat.max_eq_left h]
    split <;> omega
section
variable (b : Bool) (l d : List Int) (c : Bool) (m e : List Int)
theorem rBits (hl : few 2000 l) (hd : few 2000 d) : Con Try.prog 115 [rat b l d] (.g (num (bitsR (rv b l d)))) := by
  have N1 := rNorm b l d (few_up hl (by decide)) (few_up hd (by decide))
  have hx := short_rv (b := b) hl hd (by decide)
  generalize rv b l d = x at *
  have hd0 := x.den_nz
  have hdp := len_pos' hd0
  unfold bitsR
  by_cases h1 : (ofN x.num.natAbs).length ≤ 1
  · have t1 : decide ((((ofN x.num.natAbs).length : Nat) : Int) ≤ 1) = true := by rw [decide_eq_true_iff]; omega
    by_cases h2 : (ofN x.den).length = 1
    · have l2 := len_lt (n := x.den) (by omega)
      have l1 := len_lt h1
      have e2 := ofN_one hd0 l2
      have hb1 : (Nb.bitsN x.den).length ≤ 32 := Nb.len_bitsN_le (by omega)
      by_cases h0 : x.num.natAbs = 0
      · have N2 : Con Try.prog 95 [rat b l d] (.g (rat (ofZ x.num).1 [] [(x.den : Int)])) := N1.to (by unfold ra; rw [show (ofZ x.num).2 = ofN x.num.natAbs from rfl, h0, e2]; rfl)
        have L := (bits_loop (ofZ x.num).1 [] [(x.den : Int)] x.den (x.den : Int) 0 rfl l2 (by omega)).loop
        rw [Nat.zero_add] at L
        refine (by_ (.g (num ((Nb.bitsN x.den).length : Nat))) Try.func115 rfl [gives N2, ends (rfl : true = true), ends (rfl : true = true), elem (at0 (x.den : Int)), ends (rfl : false = false), goes L] (by kernel_rfl)).to ?_
        rw [h0, ← bits_max, Nat.max_eq_right (by omega)]
      · have e1 := ofN_one h0 l1
        have N2 : Con Try.prog 95 [rat b l d] (.g (rat (ofZ x.num).1 [(x.num.natAbs : Int)] [(x.den : Int)])) := N1.to (by unfold ra; rw [show (ofZ x.num).2 = ofN x.num.natAbs from rfl, e1, e2])
        have hm : (Nb.bitsN (max x.num.natAbs x.den)).length ≤ 32 := Nb.len_bitsN_le (by omega)
        have L := (bits_loop (ofZ x.num).1 [(x.num.natAbs : Int)] [(x.den : Int)] (max x.num.natAbs x.den) (maxI (x.den : Int) (x.num.natAbs : Int)) 0 (by unfold maxI; split <;> omega) (by omega) (by omega)).loop
        rw [Nat.zero_add] at L
        refine (by_ (.g (num ((Nb.bitsN (max x.num.natAbs x.den)).length : Nat))) Try.func115 rfl [gives N2, ends (rfl : true = true), ends (rfl : true = true), elem (at0 (x.den : Int)), ends (rfl : true = true), elem (at0 (x.num.natAbs : Int)), goes L] (by kernel_rfl)).to ?_
        rw [bits_max]
    · have B1 := foliotref01_Bits.con (ofZ x.num).2 _ (if_pos (rf (few_up hx.num (by decide))))
      have B2 := foliotref01_Bits.con (ofN x.den) _ (if_pos (rf (few_up hx.den (by decide))))
      rw [val_zi] at B1
      rw [val_ofN] at B2
      exact by_ _ Try.func115 rfl [gives N1, ends t1, ends (show ((((ofN x.den).length : Nat) : Int) == 1) = false by rw [beq_eq_false_iff_ne]; omega), gives B1, gives B2] (by kernel_rfl)
  · have B1 := foliotref01_Bits.con (ofZ x.num).2 _ (if_pos (rf (few_up hx.num (by decide))))
    have B2 := foliotref01_Bits.con (ofN x.den) _ (if_pos (rf (few_up hx.den (by decide))))
    rw [val_zi] at B1
    rw [val_ofN] at B2
    exact by_ _ Try.func115 rfl [gives N1, ends (show decide ((((ofN x.num.natAbs).length : Nat) : Int) ≤ 1) = false by rw [decide_eq_false_iff_not]; omega), ends (rfl : false = false), gives B1, gives B2] (by kernel_rfl)
theorem rFloor (hl : few 2000 l) (hd : few 2000 d) : Con Try.prog 118 [rat b l d] (.g (zi (rv b l d).floor)) := by
  have N1 := rNorm b l d (few_up hl (by decide)) (few_up hd (by decide))
  have hx := short_rv (b := b) hl hd (by decide)
  generalize rv b l d = x at *
  have D := jDiv (ofZ x.num).1 (ofZ x.num).2 false (ofN x.den) (few_up hx.num (by decide)) (few_up hx.den (by decide))
  have hd0 : (x.den : Int) ≠ 0 := by have := x.den_nz; omega
  rw [zval_ofZ, zval_den] at D
  unfold divT at D
  rw [if_neg hd0] at D
  have e : x.num.fdiv (x.den : Int) = x.floor := by rw [Rat.floor_def, Int.fdiv_eq_ediv_of_nonneg _ (by omega)]
  rw [e] at D
  exact by_ _ Try.func118 rfl [gives N1, gives (rDen (ofZ x.num).1 (ofZ x.num).2 (ofN x.den)), gives D] (by kernel_rfl)
theorem rWhole (hl : few 2000 l) (hd : few 2000 d) : Con Try.prog 120 [rat b l d] (.g (truth (decide ((rv b l d).den = 1)))) := by
  have N1 := rNorm b l d (few_up hl (by decide)) (few_up hd (by decide))
  have hx := short_rv (b := b) hl hd (by decide)
  generalize rv b l d = x at *
  have S := jSame (ofN x.den) [1] (by have := hx.2; omega)
  rw [show decide (ofN x.den = [1]) = decide (x.den = 1) by
    rw [decide_eq_decide]
    exact ⟨fun h => ofN_inj (h.trans one1.symm), fun h => by rw [h, one1]⟩] at S
  exact by_ _ Try.func120 rfl [gives N1, gives S] (by kernel_rfl)
theorem gFew1 (f : Bool) (h : [(b, l, d)].all four = f) : Con Try.prog 102 [.one (rows [(b, l, d)])] (.g (truth f)) := (gFew _ (by simp)).to (by rw [h])
theorem RatioParts (b1 : Bool) (l1 : List Int) (b2 : Bool) (l2 : List Int) (hl : lim l) (hd : lim d) (h1 : lim l1) (h2 : lim l2) : ConF Try.prog 25 [rat b l d, int b1 l1, int b2 l2] (.g (truth true)) := by
  cases hf : [(b, l, d)].all four with
  | false => exact byF _ Try.func25 rfl [gives (gFew1 _ _ _ _ hf), ends (rfl : (!false) = true), ends (rfl : true = true), ends (rfl : true = true)] (by kernel_rfl)
  | true =>
    have F := gFew1 _ _ _ _ hf
    simp only [List.all_cons, List.all_nil, Bool.and_eq_true, Bool.and_true] at hf
    obtain ⟨a, sx⟩ := four_short hf hl hd
    have hfl : few 2000 l := ⟨hl, by unfold four at hf; simp only [Bool.and_eq_true, decide_eq_true_eq] at hf; omega⟩
    have hfd : few 2000 d := ⟨hd, by unfold four at hf; simp only [Bool.and_eq_true, decide_eq_true_eq] at hf; omega⟩
    have S1 := qSign b l d hfl hfd
    have S2 := rSign b l d hfl hfd
    have B1 := qBits b l d hfl hfd
    have B2 := rBits b l d hfl hfd
    have F1 := qFloor b l d hfl hfd
    have F2 := rFloor b l d hfl hfd
    have W1 := qWhole b l d hfl hfd
    have W2 := rWhole b l d hfl hfd
    simp only at sx
    generalize rv b l d = x at *
    have hfl' : x.floor.natAbs ≤ x.num.natAbs := by rw [Rat.floor_def]; exact Int.natAbs_ediv_le_natAbs _ _
    have hfz : (ofN x.floor.natAbs).length ≤ 4 := Nat.le_trans (len_mono hfl') sx.1
    have T : Con Try.prog 116 [zi x.floor, zi x.floor] (.g (truth true)) := (jSameZ (ofZ x.floor).1 (ofZ x.floor).2 (ofZ x.floor).1 (ofZ x.floor).2 (by show (ofN x.floor.natAbs).length < _; omega)).to (by rw [decide_eq_true ⟨rfl, rfl⟩])
    have es : (sgn x.num == sgn x.num) = true := by simp
    have eb : (bitsR x == bitsR x) = true := by simp
    have ew : (decide (x.den = 1) == decide (x.den = 1)) = true := by simp
    by_cases c1 : l1.length ≤ 4
    · have t1 : decide (((l1.length : Nat) : Int) > 4) = false := by rw [decide_eq_false_iff_not]; omega
      by_cases c2 : l2.length ≤ 4
      · have t2 : decide (((l2.length : Nat) : Int) > 4) = false := by rw [decide_eq_false_iff_not]; omega
        have M1 := qMake b1 l1 b2 l2 ⟨h1, by omega⟩ ⟨h2, by omega⟩
        have M2 := rMake b1 l1 b2 l2 ⟨h1, by omega⟩ ⟨h2, by omega⟩
        have z1 : (ofN (zval b1 l1).natAbs).length ≤ 4 := few_zval ⟨h1, c1⟩
        have z2 : (ofN (zval b2 l2).natAbs).length ≤ 4 := few_zval ⟨h2, c2⟩
        generalize zval b1 l1 = p at *
        generalize zval b2 l2 = q at *
        unfold makeT at M1 M2
        by_cases h0 : q = 0
        · rw [if_pos h0] at M1 M2
          have E : Con Try.prog 107 [rat false [] [], rat false [] []] (.g (truth true)) := by_ _ Try.func107 rfl [gives ((rSame false [] [] false [] [] (by decide) (by decide)).to (rfl : _ = AV.g (truth true)))] (by kernel_rfl)
          exact byF _ Try.func25 rfl [gives F, ends (rfl : (!true) = false), ends t1, ends t2, gives M1, gives M2, gives S1, gives S2, ends es, gives B1, gives B2, ends eb, gives F1, gives F2, gives T, ends (rfl : true = true), gives W1, gives W2, ends ew, gives E, ends (rfl : true = true), ends (rfl : ((3 : Int) == 3) = true), gives awake] (by kernel_rfl)
        · rw [if_neg h0] at M1 M2
          have sq : short 8 (Rat.divInt p q) := by
            rw [Rat.divInt_eq_div]
            exact short_div (short_int z1 (by decide)) (short_int z2 (by decide)) (by decide)
          have E := sameT (rfl : Rat.divInt p q = _) sq (by decide)
          exact byF _ Try.func25 rfl [gives F, ends (rfl : (!true) = false), ends t1, ends t2, gives M1, gives M2, gives S1, gives S2, ends es, gives B1, gives B2, ends eb, gives F1, gives F2, gives T, ends (rfl : true = true), gives W1, gives W2, ends ew, gives E, ends (rfl : true = true), ends (rfl : ((0 : Int) == 0) = true), gives awake] (by kernel_rfl)
      · exact byF _ Try.func25 rfl [gives F, ends (rfl : (!true) = false), ends t1, ends (show decide (((l2.length : Nat) : Int) > 4) = true by rw [decide_eq_true_iff]; omega)] (by kernel_rfl)
    · exact byF _ Try.func25 rfl [gives F, ends (rfl : (!true) = false), ends (show decide (((l1.length : Nat) : Int) > 4) = true by rw [decide_eq_true_iff]; omega), ends (rfl : true = true)] (by kernel_rfl)
end
end Go.Proofs.Ytaclkccgjpjdjaa.Ev
end
section
/- What is handed to a law, as the executor tells it. -/
namespace Go.Proofs.Ytaclkccgjpjdjaa.Ev
open Go Go.RowKit Go.Proofs.YtaclkccgjpjdjaaW.PrintWords Go.Proofs.YtaclkccgjpjdjaaW.PrintMore Go.Proofs.YtaclkccgjpjdjaaW.PrintLast Go.Proofs.Ytaclkccgjpjdjaa Go.Proofs.Ytaclkccgjpjdjaa.Nt Go.Proofs.Ytaclkccgjpjdjaa.Zi
open Go.ChangeShapes Go.WideShapes Go.Deep Go.Joins
set_option linter.unusedVariables false
set_option linter.unusedSimpArgs false
theorem lim_wf {l : List Int} (h : ∀ x ∈ l, (Lit.int .u32 x).wf = true) : lim l := fun x hx => by
  have := h x hx
  simp only [Lit.wf, Bool.and_eq_true, decide_eq_true_eq] at this
  have h1 : IntKind.u32.min = 0 := rfl
  have h2 : IntKind.u32.max = 4294967295 := rfl
  omega
section
variable {H : Type} {enc : TypeId × Value → H} {W : World} {base b0 n : Nat} {r : Reach} {held : Bool}
theorem limbs_told {v : Value} {y : DataW H × List MemPlace} (h : DataW.trod enc Try.prog W base (fun _ => true) held n 22 [v] = some y) : ∃ l, TC [] (fun k => k < W.heap.size) W (limbs l) v ∧ lim l := by
  rcases open_ints Try.underlying22 Try.underlying107 (by kernel_rfl) h with ⟨hcs, _⟩ | ⟨x, l, c, zs, hcs, _, hl, hm, hz, _, hcell, hwz⟩
  · cases hcs
    exact ⟨[], (foot_mk fun W' _ => Rd.nil 1 none 0 : Foot (fun W => Rd W (limbs []) (.slice none 0 0)) W _), fun x hx => by cases hx⟩
  · cases hcs
    obtain ⟨m, rfl, hr0, hm0, hw0, hc0⟩ := ReadsInt.ofRowC (k := .u32) (w := W) (a := some x) (len := l) (cap := c) (zs := zs) (.inr ⟨x, rfl, hl, hm, by simpa using hz, hcell, hwz⟩)
    have hC : Kd.C (Kd.int .u32) W (some x) m.length m := Kd.C_of_reads (d := (0 : Int)) (h1 := fun _ => rfl) hr0
    exact ⟨m, lim_out hc0 (Kd.C_F (Kd.heap_int .u32) hC), lim_wf hw0⟩
set_option maxRecDepth 100000 in
theorem int_cells {c0 c1 : Value} {y : DataW H × List MemPlace} (h : DataW.trod enc Try.prog W base (fun _ => true) held n 39 [c0, c1] = some y) :
    ∃ b l, c0 = .bool b ∧ TC [] (fun k => k < W.heap.size) W (limbs l) c1 ∧ lim l := by
  obtain ⟨y0, y1, m, _, _, h0, h1⟩ := trod_struct2 Try.underlying39 h
  have k4 : Try.prog.cellsOf 4 = 1 := by kernel_rfl
  have k22 : Try.prog.cellsOf 22 = 1 := by kernel_rfl
  simp only [k4, k22] at h0 h1
  obtain ⟨b, e0, _, _⟩ := DataW.trod_bool Try.underlying4 h0
  cases e0
  obtain ⟨l, hT, hl⟩ := limbs_told h1
  exact ⟨b, l, rfl, hT, hl⟩
set_option maxRecDepth 100000 in
theorem int_told {v : Value} {d : DataW H} {p : List MemPlace} (hv : Value.okWide Try.prog W r b0 39 v) (h : DataW.Trod enc Try.prog W base (fun _ => true) held 39 v d p) :
    ∃ b l, TG [] (fun k => k < W.heap.size) W (int b l) v ∧ lim l := by
  have hsz : Try.prog.cellsOf 39 = 2 := by kernel_rfl
  obtain ⟨cs, rfl, hcs⟩ := okWide_struct Try.underlying39 hv
  obtain ⟨c0, c1, rfl⟩ := array2 (hcs.trans hsz)
  obtain ⟨fuel, hf⟩ := h
  obtain ⟨b, l, rfl, hT, hl⟩ := int_cells (c0 := c0) (c1 := c1) (by simpa [Value.cells] using hf)
  refine ⟨b, l, ⟨_, rfl, rfl, fun j c u hc hu => ?_⟩, hl⟩
  match j with
  | 0 => cases hc; cases hu; exact TC.of_v rfl
  | 1 => cases hc; cases hu; exact hT
  | j + 2 => simp at hu
set_option maxRecDepth 100000 in
theorem rat_told {v : Value} {d : DataW H} {p : List MemPlace} (hv : Value.okWide Try.prog W r b0 58 v) (h : DataW.Trod enc Try.prog W base (fun _ => true) held 58 v d p) :
    ∃ b l m, TG [] (fun k => k < W.heap.size) W (rat b l m) v ∧ lim l ∧ lim m := by
  have hsz : Try.prog.cellsOf 58 = 3 := by kernel_rfl
  obtain ⟨cs, rfl, hcs⟩ := okWide_struct Try.underlying58 hv
  obtain ⟨c0, c1, c2, rfl⟩ := array3 (hcs.trans hsz)
  obtain ⟨fuel, hf⟩ := h
  obtain ⟨y0, y1, m, _, _, h0, h1⟩ := trod_struct2 Try.underlying58 hf
  have k39 : Try.prog.cellsOf 39 = 2 := by kernel_rfl
  have k22 : Try.prog.cellsOf 22 = 1 := by kernel_rfl
  simp only [k39, k22] at h0 h1
  obtain ⟨b, l, rfl, hT, hl⟩ := int_cells (c0 := c0) (c1 := c1) (by simpa [Value.cells] using h0)
  obtain ⟨l', hT', hl'⟩ := limbs_told (v := c2) (by simpa [Value.cells] using h1)
  refine ⟨b, l, l', ⟨_, rfl, rfl, fun j c u hc hu => ?_⟩, hl, hl'⟩
  match j with
  | 0 => cases hc; cases hu; exact TC.of_v rfl
  | 1 => cases hc; cases hu; exact hT
  | 2 => cases hc; cases hu; exact hT'
  | j + 3 => simp at hu
theorem args1 {ok : Nat → Prop} {w : World} {x : AG} {u : Value} (h : TG [] ok w x u) : TA ok w [x] #[u] := ⟨rfl, fun j a b ha hb => by
  match j with
  | 0 => cases ha; simp at hb; subst hb; exact h
  | j + 1 => simp at ha⟩
theorem args_cons {ok : Nat → Prop} {w : World} {x : AG} {u : Value} {xs : List AG} {us : Array Value} (h : TG [] ok w x u) (hs : TA ok w xs us) : TA ok w (x :: xs) (#[u] ++ us) := (args1 h).append hs
end
end Go.Proofs.Ytaclkccgjpjdjaa.Ev
end
