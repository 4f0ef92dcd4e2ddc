/- The nat functions as they are printed tell the numbers that they should: Div. -/
import Derived.Test.YtaclkccgjpjdjaaNtD
namespace Go.Proofs.Ytaclkccgjpjdjaa.Nt
open Go.RowKit Go.Proofs.YtaclkccgjpjdjaaW.PrintWords Go.Proofs.YtaclkccgjpjdjaaW.PrintMore Go.Proofs.Ytaclkccgjpjdjaa.N
set_option linter.unusedVariables false
set_option linter.unusedSimpArgs false
theorem snoc_of {l : List Int} {n : Nat} (h : l.length = n + 1) : ∃ r x, l = r ++ [x] ∧ r.length = n := by
  refine ⟨l.dropLast, l.getLast (by intro e; rw [e] at h; simp at h), (List.dropLast_concat_getLast _).symm, by simp; omega⟩
theorem val_snoc (r : List Int) (x : Int) : val (r ++ [x]) = val r + 4294967296 ^ r.length * x.toNat := by rw [val_append]; simp [val_cons, val_nil]
/-- where a number is so small, the last limb is nought -/
theorem last_zero {r : List Int} {x : Int} (hx : 0 ≤ x) (h : val (r ++ [x]) < 4294967296 ^ r.length) : x = 0 := by
  rw [val_snoc] at h
  by_cases e : x.toNat = 0
  · omega
  · have := Nat.mul_le_mul_left (4294967296 ^ r.length) (show 1 ≤ x.toNat by omega)
    omega
theorem div_step {v vr : List Int} {v2 v1 : Int} {x1 : List Int} {by_ : Nat} (hv : v = vr ++ [v2, v1]) (hlv : lim v) (hv1 : 2147483648 ≤ v1) (hV : 0 < val v)
    (p R tl qs : List Int) (hlp : lim p) (hlR : lim R) (hlt : lim tl) (hRl : R.length = v.length + 1) (hRV : val R < val v * 4294967296) (hbig : p.length + R.length + tl.length + qs.length < 35184372088800) :
    ∃ R0 : List Int, lim R0 ∧ R0.length = v.length ∧ val R0 = val R % val v ∧
      ∀ X, Ev (fun k => nat_Div.l0 k x1 (by_ : Int) (p ++ (R0 ++ 0 :: tl)) v (List.replicate p.length 0 ++ ((val R / val v : Nat) : Int) :: qs) ((p.length : Int) - 1)) X →
        Ev (fun k => nat_Div.l0 k x1 (by_ : Int) (p ++ (R ++ tl)) v (List.replicate (p.length + 1) 0 ++ qs) (p.length : Int)) X := by
  have hvl : v.length = vr.length + 2 := by rw [hv]; simp
  have hvlt := val_lt hlv
  obtain ⟨R1, u0, e1, l1⟩ := snoc_of (n := vr.length + 2) (by omega : R.length = vr.length + 2 + 1)
  obtain ⟨R2, u1, e2, l2⟩ := snoc_of (n := vr.length + 1) (by omega : R1.length = vr.length + 1 + 1)
  obtain ⟨ur, u2, e3, l3⟩ := snoc_of (n := vr.length) l2
  have eR : R = ur ++ [u2, u1, u0] := by rw [e1, e2, e3]; simp
  obtain ⟨q, g1, g2, g3, g4⟩ := guess_ev (p := p) (ur := ur) (vr := vr) (tl := tl) (u0 := u0) (u1 := u1) (u2 := u2) (u := p ++ (R ++ tl)) (v := v) (by rw [eR]; simp) hv l3 (lim_append.2 ⟨hlp, lim_append.2 ⟨hlR, hlt⟩⟩) hlv hv1 (by rw [← eR]; exact hRV) (by simp; omega)
  rw [← eR] at g3 g4
  obtain ⟨R', t1, t2, t3, t4⟩ := take_ev (p := p) (R := R) (tl := tl) hlv hlR hRl (by omega) hV g2 g3 g4
  obtain ⟨R0, z, e4, l4⟩ := snoc_of (n := v.length) (by omega : R'.length = v.length + 1)
  have hz : z = 0 := by
    have hz0 := (t2 z (by rw [e4]; simp)).1
    refine last_zero hz0 (r := R0) ?_
    rw [← e4, t4, l4]
    exact Nat.lt_trans (Nat.mod_lt _ hV) hvlt
  subst hz
  refine ⟨R0, (lim_append.1 (e4 ▸ t2)).1, l4, by rw [← t4, e4, val_snoc_zero], fun X h => ?_⟩
  refine Ev.step (f := fun k => (nat_guess.f k (p ++ (R ++ tl)) v (p.length : Int)).bind fun t => (nat_take.f k (p ++ (R ++ tl)) v (p.length : Int) t).bind fun b => nat_Div.l0 k x1 (by_ : Int) b.2 v (List.replicate p.length 0 ++ b.1 :: qs) ((p.length : Int) - 1)) (fun k => ?_) (Ev.bind g1 (Ev.bind t1 ?_))
  · simp only [nat_Div.l0]
    rw [if_pos (by omega)]
    congr 1; funext t; congr 1; funext b
    rw [if_pos (by omega), if_pos (by simp; omega), w64 (by omega) (by omega), show List.replicate (p.length + 1) (0 : Int) ++ qs = List.replicate p.length 0 ++ 0 :: qs by rw [List.replicate_succ']; simp, set_app _ _ _ _ _ (by simp)]
  · have e5 : p ++ (R' ++ tl) = p ++ (R0 ++ 0 :: tl) := by rw [e4]; simp
    simp only [e5]
    exact h
theorem div_l0 {v vr : List Int} {v2 v1 : Int} {x1 : List Int} {by_ : Nat} (hv : v = vr ++ [v2, v1]) (hlv : lim v) (hv1 : 2147483648 ≤ v1) (hx1 : x1.length = v.length) (hby : by_ ≤ 31) (hV : 0 < val v) :
    ∀ (pr R tl qs : List Int), lim pr → lim R → lim tl → lim qs → R.length = v.length + 1 → val R < val v * 4294967296 → 2 * pr.length + R.length + tl.length + qs.length < 35184372088800 →
    ∃ dg : List Int, lim dg ∧ dg.length = pr.length + 1 ∧ val dg = val (pr.reverse ++ R) / val v ∧
      Ev (fun k => nat_Div.l0 k x1 (by_ : Int) (pr.reverse ++ (R ++ tl)) v (List.replicate (pr.length + 1) 0 ++ qs) (pr.length : Int)) (ofN (val (dg ++ qs)), ofN (val (pr.reverse ++ R) % val v / 2 ^ by_), 0) := by
  intro pr
  induction pr with
  | nil =>
    intro R tl qs hlp hlR hlt hlq hRl hRV hbig
    obtain ⟨R0, h1, h2, h3, h4⟩ := div_step (x1 := x1) (by_ := by_) hv hlv hv1 hV [] R tl qs hlp hlR hlt hRl hRV hbig
    have hd : val R / val v < 4294967296 := (Nat.div_lt_iff_lt_mul hV).2 (by rw [Nat.mul_comm]; exact hRV)
    simp only [List.length_nil] at hbig
    generalize hdd : val R / val v = d at *
    have hld : lim ((d : Int) :: qs) := lim_cons.2 ⟨by omega, hlq⟩
    refine ⟨[(d : Int)], lim_cons.2 ⟨(lim_cons.1 hld).1, lim_nil⟩, rfl, by rw [List.reverse_nil, List.nil_append, hdd, val_cons, val_nil]; omega, h4 _ ?_⟩
    have hr := right_ev (a := R0) (by_ := (by_ : Int)) h1 (by omega) (by omega) (by omega)
    rw [Int.toNat_natCast, h3] at hr
    have hc := cut_ev hld (by simp; omega)
    refine Ev.step (f := fun k => (nat_cut.f k ((d : Int) :: qs)).bind fun t => (nat_right.f k R0 (by_ : Int)).bind fun s => some (t, s, 0)) (fun k => ?_) (Ev.bind hc (Ev.bind hr (Ev.now _)))
    simp only [nat_Div.l0]
    rw [if_neg (by simp), show List.replicate ([] : List Int).length (0 : Int) ++ (d : Int) :: qs = (d : Int) :: qs by simp]
    congr 1; funext t
    rw [if_pos (by omega), if_pos (by simp; omega), Int.toNat_natCast, hx1, ← h2, List.nil_append, List.take_left]
  | cons x pr ih =>
    intro R tl qs hlp hlR hlt hlq hRl hRV hbig
    obtain ⟨hx, hlp'⟩ := lim_cons.1 hlp
    have hlrev : lim (x :: pr).reverse := fun z hz => hlp z (by rw [List.mem_reverse] at hz; exact hz)
    have hd : val R / val v < 4294967296 := (Nat.div_lt_iff_lt_mul hV).2 (by rw [Nat.mul_comm]; exact hRV)
    have hdm := Nat.div_add_mod (val R) (val v)
    obtain ⟨R0, h1, h2, h3, h4⟩ := div_step (x1 := x1) (by_ := by_) hv hlv hv1 hV (x :: pr).reverse R tl qs hlrev hlR hlt hRl hRV (by simp only [List.length_reverse]; omega)
    have hml := Nat.mod_lt (val R) hV
    simp only [List.length_cons] at hbig
    generalize hdd : val R / val v = d at *
    obtain ⟨dg, i1, i2, i3, i4⟩ := ih (x :: R0) (0 :: tl) ((d : Int) :: qs) hlp' (lim_cons.2 ⟨hx, h1⟩) (lim_cons.2 ⟨⟨by decide, by decide⟩, hlt⟩) (lim_cons.2 ⟨by omega, hlq⟩) (by simp [h2]) (by rw [val_cons, h3]; omega) (by simp only [List.length_cons]; omega)
    have eW : val ((x :: pr).reverse ++ R) = val (pr.reverse ++ x :: R0) + 4294967296 ^ (pr.length + 1) * d * val v := by
      have ea : pr.reverse ++ x :: R0 = (x :: pr).reverse ++ R0 := by simp
      rw [ea, val_append, val_append, List.length_reverse, List.length_cons, h3, ← hdm]
      generalize 4294967296 ^ (pr.length + 1) = P
      grind
    simp only [List.length_reverse] at h4
    refine ⟨dg ++ [(d : Int)], lim_append.2 ⟨i1, lim_cons.2 ⟨by omega, lim_nil⟩⟩, by simp [i2], ?_, h4 _ ?_⟩
    · rw [eW, Nat.add_mul_div_right _ _ hV, val_snoc, i3, i2, Int.toNat_natCast]
    · rw [eW, Nat.add_mul_mod_self_right]
      simp only [List.length_cons]
      rw [List.append_assoc]
      have e6 : ((pr.length + 1 : Nat) : Int) - 1 = (pr.length : Int) := by omega
      have e7 : (x :: pr).reverse ++ (R0 ++ 0 :: tl) = pr.reverse ++ (x :: R0 ++ 0 :: tl) := by simp
      simp only [e6, e7]
      exact i4
theorem pow_le_of_len {n : Nat} (h : n ≠ 0) : 4294967296 ^ ((ofN n).length - 1) ≤ n := by
  apply Nat.le_of_not_lt
  intro hc
  have := len_ofN_le hc
  have hne : (ofN n).length ≠ 0 := fun e => h (ofN_nil.1 (List.eq_nil_of_length_eq_zero e))
  omega
/-- where a number has that many limbs, its last limb is not nought -/
theorem last_ofN {n : Nat} {r : List Int} {y : Int} (h : ofN n = r ++ [y]) : 0 < y ∧ y < 4294967296 ∧ lim r ∧ n = val r + 4294967296 ^ r.length * y.toNat := by
  have hl := lim_ofN n
  rw [h] at hl
  obtain ⟨h1, h2⟩ := lim_append.1 hl
  have hy := h2 y (by simp)
  have e : n = val r + 4294967296 ^ r.length * y.toNat := by rw [← val_snoc, ← h, val_ofN]
  refine ⟨?_, hy.2, h1, e⟩
  have hn : n ≠ 0 := fun e => by rw [e, ofN_zero] at h; simp at h
  have hp := pow_le_of_len hn
  rw [h, List.length_append, List.length_singleton, Nat.add_sub_cancel] at hp
  have := val_lt h1
  by_cases e0 : y.toNat = 0
  · rw [e0] at e; omega
  · omega
theorem div_big {a b : Nat} (hba : b ≤ a) {r : List Int} {y : Int} (hb : ofN b = r ++ [y]) (hr : 1 ≤ r.length) (hbig : (ofN a).length < 35184372088000) :
    ∃ by_ : Nat, by_ ≤ 31 ∧ bits_LeadingZeros32.f y = some (by_ : Int) ∧ ∃ vr v2 v1, (leftl (2 ^ by_) 0 (ofN b)).take (ofN b).length = vr ++ [v2, v1] ∧ vr.length + 2 = (ofN b).length ∧ lim (vr ++ [v2, v1]) ∧ 2147483648 ≤ v1 ∧ val (vr ++ [v2, v1]) = b * 2 ^ by_ ∧
      ∃ p R, leftl (2 ^ by_) 0 (ofN a) = p ++ R ∧ p.length + (ofN b).length = (ofN a).length ∧ lim p ∧ lim R ∧ R.length = (ofN b).length + 1 ∧ val (p ++ R) = a * 2 ^ by_ ∧ val R < b * 2 ^ by_ * 4294967296 := by
  obtain ⟨y0, y1, hlr, eb⟩ := last_ofN hb
  obtain ⟨by_, z1, z2, z3, z4⟩ := zeros32 y0 y1
  have hbl : (ofN b).length = r.length + 1 := by rw [hb]; simp
  have hab : (ofN b).length ≤ (ofN a).length := len_mono hba
  have hpD : (0 : Int) < 2 ^ by_ := Int.pow_pos (by omega)
  have eD : ((2 : Int) ^ by_) = ((2 ^ by_ : Nat) : Int) := by simp
  have hD31 : 2 ^ by_ ≤ 2 ^ 31 := Nat.pow_le_pow_right (by omega) z2
  have hD31' : 2 ^ by_ ≤ 2147483648 := hD31
  have hDi : (2 : Int) ^ by_ ≤ 4294967296 := by rw [eD]; have := hD31'; generalize 2 ^ by_ = D at *; omega
  have hDM : 2 ^ (32 - by_) * 2 ^ by_ = 4294967296 := by rw [← Nat.pow_add, show 32 - by_ + by_ = 32 by omega]
  obtain ⟨lb1, lb2, lb3⟩ := leftl_val hpD hDi (ofN b) 0 (lim_ofN b) (by omega) hpD
  obtain ⟨la1, la2, la3⟩ := leftl_val hpD hDi (ofN a) 0 (lim_ofN a) (by omega) hpD
  generalize hLb : leftl ((2 : Int) ^ by_) 0 (ofN b) = Lb at *
  generalize hLa : leftl ((2 : Int) ^ by_) 0 (ofN a) = La at *
  rw [val_ofN, Int.zero_add, eD, ← Int.natCast_mul] at lb2 la2
  rw [eD] at z3 z4
  generalize hD : 2 ^ by_ = D at *
  obtain ⟨n, rfl⟩ := Int.eq_ofNat_of_zero_le (show 0 ≤ y by omega)
  rw [← Int.natCast_mul] at z3 z4
  rw [Int.toNat_natCast] at eb
  have lb2' : val Lb = b * D := by omega
  have la2' : val La = a * D := by omega
  have wr := val_lt hlr
  have hD0 : 0 < D := by omega
  have hnM : n + 1 ≤ 2 ^ (32 - by_) := by
    apply Nat.lt_of_mul_lt_mul_right (a := D)
    rw [hDM]; omega
  have hnD : (n + 1) * D ≤ 4294967296 := by rw [← hDM]; exact Nat.mul_le_mul_right _ hnM
  have hbD : b * D < 4294967296 ^ (r.length + 1) := by
    have h1 : b * D < (4294967296 ^ r.length * (n + 1)) * D := Nat.mul_lt_mul_of_pos_right (by rw [eb, Nat.mul_add]; omega) hD0
    have h2 : 4294967296 ^ r.length * ((n + 1) * D) ≤ 4294967296 ^ r.length * 4294967296 := Nat.mul_le_mul_left _ hnD
    rw [Nat.mul_assoc] at h1
    rw [Nat.pow_succ]; omega
  have hbD2 : 4294967296 ^ r.length * 2147483648 ≤ b * D := by
    have h1 : 4294967296 ^ r.length * n * D ≤ b * D := Nat.mul_le_mul_right _ (by omega)
    have h2 : 4294967296 ^ r.length * 2147483648 ≤ 4294967296 ^ r.length * (n * D) := Nat.mul_le_mul_left _ (by omega)
    rw [Nat.mul_assoc] at h1; omega
  obtain ⟨V0, z, eV, lV⟩ := snoc_of (n := (ofN b).length) lb3
  have hz : z = 0 := by
    refine last_zero (lb1 z (by rw [eV]; simp)).1 (r := V0) ?_
    rw [← eV, lb2', lV, hbl]; exact hbD
  subst hz
  have eVt : Lb.take (ofN b).length = V0 := by rw [eV, ← lV, List.take_left]
  have hlV0 : lim V0 := (lim_append.1 (eV ▸ lb1)).1
  have vV0 : val V0 = b * D := by rw [← lb2', eV, val_snoc_zero]
  obtain ⟨V1, v1, eV1, lV1⟩ := snoc_of (n := r.length) (by omega : V0.length = r.length + 1)
  obtain ⟨vr, v2, eV2, lV2⟩ := snoc_of (n := r.length - 1) (by omega : V1.length = r.length - 1 + 1)
  have eV3 : V0 = vr ++ [v2, v1] := by rw [eV1, eV2]; simp
  have hv1 : 2147483648 ≤ v1 := by
    have hl1 := hlV0 v1 (by rw [eV1]; simp)
    have hl2 := val_lt ((lim_append.1 (eV1 ▸ hlV0)).1)
    have h1 : val V1 + 4294967296 ^ r.length * v1.toNat = b * D := by rw [← lV1, ← val_snoc, ← eV1, vV0]
    rw [lV1] at hl2
    have h2 : 4294967296 ^ r.length * 2147483648 < 4294967296 ^ r.length * (v1.toNat + 1) := by rw [Nat.mul_add]; omega
    have := Nat.lt_of_mul_lt_mul_left h2
    omega
  refine ⟨by_, z2, z1, vr, v2, v1, by rw [hLb, eVt, eV3], by omega, eV3 ▸ hlV0, hv1, by rw [← eV3, vV0, hD], La.take ((ofN a).length - (ofN b).length), La.drop ((ofN a).length - (ofN b).length), by rw [hLa, List.take_append_drop], by rw [List.length_take]; omega, lim_take la1 _, lim_drop la1 _, by rw [List.length_drop]; omega, by rw [List.take_append_drop, la2', hD], ?_⟩
  rw [hD]
  have h1 : val (La.take ((ofN a).length - (ofN b).length)) + 4294967296 ^ ((ofN a).length - (ofN b).length) * val (La.drop ((ofN a).length - (ofN b).length)) = a * D := by
    rw [← la2', show val La = val (La.take ((ofN a).length - (ofN b).length) ++ La.drop ((ofN a).length - (ofN b).length)) by rw [List.take_append_drop], val_append, List.length_take, show min ((ofN a).length - (ofN b).length) La.length = (ofN a).length - (ofN b).length by omega]
  apply Nat.lt_of_not_le
  intro hc
  have h2 := lt_len_ofN a
  have h3 : a * D < 4294967296 ^ (ofN a).length * D := Nat.mul_lt_mul_of_pos_right h2 hD0
  have h4 : 4294967296 ^ (ofN a).length * D ≤ 4294967296 ^ (ofN a).length * 2147483648 := Nat.mul_le_mul_left _ hD31'
  have h5 : 4294967296 ^ ((ofN a).length - (ofN b).length) * (b * D * 4294967296) ≤ 4294967296 ^ ((ofN a).length - (ofN b).length) * val (La.drop ((ofN a).length - (ofN b).length)) := Nat.mul_le_mul_left _ hc
  have h6 : 4294967296 ^ ((ofN a).length - (ofN b).length) * (4294967296 ^ r.length * 2147483648 * 4294967296) ≤ 4294967296 ^ ((ofN a).length - (ofN b).length) * (b * D * 4294967296) := Nat.mul_le_mul_left _ (Nat.mul_le_mul_right _ hbD2)
  have h7 : 4294967296 ^ ((ofN a).length - (ofN b).length) * (4294967296 ^ r.length * 2147483648 * 4294967296) = 4294967296 ^ (ofN a).length * 2147483648 := by
    rw [show (ofN a).length = ((ofN a).length - (ofN b).length) + (r.length + 1) by omega, Nat.pow_add, Nat.pow_succ, show ((ofN a).length - (ofN b).length) + (r.length + 1) - (ofN b).length = (ofN a).length - (ofN b).length by omega]
    generalize 4294967296 ^ ((ofN a).length - (ofN b).length) = X
    generalize 4294967296 ^ r.length = Y
    grind
  omega
theorem div_ev {a b : List Int} (ha : lim a) (hb : lim b) (hl : a.length ≤ 8796093022208) (hm : b.length ≤ 8796093022208) :
    Ev (fun k => nat_Div.f k a b) (if val b = 0 then ([], [], 3) else (ofN (val a / val b), ofN (val a % val b), 0)) := by
  unfold nat_Div.f
  refine Ev.bind (cut_ev ha (by omega)) (Ev.bind (cut_ev hb (by omega)) ?_)
  have h1 := len_cut ha
  have h2 := len_cut hb
  generalize val a = A at *
  generalize val b = B at *
  by_cases hB : B = 0
  · rw [if_pos hB]
    refine Ev.congr (f := fun _ => some ([], [], 3)) (fun k => if_pos (by rw [hB, ofN_zero]; rfl)) (Ev.now _)
  · have hBl : (ofN B).length ≠ 0 := fun e => hB (ofN_nil.1 (List.eq_nil_of_length_eq_zero e))
    rw [if_neg hB]
    refine Ev.congr (f := fun k => _) (fun k => if_neg (by omega)) ?_
    have hcmp := cmp_ev (lim_ofN A) (lim_ofN B) (by omega) (by omega)
    rw [val_ofN, val_ofN] at hcmp
    by_cases hlt : A < B
    · rw [if_pos hlt] at hcmp
      refine Ev.bind hcmp (Ev.congr (f := fun _ => some ([], ofN A, 0)) (fun k => ?_) ?_)
      · rw [if_pos (by decide), clone_some (by omega)]; rfl
      · rw [Nat.div_eq_of_lt hlt, Nat.mod_eq_of_lt hlt, ofN_zero]; exact Ev.now _
    · have hge : ¬ ((if B < A then (1 : Int) else 0) < 0) := by split <;> decide
      rw [if_neg hlt] at hcmp
      refine Ev.bind hcmp ?_
      refine Ev.congr (f := fun k => _) (fun k => if_neg hge) ?_
      obtain ⟨r, y, e, lr⟩ := snoc_of (n := (ofN B).length - 1) (l := ofN B) (by omega)
      obtain ⟨y0, y1, hlr, eB⟩ := last_ofN e
      by_cases hone : (ofN B).length = 1
      · refine Ev.congr (f := fun k => _) (fun k => if_pos (by omega)) ?_
        refine Ev.congr (f := fun k => _) (fun k => if_pos (by omega)) ?_
        obtain rfl : r = [] := List.eq_nil_of_length_eq_zero (by omega)
        have ey : rd (ofN B) 0 = y := by rw [e]; exact rd_app [] y [] 0 rfl
        have eBy : B = y.toNat := by rw [eB]; simp [val_nil]
        have hs := small_ev (lim_ofN A) y0 y1 (by omega)
        rw [val_ofN, ← eBy] at hs
        rw [ey]
        refine Ev.bind hs ?_
        have hmod : A % B < 4294967296 := Nat.lt_of_lt_of_le (Nat.mod_lt _ (by omega)) (by omega)
        have hc := cut_ev (a := [((A % B : Nat) : Int)]) (lim_cons.2 ⟨by generalize A % B = m at *; omega, lim_nil⟩) (by simp)
        rw [val_cons, val_nil, Int.toNat_natCast, Nat.mul_zero, Nat.add_zero] at hc
        exact Ev.bind hc (Ev.now _)
      · refine Ev.congr (f := fun k => _) (fun k => if_neg (by omega)) ?_
        obtain ⟨by_, b1, b2, vr, v2, v1, c1, c2, c3, c4, c5, p, R, d1, d2, d3, d4, d5, d6, d7⟩ := div_big (by omega : B ≤ A) e (by omega) (by omega)
        have ey : rd (ofN B) (((ofN B).length : Int) - 1) = y := by
          have hlen : (ofN B).length = r.length + 1 := by omega
          rw [hlen, e]; exact rd_app r y [] _ (by omega)
        rw [w64 (x := ((ofN B).length : Int) - 1) (by omega) (by omega), ey, b2]
        refine Ev.congr (f := fun k => _) (fun k => if_pos (by omega)) ?_
        refine Ev.congr (f := fun k => _) (fun k => if_pos (by omega)) ?_
        simp only [Option.bind_some]
        have hla := left_ev (a := ofN A) (by_ := (by_ : Int)) (lim_ofN A) (by omega) (by omega) (by omega)
        have hlb := left_ev (a := ofN B) (by_ := (by_ : Int)) (lim_ofN B) (by omega) (by omega) (by omega)
        rw [Int.toNat_natCast] at hla hlb
        refine Ev.bind hla (Ev.bind hlb ?_)
        have hlbl : (leftl ((2 : Int) ^ by_) 0 (ofN B)).length = (ofN B).length + 1 := by
          have hpD : (0 : Int) < 2 ^ by_ := Int.pow_pos (by omega)
          have h31 : (2 : Nat) ^ by_ ≤ 2 ^ 31 := Nat.pow_le_pow_right (by omega) b1
          have eD : ((2 : Int) ^ by_) = ((2 ^ by_ : Nat) : Int) := by simp
          have hDi : (2 : Int) ^ by_ ≤ 4294967296 := by rw [eD]; have h31' : 2 ^ by_ ≤ 2147483648 := h31; generalize 2 ^ by_ = D at *; omega
          exact (leftl_val hpD hDi (ofN B) 0 (lim_ofN B) (by omega) hpD).2.2
        refine Ev.congr (f := fun k => _) (fun k => if_pos (by omega)) ?_
        refine Ev.congr (f := fun k => _) (fun k => if_pos (by omega)) ?_
        rw [w64 (x := ((ofN A).length : Int) - ((ofN B).length : Int)) (by omega) (by omega), w64 (x := ((ofN A).length : Int) - ((ofN B).length : Int) + 1) (by omega) (by omega)]
        refine Ev.congr (f := fun k => _) (fun k => if_pos (by omega)) ?_
        refine Ev.congr (f := fun k => _) (fun k => if_pos (by omega)) ?_
        have ep : (((ofN A).length : Int) - ((ofN B).length : Int) + 1).toNat = p.length + 1 := by omega
        rw [ep, List.length_replicate, w64 (x := ((p.length + 1 : Nat) : Int) - 1) (by omega) (by omega), show ((p.length + 1 : Nat) : Int) - 1 = (p.length : Int) by omega, d1, Int.toNat_natCast, c1]
        have hBp : 0 < B * 2 ^ by_ := Nat.mul_pos (by omega) (Nat.pow_pos (by omega))
        obtain ⟨dg, g1, g2, g3, g4⟩ := div_l0 (v := vr ++ [v2, v1]) (x1 := ofN B) (by_ := by_) rfl c3 c4 (by simp; omega) b1 (by rw [c5]; exact hBp) p.reverse R [] [] (fun z hz => d3 z (by rw [List.mem_reverse] at hz; exact hz)) d4 lim_nil lim_nil (by simp; omega) (by rw [c5]; exact d7) (by simp; omega)
        rw [List.reverse_reverse, List.length_reverse, List.append_nil, List.append_nil, List.append_nil, c5, d6, g3, List.reverse_reverse, d6, c5, Nat.mul_div_mul_right _ _ (Nat.pow_pos (by omega)), Nat.mul_mod_mul_right, Nat.mul_div_cancel _ (Nat.pow_pos (by omega))] at g4
        exact g4
end Go.Proofs.Ytaclkccgjpjdjaa.Nt
