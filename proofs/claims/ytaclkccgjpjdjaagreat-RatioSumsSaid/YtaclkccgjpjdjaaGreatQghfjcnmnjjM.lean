import Derived.Test.YtaclkccgjpjdjaaGreatQmldkffldhgM
import Derived.Test.YtaclkccgjpjdjaaGreatQbigpioiaboNx11
import Derived.Lib.IndexBytes
import Derived.Test.YtaclkccgjpjdjaaGreatQhafencaijhNx10
import Derived.Test.YtaclkccgjpjdjaaGreatQingfcblcjkNx1
import Derived.Laws.BitsAllLaws
import Derived.Test.YtaclkccgjpjdjaaGreatQnghobmkcieNx3
import Derived.Test.YtaclkccgjpjdjaaGreatQmjmpmeafnkNx2
import Derived.Test.YtaclkccgjpjdjaaGreatQabpbnhiiplNx4
import Derived.Test.YtaclkccgjpjdjaaGreatQfnldgfjlipNx5
import Derived.Test.YtaclkccgjpjdjaaGreatQiigmcbbmakNx12
import Derived.Lib.SliceRun
import Derived.Test.YtaclkccgjpjdjaaGreatQokppbkhdpoNx9
import Derived.Test.YtaclkccgjpjdjaaGreatQkifkkacfdpNx8
import Derived.Laws.Externs
section
/- The nat functions as they are printed tell the numbers that they should: Div. -/
namespace Go.Proofs.YtaclkccgjpjdjaaGreat.Nt
open Go.RowKit Go.Proofs.YtaclkccgjpjdjaaGreatW.PrintWords Go.Proofs.YtaclkccgjpjdjaaGreatW.PrintMore Go.Proofs.YtaclkccgjpjdjaaGreat.N
set_option linter.unusedVariables false
set_option linter.unusedSimpArgs false
theorem snoc_of {l : List Int} {n : Nat} (h : l.length = n + 1) : ∃ r x, l = r ++ [x] ∧ r.length = n := by
  refine ⟨l.dropLast, l.getLast (by intro e; rw [e] at h; simp at h), (List.dropLast_concat_getLast _).symm, by simp; omega⟩
theorem val_snoc (r : List Int) (x : Int) : val (r ++ [x]) = val r + 4294967296 ^ r.length * x.toNat := by rw [val_append]; simp [val_cons, val_nil]
theorem last_zero {r : List Int} {x : Int} (hx : 0 ≤ x) (h : val (r ++ [x]) < 4294967296 ^ r.length) : x = 0 := by
  rw [val_snoc] at h
  by_cases e : x.toNat = 0
  · omega
  · have := Nat.mul_le_mul_left (4294967296 ^ r.length) (show 1 ≤ x.toNat by omega)
    omega
theorem div_step {v vr : List Int} {v2 v1 : Int} {x1 : List Int} {by_ : Nat} (hv : v = vr ++ [v2, v1]) (hlv : lim v) (hv1 : 2147483648 ≤ v1) (hV : 0 < val v)
    (p R tl qs : List Int) (hlp : lim p) (hlR : lim R) (hlt : lim tl) (hRl : R.length = v.length + 1) (hRV : val R < val v * 4294967296) (hbig : p.length + R.length + tl.length + qs.length < 35184372088800) :
    ∃ R0 : List Int, lim R0 ∧ R0.length = v.length ∧ val R0 = val R % val v ∧
      ∀ X, Ev (fun k => nat_Div.l0 k x1 (by_ : Int) (p ++ (R0 ++ 0 :: tl)) v (List.replicate p.length 0 ++ ((val R / val v : Nat) : Int) :: qs) ((p.length : Int) - 1)) X →
        Ev (fun k => nat_Div.l0 k x1 (by_ : Int) (p ++ (R ++ tl)) v (List.replicate (p.length + 1) 0 ++ qs) (p.length : Int)) X := by
  have hvl : v.length = vr.length + 2 := by rw [hv]; simp
  have hvlt := val_lt hlv
  obtain ⟨R1, u0, e1, l1⟩ := snoc_of (n := vr.length + 2) (by omega : R.length = vr.length + 2 + 1)
  obtain ⟨R2, u1, e2, l2⟩ := snoc_of (n := vr.length + 1) (by omega : R1.length = vr.length + 1 + 1)
  obtain ⟨ur, u2, e3, l3⟩ := snoc_of (n := vr.length) l2
  have eR : R = ur ++ [u2, u1, u0] := by rw [e1, e2, e3]; simp
  obtain ⟨q, g1, g2, g3, g4⟩ := guess_ev (p := p) (ur := ur) (vr := vr) (tl := tl) (u0 := u0) (u1 := u1) (u2 := u2) (u := p ++ (R ++ tl)) (v := v) (by rw [eR]; simp) hv l3 (lim_append.2 ⟨hlp, lim_append.2 ⟨hlR, hlt⟩⟩) hlv hv1 (by rw [← eR]; exact hRV) (by simp; omega)
  rw [← eR] at g3 g4
  obtain ⟨R', t1, t2, t3, t4⟩ := take_ev (p := p) (R := R) (tl := tl) hlv hlR hRl (by omega) hV g2 g3 g4
  obtain ⟨R0, z, e4, l4⟩ := snoc_of (n := v.length) (by omega : R'.length = v.length + 1)
  have hz : z = 0 := by
    have hz0 := (t2 z (by rw [e4]; simp)).1
    refine last_zero hz0 (r := R0) ?_
    rw [← e4, t4, l4]
    exact Nat.lt_trans (Nat.mod_lt _ hV) hvlt
  subst hz
  refine ⟨R0, (lim_append.1 (e4 ▸ t2)).1, l4, by rw [← t4, e4, val_snoc_zero], fun X h => ?_⟩
  refine Ev.step (f := fun k => (nat_guess.f k (p ++ (R ++ tl)) v (p.length : Int)).bind fun t => (nat_take.f k (p ++ (R ++ tl)) v (p.length : Int) t).bind fun b => nat_Div.l0 k x1 (by_ : Int) b.2 v (List.replicate p.length 0 ++ b.1 :: qs) ((p.length : Int) - 1)) (fun k => ?_) (Ev.bind g1 (Ev.bind t1 ?_))
  · simp only [nat_Div.l0]
    rw [if_pos (by omega)]
    congr 1; funext t; congr 1; funext b
    rw [if_pos (by omega), if_pos (by simp; omega), w64 (by omega) (by omega), show List.replicate (p.length + 1) (0 : Int) ++ qs = List.replicate p.length 0 ++ 0 :: qs by rw [List.replicate_succ']; simp, set_app _ _ _ _ _ (by simp)]
  · have e5 : p ++ (R' ++ tl) = p ++ (R0 ++ 0 :: tl) := by rw [e4]; simp
    simp only [e5]
    exact h
theorem div_l0 {v vr : List Int} {v2 v1 : Int} {x1 : List Int} {by_ : Nat} (hv : v = vr ++ [v2, v1]) (hlv : lim v) (hv1 : 2147483648 ≤ v1) (hx1 : x1.length = v.length) (hby : by_ ≤ 31) (hV : 0 < val v) :
    ∀ (pr R tl qs : List Int), lim pr → lim R → lim tl → lim qs → R.length = v.length + 1 → val R < val v * 4294967296 → 2 * pr.length + R.length + tl.length + qs.length < 35184372088800 →
    ∃ dg : List Int, lim dg ∧ dg.length = pr.length + 1 ∧ val dg = val (pr.reverse ++ R) / val v ∧
      Ev (fun k => nat_Div.l0 k x1 (by_ : Int) (pr.reverse ++ (R ++ tl)) v (List.replicate (pr.length + 1) 0 ++ qs) (pr.length : Int)) (ofN (val (dg ++ qs)), ofN (val (pr.reverse ++ R) % val v / 2 ^ by_), 0) := by
  intro pr
  induction pr with
  | nil =>
    intro R tl qs hlp hlR hlt hlq hRl hRV hbig
    obtain ⟨R0, h1, h2, h3, h4⟩ := div_step (x1 := x1) (by_ := by_) hv hlv hv1 hV [] R tl qs hlp hlR hlt hRl hRV hbig
    have hd : val R / val v < 4294967296 := (Nat.div_lt_iff_lt_mul hV).2 (by rw [Nat.mul_comm]; exact hRV)
    simp only [List.length_nil] at hbig
    generalize hdd : val R / val v = d at *
    have hld : lim ((d : Int) :: qs) := lim_cons.2 ⟨by omega, hlq⟩
    refine ⟨[(d : Int)], lim_cons.2 ⟨(lim_cons.1 hld).1, lim_nil⟩, rfl, by rw [List.reverse_nil, List.nil_append, hdd, val_cons, val_nil]; omega, h4 _ ?_⟩
    have hr := right_ev (a := R0) (by_ := (by_ : Int)) h1 (by omega) (by omega) (by omega)
    rw [Int.toNat_natCast, h3] at hr
    have hc := cut_ev hld (by simp; omega)
    refine Ev.step (f := fun k => (nat_cut.f k ((d : Int) :: qs)).bind fun t => (nat_right.f k R0 (by_ : Int)).bind fun s => some (t, s, 0)) (fun k => ?_) (Ev.bind hc (Ev.bind hr (Ev.now _)))
    simp only [nat_Div.l0]
    rw [if_neg (by simp), show List.replicate ([] : List Int).length (0 : Int) ++ (d : Int) :: qs = (d : Int) :: qs by simp]
    congr 1; funext t
    rw [if_pos (by omega), if_pos (by simp; omega), Int.toNat_natCast, hx1, ← h2, List.nil_append, List.take_left]
  | cons x pr ih =>
    intro R tl qs hlp hlR hlt hlq hRl hRV hbig
    obtain ⟨hx, hlp'⟩ := lim_cons.1 hlp
    have hlrev : lim (x :: pr).reverse := fun z hz => hlp z (by rw [List.mem_reverse] at hz; exact hz)
    have hd : val R / val v < 4294967296 := (Nat.div_lt_iff_lt_mul hV).2 (by rw [Nat.mul_comm]; exact hRV)
    have hdm := Nat.div_add_mod (val R) (val v)
    obtain ⟨R0, h1, h2, h3, h4⟩ := div_step (x1 := x1) (by_ := by_) hv hlv hv1 hV (x :: pr).reverse R tl qs hlrev hlR hlt hRl hRV (by simp only [List.length_reverse]; omega)
    have hml := Nat.mod_lt (val R) hV
    simp only [List.length_cons] at hbig
    generalize hdd : val R / val v = d at *
    obtain ⟨dg, i1, i2, i3, i4⟩ := ih (x :: R0) (0 :: tl) ((d : Int) :: qs) hlp' (lim_cons.2 ⟨hx, h1⟩) (lim_cons.2 ⟨⟨by decide, by decide⟩, hlt⟩) (lim_cons.2 ⟨by omega, hlq⟩) (by simp [h2]) (by rw [val_cons, h3]; omega) (by simp only [List.length_cons]; omega)
    have eW : val ((x :: pr).reverse ++ R) = val (pr.reverse ++ x :: R0) + 4294967296 ^ (pr.length + 1) * d * val v := by
      have ea : pr.reverse ++ x :: R0 = (x :: pr).reverse ++ R0 := by simp
      rw [ea, val_append, val_append, List.length_reverse, List.length_cons, h3, ← hdm]
      generalize 4294967296 ^ (pr.length + 1) = P
      grind
    simp only [List.length_reverse] at h4
    refine ⟨dg ++ [(d : Int)], lim_append.2 ⟨i1, lim_cons.2 ⟨by omega, lim_nil⟩⟩, by simp [i2], ?_, h4 _ ?_⟩
    · rw [eW, Nat.add_mul_div_right _ _ hV, val_snoc, i3, i2, Int.toNat_natCast]
    · rw [eW, Nat.add_mul_mod_self_right]
      simp only [List.length_cons]
      rw [List.append_assoc]
      have e6 : ((pr.length + 1 : Nat) : Int) - 1 = (pr.length : Int) := by omega
      have e7 : (x :: pr).reverse ++ (R0 ++ 0 :: tl) = pr.reverse ++ (x :: R0 ++ 0 :: tl) := by simp
      simp only [e6, e7]
      exact i4
theorem pow_le_of_len {n : Nat} (h : n ≠ 0) : 4294967296 ^ ((ofN n).length - 1) ≤ n := by
  apply Nat.le_of_not_lt
  intro hc
  have := len_ofN_le hc
  have hne : (ofN n).length ≠ 0 := fun e => h (ofN_nil.1 (List.eq_nil_of_length_eq_zero e))
  omega
theorem last_ofN {n : Nat} {r : List Int} {y : Int} (h : ofN n = r ++ [y]) : 0 < y ∧ y < 4294967296 ∧ lim r ∧ n = val r + 4294967296 ^ r.length * y.toNat := by
  have hl := lim_ofN n
  rw [h] at hl
  obtain ⟨h1, h2⟩ := lim_append.1 hl
  have hy := h2 y (by simp)
  have e : n = val r + 4294967296 ^ r.length * y.toNat := by rw [← val_snoc, ← h, val_ofN]
  refine ⟨?_, hy.2, h1, e⟩
  have hn : n ≠ 0 := fun e => by rw [e, ofN_zero] at h; simp at h
  have hp := pow_le_of_len hn
  rw [h, List.length_append, List.length_singleton, Nat.add_sub_cancel] at hp
  have := val_lt h1
  by_cases e0 : y.toNat = 0
  · rw [e0] at e; omega
  · omega
theorem div_big {a b : Nat} (hba : b ≤ a) {r : List Int} {y : Int} (hb : ofN b = r ++ [y]) (hr : 1 ≤ r.length) (hbig : (ofN a).length < 35184372088000) :
    ∃ by_ : Nat, by_ ≤ 31 ∧ bits_LeadingZeros32.f y = some (by_ : Int) ∧ ∃ vr v2 v1, (leftl (2 ^ by_) 0 (ofN b)).take (ofN b).length = vr ++ [v2, v1] ∧ vr.length + 2 = (ofN b).length ∧ lim (vr ++ [v2, v1]) ∧ 2147483648 ≤ v1 ∧ val (vr ++ [v2, v1]) = b * 2 ^ by_ ∧
      ∃ p R, leftl (2 ^ by_) 0 (ofN a) = p ++ R ∧ p.length + (ofN b).length = (ofN a).length ∧ lim p ∧ lim R ∧ R.length = (ofN b).length + 1 ∧ val (p ++ R) = a * 2 ^ by_ ∧ val R < b * 2 ^ by_ * 4294967296 := by
  obtain ⟨y0, y1, hlr, eb⟩ := last_ofN hb
  obtain ⟨by_, z1, z2, z3, z4⟩ := zeros32 y0 y1
  have hbl : (ofN b).length = r.length + 1 := by rw [hb]; simp
  have hab : (ofN b).length ≤ (ofN a).length := len_mono hba
  have hpD : (0 : Int) < 2 ^ by_ := Int.pow_pos (by omega)
  have eD : ((2 : Int) ^ by_) = ((2 ^ by_ : Nat) : Int) := by simp
  have hD31 : 2 ^ by_ ≤ 2 ^ 31 := Nat.pow_le_pow_right (by omega) z2
  have hD31' : 2 ^ by_ ≤ 2147483648 := hD31
  have hDi : (2 : Int) ^ by_ ≤ 4294967296 := by rw [eD]; have := hD31'; generalize 2 ^ by_ = D at *; omega
  have hDM : 2 ^ (32 - by_) * 2 ^ by_ = 4294967296 := by rw [← Nat.pow_add, show 32 - by_ + by_ = 32 by omega]
  obtain ⟨lb1, lb2, lb3⟩ := leftl_val hpD hDi (ofN b) 0 (lim_ofN b) (by omega) hpD
  obtain ⟨la1, la2, la3⟩ := leftl_val hpD hDi (ofN a) 0 (lim_ofN a) (by omega) hpD
  generalize hLb : leftl ((2 : Int) ^ by_) 0 (ofN b) = Lb at *
  generalize hLa : leftl ((2 : Int) ^ by_) 0 (ofN a) = La at *
  rw [val_ofN, Int.zero_add, eD, ← Int.natCast_mul] at lb2 la2
  rw [eD] at z3 z4
  generalize hD : 2 ^ by_ = D at *
  obtain ⟨n, rfl⟩ := Int.eq_ofNat_of_zero_le (show 0 ≤ y by omega)
  rw [← Int.natCast_mul] at z3 z4
  rw [Int.toNat_natCast] at eb
  have lb2' : val Lb = b * D := by omega
  have la2' : val La = a * D := by omega
  have wr := val_lt hlr
  have hD0 : 0 < D := by omega
  have hnM : n + 1 ≤ 2 ^ (32 - by_) := by
    apply Nat.lt_of_mul_lt_mul_right (a := D)
    rw [hDM]; omega
  have hnD : (n + 1) * D ≤ 4294967296 := by rw [← hDM]; exact Nat.mul_le_mul_right _ hnM
  have hbD : b * D < 4294967296 ^ (r.length + 1) := by
    have h1 : b * D < (4294967296 ^ r.length * (n + 1)) * D := Nat.mul_lt_mul_of_pos_right (by rw [eb, Nat.mul_add]; omega) hD0
    have h2 : 4294967296 ^ r.length * ((n + 1) * D) ≤ 4294967296 ^ r.length * 4294967296 := Nat.mul_le_mul_left _ hnD
    rw [Nat.mul_assoc] at h1
    rw [Nat.pow_succ]; omega
  have hbD2 : 4294967296 ^ r.length * 2147483648 ≤ b * D := by
    have h1 : 4294967296 ^ r.length * n * D ≤ b * D := Nat.mul_le_mul_right _ (by omega)
    have h2 : 4294967296 ^ r.length * 2147483648 ≤ 4294967296 ^ r.length * (n * D) := Nat.mul_le_mul_left _ (by omega)
    rw [Nat.mul_assoc] at h1; omega
  obtain ⟨V0, z, eV, lV⟩ := snoc_of (n := (ofN b).length) lb3
  have hz : z = 0 := by
    refine last_zero (lb1 z (by rw [eV]; simp)).1 (r := V0) ?_
    rw [← eV, lb2', lV, hbl]; exact hbD
  subst hz
  have eVt : Lb.take (ofN b).length = V0 := by rw [eV, ← lV, List.take_left]
  have hlV0 : lim V0 := (lim_append.1 (eV ▸ lb1)).1
  have vV0 : val V0 = b * D := by rw [← lb2', eV, val_snoc_zero]
  obtain ⟨V1, v1, eV1, lV1⟩ := snoc_of (n := r.length) (by omega : V0.length = r.length + 1)
  obtain ⟨vr, v2, eV2, lV2⟩ := snoc_of (n := r.length - 1) (by omega : V1.length = r.length - 1 + 1)
  have eV3 : V0 = vr ++ [v2, v1] := by rw [eV1, eV2]; simp
  have hv1 : 2147483648 ≤ v1 := by
    have hl1 := hlV0 v1 (by rw [eV1]; simp)
    have hl2 := val_lt ((lim_append.1 (eV1 ▸ hlV0)).1)
    have h1 : val V1 + 4294967296 ^ r.length * v1.toNat = b * D := by rw [← lV1, ← val_snoc, ← eV1, vV0]
    rw [lV1] at hl2
    have h2 : 4294967296 ^ r.length * 2147483648 < 4294967296 ^ r.length * (v1.toNat + 1) := by rw [Nat.mul_add]; omega
    have := Nat.lt_of_mul_lt_mul_left h2
    omega
  refine ⟨by_, z2, z1, vr, v2, v1, by rw [hLb, eVt, eV3], by omega, eV3 ▸ hlV0, hv1, by rw [← eV3, vV0, hD], La.take ((ofN a).length - (ofN b).length), La.drop ((ofN a).length - (ofN b).length), by rw [hLa, List.take_append_drop], by rw [List.length_take]; omega, lim_take la1 _, lim_drop la1 _, by rw [List.length_drop]; omega, by rw [List.take_append_drop, la2', hD], ?_⟩
  rw [hD]
  have h1 : val (La.take ((ofN a).length - (ofN b).length)) + 4294967296 ^ ((ofN a).length - (ofN b).length) * val (La.drop ((ofN a).length - (ofN b).length)) = a * D := by
    rw [← la2', show val La = val (La.take ((ofN a).length - (ofN b).length) ++ La.drop ((ofN a).length - (ofN b).length)) by rw [List.take_append_drop], val_append, List.length_take, show min ((ofN a).length - (ofN b).length) La.length = (ofN a).length - (ofN b).length by omega]
  apply Nat.lt_of_not_le
  intro hc
  have h2 := lt_len_ofN a
  have h3 : a * D < 4294967296 ^ (ofN a).length * D := Nat.mul_lt_mul_of_pos_right h2 hD0
  have h4 : 4294967296 ^ (ofN a).length * D ≤ 4294967296 ^ (ofN a).length * 2147483648 := Nat.mul_le_mul_left _ hD31'
  have h5 : 4294967296 ^ ((ofN a).length - (ofN b).length) * (b * D * 4294967296) ≤ 4294967296 ^ ((ofN a).length - (ofN b).length) * val (La.drop ((ofN a).length - (ofN b).length)) := Nat.mul_le_mul_left _ hc
  have h6 : 4294967296 ^ ((ofN a).length - (ofN b).length) * (4294967296 ^ r.length * 2147483648 * 4294967296) ≤ 4294967296 ^ ((ofN a).length - (ofN b).length) * (b * D * 4294967296) := Nat.mul_le_mul_left _ (Nat.mul_le_mul_right _ hbD2)
  have h7 : 4294967296 ^ ((ofN a).length - (ofN b).length) * (4294967296 ^ r.length * 2147483648 * 4294967296) = 4294967296 ^ (ofN a).length * 2147483648 := by
    rw [show (ofN a).length = ((ofN a).length - (ofN b).length) + (r.length + 1) by omega, Nat.pow_add, Nat.pow_succ, show ((ofN a).length - (ofN b).length) + (r.length + 1) - (ofN b).length = (ofN a).length - (ofN b).length by omega]
    generalize 4294967296 ^ ((ofN a).length - (ofN b).length) = X
    generalize 4294967296 ^ r.length = Y
    grind
  omega
theorem div_ev {a b : List Int} (ha : lim a) (hb : lim b) (hl : a.length ≤ 8796093022208) (hm : b.length ≤ 8796093022208) :
    Ev (fun k => nat_Div.f k a b) (if val b = 0 then ([], [], 3) else (ofN (val a / val b), ofN (val a % val b), 0)) := by
  unfold nat_Div.f
  refine Ev.bind (cut_ev ha (by omega)) (Ev.bind (cut_ev hb (by omega)) ?_)
  have h1 := len_cut ha
  have h2 := len_cut hb
  generalize val a = A at *
  generalize val b = B at *
  by_cases hB : B = 0
  · rw [if_pos hB]
    refine Ev.congr (f := fun _ => some ([], [], 3)) (fun k => if_pos (by rw [hB, ofN_zero]; rfl)) (Ev.now _)
  · have hBl : (ofN B).length ≠ 0 := fun e => hB (ofN_nil.1 (List.eq_nil_of_length_eq_zero e))
    rw [if_neg hB]
    refine Ev.congr (f := fun k => _) (fun k => if_neg (by omega)) ?_
    have hcmp := cmp_ev (lim_ofN A) (lim_ofN B) (by omega) (by omega)
    rw [val_ofN, val_ofN] at hcmp
    by_cases hlt : A < B
    · rw [if_pos hlt] at hcmp
      refine Ev.bind hcmp (Ev.congr (f := fun _ => some ([], ofN A, 0)) (fun k => ?_) ?_)
      · rw [if_pos (by decide), clone_some (by omega)]; rfl
      · rw [Nat.div_eq_of_lt hlt, Nat.mod_eq_of_lt hlt, ofN_zero]; exact Ev.now _
    · have hge : ¬ ((if B < A then (1 : Int) else 0) < 0) := by split <;> decide
      rw [if_neg hlt] at hcmp
      refine Ev.bind hcmp ?_
      refine Ev.congr (f := fun k => _) (fun k => if_neg hge) ?_
      obtain ⟨r, y, e, lr⟩ := snoc_of (n := (ofN B).length - 1) (l := ofN B) (by omega)
      obtain ⟨y0, y1, hlr, eB⟩ := last_ofN e
      by_cases hone : (ofN B).length = 1
      · refine Ev.congr (f := fun k => _) (fun k => if_pos (by omega)) ?_
        refine Ev.congr (f := fun k => _) (fun k => if_pos (by omega)) ?_
        obtain rfl : r = [] := List.eq_nil_of_length_eq_zero (by omega)
        have ey : rd (ofN B) 0 = y := by rw [e]; exact rd_app [] y [] 0 rfl
        have eBy : B = y.toNat := by rw [eB]; simp [val_nil]
        have hs := small_ev (lim_ofN A) y0 y1 (by omega)
        rw [val_ofN, ← eBy] at hs
        rw [ey]
        refine Ev.bind hs ?_
        have hmod : A % B < 4294967296 := Nat.lt_of_lt_of_le (Nat.mod_lt _ (by omega)) (by omega)
        have hc := cut_ev (a := [((A % B : Nat) : Int)]) (lim_cons.2 ⟨by generalize A % B = m at *; omega, lim_nil⟩) (by simp)
        rw [val_cons, val_nil, Int.toNat_natCast, Nat.mul_zero, Nat.add_zero] at hc
        exact Ev.bind hc (Ev.now _)
      · refine Ev.congr (f := fun k => _) (fun k => if_neg (by omega)) ?_
        obtain ⟨by_, b1, b2, vr, v2, v1, c1, c2, c3, c4, c5, p, R, d1, d2, d3, d4, d5, d6, d7⟩ := div_big (by omega : B ≤ A) e (by omega) (by omega)
        have ey : rd (ofN B) (((ofN B).length : Int) - 1) = y := by
          have hlen : (ofN B).length = r.length + 1 := by omega
          rw [hlen, e]; exact rd_app r y [] _ (by omega)
        rw [w64 (x := ((ofN B).length : Int) - 1) (by omega) (by omega), ey, b2]
        refine Ev.congr (f := fun k => _) (fun k => if_pos (by omega)) ?_
        refine Ev.congr (f := fun k => _) (fun k => if_pos (by omega)) ?_
        simp only [Option.bind_some]
        have hla := left_ev (a := ofN A) (by_ := (by_ : Int)) (lim_ofN A) (by omega) (by omega) (by omega)
        have hlb := left_ev (a := ofN B) (by_ := (by_ : Int)) (lim_ofN B) (by omega) (by omega) (by omega)
        rw [Int.toNat_natCast] at hla hlb
        refine Ev.bind hla (Ev.bind hlb ?_)
        have hlbl : (leftl ((2 : Int) ^ by_) 0 (ofN B)).length = (ofN B).length + 1 := by
          have hpD : (0 : Int) < 2 ^ by_ := Int.pow_pos (by omega)
          have h31 : (2 : Nat) ^ by_ ≤ 2 ^ 31 := Nat.pow_le_pow_right (by omega) b1
          have eD : ((2 : Int) ^ by_) = ((2 ^ by_ : Nat) : Int) := by simp
          have hDi : (2 : Int) ^ by_ ≤ 4294967296 := by rw [eD]; have h31' : 2 ^ by_ ≤ 2147483648 := h31; generalize 2 ^ by_ = D at *; omega
          exact (leftl_val hpD hDi (ofN B) 0 (lim_ofN B) (by omega) hpD).2.2
        refine Ev.congr (f := fun k => _) (fun k => if_pos (by omega)) ?_
        refine Ev.congr (f := fun k => _) (fun k => if_pos (by omega)) ?_
        rw [w64 (x := ((ofN A).length : Int) - ((ofN B).length : Int)) (by omega) (by omega), w64 (x := ((ofN A).length : Int) - ((ofN B).length : Int) + 1) (by omega) (by omega)]
        refine Ev.congr (f := fun k => _) (fun k => if_pos (by omega)) ?_
        refine Ev.congr (f := fun k => _) (fun k => if_pos (by omega)) ?_
        have ep : (((ofN A).length : Int) - ((ofN B).length : Int) + 1).toNat = p.length + 1 := by omega
        rw [ep, List.length_replicate, w64 (x := ((p.length + 1 : Nat) : Int) - 1) (by omega) (by omega), show ((p.length + 1 : Nat) : Int) - 1 = (p.length : Int) by omega, d1, Int.toNat_natCast, c1]
        have hBp : 0 < B * 2 ^ by_ := Nat.mul_pos (by omega) (Nat.pow_pos (by omega))
        obtain ⟨dg, g1, g2, g3, g4⟩ := div_l0 (v := vr ++ [v2, v1]) (x1 := ofN B) (by_ := by_) rfl c3 c4 (by simp; omega) b1 (by rw [c5]; exact hBp) p.reverse R [] [] (fun z hz => d3 z (by rw [List.mem_reverse] at hz; exact hz)) d4 lim_nil lim_nil (by simp; omega) (by rw [c5]; exact d7) (by simp; omega)
        rw [List.reverse_reverse, List.length_reverse, List.append_nil, List.append_nil, List.append_nil, c5, d6, g3, List.reverse_reverse, d6, c5, Nat.mul_div_mul_right _ _ (Nat.pow_pos (by omega)), Nat.mul_mod_mul_right, Nat.mul_div_cancel _ (Nat.pow_pos (by omega))] at g4
        exact g4
end Go.Proofs.YtaclkccgjpjdjaaGreat.Nt
end
section
/- The nat functions as they are printed tell the numbers that they should: Print. -/
namespace Go.Proofs.YtaclkccgjpjdjaaGreat.Nt
open Go.RowKit Go.Proofs.YtaclkccgjpjdjaaGreatW.PrintWords Go.Proofs.YtaclkccgjpjdjaaGreatW.PrintMore Go.Proofs.YtaclkccgjpjdjaaGreat.N
set_option linter.unusedVariables false
set_option linter.unusedSimpArgs false
def lowF : Nat → Nat → List Int
  | 0, _ => []
  | k + 1, n => if n = 0 then [] else (48 + ((n % 10 : Nat) : Int)) :: lowF k (n / 10)
def low (n : Nat) : List Int := lowF n n
theorem lowF_eq : ∀ (k m n : Nat), n ≤ k → n ≤ m → lowF k n = lowF m n
  | 0, m, n, h, _ => by obtain rfl : n = 0 := by omega
                        cases m <;> simp [lowF]
  | k + 1, 0, n, _, h => by obtain rfl : n = 0 := by omega
                            simp [lowF]
  | k + 1, m + 1, n, h, h' => by
    by_cases e : n = 0
    · subst e; simp [lowF]
    · simp only [lowF, if_neg e]; rw [lowF_eq k m (n / 10) (by omega) (by omega)]
theorem low_zero : low 0 = [] := rfl
theorem low_pos {n : Nat} (h : n ≠ 0) : low n = (48 + ((n % 10 : Nat) : Int)) :: low (n / 10) := by
  unfold low
  obtain ⟨k, rfl⟩ : ∃ k, n = k + 1 := ⟨n - 1, by omega⟩
  simp only [lowF, if_neg h]
  rw [lowF_eq k ((k + 1) / 10) _ (by omega) (by omega)]
theorem low_len : ∀ (k n : Nat), n < 10 ^ k → (low n).length ≤ k
  | 0, n, h => by obtain rfl : n = 0 := by simpa using h
                  exact Nat.le_refl _
  | k + 1, n, h => by
    by_cases e : n = 0
    · subst e; exact Nat.zero_le _
    · rw [low_pos e, List.length_cons]
      have := low_len k (n / 10) (by rw [Nat.pow_succ] at h; omega)
      omega
theorem low_ofN (n : Nat) : (low n).length ≤ 10 * (ofN n).length := by
  apply low_len
  have h := lt_len_ofN n
  have h2 : 4294967296 ^ (ofN n).length ≤ 10 ^ (10 * (ofN n).length) := by
    rw [Nat.pow_mul]; exact Nat.pow_le_pow_left (by decide) _
  omega
theorem low_nil {n : Nat} : low n = [] ↔ n = 0 := by
  constructor
  · intro h
    by_cases e : n = 0
    · exact e
    · rw [low_pos e] at h; cases h
  · rintro rfl; rfl
def told (out : List Int) : ByteArray := if out = [] then ⟨#[48]⟩ else strOfNums out.reverse
def text (n : Nat) : ByteArray := told (low n)
theorem rev_l0 : ∀ (d : Nat) (m p s : List Int), m.length ≤ d → p.length + m.length + s.length < 4000000000000000000 →
    Ev (fun k => slices_Reverse_byte_byte.l0 k (p ++ (m ++ s)) (p.length : Int) ((p.length : Int) + (m.length : Int) - 1)) (p ++ (m.reverse ++ s)) := by
  intro d
  induction d using Nat.strongRecOn with
  | _ d ih =>
    intro m p s hd hb
    cases m with
    | nil =>
      refine Ev.step (f := fun _ => some (p ++ ([] ++ s))) (fun k => ?_) (by simpa using Ev.now _)
      simp only [slices_Reverse_byte_byte.l0]; rw [if_neg (by simp; omega)]
    | cons x m =>
      rcases Nat.eq_zero_or_pos m.length with h0 | h0
      · obtain rfl : m = [] := List.eq_nil_of_length_eq_zero h0
        refine Ev.step (f := fun _ => some (p ++ ([x] ++ s))) (fun k => ?_) (by simpa using Ev.now _)
        simp only [slices_Reverse_byte_byte.l0]; rw [if_neg (by simp)]
      · obtain ⟨m, y, rfl⟩ : ∃ m' y, m = m' ++ [y] := ⟨m.dropLast, m.getLast (by intro e; rw [e] at h0; simp at h0), (List.dropLast_concat_getLast _).symm⟩
        simp only [List.length_cons, List.length_append, List.length_nil] at hd hb h0 ⊢
        have h := ih m.length (by omega) m (p ++ [y]) (x :: s) (Nat.le_refl _) (by simp; omega)
        have e1 : rd (p ++ (x :: (m ++ [y]) ++ s)) (p.length : Int) = x := rd_app _ _ _ _ rfl
        have e2 : rd (p ++ (x :: (m ++ [y]) ++ s)) ((p.length : Int) + ((m.length + (0 + 1) + 1 : Nat) : Int) - 1) = y := by
          rw [show p ++ (x :: (m ++ [y]) ++ s) = (p ++ x :: m) ++ y :: s by simp]; exact rd_app _ _ _ _ (by simp; omega)
        refine Ev.step (f := fun k => slices_Reverse_byte_byte.l0 k ((p ++ [y]) ++ (m ++ (x :: s))) ((p ++ [y]).length : Int) (((p ++ [y]).length : Int) + (m.length : Int) - 1)) (fun k => ?_) (by simpa using h)
        simp only [slices_Reverse_byte_byte.l0]
        rw [if_pos (by omega), if_pos (by omega), if_pos (by simp; omega), if_pos (by omega), if_pos (by simp; omega), e1, e2, w64 (by omega) (by omega), w64 (by omega) (by omega),
          show (p ++ (x :: (m ++ [y]) ++ s)).set (p.length : Int).toNat y = p ++ y :: (m ++ [y] ++ s) from set_app _ _ _ _ _ rfl,
          show p ++ y :: (m ++ [y] ++ s) = (p ++ y :: m) ++ y :: s by simp, set_app _ _ _ _ _ (by simp; omega)]
        congr 1
        · simp
        · simp
        · simp; omega
theorem rev_ev {m : List Int} (h : m.length < 4000000000000000000) : Ev (fun k => slices_Reverse_byte_byte.f k m) m.reverse := by
  have h1 := rev_l0 m.length m [] [] (Nat.le_refl _) (by simpa using h)
  unfold slices_Reverse_byte_byte.f
  refine Ev.congr (fun k => ?_) (by simpa using h1)
  rw [w64 (by omega) (by omega)]
theorem print_l (N : Nat) : ∀ n : Nat, n ≤ N → (ofN n).length < 35184372088800 → ∀ out : List Int, out.length + (low n).length < 140737488355328 → Ev (fun k => nat_Print.l0 k (ofN n) out) (told (out ++ low n)) := by
  induction N with
  | zero =>
    intro n hn _ out ho
    obtain rfl : n = 0 := by omega
    rw [low_zero, List.append_nil]
    unfold told
    by_cases e : out = []
    · subst e
      refine Ev.step (f := fun _ => some (⟨#[48]⟩ : ByteArray)) (fun k => ?_) (by rw [if_pos rfl]; exact Ev.now _)
      simp only [nat_Print.l0]; rw [if_neg (by simp [ofN_zero]), if_pos (by simp)]
    · have hl : (out.length : Int) ≠ 0 := by have := List.length_pos_iff.2 e; omega
      refine Ev.step (f := fun k => (slices_Reverse_byte_byte.f k out).bind fun t => some (strOfNums t)) (fun k => ?_) (by rw [if_neg e]; exact Ev.bind (rev_ev (by rw [low_zero] at ho; simp at ho; omega)) (Ev.now _))
      simp only [nat_Print.l0]; rw [if_neg (by simp [ofN_zero]), if_neg hl]
  | succ N ih =>
    intro n hn hfit out ho
    by_cases h0 : n = 0
    · subst h0; exact ih 0 (by omega) hfit out ho
    · have key : ∀ (d q r : Nat) (out : List Int), d ≤ 9 → q ≤ N → (ofN q).length < 35184372088800 → r < 10 ^ d → out.length + (low (q * 10 ^ d + r)).length < 140737488355328 → Ev (fun k => nat_Print.l1 k out (ofN q) (r : Int) (9 - (d : Int))) (told (out ++ low (q * 10 ^ d + r))) := by
        intro d
        induction d with
        | zero =>
          intro q r out hd hq hqf hr hol
          obtain rfl : r = 0 := by simpa using hr
          have e : q * 10 ^ 0 + 0 = q := by omega
          rw [e] at hol ⊢
          refine Ev.step (f := fun k => nat_Print.l0 k (ofN q) out) (fun k => ?_) (ih q hq hqf out hol)
          simp only [nat_Print.l1]; rw [if_neg (by omega)]
        | succ d ihd =>
          intro q r out hd hq hqf hr hol
          by_cases hz : q = 0 ∧ r = 0
          · obtain ⟨rfl, rfl⟩ := hz
            have e : 0 * 10 ^ (d + 1) + 0 = 0 := by omega
            rw [e] at hol ⊢
            refine Ev.step (f := fun k => nat_Print.l0 k (ofN 0) out) (fun k => ?_) (ih 0 (by omega) hqf out hol)
            simp only [nat_Print.l1]; rw [if_pos (by omega), if_neg (by simp [ofN_zero]), if_neg (by omega)]
          · have hr2 : r < 1000000000 := Nat.lt_of_lt_of_le hr (Nat.le_trans (Nat.pow_le_pow_right (by omega) hd) (by decide))
            have hne : q * 10 ^ (d + 1) + r ≠ 0 := by
              intro e
              apply hz
              have hp : 0 < 10 ^ (d + 1) := Nat.pow_pos (by omega)
              have : q * 10 ^ (d + 1) = 0 := by omega
              rcases Nat.mul_eq_zero.1 this with h | h
              · exact ⟨h, by omega⟩
              · omega
            have e10 : q * 10 ^ (d + 1) = 10 * (q * 10 ^ d) := by rw [Nat.pow_succ]; grind
            have em : (q * 10 ^ (d + 1) + r) % 10 = r % 10 := by rw [e10]; omega
            have ed : (q * 10 ^ (d + 1) + r) / 10 = q * 10 ^ d + r / 10 := by rw [e10]; omega
            have el := low_pos hne
            rw [em, ed] at el
            rw [el] at hol ⊢
            simp only [List.length_cons] at hol
            have h := ihd q (r / 10) (out ++ [48 + ((r % 10 : Nat) : Int)]) (by omega) hq hqf (by rw [Nat.pow_succ] at hr; omega) (by simp; omega)
            rw [List.append_assoc, List.singleton_append] at h
            have hstep : ∀ k, nat_Print.l1 (k + 1) out (ofN q) (r : Int) (9 - ((d + 1 : Nat) : Int)) = nat_Print.l1 k (out ++ [48 + ((r % 10 : Nat) : Int)]) (ofN q) ((r / 10 : Nat) : Int) (9 - (d : Int)) := by
              intro k
              have ex : (48 + Int.tmod (r : Int) 10) % 256 = 48 + ((r % 10 : Nat) : Int) := by rw [Int.tmod_eq_emod_of_nonneg (by omega)]; omega
              have ey : Int.tdiv (r : Int) 10 % 4294967296 = ((r / 10 : Nat) : Int) := by rw [Int.tdiv_eq_ediv_of_nonneg (by omega)]; omega
              simp only [nat_Print.l1]
              rw [if_pos (by omega), ex, ey, w64 (by omega) (by omega), show 9 - ((d + 1 : Nat) : Int) + 1 = 9 - (d : Int) by omega]
              by_cases hq0 : q = 0
              · subst hq0
                rw [if_neg (by simp [ofN_zero]), if_pos (by omega), if_pos (by omega)]
              · have : 0 < (ofN q).length := List.length_pos_iff.2 (fun e => hq0 (ofN_nil.1 e))
                rw [if_pos (by omega), if_pos (by omega)]
            exact Ev.step hstep h
      have hs := small_ev (b := 1000000000) (lim_ofN n) (by omega) (by omega) hfit
      rw [val_ofN, show (1000000000 : Int).toNat = 1000000000 from rfl] at hs
      have hk := key 9 (n / 1000000000) (n % 1000000000) out (Nat.le_refl _) (by omega) (Nat.lt_of_le_of_lt (len_mono (Nat.div_le_self _ _)) hfit) (Nat.mod_lt _ (by decide)) (by rw [show n / 1000000000 * 10 ^ 9 + n % 1000000000 = n by omega]; exact ho)
      rw [show n / 1000000000 * 10 ^ 9 + n % 1000000000 = n by omega] at hk
      have hl : 0 < (ofN n).length := List.length_pos_iff.2 (fun e => h0 (ofN_nil.1 e))
      refine Ev.step (f := fun k => (nat_small.f k (ofN n) 1000000000).bind fun b => nat_Print.l1 k out b.1 b.2 0) (fun k => ?_) (Ev.bind hs hk)
      simp only [nat_Print.l0]; rw [if_pos (by omega)]
theorem print_ev {a : List Int} (ha : lim a) (hl : a.length ≤ 8796093022208) : Ev (fun k => nat_Print.f k a) (text (val a)) := by
  unfold nat_Print.f
  have h1 := len_val_le ha
  have h2 := low_ofN (val a)
  refine Ev.bind (trim_ev ha (by omega)) ?_
  have h := print_l (val a) (val a) (Nat.le_refl _) (by omega) [] (by simp; omega)
  unfold text
  simpa using h
end Go.Proofs.YtaclkccgjpjdjaaGreat.Nt
end
section
/- The nat functions as they are printed tell the numbers that they should: Parse. -/
namespace Go.Proofs.YtaclkccgjpjdjaaGreat.Nt
open Go.RowKit Go.Proofs.YtaclkccgjpjdjaaGreatW.PrintWords Go.Proofs.YtaclkccgjpjdjaaGreatW.PrintMore Go.Proofs.YtaclkccgjpjdjaaGreat.N
set_option linter.unusedVariables false
set_option linter.unusedSimpArgs false
def numL (l : List Int) (v : Nat) : Nat := l.foldl (fun v c => v * 10 + (c - 48).toNat) v
theorem numL_nil (v : Nat) : numL [] v = v := rfl
theorem numL_cons (c : Int) (l : List Int) (v : Nat) : numL (c :: l) v = numL l (v * 10 + (c - 48).toNat) := rfl
theorem numL_append (l m : List Int) (v : Nat) : numL (l ++ m) v = numL m (numL l v) := by simp [numL]
theorem numL_add (l : List Int) : ∀ v : Nat, numL l v = v * 10 ^ l.length + numL l 0 := by
  induction l with
  | nil => intro v; simp [numL_nil]
  | cons c l ih =>
    intro v
    rw [numL_cons, numL_cons, ih, ih (0 * 10 + _), List.length_cons, Nat.pow_succ]
    grind
def Dig (l : List Int) : Prop := ∀ c ∈ l, 48 ≤ c ∧ c ≤ 57
theorem numL_lt {l : List Int} (h : Dig l) : numL l 0 < 10 ^ l.length := by
  induction l with
  | nil => simp [numL_nil]
  | cons c l ih =>
    have hc := h c (by simp)
    have hl := ih (fun x hx => h x (by simp [hx]))
    rw [numL_cons, numL_add, List.length_cons, Nat.pow_succ]
    have h1 : (0 * 10 + (c - 48).toNat) ≤ 9 := by omega
    have h2 : (0 * 10 + (c - 48).toNat) * 10 ^ l.length ≤ 9 * 10 ^ l.length := Nat.mul_le_mul_right _ h1
    omega
theorem bytesOf_drop (s : ByteArray) (n : Nat) : bytesOf (s.extract n s.size) = (bytesOf s).drop n := by
  unfold bytesOf; rw [Lib.extract_to_end, List.map_drop]
theorem bytesOf_size (s : ByteArray) : s.size = (bytesOf s).length := (bytesOf_length s).symm
theorem parse_l : ∀ (d : Nat) (s : ByteArray) (v : Nat), s.size ≤ d → Dig (bytesOf s) → (ofN v).length + 3 * s.size < 1000000000 →
    Ev (fun k => nat_Parse.l0 k s (ofN v)) (ofN (numL (bytesOf s) v), 0) := by
  intro d
  induction d with
  | zero =>
    intro s v hd _ _
    have hs : bytesOf s = [] := List.eq_nil_of_length_eq_zero (by rw [← bytesOf_size]; omega)
    refine Ev.step (f := fun _ => some (ofN v, 0)) (fun k => ?_) (by rw [hs, numL_nil]; exact Ev.now _)
    simp only [nat_Parse.l0]; rw [if_neg (by omega)]
  | succ d ih =>
    intro s v hd hg hb
    have hsz := bytesOf_size s
    by_cases h0 : s.size = 0
    · exact ih s v (by omega) hg hb
    · generalize hn : min 9 s.size = n
      have hn9 : n ≤ 9 ∧ n ≤ s.size ∧ 1 ≤ n := by omega
      have emn : mn 9 (s.size : Int) = (n : Int) := by unfold mn; split <;> omega
      have key : ∀ (j i : Nat), i + j = n → Ev (fun k => nat_Parse.l1 k s (ofN v) (n : Int) ((numL ((bytesOf s).take i) 0 : Nat) : Int) ((10 ^ i : Nat) : Int) (n : Int) (i : Int)) (ofN (numL (bytesOf s) v), 0) := by
        intro j
        induction j with
        | zero =>
          intro i hi
          obtain rfl : i = n := by omega
          have hdt : Dig ((bytesOf s).take i) := fun c hc => hg c (List.mem_of_mem_take hc)
          have hlt := numL_lt hdt
          have hl9 : ((bytesOf s).take i).length = i := by rw [List.length_take]; omega
          rw [hl9] at hlt
          have hp9 : 10 ^ i ≤ 10 ^ 9 := Nat.pow_le_pow_right (by omega) hn9.1
          have hp9' : 10 ^ i ≤ 1000000000 := hp9
          have hm := mul_ev (a := ofN v) (b := [((10 ^ i : Nat) : Int)]) (lim_ofN v) (lim_cons.2 ⟨by omega, lim_nil⟩) (by simp; omega)
          rw [val_ofN, val_cons, val_nil, Int.toNat_natCast, Nat.mul_zero, Nat.add_zero] at hm
          have hlm := len_mul v (10 ^ i)
          have hl1 : (ofN (10 ^ i)).length ≤ 1 := len_ofN_le (by omega)
          have ha := add_ev (a := ofN (v * 10 ^ i)) (b := [((numL ((bytesOf s).take i) 0 : Nat) : Int)]) (lim_ofN _) (lim_cons.2 ⟨by omega, lim_nil⟩) (by omega) (by simp)
          rw [val_ofN, val_cons, val_nil, Int.toNat_natCast, Nat.mul_zero, Nat.add_zero] at ha
          have hla := len_add (v * 10 ^ i) (numL ((bytesOf s).take i) 0)
          have hl2 : (ofN (numL ((bytesOf s).take i) 0)).length ≤ 1 := len_ofN_le (by omega)
          have hsz2 : (s.extract i s.size).size = s.size - i := by rw [bytesOf_size, bytesOf_drop, List.length_drop]; omega
          have hr := ih (s.extract i s.size) (v * 10 ^ i + numL ((bytesOf s).take i) 0) (by omega) (by rw [bytesOf_drop]; exact fun c hc => hg c (List.mem_of_mem_drop hc)) (by rw [hsz2]; omega)
          have e : numL (bytesOf (s.extract i s.size)) (v * 10 ^ i + numL ((bytesOf s).take i) 0) = numL (bytesOf s) v := by
            have h1 := numL_append ((bytesOf s).take i) ((bytesOf s).drop i) v
            rw [List.take_append_drop] at h1
            rw [h1, numL_add ((bytesOf s).take i) v, hl9, bytesOf_drop]
          rw [e] at hr
          refine Ev.step (f := fun k => (nat_Mul.f k (ofN v) [((10 ^ i : Nat) : Int)]).bind fun t => (nat_Add.f k t [((numL ((bytesOf s).take i) 0 : Nat) : Int)]).bind fun t2 => nat_Parse.l0 k (s.extract i s.size) t2) (fun k => ?_) (Ev.bind hm (Ev.bind ha hr))
          simp only [nat_Parse.l1]
          rw [if_neg (by omega)]
          congr 1; funext t; congr 1; funext t2
          rw [if_pos (by omega), if_pos (by omega), Int.toNat_natCast]
        | succ j ihj =>
          intro i hi
          have hil : i < (bytesOf s).length := by omega
          have hc := hg _ (List.getElem_mem hil)
          have et : (bytesOf s).take (i + 1) = (bytesOf s).take i ++ [(bytesOf s)[i]] := by rw [List.take_succ_eq_append_getElem hil]
          have hdt : Dig ((bytesOf s).take (i + 1)) := fun c hc => hg c (List.mem_of_mem_take hc)
          have hlt := numL_lt hdt
          have hl9 : ((bytesOf s).take (i + 1)).length = i + 1 := by rw [List.length_take]; omega
          rw [hl9] at hlt
          have hp9 : 10 ^ (i + 1) ≤ 10 ^ 9 := Nat.pow_le_pow_right (by omega) (by omega)
          have hp9' : 10 ^ (i + 1) ≤ 1000000000 := hp9
          have h := ihj (i + 1) (by omega)
          have eb : bt s (i : Int) = (bytesOf s)[i] := by rw [← rd_bytesOf]; simp [rd, hil]
          rw [et, numL_append, numL_cons, numL_nil] at h hlt
          generalize (bytesOf s)[i] = c at *
          generalize numL ((bytesOf s).take i) 0 = w at *
          refine Ev.step (fun k => ?_) h
          simp only [nat_Parse.l1]
          rw [if_pos (by omega), if_pos (by omega), if_pos (by omega), eb, w64 (by omega) (by omega)]
          have ep : 10 ^ (i + 1) = 10 ^ i * 10 := Nat.pow_succ ..
          congr 1 <;> omega
      have h := key n 0 (by omega)
      refine Ev.step (fun k => ?_) h
      simp only [nat_Parse.l0]
      rw [if_pos (by omega), emn]
      rfl
def parsed (s : ByteArray) : List Int × Int :=
  if s.size = 0 ∨ (bytesOf s).any slices_ContainsFunc_byte_byte.strange = true then ([], 4) else if s.size > 300 then ([], 2) else (ofN (numL (bytesOf s) 0), 0)
theorem toList_loop (b : ByteArray) : ∀ (n i : Nat) (r : List UInt8), n = b.size - i → ByteArray.toList.loop b i r = r.reverse ++ b.data.toList.drop i := by
  intro n
  induction n with
  | zero =>
    intro i r h
    unfold ByteArray.toList.loop
    rw [if_neg (by omega), List.drop_eq_nil_of_le (by rw [data_length]; omega), List.append_nil]
  | succ n ih =>
    intro i r h
    have hi : i < b.data.toList.length := by rw [data_length]; omega
    unfold ByteArray.toList.loop
    rw [if_pos (by omega), ih (i + 1) _ (by omega), List.drop_eq_getElem_cons hi]
    simp [ByteArray.get!]
    exact getElem!_pos b.data i (by simpa using hi)
theorem toList_eq (b : ByteArray) : b.toList = b.data.toList := by
  unfold ByteArray.toList; rw [toList_loop b (b.size - 0) 0 [] rfl]; simp
theorem toList_nil {b : ByteArray} : b.toList = [] ↔ b.size = 0 := by
  rw [toList_eq, ← data_length]; exact List.length_eq_zero_iff.symm
theorem dig_of {l : List Int} (h : ¬ l.any slices_ContainsFunc_byte_byte.strange = true) : Dig l := by
  intro c hc
  have h2 : slices_ContainsFunc_byte_byte.strange c = false := by
    cases hs : slices_ContainsFunc_byte_byte.strange c with
    | false => rfl
    | true => exact absurd (List.any_eq_true.2 ⟨c, hc, hs⟩) h
  simp only [slices_ContainsFunc_byte_byte.strange, Bool.or_eq_false_iff, decide_eq_false_iff_not] at h2
  omega
theorem parse_ev {s : ByteArray} (h : s.size ≤ 140737488351232) : Ev (fun k => nat_Parse.f k s) (parsed s) := by
  unfold nat_Parse.f parsed
  by_cases h0 : s.size = 0
  · rw [if_pos (Or.inl h0)]
    exact Ev.congr (fun k => by rw [if_pos h, if_pos (toList_nil.2 h0)]) (Ev.now _)
  · have h0' : ¬ s.toList = [] := fun e => h0 (toList_nil.1 e)
    by_cases ha : (bytesOf s).any slices_ContainsFunc_byte_byte.strange = true
    · rw [if_pos (Or.inr ha)]
      exact Ev.congr (fun k => by rw [if_pos h, if_neg h0', if_pos ha]) (Ev.now _)
    · rw [if_neg (fun e => e.elim h0 ha)]
      by_cases h3 : s.size > 300
      · rw [if_pos h3]
        refine Ev.congr (f := fun _ => some ([], 2)) (fun k => ?_) (Ev.now _)
        rw [if_pos h, if_neg h0', if_neg ha]; unfold nat_Parse.g; rw [if_pos (by omega)]
      · rw [if_neg h3]
        have hp := parse_l s.size s 0 (Nat.le_refl _) (dig_of ha) (by rw [ofN_zero]; simp; omega)
        refine Ev.congr (fun k => ?_) hp
        rw [if_pos h, if_neg h0', if_neg ha]; unfold nat_Parse.g; rw [if_neg (by omega)]; rfl
end Go.Proofs.YtaclkccgjpjdjaaGreat.Nt
end
section
/- The nat functions as they are printed tell the numbers that they should: Sub. -/
namespace Go.Proofs.YtaclkccgjpjdjaaGreat.Nt
open Go.RowKit Go.Proofs.YtaclkccgjpjdjaaGreatW.PrintWords Go.Proofs.YtaclkccgjpjdjaaGreatW.PrintMore Go.Proofs.YtaclkccgjpjdjaaGreat.N
set_option linter.unusedVariables false
set_option linter.unusedSimpArgs false
def subl : Int → List Int → List Int → List Int × Int
  | l, [], _ => ([], l)
  | l, x :: a, [] => ((x - l) % 4294967296 :: (subl (if x < l then 1 else 0) a []).1, (subl (if x < l then 1 else 0) a []).2)
  | l, x :: a, y :: b => ((x - (l + y)) % 4294967296 :: (subl (if x < l + y then 1 else 0) a b).1, (subl (if x < l + y then 1 else 0) a b).2)
theorem subl_val : ∀ (a b : List Int) (l : Int), lim a → lim b → 0 ≤ l → l ≤ 1 →
    lim (subl l a b).1 ∧ (subl l a b).1.length = a.length ∧ 0 ≤ (subl l a b).2 ∧ (subl l a b).2 ≤ 1 ∧ (val (subl l a b).1 : Int) - 4294967296 ^ a.length * (subl l a b).2 = val a - l - val (b.take a.length)
  | [], b, l, _, _, h0, h1 => by
    simp only [subl]
    exact ⟨lim_nil, trivial, h0, h1, by simp [val_nil]⟩
  | x :: a, [], l, ha, hb, h0, h1 => by
    obtain ⟨hx, ha'⟩ := lim_cons.1 ha
    generalize hL : (if x < l then (1 : Int) else 0) = L
    have hL2 : (x - l) % 4294967296 = x - l + 4294967296 * L ∧ 0 ≤ L ∧ L ≤ 1 := by subst hL; split <;> omega
    obtain ⟨i1, i2, i3, i4, i5⟩ := subl_val a [] L ha' hb hL2.2.1 hL2.2.2
    simp only [subl]
    rw [hL]
    generalize (subl L a []).1 = T at *
    generalize (subl L a []).2 = D at *
    refine ⟨lim_cons.2 ⟨by omega, i1⟩, by simp [i2], i3, i4, ?_⟩
    rw [List.take_nil, val_nil] at i5 ⊢
    rw [val_cons, val_cons, List.length_cons, Int.pow_succ, Int.mul_comm _ (4294967296 : Int), Int.mul_assoc]
    generalize (4294967296 : Int) ^ a.length * D = X at *
    rw [hL2.1]
    omega
  | x :: a, y :: b, l, ha, hb, h0, h1 => by
    obtain ⟨hx, ha'⟩ := lim_cons.1 ha
    obtain ⟨hy, hb'⟩ := lim_cons.1 hb
    generalize hL : (if x < l + y then (1 : Int) else 0) = L
    have hL2 : (x - (l + y)) % 4294967296 = x - (l + y) + 4294967296 * L ∧ 0 ≤ L ∧ L ≤ 1 := by subst hL; split <;> omega
    obtain ⟨i1, i2, i3, i4, i5⟩ := subl_val a b L ha' hb' hL2.2.1 hL2.2.2
    simp only [subl]
    rw [hL]
    generalize (subl L a b).1 = T at *
    generalize (subl L a b).2 = D at *
    refine ⟨lim_cons.2 ⟨by omega, i1⟩, by simp [i2], i3, i4, ?_⟩
    rw [List.length_cons, List.take_succ_cons, val_cons, val_cons, val_cons, Int.pow_succ, Int.mul_comm _ (4294967296 : Int), Int.mul_assoc]
    generalize (4294967296 : Int) ^ a.length * D = X at *
    generalize val (b.take a.length) = Y at *
    rw [hL2.1]
    omega
theorem dif_u64 {x z : Int} (hx : 0 ≤ x ∧ x < 4294967296) (hz : 0 ≤ z ∧ z ≤ 4294967296) : IntKind.u64.wrap (x - z) % 4294967296 = (x - z) % 4294967296 := by
  by_cases h : x - z < 0
  · rw [u64neg h (by omega)]; omega
  · rw [u64 (by omega) (by omega)]
theorem sub_l0 {b : List Int} (hb : lim b) (n : Nat) (hn : n < 35184372088800) : ∀ (r : List Int) (i : Nat) (p : List Int) (l : Int), p.length = i → i + r.length = n → lim p → lim r → 0 ≤ l → l ≤ 1 →
    Ev (fun k => nat_Sub.l0 k b (p ++ r) l (n : Int) (i : Int)) (ofN (val (p ++ (subl l r (b.drop i)).1)), 0) := by
  intro r
  induction r with
  | nil =>
    intro i p l hp hi hlp _ h0 h1
    simp only [List.length_nil] at hi
    have hc := cut_ev hlp (by omega)
    refine Ev.step (f := fun k => (nat_cut.f k p).bind fun t => some (t, 0)) (fun k => ?_) (by simp only [subl, List.append_nil]; exact Ev.bind hc (Ev.now _))
    simp only [nat_Sub.l0]; rw [if_neg (by omega), List.append_nil]
  | cons x r ih =>
    intro i p l hp hi hlp hlr h0 h1
    obtain ⟨hx, hlr'⟩ := lim_cons.1 hlr
    simp only [List.length_cons] at hi
    have e1 : rd (p ++ x :: r) (i : Int) = x := rd_app _ _ _ _ (by omega)
    cases hbd : b.drop i with
    | nil =>
      have hbl : b.length ≤ i := by have := congrArg List.length hbd; rw [List.length_drop, List.length_nil] at this; omega
      have hbd' : b.drop (i + 1) = [] := List.drop_eq_nil_of_le (by omega)
      have h := ih (i + 1) (p ++ [(x - l) % 4294967296]) (if x < l then 1 else 0) (by simp; omega) (by omega) (lim_append.2 ⟨hlp, by intro z hz; simp at hz; subst hz; omega⟩) hlr' (by split <;> omega) (by split <;> omega)
      rw [hbd', List.append_assoc, List.append_assoc, List.singleton_append, List.singleton_append] at h
      refine Ev.step (fun k => ?_) (by simpa only [subl] using h)
      simp only [nat_Sub.l0]
      rw [if_pos (by omega), if_pos (by omega), if_pos (by simp; omega), if_neg (by omega), e1, u64 hx.1 (by omega), u64 h0 (by omega), dif_u64 hx ⟨h0, by omega⟩, set_app _ _ _ _ _ (by omega), w64 (by omega) (by omega)]
      split <;> rfl
    | cons y bs =>
      obtain ⟨f1, f2, f3⟩ := rd_drop hbd
      have hy : 0 ≤ y ∧ y < 4294967296 := by have := lim_drop hb i; rw [hbd] at this; exact (lim_cons.1 this).1
      have h := ih (i + 1) (p ++ [(x - (l + y)) % 4294967296]) (if x < l + y then 1 else 0) (by simp; omega) (by omega) (lim_append.2 ⟨hlp, by intro z hz; simp at hz; subst hz; omega⟩) hlr' (by split <;> omega) (by split <;> omega)
      rw [f3, List.append_assoc, List.append_assoc, List.singleton_append, List.singleton_append] at h
      refine Ev.step (fun k => ?_) (by simpa only [subl] using h)
      simp only [nat_Sub.l0]
      rw [if_pos (by omega), if_pos (by omega), if_pos (by simp; omega), if_pos (by omega), e1, f1, u64 hx.1 (by omega), u64 hy.1 (by omega), u64 h0 (by omega), u64 (x := l + y) (by omega) (by omega), dif_u64 hx ⟨by omega, by omega⟩, set_app _ _ _ _ _ (by omega), w64 (by omega) (by omega)]
      split <;> rfl
theorem sub_ev {a b : List Int} (ha : lim a) (hb : lim b) (hl : a.length ≤ 8796093022208) (hm : b.length ≤ 8796093022208) :
    Ev (fun k => nat_Sub.f k a b) (if val a < val b then ([], 1) else (ofN (val a - val b), 0)) := by
  unfold nat_Sub.f
  have hcmp := cmp_ev ha hb (by omega) (by omega)
  have h1 := len_cut ha
  by_cases hlt : val a < val b
  · rw [if_pos hlt] at hcmp ⊢
    exact Ev.bind hcmp (Ev.congr (f := fun _ => some ([], 1)) (fun k => if_pos (by decide)) (Ev.now _))
  · have hge : ¬ ((if val b < val a then (1 : Int) else 0) < 0) := by split <;> decide
    rw [if_neg hlt] at hcmp ⊢
    refine Ev.bind hcmp (Ev.congr (f := fun k => _) (fun k => if_neg hge) ?_)
    refine Ev.bind (cut_ev ha (by omega)) ?_
    rw [clone_some (by omega)]
    obtain ⟨s1, s2, s3, s4, s5⟩ := subl_val (ofN (val a)) b 0 (lim_ofN _) hb (by omega) (by omega)
    have h := sub_l0 hb (ofN (val a)).length (by omega) (ofN (val a)) 0 [] 0 rfl (by omega) lim_nil (lim_ofN _) (by omega) (by omega)
    have hbt : val (b.take (ofN (val a)).length) = val b := by
      have e := val_append (b.take (ofN (val a)).length) (b.drop (ofN (val a)).length)
      rw [List.take_append_drop] at e
      by_cases hbl : b.length ≤ (ofN (val a)).length
      · rw [List.take_of_length_le hbl]
      · rw [List.length_take, Nat.min_eq_left (by omega)] at e
        have h2 := lt_len_ofN (val a)
        by_cases hz : val (b.drop (ofN (val a)).length) = 0
        · rw [hz] at e; omega
        · have h3 := Nat.mul_le_mul_left (4294967296 ^ (ofN (val a)).length) (show 1 ≤ val (b.drop (ofN (val a)).length) by omega)
          omega
    rw [hbt, val_ofN] at s5
    have s6 := val_lt s1
    rw [s2] at s6
    have hpow : ((4294967296 : Int) ^ (ofN (val a)).length) = ((4294967296 ^ (ofN (val a)).length : Nat) : Int) := by simp
    rw [hpow] at s5
    have hv : val (subl 0 (ofN (val a)) b).1 = val a - val b := by
      rcases (show (subl 0 (ofN (val a)) b).2 = 0 ∨ (subl 0 (ofN (val a)) b).2 = 1 by omega) with e | e
      · rw [e, Int.mul_zero] at s5; omega
      · rw [e, Int.mul_one] at s5; omega
    simp only [List.drop_zero, List.nil_append] at h
    rw [hv] at h
    exact h
end Go.Proofs.YtaclkccgjpjdjaaGreat.Nt
end
section
/- Numbers as rows of bits, lowest first, with no program in sight: bval, bitsN. -/
namespace Go.Proofs.YtaclkccgjpjdjaaGreat.Nb
open Go.RowKit Go.Proofs.YtaclkccgjpjdjaaGreatW.PrintWords Go.Proofs.YtaclkccgjpjdjaaGreatW.PrintMore Go.Proofs.YtaclkccgjpjdjaaGreat.N Go.Proofs.YtaclkccgjpjdjaaGreat.Nt
set_option linter.unusedVariables false
set_option linter.unusedSimpArgs false
def bval : List Bool → Nat
  | [] => 0
  | b :: l => b.toNat + 2 * bval l
def bitsF : Nat → Nat → List Bool
  | 0, _ => []
  | k + 1, n => if n = 0 then [] else (n % 2 == 1) :: bitsF k (n / 2)
def bitsN (n : Nat) : List Bool := bitsF n n
theorem bitsF_zero (k : Nat) : bitsF k 0 = [] := by cases k <;> simp [bitsF]
theorem bitsF_eq : ∀ (k m n : Nat), n ≤ k → n ≤ m → bitsF k n = bitsF m n := by
  intro k
  induction k with
  | zero => intro m n h _; obtain rfl : n = 0 := by omega
            rw [bitsF_zero, bitsF_zero]
  | succ k ih =>
    intro m n hk hm
    by_cases h0 : n = 0
    · subst h0; rw [bitsF_zero, bitsF_zero]
    · cases m with
      | zero => omega
      | succ m => simp only [bitsF, if_neg h0]; rw [ih m (n / 2) (by omega) (by omega)]
theorem bitsN_zero : bitsN 0 = [] := rfl
theorem bitsN_pos {n : Nat} (h : n ≠ 0) : bitsN n = (n % 2 == 1) :: bitsN (n / 2) := by
  cases n with
  | zero => exact absurd rfl h
  | succ n => simp only [bitsN, bitsF, if_neg h]; rw [bitsF_eq n ((n + 1) / 2) ((n + 1) / 2) (by omega) (Nat.le_refl _)]
theorem bval_nil : bval [] = 0 := rfl
theorem bval_cons (b : Bool) (l : List Bool) : bval (b :: l) = b.toNat + 2 * bval l := rfl
theorem bval_bitsN (n : Nat) : bval (bitsN n) = n := by
  induction n using Nat.strongRecOn with
  | _ n ih =>
    by_cases h : n = 0
    · subst h; rfl
    · rw [bitsN_pos h, bval_cons, ih (n / 2) (by omega)]
      by_cases h2 : n % 2 = 1
      · rw [h2]; simp; omega
      · rw [show n % 2 = 0 by omega]; simp; omega
theorem bval_append (l m : List Bool) : bval (l ++ m) = bval l + 2 ^ l.length * bval m := by
  induction l with
  | nil => simp [bval_nil]
  | cons b l ih => rw [List.cons_append, bval_cons, bval_cons, ih, List.length_cons, Nat.pow_succ, Nat.mul_add, ← Nat.mul_assoc, Nat.mul_comm 2 (2 ^ l.length)]; omega
theorem toNat_le (b : Bool) : b.toNat ≤ 1 := by cases b <;> simp
theorem bval_lt (l : List Bool) : bval l < 2 ^ l.length := by
  induction l with
  | nil => simp [bval_nil]
  | cons b l ih => rw [bval_cons, List.length_cons, Nat.pow_succ]; have := toNat_le b; omega
theorem bitsN_snoc_true (l : List Bool) : bitsN (bval (l ++ [true])) = l ++ [true] := by
  induction l with
  | nil => rfl
  | cons b l ih =>
    have hp : bval (l ++ [true]) ≠ 0 := by rw [bval_append]; simp [bval_cons, bval_nil]
    have hn : bval (b :: (l ++ [true])) ≠ 0 := by rw [bval_cons]; omega
    rw [List.cons_append, bitsN_pos hn, bval_cons]
    have hb := toNat_le b
    rw [show (b.toNat + 2 * bval (l ++ [true])) / 2 = bval (l ++ [true]) by omega, ih,
      show (b.toNat + 2 * bval (l ++ [true])) % 2 = b.toNat by omega]
    cases b <;> rfl
theorem bval_snoc_false (l : List Bool) : bval (l ++ [false]) = bval l := by rw [bval_append]; simp [bval_cons, bval_nil]
theorem len_bitsN_le {n k : Nat} (h : n < 2 ^ k) : (bitsN n).length ≤ k := by
  induction k generalizing n with
  | zero => obtain rfl : n = 0 := by simpa using h
            simp [bitsN_zero]
  | succ k ih =>
    by_cases h0 : n = 0
    · subst h0; simp [bitsN_zero]
    · rw [bitsN_pos h0, List.length_cons]; have := ih (n := n / 2) (by rw [Nat.pow_succ] at h; omega); omega
theorem lt_len_bitsN (n : Nat) : n < 2 ^ (bitsN n).length := by
  have := bval_lt (bitsN n); rwa [bval_bitsN] at this
theorem len_bval_le (l : List Bool) : (bitsN (bval l)).length ≤ l.length := len_bitsN_le (bval_lt l)
theorem rdOf_nat (l : List Bool) (i : Nat) : rdOf false l (i : Int) = l.getD i false := by simp [rdOf]
theorem take_succ_getD (l : List Bool) (i : Nat) (h : i < l.length) : l.take (i + 1) = l.take i ++ [l.getD i false] := by
  rw [List.take_add_one, List.getD_eq_getElem?_getD, List.getElem?_eq_getElem h]; simp
theorem cut_l0 (l : List Bool) (hl : l.length < 4000000000000000000) : ∀ i : Nat, i ≤ l.length → bval (l.take i) = bval l →
    Ev (fun k => foliotref01_cut.l0 k l (i : Int)) (bitsN (bval l)) := by
  intro i
  induction i with
  | zero =>
    intro _ hv
    refine Ev.step (f := fun _ => some (bitsN (bval l))) (fun k => ?_) (Ev.now _)
    simp only [foliotref01_cut.l0]
    rw [if_neg (by omega), if_pos (by omega), if_pos (by omega), ← hv]
    simp [bval_nil, bitsN_zero]
  | succ i ih =>
    intro hi hv
    have e : wrap64 (((i + 1 : Nat) : Int) - 1) = (i : Int) := by rw [w64 (by omega) (by omega)]; omega
    cases hb : l.getD i false with
    | true =>
      refine Ev.step (f := fun _ => some (bitsN (bval l))) (fun k => ?_) (Ev.now _)
      simp only [foliotref01_cut.l0]
      rw [e, if_pos (by omega), if_pos (by omega), if_pos (by omega), rdOf_nat, hb, if_pos rfl, if_pos (by omega), if_pos (by omega), Int.toNat_natCast, ← hv,
        take_succ_getD l i (by omega), hb, bitsN_snoc_true]
    | false =>
      refine Ev.step (f := fun k => foliotref01_cut.l0 k l (i : Int)) (fun k => ?_) (ih (by omega) ?_)
      · simp only [foliotref01_cut.l0]
        rw [e, if_pos (by omega), if_pos (by omega), if_pos (by omega), rdOf_nat, hb, if_neg (by simp)]
      · rw [take_succ_getD l i (by omega), hb, bval_snoc_false] at hv; exact hv
theorem cut_ev {l : List Bool} (hl : l.length < 4000000000000000000) : Ev (fun k => foliotref01_cut.f k l) (bitsN (bval l)) :=
  cut_l0 l hl l.length (Nat.le_refl _) (by rw [List.take_length])
end Go.Proofs.YtaclkccgjpjdjaaGreat.Nb
end
section
/- The reference's rows of bits tell the numbers that they should: at, cmp, Of. -/
namespace Go.Proofs.YtaclkccgjpjdjaaGreat.Nb
open Go.RowKit Go.Proofs.YtaclkccgjpjdjaaGreatW.PrintWords Go.Proofs.YtaclkccgjpjdjaaGreatW.PrintMore Go.Proofs.YtaclkccgjpjdjaaGreat.N Go.Proofs.YtaclkccgjpjdjaaGreat.Nt
set_option linter.unusedVariables false
set_option linter.unusedSimpArgs false
theorem getD_bit : ∀ (l : List Bool) (i : Nat), l.getD i false = (bval l / 2 ^ i % 2 == 1) := by
  intro l
  induction l with
  | nil => intro i; simp [bval_nil]
  | cons b l ih =>
    intro i
    cases i with
    | zero => rw [bval_cons]; cases b <;> simp <;> omega
    | succ i =>
      rw [List.getD_cons_succ, ih, bval_cons, Nat.pow_succ, Nat.mul_comm (2 ^ i) 2, ← Nat.div_div_eq_div_mul]
      have := toNat_le b
      rw [show (b.toNat + 2 * bval l) / 2 = bval l by omega]
theorem at_at (l : List Bool) (i : Nat) : foliotref01_at.f l (i : Int) = some (l.getD i false) := by
  unfold foliotref01_at.f
  by_cases h : i < l.length
  · rw [if_pos (by omega), if_pos (by omega), rdOf_nat]
  · rw [if_neg (by omega), List.getD_eq_getElem?_getD, List.getElem?_eq_none (by omega)]; rfl
def cmp3 (a b : Nat) : Int := if a < b then -1 else if b < a then 1 else 0
theorem cmp_l0 (a b : List Bool) : ∀ i : Nat, i < 4000000000000000000 → bval a / 2 ^ i = bval b / 2 ^ i →
    Ev (fun k => foliotref01_cmp.l0 k a b ((i : Int) - 1)) (cmp3 (bval a) (bval b)) := by
  intro i
  induction i with
  | zero =>
    intro _ h
    refine Ev.step (f := fun _ => some (cmp3 (bval a) (bval b))) (fun k => ?_) (Ev.now _)
    simp only [foliotref01_cmp.l0]
    rw [if_neg (by omega)]
    simp at h
    simp [cmp3, h]
  | succ i ih =>
    intro hi h
    have e : (((i + 1 : Nat) : Int) - 1) = (i : Int) := by omega
    rw [e]
    have ha : bval a / 2 ^ (i + 1) = bval a / 2 ^ i / 2 := by rw [Nat.pow_succ, Nat.div_div_eq_div_mul]
    have hb : bval b / 2 ^ (i + 1) = bval b / 2 ^ i / 2 := by rw [Nat.pow_succ, Nat.div_div_eq_div_mul]
    rw [ha, hb] at h
    have ga := getD_bit a i
    have gb := getD_bit b i
    by_cases hx : bval a / 2 ^ i = bval b / 2 ^ i
    · refine Ev.step (f := fun k => foliotref01_cmp.l0 k a b ((i : Int) - 1)) (fun k => ?_) (ih (by omega) hx)
      simp only [foliotref01_cmp.l0]
      rw [if_pos (by omega), at_at, at_at, Option.bind_some, Option.bind_some, ga, gb, hx, if_neg (by simp), w64 (by omega) (by omega)]
    · refine Ev.step (f := fun _ => some (cmp3 (bval a) (bval b))) (fun k => ?_) (Ev.now _)
      simp only [foliotref01_cmp.l0]
      rw [if_pos (by omega), at_at, at_at, Option.bind_some, Option.bind_some, Option.bind_some]
      by_cases h1 : bval a / 2 ^ i % 2 = 1
      · have h2 : bval b / 2 ^ i % 2 = 0 := by omega
        rw [h1] at ga; rw [h2] at gb
        rw [ga, gb, if_pos (by decide), if_pos (by decide)]
        have hlt : bval b / 2 ^ i < bval a / 2 ^ i := by omega
        have : bval b < bval a := by
          apply Nat.lt_of_not_le; intro hc
          have := Nat.div_le_div_right (c := 2 ^ i) hc; omega
        unfold cmp3; rw [if_neg (by omega), if_pos this]
      · have h1' : bval a / 2 ^ i % 2 = 0 := by omega
        have h2 : bval b / 2 ^ i % 2 = 1 := by omega
        rw [h1'] at ga; rw [h2] at gb
        rw [ga, gb, if_pos (by decide), if_neg (by decide)]
        have hlt : bval a / 2 ^ i < bval b / 2 ^ i := by omega
        have : bval a < bval b := by
          apply Nat.lt_of_not_le; intro hc
          have := Nat.div_le_div_right (c := 2 ^ i) hc; omega
        unfold cmp3; rw [if_pos this]
theorem cmp_ev {a b : List Bool} (ha : a.length < 4000000000000000000) (hb : b.length < 4000000000000000000) :
    Ev (fun k => foliotref01_cmp.f k a b) (cmp3 (bval a) (bval b)) := by
  have hz : ∀ (l : List Bool) (n : Nat), l.length ≤ n → bval l / 2 ^ n = 0 := fun l n h =>
    Nat.div_eq_of_lt (Nat.lt_of_lt_of_le (bval_lt l) (Nat.pow_le_pow_right (by omega) h))
  have h := cmp_l0 a b (max a.length b.length) (by omega) (by rw [hz a _ (by omega), hz b _ (by omega)])
  refine Ev.congr (fun k => ?_) h
  unfold foliotref01_cmp.f mx
  have : (if (a.length : Int) < (b.length : Int) then (b.length : Int) else (a.length : Int)) = ((max a.length b.length : Nat) : Int) := by split <;> omega
  rw [this, w64 (by omega) (by omega)]
end Go.Proofs.YtaclkccgjpjdjaaGreat.Nb
end
section
/- The reference's rows of bits: Of tells a row of limbs as bits. -/
namespace Go.Proofs.YtaclkccgjpjdjaaGreat.Nb
open Go.RowKit Go.Proofs.YtaclkccgjpjdjaaGreatW.PrintWords Go.Proofs.YtaclkccgjpjdjaaGreatW.PrintMore Go.Proofs.YtaclkccgjpjdjaaGreat.N Go.Proofs.YtaclkccgjpjdjaaGreat.Nt
set_option linter.unusedVariables false
set_option linter.unusedSimpArgs false
theorem bit32 {x j : Nat} (hx : x < 4294967296) (hj : j < 32) : ((Go.bits .and .u32 (shr .u32 (x : Int) (j : Int)) 1) == 1) = (x / 2 ^ j % 2 == 1) := by
  have es : shr .u32 (x : Int) (j : Int) = ((x / 2 ^ j : Nat) : Int) := by
    unfold shr
    rw [show min (j : Int).toNat IntKind.u32.bits = j from Nat.min_eq_left (by show j ≤ 32; omega)]
    simp
  have hlt : x / 2 ^ j < 4294967296 := Nat.lt_of_le_of_lt (Nat.div_le_self _ _) hx
  rw [es]
  generalize x / 2 ^ j = z at *
  rw [u32_and _ _ (by omega) (by omega) (by omega) (by omega), Int.toNat_natCast, show (1 : Int).toNat = 1 from rfl, Nat.and_one_is_mod]
  generalize z % 2 = y
  rw [Bool.eq_iff_iff, beq_iff_eq, beq_iff_eq]; omega
theorem bits_succ (x j : Nat) : x % 2 ^ (j + 1) = x % 2 ^ j + 2 ^ j * (x / 2 ^ j % 2) := Nat.mod_pow_succ
theorem of_l1 (l : List Int) (i : Nat) (hi : i < l.length) (hl : l.length ≤ 1000000000000) (x V : Nat) (hx : x < 4294967296) (hr : rd l (i : Int) = (x : Int)) (r : List Bool)
    (hk : ∀ y : List Bool, y.length = 32 * i + 32 → bval y = V + 2 ^ (32 * i) * x → Ev (fun k => foliotref01_Of.l0 k l y ((i : Int) + 1)) r) :
    ∀ (d j : Nat) (y : List Bool), j + d = 32 → y.length = 32 * i + j → bval y = V + 2 ^ (32 * i) * (x % 2 ^ j) → Ev (fun k => foliotref01_Of.l1 k l y (i : Int) (j : Int)) r := by
  intro d
  induction d with
  | zero =>
    intro j y hj hy hv
    obtain rfl : j = 32 := by omega
    refine Ev.step (f := fun k => foliotref01_Of.l0 k l y ((i : Int) + 1)) (fun k => ?_) (hk y hy ?_)
    · simp only [foliotref01_Of.l1]
      rw [if_neg (by omega), w64 (by omega) (by omega)]
    · rw [hv, Nat.mod_eq_of_lt (by exact hx)]
  | succ d ih =>
    intro j y hj hy hv
    refine Ev.step (f := fun k => foliotref01_Of.l1 k l (y ++ [(x / 2 ^ j % 2 == 1)]) (i : Int) ((j + 1 : Nat) : Int)) (fun k => ?_) (ih (j + 1) _ (by omega) (by simp; omega) ?_)
    · simp only [foliotref01_Of.l1]
      rw [if_pos (by omega), if_pos (by omega), if_pos (by omega), if_pos (by omega), if_pos (by omega), hr, bit32 hx (by omega), w64 (by omega) (by omega)]
      rfl
    · rw [bval_append, hv, hy, bits_succ, bval_cons, bval_nil, Nat.pow_add]
      have hb : (x / 2 ^ j % 2 == 1).toNat = x / 2 ^ j % 2 := by
        have : x / 2 ^ j % 2 < 2 := Nat.mod_lt _ (by omega)
        generalize x / 2 ^ j % 2 = z at *
        match z, this with
        | 0, _ => rfl
        | 1, _ => rfl
      rw [hb]; simp only [Nat.mul_add, Nat.mul_zero, Nat.add_zero, Nat.mul_assoc, Nat.add_assoc]
theorem of_l0 (l : List Int) (hl : l.length ≤ 1000000000000) (hlim : lim l) : ∀ (d i : Nat) (y : List Bool), i + d = l.length → y.length = 32 * i → bval y = val (l.take i) →
    Ev (fun k => foliotref01_Of.l0 k l y (i : Int)) (bitsN (val l)) := by
  intro d
  induction d with
  | zero =>
    intro i y hi hy hv
    obtain rfl : i = l.length := by omega
    rw [List.take_length] at hv
    have h := cut_ev (l := y) (by omega)
    rw [hv] at h
    refine Ev.step (f := fun k => (foliotref01_cut.f k y).bind fun t => some t) (fun k => ?_) (Ev.bind h (Ev.now _))
    simp only [foliotref01_Of.l0]
    rw [if_neg (by omega)]
  | succ d ih =>
    intro i y hi hy hv
    have hx := hlim (l[i]'(by omega)) (List.getElem_mem _)
    obtain ⟨x, ex⟩ := Int.eq_ofNat_of_zero_le hx.1
    have hr : rd l (i : Int) = (x : Int) := by
      rw [← ex]; simp [rd, List.getD_eq_getElem?_getD, List.getElem?_eq_getElem (show i < l.length by omega)]
    refine Ev.step (f := fun k => foliotref01_Of.l1 k l y (i : Int) ((0 : Nat) : Int)) (fun k => ?_) (of_l1 l i (by omega) hl x (val (l.take i)) (by omega) hr _ ?_ 32 0 y (by omega) (by omega) (by rw [hv, Nat.pow_zero, Nat.mod_one]; omega))
    · simp only [foliotref01_Of.l0]
      rw [if_pos (by omega)]; rfl
    · intro z hz hzv
      refine ih (i + 1) z (by omega) (by omega) ?_
      rw [hzv, List.take_succ_eq_append_getElem (by omega), val_append, List.length_take, Nat.min_eq_left (by omega), val_cons, val_nil, ex, Nat.pow_mul]
      simp
theorem of_ev {l : List Int} (hl : l.length ≤ 1000000000000) (hlim : lim l) : Ev (fun k => foliotref01_Of.f k l) (bitsN (val l)) :=
  of_l0 l hl hlim l.length 0 [] (by omega) rfl rfl
end Go.Proofs.YtaclkccgjpjdjaaGreat.Nb
end
section
/- The reference's sum of two rows of bits. -/
namespace Go.Proofs.YtaclkccgjpjdjaaGreat.Nb
open Go.RowKit Go.Proofs.YtaclkccgjpjdjaaGreatW.PrintWords Go.Proofs.YtaclkccgjpjdjaaGreatW.PrintMore Go.Proofs.YtaclkccgjpjdjaaGreat.N Go.Proofs.YtaclkccgjpjdjaaGreat.Nt
set_option linter.unusedVariables false
set_option linter.unusedSimpArgs false
theorem ww {x : Int} (h : -9000 ≤ x ∧ x ≤ 9000) : wrap64 x = x := w64 (by omega) (by omega)
def s3 (a b c : Bool) : Bool := a ^^ (b ^^ c)
def c3 (a b c : Bool) : Bool := (a && b) || (a && c) || (b && c)
theorem add_j (x0 x1 y : List Bool) (c : Bool) (i : Nat) (hy : y.length < 1000000000000) (hi : i < 1000000000000) (r : List Bool)
    (h : Ev (fun k => foliotref01_add.l0 k x0 x1 (y ++ [s3 (x0.getD i false) (x1.getD i false) c]) (c3 (x0.getD i false) (x1.getD i false) c) ((i + 1 : Nat) : Int)) r) :
    Ev (fun k => foliotref01_add.j1 k x0 x1 y c (i : Int) true) r := by
  refine Ev.step (f := fun k => foliotref01_add.j2 k x0 x1 y c (i : Int) (if x0.getD i false = true then 1 else 0)) (fun k => ?_) (Ev.step (fun k => ?_) h)
  · simp only [foliotref01_add.j1]
    rw [if_pos trivial, at_at, Option.bind_some]
    by_cases ha : x0.getD i false = true
    · rw [if_pos ha, if_pos ha]; rfl
    · rw [if_neg ha, if_neg ha]
  · simp only [foliotref01_add.j2]
    rw [at_at, Option.bind_some, w64 (x := (i : Int) + 1) (by omega) (by omega), show ((i : Int) + 1) = ((i + 1 : Nat) : Int) by omega]
    have hl : y.length < 140737488355328 := by omega
    generalize x0.getD i false = a
    generalize x1.getD i false = b
    cases a <;> cases b <;> cases c <;>
      simp only [if_true, if_false, Bool.false_eq_true, if_pos hl, ww (x := 0 + 1) (by omega), ww (x := 1 + 1) (by omega), ww (x := 0 + 1 + 1) (by omega), ww (x := 1 + 1 + 1) (by omega)] <;> rfl
theorem s3_c3 (a b c : Bool) : (s3 a b c).toNat + 2 * (c3 a b c).toNat = a.toNat + b.toNat + c.toNat := by cases a <;> cases b <;> cases c <;> rfl
theorem bit_toNat (A i : Nat) : (A / 2 ^ i % 2 == 1).toNat = A / 2 ^ i % 2 := by
  have : A / 2 ^ i % 2 < 2 := Nat.mod_lt _ (by omega)
  generalize A / 2 ^ i % 2 = z at *
  match z, this with
  | 0, _ => rfl
  | 1, _ => rfl
theorem mx_nat (a b : Nat) : mx (a : Int) (b : Int) = ((max a b : Nat) : Int) := by unfold mx; split <;> omega
theorem add_end (x0 x1 y : List Bool) (i : Nat) (hi : max x0.length x1.length ≤ i) (hy : y.length < 1000000000000) :
    Ev (fun k => foliotref01_add.l0 k x0 x1 y false (i : Int)) (bitsN (bval y)) := by
  refine Ev.step (f := fun k => foliotref01_add.j1 k x0 x1 y false (i : Int) false) (fun k => ?_) (Ev.step (f := fun k => (foliotref01_cut.f k y).bind fun t => some t) (fun k => ?_) (Ev.bind (cut_ev (by omega)) (Ev.now _)))
  · simp only [foliotref01_add.l0]; rw [mx_nat, if_neg (by omega)]
  · simp only [foliotref01_add.j1]; rw [if_neg (by simp)]
theorem add_l0 (x0 x1 : List Bool) (hn : max x0.length x1.length < 100000000000) : ∀ (d i : Nat) (y : List Bool) (c : Bool), i + d = max x0.length x1.length → y.length = i →
    bval y + 2 ^ i * c.toNat = bval x0 % 2 ^ i + bval x1 % 2 ^ i → Ev (fun k => foliotref01_add.l0 k x0 x1 y c (i : Int)) (bitsN (bval x0 + bval x1)) := by
  have hm : ∀ (l : List Bool) (n : Nat), l.length ≤ n → bval l % 2 ^ n = bval l := fun l n h =>
    Nat.mod_eq_of_lt (Nat.lt_of_lt_of_le (bval_lt l) (Nat.pow_le_pow_right (by omega) h))
  intro d
  induction d with
  | zero =>
    intro i y c hi hy hv
    rw [hm x0 i (by omega), hm x1 i (by omega)] at hv
    cases c with
    | false =>
      have h := add_end x0 x1 y i (by omega) (by omega)
      rw [show bval x0 + bval x1 = bval y by rw [← hv]; simp]; exact h
    | true =>
      refine Ev.step (f := fun k => foliotref01_add.j1 k x0 x1 y true (i : Int) true) (fun k => ?_) (add_j x0 x1 y true i (by omega) (by omega) _ ?_)
      · simp only [foliotref01_add.l0]; rw [mx_nat, if_neg (by omega)]
      · have z : ∀ l : List Bool, l.length ≤ i → l.getD i false = false := fun l h => by
          rw [List.getD_eq_getElem?_getD, List.getElem?_eq_none h]; rfl
        rw [z x0 (by omega), z x1 (by omega)]
        have h := add_end x0 x1 (y ++ [true]) (i + 1) (by omega) (by simp; omega)
        rw [show bval x0 + bval x1 = bval (y ++ [true]) by rw [← hv, bval_append, hy]; simp [bval_cons, bval_nil]]; exact h
  | succ d ih =>
    intro i y c hi hy hv
    refine Ev.step (f := fun k => foliotref01_add.j1 k x0 x1 y c (i : Int) true) (fun k => ?_) (add_j x0 x1 y c i (by omega) (by omega) _ (ih (i + 1) _ _ (by omega) (by simp [hy]) ?_))
    · simp only [foliotref01_add.l0]; rw [mx_nat, if_pos (by omega)]
    · have e := s3_c3 (x0.getD i false) (x1.getD i false) c
      rw [bval_append, hy, bits_succ, bits_succ, bval_cons, bval_nil, ← bit_toNat (bval x0), ← bit_toNat (bval x1), ← getD_bit, ← getD_bit, Nat.pow_succ]
      generalize (s3 (x0.getD i false) (x1.getD i false) c).toNat = S at *
      generalize (c3 (x0.getD i false) (x1.getD i false) c).toNat = C at *
      generalize (x0.getD i false).toNat = P at *
      generalize (x1.getD i false).toNat = Q at *
      have e2 : 2 ^ i * (S + 2 * C) = 2 ^ i * (P + Q + c.toNat) := by rw [e]
      simp only [Nat.mul_add, Nat.mul_zero, Nat.add_zero, ← Nat.mul_assoc] at e2 ⊢
      omega
theorem add_ev {x0 x1 : List Bool} (h0 : x0.length < 100000000000) (h1 : x1.length < 100000000000) : Ev (fun k => foliotref01_add.f k x0 x1) (bitsN (bval x0 + bval x1)) :=
  add_l0 x0 x1 (by omega) _ 0 [] false (Nat.zero_add _) rfl (by simp [bval_nil, Nat.mod_one])
end Go.Proofs.YtaclkccgjpjdjaaGreat.Nb
end
section
/- The reference's difference of two rows of bits. -/
namespace Go.Proofs.YtaclkccgjpjdjaaGreat.Nb
open Go.RowKit Go.Proofs.YtaclkccgjpjdjaaGreatW.PrintWords Go.Proofs.YtaclkccgjpjdjaaGreatW.PrintMore Go.Proofs.YtaclkccgjpjdjaaGreat.N Go.Proofs.YtaclkccgjpjdjaaGreat.Nt
set_option linter.unusedVariables false
set_option linter.unusedSimpArgs false
def b3 (a b c : Bool) : Bool := (!a && b) || (!a && c) || (b && c)
theorem s3_b3 (a b c : Bool) : (s3 a b c).toNat + b.toNat + c.toNat = a.toNat + 2 * (b3 a b c).toNat := by cases a <;> cases b <;> cases c <;> rfl
theorem sub_j (x0 x1 y : List Bool) (c : Bool) (i : Nat) (hy : y.length < 1000000000000) (hi : i < 1000000000000) (hx : i < x0.length) (r : List Bool)
    (h : Ev (fun k => foliotref01_sub.l0 k x0 x1 (y ++ [s3 (x0.getD i false) (x1.getD i false) c]) (b3 (x0.getD i false) (x1.getD i false) c) ((i + 1 : Nat) : Int)) r) :
    Ev (fun k => foliotref01_sub.l0 k x0 x1 y c (i : Int)) r := by
  refine Ev.step (f := fun k => foliotref01_sub.j1 k x0 x1 y c (i : Int) (if x0.getD i false = true then 1 else 0)) (fun k => ?_) (Ev.step (fun k => ?_) h)
  · simp only [foliotref01_sub.l0]
    rw [if_pos (by omega), at_at, Option.bind_some]
    by_cases ha : x0.getD i false = true
    · rw [if_pos ha, if_pos ha]; rfl
    · rw [if_neg ha, if_neg ha]
  · simp only [foliotref01_sub.j1]
    rw [at_at, Option.bind_some, w64 (x := (i : Int) + 1) (by omega) (by omega), show ((i : Int) + 1) = ((i + 1 : Nat) : Int) by omega]
    have hl : y.length < 140737488355328 := by omega
    generalize x0.getD i false = a
    generalize x1.getD i false = b
    cases a <;> cases b <;> cases c <;>
      simp only [if_true, if_false, Bool.false_eq_true, if_pos hl, ww (x := 0 - 1) (by omega), ww (x := 1 - 1) (by omega), ww (x := 0 - 1 - 1) (by omega), ww (x := 1 - 1 - 1) (by omega)] <;> rfl
theorem sub_l0 (x0 x1 : List Bool) (hn : x0.length < 100000000000) (hle : bval x1 ≤ bval x0) : ∀ (d i : Nat) (y : List Bool) (c : Bool), i + d = x0.length → y.length = i →
    bval y + bval x1 % 2 ^ i = bval x0 % 2 ^ i + 2 ^ i * c.toNat → Ev (fun k => foliotref01_sub.l0 k x0 x1 y c (i : Int)) (bitsN (bval x0 - bval x1)) := by
  intro d
  induction d with
  | zero =>
    intro i y c hi hy hv
    obtain rfl : i = x0.length := by omega
    rw [Nat.mod_eq_of_lt (bval_lt x0), Nat.mod_eq_of_lt (Nat.lt_of_le_of_lt hle (bval_lt x0))] at hv
    have hyl := bval_lt y
    rw [hy] at hyl
    have hc : c = false := by
      cases c with
      | false => rfl
      | true => simp at hv; omega
    subst hc
    simp at hv
    refine Ev.step (f := fun k => (foliotref01_cut.f k y).bind fun t => some t) (fun k => ?_) (Ev.bind (a := bitsN (bval x0 - bval x1)) ?_ (Ev.now _))
    · simp only [foliotref01_sub.l0]; rw [if_neg (by omega)]
    · rw [show bval x0 - bval x1 = bval y by omega]; exact cut_ev (by omega)
  | succ d ih =>
    intro i y c hi hy hv
    refine sub_j x0 x1 y c i (by omega) (by omega) (by omega) _ (ih (i + 1) _ _ (by omega) (by simp [hy]) ?_)
    have e := s3_b3 (x0.getD i false) (x1.getD i false) c
    rw [bval_append, hy, bits_succ, bits_succ, bval_cons, bval_nil, ← bit_toNat (bval x0), ← bit_toNat (bval x1), ← getD_bit, ← getD_bit, Nat.pow_succ]
    generalize (s3 (x0.getD i false) (x1.getD i false) c).toNat = S at *
    generalize (b3 (x0.getD i false) (x1.getD i false) c).toNat = C at *
    generalize (x0.getD i false).toNat = P at *
    generalize (x1.getD i false).toNat = Q at *
    have e2 : 2 ^ i * (S + Q + c.toNat) = 2 ^ i * (P + 2 * C) := by rw [e]
    simp only [Nat.mul_add, Nat.mul_zero, Nat.add_zero, ← Nat.mul_assoc] at e2 ⊢
    omega
theorem sub_evb {x0 x1 : List Bool} (h0 : x0.length < 100000000000) (hle : bval x1 ≤ bval x0) : Ev (fun k => foliotref01_sub.f k x0 x1) (bitsN (bval x0 - bval x1)) :=
  sub_l0 x0 x1 h0 hle _ 0 [] false (Nat.zero_add _) rfl (by simp [bval_nil, Nat.mod_one])
end Go.Proofs.YtaclkccgjpjdjaaGreat.Nb
end
section
/- The reference's limbs of a row of bits. -/
namespace Go.Proofs.YtaclkccgjpjdjaaGreat.Nb
open Go.RowKit Go.Proofs.YtaclkccgjpjdjaaGreatW.PrintWords Go.Proofs.YtaclkccgjpjdjaaGreatW.PrintMore Go.Proofs.YtaclkccgjpjdjaaGreat.N Go.Proofs.YtaclkccgjpjdjaaGreat.Nt
set_option linter.unusedVariables false
set_option linter.unusedSimpArgs false
theorem or32 {x j : Nat} (hx : x < 2 ^ j) (hj : j < 32) : Go.bits .or .u32 (x : Int) (shl .u32 1 (j : Int)) = ((x + 2 ^ j : Nat) : Int) := by
  have h32 : (2 : Nat) ^ j ≤ 2 ^ 31 := Nat.pow_le_pow_right (by omega) (by omega)
  have es : shl .u32 1 (j : Int) = ((2 ^ j : Nat) : Int) := by
    have : ∀ j : Nat, j < 32 → shl .u32 1 (j : Int) = ((2 ^ j : Nat) : Int) := by decide +kernel
    exact this j hj
  rw [es]
  have hp : 0 < 2 ^ j := Nat.pow_pos (by omega)
  have e := Nat.two_pow_add_eq_or_of_lt hx 1
  rw [Nat.mul_one] at e
  generalize 2 ^ j = z at *
  rw [u32_or _ _ (by omega) (by omega) (by omega) (by omega), Int.toNat_natCast, Int.toNat_natCast, Nat.or_comm, ← e]
  omega
theorem limbs_l1 (A : Nat) (hA : (bitsN A).length < 100000000000) (y : List Int) (hy : y.length < 10000000000) (i : Nat) (hi : i < 100000000000) (r : List Int)
    (hk : Ev (fun k => foliotref01_Limbs.l0 k (bitsN A) (y ++ [((A / 2 ^ i % 4294967296 : Nat) : Int)]) ((i + 32 : Nat) : Int)) r) :
    ∀ (d j : Nat), j + d = 32 → Ev (fun k => foliotref01_Limbs.l1 k (bitsN A) y (i : Int) ((A / 2 ^ i % 2 ^ j : Nat) : Int) (j : Int)) r := by
  have push : ∀ x : Nat, x = A / 2 ^ i % 4294967296 → ∀ j : Nat, Ev (fun k => foliotref01_Limbs.j2 k (bitsN A) y (i : Int) (x : Int) (j : Int) false) r := by
    intro x hx j
    subst hx
    refine Ev.step (fun k => ?_) hk
    simp only [foliotref01_Limbs.j2]
    rw [if_neg (by simp), if_pos (by omega), w64 (by omega) (by omega)]; rfl
  intro d
  induction d with
  | zero =>
    intro j hj
    obtain rfl : j = 32 := by omega
    refine Ev.step (fun k => ?_) (push _ (by rfl) 32)
    simp only [foliotref01_Limbs.l1]
    rw [if_neg (by omega)]
  | succ d ih =>
    intro j hj
    have ew : wrap64 ((i : Int) + (j : Int)) = ((i + j : Nat) : Int) := by rw [w64 (by omega) (by omega)]; omega
    by_cases hlen : i + j < (bitsN A).length
    · refine Ev.step (f := fun k => foliotref01_Limbs.j2 k (bitsN A) y (i : Int) ((A / 2 ^ i % 2 ^ j : Nat) : Int) (j : Int) true) (fun k => ?_) (Ev.step (fun k => ?_) (ih (j + 1) (by omega)))
      · simp only [foliotref01_Limbs.l1]
        rw [if_pos (by omega), ew, decide_eq_true (by omega)]
      · simp only [foliotref01_Limbs.j2]
        have hb := getD_bit (bitsN A) (i + j)
        rw [bval_bitsN, Nat.pow_add, ← Nat.div_div_eq_div_mul] at hb
        have hlt : A / 2 ^ i % 2 ^ j < 2 ^ j := Nat.mod_lt _ (Nat.pow_pos (by omega))
        rw [if_pos trivial, ew, if_pos (by omega), if_pos (by omega), rdOf_nat, hb, if_pos (show (0 : Int) ≤ (j : Int) by omega), or32 hlt (by omega), w64 (x := (j : Int) + 1) (by omega) (by omega), bits_succ]
        by_cases h1 : A / 2 ^ i / 2 ^ j % 2 = 1
        · rw [if_pos (by rw [h1]; rfl), h1, Nat.mul_one]; rfl
        · have h0 : A / 2 ^ i / 2 ^ j % 2 = 0 := by omega
          rw [if_neg (by rw [h0]; decide), h0, Nat.mul_zero, Nat.add_zero]; rfl
    · have hz : A / 2 ^ i < 2 ^ j := by
        apply Nat.div_lt_of_lt_mul
        rw [← Nat.pow_add]
        exact Nat.lt_of_lt_of_le (lt_len_bitsN A) (Nat.pow_le_pow_right (by omega) (by omega))
      have hz2 : (2 : Nat) ^ j ≤ 2 ^ 32 := Nat.pow_le_pow_right (by omega) (by omega)
      refine Ev.step (fun k => ?_) (push (A / 2 ^ i % 2 ^ j) (by rw [Nat.mod_eq_of_lt hz, Nat.mod_eq_of_lt (by omega)]) j)
      simp only [foliotref01_Limbs.l1]
      rw [if_pos (by omega), ew, decide_eq_false (by omega)]
theorem limbs_l0 (A : Nat) (hA : (bitsN A).length < 100000000000) : ∀ (d i : Nat) (y : List Int), (bitsN A).length ≤ i + d → i < 100000000000 + 32 → y.length ≤ i → (i < (bitsN A).length → y.length < 10000000000) →
    y.length * 32 = i → ofN A = y ++ ofN (A / 2 ^ i) → Ev (fun k => foliotref01_Limbs.l0 k (bitsN A) y (i : Int)) (ofN A) := by
  intro d
  induction d using Nat.strongRecOn with
  | _ d ih =>
    intro i y hd hi hy hyl hy32 hv
    by_cases hlen : i < (bitsN A).length
    · have hne : A / 2 ^ i ≠ 0 := by
        intro h0
        have : A < 2 ^ i := by
          apply Nat.lt_of_not_le; intro hc
          have := Nat.div_pos hc (Nat.pow_pos (by omega)); omega
        have := len_bitsN_le this; omega
      rw [ofN_pos hne, Nat.div_div_eq_div_mul, show (4294967296 : Nat) = 2 ^ 32 from rfl, ← Nat.pow_add] at hv
      have h1 := limbs_l1 A hA y (by omega) i (by omega) (ofN A) (ih (d - 32) (by omega) (i + 32) _ (by omega) (by omega) (by simp; omega) (fun _ => by simp; omega) (by simp; omega) (by rw [hv]; simp)) 32 0 (by omega)
      refine Ev.step (fun k => ?_) h1
      simp only [foliotref01_Limbs.l0]
      rw [if_pos (by omega), Nat.pow_zero, Nat.mod_one]; rfl
    · have h0 : A / 2 ^ i = 0 := Nat.div_eq_of_lt (Nat.lt_of_lt_of_le (lt_len_bitsN A) (Nat.pow_le_pow_right (by omega) (by omega)))
      rw [h0, ofN_zero, List.append_nil] at hv
      refine Ev.step (f := fun _ => some (ofN A)) (fun k => ?_) (Ev.now _)
      simp only [foliotref01_Limbs.l0]
      rw [if_neg (by omega), hv]
theorem limbs_ev {l : List Bool} (hl : l.length < 100000000000) : Ev (fun k => foliotref01_Limbs.f k l) (ofN (bval l)) := by
  have h := len_bval_le l
  unfold foliotref01_Limbs.f
  refine Ev.bind (cut_ev (by omega)) ?_
  exact limbs_l0 (bval l) (by omega) (bitsN (bval l)).length 0 [] (by omega) (by omega) (by simp) (fun _ => by simp) rfl (by simp)
end Go.Proofs.YtaclkccgjpjdjaaGreat.Nb
end
section
/- The reference's Cmp and Sub as numbers. -/
namespace Go.Proofs.YtaclkccgjpjdjaaGreat.Nb
open Go.RowKit Go.Proofs.YtaclkccgjpjdjaaGreatW.PrintWords Go.Proofs.YtaclkccgjpjdjaaGreatW.PrintMore Go.Proofs.YtaclkccgjpjdjaaGreat.N Go.Proofs.YtaclkccgjpjdjaaGreat.Nt
set_option linter.unusedVariables false
set_option linter.unusedSimpArgs false
theorem lenb {l : List Int} (h : lim l) : (bitsN (val l)).length ≤ 32 * l.length := by
  have := val_lt h
  rw [show (4294967296 : Nat) = 2 ^ 32 from rfl, ← Nat.pow_mul] at this
  exact len_bitsN_le this
theorem bits_lt' (m n : Nat) (h : m ≤ n) : (bitsN m).length ≤ (bitsN n).length := len_bitsN_le (Nat.lt_of_le_of_lt h (lt_len_bitsN n))
theorem rcmp_ev {l m : List Int} (hl : l.length ≤ 1000000000) (hm : m.length ≤ 1000000000) (l1 : lim l) (m1 : lim m) : Ev (fun k => foliotref01_Cmp.f k l m) (cmp3 (val l) (val m)) := by
  have e1 := lenb l1
  have e2 := lenb m1
  unfold foliotref01_Cmp.f
  refine Ev.bind (of_ev (by omega) l1) (Ev.bind (of_ev (by omega) m1) (Ev.bind (a := cmp3 (val l) (val m)) ?_ (Ev.now _)))
  have h := cmp_ev (a := bitsN (val l)) (b := bitsN (val m)) (by omega) (by omega)
  rwa [bval_bitsN, bval_bitsN] at h
theorem rsub_ev {l m : List Int} (hl : l.length ≤ 1000000000) (hm : m.length ≤ 1000000000) (l1 : lim l) (m1 : lim m) :
    Ev (fun k => foliotref01_Sub.f k l m) (if val l < val m then ([], 1) else (ofN (val l - val m), 0)) := by
  have e1 := lenb l1
  have e2 := lenb m1
  unfold foliotref01_Sub.f
  have h := cmp_ev (a := bitsN (val l)) (b := bitsN (val m)) (by omega) (by omega)
  rw [bval_bitsN, bval_bitsN] at h
  refine Ev.bind (of_ev (by omega) l1) (Ev.bind (of_ev (by omega) m1) (Ev.bind h ?_))
  by_cases hlt : val l < val m
  · rw [show cmp3 (val l) (val m) = -1 from if_pos hlt, if_pos hlt]
    exact Ev.congr (f := fun _ => some ([], 1)) (fun k => if_pos (by omega)) (Ev.now _)
  · have hc : ¬ cmp3 (val l) (val m) < 0 := by unfold cmp3; rw [if_neg hlt]; split <;> omega
    rw [if_neg hlt]
    have hs := sub_evb (x0 := bitsN (val l)) (x1 := bitsN (val m)) (by omega) (by rw [bval_bitsN, bval_bitsN]; omega)
    rw [bval_bitsN, bval_bitsN] at hs
    have hb := bits_lt' (val l - val m) (val l) (by omega)
    have hL := limbs_ev (l := bitsN (val l - val m)) (by omega)
    rw [bval_bitsN] at hL
    exact Ev.congr (fun k => if_neg hc) (Ev.bind hs (Ev.bind hL (Ev.now _)))
end Go.Proofs.YtaclkccgjpjdjaaGreat.Nb
end
section
/- The reference's Trim, limbs and short. -/
namespace Go.Proofs.YtaclkccgjpjdjaaGreat.Nb
open Go.RowKit Go.Proofs.YtaclkccgjpjdjaaGreatW.PrintWords Go.Proofs.YtaclkccgjpjdjaaGreatW.PrintMore Go.Proofs.YtaclkccgjpjdjaaGreat.N Go.Proofs.YtaclkccgjpjdjaaGreat.Nt
set_option linter.unusedVariables false
set_option linter.unusedSimpArgs false
theorem rtrim_l0 (l : List Int) (hlim : lim l) (hl : l.length < 1000000000000) : ∀ i : Nat, i ≤ l.length → val (l.take i) = val l →
    Ev (fun k => foliotref01_Trim.l0 k l (i : Int)) (ofN (val l)) := by
  intro i
  induction i with
  | zero =>
    intro _ hv
    refine Ev.step (f := fun _ => some (ofN (val l))) (fun k => ?_) (Ev.now _)
    simp only [foliotref01_Trim.l0]
    rw [if_neg (by omega), Option.bind_some, if_pos (by omega), if_pos (by omega), if_pos (by simp), ← hv]
    simp [val_nil, ofN_zero]
  | succ i ih =>
    intro hi hv
    have e : wrap64 (((i + 1 : Nat) : Int) - 1) = (i : Int) := by rw [w64 (by omega) (by omega)]; omega
    have hr : rd l (i : Int) = l[i]'(by omega) := by
      simp [rd, List.getD_eq_getElem?_getD, List.getElem?_eq_getElem (show i < l.length by omega)]
    have ht : l.take (i + 1) = l.take i ++ [l[i]'(by omega)] := List.take_succ_eq_append_getElem (by omega)
    by_cases h0 : l[i]'(by omega) = 0
    · refine Ev.step (f := fun k => foliotref01_Trim.l0 k l (i : Int)) (fun k => ?_) (ih (by omega) ?_)
      · simp only [foliotref01_Trim.l0]
        rw [e, if_pos (by omega), if_pos (by omega), if_pos (by omega), hr, if_pos h0]
      · rw [ht, h0, val_snoc_zero] at hv; exact hv
    · refine Ev.step (f := fun _ => some (ofN (val l))) (fun k => ?_) (Ev.now _)
      simp only [foliotref01_Trim.l0]
      rw [e, if_pos (by omega), if_pos (by omega), if_pos (by omega), hr, if_neg h0, Option.bind_some, if_pos (by omega), if_pos (by omega), Int.toNat_natCast, if_pos (by simp; omega), List.nil_append, ← hv,
        ofN_val (fun x hx => hlim x (List.mem_of_mem_take hx)) (by intro x hx; rw [ht, List.getLast?_concat] at hx; cases hx; exact h0)]
theorem rtrim_ev {l : List Int} (h : lim l) (hl : l.length < 1000000000000) : Ev (fun k => foliotref01_Trim.f k l) (ofN (val l)) :=
  rtrim_l0 l h hl l.length (Nat.le_refl _) (by rw [List.take_length])
end Go.Proofs.YtaclkccgjpjdjaaGreat.Nb
end
section
/- The reference's limbs and short. -/
namespace Go.Proofs.YtaclkccgjpjdjaaGreat.Nb
open Go.RowKit Go.Proofs.YtaclkccgjpjdjaaGreatW.PrintWords Go.Proofs.YtaclkccgjpjdjaaGreatW.PrintMore Go.Proofs.YtaclkccgjpjdjaaGreat.N Go.Proofs.YtaclkccgjpjdjaaGreat.Nt
set_option linter.unusedVariables false
set_option linter.unusedSimpArgs false
theorem rlimbs_ev {n : Nat} (h : n < 18446744073709551616) : Ev (fun k => foliotref01_limbs.f k (n : Int)) (ofN n) := by
  have hlim : lim [(n : Int) % 4294967296, (n : Int) / 4294967296 % 4294967296] := by
    intro x hx
    simp only [List.mem_cons, List.not_mem_nil, or_false] at hx
    rcases hx with rfl | rfl <;> omega
  have e := rtrim_ev hlim (by simp)
  rw [show val [(n : Int) % 4294967296, (n : Int) / 4294967296 % 4294967296] = n by simp only [val_cons, val_nil]; omega] at e
  unfold foliotref01_limbs.f
  exact Ev.bind e (Ev.now _)
theorem short_at {l : List Int} (h : lim l) : foliotref01_short.f l = some (rd l 0, decide (l.length ≤ 1)) := by
  unfold foliotref01_short.f
  cases l with
  | nil => rfl
  | cons x l =>
    have hx := h x (List.mem_cons_self ..)
    rw [if_neg (by simp only [List.length_cons]; omega), if_pos (by simp only [List.length_cons]; omega), show rd (x :: l) 0 = x from rfl, u64 hx.1 (by omega)]
    congr 2
    rw [Bool.eq_iff_iff, beq_iff_eq, decide_eq_true_iff]; simp only [List.length_cons]; omega
end Go.Proofs.YtaclkccgjpjdjaaGreat.Nb
end
section
/- The reference's Add as numbers. -/
namespace Go.Proofs.YtaclkccgjpjdjaaGreat.Nb
open Go.RowKit Go.Proofs.YtaclkccgjpjdjaaGreatW.PrintWords Go.Proofs.YtaclkccgjpjdjaaGreatW.PrintMore Go.Proofs.YtaclkccgjpjdjaaGreat.N Go.Proofs.YtaclkccgjpjdjaaGreat.Nt
set_option linter.unusedVariables false
set_option linter.unusedSimpArgs false
theorem val_short {l : List Int} (h : lim l) (hs : l.length ≤ 1) : ∃ n : Nat, n < 4294967296 ∧ rd l 0 = (n : Int) ∧ val l = n := by
  match l, hs with
  | [], _ => exact ⟨0, by omega, rfl, rfl⟩
  | [x], _ =>
    have hx := h x (List.mem_cons_self ..)
    exact ⟨x.toNat, by omega, by show x = _; omega, by simp [val_cons, val_nil]⟩
theorem radd_j {l m : List Int} (hl : l.length ≤ 1000000000) (hm : m.length ≤ 1000000000) (l1 : lim l) (m1 : lim m) (x y : Int) :
    Ev (fun k => foliotref01_Add.j0 k l m x y false) (ofN (val l + val m)) := by
  have e1 := lenb l1
  have e2 := lenb m1
  have ha := add_ev (x0 := bitsN (val l)) (x1 := bitsN (val m)) (by omega) (by omega)
  rw [bval_bitsN, bval_bitsN] at ha
  have hn : (bitsN (val l + val m)).length ≤ 32 * (l.length + m.length) + 1 := by
    refine len_bitsN_le ?_
    have f1 := Nat.lt_of_lt_of_le (lt_len_bitsN (val l)) (Nat.pow_le_pow_right (n := 2) (by omega) (show (bitsN (val l)).length ≤ 32 * (l.length + m.length) by omega))
    have f2 := Nat.lt_of_lt_of_le (lt_len_bitsN (val m)) (Nat.pow_le_pow_right (n := 2) (by omega) (show (bitsN (val m)).length ≤ 32 * (l.length + m.length) by omega))
    rw [Nat.pow_succ]; omega
  have hL := limbs_ev (l := bitsN (val l + val m)) (by omega)
  rw [bval_bitsN] at hL
  refine Ev.step (f := fun k => (foliotref01_Of.f k l).bind fun a => (foliotref01_Of.f k m).bind fun b => (foliotref01_add.f k a b).bind fun c => (foliotref01_Limbs.f k c).bind fun d => some d) (fun k => ?_) (Ev.bind (of_ev (by omega) l1) (Ev.bind (of_ev (by omega) m1) (Ev.bind ha (Ev.bind hL (Ev.now _)))))
  simp only [foliotref01_Add.j0]
  rw [if_neg (by simp)]
theorem radd_ev {l m : List Int} (hl : l.length ≤ 1000000000) (hm : m.length ≤ 1000000000) (l1 : lim l) (m1 : lim m) :
    Ev (fun k => foliotref01_Add.f k l m) (ofN (val l + val m)) := by
  unfold foliotref01_Add.f
  rw [short_at l1, short_at m1]
  simp only [Option.bind_some]
  by_cases h1 : l.length ≤ 1
  · by_cases h2 : m.length ≤ 1
    · obtain ⟨a, ha, ea, va⟩ := val_short l1 h1
      obtain ⟨b, hb, eb, vb⟩ := val_short m1 h2
      refine Ev.congr (f := fun k => foliotref01_Add.j0 k l m (rd l 0) (rd m 0) true) (fun k => ?_) ?_
      · rw [if_pos (decide_eq_true h1), decide_eq_true h2]
      · rw [va, vb, ea, eb]
        refine Ev.step (fun k => ?_) (Ev.bind (rlimbs_ev (n := a + b) (by omega)) (Ev.now _))
        simp only [foliotref01_Add.j0]
        rw [if_pos trivial, u64 (by omega) (by omega)]; rfl
    · refine Ev.congr (fun k => ?_) (radd_j hl hm l1 m1 (rd l 0) (rd m 0))
      rw [if_pos (decide_eq_true h1), decide_eq_false h2]
  · refine Ev.congr (fun k => ?_) (radd_j hl hm l1 m1 (rd l 0) (rd m 0))
    rw [if_neg (by simp; omega)]
end Go.Proofs.YtaclkccgjpjdjaaGreat.Nb
end
section
/- The reference's Mul as numbers. -/
namespace Go.Proofs.YtaclkccgjpjdjaaGreat.Nb
open Go.RowKit Go.Proofs.YtaclkccgjpjdjaaGreatW.PrintWords Go.Proofs.YtaclkccgjpjdjaaGreatW.PrintMore Go.Proofs.YtaclkccgjpjdjaaGreat.N Go.Proofs.YtaclkccgjpjdjaaGreat.Nt
set_option linter.unusedVariables false
set_option linter.unusedSimpArgs false
theorem rmul_l0 (x0 x1 : List Bool) (h0 : x0.length < 40000000000) (h1 : x1.length < 40000000000) : ∀ (i : Nat) (y : List Bool), i ≤ x1.length →
    y.length + i ≤ x0.length + x1.length → bval y = bval x0 * (bval x1 / 2 ^ i) →
    Ev (fun k => foliotref01_Mul.l0 k x0 x1 y ((i : Int) - 1)) (ofN (bval x0 * bval x1)) := by
  intro i
  induction i with
  | zero =>
    intro y _ hy hv
    rw [Nat.pow_zero, Nat.div_one] at hv
    have h := limbs_ev (l := y) (by omega)
    rw [hv] at h
    refine Ev.step (f := fun k => (foliotref01_Limbs.f k y).bind fun t => some t) (fun k => ?_) (Ev.bind h (Ev.now _))
    simp only [foliotref01_Mul.l0]
    rw [if_neg (by omega)]
  | succ i ih =>
    intro y hi hy hv
    have e : (((i + 1 : Nat) : Int) - 1) = (i : Int) := by omega
    have hg := getD_bit x1 i
    have hB : bval x1 / 2 ^ i = 2 * (bval x1 / 2 ^ (i + 1)) + bval x1 / 2 ^ i % 2 := by
      rw [Nat.pow_succ, ← Nat.div_div_eq_div_mul]; omega
    have hf : bval ([false] ++ y) = 2 * bval y := by simp [bval_cons]
    rw [e]
    by_cases hb : bval x1 / 2 ^ i % 2 = 1
    · have hs : 2 * bval y + bval x0 = bval x0 * (bval x1 / 2 ^ i) := by
        rw [hB, hb, hv, Nat.mul_add, Nat.mul_one, ← Nat.mul_assoc, Nat.mul_comm 2, Nat.mul_assoc]
      have ha := add_ev (x0 := [false] ++ y) (x1 := x0) (by simp; omega) (by omega)
      rw [hf, hs] at ha
      have hl : (bitsN (bval x0 * (bval x1 / 2 ^ i))).length ≤ x0.length + (x1.length - i) := by
        refine len_bitsN_le ?_
        rw [Nat.pow_add]
        refine Nat.mul_lt_mul'' (bval_lt x0) ?_
        apply Nat.div_lt_of_lt_mul
        rw [← Nat.pow_add, show i + (x1.length - i) = x1.length by omega]
        exact bval_lt x1
      refine Ev.step (f := fun k => (foliotref01_add.f k ([false] ++ y) x0).bind fun t => foliotref01_Mul.l0 k x0 x1 t ((i : Int) - 1)) (fun k => ?_) (Ev.bind ha (ih _ (by omega) (by omega) (bval_bitsN _)))
      simp only [foliotref01_Mul.l0]
      rw [if_pos (by omega), Option.bind_some, if_pos (by simp; omega), Option.bind_some, if_pos (by omega), if_pos (by omega), rdOf_nat, hg, if_pos (by rw [hb]; rfl), w64 (by omega) (by omega)]
    · have hb0 : bval x1 / 2 ^ i % 2 = 0 := by omega
      refine Ev.step (f := fun k => foliotref01_Mul.l0 k x0 x1 ([false] ++ y) ((i : Int) - 1)) (fun k => ?_) (ih _ (by omega) (by simp; omega) ?_)
      · simp only [foliotref01_Mul.l0]
        rw [if_pos (by omega), Option.bind_some, if_pos (by simp; omega), Option.bind_some, if_pos (by omega), if_pos (by omega), rdOf_nat, hg, if_neg (by rw [hb0]; decide), w64 (by omega) (by omega)]
      · rw [hf, hv, hB, hb0, ← Nat.mul_assoc, Nat.mul_comm 2, Nat.mul_assoc]; rfl
theorem rmul_j {l m : List Int} (hl : l.length ≤ 1000000000) (hm : m.length ≤ 1000000000) (l1 : lim l) (m1 : lim m) (x y : Int) :
    Ev (fun k => foliotref01_Mul.j0 k l m x y false) (ofN (val l * val m)) := by
  have e1 := lenb l1
  have e2 := lenb m1
  have h := rmul_l0 (bitsN (val l)) (bitsN (val m)) (by omega) (by omega) (bitsN (val m)).length [] (Nat.le_refl _) (by simp)
    (by rw [Nat.div_eq_of_lt (bval_lt _)]; simp [bval_nil])
  rw [bval_bitsN, bval_bitsN] at h
  refine Ev.step (f := fun k => (foliotref01_Of.f k l).bind fun a => (foliotref01_Of.f k m).bind fun b => foliotref01_Mul.l0 k a b [] (wrap64 ((b.length : Int) - 1))) (fun k => ?_)
    (Ev.bind (of_ev (by omega) l1) (Ev.bind (of_ev (by omega) m1) (Ev.congr (fun k => ?_) h)))
  · simp only [foliotref01_Mul.j0]
    rw [if_neg (by simp)]
  · rw [w64 (by omega) (by omega)]
theorem rmul_ev {l m : List Int} (hl : l.length ≤ 1000000000) (hm : m.length ≤ 1000000000) (l1 : lim l) (m1 : lim m) :
    Ev (fun k => foliotref01_Mul.f k l m) (ofN (val l * val m)) := by
  unfold foliotref01_Mul.f
  rw [short_at l1, short_at m1]
  simp only [Option.bind_some]
  by_cases h1 : l.length ≤ 1
  · by_cases h2 : m.length ≤ 1
    · obtain ⟨a, ha, ea, va⟩ := val_short l1 h1
      obtain ⟨b, hb, eb, vb⟩ := val_short m1 h2
      have hab : a * b < 18446744073709551616 := by
        have := Nat.mul_le_mul (show a ≤ 4294967295 by omega) (show b ≤ 4294967295 by omega)
        omega
      refine Ev.congr (f := fun k => foliotref01_Mul.j0 k l m (rd l 0) (rd m 0) true) (fun k => ?_) ?_
      · rw [if_pos (decide_eq_true h1), decide_eq_true h2]
      · rw [va, vb, ea, eb]
        refine Ev.step (fun k => ?_) (Ev.bind (rlimbs_ev hab) (Ev.now _))
        simp only [foliotref01_Mul.j0]
        rw [if_pos trivial, show (a : Int) * (b : Int) = ((a * b : Nat) : Int) from (Int.natCast_mul a b).symm, u64 (by omega) (by omega)]
    · refine Ev.congr (fun k => ?_) (rmul_j hl hm l1 m1 (rd l 0) (rd m 0))
      rw [if_pos (decide_eq_true h1), decide_eq_false h2]
  · refine Ev.congr (fun k => ?_) (rmul_j hl hm l1 m1 (rd l 0) (rd m 0))
    rw [if_neg (by simp; omega)]
end Go.Proofs.YtaclkccgjpjdjaaGreat.Nb
end
section
/- The reference's division of rows of bits, Bits, Div and Gcd. -/
namespace Go.Proofs.YtaclkccgjpjdjaaGreat.Nb
open Go.RowKit Go.Proofs.YtaclkccgjpjdjaaGreatW.PrintWords Go.Proofs.YtaclkccgjpjdjaaGreatW.PrintMore Go.Proofs.YtaclkccgjpjdjaaGreat.N Go.Proofs.YtaclkccgjpjdjaaGreat.Nt
set_option linter.unusedVariables false
set_option linter.unusedSimpArgs false
theorem two_step {a q r B bit : Nat} (ha : a = B * q + r) (hr : r < B) (hbit : bit ≤ 1) :
    (2 * r + bit < B → (2 * a + bit) / B = 2 * q ∧ (2 * a + bit) % B = 2 * r + bit) ∧ (¬ 2 * r + bit < B → (2 * a + bit) / B = 2 * q + 1 ∧ (2 * a + bit) % B = 2 * r + bit - B) := by
  have hB : 0 < B := by omega
  have e : 2 * a + bit = B * (2 * q) + (2 * r + bit) := by
    rw [ha, Nat.mul_add, ← Nat.mul_assoc, Nat.mul_comm 2 B, Nat.mul_assoc]; omega
  constructor
  · intro h
    rw [e, Nat.mul_add_div hB, Nat.mul_add_mod, Nat.div_eq_of_lt h, Nat.mod_eq_of_lt h]; simp
  · intro h
    have e' : 2 * a + bit = B * (2 * q + 1) + (2 * r + bit - B) := by rw [e, Nat.mul_add, Nat.mul_one]; omega
    have h2 : 2 * r + bit - B < B := by omega
    rw [e', Nat.mul_add_div hB, Nat.mul_add_mod, Nat.div_eq_of_lt h2, Nat.mod_eq_of_lt h2]; simp
theorem rdiv_l0 (x0 x1 : List Bool) (h0 : x0.length < 40000000000) (h1 : x1.length < 40000000000) (hB : bval x1 ≠ 0) : ∀ (i : Nat) (hi_ : List Bool) (r : List Bool), i + hi_.length = x0.length →
    bval hi_ = bval x0 / 2 ^ i / bval x1 → r = bitsN (bval x0 / 2 ^ i % bval x1) →
    Ev (fun k => foliotref01_div.l0 k x0 x1 (List.replicate i false ++ hi_) r ((i : Int) - 1)) (bitsN (bval x0 / bval x1), bitsN (bval x0 % bval x1)) := by
  intro i
  induction i with
  | zero =>
    intro q r hl hq hr
    rw [Nat.pow_zero, Nat.div_one] at hq hr
    have h := cut_ev (l := q) (by omega)
    rw [hq] at h
    subst hr
    refine Ev.step (f := fun k => (foliotref01_cut.f k q).bind fun t => some (t, bitsN (bval x0 % bval x1))) (fun k => ?_) (Ev.bind h (Ev.now _))
    simp only [foliotref01_div.l0]
    rw [if_neg (by omega)]; rfl
  | succ i ih =>
    intro q r hl hq hr
    subst hr
    have e : (((i + 1 : Nat) : Int) - 1) = (i : Int) := by omega
    rw [e]
    have hg := getD_bit x0 i
    have ht := bit_toNat (bval x0) i
    have ha : bval x0 / 2 ^ i = 2 * (bval x0 / 2 ^ (i + 1)) + bval x0 / 2 ^ i % 2 := by
      rw [Nat.pow_succ, ← Nat.div_div_eq_div_mul]; omega
    have hbit : bval x0 / 2 ^ i % 2 ≤ 1 := by omega
    have ts := two_step (Nat.div_add_mod (bval x0 / 2 ^ (i + 1)) (bval x1)).symm (Nat.mod_lt _ (by omega)) hbit
    rw [← ha] at ts
    have hmod : bval x0 / 2 ^ (i + 1) % bval x1 < bval x1 := Nat.mod_lt _ (by omega)
    have hrl : (bitsN (bval x0 / 2 ^ (i + 1) % bval x1)).length ≤ x1.length := len_bitsN_le (Nat.lt_trans hmod (bval_lt x1))
    have hy : bval ([x0.getD i false] ++ bitsN (bval x0 / 2 ^ (i + 1) % bval x1)) = 2 * (bval x0 / 2 ^ (i + 1) % bval x1) + bval x0 / 2 ^ i % 2 := by
      rw [List.cons_append, List.nil_append, bval_cons, bval_bitsN, hg, ht]; omega
    have hc := cut_ev (l := [x0.getD i false] ++ bitsN (bval x0 / 2 ^ (i + 1) % bval x1)) (by simp; omega)
    rw [hy] at hc
    have hvl : (bitsN (2 * (bval x0 / 2 ^ (i + 1) % bval x1) + bval x0 / 2 ^ i % 2)).length ≤ x1.length + 1 := by
      refine len_bitsN_le ?_
      have hb1 := bval_lt x1
      have e2 : 2 ^ (x1.length + 1) = 2 * 2 ^ x1.length := by rw [Nat.pow_succ, Nat.mul_comm]
      rw [e2]
      generalize bval x0 / 2 ^ (i + 1) % bval x1 = Z at *
      omega
    have hm := cmp_ev (a := bitsN (2 * (bval x0 / 2 ^ (i + 1) % bval x1) + bval x0 / 2 ^ i % 2)) (b := x1) (by omega) (by omega)
    rw [bval_bitsN] at hm
    by_cases hlt : 2 * (bval x0 / 2 ^ (i + 1) % bval x1) + bval x0 / 2 ^ i % 2 < bval x1
    · have hcm : ¬ cmp3 (2 * (bval x0 / 2 ^ (i + 1) % bval x1) + bval x0 / 2 ^ i % 2) (bval x1) ≥ 0 := by unfold cmp3; rw [if_pos hlt]; omega
      obtain ⟨d1, d2⟩ := ts.1 hlt
      have hk := ih (false :: q) _ (by simp; omega) (by rw [bval_cons, hq, d1]; simp) rfl
      rw [d2, show List.replicate i false ++ false :: q = List.replicate (i + 1) false ++ q by rw [List.replicate_succ', List.append_assoc]; rfl] at hk
      refine Ev.step (f := fun k => (foliotref01_cut.f k ([x0.getD i false] ++ bitsN (bval x0 / 2 ^ (i + 1) % bval x1))).bind fun t => (foliotref01_cmp.f k t x1).bind fun c =>
        if c ≥ 0 then (foliotref01_sub.f k t x1).bind fun u => (if (i : Int) < ((List.replicate (i + 1) false ++ q).length : Int) then (foliotref01_div.l0 k x0 x1 ((List.replicate (i + 1) false ++ q).set (i : Int).toNat true) u ((i : Int) - 1)) else none)
        else foliotref01_div.l0 k x0 x1 (List.replicate (i + 1) false ++ q) t ((i : Int) - 1)) (fun k => ?_) (Ev.bind hc (Ev.bind hm (Ev.congr (fun k => if_neg hcm) hk)))
      simp only [foliotref01_div.l0]
      rw [if_pos (by omega), if_pos (by omega), if_pos (by omega), Option.bind_some, if_pos (by simp; omega), rdOf_nat, w64 (by omega) (by omega)]
    · have hcm : cmp3 (2 * (bval x0 / 2 ^ (i + 1) % bval x1) + bval x0 / 2 ^ i % 2) (bval x1) ≥ 0 := by unfold cmp3; rw [if_neg hlt]; split <;> omega
      obtain ⟨d1, d2⟩ := ts.2 hlt
      have hk := ih (true :: q) _ (by simp; omega) (by rw [bval_cons, hq, d1]; simp; omega) rfl
      have hset : (List.replicate (i + 1) false ++ q).set (i : Int).toNat true = List.replicate i false ++ true :: q := by
        rw [List.replicate_succ', List.append_assoc, Int.toNat_natCast, List.set_append_right _ _ (by simp)]; simp
      have hs := sub_evb (x0 := bitsN (2 * (bval x0 / 2 ^ (i + 1) % bval x1) + bval x0 / 2 ^ i % 2)) (x1 := x1) (by omega) (by rw [bval_bitsN]; omega)
      rw [bval_bitsN] at hs
      rw [d2, ← hset] at hk
      refine Ev.step (f := fun k => (foliotref01_cut.f k ([x0.getD i false] ++ bitsN (bval x0 / 2 ^ (i + 1) % bval x1))).bind fun t => (foliotref01_cmp.f k t x1).bind fun c =>
        if c ≥ 0 then (foliotref01_sub.f k t x1).bind fun u => (if (i : Int) < ((List.replicate (i + 1) false ++ q).length : Int) then (foliotref01_div.l0 k x0 x1 ((List.replicate (i + 1) false ++ q).set (i : Int).toNat true) u ((i : Int) - 1)) else none)
        else foliotref01_div.l0 k x0 x1 (List.replicate (i + 1) false ++ q) t ((i : Int) - 1)) (fun k => ?_) (Ev.bind hc (Ev.bind hm (Ev.congr (fun k => if_pos hcm) (Ev.bind hs (Ev.congr (fun k => if_pos (by simp; omega)) hk)))))
      simp only [foliotref01_div.l0]
      rw [if_pos (by omega), if_pos (by omega), if_pos (by omega), Option.bind_some, if_pos (by simp; omega), rdOf_nat, w64 (by omega) (by omega)]
theorem rdiv_ev {x0 x1 : List Bool} (h0 : x0.length < 40000000000) (h1 : x1.length < 40000000000) (hB : bval x1 ≠ 0) :
    Ev (fun k => foliotref01_div.f k x0 x1) (bitsN (bval x0 / bval x1), bitsN (bval x0 % bval x1)) := by
  have hz : bval x0 / 2 ^ x0.length = 0 := Nat.div_eq_of_lt (bval_lt x0)
  have h := rdiv_l0 x0 x1 h0 h1 hB x0.length [] [] rfl (by rw [hz]; simp [bval_nil]) (by rw [hz]; simp [bitsN_zero])
  rw [List.append_nil] at h
  unfold foliotref01_div.f
  refine Ev.congr (fun k => ?_) h
  rw [if_pos (by omega), if_pos (by omega), Int.toNat_natCast, w64 (by omega) (by omega)]
def divided (A B : Nat) : List Int × List Int × Int := if B = 0 then ([], [], 3) else (ofN (A / B), ofN (A % B), 0)
theorem len_bits_le (m n : Nat) (h : m ≤ n) : (bitsN m).length ≤ (bitsN n).length := len_bitsN_le (Nat.lt_of_le_of_lt h (lt_len_bitsN n))
theorem bitsN_eq_nil {n : Nat} : (bitsN n).length = 0 ↔ n = 0 := by
  constructor
  · intro h
    have := lt_len_bitsN n
    rw [h] at this
    omega
  · intro h; subst h; rfl
theorem rdivN_ev {A B : Nat} (h0 : (bitsN A).length < 40000000000) (h1 : (bitsN B).length < 40000000000) (hB : B ≠ 0) :
    Ev (fun k => foliotref01_div.f k (bitsN A) (bitsN B)) (bitsN (A / B), bitsN (A % B)) := by
  have h := rdiv_ev h0 h1 (by rw [bval_bitsN]; exact hB)
  rw [bval_bitsN, bval_bitsN] at h
  exact h
theorem limbsN_ev {A : Nat} (h : (bitsN A).length < 100000000000) : Ev (fun k => foliotref01_Limbs.f k (bitsN A)) (ofN A) := by
  have h2 := limbs_ev h
  rw [bval_bitsN] at h2
  exact h2
theorem rdivide_ev {l m : List Int} (hl : l.length ≤ 1000000000) (hm : m.length ≤ 1000000000) (l1 : lim l) (m1 : lim m) :
    Ev (fun k => foliotref01_Div.f k l m) (divided (val l) (val m)) := by
  have e1 := lenb l1
  have e2 := lenb m1
  unfold foliotref01_Div.f divided
  by_cases h : val m = 0
  · rw [if_pos h]
    refine Ev.bind (of_ev (by omega) l1) (Ev.bind (of_ev (by omega) m1) (Ev.congr (fun k => ?_) (Ev.now _)))
    rw [if_pos (by rw [h]; rfl)]
  · rw [if_neg h]
    have q1 := len_bits_le (val l / val m) (val l) (Nat.div_le_self _ _)
    have q2 := len_bits_le (val l % val m) (val l) (Nat.mod_le _ _)
    have d1 := rdivN_ev (A := val l) (B := val m) (by omega) (by omega) h
    have d2 := limbsN_ev (A := val l / val m) (by omega)
    have d3 := limbsN_ev (A := val l % val m) (by omega)
    refine Ev.bind (of_ev (by omega) l1) (Ev.bind (of_ev (by omega) m1) (Ev.congr (f := fun k => (foliotref01_div.f k (bitsN (val l)) (bitsN (val m))).bind fun bt => (foliotref01_Limbs.f k bt.1).bind fun t1 => (foliotref01_Limbs.f k bt.2).bind fun t2 => some (t1, t2, 0)) (fun k => ?_) (Ev.bind d1 (Ev.bind d2 (Ev.bind (f := fun k t2 => some (ofN (val l / val m), t2, 0)) d3 (Ev.now _))))))
    rw [if_neg]
    intro h2
    exact h (bitsN_eq_nil.1 (by omega))
theorem rgcd_l0 : ∀ (d A B : Nat), B ≤ d → (bitsN A).length < 40000000000 → (bitsN B).length < 40000000000 → Ev (fun k => foliotref01_Gcd.l0 k (bitsN A) (bitsN B)) (ofN (Nat.gcd A B)) := by
  intro d
  induction d with
  | zero =>
    intro A B hB hA _
    obtain rfl : B = 0 := by omega
    refine Ev.step (f := fun k => (foliotref01_Limbs.f k (bitsN A)).bind fun t => some t) (fun k => ?_) ?_
    · simp only [foliotref01_Gcd.l0]
      rw [if_neg (by rw [bitsN_zero]; simp)]
    · rw [Nat.gcd_zero_right]
      exact Ev.bind (limbsN_ev (by omega)) (Ev.now _)
  | succ d ih =>
    intro A B hB hA hB2
    by_cases h : B = 0
    · subst h
      refine Ev.step (f := fun k => (foliotref01_Limbs.f k (bitsN A)).bind fun t => some t) (fun k => ?_) ?_
      · simp only [foliotref01_Gcd.l0]
        rw [if_neg (by rw [bitsN_zero]; simp)]
      · rw [Nat.gcd_zero_right]
        exact Ev.bind (limbsN_ev (by omega)) (Ev.now _)
    · have hm := Nat.mod_lt A (Nat.pos_of_ne_zero h)
      have q2 := len_bits_le (A % B) B (by omega)
      have hne : ¬ (bitsN B).length = 0 := fun e => h (bitsN_eq_nil.1 e)
      refine Ev.step (f := fun k => (foliotref01_div.f k (bitsN A) (bitsN B)).bind fun t => foliotref01_Gcd.l0 k (bitsN B) t.2) (fun k => ?_) ?_
      · simp only [foliotref01_Gcd.l0]
        rw [if_pos (by omega)]
      · rw [show Nat.gcd A B = Nat.gcd B (A % B) by rw [Nat.gcd_comm B, ← Nat.gcd_rec, Nat.gcd_comm]]
        exact Ev.bind (rdivN_ev hA hB2 h) (ih B (A % B) (by omega) hB2 (by omega))
theorem rgcd_ev {l m : List Int} (hl : l.length ≤ 1000000000) (hm : m.length ≤ 1000000000) (l1 : lim l) (m1 : lim m) :
    Ev (fun k => foliotref01_Gcd.f k l m) (ofN (Nat.gcd (val l) (val m))) := by
  have e1 := lenb l1
  have e2 := lenb m1
  unfold foliotref01_Gcd.f
  exact Ev.bind (of_ev (by omega) l1) (Ev.bind (of_ev (by omega) m1) (rgcd_l0 _ _ _ (Nat.le_refl _) (by omega) (by omega)))
end Go.Proofs.YtaclkccgjpjdjaaGreat.Nb
end
section
/- The program's Bits, and the reference's Parse, as numbers. -/
namespace Go.Proofs.YtaclkccgjpjdjaaGreat.Nb
open Go.RowKit Go.Proofs.YtaclkccgjpjdjaaGreatW.PrintWords Go.Proofs.YtaclkccgjpjdjaaGreatW.PrintMore Go.Proofs.YtaclkccgjpjdjaaGreat.N Go.Proofs.YtaclkccgjpjdjaaGreat.Nt
set_option linter.unusedVariables false
set_option linter.unusedSimpArgs false
theorem len_bits_of {n L : Nat} (h1 : 2 ^ L ≤ n) (h2 : n < 2 ^ (L + 1)) : (bitsN n).length = L + 1 := by
  have a := len_bitsN_le h2
  have b := lt_len_bitsN n
  by_cases h : (bitsN n).length ≤ L
  · have := Nat.pow_le_pow_right (n := 2) (by omega) h
    omega
  · omega
theorem pbits_ev {l : List Int} (hl : l.length ≤ 8796093022208) (l1 : lim l) : Ev (fun k => nat_Bits.f k l) ((bitsN (val l)).length : Int) := by
  unfold nat_Bits.f
  have hlen := len_val_le l1
  refine Ev.bind (Nt.cut_ev l1 (by omega)) ?_
  by_cases h0 : val l = 0
  · rw [h0]; exact Ev.congr (f := fun _ => some 0) (fun k => by rw [if_pos (by rw [ofN_zero]; rfl)]) (Ev.now _)
  · have hne : ofN (val l) ≠ [] := fun e => h0 (ofN_nil.1 e)
    have hpos := List.length_pos_iff.2 hne
    obtain ⟨r, y, hr, hrl⟩ := snoc_of (l := ofN (val l)) (n := (ofN (val l)).length - 1) (by omega)
    obtain ⟨y0, y1, hlr, e⟩ := last_ofN hr
    obtain ⟨n, b0, b1, b2, b3, b4⟩ := len32 y0 y1
    have hyy : ((y.toNat : Nat) : Int) = y := by omega
    have hrv := val_lt hlr
    have hP : 4294967296 ^ r.length = 2 ^ (32 * r.length) := by rw [show (4294967296 : Nat) = 2 ^ 32 from rfl, ← Nat.pow_mul]
    have c3 : 2 ^ (n - 1) ≤ y.toNat := by
      have : ((2 ^ (n - 1) : Nat) : Int) ≤ (y.toNat : Int) := by rw [hyy]; exact_mod_cast b3
      omega
    have c4 : y.toNat + 1 ≤ 2 ^ n := by
      have : (y.toNat : Int) < ((2 ^ n : Nat) : Int) := by rw [hyy]; exact_mod_cast b4
      omega
    have hL : (bitsN (val l)).length = 32 * r.length + (n - 1) + 1 := by
      apply len_bits_of
      · rw [Nat.pow_add, ← hP, e]
        exact Nat.le_trans (Nat.mul_le_mul_left _ c3) (Nat.le_add_left _ _)
      · rw [show 32 * r.length + (n - 1) + 1 = 32 * r.length + n by omega, Nat.pow_add, ← hP, e]
        have := Nat.mul_le_mul_left (4294967296 ^ r.length) c4
        rw [Nat.mul_add, Nat.mul_one] at this
        omega
    have hlr2 : (ofN (val l)).length = r.length + 1 := by rw [hr]; simp
    refine Ev.congr (f := fun _ => some (((bitsN (val l)).length : Nat) : Int)) (fun k => ?_) (Ev.now _)
    rw [hL, hlr2]
    have e1 : wrap64 (((r.length + 1 : Nat) : Int) - 1) = (r.length : Int) := by rw [w64 (by omega) (by omega)]; omega
    rw [if_neg (by omega), e1, if_pos (by omega), if_pos (by omega), hr, rd_app _ _ _ _ rfl, b0]
    simp only [Option.bind_some]
    rw [w64 (x := 32 * (r.length : Int)) (by omega) (by omega), w64 (by omega) (by omega)]
    congr 1
    omega
end Go.Proofs.YtaclkccgjpjdjaaGreat.Nb
end
section
/- The reference's Print tells a number's digits. -/
namespace Go.Proofs.YtaclkccgjpjdjaaGreat.Nb
open Go.RowKit Go.Proofs.YtaclkccgjpjdjaaGreatW.PrintWords Go.Proofs.YtaclkccgjpjdjaaGreatW.PrintMore Go.Proofs.YtaclkccgjpjdjaaGreat.N Go.Proofs.YtaclkccgjpjdjaaGreat.Nt
set_option linter.unusedVariables false
set_option linter.unusedSimpArgs false
theorem nums_cons (x : Int) (l : List Int) : strOfNums [x] ++ strOfNums l = strOfNums (x :: l) := by
  apply ByteArray.ext
  simp [strOfNums, ByteArray.data_append]
theorem nums_nil : strOfNums [] = (⟨#[]⟩ : ByteArray) := rfl
theorem nums_eq_nil (l : List Int) : (strOfNums l).toList = ([] : List UInt8) ↔ l = [] := by
  rw [toList_nil, strOfNums_size]; exact List.length_eq_zero_iff
theorem rprint_s0 : ∀ (N n : Nat) (D : List Int), n ≤ N → n < 4294967296 → D ≠ [] → D.length + (low n).length < 4000000000000000000 →
    Ev (fun k => foliotref01_Print.l0 k (n : Int) (strOfNums D)) (strOfNums ((low n).reverse ++ D)) := by
  intro N
  induction N with
  | zero =>
    intro n D hn _ hD _
    obtain rfl : n = 0 := by omega
    refine Ev.step (f := fun _ => some (strOfNums ((low 0).reverse ++ D))) (fun k => ?_) (Ev.now _)
    simp only [foliotref01_Print.l0]
    rw [if_neg (by rw [nums_eq_nil]; exact hD), if_neg (by omega)]
    rfl
  | succ N ih =>
    intro n D hn hb hD hl
    by_cases h0 : n = 0
    · subst h0
      exact ih 0 D (by omega) hb hD hl
    · have el := low_pos h0
      rw [el] at hl
      simp only [List.length_cons] at hl
      have h := ih (n / 10) ((48 + ((n % 10 : Nat) : Int)) :: D) (by omega) (by omega) (by simp) (by simp; omega)
      rw [el, List.reverse_cons, List.append_assoc, List.singleton_append]
      refine Ev.step (fun k => ?_) h
      simp only [foliotref01_Print.l0, Option.bind_some]
      have e1 : IntKind.u64.wrap (48 + Int.tmod (n : Int) 10) % 256 = 48 + ((n % 10 : Nat) : Int) := by
        rw [Int.tmod_eq_emod_of_nonneg (by omega), u64 (by omega) (by omega)]; omega
      have e2 : IntKind.u64.wrap (Int.tdiv (n : Int) 10) = ((n / 10 : Nat) : Int) := by
        rw [Int.tdiv_eq_ediv_of_nonneg (by omega), u64 (by omega) (by omega)]; omega
      rw [if_neg (by rw [nums_eq_nil]; exact hD), if_pos (by omega), e1, e2, if_pos (by rw [strOfNums_size, strOfNums_size]; simp; omega), nums_cons]
theorem rprint_short {n : Nat} (hb : n < 4294967296) : Ev (fun k => foliotref01_Print.l0 k (n : Int) (⟨#[]⟩ : ByteArray)) (text n) := by
  have hl := low_len 10 (n / 10) (by omega)
  have h := rprint_s0 (n / 10) (n / 10) [48 + ((n % 10 : Nat) : Int)] (Nat.le_refl _) (by omega) (by simp) (by simp; omega)
  refine Ev.step (f := fun k => foliotref01_Print.l0 k ((n / 10 : Nat) : Int) (strOfNums [48 + ((n % 10 : Nat) : Int)])) (fun k => ?_) ?_
  · simp only [foliotref01_Print.l0, Option.bind_some]
    have e1 : IntKind.u64.wrap (48 + Int.tmod (n : Int) 10) % 256 = 48 + ((n % 10 : Nat) : Int) := by
      rw [Int.tmod_eq_emod_of_nonneg (by omega), u64 (by omega) (by omega)]; omega
    have e2 : IntKind.u64.wrap (Int.tdiv (n : Int) 10) = ((n / 10 : Nat) : Int) := by
      rw [Int.tdiv_eq_ediv_of_nonneg (by omega), u64 (by omega) (by omega)]; omega
    rw [← nums_nil, if_pos ((nums_eq_nil []).2 rfl), e1, e2, if_pos (by rw [strOfNums_size, strOfNums_size]; simp), nums_cons]
  · have e : text n = strOfNums ((low (n / 10)).reverse ++ [48 + ((n % 10 : Nat) : Int)]) := by
      unfold text told
      by_cases h0 : n = 0
      · subst h0; rfl
      · rw [if_neg (fun e => h0 (low_nil.1 e)), low_pos h0, List.reverse_cons]
    rw [e]; exact h
theorem rprint_l2 {r x7 x9 : List Bool} {s : ByteArray} (hr : r.length < 1000) (hv : bval r < 10) (R : ByteArray)
    (hR : Ev (fun k => (some (([48 + (bval r : Int)] : List Int) : List Int)).bind fun y => if (strOfNums y).size + s.size ≤ 9223372036854775807 then foliotref01_Print.l1 k x9 x7 (strOfNums y ++ s) else none) R) :
    ∀ i : Nat, i ≤ r.length → Ev (fun k => foliotref01_Print.l2 k x7 s x9 r ((bval r / 2 ^ i : Nat) : Int) ((i : Int) - 1)) R := by
  intro i
  induction i with
  | zero =>
    intro _
    refine Ev.step (fun k => ?_) hR
    simp only [foliotref01_Print.l2]
    rw [if_neg (by omega), Nat.pow_zero, Nat.div_one, w64 (by omega) (by omega)]
    congr 4
    omega
  | succ i ih =>
    intro hi
    have h := ih (by omega)
    have hg := getD_bit r i
    have e : (((i + 1 : Nat) : Int) - 1) = (i : Int) := by omega
    have hB : bval r / 2 ^ i = 2 * (bval r / 2 ^ (i + 1)) + bval r / 2 ^ i % 2 := by
      rw [Nat.pow_succ, ← Nat.div_div_eq_div_mul]; omega
    have hle : bval r / 2 ^ i < 10 := Nat.lt_of_le_of_lt (Nat.div_le_self _ _) hv
    rw [e]
    refine Ev.step (fun k => ?_) h
    simp only [foliotref01_Print.l2]
    rw [if_pos (by omega), if_pos (by omega), if_pos (by omega), rdOf_nat, hg]
    generalize bval r / 2 ^ i = X at *
    generalize bval r / 2 ^ (i + 1) = Y at *
    by_cases hb : X % 2 = 1
    · rw [if_pos (by rw [hb]; rfl), ww (x := 2 * (Y : Int)) (by omega), ww (by omega), w64 (by omega) (by omega)]
      congr 1
      omega
    · rw [if_neg (by simpa using hb), ww (x := 2 * (Y : Int)) (by omega), w64 (by omega) (by omega)]
      congr 1
      omega
theorem rprint_l1 : ∀ (N n : Nat) (D : List Int), n ≤ N → (bitsN n).length < 40000000000 → D.length + (low n).length < 4000000000000000000 →
    Ev (fun k => foliotref01_Print.l1 k (bitsN n) (bitsN 10) (strOfNums D)) (if D = [] then text n else strOfNums ((low n).reverse ++ D)) := by
  intro N
  induction N using Nat.strongRecOn with
  | _ N ih =>
    intro n D hn hb hl
    -- one digit, and on
    have go : (n ≠ 0 ∨ D = []) → Ev (fun k => foliotref01_Print.j2 k (bitsN n) (bitsN 10) (strOfNums D) true) (if D = [] then text n else strOfNums ((low n).reverse ++ D)) := by
      intro hgo
      have hd := rdivN_ev (A := n) (B := 10) hb (by decide) (by omega)
      have q2 : (bitsN (n % 10)).length ≤ 4 := len_bitsN_le (by omega)
      have q1 := len_bits_le (n / 10) n (Nat.div_le_self _ _)
      have hlow : (low (n / 10)).length ≤ (low n).length := by
        by_cases h0 : n = 0
        · subst h0; exact Nat.le_refl _
        · rw [low_pos h0]; simp
      have hR : Ev (fun k => (some (([48 + (bval (bitsN (n % 10)) : Int)] : List Int) : List Int)).bind fun y => if (strOfNums y).size + (strOfNums D).size ≤ 9223372036854775807 then foliotref01_Print.l1 k (bitsN (n / 10)) (bitsN 10) (strOfNums y ++ strOfNums D) else none) (if D = [] then text n else strOfNums ((low n).reverse ++ D)) := by
        rw [bval_bitsN]
        have e : (if D = [] then text n else strOfNums ((low n).reverse ++ D)) = strOfNums ((low (n / 10)).reverse ++ (48 + ((n % 10 : Nat) : Int)) :: D) := by
          by_cases h0 : n = 0
          · subst h0
            have hD : D = [] := hgo.elim (fun h => absurd rfl h) id
            subst hD
            rfl
          · by_cases hD : D = []
            · subst hD
              rw [if_pos rfl]
              unfold text told
              rw [if_neg (fun e => h0 (low_nil.1 e)), low_pos h0, List.reverse_cons]
            · rw [if_neg hD, low_pos h0, List.reverse_cons, List.append_assoc, List.singleton_append]
        rw [e]
        by_cases h0 : n = 0
        · subst h0
          have hD : D = [] := hgo.elim (fun h => absurd rfl h) id
          subst hD
          refine Ev.congr (f := fun k => foliotref01_Print.l1 k (bitsN (0 / 10)) (bitsN 10) (strOfNums [48])) (fun k => ?_) ?_
          · rw [Option.bind_some, if_pos (by rw [strOfNums_size, strOfNums_size]; simp), nums_cons]; rfl
          · refine Ev.step (f := fun k => foliotref01_Print.j2 k (bitsN (0 / 10)) (bitsN 10) (strOfNums [48]) false) (fun k => ?_) ?_
            · simp only [foliotref01_Print.l1]
              rw [if_neg (by rw [nums_eq_nil]; simp)]
              rfl
            · refine Ev.step (f := fun _ => some (strOfNums [48])) (fun k => ?_) (Ev.now _)
              simp only [foliotref01_Print.j2]
              rw [if_neg (by simp)]
        · have h := ih (n / 10) (by omega) (n / 10) ((48 + ((n % 10 : Nat) : Int)) :: D) (Nat.le_refl _) (by omega) (by
            rw [low_pos h0] at hl; simp only [List.length_cons] at hl ⊢; omega)
          rw [if_neg (by simp)] at h
          refine Ev.congr (fun k => ?_) h
          rw [Option.bind_some, if_pos (by rw [strOfNums_size, strOfNums_size]; simp; omega), nums_cons]
      have h2 := rprint_l2 (r := bitsN (n % 10)) (x7 := bitsN 10) (x9 := bitsN (n / 10)) (s := strOfNums D) (by omega) (by rw [bval_bitsN]; omega) _ hR (bitsN (n % 10)).length (Nat.le_refl _)
      rw [Nat.div_eq_of_lt (bval_lt _)] at h2
      refine Ev.step (f := fun k => (foliotref01_div.f k (bitsN n) (bitsN 10)).bind fun bt => foliotref01_Print.l2 k (bitsN 10) (strOfNums D) bt.1 bt.2 0 (wrap64 ((bt.2.length : Int) - 1))) (fun k => ?_) (Ev.bind hd (Ev.congr (fun k => ?_) h2))
      · simp only [foliotref01_Print.j2]
        rw [if_pos trivial]
      · show foliotref01_Print.l2 k (bitsN 10) (strOfNums D) (bitsN (n / 10)) (bitsN (n % 10)) 0 (wrap64 (((bitsN (n % 10)).length : Int) - 1)) = _
        rw [w64 (by omega) (by omega)]; rfl
    by_cases hD : D = []
    · refine Ev.step (fun k => ?_) (go (Or.inr hD))
      simp only [foliotref01_Print.l1]
      rw [if_pos (by rw [nums_eq_nil]; exact hD)]
    · by_cases h0 : n = 0
      · subst h0
        rw [if_neg hD]
        refine Ev.step (f := fun k => foliotref01_Print.j2 k (bitsN 0) (bitsN 10) (strOfNums D) false) (fun k => ?_) ?_
        · simp only [foliotref01_Print.l1]
          rw [if_neg (by rw [nums_eq_nil]; exact hD)]
          rfl
        · refine Ev.step (f := fun _ => some (strOfNums ((low 0).reverse ++ D))) (fun k => ?_) (Ev.now _)
          simp only [foliotref01_Print.j2]
          rw [if_neg (by simp)]
          rfl
      · have hne : ¬ (bitsN n).length = 0 := fun e => h0 (bitsN_eq_nil.1 e)
        refine Ev.step (fun k => ?_) (go (Or.inl h0))
        simp only [foliotref01_Print.l1]
        rw [if_neg (by rw [nums_eq_nil]; exact hD), decide_eq_true (show ((bitsN n).length : Int) > 0 by omega)]
theorem low_bits (n : Nat) : (low n).length ≤ (bitsN n).length := by
  apply low_len
  exact Nat.lt_of_lt_of_le (lt_len_bitsN n) (Nat.pow_le_pow_left (by omega) _)
theorem rprint_ev {l : List Int} (hl : l.length ≤ 1000000000) (l1 : lim l) : Ev (fun k => foliotref01_Print.f k l) (text (val l)) := by
  unfold foliotref01_Print.f
  rw [short_at l1]
  simp only [Option.bind_some]
  by_cases h1 : l.length ≤ 1
  · obtain ⟨a, ha, ea, va⟩ := val_short l1 h1
    rw [va, ea]
    exact Ev.congr (fun k => if_pos (decide_eq_true h1)) (rprint_short ha)
  · have e1 := lenb l1
    have e2 := low_bits (val l)
    have h := rprint_l1 (val l) (val l) [] (Nat.le_refl _) (by omega) (by simp; omega)
    rw [if_pos rfl] at h
    have h10 : Ev (fun k => foliotref01_Of.f k [10]) (bitsN 10) := of_ev (by simp) (lim_cons.2 ⟨by omega, lim_nil⟩)
    exact Ev.congr (f := fun k => (foliotref01_Of.f k l).bind fun a => (foliotref01_Of.f k [10]).bind fun b => foliotref01_Print.l1 k a b (⟨#[]⟩ : ByteArray)) (fun k => if_neg (by rw [decide_eq_false h1]; simp)) (Ev.bind (of_ev (by omega) l1) (Ev.bind h10 h))
def rfits (l : List Int) : Prop := lim l ∧ l.length ≤ 1000000000
instance (l : List Int) : Decidable (rfits l) := inferInstanceAs (Decidable (_ ∧ _))
end Go.Proofs.YtaclkccgjpjdjaaGreat.Nb
end
section
/- The executor: nat's and foliotref01's functions as numbers, and as contracts. No condition. -/
namespace Go.Proofs.YtaclkccgjpjdjaaGreat.Ev
open Go Go.RowKit Go.Proofs.YtaclkccgjpjdjaaGreatW.PrintWords Go.Proofs.YtaclkccgjpjdjaaGreatW.PrintMore Go.Proofs.YtaclkccgjpjdjaaGreatW.PrintLast Go.Proofs.YtaclkccgjpjdjaaGreat
set_option linter.unusedVariables false
set_option linter.unusedSimpArgs false
def nat_Trim.f (l0 : List Int) : Option (List Int) := if Nt.fits l0 then some (Nt.ofN (Nt.val l0)) else none
theorem nat_Trim.calls (A0 : Option Addr) (c0 : Nat) (l0 : List Int) (r : List Int) (w : World) (hr0 : Kd.C (Kd.int .u32) w A0 l0.length l0) (hc0 : l0.length ≤ c0) (h : nat_Trim.f l0 = some r) :
    Calls Tryz.prog 139 #[.slice A0 l0.length c0] w fun e w' => ∃ v0_ : Value, e = .returned (v0_) ∧ Kd.R (Kd.int .u32) 89 w' w.heap.size (fun _ => True) v0_ r ∧ Below w.heap.size w w' := by
  unfold nat_Trim.f at h
  split at h
  · rename_i hf
    injection h with h
    subst h
    obtain ⟨K, hK⟩ := Nt.trim_ev hf.1 (by have := hf.2; omega)
    exact N.nat_Trim.calls K A0 c0 l0 _ w hr0 hc0 (hK K (Nat.le_refl _))
  · cases h
theorem nat_Trim.con (l0 : List Int) (r1 : List Int) (h : nat_Trim.f l0 = some r1) : Con Tryz.prog 139 [.one (limbs l0)] (.g (.one (limbs r1))) := by
  refine .inl ⟨⟨_, Tryz.func139, by kernel_rfl, rfl⟩, fun ok us w hA => ?_⟩
  obtain ⟨A0, c0, rfl, hc0, hF0⟩ := in1 hA
  refine (nat_Trim.calls A0 c0 l0 r1 w (Kd.F_now hF0) hc0 h).mono ?_
  rintro e w' ⟨v0, rfl, h0, hb⟩
  exact ⟨_, rfl, (outR h0 : TC [] _ _ _ _), hb⟩
def nat_Add.f (l0 : List Int) (l1 : List Int) : Option (List Int) := if Nt.fits l0 ∧ Nt.fits l1 then some (Nt.ofN (Nt.val l0 + Nt.val l1)) else none
theorem nat_Add.calls (A0 : Option Addr) (c0 : Nat) (l0 : List Int) (A1 : Option Addr) (c1 : Nat) (l1 : List Int) (r : List Int) (w : World) (hr0 : Kd.C (Kd.int .u32) w A0 l0.length l0) (hc0 : l0.length ≤ c0) (hr1 : Kd.C (Kd.int .u32) w A1 l1.length l1) (hc1 : l1.length ≤ c1) (h : nat_Add.f l0 l1 = some r) :
    Calls Tryz.prog 109 #[.slice A0 l0.length c0, .slice A1 l1.length c1] w fun e w' => ∃ v0_ : Value, e = .returned (v0_) ∧ Kd.V (Kd.int .u32) 89 w' w.heap.size (fun k_ => (w.heap.size ≤ k_)) v0_ r ∧ Below w.heap.size w w' := by
  unfold nat_Add.f at h
  split at h
  · rename_i hf
    injection h with h
    subst h
    obtain ⟨K, hK⟩ := Nt.add_ev hf.1.1 hf.2.1 hf.1.lt hf.2.lt
    exact N.nat_Add.calls K A0 c0 l0 A1 c1 l1 _ w hr0 hc0 hr1 hc1 (hK K (Nat.le_refl _))
  · cases h
theorem nat_Add.con (l0 : List Int) (l1 : List Int) (r1 : List Int) (h : nat_Add.f l0 l1 = some r1) : Con Tryz.prog 109 [.one (limbs l0), .one (limbs l1)] (.g (.one (limbs r1))) := by
  refine .inl ⟨⟨_, Tryz.func109, by kernel_rfl, rfl⟩, fun ok us w hA => ?_⟩
  obtain ⟨A0, c0, A1, c1, rfl, hc0, hF0, hc1, hF1⟩ := in2 hA
  refine (nat_Add.calls A0 c0 l0 A1 c1 l1 r1 w (Kd.F_now hF0) hc0 (Kd.F_now hF1) hc1 h).mono ?_
  rintro e w' ⟨v0, rfl, h0, hb⟩
  exact ⟨_, rfl, (outV h0 (fun k hk => .inr hk) : TC [] _ _ _ _), hb⟩
def nat_Mul.f (l0 : List Int) (l1 : List Int) : Option (List Int) := if Nt.fits l0 ∧ Nt.fits l1 then some (Nt.ofN (Nt.val l0 * Nt.val l1)) else none
theorem nat_Mul.calls (A0 : Option Addr) (c0 : Nat) (l0 : List Int) (A1 : Option Addr) (c1 : Nat) (l1 : List Int) (r : List Int) (w : World) (hr0 : Kd.C (Kd.int .u32) w A0 l0.length l0) (hc0 : l0.length ≤ c0) (hr1 : Kd.C (Kd.int .u32) w A1 l1.length l1) (hc1 : l1.length ≤ c1) (h : nat_Mul.f l0 l1 = some r) :
    Calls Tryz.prog 64 #[.slice A0 l0.length c0, .slice A1 l1.length c1] w fun e w' => ∃ v0_ : Value, e = .returned (v0_) ∧ Kd.V (Kd.int .u32) 89 w' w.heap.size (fun k_ => (w.heap.size ≤ k_)) v0_ r ∧ Below w.heap.size w w' := by
  unfold nat_Mul.f at h
  split at h
  · rename_i hf
    injection h with h
    subst h
    obtain ⟨K, hK⟩ := Nt.mul_ev hf.1.1 hf.2.1 (by have := hf.1.2; have := hf.2.2; omega)
    exact N.nat_Mul.calls K A0 c0 l0 A1 c1 l1 _ w hr0 hc0 hr1 hc1 (hK K (Nat.le_refl _))
  · cases h
theorem nat_Mul.con (l0 : List Int) (l1 : List Int) (r1 : List Int) (h : nat_Mul.f l0 l1 = some r1) : Con Tryz.prog 64 [.one (limbs l0), .one (limbs l1)] (.g (.one (limbs r1))) := by
  refine .inl ⟨⟨_, Tryz.func64, by kernel_rfl, rfl⟩, fun ok us w hA => ?_⟩
  obtain ⟨A0, c0, A1, c1, rfl, hc0, hF0, hc1, hF1⟩ := in2 hA
  refine (nat_Mul.calls A0 c0 l0 A1 c1 l1 r1 w (Kd.F_now hF0) hc0 (Kd.F_now hF1) hc1 h).mono ?_
  rintro e w' ⟨v0, rfl, h0, hb⟩
  exact ⟨_, rfl, (outV h0 (fun k hk => .inr hk) : TC [] _ _ _ _), hb⟩
def nat_Sub.f (l0 : List Int) (l1 : List Int) : Option (List Int × Int) := if Nt.fits l0 ∧ Nt.fits l1 then some (if Nt.val l0 < Nt.val l1 then ([], 1) else (Nt.ofN (Nt.val l0 - Nt.val l1), 0)) else none
theorem nat_Sub.calls (P0_ : Nat → Prop) (A0 : Option Addr) (c0 : Nat) (l0 : List Int) (A1 : Option Addr) (c1 : Nat) (l1 : List Int) (r1 : List Int) (r2 : Int) (w : World) (hs0 : Kd.V (Kd.int .u32) 89 w w.heap.size (fun k_ => P0_ k_) (.slice A0 l0.length c0) l0) (hr1 : Kd.C (Kd.int .u32) w A1 l1.length l1) (hc1 : l1.length ≤ c1) (h : nat_Sub.f l0 l1 = some (r1, r2)) :
    Calls Tryz.prog 110 #[.slice A0 l0.length c0, .slice A1 l1.length c1] w fun e w' => ∃ v0_ : Value, e = .returned (.tuple #[v0_, .int .i64 r2]) ∧ Kd.V (Kd.int .u32) 89 w' w.heap.size (fun k_ => (P0_ k_ ∨ w.heap.size ≤ k_)) v0_ r1 ∧ Below w.heap.size w w' := by
  unfold nat_Sub.f at h
  split at h
  · rename_i hf
    injection h with h
    obtain ⟨K, hK⟩ := Nt.sub_ev hf.1.1 hf.2.1 hf.1.2 hf.2.2
    exact N.nat_Sub.calls K P0_ A0 c0 l0 A1 c1 l1 r1 r2 w hs0 hr1 hc1 ((hK K (Nat.le_refl _)).trans (congrArg some h))
  · cases h
theorem nat_Sub.con (l0 : List Int) (l1 : List Int) (r1 : List Int) (r2 : Int) (h : nat_Sub.f l0 l1 = some (r1, r2)) : Con Tryz.prog 110 [.one (limbs l0), .one (limbs l1)] (.tup [.one (limbs r1), .one (.v (.int .i64 r2))]) := by
  refine .inl ⟨⟨_, Tryz.func110, by kernel_rfl, rfl⟩, fun ok us w hA => ?_⟩
  obtain ⟨A0, c0, A1, c1, rfl, hc0, hF0, hc1, hF1⟩ := in2 hA
  refine (nat_Sub.calls ok A0 c0 l0 A1 c1 l1 r1 r2 w ⟨A0, c0, rfl, hc0, hF0⟩ (Kd.F_now hF1) hc1 h).mono ?_
  rintro e w' ⟨v0, rfl, h0, hb⟩
  exact ⟨_, rfl, out2 ((outV h0 (fun k hk => hk) : TC [] _ _ _ _)) ((outN rfl : TC [] _ _ (.v _) _)), hb⟩
def nat_Div.f (l0 : List Int) (l1 : List Int) : Option (List Int × List Int × Int) := if Nt.fits l0 ∧ Nt.fits l1 then some (if Nt.val l1 = 0 then ([], [], 3) else (Nt.ofN (Nt.val l0 / Nt.val l1), Nt.ofN (Nt.val l0 % Nt.val l1), 0)) else none
theorem nat_Div.calls (P0_ : Nat → Prop) (A0 : Option Addr) (c0 : Nat) (l0 : List Int) (P1_ : Nat → Prop) (A1 : Option Addr) (c1 : Nat) (l1 : List Int) (r1 : List Int) (r2 : List Int) (r3 : Int) (w : World) (hs0 : Kd.V (Kd.int .u32) 89 w w.heap.size (fun k_ => P0_ k_) (.slice A0 l0.length c0) l0) (hs1 : Kd.V (Kd.int .u32) 89 w w.heap.size (fun k_ => P1_ k_) (.slice A1 l1.length c1) l1) (h : nat_Div.f l0 l1 = some (r1, r2, r3)) :
    Calls Tryz.prog 103 #[.slice A0 l0.length c0, .slice A1 l1.length c1] w fun e w' => ∃ v0_ v1_ : Value, e = .returned (.tuple #[v0_, v1_, .int .i64 r3]) ∧ Kd.V (Kd.int .u32) 89 w' w.heap.size (fun k_ => ((P0_ k_ ∨ P1_ k_) ∨ w.heap.size ≤ k_)) v0_ r1 ∧ Kd.V (Kd.int .u32) 89 w' w.heap.size (fun k_ => ((P0_ k_ ∨ P1_ k_) ∨ w.heap.size ≤ k_)) v1_ r2 ∧ Below w.heap.size w w' := by
  unfold nat_Div.f at h
  split at h
  · rename_i hf
    injection h with h
    obtain ⟨K, hK⟩ := Nt.div_ev hf.1.1 hf.2.1 hf.1.2 hf.2.2
    exact N.nat_Div.calls K P0_ A0 c0 l0 P1_ A1 c1 l1 r1 r2 r3 w hs0 hs1 ((hK K (Nat.le_refl _)).trans (congrArg some h))
  · cases h
theorem nat_Div.con (l0 : List Int) (l1 : List Int) (r1 : List Int) (r2 : List Int) (r3 : Int) (h : nat_Div.f l0 l1 = some (r1, r2, r3)) : Con Tryz.prog 103 [.one (limbs l0), .one (limbs l1)] (.tup [.one (limbs r1), .one (limbs r2), .one (.v (.int .i64 r3))]) := by
  refine .inl ⟨⟨_, Tryz.func103, by kernel_rfl, rfl⟩, fun ok us w hA => ?_⟩
  obtain ⟨A0, c0, A1, c1, rfl, hc0, hF0, hc1, hF1⟩ := in2 hA
  refine (nat_Div.calls ok A0 c0 l0 ok A1 c1 l1 r1 r2 r3 w ⟨A0, c0, rfl, hc0, hF0⟩ ⟨A1, c1, rfl, hc1, hF1⟩ h).mono ?_
  rintro e w' ⟨v0, v1, rfl, h0, h1, hb⟩
  exact ⟨_, rfl, out3 ((outV h0 (fun k hk => hk.elim (fun hk => .inl (hk.elim id id)) .inr) : TC [] _ _ _ _)) ((outV h1 (fun k hk => hk.elim (fun hk => .inl (hk.elim id id)) .inr) : TC [] _ _ _ _)) ((outN rfl : TC [] _ _ (.v _) _)), hb⟩
def nat_Gcd.f (l0 : List Int) (l1 : List Int) : Option (List Int) := if Nt.fits l0 ∧ Nt.fits l1 then some (Nt.ofN (Nat.gcd (Nt.val l0) (Nt.val l1))) else none
set_option maxHeartbeats 2000000 in
theorem nat_Gcd.calls (A0 : Option Addr) (c0 : Nat) (l0 : List Int) (A1 : Option Addr) (c1 : Nat) (l1 : List Int) (r : List Int) (w : World) (hr0 : Kd.C (Kd.int .u32) w A0 l0.length l0) (hc0 : l0.length ≤ c0) (hr1 : Kd.C (Kd.int .u32) w A1 l1.length l1) (hc1 : l1.length ≤ c1) (h : nat_Gcd.f l0 l1 = some r) :
    Calls Tryz.prog 102 #[.slice A0 l0.length c0, .slice A1 l1.length c1] w fun e w' => ∃ v0_ : Value, e = .returned (v0_) ∧ Kd.V (Kd.int .u32) 89 w' w.heap.size (fun k_ => (w.heap.size ≤ k_)) v0_ r ∧ Below w.heap.size w w' := by
  unfold nat_Gcd.f at h
  split at h
  case isFalse => cases h
  case isTrue hf =>
  injection h with h
  have T0 := Aside0.mk (show nat_Trim.f l0 = some (Nt.ofN (Nt.val l0)) from if_pos hf.1)
  have T1 := Aside0.mk (show nat_Trim.f l1 = some (Nt.ofN (Nt.val l1)) from if_pos hf.2)
  have L0 := Aside0.mk (Nat.le_trans (Nt.len_val_le hf.1.1) hf.1.2)
  have L1 := Aside0.mk (Nat.le_trans (Nt.len_val_le hf.2.1) hf.2.2)
  generalize Nt.val l0 = x0 at *
  generalize Nt.val l1 = y0 at *
  have HG := Aside0.mk h
  have HR0 := Aside0.mk hr0
  have HC0 := Aside0.mk hc0
  have HR1 := Aside0.mk hr1
  have HC1 := Aside0.mk hc1
  clear h hf hr0 hc0 hr1 hc1
  go_enter Tryz.func102, Tryz.ntmps102
  go_wp2_with (go_at_call 139; (with_reducible refine (nat_Trim.calls A0 c0 l0 _ _ HR0.out HC0.out T0.out).mono ?_); rintro e w1 ⟨v0, rfl, ho0, hb0⟩; have HV0 := Aside0.mk (Kd.R_V (base' := w.heap.size) (Kd.R_mono (ok' := fun k_ => w.heap.size ≤ k_) (Kd.R_bound ho0) (fun k hk => hk.2.1))); have HB0 := Aside0.mk hb0; clear ho0 hb0 HR0 HC0 T0)
  go_wp2_with (go_at_call 139; (with_reducible refine (nat_Trim.calls A1 c1 l1 _ _ (Kd.C_below HR1.out HB0.out) HC1.out T1.out).mono ?_); rintro e w2 ⟨v1, rfl, ho1, hb1⟩; have HV1 := Aside0.mk (Kd.R_V (base' := w.heap.size) (Kd.R_mono (ok' := fun k_ => w.heap.size ≤ k_) (Kd.R_bound ho1) (fun k hk => Nat.le_trans HB0.out.size hk.2.1))); have HV0' := Aside0.mk (Kd.V_below HV0.out hb1); have HB1 := Aside0.mk (below_step HB0.out hb1); clear ho1 hb1 HR1 HC1 T1 HV0 HB0)
  go_loopg [0, 1] y0 (fun gq v0 v1 w' => ∃ (x y : Nat), Aside0 (y ≤ gq) ∧ Aside0 (Nt.ofN (Nat.gcd x y) = r) ∧ Aside0 ((Nt.ofN x).length ≤ 8796093022208) ∧ Aside0 ((Nt.ofN y).length ≤ 8796093022208) ∧ Aside0 (Kd.V (Kd.int .u32) 89 w' w.heap.size (fun k_ => w.heap.size ≤ k_) v0 (Nt.ofN x)) ∧ Aside0 (Kd.V (Kd.int .u32) 89 w' w.heap.size (fun k_ => w.heap.size ≤ k_) v1 (Nt.ofN y)) ∧ Aside0 (Below w.heap.size w w'))
  case atStart => exact ⟨x0, y0, ⟨Nat.le_refl _⟩, HG, L0, L1, HV0', HV1, HB1⟩
  case round =>
    clear HG L0 L1 HV0' HV1 HB1
    obtain ⟨x, y, HY, HG, LX, LY, HV0, HV1, HB⟩ := hrel
    obtain ⟨A, c, eA⟩ := Kd.V_slice HV0.out
    subst eA
    obtain ⟨A', c', eA'⟩ := Kd.V_slice HV1.out
    subst eA'
    by_cases hy : y = 0
    · subst hy
      have hl : (Nt.ofN 0).length = 0 := rfl
      have d1 : decide (0 < ((Nt.ofN 0).length : Int)) = false := by rw [hl]; rfl
      have d2 : decide (0 < (Nt.ofN 0).length) = false := by rw [hl]; rfl
      clear hl
      go_wp2
      go_ret
      exact ⟨_, rfl, by have h0 := HV0.out; rw [← HG.out, Nat.gcd_zero_right]; exact h0, HB.out⟩
    · have hl : 0 < (Nt.ofN y).length := List.length_pos_iff.2 (fun e => hy (Nt.ofN_nil.1 e))
      have d1 : decide (0 < ((Nt.ofN y).length : Int)) = true := decide_eq_true (by omega)
      have d2 : decide (0 < (Nt.ofN y).length) = true := decide_eq_true hl
      have hmod := Nat.mod_lt x (Nat.pos_of_ne_zero hy)
      have D := Aside0.mk (show nat_Div.f (Nt.ofN x) (Nt.ofN y) = some (Nt.ofN (x / y), Nt.ofN (x % y), 0) by
        unfold nat_Div.f; rw [if_pos ⟨Nt.fits_ofN LX.out, Nt.fits_ofN LY.out⟩, Nt.val_ofN, Nt.val_ofN, if_neg hy])
      have HM := Aside0.mk hmod
      clear hmod hy hl
      go_wp2_with (go_at_call 103; (with_reducible refine (nat_Div.calls (fun k_ => w.heap.size ≤ k_) A c (Nt.ofN x) (fun k_ => w.heap.size ≤ k_) A' c' (Nt.ofN y) _ _ _ _ HV0.out HV1.out D.out).mono ?_); rintro e w3 ⟨q0, q1, rfl, hq0, hq1, hb⟩; have HQ := Aside0.mk (Kd.V_mono (ok' := fun k_ => w.heap.size ≤ k_) hq1 (fun k_ hk => hk.elim (fun h_ => h_.elim id id) (fun h_ => Nat.le_trans HB.out.size h_))); have HV1' := Aside0.mk (Kd.V_below HV1.out hb); have HB' := Aside0.mk (below_step HB.out hb); clear hq0 hq1 hb HV0 HV1 HB D)
      go_roundg (x % y)
      case measure => have := HM.out; have := HY.out; omega
      case rel => exact ⟨y, x % y, ⟨Nat.le_refl _⟩, ⟨by rw [← HG.out, Nat.gcd_comm y, ← Nat.gcd_rec, Nat.gcd_comm]⟩, LY, ⟨Nat.le_trans (Nt.len_mono (Nat.mod_le _ _)) LX.out⟩, HV1', HQ, HB'⟩
theorem nat_Gcd.con (l0 : List Int) (l1 : List Int) (r1 : List Int) (h : nat_Gcd.f l0 l1 = some r1) : Con Tryz.prog 102 [.one (limbs l0), .one (limbs l1)] (.g (.one (limbs r1))) := by
  refine .inl ⟨⟨_, Tryz.func102, by kernel_rfl, rfl⟩, fun ok us w hA => ?_⟩
  obtain ⟨A0, c0, A1, c1, rfl, hc0, hF0, hc1, hF1⟩ := in2 hA
  refine (nat_Gcd.calls A0 c0 l0 A1 c1 l1 r1 w (Kd.F_now hF0) hc0 (Kd.F_now hF1) hc1 h).mono ?_
  rintro e w' ⟨v0, rfl, h0, hb⟩
  exact ⟨_, rfl, (outV h0 (fun k hk => .inr hk) : TC [] _ _ _ _), hb⟩
def nat_Cmp.f (l0 : List Int) (l1 : List Int) : Option (Int) := if Nt.fits l0 ∧ Nt.fits l1 then some (if Nt.val l0 < Nt.val l1 then -1 else if Nt.val l1 < Nt.val l0 then 1 else 0) else none
theorem nat_Cmp.calls (A0 : Option Addr) (c0 : Nat) (l0 : List Int) (A1 : Option Addr) (c1 : Nat) (l1 : List Int) (r : Int) (w : World) (hr0 : Kd.C (Kd.int .u32) w A0 l0.length l0) (hc0 : l0.length ≤ c0) (hr1 : Kd.C (Kd.int .u32) w A1 l1.length l1) (hc1 : l1.length ≤ c1) (h : nat_Cmp.f l0 l1 = some r) :
    Calls Tryz.prog 117 #[.slice A0 l0.length c0, .slice A1 l1.length c1] w fun e w' => e = .returned (.int .i64 r) ∧ Below w.heap.size w w' := by
  unfold nat_Cmp.f at h
  split at h
  · rename_i hf
    injection h with h
    subst h
    obtain ⟨K, hK⟩ := Nt.cmp_ev hf.1.1 hf.2.1 (by have := hf.1.2; omega) (by have := hf.2.2; omega)
    exact N.nat_Cmp.calls K A0 c0 l0 A1 c1 l1 _ w hr0 hc0 hr1 hc1 (hK K (Nat.le_refl _))
  · cases h
theorem nat_Cmp.con (l0 : List Int) (l1 : List Int) (r1 : Int) (h : nat_Cmp.f l0 l1 = some r1) : Con Tryz.prog 117 [.one (limbs l0), .one (limbs l1)] (.g (.one (.v (.int .i64 r1)))) := by
  refine .inl ⟨⟨_, Tryz.func117, by kernel_rfl, rfl⟩, fun ok us w hA => ?_⟩
  obtain ⟨A0, c0, A1, c1, rfl, hc0, hF0, hc1, hF1⟩ := in2 hA
  refine (nat_Cmp.calls A0 c0 l0 A1 c1 l1 r1 w (Kd.F_now hF0) hc0 (Kd.F_now hF1) hc1 h).mono ?_
  rintro e w' ⟨rfl, hb⟩
  exact ⟨_, rfl, (outN rfl : TC [] _ _ (.v _) _), hb⟩
def nat_Bits.f (l0 : List Int) : Option (Int) := if Nt.fits l0 then some (((Nb.bitsN (Nt.val l0)).length : Int)) else none
theorem nat_Bits.calls (A0 : Option Addr) (c0 : Nat) (l0 : List Int) (r : Int) (w : World) (hr0 : Kd.C (Kd.int .u32) w A0 l0.length l0) (hc0 : l0.length ≤ c0) (h : nat_Bits.f l0 = some r) :
    Calls Tryz.prog 56 #[.slice A0 l0.length c0] w fun e w' => e = .returned (.int .i64 r) ∧ Below w.heap.size w w' := by
  unfold nat_Bits.f at h
  split at h
  · rename_i hf
    injection h with h
    subst h
    obtain ⟨K, hK⟩ := Nb.pbits_ev hf.2 hf.1
    exact N.nat_Bits.calls K A0 c0 l0 _ w hr0 hc0 (hK K (Nat.le_refl _))
  · cases h
theorem nat_Bits.con (l0 : List Int) (r1 : Int) (h : nat_Bits.f l0 = some r1) : Con Tryz.prog 56 [.one (limbs l0)] (.g (.one (.v (.int .i64 r1)))) := by
  refine .inl ⟨⟨_, Tryz.func56, by kernel_rfl, rfl⟩, fun ok us w hA => ?_⟩
  obtain ⟨A0, c0, rfl, hc0, hF0⟩ := in1 hA
  refine (nat_Bits.calls A0 c0 l0 r1 w (Kd.F_now hF0) hc0 h).mono ?_
  rintro e w' ⟨rfl, hb⟩
  exact ⟨_, rfl, (outN rfl : TC [] _ _ (.v _) _), hb⟩
def nat_Print.f (l0 : List Int) : Option (ByteArray) := if Nt.fits l0 then some (Nt.text (Nt.val l0)) else none
theorem nat_Print.calls (A0 : Option Addr) (c0 : Nat) (l0 : List Int) (r : ByteArray) (w : World) (hr0 : Kd.C (Kd.int .u32) w A0 l0.length l0) (hc0 : l0.length ≤ c0) (h : nat_Print.f l0 = some r) :
    Calls Tryz.prog 125 #[.slice A0 l0.length c0] w fun e w' => e = .returned (.string r) ∧ Below w.heap.size w w' := by
  unfold nat_Print.f at h
  split at h
  · rename_i hf
    injection h with h
    subst h
    obtain ⟨K, hK⟩ := Nt.print_ev hf.1 hf.2
    exact N.nat_Print.calls K A0 c0 l0 _ w hr0 hc0 (hK K (Nat.le_refl _))
  · cases h
theorem nat_Print.con (l0 : List Int) (r1 : ByteArray) (h : nat_Print.f l0 = some r1) : Con Tryz.prog 125 [.one (limbs l0)] (.g (.one (.v (.string r1)))) := by
  refine .inl ⟨⟨_, Tryz.func125, by kernel_rfl, rfl⟩, fun ok us w hA => ?_⟩
  obtain ⟨A0, c0, rfl, hc0, hF0⟩ := in1 hA
  refine (nat_Print.calls A0 c0 l0 r1 w (Kd.F_now hF0) hc0 h).mono ?_
  rintro e w' ⟨rfl, hb⟩
  exact ⟨_, rfl, (outN rfl : TC [] _ _ (.v _) _), hb⟩
def nat_Parse.f (a0 : ByteArray) : Option (List Int × Int) := if a0.size ≤ 140737488351232 then some (Nt.parsed a0) else none
theorem nat_Parse.calls (a0 : ByteArray) (r1 : List Int) (r2 : Int) (w : World) (h : nat_Parse.f a0 = some (r1, r2)) :
    Calls Tryz.prog 121 #[.string a0] w fun e w' => ∃ v0_ : Value, e = .returned (.tuple #[v0_, .int .i64 r2]) ∧ Kd.V (Kd.int .u32) 89 w' w.heap.size (fun k_ => (w.heap.size ≤ k_)) v0_ r1 ∧ Below w.heap.size w w' := by
  unfold nat_Parse.f at h
  split at h
  · rename_i hf
    injection h with h
    obtain ⟨K, hK⟩ := Nt.parse_ev hf
    exact N.nat_Parse.calls K a0 r1 r2 w ((hK K (Nat.le_refl _)).trans (congrArg some h))
  · cases h
theorem nat_Parse.con (a0 : ByteArray) (r1 : List Int) (r2 : Int) (h : nat_Parse.f a0 = some (r1, r2)) : Con Tryz.prog 121 [.one (.v (.string a0))] (.tup [.one (limbs r1), .one (.v (.int .i64 r2))]) := by
  refine .inl ⟨⟨_, Tryz.func121, by kernel_rfl, rfl⟩, fun ok us w hA => ?_⟩
  have hu := inS1 hA
  subst hu
  refine (nat_Parse.calls a0 r1 r2 w h).mono ?_
  rintro e w' ⟨v0, rfl, h0, hb⟩
  exact ⟨_, rfl, out2 ((outV h0 (fun k hk => .inr hk) : TC [] _ _ _ _)) ((outN rfl : TC [] _ _ (.v _) _)), hb⟩
def foliotref01_Trim.f (l0 : List Int) : Option (List Int) := if Nb.rfits l0 then some (Nt.ofN (Nt.val l0)) else none
theorem foliotref01_Trim.calls (A0 : Option Addr) (c0 : Nat) (l0 : List Int) (r : List Int) (w : World) (hr0 : Kd.C (Kd.int .u32) w A0 l0.length l0) (hc0 : l0.length ≤ c0) (h : foliotref01_Trim.f l0 = some r) :
    Calls Tryz.prog 60 #[.slice A0 l0.length c0] w fun e w' => ∃ v0_ : Value, e = .returned (v0_) ∧ Kd.R (Kd.int .u32) 89 w' w.heap.size (fun _ => True) v0_ r ∧ Below w.heap.size w w' := by
  unfold foliotref01_Trim.f at h
  split at h
  · rename_i hf
    injection h with h
    obtain ⟨K, hK⟩ := Nb.rtrim_ev hf.1 (by have := hf.2; omega)
    exact N.foliotref01_Trim.calls K A0 c0 l0 _ w hr0 hc0 ((hK K (Nat.le_refl _)).trans (congrArg some h))
  · cases h
theorem foliotref01_Trim.con (l0 : List Int) (r1 : List Int) (h : foliotref01_Trim.f l0 = some r1) : Con Tryz.prog 60 [.one (limbs l0)] (.g (.one (limbs r1))) := by
  refine .inl ⟨⟨_, Tryz.func60, by kernel_rfl, rfl⟩, fun ok us w hA => ?_⟩
  obtain ⟨A0, c0, rfl, hc0, hF0⟩ := in1 hA
  refine (foliotref01_Trim.calls A0 c0 l0 r1 w (Kd.F_now hF0) hc0 h).mono ?_
  rintro e w' ⟨v0, rfl, h0, hb⟩
  exact ⟨_, rfl, (outR h0 : TC [] _ _ _ _), hb⟩
def foliotref01_Add.f (l0 : List Int) (l1 : List Int) : Option (List Int) := if Nb.rfits l0 ∧ Nb.rfits l1 then some (Nt.ofN (Nt.val l0 + Nt.val l1)) else none
theorem foliotref01_Add.calls (A0 : Option Addr) (c0 : Nat) (l0 : List Int) (A1 : Option Addr) (c1 : Nat) (l1 : List Int) (r : List Int) (w : World) (hr0 : Kd.C (Kd.int .u32) w A0 l0.length l0) (hc0 : l0.length ≤ c0) (hr1 : Kd.C (Kd.int .u32) w A1 l1.length l1) (hc1 : l1.length ≤ c1) (h : foliotref01_Add.f l0 l1 = some r) :
    Calls Tryz.prog 111 #[.slice A0 l0.length c0, .slice A1 l1.length c1] w fun e w' => ∃ v0_ : Value, e = .returned (v0_) ∧ Kd.R (Kd.int .u32) 89 w' w.heap.size (fun _ => True) v0_ r ∧ Below w.heap.size w w' := by
  unfold foliotref01_Add.f at h
  split at h
  · rename_i hf
    injection h with h
    obtain ⟨K, hK⟩ := Nb.radd_ev hf.1.2 hf.2.2 hf.1.1 hf.2.1
    exact N.foliotref01_Add.calls K A0 c0 l0 A1 c1 l1 _ w hr0 hc0 hr1 hc1 ((hK K (Nat.le_refl _)).trans (congrArg some h))
  · cases h
theorem foliotref01_Add.con (l0 : List Int) (l1 : List Int) (r1 : List Int) (h : foliotref01_Add.f l0 l1 = some r1) : Con Tryz.prog 111 [.one (limbs l0), .one (limbs l1)] (.g (.one (limbs r1))) := by
  refine .inl ⟨⟨_, Tryz.func111, by kernel_rfl, rfl⟩, fun ok us w hA => ?_⟩
  obtain ⟨A0, c0, A1, c1, rfl, hc0, hF0, hc1, hF1⟩ := in2 hA
  refine (foliotref01_Add.calls A0 c0 l0 A1 c1 l1 r1 w (Kd.F_now hF0) hc0 (Kd.F_now hF1) hc1 h).mono ?_
  rintro e w' ⟨v0, rfl, h0, hb⟩
  exact ⟨_, rfl, (outR h0 : TC [] _ _ _ _), hb⟩
def foliotref01_Mul.f (l0 : List Int) (l1 : List Int) : Option (List Int) := if Nb.rfits l0 ∧ Nb.rfits l1 then some (Nt.ofN (Nt.val l0 * Nt.val l1)) else none
theorem foliotref01_Mul.calls (A0 : Option Addr) (c0 : Nat) (l0 : List Int) (A1 : Option Addr) (c1 : Nat) (l1 : List Int) (r : List Int) (w : World) (hr0 : Kd.C (Kd.int .u32) w A0 l0.length l0) (hc0 : l0.length ≤ c0) (hr1 : Kd.C (Kd.int .u32) w A1 l1.length l1) (hc1 : l1.length ≤ c1) (h : foliotref01_Mul.f l0 l1 = some r) :
    Calls Tryz.prog 66 #[.slice A0 l0.length c0, .slice A1 l1.length c1] w fun e w' => ∃ v0_ : Value, e = .returned (v0_) ∧ Kd.R (Kd.int .u32) 89 w' w.heap.size (fun _ => True) v0_ r ∧ Below w.heap.size w w' := by
  unfold foliotref01_Mul.f at h
  split at h
  · rename_i hf
    injection h with h
    obtain ⟨K, hK⟩ := Nb.rmul_ev hf.1.2 hf.2.2 hf.1.1 hf.2.1
    exact N.foliotref01_Mul.calls K A0 c0 l0 A1 c1 l1 _ w hr0 hc0 hr1 hc1 ((hK K (Nat.le_refl _)).trans (congrArg some h))
  · cases h
theorem foliotref01_Mul.con (l0 : List Int) (l1 : List Int) (r1 : List Int) (h : foliotref01_Mul.f l0 l1 = some r1) : Con Tryz.prog 66 [.one (limbs l0), .one (limbs l1)] (.g (.one (limbs r1))) := by
  refine .inl ⟨⟨_, Tryz.func66, by kernel_rfl, rfl⟩, fun ok us w hA => ?_⟩
  obtain ⟨A0, c0, A1, c1, rfl, hc0, hF0, hc1, hF1⟩ := in2 hA
  refine (foliotref01_Mul.calls A0 c0 l0 A1 c1 l1 r1 w (Kd.F_now hF0) hc0 (Kd.F_now hF1) hc1 h).mono ?_
  rintro e w' ⟨v0, rfl, h0, hb⟩
  exact ⟨_, rfl, (outR h0 : TC [] _ _ _ _), hb⟩
def foliotref01_Sub.f (l0 : List Int) (l1 : List Int) : Option (List Int × Int) := if Nb.rfits l0 ∧ Nb.rfits l1 then some (if Nt.val l0 < Nt.val l1 then ([], 1) else (Nt.ofN (Nt.val l0 - Nt.val l1), 0)) else none
theorem foliotref01_Sub.calls (A0 : Option Addr) (c0 : Nat) (l0 : List Int) (A1 : Option Addr) (c1 : Nat) (l1 : List Int) (r1 : List Int) (r2 : Int) (w : World) (hr0 : Kd.C (Kd.int .u32) w A0 l0.length l0) (hc0 : l0.length ≤ c0) (hr1 : Kd.C (Kd.int .u32) w A1 l1.length l1) (hc1 : l1.length ≤ c1) (h : foliotref01_Sub.f l0 l1 = some (r1, r2)) :
    Calls Tryz.prog 113 #[.slice A0 l0.length c0, .slice A1 l1.length c1] w fun e w' => ∃ v0_ : Value, e = .returned (.tuple #[v0_, .int .i64 r2]) ∧ Kd.R (Kd.int .u32) 89 w' w.heap.size (fun _ => True) v0_ r1 ∧ Below w.heap.size w w' := by
  unfold foliotref01_Sub.f at h
  split at h
  · rename_i hf
    injection h with h
    obtain ⟨K, hK⟩ := Nb.rsub_ev hf.1.2 hf.2.2 hf.1.1 hf.2.1
    exact N.foliotref01_Sub.calls K A0 c0 l0 A1 c1 l1 _ _ w hr0 hc0 hr1 hc1 ((hK K (Nat.le_refl _)).trans (congrArg some h))
  · cases h
theorem foliotref01_Sub.con (l0 : List Int) (l1 : List Int) (r1 : List Int) (r2 : Int) (h : foliotref01_Sub.f l0 l1 = some (r1, r2)) : Con Tryz.prog 113 [.one (limbs l0), .one (limbs l1)] (.tup [.one (limbs r1), .one (.v (.int .i64 r2))]) := by
  refine .inl ⟨⟨_, Tryz.func113, by kernel_rfl, rfl⟩, fun ok us w hA => ?_⟩
  obtain ⟨A0, c0, A1, c1, rfl, hc0, hF0, hc1, hF1⟩ := in2 hA
  refine (foliotref01_Sub.calls A0 c0 l0 A1 c1 l1 r1 r2 w (Kd.F_now hF0) hc0 (Kd.F_now hF1) hc1 h).mono ?_
  rintro e w' ⟨v0, rfl, h0, hb⟩
  exact ⟨_, rfl, out2 ((outR h0 : TC [] _ _ _ _)) ((outN rfl : TC [] _ _ (.v _) _)), hb⟩
def foliotref01_Div.f (l0 : List Int) (l1 : List Int) : Option (List Int × List Int × Int) := if Nb.rfits l0 ∧ Nb.rfits l1 then some (Nb.divided (Nt.val l0) (Nt.val l1)) else none
theorem foliotref01_Div.calls (A0 : Option Addr) (c0 : Nat) (l0 : List Int) (A1 : Option Addr) (c1 : Nat) (l1 : List Int) (r1 : List Int) (r2 : List Int) (r3 : Int) (w : World) (hr0 : Kd.C (Kd.int .u32) w A0 l0.length l0) (hc0 : l0.length ≤ c0) (hr1 : Kd.C (Kd.int .u32) w A1 l1.length l1) (hc1 : l1.length ≤ c1) (h : foliotref01_Div.f l0 l1 = some (r1, r2, r3)) :
    Calls Tryz.prog 62 #[.slice A0 l0.length c0, .slice A1 l1.length c1] w fun e w' => ∃ v0_ v1_ : Value, e = .returned (.tuple #[v0_, v1_, .int .i64 r3]) ∧ Kd.R (Kd.int .u32) 89 w' w.heap.size (fun k_ => some k_ ≠ (v1_ : Value).ownBlock) v0_ r1 ∧ Kd.R (Kd.int .u32) 89 w' w.heap.size (fun k_ => some k_ ≠ (v0_ : Value).ownBlock) v1_ r2 ∧ Below w.heap.size w w' := by
  unfold foliotref01_Div.f at h
  split at h
  · rename_i hf
    injection h with h
    obtain ⟨K, hK⟩ := Nb.rdivide_ev hf.1.2 hf.2.2 hf.1.1 hf.2.1
    exact N.foliotref01_Div.calls K A0 c0 l0 A1 c1 l1 _ _ _ w hr0 hc0 hr1 hc1 ((hK K (Nat.le_refl _)).trans (congrArg some h))
  · cases h
theorem foliotref01_Div.con (l0 : List Int) (l1 : List Int) (r1 : List Int) (r2 : List Int) (r3 : Int) (h : foliotref01_Div.f l0 l1 = some (r1, r2, r3)) : Con Tryz.prog 62 [.one (limbs l0), .one (limbs l1)] (.tup [.one (limbs r1), .one (limbs r2), .one (.v (.int .i64 r3))]) := by
  refine .inl ⟨⟨_, Tryz.func62, by kernel_rfl, rfl⟩, fun ok us w hA => ?_⟩
  obtain ⟨A0, c0, A1, c1, rfl, hc0, hF0, hc1, hF1⟩ := in2 hA
  refine (foliotref01_Div.calls A0 c0 l0 A1 c1 l1 r1 r2 r3 w (Kd.F_now hF0) hc0 (Kd.F_now hF1) hc1 h).mono ?_
  rintro e w' ⟨v0, v1, rfl, h0, h1, hb⟩
  exact ⟨_, rfl, out3 ((outR h0 : TC [] _ _ _ _)) ((outR h1 : TC [] _ _ _ _)) ((outN rfl : TC [] _ _ (.v _) _)), hb⟩
def foliotref01_Gcd.f (l0 : List Int) (l1 : List Int) : Option (List Int) := if Nb.rfits l0 ∧ Nb.rfits l1 then some (Nt.ofN (Nat.gcd (Nt.val l0) (Nt.val l1))) else none
theorem foliotref01_Gcd.calls (A0 : Option Addr) (c0 : Nat) (l0 : List Int) (A1 : Option Addr) (c1 : Nat) (l1 : List Int) (r : List Int) (w : World) (hr0 : Kd.C (Kd.int .u32) w A0 l0.length l0) (hc0 : l0.length ≤ c0) (hr1 : Kd.C (Kd.int .u32) w A1 l1.length l1) (hc1 : l1.length ≤ c1) (h : foliotref01_Gcd.f l0 l1 = some r) :
    Calls Tryz.prog 61 #[.slice A0 l0.length c0, .slice A1 l1.length c1] w fun e w' => ∃ v0_ : Value, e = .returned (v0_) ∧ Kd.R (Kd.int .u32) 89 w' w.heap.size (fun _ => True) v0_ r ∧ Below w.heap.size w w' := by
  unfold foliotref01_Gcd.f at h
  split at h
  · rename_i hf
    injection h with h
    obtain ⟨K, hK⟩ := Nb.rgcd_ev hf.1.2 hf.2.2 hf.1.1 hf.2.1
    exact N.foliotref01_Gcd.calls K A0 c0 l0 A1 c1 l1 _ w hr0 hc0 hr1 hc1 ((hK K (Nat.le_refl _)).trans (congrArg some h))
  · cases h
theorem foliotref01_Gcd.con (l0 : List Int) (l1 : List Int) (r1 : List Int) (h : foliotref01_Gcd.f l0 l1 = some r1) : Con Tryz.prog 61 [.one (limbs l0), .one (limbs l1)] (.g (.one (limbs r1))) := by
  refine .inl ⟨⟨_, Tryz.func61, by kernel_rfl, rfl⟩, fun ok us w hA => ?_⟩
  obtain ⟨A0, c0, A1, c1, rfl, hc0, hF0, hc1, hF1⟩ := in2 hA
  refine (foliotref01_Gcd.calls A0 c0 l0 A1 c1 l1 r1 w (Kd.F_now hF0) hc0 (Kd.F_now hF1) hc1 h).mono ?_
  rintro e w' ⟨v0, rfl, h0, hb⟩
  exact ⟨_, rfl, (outR h0 : TC [] _ _ _ _), hb⟩
def foliotref01_Cmp.f (l0 : List Int) (l1 : List Int) : Option (Int) := if Nb.rfits l0 ∧ Nb.rfits l1 then some (Nb.cmp3 (Nt.val l0) (Nt.val l1)) else none
theorem foliotref01_Cmp.calls (A0 : Option Addr) (c0 : Nat) (l0 : List Int) (A1 : Option Addr) (c1 : Nat) (l1 : List Int) (r : Int) (w : World) (hr0 : Kd.C (Kd.int .u32) w A0 l0.length l0) (hc0 : l0.length ≤ c0) (hr1 : Kd.C (Kd.int .u32) w A1 l1.length l1) (hc1 : l1.length ≤ c1) (h : foliotref01_Cmp.f l0 l1 = some r) :
    Calls Tryz.prog 112 #[.slice A0 l0.length c0, .slice A1 l1.length c1] w fun e w' => e = .returned (.int .i64 r) ∧ Below w.heap.size w w' := by
  unfold foliotref01_Cmp.f at h
  split at h
  · rename_i hf
    injection h with h
    obtain ⟨K, hK⟩ := Nb.rcmp_ev hf.1.2 hf.2.2 hf.1.1 hf.2.1
    exact N.foliotref01_Cmp.calls K A0 c0 l0 A1 c1 l1 _ w hr0 hc0 hr1 hc1 ((hK K (Nat.le_refl _)).trans (congrArg some h))
  · cases h
theorem foliotref01_Cmp.con (l0 : List Int) (l1 : List Int) (r1 : Int) (h : foliotref01_Cmp.f l0 l1 = some r1) : Con Tryz.prog 112 [.one (limbs l0), .one (limbs l1)] (.g (.one (.v (.int .i64 r1)))) := by
  refine .inl ⟨⟨_, Tryz.func112, by kernel_rfl, rfl⟩, fun ok us w hA => ?_⟩
  obtain ⟨A0, c0, A1, c1, rfl, hc0, hF0, hc1, hF1⟩ := in2 hA
  refine (foliotref01_Cmp.calls A0 c0 l0 A1 c1 l1 r1 w (Kd.F_now hF0) hc0 (Kd.F_now hF1) hc1 h).mono ?_
  rintro e w' ⟨rfl, hb⟩
  exact ⟨_, rfl, (outN rfl : TC [] _ _ (.v _) _), hb⟩
def foliotref01_Print.f (l0 : List Int) : Option (ByteArray) := if Nb.rfits l0 then some (Nt.text (Nt.val l0)) else none
theorem foliotref01_Print.calls (A0 : Option Addr) (c0 : Nat) (l0 : List Int) (r : ByteArray) (w : World) (hr0 : Kd.C (Kd.int .u32) w A0 l0.length l0) (hc0 : l0.length ≤ c0) (h : foliotref01_Print.f l0 = some r) :
    Calls Tryz.prog 126 #[.slice A0 l0.length c0] w fun e w' => e = .returned (.string r) ∧ Below w.heap.size w w' := by
  unfold foliotref01_Print.f at h
  split at h
  · rename_i hf
    injection h with h
    obtain ⟨K, hK⟩ := Nb.rprint_ev hf.2 hf.1
    exact N.foliotref01_Print.calls K A0 c0 l0 _ w hr0 hc0 ((hK K (Nat.le_refl _)).trans (congrArg some h))
  · cases h
theorem foliotref01_Print.con (l0 : List Int) (r1 : ByteArray) (h : foliotref01_Print.f l0 = some r1) : Con Tryz.prog 126 [.one (limbs l0)] (.g (.one (.v (.string r1)))) := by
  refine .inl ⟨⟨_, Tryz.func126, by kernel_rfl, rfl⟩, fun ok us w hA => ?_⟩
  obtain ⟨A0, c0, rfl, hc0, hF0⟩ := in1 hA
  refine (foliotref01_Print.calls A0 c0 l0 r1 w (Kd.F_now hF0) hc0 h).mono ?_
  rintro e w' ⟨rfl, hb⟩
  exact ⟨_, rfl, (outN rfl : TC [] _ _ (.v _) _), hb⟩
end Go.Proofs.YtaclkccgjpjdjaaGreat.Ev
end
section
/- The executor, part 13: this program's types. No condition. -/
namespace Go.Proofs.YtaclkccgjpjdjaaGreat.Ev
open Go Go.RowKit Go.Proofs.YtaclkccgjpjdjaaGreatW.PrintWords Go.Proofs.YtaclkccgjpjdjaaGreatW.PrintMore Go.Proofs.YtaclkccgjpjdjaaGreatW.PrintLast Go.Proofs.YtaclkccgjpjdjaaGreat
def LL : Lays := [(4, ⟨1, [.v (.bool false)], .bool⟩), (22, ⟨1, [.row 1 0 []], .sl 89⟩), (3, ⟨1, [.v (.int .i64 0)], .int .i64⟩), (24, ⟨2, [.v (.bool false), .row 1 0 []], .st [(0, 4), (1, 22)]⟩), (26, ⟨3, [.v (.bool false), .row 1 0 [], .row 1 0 []], .st [(0, 24), (2, 22)]⟩),
  (35, ⟨1, [.v (.int .i64 0)], .int .i64⟩), (2, ⟨1, [.v (.int .i64 0)], .int .i64⟩), (9, ⟨1, [.v (.string ⟨#[]⟩)], .str⟩), (89, ⟨1, [.v (.int .u32 0)], .int .u32⟩), (106, ⟨1, [.v (.int .u64 0)], .int .u64⟩), (124, ⟨1, [.v (.bool false)], .bool⟩), (5, ⟨1, [.v (.int .u8 0)], .int .u8⟩), (127, ⟨1, [.v (.int .u64 0)], .int .u64⟩),
  (79, ⟨1, [.row 3 0 []], .sl 26⟩)]
theorem LL_ok : LaysOk Tryz.prog LL := lays_ok (by kernel_rfl) (by kernel_rfl)
def DD : Drawn := drawn LL
theorem DD_ok : DrawnOk Tryz.prog DD := drawn_ok (by kernel_rfl) LL_ok
theorem Con.to {f : FuncId} {xs : List AG} {r r' : AV} (h : Con Tryz.prog f xs r) (e : r = r') : Con Tryz.prog f xs r' := e ▸ h
theorem by_ {f : FuncId} {fn : Func} {c : Code} {xs : List AG} (r : AV) (hf : Tryz.prog.funcs[f]? = some fn) (hb : fn.body = some c) (pf : List (Prf Tryz.prog)) (h : evF LL DD fn c xs (Prf.ans pf) = some (r, [], Prf.dem pf)) (hname : (fn.name == "runtime.NumGoroutine") = false := by kernel_rfl) : Con Tryz.prog f xs r :=
  con_of LL_ok DD_ok pf hf hname hb h
theorem at_ {c : Code} {p : St} (e : Exit) (q : St) (pf : List (Prf Tryz.prog)) (h : (match runC LL DD c p (Prf.ans pf) with
  | some (e', q', a', ds) => (some (e', mask q q', a', ds) : Option (Exit × St × List Ans × List Dem))
  | none => none) = some (e, q, [], Prf.dem pf)) : CodeCon Tryz.prog c p e q := code_of LL_ok DD_ok pf h
theorem Con.nil {f : FuncId} {xs : List AG} (h : Con Tryz.prog f xs (.g (.one (.v (.slice none 0 0))))) : Con Tryz.prog f xs (.g (.one (limbs []))) := by
  have key : ∀ {ok : Nat → Prop} {w : World} {u : Value}, TV [] ok w (.g (.one (.v (.slice none 0 0)))) u → TV [] ok w (.g (.one (limbs []))) u := by
    intro ok w u h
    have e := TC.v_eq (show TC [] ok w (.v (.slice none 0 0)) u from h)
    subst e
    exact (foot_mk fun W' _ => Rd.nil 1 none 0 : Foot (fun W => Rd W (limbs []) (.slice none 0 0)) w ok)
  rcases h with ⟨hf, h⟩ | h
  · refine .inl ⟨hf, fun ok us w hA => (h ok us w hA).mono ?_⟩
    rintro e w' ⟨u, rfl, hT, hb⟩
    exact ⟨u, rfl, key hT, hb⟩
  · refine .inr (fun ok us w hA => ?_)
    obtain ⟨u, w', h1, hT, hb⟩ := h ok us w hA
    exact ⟨u, w', h1, key hT, hb⟩
end Go.Proofs.YtaclkccgjpjdjaaGreat.Ev
end
section
/- Whole numbers, as they are told by a sign and limbs. No condition. -/
namespace Go.Proofs.YtaclkccgjpjdjaaGreat.Zi
open Go Go.RowKit Go.Proofs.YtaclkccgjpjdjaaGreatW.PrintWords Go.Proofs.YtaclkccgjpjdjaaGreatW.PrintMore Go.Proofs.YtaclkccgjpjdjaaGreat.Nt
set_option linter.unusedVariables false
set_option linter.unusedSimpArgs false
def zval (b : Bool) (m : List Int) : Int := if b then -(val m : Int) else (val m : Int)
def ofZ (z : Int) : Bool × List Int := (decide (z < 0), ofN z.natAbs)
theorem abs_zval (b : Bool) (m : List Int) : (zval b m).natAbs = val m := by unfold zval; cases b <;> simp
theorem zval_ofZ (z : Int) : zval (ofZ z).1 (ofZ z).2 = z := by
  unfold ofZ zval
  simp only [val_ofN]
  by_cases h : z < 0
  · rw [decide_eq_true h]; simp only [if_true]; omega
  · rw [decide_eq_false h]; simp; omega
theorem val_ofZ (z : Int) : val (ofZ z).2 = z.natAbs := val_ofN _
theorem lim_ofZ (z : Int) : lim (ofZ z).2 := lim_ofN _
theorem ofZ_of (b : Bool) (n : Nat) : (b && decide (n ≠ 0), ofN n) = ofZ (if b then -(n : Int) else (n : Int)) := by
  unfold ofZ
  cases b
  · simp
  · by_cases h : n = 0
    · subst h; rfl
    · simp [h]; omega
theorem len_pos (n : Nat) : decide ((((ofN n).length : Nat) : Int) > 0) = decide (n ≠ 0) := by
  rw [decide_eq_decide]
  constructor
  · intro h e; subst e; simp [ofN_zero] at h
  · intro h
    have := List.length_pos_iff.2 (fun e => h (ofN_nil.1 e))
    omega
theorem zval_not (b : Bool) (m : List Int) : zval (!b) m = -zval b m := by unfold zval; cases b <;> simp
def few (k : Nat) (m : List Int) : Prop := lim m ∧ m.length ≤ k
theorem few.fits {k : Nat} {m : List Int} (h : few k m) (hk : k ≤ 1000000) : fits m := ⟨h.1, by have := h.2; omega⟩
theorem few.rfits {k : Nat} {m : List Int} (h : few k m) (hk : k ≤ 1000000) : Nb.rfits m := ⟨h.1, by have := h.2; omega⟩
theorem few_ofZ {k : Nat} {z : Int} (h : (ofN z.natAbs).length ≤ k) : few k (ofZ z).2 := ⟨lim_ofZ z, h⟩
theorem few_zval {k : Nat} {b : Bool} {m : List Int} (h : few k m) : (ofN (zval b m).natAbs).length ≤ k := by
  rw [abs_zval]; exact Nat.le_trans (len_val_le h.1) h.2
theorem zval_same (b : Bool) (l m : List Int) : zval b (ofN (val l + val m)) = zval b l + zval b m := by
  unfold zval; rw [val_ofN]; cases b <;> simp <;> omega
theorem zval_mul (b c : Bool) (l m : List Int) : zval (b != c) (ofN (val l * val m)) = zval b l * zval c m := by
  unfold zval; rw [val_ofN]; cases b <;> cases c <;> simp [Int.neg_mul, Int.mul_neg]
def sgn (z : Int) : Int := if z < 0 then -1 else if 0 < z then 1 else 0
theorem len_ofZ_pos (z : Int) : (((ofZ z).2.length : Int) > 0) ↔ z ≠ 0 := by
  show (((ofN z.natAbs).length : Int) > 0) ↔ _
  constructor
  · intro h e; subst e; simp [ofN_zero] at h
  · intro h
    have := List.length_pos_iff.2 (fun e => (by omega : z.natAbs ≠ 0) (ofN_nil.1 e))
    omega
def cmpZ (x y : Int) : Int := sgn (x - y)
theorem fdiv_of {A B q r : Int} (hB : B ≠ 0) (h : A = q * B + r) (h1 : 0 < B → 0 ≤ r ∧ r < B) (h2 : B < 0 → r ≤ 0 ∧ B < r) : A.fdiv B = q ∧ A.fmod B = r := by
  have e := Int.mul_fdiv_add_fmod A B
  have hr : A.fmod B = A - B * A.fdiv B := by omega
  have key : A.fdiv B = q := by
    rcases Int.lt_or_gt_of_ne hB with hn | hp
    · obtain ⟨a, b⟩ := h2 hn
      have g1 := Int.fmod_nonneg_of_pos (-A) (show 0 < -B by omega)
      have g2 := Int.fmod_lt_of_pos (-A) (show 0 < -B by omega)
      rw [Int.neg_fmod_neg] at g1 g2
      have f1 : A.fmod B ≤ 0 := by omega
      have f2 : B < A.fmod B := by omega
      clear g1 g2
      generalize A.fdiv B = Q at *
      generalize A.fmod B = R at *
      subst hr
      have h3 : (Q - q) * B = r - (A - B * Q) := by rw [Int.sub_mul, Int.mul_comm B Q]; omega
      by_cases hq : Q = q
      · exact hq
      · exfalso
        rcases Int.lt_or_gt_of_ne hq with g | g
        · have := Int.mul_le_mul_of_nonpos_right (show Q - q ≤ -1 by omega) (show B ≤ 0 by omega); omega
        · have := Int.mul_le_mul_of_nonpos_right (show 1 ≤ Q - q by omega) (show B ≤ 0 by omega); omega
    · obtain ⟨a, b⟩ := h1 hp
      have f1 : 0 ≤ A.fmod B := Int.fmod_nonneg_of_pos A hp
      have f2 : A.fmod B < B := Int.fmod_lt_of_pos A hp
      generalize A.fdiv B = Q at *
      generalize A.fmod B = R at *
      subst hr
      have h3 : (Q - q) * B = r - (A - B * Q) := by rw [Int.sub_mul, Int.mul_comm B Q]; omega
      by_cases hq : Q = q
      · exact hq
      · exfalso
        rcases Int.lt_or_gt_of_ne hq with g | g
        · have := Int.mul_le_mul_of_nonneg_right (show Q - q ≤ -1 by omega) (show 0 ≤ B by omega); omega
        · have := Int.mul_le_mul_of_nonneg_right (show 1 ≤ Q - q by omega) (show 0 ≤ B by omega); omega
  refine ⟨key, ?_⟩
  rw [hr, key, h, Int.mul_comm B q]; omega
def sg (b : Bool) (n : Nat) : Int := if b then -(n : Int) else (n : Int)
theorem zval_ofN (b : Bool) (n : Nat) : zval b (ofN n) = sg b n := by unfold zval sg; rw [val_ofN]
theorem div_same {A B : Int} (hB : B ≠ 0) (h : decide (A < 0) = decide (B < 0) ∨ A.natAbs % B.natAbs = 0) :
    A.fdiv B = sg (decide (A < 0) != decide (B < 0)) (A.natAbs / B.natAbs) ∧ A.fmod B = sg (decide (B < 0)) (A.natAbs % B.natAbs) := by
  have e := Nat.div_add_mod A.natAbs B.natAbs
  have hr := Nat.mod_lt A.natAbs (show 0 < B.natAbs by omega)
  generalize A.natAbs / B.natAbs = q at *
  generalize A.natAbs % B.natAbs = r at *
  have e' : (B.natAbs : Int) * (q : Int) + (r : Int) = (A.natAbs : Int) := by exact_mod_cast e
  unfold sg
  by_cases ha : A < 0 <;> by_cases hb : B < 0
  · rw [show (B.natAbs : Int) = -B by omega, show (A.natAbs : Int) = -A by omega] at e'
    rw [decide_eq_true ha, decide_eq_true hb]
    refine fdiv_of hB ?_ (fun h => by omega) (fun _ => by simp; omega)
    simp
    rw [Int.neg_mul, Int.mul_comm B] at e'
    omega
  · rw [show (B.natAbs : Int) = B by omega, show (A.natAbs : Int) = -A by omega] at e'
    rw [decide_eq_true ha, decide_eq_false hb] at *
    obtain rfl : r = 0 := by simpa using h
    refine fdiv_of hB ?_ (fun _ => by simp; omega) (fun h => by omega)
    simp
    rw [Int.mul_comm B] at e'
    rw [Int.neg_mul]
    omega
  · rw [show (B.natAbs : Int) = -B by omega, show (A.natAbs : Int) = A by omega] at e'
    rw [decide_eq_false ha, decide_eq_true hb] at *
    obtain rfl : r = 0 := by simpa using h
    refine fdiv_of hB ?_ (fun h => by omega) (fun _ => by simp; omega)
    simp
    rw [Int.neg_mul, Int.mul_comm B] at e'
    rw [Int.neg_mul]
    omega
  · rw [show (B.natAbs : Int) = B by omega, show (A.natAbs : Int) = A by omega] at e'
    rw [decide_eq_false ha, decide_eq_false hb]
    refine fdiv_of hB ?_ (fun _ => by simp; omega) (fun h => by omega)
    simp
    rw [Int.mul_comm B] at e'
    omega
theorem div_other {A B : Int} (hB : B ≠ 0) (h1 : decide (A < 0) ≠ decide (B < 0)) (h2 : A.natAbs % B.natAbs ≠ 0) :
    A.fdiv B = -((A.natAbs / B.natAbs + 1 : Nat) : Int) ∧ A.fmod B = sg (decide (B < 0)) (B.natAbs - A.natAbs % B.natAbs) := by
  have e := Nat.div_add_mod A.natAbs B.natAbs
  have hr := Nat.mod_lt A.natAbs (show 0 < B.natAbs by omega)
  generalize A.natAbs / B.natAbs = q at *
  generalize A.natAbs % B.natAbs = r at *
  have e' : (B.natAbs : Int) * (q : Int) + (r : Int) = (A.natAbs : Int) := by exact_mod_cast e
  unfold sg
  by_cases ha : A < 0 <;> by_cases hb : B < 0
  · exact absurd ((decide_eq_true ha).trans (decide_eq_true hb).symm) h1
  · rw [show (B.natAbs : Int) = B by omega, show (A.natAbs : Int) = -A by omega] at e'
    rw [decide_eq_false hb]
    refine fdiv_of hB ?_ (fun _ => by simp; omega) (fun h => by omega)
    simp
    rw [Int.mul_comm B] at e'
    rw [Int.neg_mul, Int.add_mul]
    omega
  · rw [show (B.natAbs : Int) = -B by omega, show (A.natAbs : Int) = A by omega] at e'
    rw [decide_eq_true hb]
    refine fdiv_of hB ?_ (fun h => by omega) (fun _ => by simp; omega)
    simp
    rw [Int.neg_mul, Int.mul_comm B] at e'
    rw [Int.neg_mul, Int.add_mul]
    omega
  · exact absurd ((decide_eq_false ha).trans (decide_eq_false hb).symm) h1
theorem of_u {n : Int} (h0 : -9223372036854775808 ≤ n) (h1 : n < 9223372036854775808) : ∀ u : Int, u = (n.natAbs : Int) → fits [u % 4294967296, u / 4294967296 % 4294967296] ∧ zval (decide (n < 0)) [u % 4294967296, u / 4294967296 % 4294967296] = n := by
  intro u hu
  refine ⟨⟨fun x hx => ?_, by simp⟩, ?_⟩
  · simp only [List.mem_cons, List.not_mem_nil, or_false] at hx
    rcases hx with rfl | rfl <;> omega
  · have hv : val [u % 4294967296, u / 4294967296 % 4294967296] = n.natAbs := by simp only [val_cons, val_nil]; omega
    unfold zval
    rw [hv]
    by_cases h : n < 0
    · rw [if_pos (decide_eq_true h)]; omega
    · rw [if_neg (by simpa using h)]; omega
theorem u64n {n : Int} (h0 : -9223372036854775808 ≤ n) (h1 : n < 0) : IntKind.u64.wrap (-(IntKind.u64.wrap n)) = (n.natAbs : Int) := by
  rw [u64neg h1 (by omega)]
  show (-(n + 18446744073709551616)) % 18446744073709551616 = _
  omega
theorem len_natAbs_mul {x y : Int} : (ofN (x * y).natAbs).length ≤ (ofN x.natAbs).length + (ofN y.natAbs).length := by rw [Int.natAbs_mul]; exact len_mul _ _
theorem len_natAbs_add {x y : Int} : (ofN (x + y).natAbs).length ≤ max (ofN x.natAbs).length (ofN y.natAbs).length + 1 :=
  Nat.le_trans (len_mono (Int.natAbs_add_le x y)) (len_add _ _)
def printZ (z : Int) : ByteArray := if z < 0 then (⟨#[45]⟩ : ByteArray) ++ text z.natAbs else text z.natAbs
theorem text_size (n : Nat) : (text n).size ≤ 10 * (ofN n).length + 1 := by
  have := low_ofN n
  unfold text told
  split
  · exact Nat.le_trans (show (⟨#[48]⟩ : ByteArray).size ≤ 1 from Nat.le_refl 1) (by omega)
  · rw [strOfNums_size, List.length_reverse]; omega
def minus (s : ByteArray) : Bool := decide (0 < s.size) && (bt s 0 == 45)
def parseZ (s : ByteArray) : Bool × List Int × Int :=
  let r := parsed (if minus s then s.extract 1 s.size else s)
  if r.2 = 0 then ((ofZ (zval (minus s) r.1)).1, (ofZ (zval (minus s) r.1)).2, 0) else (false, [], r.2)
theorem parsed_fits (s : ByteArray) : lim (parsed s).1 ∧ (parsed s).1.length ≤ 300 := by
  unfold parsed
  split
  · exact ⟨lim_nil, by simp⟩
  · rename_i h1
    split
    · exact ⟨lim_nil, by simp⟩
    · rename_i h2
      refine ⟨lim_ofN _, ?_⟩
      have hd : Dig (bytesOf s) := dig_of (fun e => h1 (Or.inr e))
      have hsz := bytesOf_size s
      refine Nat.le_trans (len_ofN_le (k := s.size) ?_) (by omega)
      rw [hsz]
      exact Nat.lt_of_lt_of_le (numL_lt hd) (Nat.pow_le_pow_left (by omega) _)
theorem zval_len {b : Bool} {m : List Int} (h : lim m) : (ofN (zval b m).natAbs).length ≤ m.length := by rw [abs_zval]; exact len_val_le h
end Go.Proofs.YtaclkccgjpjdjaaGreat.Zi
end
section
/- Integers: what the program's functions yield, by the executor. -/
namespace Go.Proofs.YtaclkccgjpjdjaaGreat.Ev
open Go Go.RowKit Go.Proofs.YtaclkccgjpjdjaaGreatW.PrintWords Go.Proofs.YtaclkccgjpjdjaaGreatW.PrintMore Go.Proofs.YtaclkccgjpjdjaaGreatW.PrintLast Go.Proofs.YtaclkccgjpjdjaaGreat Go.Proofs.YtaclkccgjpjdjaaGreat.Nt Go.Proofs.YtaclkccgjpjdjaaGreat.Zi
set_option linter.unusedVariables false
set_option linter.unusedSimpArgs false
def int (b : Bool) (l : List Int) : AG := .agg [.v (.bool b), limbs l]
def zi (z : Int) : AG := int (ofZ z).1 (ofZ z).2
def num (n : Int) : AG := .one (.v (.int .i64 n))
def truth (b : Bool) : AG := .one (.v (.bool b))
def text' (s : ByteArray) : AG := .one (.v (.string s))
theorem zi_of {b : Bool} {n : Nat} {c : Bool} (h : c = (b && decide (n ≠ 0))) {z : Int} (hz : z = if b then -(n : Int) else (n : Int)) : (AV.g (.agg [.v (.bool c), limbs (ofN n)])) = .g (zi z) := by
  subst h
  subst hz
  have := ofZ_of b n
  unfold zi
  rw [← this]
  rfl
theorem iWith (b : Bool) (m : List Int) (h : fits m) : Con Tryz.prog 108 [one (.bool b), .one (limbs m)] (.g (zi (zval b m))) := by
  cases b
  · exact (by_ (.g (.agg [.v (.bool false), limbs (ofN (val m))])) Tryz.func108 rfl [gives (nat_Trim.con m _ (if_pos h)), ends (rfl : false = false)] (by kernel_rfl)).to (zi_of (b := false) rfl rfl)
  · exact (by_ (.g (.agg [.v (.bool (decide (((ofN (val m)).length : Int) > 0))), limbs (ofN (val m))])) Tryz.func108 rfl [gives (nat_Trim.con m _ (if_pos h)), ends (rfl : true = true)] (by kernel_rfl)).to (zi_of (b := true) (len_pos _) rfl)
theorem ff {m : List Int} (h : few 50000 m) : fits m := h.fits (by decide)
theorem rf {m : List Int} (h : few 50000 m) : Nb.rfits m := h.rfits (by decide)
theorem few_len {m : List Int} (h : few 50000 m) : (ofN (val m)).length ≤ 50000 := Nat.le_trans (len_val_le h.1) h.2
theorem few_zi {z : Int} (h : (ofN z.natAbs).length ≤ 50000) : few 50000 (ofZ z).2 := few_ofZ h
theorem few_of {b : Bool} {m : List Int} (h : few 50000 m) : (ofN (zval b m).natAbs).length ≤ 50000 := few_zval h
theorem iNorm (b : Bool) (l : List Int) (h : few 50000 l) : Con Tryz.prog 104 [int b l] (.g (zi (zval b l))) := by_ _ Tryz.func104 rfl [gives (iWith b l (ff h))] (by kernel_rfl)
theorem iNeg (b : Bool) (l : List Int) (h : few 50000 l) : Con Tryz.prog 68 [int b l] (.g (zi (-zval b l))) := (by_ (.g (zi (zval (!b) l))) Tryz.func68 rfl [gives (iWith (!b) l (ff h))] (by kernel_rfl)).to (by rw [zval_not])
theorem iAdd (b : Bool) (l : List Int) (c : Bool) (m : List Int) (hl : few 50000 l) (hm : few 50000 m) : Con Tryz.prog 63 [int b l, int c m] (.g (zi (zval b l + zval c m))) := by
  have h1 := few_len hl
  have h2 := few_len hm
  by_cases e : b = c
  · subst e
    have h3 := len_add (val l) (val m)
    exact (by_ (.g (zi (zval b (ofN (val l + val m))))) Tryz.func63 rfl [ends (show (b == b) = true by simp), gives (nat_Add.con l m _ (if_pos ⟨(ff hl), (ff hm)⟩)), gives (iWith b (ofN (val l + val m)) (fits_ofN (by omega)))] (by kernel_rfl)).to (by rw [zval_same])
  · have eb : (b == c) = false := by simpa using e
    by_cases hlt : val l < val m
    · have h3 : (ofN (val m - val l)).length ≤ (ofN (val m)).length := len_mono (Nat.sub_le _ _)
      refine (by_ (.g (zi (zval c (ofN (val m - val l))))) Tryz.func63 rfl [ends eb, gives (nat_Sub.con l m [] 1 (by unfold nat_Sub.f; rw [if_pos ⟨(ff hl), (ff hm)⟩, if_pos hlt])), ends (rfl : ((1 : Int) == 0) = false),
        gives (nat_Sub.con m l (ofN (val m - val l)) 0 (by unfold nat_Sub.f; rw [if_pos ⟨(ff hm), (ff hl)⟩, if_neg (by omega)])), gives (iWith c (ofN (val m - val l)) (fits_ofN (by omega)))] (by kernel_rfl)).to (congrArg (fun z => AV.g (zi z)) ?_)
      unfold zval
      rw [val_ofN]
      cases b <;> cases c <;> simp at e ⊢ <;> omega
    · have h3 : (ofN (val l - val m)).length ≤ (ofN (val l)).length := len_mono (Nat.sub_le _ _)
      refine (by_ (.g (zi (zval b (ofN (val l - val m))))) Tryz.func63 rfl [ends eb, gives (nat_Sub.con l m (ofN (val l - val m)) 0 (by unfold nat_Sub.f; rw [if_pos ⟨(ff hl), (ff hm)⟩, if_neg hlt])), ends (rfl : ((0 : Int) == 0) = true), gives (iWith b (ofN (val l - val m)) (fits_ofN (by omega)))] (by kernel_rfl)).to (congrArg (fun z => AV.g (zi z)) ?_)
      unfold zval
      rw [val_ofN]
      cases b <;> cases c <;> simp at e ⊢ <;> omega
theorem iMul (b : Bool) (l : List Int) (c : Bool) (m : List Int) (hl : few 50000 l) (hm : few 50000 m) : Con Tryz.prog 67 [int b l, int c m] (.g (zi (zval b l * zval c m))) := by
  have h1 := few_len hl
  have h2 := few_len hm
  have h3 := len_mul (val l) (val m)
  exact (by_ (.g (zi (zval (!(b == c)) (ofN (val l * val m))))) Tryz.func67 rfl [gives (nat_Mul.con l m _ (if_pos ⟨(ff hl), (ff hm)⟩)), gives (iWith (!(b == c)) (ofN (val l * val m)) (fits_ofN (by omega)))] (by kernel_rfl)).to (congrArg (fun z => AV.g (zi z)) (zval_mul b c l m))
theorem iSign (b : Bool) (l : List Int) (h : few 50000 l) : Con Tryz.prog 94 [int b l] (.g (num (sgn (zval b l)))) := by
  have hl := len_ofZ_pos (zval b l)
  by_cases h1 : zval b l < 0
  · exact (by_ (.g (num (-1))) Tryz.func94 rfl [gives (iNorm b l h), ends (decide_eq_true h1)] (by kernel_rfl)).to (by unfold sgn; rw [if_pos h1])
  · by_cases h2 : 0 < zval b l
    · exact (by_ (.g (num 1)) Tryz.func94 rfl [gives (iNorm b l h), ends (decide_eq_false h1), ends (decide_eq_true (hl.2 (by omega)))] (by kernel_rfl)).to (by unfold sgn; rw [if_neg h1, if_pos h2])
    · exact (by_ (.g (num 0)) Tryz.func94 rfl [gives (iNorm b l h), ends (decide_eq_false h1), ends (decide_eq_false (fun e => hl.1 e (by omega)))] (by kernel_rfl)).to (by unfold sgn; rw [if_neg h1, if_neg h2])
theorem val_zi (z : Int) : val (ofZ z).2 = z.natAbs := val_ofZ z
theorem nsub {l m : List Int} (hl : fits l) (hm : fits m) (h : val m ≤ val l) : nat_Sub.f l m = some (ofN (val l - val m), 0) := by unfold nat_Sub.f; rw [if_pos ⟨hl, hm⟩, if_neg (by omega)]
theorem iCmp (b : Bool) (l : List Int) (c : Bool) (m : List Int) (hl : few 50000 l) (hm : few 50000 m) : Con Tryz.prog 69 [int b l, int c m] (.g (num (cmpZ (zval b l) (zval c m)))) := by
  have fx := ff (few_zi (few_of (b := b) hl))
  have fy := ff (few_zi (few_of (b := c) hm))
  have N1 := iNorm b l hl
  have N2 := iNorm c m hm
  generalize zval b l = x at *
  generalize zval c m = y at *
  have e1 : nat_Cmp.f (ofZ y).2 (ofZ x).2 = some (if y.natAbs < x.natAbs then -1 else if x.natAbs < y.natAbs then 1 else 0) := by
    unfold nat_Cmp.f; rw [if_pos ⟨fy, fx⟩, val_zi, val_zi]
  have e2 : nat_Cmp.f (ofZ x).2 (ofZ y).2 = some (if x.natAbs < y.natAbs then -1 else if y.natAbs < x.natAbs then 1 else 0) := by
    unfold nat_Cmp.f; rw [if_pos ⟨fx, fy⟩, val_zi, val_zi]
  by_cases hx : x < 0 <;> by_cases hy : y < 0
  · refine (by_ (.g (num (if y.natAbs < x.natAbs then -1 else if x.natAbs < y.natAbs then 1 else 0))) Tryz.func69 rfl [gives N1, gives N2, ends (decide_eq_true hx), ends (decide_eq_true hy), gives (nat_Cmp.con _ _ _ e1)] (by kernel_rfl)).to (congrArg (fun n => AV.g (num n)) ?_)
    unfold cmpZ sgn
    repeat' split
    all_goals omega
  · refine (by_ (.g (num (-1))) Tryz.func69 rfl [gives N1, gives N2, ends (decide_eq_true hx), ends (decide_eq_false hy), ends (decide_eq_true hx)] (by kernel_rfl)).to (congrArg (fun n => AV.g (num n)) ?_)
    unfold cmpZ sgn
    rw [if_pos (by omega)]
  · refine (by_ (.g (num 1)) Tryz.func69 rfl [gives N1, gives N2, ends (decide_eq_false hx), ends (rfl : false = false), ends (decide_eq_false hx), ends (decide_eq_true hy)] (by kernel_rfl)).to (congrArg (fun n => AV.g (num n)) ?_)
    unfold cmpZ sgn
    rw [if_neg (by omega), if_pos (by omega)]
  · refine (by_ (.g (num (if x.natAbs < y.natAbs then -1 else if y.natAbs < x.natAbs then 1 else 0))) Tryz.func69 rfl [gives N1, gives N2, ends (decide_eq_false hx), ends (rfl : false = false), ends (decide_eq_false hx), ends (decide_eq_false hy), gives (nat_Cmp.con _ _ _ e2)] (by kernel_rfl)).to (congrArg (fun n => AV.g (num n)) ?_)
    unfold cmpZ sgn
    repeat' split
    all_goals omega
def divT (A B : Int) : AV := if B = 0 then .tup [int false [], int false [], num 3] else .tup [zi (A.fdiv B), zi (A.fmod B), num 0]
theorem div_to {A B q r : Int} (hB : B ≠ 0) (h : A.fdiv B = q ∧ A.fmod B = r) : AV.tup [zi q, zi r, num 0] = divT A B := by
  unfold divT
  rw [if_neg hB, h.1, h.2]
theorem iDiv (b : Bool) (l : List Int) (c : Bool) (m : List Int) (hl : few 50000 l) (hm : few 50000 m) : Con Tryz.prog 127 [int b l, int c m] (divT (zval b l) (zval c m)) := by
  have hA := few_of (b := b) hl
  have hB := few_of (b := c) hm
  have fx := ff (few_zi hA)
  have fy := ff (few_zi hB)
  have N1 := iNorm b l hl
  have N2 := iNorm c m hm
  generalize zval b l = A at *
  generalize zval c m = B at *
  have e1 : nat_Div.f (ofZ A).2 (ofZ B).2 = some (if B.natAbs = 0 then ([], [], 3) else (ofN (A.natAbs / B.natAbs), ofN (A.natAbs % B.natAbs), 0)) := by
    unfold nat_Div.f; rw [if_pos ⟨fx, fy⟩, val_zi, val_zi]
  by_cases h0 : B = 0
  · subst h0
    exact by_ _ Tryz.func127 rfl [gives N1, gives N2, gives (nat_Div.con _ _ [] [] 3 e1), ends (rfl : ((3 : Int) != 0) = true)] (by kernel_rfl)
  · rw [if_neg (by omega)] at e1
    have D := nat_Div.con _ _ _ _ _ e1
    have lq : (ofN (A.natAbs / B.natAbs)).length ≤ (ofN A.natAbs).length := len_mono (Nat.div_le_self _ _)
    have lr : (ofN (A.natAbs % B.natAbs)).length ≤ (ofN A.natAbs).length := len_mono (Nat.mod_le _ _)
    have fq : fits (ofN (A.natAbs / B.natAbs)) := fits_ofN (by omega)
    have fr : fits (ofN (A.natAbs % B.natAbs)) := fits_ofN (by omega)
    have W1 := iWith (!(decide (A < 0) == decide (B < 0))) _ fq
    have W2 := iWith (decide (B < 0)) _ fr
    rw [zval_ofN] at W1 W2
    by_cases hs : decide (A < 0) = decide (B < 0)
    · exact (by_ (.tup [zi _, zi _, num 0]) Tryz.func127 rfl [gives N1, gives N2, gives D, ends (rfl : ((0 : Int) != 0) = false), ends (show (decide (A < 0) == decide (B < 0)) = true by simpa using hs), ends (rfl : true = true), gives W1, gives W2] (by kernel_rfl)).to (div_to h0 (div_same h0 (Or.inl hs)))
    · have hsf : (decide (A < 0) == decide (B < 0)) = false := by simpa using hs
      by_cases hr : A.natAbs % B.natAbs = 0
      · exact (by_ (.tup [zi _, zi _, num 0]) Tryz.func127 rfl [gives N1, gives N2, gives D, ends (rfl : ((0 : Int) != 0) = false), ends hsf, ends (show ((((ofN (A.natAbs % B.natAbs)).length : Nat) : Int) == 0) = true by rw [hr, ofN_zero]; rfl), gives W1, gives W2] (by kernel_rfl)).to (div_to h0 (div_same h0 (Or.inr hr)))
      · have hrf : ((((ofN (A.natAbs % B.natAbs)).length : Nat) : Int) == 0) = false := by
          have := List.length_pos_iff.2 (fun e => hr (ofN_nil.1 e)); rw [beq_eq_false_iff_ne]; omega
        have hlt := Nat.mod_lt A.natAbs (show 0 < B.natAbs by omega)
        have es := nsub fy fr (by rw [val_zi, val_ofN]; omega)
        rw [val_zi, val_ofN] at es
        have f1 : fits [1] := fits_ofN (n := 1) (by decide)
        have ea : nat_Add.f (ofN (A.natAbs / B.natAbs)) [1] = some (ofN (A.natAbs / B.natAbs + 1)) := by
          unfold nat_Add.f; rw [if_pos ⟨fq, f1⟩, val_ofN]; rfl
        have l3 : (ofN (B.natAbs - A.natAbs % B.natAbs)).length ≤ (ofN B.natAbs).length := len_mono (Nat.sub_le _ _)
        have l4 := len_add (A.natAbs / B.natAbs) 1
        have l5 : (ofN 1).length = 1 := rfl
        have W3 := iWith true (ofN (A.natAbs / B.natAbs + 1)) (fits_ofN (by omega))
        have W4 := iWith (decide (B < 0)) (ofN (B.natAbs - A.natAbs % B.natAbs)) (fits_ofN (by omega))
        rw [zval_ofN] at W3 W4
        exact (by_ (.tup [zi _, zi _, num 0]) Tryz.func127 rfl [gives N1, gives N2, gives D, ends (rfl : ((0 : Int) != 0) = false), ends hsf, ends hrf, gives (nat_Sub.con _ _ _ _ es), gives (nat_Add.con _ _ _ ea), gives W3, gives W4] (by kernel_rfl)).to (div_to h0 (div_other h0 hs hr))
theorem iPrint (b : Bool) (l : List Int) (h : few 50000 l) : Con Tryz.prog 124 [int b l] (.g (text' (printZ (zval b l)))) := by
  have h1 := few_len h
  have h2 := text_size (val l)
  have h3 := few_of (b := b) h
  have S := iSign b l h
  have T := nat_Print.con l _ (if_pos (ff h))
  have ha := abs_zval b l
  rw [← ha] at T h2
  by_cases hz : zval b l < 0
  · exact (by_ (.g (text' ((⟨#[45]⟩ : ByteArray) ++ text (zval b l).natAbs))) Tryz.func124 rfl [gives S, ends (show decide (sgn (zval b l) < 0) = true by unfold sgn; rw [if_pos hz]; rfl), gives T, fact (show (((⟨#[45]⟩ : ByteArray).size + (text (zval b l).natAbs).size : Nat) : Int) ≤ IntKind.i64.max by rw [show IntKind.i64.max = 9223372036854775807 from rfl, show (⟨#[45]⟩ : ByteArray).size = 1 from rfl]; omega)] (by kernel_rfl)).to (by unfold printZ; rw [if_pos hz])
  · exact (by_ (.g (text' (text (zval b l).natAbs))) Tryz.func124 rfl [gives S, ends (show decide (sgn (zval b l) < 0) = false by unfold sgn; rw [if_neg hz]; split <;> rfl), gives T] (by kernel_rfl)).to (by unfold printZ; rw [if_neg hz])
end Go.Proofs.YtaclkccgjpjdjaaGreat.Ev
end
section
/- Integers: out of numbers and texts, and what the reference's functions yield, by the executor. -/
namespace Go.Proofs.YtaclkccgjpjdjaaGreat.Ev
open Go Go.RowKit Go.Proofs.YtaclkccgjpjdjaaGreatW.PrintWords Go.Proofs.YtaclkccgjpjdjaaGreatW.PrintMore Go.Proofs.YtaclkccgjpjdjaaGreatW.PrintLast Go.Proofs.YtaclkccgjpjdjaaGreat Go.Proofs.YtaclkccgjpjdjaaGreat.Nt Go.Proofs.YtaclkccgjpjdjaaGreat.Zi
set_option linter.unusedVariables false
set_option linter.unusedSimpArgs false
theorem shr_at (a : Int) : ∀ (P : Program) (t : TypeId) (w : World), (binOp .shr t (.int .u64 a) (.int .u64 32)).run P w = .ok (.int .u64 (a / 4294967296)) w := by
  intro P t w
  have : a.fdiv (2 ^ min 32 IntKind.u64.bits) = a / 4294967296 := by
    rw [show (2 : Int) ^ min 32 IntKind.u64.bits = 4294967296 from rfl, Int.fdiv_eq_ediv_of_nonneg _ (by decide)]
  simp [binOp, Op.shift, this]
theorem u32w (x : Int) : IntKind.u32.wrap x = x % 4294967296 := rfl
theorem iOf {n : Int} (h0 : -9223372036854775808 ≤ n) (h1 : n < 9223372036854775808) : Con Tryz.prog 101 [num n] (.g (zi n)) := by
  by_cases h : n < 0
  · obtain ⟨f, z⟩ := of_u h0 h1 _ (u64n h0 h)
    refine (by_ (.g (zi (zval (decide (n < 0)) [IntKind.u32.wrap (IntKind.u64.wrap (0 - IntKind.u64.wrap n)), IntKind.u32.wrap (IntKind.u64.wrap (0 - IntKind.u64.wrap n) / 4294967296)]))) Tryz.func101 rfl
      [ends (decide_eq_true h), byBits (shr_at (IntKind.u64.wrap (0 - IntKind.u64.wrap n))), gives (iWith (decide (n < 0)) [IntKind.u32.wrap (IntKind.u64.wrap (0 - IntKind.u64.wrap n)), IntKind.u32.wrap (IntKind.u64.wrap (0 - IntKind.u64.wrap n) / 4294967296)] (by rw [Int.zero_sub]; exact f))] (by kernel_rfl)).to ?_
    rw [Int.zero_sub, u32w, u32w, z]
  · have e : IntKind.u64.wrap n = (n.natAbs : Int) := by rw [u64 (by omega) (by omega)]; omega
    obtain ⟨f, z⟩ := of_u h0 h1 _ e
    refine (by_ (.g (zi (zval (decide (n < 0)) [IntKind.u32.wrap (IntKind.u64.wrap n), IntKind.u32.wrap (IntKind.u64.wrap n / 4294967296)]))) Tryz.func101 rfl
      [ends (decide_eq_false h), byBits (shr_at (IntKind.u64.wrap n)), gives (iWith (decide (n < 0)) [IntKind.u32.wrap (IntKind.u64.wrap n), IntKind.u32.wrap (IntKind.u64.wrap n / 4294967296)] f)] (by kernel_rfl)).to ?_
    rw [u32w, u32w, z]
theorem minus_of (s : ByteArray) (h : 0 < s.size) : ((s.extract 0 1).toList == (⟨#[45]⟩ : ByteArray).toList) = minus s := by
  obtain ⟨x, r, hx⟩ : ∃ x r, s.data.toList = x :: r := by
    have : 0 < s.data.toList.length := by rw [data_length]; exact h
    cases hs : s.data.toList with
    | nil => rw [hs] at this; simp at this
    | cons x r => exact ⟨x, r, rfl⟩
  have hb : bt s 0 = (x.toNat : Int) := by
    rw [← rd_bytesOf]; unfold bytesOf; rw [hx]; rfl
  have hl : (s.extract 0 1).toList = [x] := by
    rw [toList_eq, ByteArray.data_extract, Array.toList_extract, hx]
    simp
  unfold minus
  rw [decide_eq_true h, Bool.true_and, hl, toList_eq, hb]
  show ([x] == [45]) = ((x.toNat : Int) == 45)
  rw [Bool.eq_iff_iff, beq_iff_eq, beq_iff_eq]
  constructor
  · intro e; injection e with e; subst e; rfl
  · intro e
    have : x.toNat = 45 := by omega
    congr 1
    exact UInt8.toNat_inj.1 this
theorem size45 : (⟨#[45]⟩ : ByteArray).size = 1 := rfl
theorem hasPrefix (s : ByteArray) : Con Tryz.prog 155 [text' s, text' ⟨#[45]⟩] (.g (truth (minus s))) := by
  by_cases h : 0 < s.size
  · refine (by_ (.g (truth ((s.extract 0 1).toList == (⟨#[45]⟩ : ByteArray).toList))) Tryz.func155 rfl [ends (show decide ((s.size : Int) ≥ ((⟨#[45]⟩ : ByteArray).size : Int)) = true by rw [decide_eq_true_iff, size45]; omega),
      part (b := s) (l := 0) (h := ((⟨#[45]⟩ : ByteArray).size : Int)) (z := s.extract 0 1) ⟨by omega, by rw [size45]; omega, by rw [size45]; omega, rfl⟩] (by kernel_rfl)).to ?_
    rw [minus_of s h]
  · refine (by_ (.g (truth false)) Tryz.func155 rfl [ends (show decide ((s.size : Int) ≥ ((⟨#[45]⟩ : ByteArray).size : Int)) = false by rw [decide_eq_false_iff_not, size45]; omega)] (by kernel_rfl)).to ?_
    unfold minus
    rw [decide_eq_false h, Bool.false_and]
def cutT (s : ByteArray) : AV := .tup [text' (if minus s then s.extract 1 s.size else s), truth (minus s)]
theorem minus_pos {s : ByteArray} (h : minus s = true) : 0 < s.size := by
  unfold minus at h; simp only [Bool.and_eq_true, decide_eq_true_eq] at h; exact h.1
theorem cutPrefix (s : ByteArray) : Con Tryz.prog 152 [text' s, text' ⟨#[45]⟩] (cutT s) := by
  have inner : Con Tryz.prog 162 [text' s, text' ⟨#[45]⟩] (cutT s) := by
    have hp := hasPrefix s
    cases hm : minus s with
    | true =>
      have h0 := minus_pos hm
      rw [hm] at hp
      refine (by_ (.tup [text' (s.extract 1 s.size), truth true]) Tryz.func162 rfl [gives hp, ends (rfl : (!true) = false), part (b := s) (l := ((⟨#[45]⟩ : ByteArray).size : Int)) (h := (s.size : Int)) (z := s.extract 1 s.size) ⟨by rw [size45]; omega, by rw [size45]; omega, by omega, rfl⟩] (by kernel_rfl)).to ?_
      unfold cutT; rw [hm]; rfl
    | false =>
      rw [hm] at hp
      refine (by_ (.tup [text' s, truth false]) Tryz.func162 rfl [gives hp, ends (rfl : (!false) = true)] (by kernel_rfl)).to ?_
      unfold cutT; rw [hm]; rfl
  exact by_ _ Tryz.func152 rfl [gives inner] (by kernel_rfl)
def parseT (s : ByteArray) : AV := .tup [int (parseZ s).1 (parseZ s).2.1, num (parseZ s).2.2]
theorem iParse (s : ByteArray) (h : s.size ≤ 140737488351232) : Con Tryz.prog 120 [text' s] (parseT s) := by
  have hs : (if minus s then s.extract 1 s.size else s).size ≤ 140737488351232 := by
    split
    · rw [ByteArray.size_extract]; omega
    · exact h
  have hf := parsed_fits (if minus s then s.extract 1 s.size else s)
  have C := cutPrefix s
  have N := nat_Parse.con (if minus s then s.extract 1 s.size else s) _ _ (if_pos hs)
  unfold cutT at C
  unfold parseT parseZ
  generalize (if minus s then s.extract 1 s.size else s) = t at *
  generalize parsed t = r at *
  by_cases hr : r.2 = 0
  · rw [if_pos hr]
    exact by_ _ Tryz.func120 rfl [gives C, gives N, ends (show (r.2 != 0) = false by rw [hr]; rfl), gives (iWith (minus s) r.1 ⟨hf.1, by omega⟩)] (by kernel_rfl)
  · rw [if_neg hr]
    exact by_ _ Tryz.func120 rfl [gives C, gives N, ends (show (r.2 != 0) = true by simpa using hr)] (by kernel_rfl)
end Go.Proofs.YtaclkccgjpjdjaaGreat.Ev
end
section
/- Integers: what the reference's functions yield, by the executor. -/
namespace Go.Proofs.YtaclkccgjpjdjaaGreat.Ev
open Go Go.RowKit Go.Proofs.YtaclkccgjpjdjaaGreatW.PrintWords Go.Proofs.YtaclkccgjpjdjaaGreatW.PrintMore Go.Proofs.YtaclkccgjpjdjaaGreatW.PrintLast Go.Proofs.YtaclkccgjpjdjaaGreat Go.Proofs.YtaclkccgjpjdjaaGreat.Nt Go.Proofs.YtaclkccgjpjdjaaGreat.Zi
set_option linter.unusedVariables false
set_option linter.unusedSimpArgs false
theorem lim_at {l : List Int} {i : Nat} (h : i < l.length) : (0 : Int) ≤ (i : Int) ∧ (l.map fun n => [AC.v (.int .u32 n)])[(i : Int).toNat]? = some [.v (.int .u32 l[i])] := ⟨by omega, by simp [h]⟩
theorem wr {x : Int} (h0 : -9223372036854775808 ≤ x) (h1 : x < 9223372036854775808) : IntKind.i64.wrap x = x := by
  simp only [IntKind.wrap, IntKind.signed, IntKind.bits]; simp; omega
def S33 (l m : List Int) (i : Int) : St := ⟨sparse 26 [(0, .g (.one (limbs l))), (1, .g (.one (limbs m))), (4, .g (truth false)), (5, .g (num i))], []⟩
theorem same_loop (l m : List Int) (hl : l.length = m.length) (hb : l.length < 4000000000000000000) : ∀ (d i : Nat), i + d = l.length →
    (l.drop i = m.drop i → Rounds Tryz.prog (lp Tryz.f98 0) (S33 l m i) (.exit 0) (S33 l m l.length)) ∧ (l.drop i ≠ m.drop i → Rounds Tryz.prog (lp Tryz.f98 0) (S33 l m i) .ret ⟨sparse 26 [(4, .g (truth false))], []⟩)
  | 0, i, h => by
    have : i = l.length := by omega
    subst this
    refine ⟨fun _ => Rounds.out (at_ _ _ [ends (show decide ((l.length : Int) < (l.length : Int)) = false by simp)] (by kernel_rfl)) (by simp), fun h => absurd ?_ h⟩
    rw [List.drop_eq_nil_of_le (by omega), List.drop_eq_nil_of_le (by omega)]
  | d + 1, i, h => by
    have h1 : i < l.length := by omega
    have h2 : i < m.length := by omega
    have ih := same_loop l m hl hb d (i + 1) (by omega)
    have hlt : decide ((i : Int) < (l.length : Int)) = true := by rw [decide_eq_true_iff]; omega
    rw [List.drop_eq_getElem_cons h1, List.drop_eq_getElem_cons h2]
    by_cases e : l[i] = m[i]
    · have step := at_ (c := lp Tryz.f98 0) (p := S33 l m i) .normal (S33 l m (IntKind.i64.wrap ((i : Int) + 1))) [ends hlt, elem (lim_at h1), elem (lim_at h2), ends (show (l[i] != m[i]) = false by simpa using e)] (by kernel_rfl)
      rw [show IntKind.i64.wrap ((i : Int) + 1) = ((i + 1 : Nat) : Int) by rw [wr (by omega) (by omega)]; omega] at step
      refine ⟨fun hd => (ih.1 ?_).step' step, fun hd => (ih.2 ?_).step' step⟩
      · injection hd
      · intro h3
        exact hd (by rw [e, h3])
    · refine ⟨fun hd => ?_, fun hd => Rounds.out (at_ _ _ [ends hlt, elem (lim_at h1), elem (lim_at h2), ends (show (l[i] != m[i]) = true by simpa using e)] (by kernel_rfl)) (by simp)⟩
      injection hd with h3
      exact absurd h3 e
theorem jSame (l m : List Int) (hb : l.length < 4000000000000000000) : Con Tryz.prog 98 [.one (limbs l), .one (limbs m)] (.g (truth (decide (l = m)))) := by
  by_cases hl : l.length = m.length
  · have h := same_loop l m hl hb l.length 0 (by omega)
    by_cases e : l = m
    · exact (by_ (.g (truth true)) Tryz.func98 rfl [ends (show ((l.length : Int) != (m.length : Int)) = false by simp; omega), goes (h.1 (by simpa using e)).loop] (by kernel_rfl)).to (by rw [decide_eq_true e])
    · exact (by_ (.g (truth false)) Tryz.func98 rfl [ends (show ((l.length : Int) != (m.length : Int)) = false by simp; omega), goes (h.2 (by simpa using e)).loop] (by kernel_rfl)).to (by rw [decide_eq_false e])
  · refine (by_ (.g (truth false)) Tryz.func98 rfl [ends (show ((l.length : Int) != (m.length : Int)) = true by simp; omega)] (by kernel_rfl)).to ?_
    rw [decide_eq_false (fun e => hl (by rw [e]))]
theorem jNorm (b : Bool) (l : List Int) (h : few 50000 l) : Con Tryz.prog 59 [int b l] (.g (zi (zval b l))) := by
  have T := foliotref01_Trim.con l _ (if_pos (rf h))
  cases b
  · exact (by_ (.g (.agg [.v (.bool false), limbs (ofN (val l))])) Tryz.func59 rfl [gives T, ends (rfl : false = false)] (by kernel_rfl)).to (zi_of (b := false) rfl rfl)
  · exact (by_ (.g (.agg [.v (.bool (decide (((ofN (val l)).length : Int) > 0))), limbs (ofN (val l))])) Tryz.func59 rfl [gives T, ends (rfl : true = true)] (by kernel_rfl)).to (zi_of (b := true) (len_pos _) rfl)
theorem jNeg (b : Bool) (l : List Int) (h : few 50000 l) : Con Tryz.prog 96 [int b l] (.g (zi (-zval b l))) := (by_ (.g (zi (zval (!b) l))) Tryz.func96 rfl [gives (jNorm (!b) l h)] (by kernel_rfl)).to (by rw [zval_not])
theorem few_ofN {n : Nat} (h : (ofN n).length ≤ 50000) : few 50000 (ofN n) := ⟨lim_ofN _, h⟩
theorem jAdd (b : Bool) (l : List Int) (c : Bool) (m : List Int) (hl : few 20000 l) (hm : few 20000 m) : Con Tryz.prog 65 [int b l, int c m] (.g (zi (zval b l + zval c m))) := by
  have hA : (ofN (zval b l).natAbs).length ≤ 20000 := few_zval hl
  have hB : (ofN (zval c m).natAbs).length ≤ 20000 := few_zval hm
  have fx := rf (few_zi (z := zval b l) (by omega))
  have fy := rf (few_zi (z := zval c m) (by omega))
  have N1 := jNorm b l ⟨hl.1, by have := hl.2; omega⟩
  have N2 := jNorm c m ⟨hm.1, by have := hm.2; omega⟩
  generalize zval b l = x at *
  generalize zval c m = y at *
  by_cases e : decide (x < 0) = decide (y < 0)
  · have ea : foliotref01_Add.f (ofZ x).2 (ofZ y).2 = some (ofN (x.natAbs + y.natAbs)) := by
      unfold foliotref01_Add.f; rw [if_pos ⟨fx, fy⟩, val_zi, val_zi]
    have h3 := len_add x.natAbs y.natAbs
    refine (by_ (.g (zi (zval (decide (x < 0)) (ofN (x.natAbs + y.natAbs))))) Tryz.func65 rfl [gives N1, gives N2, ends (show (decide (x < 0) == decide (y < 0)) = true by simpa using e), gives (foliotref01_Add.con _ _ _ ea), gives (jNorm (decide (x < 0)) (ofN (x.natAbs + y.natAbs)) (few_ofN (by omega)))] (by kernel_rfl)).to (congrArg (fun z => AV.g (zi z)) ?_)
    rw [zval_ofN]
    unfold sg
    rw [decide_eq_decide] at e
    split <;> rename_i h <;> simp at h <;> omega
  · have ef : (decide (x < 0) == decide (y < 0)) = false := by simpa using e
    have ec : foliotref01_Cmp.f (ofZ x).2 (ofZ y).2 = some (Nb.cmp3 x.natAbs y.natAbs) := by
      unfold foliotref01_Cmp.f; rw [if_pos ⟨fx, fy⟩, val_zi, val_zi]
    rw [decide_eq_decide] at e
    by_cases hlt : x.natAbs < y.natAbs
    · have es : foliotref01_Sub.f (ofZ y).2 (ofZ x).2 = some (ofN (y.natAbs - x.natAbs), 0) := by
        unfold foliotref01_Sub.f; rw [if_pos ⟨fy, fx⟩, val_zi, val_zi, if_neg (by omega)]
      have h3 : (ofN (y.natAbs - x.natAbs)).length ≤ (ofN y.natAbs).length := len_mono (Nat.sub_le _ _)
      refine (by_ (.g (zi (zval (decide (y < 0)) (ofN (y.natAbs - x.natAbs))))) Tryz.func65 rfl [gives N1, gives N2, ends ef, gives (foliotref01_Cmp.con _ _ _ ec), ends (show decide (Nb.cmp3 x.natAbs y.natAbs ≥ 0) = false by unfold Nb.cmp3; rw [if_pos hlt]; rfl), gives (foliotref01_Sub.con _ _ _ _ es), gives (jNorm (decide (y < 0)) (ofN (y.natAbs - x.natAbs)) (few_ofN (by omega)))] (by kernel_rfl)).to (congrArg (fun z => AV.g (zi z)) ?_)
      rw [zval_ofN]
      unfold sg
      split <;> rename_i h <;> simp at h <;> omega
    · have es : foliotref01_Sub.f (ofZ x).2 (ofZ y).2 = some (ofN (x.natAbs - y.natAbs), 0) := by
        unfold foliotref01_Sub.f; rw [if_pos ⟨fx, fy⟩, val_zi, val_zi, if_neg (by omega)]
      have h3 : (ofN (x.natAbs - y.natAbs)).length ≤ (ofN x.natAbs).length := len_mono (Nat.sub_le _ _)
      refine (by_ (.g (zi (zval (decide (x < 0)) (ofN (x.natAbs - y.natAbs))))) Tryz.func65 rfl [gives N1, gives N2, ends ef, gives (foliotref01_Cmp.con _ _ _ ec), ends (show decide (Nb.cmp3 x.natAbs y.natAbs ≥ 0) = true by unfold Nb.cmp3; rw [if_neg hlt]; split <;> rfl), gives (foliotref01_Sub.con _ _ _ _ es), gives (jNorm (decide (x < 0)) (ofN (x.natAbs - y.natAbs)) (few_ofN (by omega)))] (by kernel_rfl)).to (congrArg (fun z => AV.g (zi z)) ?_)
      rw [zval_ofN]
      unfold sg
      split <;> rename_i h <;> simp at h <;> omega
theorem few_up {k n : Nat} {l : List Int} (h : few k l) (hk : k ≤ n) : few n l := ⟨h.1, Nat.le_trans h.2 hk⟩
theorem jMul (b : Bool) (l : List Int) (c : Bool) (m : List Int) (hl : few 20000 l) (hm : few 20000 m) : Con Tryz.prog 53 [int b l, int c m] (.g (zi (zval b l * zval c m))) := by
  have h1 := few_len (few_up hl (n := 50000) (by decide))
  have h2 : (ofN (val l)).length ≤ 20000 := Nat.le_trans (len_val_le hl.1) hl.2
  have h4 : (ofN (val m)).length ≤ 20000 := Nat.le_trans (len_val_le hm.1) hm.2
  have h3 := len_mul (val l) (val m)
  exact (by_ (.g (zi (zval (!(b == c)) (ofN (val l * val m))))) Tryz.func53 rfl [gives (foliotref01_Mul.con l m _ (if_pos ⟨rf (few_up hl (by decide)), rf (few_up hm (by decide))⟩)), gives (jNorm (!(b == c)) (ofN (val l * val m)) (few_ofN (by omega)))] (by kernel_rfl)).to (congrArg (fun z => AV.g (zi z)) (zval_mul b c l m))
theorem jSign (b : Bool) (l : List Int) (h : few 50000 l) : Con Tryz.prog 95 [int b l] (.g (num (sgn (zval b l)))) := by
  have N := jNorm b l h
  have hp := len_ofZ_pos (zval b l)
  generalize zval b l = x at *
  by_cases h0 : x = 0
  · subst h0
    exact by_ _ Tryz.func95 rfl [gives N, ends (show ((((ofN (0 : Int).natAbs).length : Nat) : Int) == 0) = true by rw [show (0 : Int).natAbs = 0 from rfl, ofN_zero]; rfl)] (by kernel_rfl)
  · have hz : ((((ofN x.natAbs).length : Nat) : Int) == 0) = false := by
      have := hp.2 h0
      have e : (ofZ x).2.length = (ofN x.natAbs).length := rfl
      rw [beq_eq_false_iff_ne]; omega
    by_cases h1 : x < 0
    · exact (by_ (.g (num (-1))) Tryz.func95 rfl [gives N, ends hz, ends (decide_eq_true h1)] (by kernel_rfl)).to (by unfold sgn; rw [if_pos h1])
    · exact (by_ (.g (num 1)) Tryz.func95 rfl [gives N, ends hz, ends (decide_eq_false h1)] (by kernel_rfl)).to (by unfold sgn; rw [if_neg h1, if_pos (by omega)])
theorem jPrint (b : Bool) (l : List Int) (h : few 50000 l) : Con Tryz.prog 72 [int b l] (.g (text' (printZ (zval b l)))) := by
  have N := jNorm b l h
  have h3 := few_of (b := b) h
  generalize zval b l = x at *
  have T := foliotref01_Print.con (ofZ x).2 _ (if_pos (rf (few_zi h3)))
  rw [val_zi] at T
  have h2 := text_size x.natAbs
  by_cases hz : x < 0
  · exact (by_ (.g (text' ((⟨#[45]⟩ : ByteArray) ++ text x.natAbs))) Tryz.func72 rfl [gives N, ends (decide_eq_true hz), gives T, fact (show (((⟨#[45]⟩ : ByteArray).size + (text x.natAbs).size : Nat) : Int) ≤ IntKind.i64.max by rw [show IntKind.i64.max = 9223372036854775807 from rfl, show (⟨#[45]⟩ : ByteArray).size = 1 from rfl]; omega)] (by kernel_rfl)).to (by unfold printZ; rw [if_pos hz])
  · exact (by_ (.g (text' (text x.natAbs))) Tryz.func72 rfl [gives N, ends (decide_eq_false hz), gives T] (by kernel_rfl)).to (by unfold printZ; rw [if_neg hz])
theorem jSameZ (b : Bool) (l : List Int) (c : Bool) (m : List Int) (h : l.length < 4000000000000000000) : Con Tryz.prog 97 [int b l, int c m] (.g (truth (decide (b = c ∧ l = m)))) := by
  have S := jSame l m h
  by_cases e : b = c
  · subst e
    exact (by_ (.g (truth (decide (l = m)))) Tryz.func97 rfl [ends (show (b == b) = true by simp), gives S] (by kernel_rfl)).to (by simp)
  · exact (by_ (.g (truth false)) Tryz.func97 rfl [ends (show (b == c) = false by simpa using e)] (by kernel_rfl)).to (by simp [e])
end Go.Proofs.YtaclkccgjpjdjaaGreat.Ev
end
section
/- Rational numbers, as they are told by a sign and limbs. No condition. -/
namespace Go.Proofs.YtaclkccgjpjdjaaGreat.Ev
open Go Go.RowKit Go.Proofs.YtaclkccgjpjdjaaGreatW.PrintWords Go.Proofs.YtaclkccgjpjdjaaGreatW.PrintMore Go.Proofs.YtaclkccgjpjdjaaGreatW.PrintLast Go.Proofs.YtaclkccgjpjdjaaGreat Go.Proofs.YtaclkccgjpjdjaaGreat.Nt Go.Proofs.YtaclkccgjpjdjaaGreat.Zi
set_option linter.unusedVariables false
set_option linter.unusedSimpArgs false
def rv (b : Bool) (l d : List Int) : Rat := mkRat (zval b l) (val d)
def rat (b : Bool) (l d : List Int) : AG := .agg [.v (.bool b), limbs l, limbs d]
def ra (x : Rat) : AG := rat (ofZ x.num).1 (ofZ x.num).2 (ofN x.den)
def short (k : Nat) (x : Rat) : Prop := (ofN x.num.natAbs).length ≤ k ∧ (ofN x.den).length ≤ k
theorem rv_told (x : Rat) : rv (ofZ x.num).1 (ofZ x.num).2 (ofN x.den) = x := by
  unfold rv
  rw [zval_ofZ, val_ofN, Rat.mkRat_self]
theorem num_le (n : Int) (d : Nat) : (mkRat n d).num.natAbs ≤ n.natAbs := by
  rw [Rat.num_mkRat]
  split
  · simp
  · rw [Int.natAbs_ediv_of_dvd (Int.ofNat_dvd_left.2 (Nat.gcd_dvd_right d n.natAbs))]
    exact Nat.div_le_self _ _
theorem den_le {n : Int} {d : Nat} (h : d ≠ 0) : (mkRat n d).den ≤ d := by
  rw [Rat.den_mkRat, if_neg h]
  exact Nat.div_le_self _ _
theorem short_mk {k : Nat} {n : Int} {d : Nat} (hd : d ≠ 0) (h1 : (ofN n.natAbs).length ≤ k) (h2 : (ofN d).length ≤ k) : short k (mkRat n d) :=
  ⟨Nat.le_trans (len_mono (num_le n d)) h1, Nat.le_trans (len_mono (den_le hd)) h2⟩
theorem len_pos' {n : Nat} (h : n ≠ 0) : 1 ≤ (ofN n).length := List.length_pos_iff.2 (fun e => h (ofN_nil.1 e))
theorem short_rv {k : Nat} {b : Bool} {l d : List Int} (hl : few k l) (hd : few k d) (hk : 1 ≤ k) : short k (rv b l d) := by
  by_cases h : val d = 0
  · unfold rv
    rw [h, Rat.mkRat_zero]
    exact ⟨by show (ofN 0).length ≤ k; rw [ofN_zero]; simp, by show (ofN 1).length ≤ k; exact hk⟩
  · exact short_mk h (few_zval hl) (Nat.le_trans (len_val_le hd.1) hd.2)
theorem short_neg {k : Nat} {x : Rat} (h : short k x) : short k (-x) := by
  unfold short at *
  rw [Rat.neg_num, Rat.neg_den, Int.natAbs_neg]
  exact h
theorem short_add {k m : Nat} {x y : Rat} (hx : short k x) (hy : short m y) : short (k + m + 1) (x + y) := by
  rw [Rat.add_def']
  refine short_mk (Nat.mul_ne_zero x.den_nz y.den_nz) ?_ ?_
  · have h1 := @len_natAbs_add (x.num * y.den) (y.num * x.den)
    have h2 := @len_natAbs_mul x.num (y.den : Int)
    have h3 := @len_natAbs_mul y.num (x.den : Int)
    have := hx.1; have := hx.2; have := hy.1; have := hy.2
    simp only [Int.natAbs_natCast] at h2 h3
    omega
  · have := len_mul x.den y.den
    have := hx.2; have := hy.2
    omega
theorem short_sub {k m : Nat} {x y : Rat} (hx : short k x) (hy : short m y) : short (k + m + 1) (x - y) := by
  rw [Rat.sub_eq_add_neg]
  exact short_add hx (short_neg hy)
theorem short_mul {k m : Nat} {x y : Rat} (hx : short k x) (hy : short m y) : short (k + m) (x * y) := by
  rw [Rat.mul_def']
  refine short_mk (Nat.mul_ne_zero x.den_nz y.den_nz) ?_ ?_
  · have h2 := @len_natAbs_mul x.num y.num
    have := hx.1; have := hy.1
    omega
  · have := len_mul x.den y.den
    have := hx.2; have := hy.2
    omega
theorem short_inv {k : Nat} {x : Rat} (hx : short k x) (hk : 1 ≤ k) : short k x⁻¹ := by
  unfold short
  rw [Rat.num_inv, Rat.den_inv]
  refine ⟨?_, ?_⟩
  · rw [Int.natAbs_mul]
    by_cases h : x.num = 0
    · rw [h]; simp [ofN_zero]
    · rw [Int.natAbs_sign_of_ne_zero h]
      simpa using hx.2
  · split
    · exact hk
    · exact hx.1
theorem short_div {k m : Nat} {x y : Rat} (hx : short k x) (hy : short m y) (hm : 1 ≤ m) : short (k + m) (x / y) := by
  rw [Rat.div_def]
  exact short_mul hx (short_inv hy hm)
theorem short.num {k : Nat} {x : Rat} (h : short k x) : few k (ofZ x.num).2 := few_ofZ h.1
theorem short.den {k : Nat} {x : Rat} (h : short k x) : few k (ofN x.den) := ⟨lim_ofN _, h.2⟩
theorem red_num (b : Bool) (m : List Int) (D : Nat) (hD : D ≠ 0) : zval b (ofN (val m / Nat.gcd (val m) D)) = (mkRat (zval b m) D).num := by
  rw [zval_ofN, Rat.num_mkRat, if_neg hD]
  unfold sg zval
  cases b
  · simp [Int.gcd, Nat.gcd_comm]
  · simp only [if_true]
    rw [Int.neg_ediv_of_dvd]
    · simp [Int.gcd, Nat.gcd_comm]
    · simp only [Int.gcd, Int.natAbs_neg, Int.natAbs_natCast]
      exact Int.ofNat_dvd.2 (by first | exact Nat.gcd_dvd_left _ _ | exact Nat.gcd_dvd_right _ _)
theorem red_den (b : Bool) (m : List Int) (D : Nat) (hD : D ≠ 0) : D / Nat.gcd (val m) D = (mkRat (zval b m) D).den := by
  rw [Rat.den_mkRat, if_neg hD, abs_zval, Nat.gcd_comm]
end Go.Proofs.YtaclkccgjpjdjaaGreat.Ev
end
section
/- Rational numbers: what the program's functions yield, by the executor. -/
namespace Go.Proofs.YtaclkccgjpjdjaaGreat.Ev
open Go Go.RowKit Go.Proofs.YtaclkccgjpjdjaaGreatW.PrintWords Go.Proofs.YtaclkccgjpjdjaaGreatW.PrintMore Go.Proofs.YtaclkccgjpjdjaaGreatW.PrintLast Go.Proofs.YtaclkccgjpjdjaaGreat Go.Proofs.YtaclkccgjpjdjaaGreat.Nt Go.Proofs.YtaclkccgjpjdjaaGreat.Zi
set_option linter.unusedVariables false
set_option linter.unusedSimpArgs false
theorem ndiv {l m : List Int} (hl : fits l) (hm : fits m) (h : val m ≠ 0) : nat_Div.f l m = some (ofN (val l / val m), ofN (val l % val m), 0) := by unfold nat_Div.f; rw [if_pos ⟨hl, hm⟩, if_neg h]
theorem lowest (b : Bool) (m d : List Int) (hm : few 50000 m) (hd : few 50000 d) (h : val d ≠ 0) : Con Tryz.prog 58 [int b m, .one (limbs d)] (.g (ra (mkRat (zval b m) (val d)))) := by
  have hg : Nat.gcd (val m) (val d) ≠ 0 := fun e => h (Nat.gcd_eq_zero_iff.1 e).2
  have hgl : (ofN (Nat.gcd (val m) (val d))).length ≤ 50000 := Nat.le_trans (len_mono (Nat.gcd_le_right _ (Nat.pos_of_ne_zero h))) (few_len hd)
  have fg : fits (ofN (Nat.gcd (val m) (val d))) := fits_ofN (by omega)
  have e1 := ndiv (ff hm) fg (by rw [val_ofN]; exact hg)
  have e2 := ndiv (ff hd) fg (by rw [val_ofN]; exact hg)
  rw [val_ofN] at e1 e2
  have hq : (ofN (val m / Nat.gcd (val m) (val d))).length ≤ 50000 := Nat.le_trans (len_mono (Nat.div_le_self _ _)) (few_len hm)
  have N := iNorm b (ofN (val m / Nat.gcd (val m) (val d))) (few_ofN hq)
  rw [red_num b m (val d) h] at N
  have hden := red_den b m (val d) h
  rw [hden] at e2
  exact by_ _ Tryz.func58 rfl [gives (nat_Gcd.con m d _ (if_pos ⟨ff hm, ff hd⟩)), gives (nat_Div.con _ _ _ _ _ e1), gives (nat_Div.con _ _ _ _ _ e2), gives N] (by kernel_rfl)
theorem zAdd {x y : Int} (hx : few 50000 (ofZ x).2) (hy : few 50000 (ofZ y).2) : Con Tryz.prog 63 [zi x, zi y] (.g (zi (x + y))) := by
  have A := iAdd (ofZ x).1 (ofZ x).2 (ofZ y).1 (ofZ y).2 hx hy
  rw [zval_ofZ, zval_ofZ] at A
  exact A
theorem zCmp {x y : Int} (hx : few 50000 (ofZ x).2) (hy : few 50000 (ofZ y).2) : Con Tryz.prog 69 [zi x, zi y] (.g (num (cmpZ x y))) := by
  have A := iCmp (ofZ x).1 (ofZ x).2 (ofZ y).1 (ofZ y).2 hx hy
  rw [zval_ofZ, zval_ofZ] at A
  exact A
theorem one1 : ofN 1 = [1] := rfl
theorem qOf {n : Int} (h0 : -9223372036854775808 ≤ n) (h1 : n < 9223372036854775808) : Con Tryz.prog 57 [num n] (.g (ra (n : Rat))) := by
  have e : ra (n : Rat) = rat (ofZ n).1 (ofZ n).2 [1] := by unfold ra; rw [Rat.num_intCast, Rat.den_intCast, one1]
  rw [e]
  exact by_ _ Tryz.func57 rfl [gives (iOf h0 h1)] (by kernel_rfl)
theorem qNorm (b : Bool) (l d : List Int) (hl : few 2000 l) (hd : few 2000 d) : Con Tryz.prog 24 [rat b l d] (.g (ra (rv b l d))) := by
  have hl' := few_up hl (n := 50000) (by decide)
  have hd' := few_up hd (n := 50000) (by decide)
  have B := nat_Bits.con d _ (if_pos (ff hd'))
  by_cases h : val d = 0
  · have O := qOf (n := 0) (by omega) (by omega)
    have e : rv b l d = ((0 : Int) : Rat) := by unfold rv; rw [h, Rat.mkRat_zero]; rfl
    rw [e]
    rw [h] at B
    exact by_ _ Tryz.func24 rfl [gives B, ends (rfl : ((((Nb.bitsN 0).length : Nat) : Int) == 0) = true), gives O] (by kernel_rfl)
  · exact by_ _ Tryz.func24 rfl [gives B, ends (show ((((Nb.bitsN (val d)).length : Nat) : Int) == 0) = false by
      rw [beq_eq_false_iff_ne]; intro e; exact h (Nb.bitsN_eq_nil.1 (by omega))), gives (lowest b l d hl' hd' h)] (by kernel_rfl)
theorem times (b : Bool) (l d : List Int) (hl : few 50000 l) (hd : few 50000 d) : Con Tryz.prog 50 [int b l, .one (limbs d)] (.g (zi (zval b l * (val d : Int)))) :=
  by_ _ Tryz.func50 rfl [gives (iMul b l false d hl hd)] (by kernel_rfl)
section
variable {x y : Rat}
theorem sN (h : short 2000 x) : few 50000 (ofZ x.num).2 := few_up h.num (by decide)
theorem sD (h : short 2000 x) : few 50000 (ofN x.den) := few_up h.den (by decide)
theorem tT (hx : short 2000 x) (hy : short 2000 y) : Con Tryz.prog 50 [zi x.num, .one (limbs (ofN y.den))] (.g (zi (x.num * (y.den : Int)))) ∧ few 50000 (ofZ (x.num * (y.den : Int))).2 := by
  have T := times (ofZ x.num).1 (ofZ x.num).2 (ofN y.den) (sN hx) (sD hy)
  rw [zval_ofZ, val_ofN] at T
  have h2 := @len_natAbs_mul x.num (y.den : Int)
  have h3 := hx.1
  have h4 := hy.2
  simp only [Int.natAbs_natCast] at h2
  exact ⟨T, few_zi (by omega)⟩
end
def cmpR (x y : Rat) : Int := if x < y then -1 else if y < x then 1 else 0
theorem cmpR_of (x y : Rat) : cmpZ (x.num * (y.den : Int)) (y.num * (x.den : Int)) = cmpR x y := by
  unfold cmpZ sgn cmpR
  simp only [Rat.lt_iff]
  repeat' split
  all_goals omega
section
variable (b : Bool) (l d : List Int) (c : Bool) (m e : List Int)
theorem qCmp (hl : few 2000 l) (hd : few 2000 d) (hm : few 2000 m) (he : few 2000 e) : Con Tryz.prog 34 [rat b l d, rat c m e] (.g (num (cmpR (rv b l d) (rv c m e)))) := by
  have N1 := qNorm b l d hl hd
  have N2 := qNorm c m e hm he
  have hx := short_rv (b := b) hl hd (by decide)
  have hy := short_rv (b := c) hm he (by decide)
  generalize rv b l d = x at *
  generalize rv c m e = y at *
  have C := zCmp (tT hx hy).2 (tT hy hx).2
  rw [cmpR_of] at C
  exact by_ _ Tryz.func34 rfl [gives N1, gives N2, gives (tT hx hy).1, gives (tT hy hx).1, gives C] (by kernel_rfl)
theorem qWhole (hl : few 2000 l) (hd : few 2000 d) : Con Tryz.prog 74 [rat b l d] (.g (truth (decide ((rv b l d).den = 1)))) := by
  have N1 := qNorm b l d hl hd
  have hx := short_rv (b := b) hl hd (by decide)
  generalize rv b l d = x at *
  have f1 : fits [1] := fits_ofN (n := 1) (by decide)
  have hp := Nat.pos_of_ne_zero x.den_nz
  have e1 : nat_Cmp.f (ofN x.den) [1] = some (if x.den = 1 then 0 else 1) := by
    unfold nat_Cmp.f
    rw [if_pos ⟨ff (sD hx), f1⟩, val_ofN, show val [1] = 1 from rfl]
    congr 1
    by_cases h1 : x.den = 1
    · rw [h1]; rfl
    · rw [if_neg (by omega), if_pos (by omega), if_neg h1]
  by_cases h1 : x.den = 1
  · rw [if_pos h1] at e1
    rw [decide_eq_true h1]
    exact by_ _ Tryz.func74 rfl [gives N1, gives (nat_Cmp.con _ _ _ e1)] (by kernel_rfl)
  · rw [if_neg h1] at e1
    rw [decide_eq_false h1]
    exact by_ _ Tryz.func74 rfl [gives N1, gives (nat_Cmp.con _ _ _ e1)] (by kernel_rfl)
theorem ra_neg (x : Rat) : ra (-x) = .agg [.v (.bool (ofZ (-x.num)).1), limbs (ofZ (-x.num)).2, limbs (ofN x.den)] := by unfold ra; rw [Rat.neg_num, Rat.neg_den]; rfl
theorem qNeg (hl : few 2000 l) (hd : few 2000 d) : Con Tryz.prog 32 [rat b l d] (.g (ra (-rv b l d))) := by
  have N1 := qNorm b l d hl hd
  have hx := short_rv (b := b) hl hd (by decide)
  generalize rv b l d = x at *
  have G := iNeg (ofZ x.num).1 (ofZ x.num).2 (sN hx)
  rw [zval_ofZ] at G
  rw [ra_neg]
  exact by_ _ Tryz.func32 rfl [gives N1, gives G] (by kernel_rfl)
theorem dD {x y : Rat} (hx : short 2000 x) (hy : short 2000 y) : Con Tryz.prog 64 [.one (limbs (ofN x.den)), .one (limbs (ofN y.den))] (.g (.one (limbs (ofN (x.den * y.den))))) ∧ few 50000 (ofN (x.den * y.den)) := by
  have M := nat_Mul.con (ofN x.den) (ofN y.den) _ (if_pos ⟨ff (sD hx), ff (sD hy)⟩)
  rw [val_ofN, val_ofN] at M
  have := len_mul x.den y.den
  have := hx.2
  have := hy.2
  exact ⟨M, few_ofN (by omega)⟩
theorem qAdd (hl : few 2000 l) (hd : few 2000 d) (hm : few 2000 m) (he : few 2000 e) : Con Tryz.prog 26 [rat b l d, rat c m e] (.g (ra (rv b l d + rv c m e))) := by
  have N1 := qNorm b l d hl hd
  have N2 := qNorm c m e hm he
  have hx := short_rv (b := b) hl hd (by decide)
  have hy := short_rv (b := c) hm he (by decide)
  generalize rv b l d = x at *
  generalize rv c m e = y at *
  have A := zAdd (tT hx hy).2 (tT hy hx).2
  have h1 := @len_natAbs_add (x.num * y.den) (y.num * x.den)
  have h2 := @len_natAbs_mul x.num (y.den : Int)
  have h3 := @len_natAbs_mul y.num (x.den : Int)
  have := hx.1; have := hx.2; have := hy.1; have := hy.2
  simp only [Int.natAbs_natCast] at h2 h3
  have L := lowest (ofZ (x.num * (y.den : Int) + y.num * (x.den : Int))).1 _ _ (few_zi (z := x.num * (y.den : Int) + y.num * (x.den : Int)) (by omega)) (dD hx hy).2 (by rw [val_ofN]; exact Nat.mul_ne_zero x.den_nz y.den_nz)
  rw [zval_ofZ, val_ofN, ← Rat.add_def'] at L
  exact by_ _ Tryz.func26 rfl [gives N1, gives N2, gives (tT hx hy).1, gives (tT hy hx).1, gives A, gives (dD hx hy).1, gives L] (by kernel_rfl)
theorem qSub (hl : few 2000 l) (hd : few 2000 d) (hm : few 2000 m) (he : few 2000 e) : Con Tryz.prog 28 [rat b l d, rat c m e] (.g (ra (rv b l d - rv c m e))) := by
  have G := qNeg c m e hm he
  have hy := short_neg (short_rv (b := c) hm he (by decide))
  have A := qAdd b l d (ofZ (-rv c m e).num).1 (ofZ (-rv c m e).num).2 (ofN (-rv c m e).den) hl hd hy.num hy.den
  rw [rv_told, ← Rat.sub_eq_add_neg] at A
  exact by_ _ Tryz.func28 rfl [gives G, gives A] (by kernel_rfl)
theorem qMul (hl : few 2000 l) (hd : few 2000 d) (hm : few 2000 m) (he : few 2000 e) : Con Tryz.prog 30 [rat b l d, rat c m e] (.g (ra (rv b l d * rv c m e))) := by
  have N1 := qNorm b l d hl hd
  have N2 := qNorm c m e hm he
  have hx := short_rv (b := b) hl hd (by decide)
  have hy := short_rv (b := c) hm he (by decide)
  generalize rv b l d = x at *
  generalize rv c m e = y at *
  have M := iMul (ofZ x.num).1 (ofZ x.num).2 (ofZ y.num).1 (ofZ y.num).2 (sN hx) (sN hy)
  rw [zval_ofZ, zval_ofZ] at M
  have h2 := @len_natAbs_mul x.num y.num
  have := hx.1; have := hy.1
  have L := lowest (ofZ (x.num * y.num)).1 _ _ (few_zi (z := x.num * y.num) (by omega)) (dD hx hy).2 (by rw [val_ofN]; exact Nat.mul_ne_zero x.den_nz y.den_nz)
  rw [zval_ofZ, val_ofN, ← Rat.mul_def'] at L
  exact by_ _ Tryz.func30 rfl [gives N1, gives N2, gives M, gives (dD hx hy).1, gives L] (by kernel_rfl)
def makeT (n z : Int) : AV := if z = 0 then .tup [rat false [] [], num 3] else .tup [ra (Rat.divInt n z), num 0]
theorem qMake (hl : few 50000 l) (hm : few 50000 m) : Con Tryz.prog 49 [int b l, int c m] (makeT (zval b l) (zval c m)) := by
  have S := iSign c m hm
  have hv : val m = (zval c m).natAbs := (abs_zval c m).symm
  unfold makeT
  by_cases h0 : zval c m = 0
  · rw [h0] at S
    rw [if_pos h0]
    exact by_ _ Tryz.func49 rfl [gives S, ends (rfl : (sgn 0 == 0) = true)] (by kernel_rfl)
  · rw [if_neg h0]
    have hvm : val m ≠ 0 := by omega
    by_cases h1 : zval c m < 0
    · rw [show sgn (zval c m) = -1 by unfold sgn; rw [if_pos h1]] at S
      have L := lowest (ofZ (-zval b l)).1 (ofZ (-zval b l)).2 m (few_zi (by rw [Int.natAbs_neg]; exact few_of hl)) hm hvm
      rw [zval_ofZ, show mkRat (-zval b l) (val m) = Rat.divInt (zval b l) (zval c m) by
        rw [← Rat.divInt_ofNat, hv, show ((zval c m).natAbs : Int) = -zval c m by omega, Rat.divInt_neg', Int.neg_neg]] at L
      exact by_ _ Tryz.func49 rfl [gives S, ends (rfl : ((-1 : Int) == 0) = false), ends (rfl : ((-1 : Int) == -1) = true), gives (iNeg b l hl), gives L] (by kernel_rfl)
    · rw [show sgn (zval c m) = 1 by unfold sgn; rw [if_neg h1, if_pos (by omega)]] at S
      have L := lowest b l m hl hm hvm
      rw [show mkRat (zval b l) (val m) = Rat.divInt (zval b l) (zval c m) by
        rw [← Rat.divInt_ofNat, hv, show ((zval c m).natAbs : Int) = zval c m by omega]] at L
      exact by_ _ Tryz.func49 rfl [gives S, ends (rfl : ((1 : Int) == 0) = false), ends (rfl : ((1 : Int) == -1) = false), gives L] (by kernel_rfl)
def divR (x y : Rat) : AV := if y = 0 then .tup [rat false [] [], num 3] else .tup [ra (x / y), num 0]
theorem makeT_div (x y : Rat) : makeT (x.num * (y.den : Int)) (y.num * (x.den : Int)) = divR x y := by
  unfold makeT divR
  have hx := x.den_nz
  by_cases h : y = 0
  · subst h
    rw [if_pos (by show (0 : Int) * _ = 0; omega), if_pos rfl]
  · have hn : y.num ≠ 0 := fun e => h (Rat.num_eq_zero.1 e)
    rw [if_neg (Int.mul_ne_zero hn (by omega)), if_neg h]
    congr 4
    rw [Rat.div_def, Rat.inv_def]
    conv => rhs; rw [← Rat.mkRat_self x, ← Rat.divInt_ofNat]
    rw [Rat.divInt_mul_divInt, Int.mul_comm y.num]
theorem qDiv (hl : few 2000 l) (hd : few 2000 d) (hm : few 2000 m) (he : few 2000 e) : Con Tryz.prog 21 [rat b l d, rat c m e] (divR (rv b l d) (rv c m e)) := by
  have N1 := qNorm b l d hl hd
  have N2 := qNorm c m e hm he
  have hx := short_rv (b := b) hl hd (by decide)
  have hy := short_rv (b := c) hm he (by decide)
  generalize rv b l d = x at *
  generalize rv c m e = y at *
  have M := qMake (ofZ (x.num * (y.den : Int))).1 _ (ofZ (y.num * (x.den : Int))).1 _ (tT hx hy).2 (tT hy hx).2
  rw [zval_ofZ, zval_ofZ, makeT_div] at M
  unfold divR at *
  by_cases h : y = 0
  · rw [if_pos h] at *
    exact by_ _ Tryz.func21 rfl [gives N1, gives N2, gives (tT hx hy).1, gives (tT hy hx).1, gives M] (by kernel_rfl)
  · rw [if_neg h] at *
    exact by_ _ Tryz.func21 rfl [gives N1, gives N2, gives (tT hx hy).1, gives (tT hy hx).1, gives M] (by kernel_rfl)
theorem qFloor (hl : few 2000 l) (hd : few 2000 d) : Con Tryz.prog 73 [rat b l d] (.g (zi (rv b l d).floor)) := by
  have N1 := qNorm b l d hl hd
  have hx := short_rv (b := b) hl hd (by decide)
  generalize rv b l d = x at *
  have D := iDiv (ofZ x.num).1 (ofZ x.num).2 false (ofN x.den) (sN hx) (sD hx)
  have hz : zval false (ofN x.den) = (x.den : Int) := by rw [zval_ofN]; rfl
  have hd0 : (x.den : Int) ≠ 0 := by have := x.den_nz; omega
  rw [zval_ofZ, hz] at D
  unfold divT at D
  rw [if_neg hd0] at D
  have e : x.num.fdiv (x.den : Int) = x.floor := by rw [Rat.floor_def, Int.fdiv_eq_ediv_of_nonneg _ (by omega)]
  rw [e] at D
  exact by_ _ Tryz.func73 rfl [gives N1, gives D] (by kernel_rfl)
def printR (x : Rat) : ByteArray := if x.den = 1 then printZ x.num else (printZ x.num ++ (⟨#[47]⟩ : ByteArray)) ++ text x.den
theorem printZ_size (z : Int) : (printZ z).size ≤ 10 * (ofN z.natAbs).length + 2 := by
  have := text_size z.natAbs
  unfold printZ
  split
  · rw [ByteArray.size_append, show (⟨#[45]⟩ : ByteArray).size = 1 from rfl]; omega
  · omega
theorem qPrint (hl : few 2000 l) (hd : few 2000 d) : Con Tryz.prog 71 [rat b l d] (.g (text' (printR (rv b l d)))) := by
  have N1 := qNorm b l d hl hd
  have hx := short_rv (b := b) hl hd (by decide)
  generalize rv b l d = x at *
  have W := qWhole (ofZ x.num).1 (ofZ x.num).2 (ofN x.den) hx.num hx.den
  rw [rv_told] at W
  have P := iPrint (ofZ x.num).1 (ofZ x.num).2 (sN hx)
  rw [zval_ofZ] at P
  have h1 := printZ_size x.num
  have h2 := text_size x.den
  have h3 := hx.1
  have h4 := hx.2
  unfold printR
  by_cases h : x.den = 1
  · rw [if_pos h]
    exact by_ _ Tryz.func71 rfl [gives N1, gives W, ends (decide_eq_true h), gives P] (by kernel_rfl)
  · rw [if_neg h]
    have T := nat_Print.con (ofN x.den) _ (if_pos (ff (sD hx)))
    rw [val_ofN] at T
    have hm : IntKind.i64.max = 9223372036854775807 := rfl
    have h47 : (⟨#[47]⟩ : ByteArray).size = 1 := rfl
    exact by_ _ Tryz.func71 rfl [gives N1, gives W, ends (decide_eq_false h), gives P, fact (show (((printZ x.num).size + (⟨#[47]⟩ : ByteArray).size : Nat) : Int) ≤ IntKind.i64.max by rw [hm, h47]; omega), gives T,
      fact (show (((printZ x.num ++ (⟨#[47]⟩ : ByteArray)).size + (text x.den).size : Nat) : Int) ≤ IntKind.i64.max by rw [hm, ByteArray.size_append, h47]; omega)] (by kernel_rfl)
end
end Go.Proofs.YtaclkccgjpjdjaaGreat.Ev
end
section
/- Rational numbers: out of texts, by the executor. -/
namespace Go.Proofs.YtaclkccgjpjdjaaGreat.Ev
open Go Go.RowKit Go.Proofs.YtaclkccgjpjdjaaGreatW.PrintWords Go.Proofs.YtaclkccgjpjdjaaGreatW.PrintMore Go.Proofs.YtaclkccgjpjdjaaGreatW.PrintLast Go.Proofs.YtaclkccgjpjdjaaGreat Go.Proofs.YtaclkccgjpjdjaaGreat.Nt Go.Proofs.YtaclkccgjpjdjaaGreat.Zi
set_option linter.unusedVariables false
set_option linter.unusedSimpArgs false
theorem idx_lt (s : ByteArray) (c : UInt8) : firstIdx s c < s.size := by
  unfold firstIdx
  split
  · rename_i i h
    have := List.mem_of_find?_eq_some h
    rw [List.mem_range] at this
    omega
  · omega
theorem indexByte (s : ByteArray) (c : UInt8) : Con Tryz.prog 167 [text' s, .one (.v (.int .u8 (c.toNat : Int)))] (.g (num (firstIdx s c))) := by
  have X : Con Tryz.prog 174 [text' s, .one (.v (.int .u8 (c.toNat : Int)))] (.g (num (firstIdx s c))) := .inr (fun ok us w hA => by
    have hs : us.size = 2 := hA.1
    have h0 := TC.v_eq (show TC [] ok w (.v (.string s)) us[0] from hA.2 0 _ _ rfl (Array.getElem?_eq_getElem (by omega)))
    have h1 := TC.v_eq (show TC [] ok w (.v (.int .u8 (c.toNat : Int))) us[1] from hA.2 1 _ _ rfl (Array.getElem?_eq_getElem (by omega)))
    have hu : us = #[.string s, .int .u8 (c.toNat : Int)] := by
      rw [← h0, ← h1]
      apply Array.ext
      · simp [hs]
      · intro i h1 h2
        rcases (by omega : i = 0 ∨ i = 1) with rfl | rfl <;> rfl
    subst hu
    refine ⟨.int .i64 (firstIdx s c), w, ?_, (TC.of_v rfl : TC [] _ w (.v (.int .i64 (firstIdx s c))) _), Below.refl _ _⟩
    rw [run_callFunc_extern Tryz.func174 (by kernel_rfl) (by kernel_rfl) (by kernel_rfl) (e := Extern.BytealgIndexByte.indexByte) (by kernel_rfl), run_indexByte_string]
    simp)
  exact by_ _ Tryz.func167 rfl [gives X] (by kernel_rfl)
theorem one_size (c : UInt8) : (⟨#[c]⟩ : ByteArray).size = 1 := rfl
theorem index1 (s : ByteArray) (c : UInt8) : Con Tryz.prog 161 [text' s, text' ⟨#[c]⟩] (.g (num (firstIdx s c))) := by
  by_cases h : ((⟨#[c]⟩ : ByteArray).toList == s.toList) = true
  · have e : s = ⟨#[c]⟩ := by
      have h1 := eq_of_beq h
      rw [toList_eq, toList_eq] at h1
      cases s with
      | mk a => cases a with
        | mk l =>
          have h2 : [c] = l := h1
          subst h2
          rfl
    have ei : firstIdx s c = 0 := by
      subst e
      unfold firstIdx
      have : (List.range (⟨#[c]⟩ : ByteArray).size).find? (fun i => (⟨#[c]⟩ : ByteArray)[i]! == c) = some 0 := by
        rw [one_size]
        show (List.range 1).find? _ = _
        rw [show List.range 1 = [0] from rfl]
        simp [List.find?, show (⟨#[c]⟩ : ByteArray)[0]! = c from rfl]
      rw [this]
      rfl
    rw [ei]
    exact by_ _ Tryz.func161 rfl [ends (rfl : (((⟨#[c]⟩ : ByteArray).size : Int) == 0) = false), ends h] (by kernel_rfl)
  · exact by_ _ Tryz.func161 rfl [ends (rfl : (((⟨#[c]⟩ : ByteArray).size : Int) == 0) = false), ends (show ((⟨#[c]⟩ : ByteArray).toList == s.toList) = false by simpa using h), ends (rfl : (((⟨#[c]⟩ : ByteArray).size : Int) == 1) = true),
      byte (b := ⟨#[c]⟩) (n := 0) (z := (c.toNat : Int)) ⟨by omega, c, rfl, rfl⟩, gives (indexByte s c)] (by kernel_rfl)
def cutS (s : ByteArray) (c : UInt8) : ByteArray × ByteArray × Bool :=
  if 0 ≤ firstIdx s c then (s.extract 0 (firstIdx s c).toNat, s.extract ((firstIdx s c).toNat + 1) s.size, true) else (s, ⟨#[]⟩, false)
theorem cut_at (s : ByteArray) (c : UInt8) (hs : s.size < 4611686018427387904) : Con Tryz.prog 119 [text' s, text' ⟨#[c]⟩] (.tup [text' (cutS s c).1, text' (cutS s c).2.1, truth (cutS s c).2.2]) := by
  have I := index1 s c
  have hl := idx_lt s c
  unfold cutS
  generalize firstIdx s c = i at *
  by_cases h : 0 ≤ i
  · rw [if_pos h]
    have w : IntKind.i64.wrap (i + ((⟨#[c]⟩ : ByteArray).size : Int)) = i + 1 := by rw [one_size, wr (by omega) (by omega)]; rfl
    have C : Con Tryz.prog 151 [text' s, text' ⟨#[c]⟩] (.tup [text' (s.extract 0 i.toNat), text' (s.extract (i.toNat + 1) s.size), truth true]) :=
      by_ _ Tryz.func151 rfl [gives I, ends (decide_eq_true h), part (b := s) (l := 0) (h := i) (z := s.extract 0 i.toNat) ⟨by omega, h, by omega, rfl⟩,
        part (b := s) (l := IntKind.i64.wrap (i + ((⟨#[c]⟩ : ByteArray).size : Int))) (h := (s.size : Int)) (z := s.extract (i.toNat + 1) s.size) ⟨by rw [w]; omega, by rw [w]; omega, by omega, by rw [w]; congr 1; omega⟩] (by kernel_rfl)
    exact by_ _ Tryz.func119 rfl [gives C] (by kernel_rfl)
  · rw [if_neg h]
    have C : Con Tryz.prog 151 [text' s, text' ⟨#[c]⟩] (.tup [text' s, text' ⟨#[]⟩, truth false]) := by_ _ Tryz.func151 rfl [gives I, ends (decide_eq_false h)] (by kernel_rfl)
    exact by_ _ Tryz.func119 rfl [gives C] (by kernel_rfl)
theorem cut_in (s : ByteArray) (c : UInt8) (hs : s.size < 4611686018427387904) : Con Tryz.prog 118 [text' ⟨#[c]⟩, .one (.pe [.v (.string s)])] (.tup [text' (cutS s c).1, text' (cutS s c).2.1, truth (cutS s c).2.2]) :=
  by_ _ Tryz.func118 rfl [gives (cut_at s c hs)] (by kernel_rfl)
theorem cut_len (s : ByteArray) (c : UInt8) : (cutS s c).1.size ≤ s.size ∧ (cutS s c).2.1.size ≤ s.size := by
  unfold cutS
  split
  · simp only [ByteArray.size_extract]; omega
  · exact ⟨Nat.le_refl _, Nat.zero_le _⟩
def S166 (b : Bool) (m : List Int) (neg : Bool) (l : List Int) (k i : Int) (X : List Int) : St :=
  ⟨sparse 31 [(1, .g (truth neg)), (3, .g (.one (limbs l))), (4, .g (.one (.ptr 0 0))), (8, .g (.one (.ptr 1 0))), (9, .g (.one (limbs X))), (13, .g (num k)), (14, .g (num i))], [[.v (.bool b), limbs m], [.v (.bool false), .row 1 0 [], .row 1 0 []]]⟩
theorem pow_len (i : Nat) : (ofN (10 ^ i)).length ≤ i + 1 := by
  induction i with
  | zero => exact Nat.le_refl _
  | succ i ih =>
    have := len_mul (10 ^ i) 10
    have h : (ofN 10).length = 1 := rfl
    rw [Nat.pow_succ]
    omega
theorem ten : val [10] = 10 := rfl
theorem dec_loop (b : Bool) (m : List Int) (neg : Bool) (l : List Int) (k : Nat) (hk : k ≤ 10000) : ∀ (d i : Nat), i + d = k → Rounds Tryz.prog (lp Tryz.f122 0) (S166 b m neg l k i (ofN (10 ^ i))) (.exit 0) (S166 b m neg l k k (ofN (10 ^ k)))
  | 0, i, h => by
    have : i = k := by omega
    subst this
    exact Rounds.out (at_ _ _ [ends (show decide ((i : Int) < (i : Int)) = false by simp)] (by kernel_rfl)) (by simp)
  | d + 1, i, h => by
    have hp := pow_len i
    have M := nat_Mul.con (ofN (10 ^ i)) [10] _ (if_pos ⟨fits_ofN (by omega), fits_ofN (n := 10) (by decide)⟩)
    rw [val_ofN, ten, ← Nat.pow_succ] at M
    have step := at_ (c := lp Tryz.f122 0) (p := S166 b m neg l k i (ofN (10 ^ i))) .normal (S166 b m neg l k (IntKind.i64.wrap ((i : Int) + 1)) (ofN (10 ^ (i + 1)))) [ends (show decide ((i : Int) < (k : Int)) = true by rw [decide_eq_true_iff]; omega), gives M] (by kernel_rfl)
    rw [show IntKind.i64.wrap ((i : Int) + 1) = ((i + 1 : Nat) : Int) by rw [wr (by omega) (by omega)]; omega] at step
    exact (dec_loop b m neg l k hk d (i + 1) (by omega)).step' step
theorem decimals (b : Bool) (m : List Int) (neg : Bool) (t : ByteArray) (l : List Int) (hm : few 300 m) (hl : few 300 l) (ht : t.size ≤ 10000) :
    Con Tryz.prog 122 [int b m, truth neg, text' t, .one (limbs l)] (.g (ra (mkRat (zval neg (ofN (val m * 10 ^ t.size + val l))) (10 ^ t.size)))) := by
  have hp := pow_len t.size
  have L := (dec_loop b m neg l t.size ht t.size 0 (by omega)).loop
  have fp : fits (ofN (10 ^ t.size)) := fits_ofN (by omega)
  have hm' : (ofN (val m)).length ≤ 300 := Nat.le_trans (len_val_le hm.1) hm.2
  have hl' : (ofN (val l)).length ≤ 300 := Nat.le_trans (len_val_le hl.1) hl.2
  have M := nat_Mul.con m (ofN (10 ^ t.size)) _ (if_pos ⟨ff (few_up hm (by decide)), fp⟩)
  have h1 := len_mul (val m) (10 ^ t.size)
  rw [val_ofN] at M
  have A := nat_Add.con (ofN (val m * 10 ^ t.size)) l _ (if_pos ⟨fits_ofN (by omega), ff (few_up hl (by decide))⟩)
  have h2 := len_add (val m * 10 ^ t.size) (val l)
  rw [val_ofN] at A
  have W := lowest neg (ofN (val m * 10 ^ t.size + val l)) (ofN (10 ^ t.size)) (few_ofN (by omega)) (few_ofN (by omega)) (by rw [val_ofN]; exact Nat.ne_of_gt (Nat.pow_pos (by decide)))
  rw [val_ofN] at W
  exact by_ _ Tryz.func122 rfl [goes L, gives M, gives A, gives W] (by kernel_rfl)
def failT (e : Int) : AV := .tup [rat false [] [], num e]
def quotT (n : Bool × List Int × Int) (d : List Int × Int) : AV := if n.2.2 = 4 ∨ d.2 = 4 then failT 4 else if n.2.2 ≠ 0 ∨ d.2 ≠ 0 then failT 2 else if d.1.length = 0 then failT 4 else .tup [ra (mkRat (zval n.1 n.2.1) (val d.1)), num 0]
def decT (neg : Bool) (t : ByteArray) (n : Bool × List Int × Int) (d : List Int × Int) : AV := if n.2.2 = 4 ∨ d.2 = 4 then failT 4 else if n.2.2 ≠ 0 ∨ d.2 ≠ 0 then failT 2 else .tup [ra (mkRat (zval neg (ofN (val n.2.1 * 10 ^ t.size + val d.1))) (10 ^ t.size)), num 0]
def intT (n : Bool × List Int × Int) : AV := if n.2.2 ≠ 0 then failT n.2.2 else .tup [rat n.1 n.2.1 [1], num 0]
def qparse (s : ByteArray) : AV :=
  if (cutS s 47).2.2 then quotT (parseZ (cutS s 47).1) (parsed (cutS s 47).2.1)
  else if (cutS s 46).2.2 then decT (minus s) (cutS s 46).2.1 (parseZ (cutS s 46).1) (parsed (cutS s 46).2.1) else intT (parseZ (cutS s 46).1)
theorem parsed_size {s : ByteArray} (h : (parsed s).2 = 0) : s.size ≤ 300 := by
  unfold parsed at h
  split at h
  · cases h
  · split at h
    · cases h
    · omega
theorem parsed_val {s : ByteArray} (h : (parsed s).1.length ≠ 0) : val (parsed s).1 ≠ 0 := by
  unfold parsed at h ⊢
  split at h
  · exact absurd rfl h
  · split at h
    · exact absurd rfl h
    · rename_i h1 h2
      rw [if_neg h1, if_neg h2]
      intro e
      rw [val_ofN] at e
      rw [e] at h
      exact h rfl
theorem parseZ_few (s : ByteArray) : few 300 (parseZ s).2.1 := by
  have hf := parsed_fits (if minus s then s.extract 1 s.size else s)
  have key : ∀ (b : Bool) (r : List Int × Int), lim r.1 ∧ r.1.length ≤ 300 → few 300 (if r.2 = 0 then ((ofZ (zval b r.1)).1, (ofZ (zval b r.1)).2, (0 : Int)) else (false, [], r.2)).2.1 := fun b r h => by
    by_cases hr : r.2 = 0
    · rw [if_pos hr]
      exact few_ofZ (Nat.le_trans (zval_len h.1) h.2)
    · rw [if_neg hr]
      exact ⟨fun x hx => absurd hx List.not_mem_nil, Nat.zero_le _⟩
  exact key (minus s) _ hf
theorem qParse (s : ByteArray) (hs : s.size ≤ 140737488351232) : Con Tryz.prog 70 [text' s] (qparse s) := by
  have C1 := cut_in s 47 (by omega)
  have C2 := cut_in s 46 (by omega)
  have l1 := cut_len s 47
  have l2 := cut_len s 46
  have P1 := iParse (cutS s 47).1 (by omega)
  have P2 := iParse (cutS s 46).1 (by omega)
  have N1 := nat_Parse.con (cutS s 47).2.1 _ _ (if_pos (by omega))
  have N2 := nat_Parse.con (cutS s 46).2.1 _ _ (if_pos (by omega))
  have f1 := parseZ_few (cutS s 47).1
  have f2 := parseZ_few (cutS s 46).1
  have g1 := parsed_fits (cutS s 47).2.1
  have g2 := parsed_fits (cutS s 46).2.1
  have z1 := @parsed_size (cutS s 46).2.1
  have v1 := @parsed_val (cutS s 47).2.1
  have H : Con Tryz.prog 123 [text' s, text' ⟨#[45]⟩] (.g (truth (minus s))) := by_ _ Tryz.func123 rfl [gives (hasPrefix s)] (by kernel_rfl)
  unfold qparse
  unfold parseT at P1 P2
  generalize parseZ (cutS s 47).1 = n at *
  generalize parsed (cutS s 47).2.1 = d at *
  cases h1 : (cutS s 47).2.2 with
  | true =>
    rw [h1] at C1
    rw [if_pos rfl]
    unfold quotT
    have tt : ∀ {a b : Int}, (a == b) = true ∨ (a == b) = false := fun {a b} => by cases (a == b) <;> simp
    by_cases e4 : n.2.2 = 4
    · rw [if_pos (.inl e4)]
      exact by_ _ Tryz.func70 rfl [gives C1, ends (rfl : (!true) = false), gives P1, ends (rfl : (!true) = false), ends (rfl : false = false), gives N1, ends (show (n.2.2 == 4) = true by simpa using e4), ends (rfl : true = true)] (by kernel_rfl)
    · have b4 : (n.2.2 == 4) = false := by simpa using e4
      by_cases d4 : d.2 = 4
      · rw [if_pos (.inr d4)]
        exact by_ _ Tryz.func70 rfl [gives C1, ends (rfl : (!true) = false), gives P1, ends (rfl : (!true) = false), ends (rfl : false = false), gives N1, ends b4, ends (show (d.2 == 4) = true by simpa using d4)] (by kernel_rfl)
      · have c4 : (d.2 == 4) = false := by simpa using d4
        rw [if_neg (by omega)]
        by_cases e0 : n.2.2 = 0
        · have b0 : (n.2.2 != 0) = false := by simpa using e0
          by_cases d0 : d.2 = 0
          · have c0 : (d.2 != 0) = false := by simpa using d0
            rw [if_neg (by omega)]
            by_cases hl : d.1.length = 0
            · rw [if_pos hl]
              exact by_ _ Tryz.func70 rfl [gives C1, ends (rfl : (!true) = false), gives P1, ends (rfl : (!true) = false), ends (rfl : false = false), gives N1, ends b4, ends c4, ends b0, ends c0, ends (rfl : false = false), ends (show (((d.1.length : Nat) : Int) == 0) = true by rw [beq_iff_eq]; omega)] (by kernel_rfl)
            · rw [if_neg hl]
              exact by_ _ Tryz.func70 rfl [gives C1, ends (rfl : (!true) = false), gives P1, ends (rfl : (!true) = false), ends (rfl : false = false), gives N1, ends b4, ends c4, ends b0, ends c0, ends (rfl : false = false), ends (show (((d.1.length : Nat) : Int) == 0) = false by rw [beq_eq_false_iff_ne]; omega),
                gives (lowest n.1 n.2.1 d.1 (few_up f1 (by decide)) ⟨g1.1, by omega⟩ (v1 hl))] (by kernel_rfl)
          · rw [if_pos (.inr d0)]
            exact by_ _ Tryz.func70 rfl [gives C1, ends (rfl : (!true) = false), gives P1, ends (rfl : (!true) = false), ends (rfl : false = false), gives N1, ends b4, ends c4, ends b0, ends (show (d.2 != 0) = true by simpa using d0)] (by kernel_rfl)
        · rw [if_pos (.inl e0)]
          exact by_ _ Tryz.func70 rfl [gives C1, ends (rfl : (!true) = false), gives P1, ends (rfl : (!true) = false), ends (rfl : false = false), gives N1, ends b4, ends c4, ends (show (n.2.2 != 0) = true by simpa using e0), ends (rfl : true = true)] (by kernel_rfl)
  | false =>
    rw [h1] at C1
    rw [if_neg (by decide)]
    clear P1 N1 f1 g1 v1 l1
    generalize parseZ (cutS s 46).1 = n at *
    generalize parsed (cutS s 46).2.1 = d at *
    cases h2 : (cutS s 46).2.2 with
    | false =>
      rw [h2] at C2
      rw [if_neg (by decide)]
      unfold intT
      by_cases e0 : n.2.2 = 0
      · rw [if_neg (by omega)]
        exact by_ _ Tryz.func70 rfl [gives C1, ends (rfl : (!false) = true), gives C2, gives P2, ends (rfl : (!false) = true), ends (rfl : (!false) = true), ends (show (n.2.2 != 0) = false by simpa using e0)] (by kernel_rfl)
      · rw [if_pos e0]
        exact by_ _ Tryz.func70 rfl [gives C1, ends (rfl : (!false) = true), gives C2, gives P2, ends (rfl : (!false) = true), ends (rfl : (!false) = true), ends (show (n.2.2 != 0) = true by simpa using e0)] (by kernel_rfl)
    | true =>
      rw [h2] at C2
      rw [if_pos rfl]
      unfold decT
      by_cases e4 : n.2.2 = 4
      · rw [if_pos (.inl e4)]
        exact by_ _ Tryz.func70 rfl [gives C1, ends (rfl : (!false) = true), gives C2, gives P2, ends (rfl : (!false) = true), ends (rfl : (!true) = false), gives N2, ends (show (n.2.2 == 4) = true by simpa using e4), ends (rfl : true = true)] (by kernel_rfl)
      · have b4 : (n.2.2 == 4) = false := by simpa using e4
        by_cases d4 : d.2 = 4
        · rw [if_pos (.inr d4)]
          exact by_ _ Tryz.func70 rfl [gives C1, ends (rfl : (!false) = true), gives C2, gives P2, ends (rfl : (!false) = true), ends (rfl : (!true) = false), gives N2, ends b4, ends (show (d.2 == 4) = true by simpa using d4)] (by kernel_rfl)
        · have c4 : (d.2 == 4) = false := by simpa using d4
          rw [if_neg (by omega)]
          by_cases e0 : n.2.2 = 0
          · have b0 : (n.2.2 != 0) = false := by simpa using e0
            by_cases d0 : d.2 = 0
            · have c0 : (d.2 != 0) = false := by simpa using d0
              have hz := z1 d0
              rw [if_neg (by omega)]
              exact by_ _ Tryz.func70 rfl [gives C1, ends (rfl : (!false) = true), gives C2, gives P2, ends (rfl : (!false) = true), ends (rfl : (!true) = false), gives N2, ends b4, ends c4, ends b0, ends c0, ends (rfl : true = true), gives H,
                gives (decimals n.1 n.2.1 (minus s) (cutS s 46).2.1 d.1 f2 ⟨g2.1, g2.2⟩ (by omega))] (by kernel_rfl)
            · rw [if_pos (.inr d0)]
              exact by_ _ Tryz.func70 rfl [gives C1, ends (rfl : (!false) = true), gives C2, gives P2, ends (rfl : (!false) = true), ends (rfl : (!true) = false), gives N2, ends b4, ends c4, ends b0, ends (show (d.2 != 0) = true by simpa using d0)] (by kernel_rfl)
          · rw [if_pos (.inl e0)]
            exact by_ _ Tryz.func70 rfl [gives C1, ends (rfl : (!false) = true), gives C2, gives P2, ends (rfl : (!false) = true), ends (rfl : (!true) = false), gives N2, ends b4, ends c4, ends (show (n.2.2 != 0) = true by simpa using e0), ends (rfl : true = true)] (by kernel_rfl)
end Go.Proofs.YtaclkccgjpjdjaaGreat.Ev
end
section
/- Rational numbers: the reference's functions of small numbers, by the executor. -/
namespace Go.Proofs.YtaclkccgjpjdjaaGreat.Ev
open Go Go.RowKit Go.Proofs.YtaclkccgjpjdjaaGreatW.PrintWords Go.Proofs.YtaclkccgjpjdjaaGreatW.PrintMore Go.Proofs.YtaclkccgjpjdjaaGreatW.PrintLast Go.Proofs.YtaclkccgjpjdjaaGreat Go.Proofs.YtaclkccgjpjdjaaGreat.Nt Go.Proofs.YtaclkccgjpjdjaaGreat.Zi
set_option linter.unusedVariables false
set_option linter.unusedSimpArgs false
def u64v (x : Int) : AG := .one (.v (.int .u64 x))
theorem rLimbs {X : Int} {n : Nat} (h : X = (n : Int)) (hn : n < 18446744073709551616) : Con Tryz.prog 85 [u64v X] (.g (.one (limbs (ofN n)))) := by
  by_cases h0 : n = 0
  · subst h0
    exact Con.nil (by_ _ Tryz.func85 rfl [ends (show (X == 0) = true by rw [h]; rfl)] (by kernel_rfl))
  · have e0 : (X == 0) = false := by rw [beq_eq_false_iff_ne]; omega
    by_cases h1 : n < 4294967296
    · refine (by_ (.g (.one (limbs [IntKind.u32.wrap X]))) Tryz.func85 rfl [ends e0, ends (show decide (X < 4294967296) = true by rw [decide_eq_true_iff]; omega)] (by kernel_rfl)).to ?_
      rw [u32w, h, ofN_pos h0, Nat.div_eq_of_lt h1, ofN_zero]
      rfl
    · refine (by_ (.g (.one (limbs [IntKind.u32.wrap X, IntKind.u32.wrap (X / 4294967296)]))) Tryz.func85 rfl [ends e0, ends (show decide (X < 4294967296) = false by rw [decide_eq_false_iff_not]; omega), byBits (shr_at X)] (by kernel_rfl)).to ?_
      have h2 : n / 4294967296 ≠ 0 := by omega
      rw [u32w, u32w, h, ofN_pos h0, ofN_pos h2, Nat.div_eq_of_lt (show n / 4294967296 < 4294967296 by omega), ofN_zero]
      rfl
def S157 (n d U A B : Int) : St := ⟨sparse 36 [(0, .g (num n)), (1, .g (num d)), (4, .g (.one (.ptr 0 0))), (5, .g (u64v U)), (6, .g (u64v A)), (7, .g (u64v B))], [[.v (.bool false), .row 1 0 [], .row 1 0 []]]⟩
theorem told_loop (n d U : Int) : ∀ (b a : Nat) (A B : Int), A = (a : Int) → B = (b : Int) → b < 18446744073709551616 → Rounds Tryz.prog (lp Tryz.f51 0) (S157 n d U A B) (.exit 0) (S157 n d U ((Nat.gcd a b : Nat) : Int) 0) := by
  intro b
  induction b using Nat.strongRecOn with
  | _ b ih =>
    intro a A B hA hB hb
    by_cases h0 : b = 0
    · subst h0
      subst hA
      subst hB
      rw [Nat.gcd_zero_right]
      exact Rounds.out (at_ _ _ [ends (rfl : ((((0 : Nat) : Int)) != 0) = false)] (by kernel_rfl)) (by simp)
    · have hn : (B != 0) = true := by rw [bne_iff_ne]; omega
      have step := at_ (c := lp Tryz.f51 0) (p := S157 n d U A B) .normal (S157 n d U B (A.tmod B)) [ends hn, fact (show B ≠ 0 by omega)] (by kernel_rfl)
      have e : A.tmod B = ((a % b : Nat) : Int) := by rw [hA, hB]; rfl
      have := ih (a % b) (Nat.mod_lt _ (Nat.pos_of_ne_zero h0)) b B (A.tmod B) hB e (by have := Nat.mod_lt a (Nat.pos_of_ne_zero h0); omega)
      rw [show Nat.gcd a b = Nat.gcd b (a % b) by rw [Nat.gcd_comm a b, Nat.gcd_rec, Nat.gcd_comm]]
      exact this.step' step
theorem ra_mk (n : Int) (D : Nat) (hD : D ≠ 0) : rat (decide (n < 0)) (ofN (n.natAbs / Nat.gcd n.natAbs D)) (ofN (D / Nat.gcd n.natAbs D)) = ra (mkRat n D) := by
  have hg : Nat.gcd n.natAbs D ≠ 0 := fun e => hD (Nat.gcd_eq_zero_iff.1 e).2
  have hdv : ((D.gcd n.natAbs : Nat) : Int) ∣ n := Int.ofNat_dvd_left.2 (Nat.gcd_dvd_right _ _)
  have en : (mkRat n D).num.natAbs = n.natAbs / Nat.gcd n.natAbs D := by
    rw [Rat.num_mkRat, if_neg hD, Int.natAbs_ediv_of_dvd hdv, Int.natAbs_natCast, Nat.gcd_comm]
  have ed : (mkRat n D).den = D / Nat.gcd n.natAbs D := by rw [Rat.den_mkRat, if_neg hD, Nat.gcd_comm]
  have es : decide ((mkRat n D).num < 0) = decide (n < 0) := by
    rw [decide_eq_decide, Rat.num_mkRat, if_neg hD]
    have hp : (0 : Int) < ((D.gcd n.natAbs : Nat) : Int) := by rw [Nat.gcd_comm]; omega
    constructor
    · intro h
      by_cases hn : n < 0
      · exact hn
      · have h9 : 0 ≤ n / ((D.gcd n.natAbs : Nat) : Int) := Int.ediv_nonneg (by omega) (by omega)
        omega
    · intro h
      exact Int.ediv_neg_of_neg_of_pos h hp
  unfold ra ofZ
  simp only
  rw [es, en, ed]
theorem rTold (n d : Int) (h0 : -4611686018427387904 < n) (h1 : n < 4611686018427387904) (h2 : 0 < d) (h3 : d < 4611686018427387904) : Con Tryz.prog 51 [num n, num d] (.g (ra (mkRat n d.toNat))) := by
  have hD : d.toNat ≠ 0 := by omega
  have hg : Nat.gcd n.natAbs d.toNat ≠ 0 := fun e => hD (Nat.gcd_eq_zero_iff.1 e).2
  have ud : IntKind.u64.wrap d = (d.toNat : Int) := by rw [u64 (by omega) (by omega)]; omega
  have L2 : ∀ g : Nat, g ≠ 0 → IntKind.u64.wrap ((IntKind.u64.wrap d).tdiv (g : Int)) = ((d.toNat / g : Nat) : Int) := fun g hg => by
    have := Nat.div_le_self d.toNat g
    rw [ud, show ((d.toNat : Int)).tdiv (g : Int) = ((d.toNat / g : Nat) : Int) from rfl]
    generalize d.toNat / g = k at this ⊢
    exact u64 (by omega) (by omega)
  have L1 : ∀ (U : Int) (g : Nat), U = (n.natAbs : Int) → g ≠ 0 → IntKind.u64.wrap (U.tdiv (g : Int)) = ((n.natAbs / g : Nat) : Int) := fun U g hU hg => by
    have := Nat.div_le_self n.natAbs g
    rw [hU, show ((n.natAbs : Int)).tdiv (g : Int) = ((n.natAbs / g : Nat) : Int) from rfl]
    generalize n.natAbs / g = k at this ⊢
    exact u64 (by omega) (by omega)
  have q1 := Nat.div_le_self n.natAbs (Nat.gcd n.natAbs d.toNat)
  have q2 := Nat.div_le_self d.toNat (Nat.gcd n.natAbs d.toNat)
  have fin := congrArg AV.g (ra_mk n d.toNat hD)
  by_cases h : n < 0
  · have eu : IntKind.u64.wrap (0 - IntKind.u64.wrap n) = (n.natAbs : Int) := by rw [Int.zero_sub]; exact u64n (by omega) h
    exact (by_ (.g (rat (decide (n < 0)) (ofN (n.natAbs / Nat.gcd n.natAbs d.toNat)) (ofN (d.toNat / Nat.gcd n.natAbs d.toNat)))) Tryz.func51 rfl
      [ends (decide_eq_true h), goes (told_loop n d (IntKind.u64.wrap (0 - IntKind.u64.wrap n)) d.toNat n.natAbs (IntKind.u64.wrap (0 - IntKind.u64.wrap n)) (IntKind.u64.wrap d) eu ud (by omega)).loop,
       fact (show ((Nat.gcd n.natAbs d.toNat : Nat) : Int) ≠ 0 by omega), gives (rLimbs (L1 _ _ eu hg) (by omega)), fact (show ((Nat.gcd n.natAbs d.toNat : Nat) : Int) ≠ 0 by omega), gives (rLimbs (L2 _ hg) (by omega))] (by kernel_rfl)).to fin
  · have eu : IntKind.u64.wrap n = (n.natAbs : Int) := by rw [u64 (by omega) (by omega)]; omega
    exact (by_ (.g (rat (decide (n < 0)) (ofN (n.natAbs / Nat.gcd n.natAbs d.toNat)) (ofN (d.toNat / Nat.gcd n.natAbs d.toNat)))) Tryz.func51 rfl
      [ends (decide_eq_false h), goes (told_loop n d (IntKind.u64.wrap n) d.toNat n.natAbs (IntKind.u64.wrap n) (IntKind.u64.wrap d) eu ud (by omega)).loop,
       fact (show ((Nat.gcd n.natAbs d.toNat : Nat) : Int) ≠ 0 by omega), gives (rLimbs (L1 _ _ eu hg) (by omega)), fact (show ((Nat.gcd n.natAbs d.toNat : Nat) : Int) ≠ 0 by omega), gives (rLimbs (L2 _ hg) (by omega))] (by kernel_rfl)).to fin
def quickT (n d : Int) (ok : Bool) : AV := .tup [num n, num d, truth ok]
def Quick (b : Bool) (l d : List Int) : Prop := ∃ n m ok, Con Tryz.prog 47 [rat b l d] (quickT n m ok) ∧ (ok = true → -1073741824 < n ∧ n < 1073741824 ∧ 0 < m ∧ m < 1073741824 ∧ rv b l d = mkRat n m.toNat)
theorem at0 (x : Int) : (0 : Int) ≤ 0 ∧ ([x].map fun n => [AC.v (.int .u32 n)])[(0 : Int).toNat]? = some [.v (.int .u32 x)] := ⟨by omega, rfl⟩
theorem rQuick (b : Bool) (l d : List Int) (hl : lim l) (hd : lim d) (hll : l.length < 4000000000000000000) : Quick b l d := by
  match l, hl, hll with
  | x :: y :: r, hl, hll =>
    exact ⟨0, 0, false, by_ _ Tryz.func47 rfl [ends (show decide ((((x :: y :: r).length : Nat) : Int) > 1) = true by rw [decide_eq_true_iff]; simp only [List.length_cons]; omega), ends (rfl : true = true), ends (rfl : true = true), ends (rfl : true = true)] (by kernel_rfl), fun e => by cases e⟩
  | [], hl, hll =>
    match d, hd with
    | [], hd => exact ⟨0, 0, false, by_ _ Tryz.func47 rfl [ends (rfl : false = false), ends (rfl : true = true), ends (rfl : true = true), ends (rfl : true = true)] (by kernel_rfl), fun e => by cases e⟩
    | y :: z :: r, hd =>
      exact ⟨0, 0, false, by_ _ Tryz.func47 rfl [ends (rfl : false = false), ends (show ((((y :: z :: r).length : Nat) : Int) != 1) = true by rw [bne_iff_ne]; simp only [List.length_cons]; omega), ends (rfl : true = true), ends (rfl : true = true)] (by kernel_rfl), fun e => by cases e⟩
    | [y], hd =>
      have hy := hd y (by simp)
      by_cases h0 : y = 0
      · exact ⟨0, 0, false, by_ _ Tryz.func47 rfl [ends (rfl : false = false), ends (rfl : false = false), elem (at0 y), ends (show (y == 0) = true by simpa using h0), ends (rfl : true = true)] (by kernel_rfl), fun e => by cases e⟩
      · have e0 : (y == 0) = false := by simpa using h0
        by_cases h1 : y ≥ 1073741824
        · exact ⟨0, 0, false, by_ _ Tryz.func47 rfl [ends (rfl : false = false), ends (rfl : false = false), elem (at0 y), ends e0, elem (at0 y), ends (decide_eq_true h1)] (by kernel_rfl), fun e => by cases e⟩
        · have hw : IntKind.i64.wrap y = y := wr (by omega) (by omega)
          have hv : rv b [] [y] = mkRat 0 y.toNat := by
            unfold rv
            rw [show val [y] = y.toNat by rw [val_cons, val_nil]; omega]
            cases b <;> rfl
          cases b with
          | true =>
            refine ⟨IntKind.i64.wrap (0 - 0), IntKind.i64.wrap y, true, by_ _ Tryz.func47 rfl [ends (rfl : false = false), ends (rfl : false = false), elem (at0 y), ends e0, elem (at0 y), ends (decide_eq_false h1), ends (rfl : false = false), ends (rfl : false = false), ends (rfl : true = true), elem (at0 y)] (by kernel_rfl), fun _ => ?_⟩
            rw [hw, hv]
            exact ⟨by decide, by decide, by omega, by omega, rfl⟩
          | false =>
            refine ⟨0, IntKind.i64.wrap y, true, by_ _ Tryz.func47 rfl [ends (rfl : false = false), ends (rfl : false = false), elem (at0 y), ends e0, elem (at0 y), ends (decide_eq_false h1), ends (rfl : false = false), ends (rfl : false = false), ends (rfl : false = false), elem (at0 y)] (by kernel_rfl), fun _ => ?_⟩
            rw [hw, hv]
            exact ⟨by decide, by decide, by omega, by omega, rfl⟩
  | [x], hl, hll =>
    have hx := hl x (by simp)
    match d, hd with
    | [], hd => exact ⟨0, 0, false, by_ _ Tryz.func47 rfl [ends (rfl : false = false), ends (rfl : true = true), ends (rfl : true = true), ends (rfl : true = true)] (by kernel_rfl), fun e => by cases e⟩
    | y :: z :: r, hd =>
      exact ⟨0, 0, false, by_ _ Tryz.func47 rfl [ends (rfl : false = false), ends (show ((((y :: z :: r).length : Nat) : Int) != 1) = true by rw [bne_iff_ne]; simp only [List.length_cons]; omega), ends (rfl : true = true), ends (rfl : true = true)] (by kernel_rfl), fun e => by cases e⟩
    | [y], hd =>
      have hy := hd y (by simp)
      by_cases h0 : y = 0
      · exact ⟨0, 0, false, by_ _ Tryz.func47 rfl [ends (rfl : false = false), ends (rfl : false = false), elem (at0 y), ends (show (y == 0) = true by simpa using h0), ends (rfl : true = true)] (by kernel_rfl), fun e => by cases e⟩
      · have e0 : (y == 0) = false := by simpa using h0
        by_cases h1 : y ≥ 1073741824
        · exact ⟨0, 0, false, by_ _ Tryz.func47 rfl [ends (rfl : false = false), ends (rfl : false = false), elem (at0 y), ends e0, elem (at0 y), ends (decide_eq_true h1)] (by kernel_rfl), fun e => by cases e⟩
        · have hw : IntKind.i64.wrap y = y := wr (by omega) (by omega)
          have hwx : IntKind.i64.wrap x = x := wr (by omega) (by omega)
          by_cases h2 : IntKind.i64.wrap x ≥ 1073741824
          · exact ⟨0, 0, false, by_ _ Tryz.func47 rfl [ends (rfl : false = false), ends (rfl : false = false), elem (at0 y), ends e0, elem (at0 y), ends (decide_eq_false h1), ends (rfl : true = true), elem (at0 x), ends (decide_eq_true h2)] (by kernel_rfl), fun e => by cases e⟩
          · have hvy : val [y] = y.toNat := by rw [val_cons, val_nil]; omega
            have hvx : (val [x] : Int) = x := by rw [val_cons, val_nil]; omega
            cases b with
            | true =>
              refine ⟨IntKind.i64.wrap (0 - IntKind.i64.wrap x), IntKind.i64.wrap y, true, by_ _ Tryz.func47 rfl [ends (rfl : false = false), ends (rfl : false = false), elem (at0 y), ends e0, elem (at0 y), ends (decide_eq_false h1), ends (rfl : true = true), elem (at0 x), ends (decide_eq_false h2), ends (rfl : true = true), elem (at0 y)] (by kernel_rfl), fun _ => ?_⟩
              rw [hwx] at h2 ⊢
              rw [hw, wr (by omega) (by omega)]
              refine ⟨by omega, by omega, by omega, by omega, ?_⟩
              unfold rv zval
              rw [hvy, hvx, Int.zero_sub]
              rfl
            | false =>
              refine ⟨IntKind.i64.wrap x, IntKind.i64.wrap y, true, by_ _ Tryz.func47 rfl [ends (rfl : false = false), ends (rfl : false = false), elem (at0 y), ends e0, elem (at0 y), ends (decide_eq_false h1), ends (rfl : true = true), elem (at0 x), ends (decide_eq_false h2), ends (rfl : false = false), elem (at0 y)] (by kernel_rfl), fun _ => ?_⟩
              rw [hwx] at h2 ⊢
              rw [hw]
              refine ⟨by omega, by omega, by omega, by omega, ?_⟩
              unfold rv zval
              rw [hvy, hvx]
              rfl
end Go.Proofs.YtaclkccgjpjdjaaGreat.Ev
end
section
/- Rational numbers: the reference's functions, by the executor. -/
namespace Go.Proofs.YtaclkccgjpjdjaaGreat.Ev
open Go Go.RowKit Go.Proofs.YtaclkccgjpjdjaaGreatW.PrintWords Go.Proofs.YtaclkccgjpjdjaaGreatW.PrintMore Go.Proofs.YtaclkccgjpjdjaaGreatW.PrintLast Go.Proofs.YtaclkccgjpjdjaaGreat Go.Proofs.YtaclkccgjpjdjaaGreat.Nt Go.Proofs.YtaclkccgjpjdjaaGreat.Zi
set_option linter.unusedVariables false
set_option linter.unusedSimpArgs false
theorem rNorm (b : Bool) (l d : List Int) (hl : few 15000 l) (hd : few 15000 d) : Con Tryz.prog 25 [rat b l d] (.g (ra (rv b l d))) := by
  obtain ⟨n, m, ok, Q, hq⟩ := rQuick b l d hl.1 hd.1 (by have := hl.2; omega)
  cases ok with
  | true =>
    obtain ⟨h1, h2, h3, h4, h5⟩ := hq rfl
    rw [h5]
    exact by_ _ Tryz.func25 rfl [gives Q, ends (rfl : true = true), gives (rTold n m (by omega) (by omega) h3 (by omega))] (by kernel_rfl)
  | false =>
    have N := jNorm b l (few_up hl (by decide))
    have hz : (ofN (zval b l).natAbs).length ≤ 15000 := few_zval hl
    have hD : (ofN (val d)).length ≤ 15000 := Nat.le_trans (len_val_le hd.1) hd.2
    have T := foliotref01_Trim.con d _ (if_pos (rf (few_up hd (by decide))))
    unfold rv
    generalize zval b l = z at *
    generalize val d = D at *
    by_cases h0 : D = 0
    · subst h0
      rw [Rat.mkRat_zero]
      exact by_ _ Tryz.func25 rfl [gives Q, ends (rfl : false = false), gives N, gives T, ends (rfl : ((((ofN 0).length : Nat) : Int) == 0) = true)] (by kernel_rfl)
    · have hg : Nat.gcd z.natAbs D ≠ 0 := fun e => h0 (Nat.gcd_eq_zero_iff.1 e).2
      have hgl : (ofN (Nat.gcd z.natAbs D)).length ≤ 15000 := Nat.le_trans (len_mono (Nat.gcd_le_right _ (Nat.pos_of_ne_zero h0))) hD
      have fz := rf (few_zi (z := z) (by omega))
      have fD := rf (few_ofN (n := D) (by omega))
      have fg := rf (few_ofN (n := Nat.gcd z.natAbs D) (by omega))
      have G := foliotref01_Gcd.con (ofZ z).2 (ofN D) _ (if_pos ⟨fz, fD⟩)
      rw [val_zi, val_ofN] at G
      have e1 : foliotref01_Div.f (ofZ z).2 (ofN (Nat.gcd z.natAbs D)) = some (ofN (z.natAbs / Nat.gcd z.natAbs D), ofN (z.natAbs % Nat.gcd z.natAbs D), 0) := by
        unfold foliotref01_Div.f Nb.divided; rw [if_pos ⟨fz, fg⟩, val_zi, val_ofN, if_neg hg]
      have e2 : foliotref01_Div.f (ofN D) (ofN (Nat.gcd z.natAbs D)) = some (ofN (D / Nat.gcd z.natAbs D), ofN (D % Nat.gcd z.natAbs D), 0) := by
        unfold foliotref01_Div.f Nb.divided; rw [if_pos ⟨fD, fg⟩, val_ofN, val_ofN, if_neg hg]
      rw [← ra_mk z D h0]
      exact by_ _ Tryz.func25 rfl [gives Q, ends (rfl : false = false), gives N, gives T, ends (show ((((ofN D).length : Nat) : Int) == 0) = false by
        rw [beq_eq_false_iff_ne]; have := len_pos' h0; omega), gives G, gives (foliotref01_Div.con _ _ _ _ _ e1), gives (foliotref01_Div.con _ _ _ _ _ e2)] (by kernel_rfl)
theorem rMake (b : Bool) (l : List Int) (c : Bool) (m : List Int) (hl : few 10000 l) (hm : few 10000 m) : Con Tryz.prog 52 [int b l, int c m] (makeT (zval b l) (zval c m)) := by
  have S := jSign c m (few_up hm (by decide))
  have hv : val m = (zval c m).natAbs := (abs_zval c m).symm
  unfold makeT
  by_cases h0 : zval c m = 0
  · rw [h0] at S
    rw [if_pos h0]
    exact by_ _ Tryz.func52 rfl [gives S, ends (rfl : (sgn 0 == 0) = true)] (by kernel_rfl)
  · rw [if_neg h0]
    have hs : (sgn (zval c m) == 0) = false := by
      rw [beq_eq_false_iff_ne]; unfold sgn; repeat' split
      all_goals omega
    cases c with
    | true =>
      have N := rNorm (ofZ (-zval b l)).1 (ofZ (-zval b l)).2 m (few_ofZ (by rw [Int.natAbs_neg]; exact Nat.le_trans (few_zval hl) (by decide))) (few_up hm (by decide))
      have e : rv (ofZ (-zval b l)).1 (ofZ (-zval b l)).2 m = Rat.divInt (zval b l) (zval true m) := by
        unfold rv
        rw [zval_ofZ, ← Rat.divInt_ofNat]
        show _ = Rat.divInt _ (-(val m : Int))
        rw [Rat.divInt_neg']
      rw [e] at N
      exact by_ _ Tryz.func52 rfl [gives S, ends hs, ends (rfl : true = true), gives (jNeg b l (few_up hl (by decide))), gives N] (by kernel_rfl)
    | false =>
      have N := rNorm b l m (few_up hl (by decide)) (few_up hm (by decide))
      have e : rv b l m = Rat.divInt (zval b l) (zval false m) := by
        unfold rv
        rw [← Rat.divInt_ofNat]
        rfl
      rw [e] at N
      exact by_ _ Tryz.func52 rfl [gives S, ends hs, ends (rfl : false = false), gives N] (by kernel_rfl)
theorem rDen (b : Bool) (l d : List Int) : Con Tryz.prog 54 [rat b l d] (.g (int false d)) := by_ _ Tryz.func54 rfl [] (by kernel_rfl)
theorem zval_den (n : Nat) : zval false (ofN n) = (n : Int) := by rw [zval_ofN]; rfl
section
variable {x y : Rat}
theorem rtT (hx : short 2000 x) (hy : short 2000 y) : Con Tryz.prog 53 [zi x.num, int false (ofN y.den)] (.g (zi (x.num * (y.den : Int)))) ∧ few 20000 (ofZ (x.num * (y.den : Int))).2 := by
  have T := jMul (ofZ x.num).1 (ofZ x.num).2 false (ofN y.den) (few_up hx.num (by decide)) (few_up hy.den (by decide))
  rw [zval_ofZ, zval_den] at T
  have h2 := @len_natAbs_mul x.num (y.den : Int)
  have h3 := hx.1
  have h4 := hy.2
  simp only [Int.natAbs_natCast] at h2
  exact ⟨T, few_ofZ (by omega)⟩
theorem rdD (hx : short 2000 x) (hy : short 2000 y) : Con Tryz.prog 66 [.one (limbs (ofN x.den)), .one (limbs (ofN y.den))] (.g (.one (limbs (ofN (x.den * y.den))))) ∧ few 15000 (ofN (x.den * y.den)) := by
  have M := foliotref01_Mul.con (ofN x.den) (ofN y.den) _ (if_pos ⟨rf (few_up hx.den (by decide)), rf (few_up hy.den (by decide))⟩)
  rw [val_ofN, val_ofN] at M
  have := len_mul x.den y.den
  have := hx.2
  have := hy.2
  exact ⟨M, ⟨lim_ofN _, by omega⟩⟩
end
theorem zjAdd {x y : Int} (hx : few 20000 (ofZ x).2) (hy : few 20000 (ofZ y).2) : Con Tryz.prog 65 [zi x, zi y] (.g (zi (x + y))) := by
  have A := jAdd (ofZ x).1 (ofZ x).2 (ofZ y).1 (ofZ y).2 hx hy
  rw [zval_ofZ, zval_ofZ] at A
  exact A
theorem rv_zi (z : Int) (n : Nat) : rv (ofZ z).1 (ofZ z).2 (ofN n) = mkRat z n := by unfold rv; rw [zval_ofZ, val_ofN]
theorem mulw {a b : Int} (h1 : -1073741824 < a) (h2 : a < 1073741824) (h3 : -1073741824 < b) (h4 : b < 1073741824) : IntKind.i64.wrap (a * b) = a * b ∧ -1152921504606846976 < a * b ∧ a * b < 1152921504606846976 := by
  have h : (a * b).natAbs ≤ 1073741823 * 1073741823 := by
    rw [Int.natAbs_mul]
    exact Nat.mul_le_mul (by omega) (by omega)
  exact ⟨wr (by omega) (by omega), by omega, by omega⟩
section
variable (b : Bool) (l d : List Int) (c : Bool) (m e : List Int)
theorem rAdd (hl : few 2000 l) (hd : few 2000 d) (hm : few 2000 m) (he : few 2000 e) : Con Tryz.prog 27 [rat b l d, rat c m e] (.g (ra (rv b l d + rv c m e))) := by
  have N1 := rNorm b l d (few_up hl (by decide)) (few_up hd (by decide))
  have N2 := rNorm c m e (few_up hm (by decide)) (few_up he (by decide))
  obtain ⟨n1, m1, ok1, Q1, q1⟩ := rQuick b l d hl.1 hd.1 (by have := hl.2; omega)
  obtain ⟨n2, m2, ok2, Q2, q2⟩ := rQuick c m e hm.1 he.1 (by have := hm.2; omega)
  have hx := short_rv (b := b) hl hd (by decide)
  have hy := short_rv (b := c) hm he (by decide)
  generalize rv b l d = x at *
  generalize rv c m e = y at *
  have A := zjAdd (rtT hx hy).2 (rtT hy hx).2
  have h1 := @len_natAbs_add (x.num * y.den) (y.num * x.den)
  have h2 := @len_natAbs_mul x.num (y.den : Int)
  have h3 := @len_natAbs_mul y.num (x.den : Int)
  have := hx.1; have := hx.2; have := hy.1; have := hy.2
  simp only [Int.natAbs_natCast] at h2 h3
  have L := rNorm (ofZ (x.num * (y.den : Int) + y.num * (x.den : Int))).1 _ _ (few_ofZ (z := x.num * (y.den : Int) + y.num * (x.den : Int)) (by omega)) (rdD hx hy).2
  rw [rv_zi, ← Rat.add_def'] at L
  cases ok1 <;> cases ok2
  · exact by_ _ Tryz.func27 rfl [gives Q1, gives Q2, ends (rfl : false = false), ends (rfl : false = false), gives N1, gives N2, gives (rDen (ofZ y.num).1 (ofZ y.num).2 (ofN y.den)), gives (rtT hx hy).1, gives (rDen (ofZ x.num).1 (ofZ x.num).2 (ofN x.den)), gives (rtT hy hx).1, gives A, gives (rdD hx hy).1, gives L] (by kernel_rfl)
  · exact by_ _ Tryz.func27 rfl [gives Q1, gives Q2, ends (rfl : false = false), ends (rfl : false = false), gives N1, gives N2, gives (rDen (ofZ y.num).1 (ofZ y.num).2 (ofN y.den)), gives (rtT hx hy).1, gives (rDen (ofZ x.num).1 (ofZ x.num).2 (ofN x.den)), gives (rtT hy hx).1, gives A, gives (rdD hx hy).1, gives L] (by kernel_rfl)
  · exact by_ _ Tryz.func27 rfl [gives Q1, gives Q2, ends (rfl : true = true), ends (rfl : false = false), gives N1, gives N2, gives (rDen (ofZ y.num).1 (ofZ y.num).2 (ofN y.den)), gives (rtT hx hy).1, gives (rDen (ofZ x.num).1 (ofZ x.num).2 (ofN x.den)), gives (rtT hy hx).1, gives A, gives (rdD hx hy).1, gives L] (by kernel_rfl)
  · obtain ⟨a1, a2, a3, a4, a5⟩ := q1 rfl
    obtain ⟨b1, b2, b3, b4, b5⟩ := q2 rfl
    have w1 := mulw a1 a2 (show -1073741824 < m2 by omega) b4
    have w2 := mulw b1 b2 (show -1073741824 < m1 by omega) a4
    have w3 := mulw (show -1073741824 < m1 by omega) a4 (show -1073741824 < m2 by omega) b4
    have wp : 0 < m1 * m2 := Int.mul_pos a3 b3
    have es : IntKind.i64.wrap (IntKind.i64.wrap (n1 * m2) + IntKind.i64.wrap (n2 * m1)) = n1 * m2 + n2 * m1 := by rw [w1.1, w2.1]; exact wr (by omega) (by omega)
    have K := rTold (IntKind.i64.wrap (IntKind.i64.wrap (n1 * m2) + IntKind.i64.wrap (n2 * m1))) (IntKind.i64.wrap (m1 * m2)) (by rw [es]; omega) (by rw [es]; omega) (by rw [w3.1]; exact wp) (by rw [w3.1]; omega)
    have ex : mkRat (IntKind.i64.wrap (IntKind.i64.wrap (n1 * m2) + IntKind.i64.wrap (n2 * m1))) (IntKind.i64.wrap (m1 * m2)).toNat = x + y := by
      rw [es, w3.1, a5, b5, Rat.mkRat_add_mkRat _ _ (by omega) (by omega), Int.toNat_mul (by omega) (by omega), Int.toNat_of_nonneg (by omega), Int.toNat_of_nonneg (by omega)]
    rw [ex] at K
    exact by_ _ Tryz.func27 rfl [gives Q1, gives Q2, ends (rfl : true = true), ends (rfl : true = true), gives K] (by kernel_rfl)
theorem rNeg (hl : few 2000 l) (hd : few 2000 d) : Con Tryz.prog 33 [rat b l d] (.g (ra (-rv b l d))) := by
  have N1 := rNorm b l d (few_up hl (by decide)) (few_up hd (by decide))
  generalize rv b l d = x at *
  by_cases h : x.num < 0
  · refine (by_ (.g (rat false (ofN x.num.natAbs) (ofN x.den))) Tryz.func33 rfl [gives N1, ends (show (!decide (x.num < 0)) = false by rw [decide_eq_true h]; rfl)] (by kernel_rfl)).to ?_
    rw [ra_neg]
    unfold ofZ
    rw [decide_eq_false (show ¬ -x.num < 0 by omega), Int.natAbs_neg]
    rfl
  · refine (by_ (.g (rat (decide ((((ofN x.num.natAbs).length : Nat) : Int) > 0)) (ofN x.num.natAbs) (ofN x.den))) Tryz.func33 rfl [gives N1, ends (show (!decide (x.num < 0)) = true by rw [decide_eq_false h]; rfl)] (by kernel_rfl)).to ?_
    rw [ra_neg, len_pos]
    unfold ofZ
    rw [Int.natAbs_neg, show decide (x.num.natAbs ≠ 0) = decide (-x.num < 0) by rw [decide_eq_decide]; omega]
    rfl
theorem rSub (hl : few 2000 l) (hd : few 2000 d) (hm : few 2000 m) (he : few 2000 e) : Con Tryz.prog 29 [rat b l d, rat c m e] (.g (ra (rv b l d - rv c m e))) := by
  have G := rNeg c m e hm he
  have hy := short_neg (short_rv (b := c) hm he (by decide))
  have A := rAdd b l d (ofZ (-rv c m e).num).1 (ofZ (-rv c m e).num).2 (ofN (-rv c m e).den) hl hd hy.num hy.den
  rw [rv_told, ← Rat.sub_eq_add_neg] at A
  exact by_ _ Tryz.func29 rfl [gives G, gives A] (by kernel_rfl)
theorem rMul (hl : few 2000 l) (hd : few 2000 d) (hm : few 2000 m) (he : few 2000 e) : Con Tryz.prog 31 [rat b l d, rat c m e] (.g (ra (rv b l d * rv c m e))) := by
  have N1 := rNorm b l d (few_up hl (by decide)) (few_up hd (by decide))
  have N2 := rNorm c m e (few_up hm (by decide)) (few_up he (by decide))
  obtain ⟨n1, m1, ok1, Q1, q1⟩ := rQuick b l d hl.1 hd.1 (by have := hl.2; omega)
  obtain ⟨n2, m2, ok2, Q2, q2⟩ := rQuick c m e hm.1 he.1 (by have := hm.2; omega)
  have hx := short_rv (b := b) hl hd (by decide)
  have hy := short_rv (b := c) hm he (by decide)
  generalize rv b l d = x at *
  generalize rv c m e = y at *
  have M := jMul (ofZ x.num).1 (ofZ x.num).2 (ofZ y.num).1 (ofZ y.num).2 (few_up hx.num (by decide)) (few_up hy.num (by decide))
  rw [zval_ofZ, zval_ofZ] at M
  have h2 := @len_natAbs_mul x.num y.num
  have := hx.1; have := hy.1
  have L := rNorm (ofZ (x.num * y.num)).1 _ _ (few_ofZ (z := x.num * y.num) (by omega)) (rdD hx hy).2
  rw [rv_zi, ← Rat.mul_def'] at L
  cases ok1 <;> cases ok2
  · exact by_ _ Tryz.func31 rfl [gives Q1, gives Q2, ends (rfl : false = false), ends (rfl : false = false), gives N1, gives N2, gives M, gives (rdD hx hy).1, gives L] (by kernel_rfl)
  · exact by_ _ Tryz.func31 rfl [gives Q1, gives Q2, ends (rfl : false = false), ends (rfl : false = false), gives N1, gives N2, gives M, gives (rdD hx hy).1, gives L] (by kernel_rfl)
  · exact by_ _ Tryz.func31 rfl [gives Q1, gives Q2, ends (rfl : true = true), ends (rfl : false = false), gives N1, gives N2, gives M, gives (rdD hx hy).1, gives L] (by kernel_rfl)
  · obtain ⟨a1, a2, a3, a4, a5⟩ := q1 rfl
    obtain ⟨b1, b2, b3, b4, b5⟩ := q2 rfl
    have w1 := mulw a1 a2 b1 b2
    have w3 := mulw (show -1073741824 < m1 by omega) a4 (show -1073741824 < m2 by omega) b4
    have wp : 0 < m1 * m2 := Int.mul_pos a3 b3
    have K := rTold (IntKind.i64.wrap (n1 * n2)) (IntKind.i64.wrap (m1 * m2)) (by rw [w1.1]; omega) (by rw [w1.1]; omega) (by rw [w3.1]; exact wp) (by rw [w3.1]; omega)
    have ex : mkRat (IntKind.i64.wrap (n1 * n2)) (IntKind.i64.wrap (m1 * m2)).toNat = x * y := by
      rw [w1.1, w3.1, a5, b5, Rat.mkRat_mul_mkRat, Int.toNat_mul (by omega) (by omega)]
    rw [ex] at K
    exact by_ _ Tryz.func31 rfl [gives Q1, gives Q2, ends (rfl : true = true), ends (rfl : true = true), gives K] (by kernel_rfl)
theorem rDiv (hl : few 2000 l) (hd : few 2000 d) (hm : few 2000 m) (he : few 2000 e) : Con Tryz.prog 22 [rat b l d, rat c m e] (divR (rv b l d) (rv c m e)) := by
  have N1 := rNorm b l d (few_up hl (by decide)) (few_up hd (by decide))
  have N2 := rNorm c m e (few_up hm (by decide)) (few_up he (by decide))
  obtain ⟨n1, m1, ok1, Q1, q1⟩ := rQuick b l d hl.1 hd.1 (by have := hl.2; omega)
  obtain ⟨n2, m2, ok2, Q2, q2⟩ := rQuick c m e hm.1 he.1 (by have := hm.2; omega)
  have hx := short_rv (b := b) hl hd (by decide)
  have hy := short_rv (b := c) hm he (by decide)
  generalize rv b l d = x at *
  generalize rv c m e = y at *
  have M := jMul false (ofN x.den) (ofZ y.num).1 (ofZ y.num).2 (few_up hx.den (by decide)) (few_up hy.num (by decide))
  rw [zval_ofZ, zval_den, Int.mul_comm] at M
  have h2 := @len_natAbs_mul x.num (y.den : Int)
  have h3 := @len_natAbs_mul y.num (x.den : Int)
  have := hx.1; have := hx.2; have := hy.1; have := hy.2
  simp only [Int.natAbs_natCast] at h2 h3
  have K := rMake (ofZ (x.num * (y.den : Int))).1 (ofZ (x.num * (y.den : Int))).2 (ofZ (y.num * (x.den : Int))).1 (ofZ (y.num * (x.den : Int))).2 (few_ofZ (by omega)) (few_ofZ (by omega))
  rw [zval_ofZ, zval_ofZ, makeT_div] at K
  have whole : divR x y = .tup [rat false [] [], num 3] ∨ divR x y = .tup [ra (x / y), num 0] := by
    unfold divR; split
    · exact .inl rfl
    · exact .inr rfl
  cases ok1 <;> cases ok2
  · rcases whole with W | W <;> rw [W] at K ⊢ <;> exact by_ _ Tryz.func22 rfl [gives Q1, gives Q2, ends (rfl : false = false), ends (rfl : false = false), ends (rfl : false = false), ends (rfl : false = false), ends (rfl : false = false), ends (rfl : false = false), gives N1, gives N2, gives (rDen (ofZ y.num).1 (ofZ y.num).2 (ofN y.den)), gives (rtT hx hy).1, gives (rDen (ofZ x.num).1 (ofZ x.num).2 (ofN x.den)), gives M, gives K] (by kernel_rfl)
  · rcases whole with W | W <;> rw [W] at K ⊢ <;> exact by_ _ Tryz.func22 rfl [gives Q1, gives Q2, ends (rfl : false = false), ends (rfl : false = false), ends (rfl : false = false), ends (rfl : false = false), ends (rfl : false = false), ends (rfl : false = false), gives N1, gives N2, gives (rDen (ofZ y.num).1 (ofZ y.num).2 (ofN y.den)), gives (rtT hx hy).1, gives (rDen (ofZ x.num).1 (ofZ x.num).2 (ofN x.den)), gives M, gives K] (by kernel_rfl)
  · rcases whole with W | W <;> rw [W] at K ⊢ <;> exact by_ _ Tryz.func22 rfl [gives Q1, gives Q2, ends (rfl : true = true), ends (rfl : false = false), ends (rfl : false = false), ends (rfl : true = true), ends (rfl : false = false), ends (rfl : false = false), gives N1, gives N2, gives (rDen (ofZ y.num).1 (ofZ y.num).2 (ofN y.den)), gives (rtT hx hy).1, gives (rDen (ofZ x.num).1 (ofZ x.num).2 (ofN x.den)), gives M, gives K] (by kernel_rfl)
  · obtain ⟨a1, a2, a3, a4, a5⟩ := q1 rfl
    obtain ⟨b1, b2, b3, b4, b5⟩ := q2 rfl
    have dy : y = Rat.divInt n2 m2 := by rw [b5, ← Rat.divInt_ofNat, Int.toNat_of_nonneg (by omega)]
    have dx : x = Rat.divInt n1 m1 := by rw [a5, ← Rat.divInt_ofNat, Int.toNat_of_nonneg (by omega)]
    have dq : x / y = Rat.divInt (n1 * m2) (m1 * n2) := by rw [Rat.div_def, dx, dy, Rat.inv_divInt, Rat.divInt_mul_divInt]
    have y0 : y = 0 ↔ n2 = 0 := by rw [b5]; exact Rat.mkRat_eq_zero (by omega)
    by_cases hp : n2 > 0
    · have w1 := mulw a1 a2 (show -1073741824 < m2 by omega) b4
      have w3 := mulw (show -1073741824 < m1 by omega) a4 b1 b2
      have wp : 0 < m1 * n2 := Int.mul_pos a3 hp
      have K := rTold (IntKind.i64.wrap (n1 * m2)) (IntKind.i64.wrap (m1 * n2)) (by rw [w1.1]; omega) (by rw [w1.1]; omega) (by rw [w3.1]; exact wp) (by rw [w3.1]; omega)
      have ex : mkRat (IntKind.i64.wrap (n1 * m2)) (IntKind.i64.wrap (m1 * n2)).toNat = x / y := by
        rw [w1.1, w3.1, dq, ← Rat.divInt_ofNat, Int.toNat_of_nonneg (by omega)]
      rw [ex] at K
      unfold divR
      rw [if_neg (fun h => by have := y0.1 h; omega)]
      exact by_ _ Tryz.func22 rfl [gives Q1, gives Q2, ends (rfl : true = true), ends (rfl : true = true), ends (decide_eq_true hp), gives K] (by kernel_rfl)
    · by_cases hn : n2 < 0
      · have i1 : IntKind.i64.wrap (0 - n1) = -n1 := by rw [wr (by omega) (by omega)]; omega
        have i2 : IntKind.i64.wrap (0 - m1) = -m1 := by rw [wr (by omega) (by omega)]; omega
        have w1 := mulw (show -1073741824 < -n1 by omega) (by omega) (show -1073741824 < m2 by omega) b4
        have w3 := mulw (show -1073741824 < -m1 by omega) (by omega) b1 b2
        have wp : 0 < -m1 * n2 := by have := Int.mul_pos a3 (show 0 < -n2 by omega); rw [Int.mul_neg] at this; rw [Int.neg_mul]; exact this
        have e1 : IntKind.i64.wrap (IntKind.i64.wrap (0 - n1) * m2) = -n1 * m2 := by rw [i1]; exact w1.1
        have e3 : IntKind.i64.wrap (IntKind.i64.wrap (0 - m1) * n2) = -m1 * n2 := by rw [i2]; exact w3.1
        have K := rTold (IntKind.i64.wrap (IntKind.i64.wrap (0 - n1) * m2)) (IntKind.i64.wrap (IntKind.i64.wrap (0 - m1) * n2)) (by rw [e1]; omega) (by rw [e1]; omega) (by rw [e3]; exact wp) (by rw [e3]; omega)
        have ex : mkRat (IntKind.i64.wrap (IntKind.i64.wrap (0 - n1) * m2)) (IntKind.i64.wrap (IntKind.i64.wrap (0 - m1) * n2)).toNat = x / y := by
          rw [e1, e3, dq, ← Rat.divInt_ofNat, Int.toNat_of_nonneg (by omega), Int.neg_mul, Int.neg_mul, Rat.neg_divInt_neg]
        rw [ex] at K
        unfold divR
        rw [if_neg (fun h => by have := y0.1 h; omega)]
        exact by_ _ Tryz.func22 rfl [gives Q1, gives Q2, ends (rfl : true = true), ends (rfl : true = true), ends (decide_eq_false hp), ends (rfl : true = true), ends (rfl : true = true), ends (decide_eq_true hn), gives K] (by kernel_rfl)
      · rcases whole with W | W <;> rw [W] at K ⊢ <;> exact by_ _ Tryz.func22 rfl [gives Q1, gives Q2, ends (rfl : true = true), ends (rfl : true = true), ends (decide_eq_false hp), ends (rfl : true = true), ends (rfl : true = true), ends (decide_eq_false hn), gives N1, gives N2, gives (rDen (ofZ y.num).1 (ofZ y.num).2 (ofN y.den)), gives (rtT hx hy).1, gives (rDen (ofZ x.num).1 (ofZ x.num).2 (ofN x.den)), gives M, gives K] (by kernel_rfl)
theorem sgn_sub (x y : Rat) : sgn (x - y).num = cmpR x y := by
  unfold sgn cmpR
  have h1 : (x - y).num < 0 ↔ x < y := by
    rw [← Rat.not_le, Rat.le_iff_sub_nonneg, ← Rat.num_nonneg]; omega
  have h2 : 0 < (x - y).num ↔ y < x := by
    rw [Rat.lt_iff_sub_pos, Rat.lt_iff_le_and_ne, ← Rat.num_nonneg]
    have := @Rat.num_eq_zero (x - y)
    constructor
    · intro h; exact ⟨by omega, fun e => by rw [← e] at h; exact absurd h (by decide)⟩
    · rintro ⟨h, hne⟩
      have : (x - y).num ≠ 0 := fun e => hne ((Rat.num_eq_zero.1 e).symm)
      omega
  simp only [h1, h2]
theorem rCmp (hl : few 2000 l) (hd : few 2000 d) (hm : few 2000 m) (he : few 2000 e) : Con Tryz.prog 17 [rat b l d, rat c m e] (.g (num (cmpR (rv b l d) (rv c m e)))) := by
  have D := rSub b l d c m e hl hd hm he
  obtain ⟨n1, m1, ok1, Q1, q1⟩ := rQuick b l d hl.1 hd.1 (by have := hl.2; omega)
  obtain ⟨n2, m2, ok2, Q2, q2⟩ := rQuick c m e hm.1 he.1 (by have := hm.2; omega)
  have hx := short_rv (b := b) (k := 2000) hl hd (by decide)
  have hy := short_rv (b := c) (k := 2000) hm he (by decide)
  generalize rv b l d = x at *
  generalize rv c m e = y at *
  have hs := short_sub hx hy
  have N := rNorm (ofZ (x - y).num).1 (ofZ (x - y).num).2 (ofN (x - y).den) (few_up hs.num (by decide)) (few_up hs.den (by decide))
  rw [rv_told] at N
  have S : Con Tryz.prog 48 [ra (x - y)] (.g (num (cmpR x y))) := by
    rw [← sgn_sub]
    generalize x - y = z at *
    have hp := len_ofZ_pos z.num
    have e : (ofZ z.num).2.length = (ofN z.num.natAbs).length := rfl
    unfold sgn
    by_cases h0 : z.num = 0
    · rw [if_neg (by omega), if_neg (by omega)]
      exact by_ _ Tryz.func48 rfl [gives N, ends (show ((((ofN z.num.natAbs).length : Nat) : Int) == 0) = true by rw [h0]; rfl)] (by kernel_rfl)
    · have := hp.2 h0
      have hz : ((((ofN z.num.natAbs).length : Nat) : Int) == 0) = false := by rw [beq_eq_false_iff_ne]; omega
      by_cases h1 : z.num < 0
      · rw [if_pos h1]
        exact by_ _ Tryz.func48 rfl [gives N, ends hz, ends (decide_eq_true h1)] (by kernel_rfl)
      · rw [if_neg h1, if_pos (by omega)]
        exact by_ _ Tryz.func48 rfl [gives N, ends hz, ends (decide_eq_false h1)] (by kernel_rfl)
  cases ok1 <;> cases ok2
  · exact by_ _ Tryz.func17 rfl [gives Q1, gives Q2, ends (rfl : (!false) = true), ends (rfl : true = true), gives D, gives S] (by kernel_rfl)
  · exact by_ _ Tryz.func17 rfl [gives Q1, gives Q2, ends (rfl : (!false) = true), ends (rfl : true = true), gives D, gives S] (by kernel_rfl)
  · exact by_ _ Tryz.func17 rfl [gives Q1, gives Q2, ends (rfl : (!true) = false), ends (rfl : (!false) = true), gives D, gives S] (by kernel_rfl)
  · obtain ⟨a1, a2, a3, a4, a5⟩ := q1 rfl
    obtain ⟨b1, b2, b3, b4, b5⟩ := q2 rfl
    have w1 := mulw a1 a2 (show -1073741824 < m2 by omega) b4
    have w2 := mulw b1 b2 (show -1073741824 < m1 by omega) a4
    have lt : ∀ {n m : Int} {p q : Int}, 0 < m → 0 < q → (mkRat n m.toNat < mkRat p q.toNat ↔ n * q < p * m) := fun {n m p q} hm hq => by
      rw [← Rat.divInt_ofNat, ← Rat.divInt_ofNat, Int.toNat_of_nonneg (by omega), Int.toNat_of_nonneg (by omega), ← Rat.not_le, Rat.le_iff_sub_nonneg, Rat.divInt_sub_divInt _ _ (by omega) (by omega), Rat.divInt_nonneg_iff_of_pos_right (Int.mul_pos hm hq)]
      omega
    have l1 := lt (n := n1) (p := n2) a3 b3
    have l2 := lt (n := n2) (p := n1) b3 a3
    rw [a5, b5]
    unfold cmpR
    by_cases c1 : n1 * m2 < n2 * m1
    · rw [if_pos (l1.2 c1)]
      exact by_ _ Tryz.func17 rfl [gives Q1, gives Q2, ends (rfl : (!true) = false), ends (rfl : (!true) = false), ends (show decide (IntKind.i64.wrap (n1 * m2) < IntKind.i64.wrap (n2 * m1)) = true by rw [w1.1, w2.1]; exact decide_eq_true c1)] (by kernel_rfl)
    · rw [if_neg (fun h => c1 (l1.1 h))]
      have f1 : decide (IntKind.i64.wrap (n1 * m2) < IntKind.i64.wrap (n2 * m1)) = false := by rw [w1.1, w2.1]; exact decide_eq_false c1
      by_cases c2 : n2 * m1 < n1 * m2
      · rw [if_pos (l2.2 c2)]
        exact by_ _ Tryz.func17 rfl [gives Q1, gives Q2, ends (rfl : (!true) = false), ends (rfl : (!true) = false), ends f1, ends (show decide (IntKind.i64.wrap (n1 * m2) > IntKind.i64.wrap (n2 * m1)) = true by rw [w1.1, w2.1]; exact decide_eq_true c2)] (by kernel_rfl)
      · rw [if_neg (fun h => c2 (l2.1 h))]
        exact by_ _ Tryz.func17 rfl [gives Q1, gives Q2, ends (rfl : (!true) = false), ends (rfl : (!true) = false), ends f1, ends (show decide (IntKind.i64.wrap (n1 * m2) > IntKind.i64.wrap (n2 * m1)) = false by rw [w1.1, w2.1]; exact decide_eq_false c2)] (by kernel_rfl)
theorem rSame (h1 : l.length < 4000000000000000000) (h2 : d.length < 4000000000000000000) : Con Tryz.prog 55 [rat b l d, rat c m e] (.g (truth (decide (b = c ∧ l = m) && decide (d = e)))) := by
  have S1 := jSameZ b l c m h1
  have S2 := jSame d e h2
  by_cases h : b = c ∧ l = m
  · rw [decide_eq_true h] at S1 ⊢
    exact by_ _ Tryz.func55 rfl [gives S1, ends (rfl : true = true), gives S2] (by kernel_rfl)
  · rw [decide_eq_false h] at S1 ⊢
    exact by_ _ Tryz.func55 rfl [gives S1, ends (rfl : false = false)] (by kernel_rfl)
end
end Go.Proofs.YtaclkccgjpjdjaaGreat.Ev
end
