import Derived.Test.YtaclkccgjpjdjaaQgjfopajphhBGx0
import Derived.Test.YtaclkccgjpjdjaaQokgfeofnloBGx1
import Derived.Test.YtaclkccgjpjdjaaQahfekkchelM
namespace Go.Proofs.Ytaclkccgjpjdjaa.BG
open Go.RowKit Go.Proofs.YtaclkccgjpjdjaaW.PrintWords Go.Proofs.YtaclkccgjpjdjaaW.PrintLast Go.Proofs.YtaclkccgjpjdjaaW.PrintMore
attribute [local go_sem] max2_int min2_int max_two min_two max_three min_three max_four min_four   -- for this text's walks alone
set_option linter.unusedVariables false
set_option linter.unusedSimpArgs false
def foliotlaw02_IntegerRing.j0 : Nat → Bool → Bool → List Int → Bool → List Int → Bool → List Int → Option (Bool)
 | 0, _, _, _, _, _, _, _ => none
 | k + 1, x18, x160000, x160001, x161000, x161001, x162000, x162001 => if x18 = true then (some true) else ((integer_Add.f x160000 x160001 x161000 x161001).bind fun bt164 => ((integer_Mul.f x160000 x160001 x161000 x161001).bind fun bt168 => ((integer_Add.f x161000 x161001 x160000 x160001).bind fun bt174 => ((foliotlaw02_same.f k bt164.1 bt164.2 bt174.1 bt174.2).bind fun t178 => (if t178 = true then ((integer_Mul.f x161000 x161001 x160000 x160001).bind fun bt179 => ((foliotlaw02_same.f k bt168.1 bt168.2 bt179.1 bt179.2).bind fun t183 => (if t183 = true then ((integer_Mul.f bt164.1 bt164.2 x162000 x162001).bind fun bt184 => ((integer_Mul.f x160000 x160001 x162000 x162001).bind fun bt188 => ((integer_Mul.f x161000 x161001 x162000 x162001).bind fun bt192 => ((integer_Add.f bt188.1 bt188.2 bt192.1 bt192.2).bind fun bt196 => ((foliotlaw02_same.f k bt184.1 bt184.2 bt196.1 bt196.2).bind fun t200 => (if t200 = true then ((integer_Add.f bt164.1 bt164.2 x162000 x162001).bind fun bt201 => ((integer_Add.f x161000 x161001 x162000 x162001).bind fun bt205 => ((integer_Add.f x160000 x160001 bt205.1 bt205.2).bind fun bt209 => ((foliotlaw02_same.f k bt201.1 bt201.2 bt209.1 bt209.2).bind fun t213 => (if t213 = true then ((integer_Sub.f bt164.1 bt164.2 x161000 x161001).bind fun bt214 => ((integer_Norm.f x160000 x160001).bind fun bt218 => ((foliotlaw02_same.f k bt214.1 bt214.2 bt218.1 bt218.2).bind fun t222 => (if t222 = true then ((integer_Neg.f x160000 x160001).bind fun bt223 => ((integer_Add.f x160000 x160001 bt223.1 bt223.2).bind fun bt227 => ((integer_Sign.f bt227.1 bt227.2).bind fun t231 => (if t231 = 0 then ((foliotlaw02_awake.f).bind fun t232 => (some t232)) else (none))))) else (none))))) else (none)))))) else (none))))))) else (none)))) else (none))))))
def foliotlaw02_IntegerRing.f (k : Nat) (a0_0 : Bool) (l0_1 : List Int) (a1_0 : Bool) (l1_1 : List Int) (a2_0 : Bool) (l2_1 : List Int) : Option (Bool) := (foliotlaw02_few.f a0_0 l0_1 a1_0 l1_1).bind fun t162 => (if t162 = true then ((foliotlaw02_few.f a2_0 l2_1 a2_0 l2_1).bind fun t163 => (foliotlaw02_IntegerRing.j0 k (!t163) a0_0 l0_1 a1_0 l1_1 a2_0 l2_1)) else (foliotlaw02_IntegerRing.j0 k true a0_0 l0_1 a1_0 l1_1 a2_0 l2_1))
def foliotlaw02_IntegerRing.T3 : Bool × List (List Nat × List Nat) := (true, [([], []), ([], []), ([0, 1], [0, 1]), ([], []), ([], []), ([3, 4, 2], [3, 4]), ([], []), ([], []), ([6, 2, 5, 0, 1, 2, 6, 7], [2, 6]), ([7, 5, 8, 0, 1, 2, 3, 4, 5, 6, 7, 8], [5, 7])])
def foliotlaw02_IntegerRing.B3 : List Nat := [0, 0, 3, 0, 0, 31, 0, 0, 255, 511]
theorem foliotlaw02_IntegerRing.tab3 : rtab .any (opsOf Try.f12 3) = foliotlaw02_IntegerRing.T3 := by kernel_rfl
theorem foliotlaw02_IntegerRing.bits3 : waitsOk foliotlaw02_IntegerRing.T3.2 foliotlaw02_IntegerRing.B3 = true := by kernel_rfl
def foliotlaw02_IntegerRing.T4 : Bool × List (List Nat × List Nat) := (true, [([], []), ([], []), ([], []), ([1, 2], [1, 2]), ([0, 3, 3], [0, 3]), ([4, 4], [4]), ([5], [5]), ([5], [5]), ([5], [5]), ([7, 8, 5, 5], [5, 7, 8]), ([6, 9, 9, 5], [5, 6, 9]), ([5, 10], [5, 10]), ([11, 10], [11]), ([12], [12]), ([12], [12]), ([13, 14, 12, 12], [12, 13, 14]), ([12], [12]), ([12], [12]), ([16, 17, 15, 12], [12, 16, 17]), ([12], [12]), ([12], [12]), ([19, 20, 18, 12], [12, 19, 20]), ([18, 21, 21, 12], [12, 18, 21]), ([15, 22, 22, 12], [12, 15, 22]), ([12, 23], [12, 23]), ([24, 23], [24]), ([25], [25]), ([25], [25]), ([26, 27, 25, 25], [25, 26, 27]), ([25], [25]), ([25], [25]), ([25], [25]), ([30, 31, 28, 25], [25, 30, 31]), ([29, 32, 32, 25], [25, 29, 32]), ([28, 33, 33, 25], [25, 28, 33]), ([25, 34], [25, 34]), ([35, 34], [35]), ([36], [36]), ([36], [36]), ([37, 38, 36, 36], [36, 37, 38]), ([36], [36]), ([40, 39, 36], [36, 40]), ([39, 41, 41, 36], [36, 39, 41]), ([36, 42], [36, 42]), ([43, 42], [43]), ([44], [44]), ([44], [44]), ([46, 44, 44], [44, 46]), ([45, 47, 47, 44], [44, 45, 47]), ([48, 48, 44], [44, 48]), ([49, 44], [44, 49]), ([44, 50], [44, 50]), ([51, 49], [51]), ([52, 52], [52]), ([52, 53], [52, 53]), ([54, 53, 0, 1, 2, 3, 4, 5, 6, 7, 8, 9, 10, 11, 12, 13, 14, 15, 16, 17, 18, 19, 20, 21, 22, 23, 24, 25, 26, 27, 28, 29, 30, 31, 32, 33, 34, 35, 36, 37, 38, 39, 40, 41, 42, 43, 44, 45, 46, 47, 48, 49, 50, 51, 52, 53, 54], [54])])
def foliotlaw02_IntegerRing.B4 : List Nat := [0, 0, 0, 6, 15, 31, 63, 63, 63, 447, 1023, 2047, 4095, 8191, 8191, 32767, 8191, 8191, 262143, 8191, 8191, 2097151, 4194303, 8388607, 16777215, 33554431, 67108863, 67108863, 268435455, 67108863, 67108863, 67108863, 3758096383, 8589934591, 17179869183, 34359738367, 68719476735, 137438953471, 137438953471, 549755813887, 137438953471, 2199023255551, 4398046511103, 8796093022207, 17592186044415, 35184372088831, 35184372088831, 105553116266495, 281474976710655, 562949953421311, 1125899906842623, 2251799813685247, 4503599627370495, 9007199254740991, 18014398509481983, 36028797018963967]
theorem foliotlaw02_IntegerRing.tab4 : rtab .any (opsOf Try.f12 4) = foliotlaw02_IntegerRing.T4 := by kernel_rfl
theorem foliotlaw02_IntegerRing.bits4 : waitsOk foliotlaw02_IntegerRing.T4.2 foliotlaw02_IntegerRing.B4 = true := by kernel_rfl
set_option maxHeartbeats 8000000 in
set_option maxRecDepth 100000 in
theorem foliotlaw02_IntegerRing.calls (k : Nat) (a0_0 : Bool) (A0_1 : Option Addr) (c0_1 : Nat) (l0_1 : List Int) (a1_0 : Bool) (A1_1 : Option Addr) (c1_1 : Nat) (l1_1 : List Int) (a2_0 : Bool) (A2_1 : Option Addr) (c2_1 : Nat) (l2_1 : List Int) (r : Bool) (w : World) (hr0_1 : Kd.C (Kd.int .u32) w A0_1 l0_1.length l0_1) (hc0_1 : l0_1.length ≤ c0_1) (hr1_1 : Kd.C (Kd.int .u32) w A1_1 l1_1.length l1_1) (hc1_1 : l1_1.length ≤ c1_1) (hr2_1 : Kd.C (Kd.int .u32) w A2_1 l2_1.length l2_1) (hc2_1 : l2_1.length ≤ c2_1) (h : foliotlaw02_IntegerRing.f k a0_0 l0_1 a1_0 l1_1 a2_0 l2_1 = some r) :
  Calls Try.prog 12 #[.agg #[.bool a0_0, .slice A0_1 l0_1.length c0_1], .agg #[.bool a1_0, .slice A1_1 l1_1.length c1_1], .agg #[.bool a2_0, .slice A2_1 l2_1.length c2_1]] w fun e w' => e = .returned (.bool r) ∧ Below w.heap.size w w' := by
 have hu39 := Try.underlying39
 have HR0_1 := Aside0.mk hr0_1
 have HC0_1 := Aside0.mk hc0_1
 clear hr0_1 hc0_1
 have HR1_1 := Aside0.mk hr1_1
 have HC1_1 := Aside0.mk hc1_1
 clear hr1_1 hc1_1
 have HR2_1 := Aside0.mk hr2_1
 have HC2_1 := Aside0.mk hc2_1
 clear hr2_1 hc2_1
 have HB := Aside0.mk (Below.refl w.heap.size w)
 have H : ((foliotlaw02_few.f a0_0 l0_1 a1_0 l1_1).bind fun t162 => (if t162 = true then ((foliotlaw02_few.f a2_0 l2_1 a2_0 l2_1).bind fun t163 => (foliotlaw02_IntegerRing.j0 k (!t163) a0_0 l0_1 a1_0 l1_1 a2_0 l2_1)) else (foliotlaw02_IntegerRing.j0 k true a0_0 l0_1 a1_0 l1_1 a2_0 l2_1))) = some r := h
 clear h
 have HC4 := Aside0.mk H
 clear H
 go_enter Try.func12, Try.ntmps12
 go_upto_region 1 with (first | ((with_reducible refine gate_dst (N := 3) rfl ?_); refine box_event ?hg (N := 3) ?hd (cs := #[.bool a0_0, .slice A0_1 l0_1.length c0_1]) (t := 39) ?hr ?_; (case hd => rfl); (case hg => rfl); (case hr => first | (go_simp; done) | (go_simp; rfl)); intro gb159 hg w5 hbox hb; have BK159 := Aside0.mk (hbox); have GW159 := Sq.gw HB hg; have GE159 := Sq.gw HB hg; replace HB := Sq.bs HB hb; clear hb hbox hg) | ((with_reducible refine gate_dst (N := 4) rfl ?_); refine box_event ?hg (N := 4) ?hd (cs := #[.bool a1_0, .slice A1_1 l1_1.length c1_1]) (t := 39) ?hr ?_; (case hd => rfl); (case hg => rfl); (case hr => first | (go_simp; done) | (go_simp; rfl)); intro gb160 hg w6 hbox hb; have BK160 := Aside0.mk (hbox); have GW160 := Sq.gw HB hg; have GE160 := Sq.gw HB hg; have NB159_160 := Sq.nl BK159 hg; have NB160_159 := Sq.ng BK159 hg; replace BK159 := Sq.bb BK159 hb; replace HB := Sq.bs HB hb; clear hb hbox hg) | ((with_reducible refine gate_dst (N := 5) rfl ?_); refine box_event ?hg (N := 5) ?hd (cs := #[.bool a2_0, .slice A2_1 l2_1.length c2_1]) (t := 39) ?hr ?_; (case hd => rfl); (case hg => rfl); (case hr => first | (go_simp; done) | (go_simp; rfl)); intro gb161 hg w7 hbox hb; have BK161 := Aside0.mk (hbox); have GW161 := Sq.gw HB hg; have GE161 := Sq.gw HB hg; have NB159_161 := Sq.nl BK159 hg; have NB161_159 := Sq.ng BK159 hg; have NB160_161 := Sq.nl BK160 hg; have NB161_160 := Sq.ng BK160 hg; replace BK159 := Sq.bb BK159 hb; replace BK160 := Sq.bb BK160 hb; replace HB := Sq.bs HB hb; clear hb hbox hg))
 (try simp only [Act.put, List.setIfInBounds_toArray, List.set_cons_zero, List.set_cons_succ])
 go_cut [18] (fun v18 wc => ∃ (kq : Nat) (x18_3 : Bool), v18 = .bool x18_3 ∧ Aside0 (foliotlaw02_IntegerRing.j0 kq x18_3 a0_0 l0_1 a1_0 l1_1 a2_0 l2_1 = some r) ∧ Aside0 (kq ≤ k) ∧ Aside0 (wc.heap[gb159]? = some (.cells #[.bool a0_0, (.slice A0_1 l0_1.length c0_1)] 39 (0, 0))) ∧ Aside0 (wc.heap[gb160]? = some (.cells #[.bool a1_0, (.slice A1_1 l1_1.length c1_1)] 39 (0, 0))) ∧ Aside0 (wc.heap[gb161]? = some (.cells #[.bool a2_0, (.slice A2_1 l2_1.length c2_1)] 39 (0, 0))) ∧ Aside0 (Below w.heap.size w wc))
 case first =>
  have H := HC4.out
  clear HC4
  replace H := Sq.bd H
  obtain ⟨t162, A8, H⟩ := H
  (try dsimp -simprocs only at H)
  by_cases c9 : t162 = true
  ·subst c9
   have H1 : ((foliotlaw02_few.f a2_0 l2_1 a2_0 l2_1).bind fun t163 => (foliotlaw02_IntegerRing.j0 k (!t163) a0_0 l0_1 a1_0 l1_1 a2_0 l2_1)) = some r := by rw [if_pos rfl] at H; exact H
   clear H
   have H := H1
   clear H1
   replace H := Sq.bd H
   obtain ⟨t163, A10, H⟩ := H
   (try dsimp -simprocs only at H)
   have H' := Aside0.mk H
   clear H
   have hnb11 := NB159_160.out
   have hnc11 := NB160_159.out
   have hnb12 := NB159_161.out
   have hnc12 := NB161_159.out
   have hcz13_0 := Sq.bc BK159 0 (.bool a0_0)
   have hcz13_1 := Sq.bc BK159 1 (.slice A0_1 l0_1.length c0_1)
   have hfz13_0 := blk_frozen BK159.out 0
   have hfz13_1 := blk_frozen BK159.out 1
   have hnb14 := NB160_161.out
   have hnc14 := NB161_160.out
   have hcz15_0 := Sq.bc BK160 0 (.bool a1_0)
   have hcz15_1 := Sq.bc BK160 1 (.slice A1_1 l1_1.length c1_1)
   have hfz15_0 := blk_frozen BK160.out 0
   have hfz15_1 := blk_frozen BK160.out 1
   go_wp2_with (first | ((with_reducible refine gate_callee (f := 53) rfl ?_); refine Sq.gl (some 11) Try.func53 #[.agg #[.bool a0_0, .slice A0_1 l0_1.length c0_1], .agg #[.bool a1_0, .slice A1_1 l1_1.length c1_1]] ?_; (with_reducible refine (foliotlaw02_few.calls a0_0 _ _ l0_1 a1_0 _ _ l1_1 true _ ?side1 ?side2 ?side3 ?side4 A8.out).mono ?_); (case side1 => exact Sq.ca (Kd.C_below HR0_1.out HB.out)); (case side2 => exact HC0_1.out); (case side3 => exact Sq.ca (Kd.C_below HR1_1.out HB.out)); (case side4 => exact HC1_1.out); rintro e w16 ⟨rfl, hb⟩; refine ⟨_, rfl, ?_⟩; replace BK159 := Sq.bb BK159 hb; replace BK160 := Sq.bb BK160 hb; replace BK161 := Sq.bb BK161 hb; replace HB := Sq.bs HB hb; (try clear hb); (try clear hb2); (try clear hk); (try clear hi); have hcz17_0 := Sq.bc BK161 0 (.bool a2_0); have hcz17_1 := Sq.bc BK161 1 (.slice A2_1 l2_1.length c2_1); have hfz17_0 := blk_frozen BK161.out 0; have hfz17_1 := blk_frozen BK161.out 1) | (go_at_call 53; (with_reducible refine (foliotlaw02_few.calls a2_0 _ _ l2_1 a2_0 _ _ l2_1 t163 _ ?side1 ?side2 ?side3 ?side4 A10.out).mono ?_); (case side1 => exact Sq.ca (Kd.C_below HR2_1.out HB.out)); (case side2 => exact HC2_1.out); (case side3 => exact Sq.ca (Kd.C_below HR2_1.out HB.out)); (case side4 => exact HC2_1.out); rintro e w18 ⟨rfl, hb⟩; replace BK159 := Sq.bb BK159 hb; replace BK160 := Sq.bb BK160 hb; replace BK161 := Sq.bb BK161 hb; replace HB := Sq.bs HB hb; (try clear hb); (try clear hb2); (try clear hk); (try clear hi)))
   go_meet
   case rel => exact ⟨_, (!t163), (by first | rfl | (simp; done) | (simp [*]; done)), H', ⟨by first | omega | exact Nat.le_refl _⟩, ⟨by (with_reducible repeat (first | refine blk_drewN ?_ _ | refine blk_drew ?_ | refine blk_alloc ?_ _)); exact BK159.out⟩, ⟨by (with_reducible repeat (first | refine blk_drewN ?_ _ | refine blk_drew ?_ | refine blk_alloc ?_ _)); exact BK160.out⟩, ⟨by (with_reducible repeat (first | refine blk_drewN ?_ _ | refine blk_drew ?_ | refine blk_alloc ?_ _)); exact BK161.out⟩, ⟨Sq.bl HB⟩⟩
  ·replace c9 := Bool.eq_false_iff.mpr c9
   subst c9
   have H1 : (foliotlaw02_IntegerRing.j0 k true a0_0 l0_1 a1_0 l1_1 a2_0 l2_1) = some r := by rw [if_neg (show ¬ (false = true) by decide)] at H; exact H
   clear H
   have H := H1
   clear H1
   have H' := Aside0.mk H
   clear H
   have hnb19 := NB159_160.out
   have hnc19 := NB160_159.out
   have hnb20 := NB159_161.out
   have hnc20 := NB161_159.out
   have hcz21_0 := Sq.bc BK159 0 (.bool a0_0)
   have hcz21_1 := Sq.bc BK159 1 (.slice A0_1 l0_1.length c0_1)
   have hfz21_0 := blk_frozen BK159.out 0
   have hfz21_1 := blk_frozen BK159.out 1
   have hnb22 := NB160_161.out
   have hnc22 := NB161_160.out
   have hcz23_0 := Sq.bc BK160 0 (.bool a1_0)
   have hcz23_1 := Sq.bc BK160 1 (.slice A1_1 l1_1.length c1_1)
   have hfz23_0 := blk_frozen BK160.out 0
   have hfz23_1 := blk_frozen BK160.out 1
   go_wp2_with (first | ((with_reducible refine gate_callee (f := 53) rfl ?_); refine Sq.gl (some 11) Try.func53 #[.agg #[.bool a0_0, .slice A0_1 l0_1.length c0_1], .agg #[.bool a1_0, .slice A1_1 l1_1.length c1_1]] ?_; (with_reducible refine (foliotlaw02_few.calls a0_0 _ _ l0_1 a1_0 _ _ l1_1 false _ ?side1 ?side2 ?side3 ?side4 A8.out).mono ?_); (case side1 => exact Sq.ca (Kd.C_below HR0_1.out HB.out)); (case side2 => exact HC0_1.out); (case side3 => exact Sq.ca (Kd.C_below HR1_1.out HB.out)); (case side4 => exact HC1_1.out); rintro e w24 ⟨rfl, hb⟩; refine ⟨_, rfl, ?_⟩; replace BK159 := Sq.bb BK159 hb; replace BK160 := Sq.bb BK160 hb; replace BK161 := Sq.bb BK161 hb; replace HB := Sq.bs HB hb; (try clear hb); (try clear hb2); (try clear hk); (try clear hi)))
   go_meet
   case rel => exact ⟨_, (true), (by first | rfl | (simp; done) | (simp [*]; done)), H', ⟨by first | omega | exact Nat.le_refl _⟩, ⟨by (with_reducible repeat (first | refine blk_drewN ?_ _ | refine blk_drew ?_ | refine blk_alloc ?_ _)); exact BK159.out⟩, ⟨by (with_reducible repeat (first | refine blk_drewN ?_ _ | refine blk_drew ?_ | refine blk_alloc ?_ _)); exact BK160.out⟩, ⟨by (with_reducible repeat (first | refine blk_drewN ?_ _ | refine blk_drew ?_ | refine blk_alloc ?_ _)); exact BK161.out⟩, ⟨Sq.bl HB⟩⟩
 case rest =>
  clear HC4
  try clear c1
  try clear c2
  try clear p2
  try clear c5
  try clear c9
  try clear c11
  try clear c12
  try clear c14
  try clear c19
  try clear c20
  try clear c22
  try clear hcz13_0
  try clear hcz13_1
  try clear hcz15_0
  try clear hcz15_1
  try clear hcz17_0
  try clear hcz17_1
  try clear hcz21_0
  try clear hcz21_1
  try clear hcz23_0
  try clear hcz23_1
  try clear hfz13_0
  try clear hfz13_1
  try clear hfz15_0
  try clear hfz15_1
  try clear hfz17_0
  try clear hfz17_1
  try clear hfz21_0
  try clear hfz21_1
  try clear hfz23_0
  try clear hfz23_1
  obtain ⟨kq, x18_3, rfl, HA, HJ3, BK159, BK160, BK161, HB⟩ := hcut
  cases kq with
  | zero => exact absurd HA.out (by simp [foliotlaw02_IntegerRing.j0])
  | succ kj3 =>
   have H := HA.out
   clear HA
   simp only [foliotlaw02_IntegerRing.j0] at H
   by_cases c25 : x18_3 = true
   ·subst c25
    have H1 : (some true) = some r := by rw [if_pos rfl] at H; exact H
    clear H
    have H := H1
    clear H1
    obtain rfl := Option.some.inj H
    go_wp2
    go_ret
    exact ⟨by first | rfl | (simp [errW_none, errW_some] <;> rfl) | (simp [*, errW_none, errW_some] <;> rfl), Sq.bl HB⟩
   ·replace c25 := Bool.eq_false_iff.mpr c25
    subst c25
    have H1 : ((integer_Add.f a0_0 l0_1 a1_0 l1_1).bind fun bt164 => ((integer_Mul.f a0_0 l0_1 a1_0 l1_1).bind fun bt168 => ((integer_Add.f a1_0 l1_1 a0_0 l0_1).bind fun bt174 => ((foliotlaw02_same.f kj3 bt164.1 bt164.2 bt174.1 bt174.2).bind fun t178 => (if t178 = true then ((integer_Mul.f a1_0 l1_1 a0_0 l0_1).bind fun bt179 => ((foliotlaw02_same.f kj3 bt168.1 bt168.2 bt179.1 bt179.2).bind fun t183 => (if t183 = true then ((integer_Mul.f bt164.1 bt164.2 a2_0 l2_1).bind fun bt184 => ((integer_Mul.f a0_0 l0_1 a2_0 l2_1).bind fun bt188 => ((integer_Mul.f a1_0 l1_1 a2_0 l2_1).bind fun bt192 => ((integer_Add.f bt188.1 bt188.2 bt192.1 bt192.2).bind fun bt196 => ((foliotlaw02_same.f kj3 bt184.1 bt184.2 bt196.1 bt196.2).bind fun t200 => (if t200 = true then ((integer_Add.f bt164.1 bt164.2 a2_0 l2_1).bind fun bt201 => ((integer_Add.f a1_0 l1_1 a2_0 l2_1).bind fun bt205 => ((integer_Add.f a0_0 l0_1 bt205.1 bt205.2).bind fun bt209 => ((foliotlaw02_same.f kj3 bt201.1 bt201.2 bt209.1 bt209.2).bind fun t213 => (if t213 = true then ((integer_Sub.f bt164.1 bt164.2 a1_0 l1_1).bind fun bt214 => ((integer_Norm.f a0_0 l0_1).bind fun bt218 => ((foliotlaw02_same.f kj3 bt214.1 bt214.2 bt218.1 bt218.2).bind fun t222 => (if t222 = true then ((integer_Neg.f a0_0 l0_1).bind fun bt223 => ((integer_Add.f a0_0 l0_1 bt223.1 bt223.2).bind fun bt227 => ((integer_Sign.f bt227.1 bt227.2).bind fun t231 => (if t231 = 0 then ((foliotlaw02_awake.f).bind fun t232 => (some t232)) else (none))))) else (none))))) else (none)))))) else (none))))))) else (none)))) else (none)))))) = some r := by rw [if_neg (show ¬ (false = true) by decide)] at H; exact H
    clear H
    have H := H1
    clear H1
    replace H := Sq.bd H
    obtain ⟨⟨t164, t165⟩, A26, H⟩ := H
    (try dsimp -simprocs only at H)
    replace H := Sq.bd H
    obtain ⟨⟨t168, t169⟩, A27, H⟩ := H
    (try dsimp -simprocs only at H)
    replace H := Sq.bd H
    obtain ⟨⟨t174, t175⟩, A28, H⟩ := H
    (try dsimp -simprocs only at H)
    replace H := Sq.bd H
    obtain ⟨t178, A29, H⟩ := H
    (try dsimp -simprocs only at H)
    by_cases c30 : t178 = true
    ·subst c30
     have H1 : ((integer_Mul.f a1_0 l1_1 a0_0 l0_1).bind fun bt179 => ((foliotlaw02_same.f kj3 t168 t169 bt179.1 bt179.2).bind fun t183 => (if t183 = true then ((integer_Mul.f t164 t165 a2_0 l2_1).bind fun bt184 => ((integer_Mul.f a0_0 l0_1 a2_0 l2_1).bind fun bt188 => ((integer_Mul.f a1_0 l1_1 a2_0 l2_1).bind fun bt192 => ((integer_Add.f bt188.1 bt188.2 bt192.1 bt192.2).bind fun bt196 => ((foliotlaw02_same.f kj3 bt184.1 bt184.2 bt196.1 bt196.2).bind fun t200 => (if t200 = true then ((integer_Add.f t164 t165 a2_0 l2_1).bind fun bt201 => ((integer_Add.f a1_0 l1_1 a2_0 l2_1).bind fun bt205 => ((integer_Add.f a0_0 l0_1 bt205.1 bt205.2).bind fun bt209 => ((foliotlaw02_same.f kj3 bt201.1 bt201.2 bt209.1 bt209.2).bind fun t213 => (if t213 = true then ((integer_Sub.f t164 t165 a1_0 l1_1).bind fun bt214 => ((integer_Norm.f a0_0 l0_1).bind fun bt218 => ((foliotlaw02_same.f kj3 bt214.1 bt214.2 bt218.1 bt218.2).bind fun t222 => (if t222 = true then ((integer_Neg.f a0_0 l0_1).bind fun bt223 => ((integer_Add.f a0_0 l0_1 bt223.1 bt223.2).bind fun bt227 => ((integer_Sign.f bt227.1 bt227.2).bind fun t231 => (if t231 = 0 then ((foliotlaw02_awake.f).bind fun t232 => (some t232)) else (none))))) else (none))))) else (none)))))) else (none))))))) else (none)))) = some r := by rw [if_pos rfl] at H; exact H
     clear H
     have H := H1
     clear H1
     replace H := Sq.bd H
     obtain ⟨⟨t179, t180⟩, A31, H⟩ := H
     (try dsimp -simprocs only at H)
     replace H := Sq.bd H
     obtain ⟨t183, A32, H⟩ := H
     (try dsimp -simprocs only at H)
     by_cases c33 : t183 = true
     ·subst c33
      have H1 : ((integer_Mul.f t164 t165 a2_0 l2_1).bind fun bt184 => ((integer_Mul.f a0_0 l0_1 a2_0 l2_1).bind fun bt188 => ((integer_Mul.f a1_0 l1_1 a2_0 l2_1).bind fun bt192 => ((integer_Add.f bt188.1 bt188.2 bt192.1 bt192.2).bind fun bt196 => ((foliotlaw02_same.f kj3 bt184.1 bt184.2 bt196.1 bt196.2).bind fun t200 => (if t200 = true then ((integer_Add.f t164 t165 a2_0 l2_1).bind fun bt201 => ((integer_Add.f a1_0 l1_1 a2_0 l2_1).bind fun bt205 => ((integer_Add.f a0_0 l0_1 bt205.1 bt205.2).bind fun bt209 => ((foliotlaw02_same.f kj3 bt201.1 bt201.2 bt209.1 bt209.2).bind fun t213 => (if t213 = true then ((integer_Sub.f t164 t165 a1_0 l1_1).bind fun bt214 => ((integer_Norm.f a0_0 l0_1).bind fun bt218 => ((foliotlaw02_same.f kj3 bt214.1 bt214.2 bt218.1 bt218.2).bind fun t222 => (if t222 = true then ((integer_Neg.f a0_0 l0_1).bind fun bt223 => ((integer_Add.f a0_0 l0_1 bt223.1 bt223.2).bind fun bt227 => ((integer_Sign.f bt227.1 bt227.2).bind fun t231 => (if t231 = 0 then ((foliotlaw02_awake.f).bind fun t232 => (some t232)) else (none))))) else (none))))) else (none)))))) else (none))))))) = some r := by rw [if_pos rfl] at H; exact H
      clear H
      have H := H1
      clear H1
      replace H := Sq.bd H
      obtain ⟨⟨t184, t185⟩, A34, H⟩ := H
      (try dsimp -simprocs only at H)
      replace H := Sq.bd H
      obtain ⟨⟨t188, t189⟩, A35, H⟩ := H
      (try dsimp -simprocs only at H)
      replace H := Sq.bd H
      obtain ⟨⟨t192, t193⟩, A36, H⟩ := H
      (try dsimp -simprocs only at H)
      replace H := Sq.bd H
      obtain ⟨⟨t196, t197⟩, A37, H⟩ := H
      (try dsimp -simprocs only at H)
      replace H := Sq.bd H
      obtain ⟨t200, A38, H⟩ := H
      (try dsimp -simprocs only at H)
      by_cases c39 : t200 = true
      ·subst c39
       have H1 : ((integer_Add.f t164 t165 a2_0 l2_1).bind fun bt201 => ((integer_Add.f a1_0 l1_1 a2_0 l2_1).bind fun bt205 => ((integer_Add.f a0_0 l0_1 bt205.1 bt205.2).bind fun bt209 => ((foliotlaw02_same.f kj3 bt201.1 bt201.2 bt209.1 bt209.2).bind fun t213 => (if t213 = true then ((integer_Sub.f t164 t165 a1_0 l1_1).bind fun bt214 => ((integer_Norm.f a0_0 l0_1).bind fun bt218 => ((foliotlaw02_same.f kj3 bt214.1 bt214.2 bt218.1 bt218.2).bind fun t222 => (if t222 = true then ((integer_Neg.f a0_0 l0_1).bind fun bt223 => ((integer_Add.f a0_0 l0_1 bt223.1 bt223.2).bind fun bt227 => ((integer_Sign.f bt227.1 bt227.2).bind fun t231 => (if t231 = 0 then ((foliotlaw02_awake.f).bind fun t232 => (some t232)) else (none))))) else (none))))) else (none)))))) = some r := by rw [if_pos rfl] at H; exact H
       clear H
       have H := H1
       clear H1
       replace H := Sq.bd H
       obtain ⟨⟨t201, t202⟩, A40, H⟩ := H
       (try dsimp -simprocs only at H)
       replace H := Sq.bd H
       obtain ⟨⟨t205, t206⟩, A41, H⟩ := H
       (try dsimp -simprocs only at H)
       replace H := Sq.bd H
       obtain ⟨⟨t209, t210⟩, A42, H⟩ := H
       (try dsimp -simprocs only at H)
       replace H := Sq.bd H
       obtain ⟨t213, A43, H⟩ := H
       (try dsimp -simprocs only at H)
       by_cases c44 : t213 = true
       ·subst c44
        have H1 : ((integer_Sub.f t164 t165 a1_0 l1_1).bind fun bt214 => ((integer_Norm.f a0_0 l0_1).bind fun bt218 => ((foliotlaw02_same.f kj3 bt214.1 bt214.2 bt218.1 bt218.2).bind fun t222 => (if t222 = true then ((integer_Neg.f a0_0 l0_1).bind fun bt223 => ((integer_Add.f a0_0 l0_1 bt223.1 bt223.2).bind fun bt227 => ((integer_Sign.f bt227.1 bt227.2).bind fun t231 => (if t231 = 0 then ((foliotlaw02_awake.f).bind fun t232 => (some t232)) else (none))))) else (none))))) = some r := by rw [if_pos rfl] at H; exact H
        clear H
        have H := H1
        clear H1
        replace H := Sq.bd H
        obtain ⟨⟨t214, t215⟩, A45, H⟩ := H
        (try dsimp -simprocs only at H)
        replace H := Sq.bd H
        obtain ⟨⟨t218, t219⟩, A46, H⟩ := H
        (try dsimp -simprocs only at H)
        replace H := Sq.bd H
        obtain ⟨t222, A47, H⟩ := H
        (try dsimp -simprocs only at H)
        by_cases c48 : t222 = true
        ·subst c48
         have H1 : ((integer_Neg.f a0_0 l0_1).bind fun bt223 => ((integer_Add.f a0_0 l0_1 bt223.1 bt223.2).bind fun bt227 => ((integer_Sign.f bt227.1 bt227.2).bind fun t231 => (if t231 = 0 then ((foliotlaw02_awake.f).bind fun t232 => (some t232)) else (none))))) = some r := by rw [if_pos rfl] at H; exact H
         clear H
         have H := H1
         clear H1
         replace H := Sq.bd H
         obtain ⟨⟨t223, t224⟩, A49, H⟩ := H
         (try dsimp -simprocs only at H)
         replace H := Sq.bd H
         obtain ⟨⟨t227, t228⟩, A50, H⟩ := H
         (try dsimp -simprocs only at H)
         replace H := Sq.bd H
         obtain ⟨t231, A51, H⟩ := H
         (try dsimp -simprocs only at H)
         by_cases c52 : t231 = 0
         ·rw [if_pos c52] at H
          have c52b0 : (t231 == 0) = true := beq_iff_eq.mpr c52
          have c52b1 : (t231 != 0) = false := bne_eq_false_iff_eq.mpr c52
          clear c52
          replace H := Sq.bd H
          obtain ⟨t232, A53, H⟩ := H
          (try dsimp -simprocs only at H)
          obtain rfl := Option.some.inj H
          try go_wp2
          replace BK159 := Aside0.mk (blk_drew BK159.out)
          replace BK160 := Aside0.mk (blk_drew BK160.out)
          replace BK161 := Aside0.mk (blk_drew BK161.out)
          replace HB := Aside0.mk (below_drew1 HB.out)
          refine start_ (n := 10) (S := fun w' => w'.cell? ⟨gb159, 0, none⟩ = some (.bool a0_0) ∧ w'.cell? ⟨gb159, 1, none⟩ = some (.slice A0_1 l0_1.length c0_1) ∧ w'.cell? ⟨gb160, 0, none⟩ = some (.bool a1_0) ∧ w'.cell? ⟨gb160, 1, none⟩ = some (.slice A1_1 l1_1.length c1_1)) (ds := []) #[false, false, false, false, false, false, false, false, false, false] (by kernel_rfl) rfl rfl ⟨(blk_cell BK159.out 0).trans rfl, (blk_cell BK159.out 1).trans rfl, (blk_cell BK160.out 0).trans rfl, (blk_cell BK160.out 1).trans rfl⟩ (fun hHeld => ?_); refine with_tabW foliotlaw02_IntegerRing.tab3 foliotlaw02_IntegerRing.bits3 (fun HT_ HW_ => ?_)
          generalize wc.drew = w54 at BK159 BK160 BK161 HB hHeld ⊢
          refine Sq.tk (v := ?_) (a' := ?_) 0 (some 19) #[true, false, false, false, false, false, false, false, false, false] HT_ HW_ hHeld ?_ ?_ ?_
          rotate_left
          ·rintro w' ⟨s0, s1, s2, s3⟩
           go_simp
           with_reducible rfl
          rotate_left
          ·simp only [Act.put, List.setIfInBounds_toArray, List.set_cons_zero, List.set_cons_succ, i64_w, i32_w]
           rfl
          refine Sq.tk (v := ?_) (a' := ?_) 1 (some 20) #[true, true, false, false, false, false, false, false, false, false] HT_ HW_ hHeld ?_ ?_ ?_
          rotate_left
          ·rintro w' ⟨s0, s1, s2, s3⟩
           go_simp
           with_reducible rfl
          rotate_left
          ·simp only [Act.put, List.setIfInBounds_toArray, List.set_cons_zero, List.set_cons_succ, i64_w, i32_w]
           rfl
          refine Sq.tk (v := ?_) (a' := ?_) 3 (some 22) #[true, true, false, true, false, false, false, false, false, false] HT_ HW_ hHeld ?_ ?_ ?_
          rotate_left
          ·rintro w' ⟨s0, s1, s2, s3⟩
           go_simp
           with_reducible rfl
          rotate_left
          ·simp only [Act.put, List.setIfInBounds_toArray, List.set_cons_zero, List.set_cons_succ, i64_w, i32_w]
           rfl
          refine Sq.tk (v := ?_) (a' := ?_) 4 (some 23) #[true, true, false, true, true, false, false, false, false, false] HT_ HW_ hHeld ?_ ?_ ?_
          rotate_left
          ·rintro w' ⟨s0, s1, s2, s3⟩
           go_simp
           with_reducible rfl
          rotate_left
          ·simp only [Act.put, List.setIfInBounds_toArray, List.set_cons_zero, List.set_cons_succ, i64_w, i32_w]
           rfl
          refine join_ (σ := Value × Value × Nat × Nat) 2 #[true, true, true, true, true, true, true, true, false, false] (fun s_ => [(21, .agg #[.bool t164, s_.1]), (24, .agg #[.bool t168, s_.2.1]), (7, .pointer (some ⟨s_.2.2.1, 0, none⟩)), (8, .pointer (some ⟨s_.2.2.2, 0, none⟩))]) (fun s_ w' => (w'.cell? ⟨gb159, 0, none⟩ = some (.bool a0_0) ∧ w'.cell? ⟨gb159, 1, none⟩ = some (.slice A0_1 l0_1.length c0_1) ∧ w'.cell? ⟨gb160, 0, none⟩ = some (.bool a1_0) ∧ w'.cell? ⟨gb160, 1, none⟩ = some (.slice A1_1 l1_1.length c1_1)) ∧ (Kd.R (Kd.int .u32) 107 w' w.heap.size (fun k_ => some k_ ≠ (s_.2.1 : Value).ownBlock) s_.1 t165) ∧ (Kd.R (Kd.int .u32) 107 w' w.heap.size (fun k_ => some k_ ≠ (s_.1 : Value).ownBlock) s_.2.1 t169) ∧ (w'.heap[gb159]? = some (.cells #[.bool a0_0, .slice A0_1 l0_1.length c0_1] 39 (0, 0))) ∧ (w'.heap[gb160]? = some (.cells #[.bool a1_0, .slice A1_1 l1_1.length c1_1] 39 (0, 0))) ∧ (w'.heap[gb161]? = some (.cells #[.bool a2_0, .slice A2_1 l2_1.length c2_1] 39 (0, 0))) ∧ (w'.heap[s_.2.2.1]? = some (.cells #[.bool false, .slice none 0 0] 39 (0, 0))) ∧ (w'.heap[s_.2.2.2]? = some (.cells #[.bool false, .slice none 0 0] 39 (0, 0))) ∧ (w.heap.size ≤ s_.2.2.1) ∧ (w.heap.size ≤ s_.2.2.1) ∧ (gb159 ≠ s_.2.2.1) ∧ (s_.2.2.1 ≠ gb159) ∧ (gb160 ≠ s_.2.2.1) ∧ (s_.2.2.1 ≠ gb160) ∧ (gb161 ≠ s_.2.2.1) ∧ (s_.2.2.1 ≠ gb161) ∧ (s_.2.2.2 ≠ s_.2.2.1) ∧ (s_.2.2.1 ≠ s_.2.2.2) ∧ (w.heap.size ≤ s_.2.2.2) ∧ (w.heap.size ≤ s_.2.2.2) ∧ (gb159 ≠ s_.2.2.2) ∧ (s_.2.2.2 ≠ gb159) ∧ (gb160 ≠ s_.2.2.2) ∧ (s_.2.2.2 ≠ gb160) ∧ (gb161 ≠ s_.2.2.2) ∧ (s_.2.2.2 ≠ gb161) ∧ (Below w.heap.size w w')) ?_ ?_
          rotate_left
          ·intro hJ2_5_6_7
           refine join_ (σ := Value × Value × Nat) 3 #[true, true, true, true, true, true, true, false, false, false] (fun s_ => [(21, .agg #[.bool t164, s_.1]), (24, .agg #[.bool t168, s_.2.1]), (7, .pointer (some ⟨s_.2.2, 0, none⟩))]) (fun s_ w' => (w'.cell? ⟨gb159, 0, none⟩ = some (.bool a0_0) ∧ w'.cell? ⟨gb159, 1, none⟩ = some (.slice A0_1 l0_1.length c0_1) ∧ w'.cell? ⟨gb160, 0, none⟩ = some (.bool a1_0) ∧ w'.cell? ⟨gb160, 1, none⟩ = some (.slice A1_1 l1_1.length c1_1)) ∧ (Kd.R (Kd.int .u32) 107 w' w.heap.size (fun k_ => some k_ ≠ (s_.2.1 : Value).ownBlock) s_.1 t165) ∧ (Kd.R (Kd.int .u32) 107 w' w.heap.size (fun k_ => some k_ ≠ (s_.1 : Value).ownBlock) s_.2.1 t169) ∧ (w'.heap[gb159]? = some (.cells #[.bool a0_0, .slice A0_1 l0_1.length c0_1] 39 (0, 0))) ∧ (w'.heap[gb160]? = some (.cells #[.bool a1_0, .slice A1_1 l1_1.length c1_1] 39 (0, 0))) ∧ (w'.heap[gb161]? = some (.cells #[.bool a2_0, .slice A2_1 l2_1.length c2_1] 39 (0, 0))) ∧ (w'.heap[s_.2.2]? = some (.cells #[.bool false, .slice none 0 0] 39 (0, 0))) ∧ (w.heap.size ≤ s_.2.2) ∧ (w.heap.size ≤ s_.2.2) ∧ (gb159 ≠ s_.2.2) ∧ (s_.2.2 ≠ gb159) ∧ (gb160 ≠ s_.2.2) ∧ (s_.2.2 ≠ gb160) ∧ (gb161 ≠ s_.2.2) ∧ (s_.2.2 ≠ gb161) ∧ (Below w.heap.size w w')) ?_ ?_
           rotate_left
           ·intro hJ2_5_6
            refine join_ (σ := Value × Value × Nat) 3 #[true, true, true, true, true, true, false, true, false, false] (fun s_ => [(21, .agg #[.bool t164, s_.1]), (24, .agg #[.bool t168, s_.2.1]), (8, .pointer (some ⟨s_.2.2, 0, none⟩))]) (fun s_ w' => (w'.cell? ⟨gb159, 0, none⟩ = some (.bool a0_0) ∧ w'.cell? ⟨gb159, 1, none⟩ = some (.slice A0_1 l0_1.length c0_1) ∧ w'.cell? ⟨gb160, 0, none⟩ = some (.bool a1_0) ∧ w'.cell? ⟨gb160, 1, none⟩ = some (.slice A1_1 l1_1.length c1_1)) ∧ (Kd.R (Kd.int .u32) 107 w' w.heap.size (fun k_ => some k_ ≠ (s_.2.1 : Value).ownBlock) s_.1 t165) ∧ (Kd.R (Kd.int .u32) 107 w' w.heap.size (fun k_ => some k_ ≠ (s_.1 : Value).ownBlock) s_.2.1 t169) ∧ (w'.heap[gb159]? = some (.cells #[.bool a0_0, .slice A0_1 l0_1.length c0_1] 39 (0, 0))) ∧ (w'.heap[gb160]? = some (.cells #[.bool a1_0, .slice A1_1 l1_1.length c1_1] 39 (0, 0))) ∧ (w'.heap[gb161]? = some (.cells #[.bool a2_0, .slice A2_1 l2_1.length c2_1] 39 (0, 0))) ∧ (w'.heap[s_.2.2]? = some (.cells #[.bool false, .slice none 0 0] 39 (0, 0))) ∧ (w.heap.size ≤ s_.2.2) ∧ (w.heap.size ≤ s_.2.2) ∧ (gb159 ≠ s_.2.2) ∧ (s_.2.2 ≠ gb159) ∧ (gb160 ≠ s_.2.2) ∧ (s_.2.2 ≠ gb160) ∧ (gb161 ≠ s_.2.2) ∧ (s_.2.2 ≠ gb161) ∧ (Below w.heap.size w w')) ?_ ?_
            rotate_left
            ·intro hJ2_5_7
             refine join_ (σ := Value × Nat × Nat) 3 #[true, true, true, true, true, false, true, true, false, false] (fun s_ => [(21, .agg #[.bool t164, s_.1]), (7, .pointer (some ⟨s_.2.1, 0, none⟩)), (8, .pointer (some ⟨s_.2.2, 0, none⟩))]) (fun s_ w' => (w'.cell? ⟨gb159, 0, none⟩ = some (.bool a0_0) ∧ w'.cell? ⟨gb159, 1, none⟩ = some (.slice A0_1 l0_1.length c0_1) ∧ w'.cell? ⟨gb160, 0, none⟩ = some (.bool a1_0) ∧ w'.cell? ⟨gb160, 1, none⟩ = some (.slice A1_1 l1_1.length c1_1)) ∧ (Kd.R (Kd.int .u32) 107 w' w.heap.size (fun _ => True) s_.1 t165) ∧ (w'.heap[gb159]? = some (.cells #[.bool a0_0, .slice A0_1 l0_1.length c0_1] 39 (0, 0))) ∧ (w'.heap[gb160]? = some (.cells #[.bool a1_0, .slice A1_1 l1_1.length c1_1] 39 (0, 0))) ∧ (w'.heap[gb161]? = some (.cells #[.bool a2_0, .slice A2_1 l2_1.length c2_1] 39 (0, 0))) ∧ (w'.heap[s_.2.1]? = some (.cells #[.bool false, .slice none 0 0] 39 (0, 0))) ∧ (w'.heap[s_.2.2]? = some (.cells #[.bool false, .slice none 0 0] 39 (0, 0))) ∧ (w.heap.size ≤ s_.2.1) ∧ (w.heap.size ≤ s_.2.1) ∧ (gb159 ≠ s_.2.1) ∧ (s_.2.1 ≠ gb159) ∧ (gb160 ≠ s_.2.1) ∧ (s_.2.1 ≠ gb160) ∧ (gb161 ≠ s_.2.1) ∧ (s_.2.1 ≠ gb161) ∧ (s_.2.2 ≠ s_.2.1) ∧ (s_.2.1 ≠ s_.2.2) ∧ (w.heap.size ≤ s_.2.2) ∧ (w.heap.size ≤ s_.2.2) ∧ (gb159 ≠ s_.2.2) ∧ (s_.2.2 ≠ gb159) ∧ (gb160 ≠ s_.2.2) ∧ (s_.2.2 ≠ gb160) ∧ (gb161 ≠ s_.2.2) ∧ (s_.2.2 ≠ gb161) ∧ (Below w.heap.size w w')) ?_ ?_
             rotate_left
             ·intro hJ2_6_7
              refine join_ (σ := Value × Value) 4 #[true, true, true, true, true, true, false, false, false, false] (fun s_ => [(21, .agg #[.bool t164, s_.1]), (24, .agg #[.bool t168, s_.2])]) (fun s_ w' => (w'.cell? ⟨gb159, 0, none⟩ = some (.bool a0_0) ∧ w'.cell? ⟨gb159, 1, none⟩ = some (.slice A0_1 l0_1.length c0_1) ∧ w'.cell? ⟨gb160, 0, none⟩ = some (.bool a1_0) ∧ w'.cell? ⟨gb160, 1, none⟩ = some (.slice A1_1 l1_1.length c1_1)) ∧ (Kd.R (Kd.int .u32) 107 w' w.heap.size (fun k_ => some k_ ≠ (s_.2 : Value).ownBlock) s_.1 t165) ∧ (Kd.R (Kd.int .u32) 107 w' w.heap.size (fun k_ => some k_ ≠ (s_.1 : Value).ownBlock) s_.2 t169) ∧ (w'.heap[gb159]? = some (.cells #[.bool a0_0, .slice A0_1 l0_1.length c0_1] 39 (0, 0))) ∧ (w'.heap[gb160]? = some (.cells #[.bool a1_0, .slice A1_1 l1_1.length c1_1] 39 (0, 0))) ∧ (w'.heap[gb161]? = some (.cells #[.bool a2_0, .slice A2_1 l2_1.length c2_1] 39 (0, 0))) ∧ (Below w.heap.size w w')) ?_ ?_
              rotate_left
              ·intro hJ2_5
               refine join_ (σ := Value × Nat) 4 #[true, true, true, true, true, false, true, false, false, false] (fun s_ => [(21, .agg #[.bool t164, s_.1]), (7, .pointer (some ⟨s_.2, 0, none⟩))]) (fun s_ w' => (w'.cell? ⟨gb159, 0, none⟩ = some (.bool a0_0) ∧ w'.cell? ⟨gb159, 1, none⟩ = some (.slice A0_1 l0_1.length c0_1) ∧ w'.cell? ⟨gb160, 0, none⟩ = some (.bool a1_0) ∧ w'.cell? ⟨gb160, 1, none⟩ = some (.slice A1_1 l1_1.length c1_1)) ∧ (Kd.R (Kd.int .u32) 107 w' w.heap.size (fun _ => True) s_.1 t165) ∧ (w'.heap[gb159]? = some (.cells #[.bool a0_0, .slice A0_1 l0_1.length c0_1] 39 (0, 0))) ∧ (w'.heap[gb160]? = some (.cells #[.bool a1_0, .slice A1_1 l1_1.length c1_1] 39 (0, 0))) ∧ (w'.heap[gb161]? = some (.cells #[.bool a2_0, .slice A2_1 l2_1.length c2_1] 39 (0, 0))) ∧ (w'.heap[s_.2]? = some (.cells #[.bool false, .slice none 0 0] 39 (0, 0))) ∧ (w.heap.size ≤ s_.2) ∧ (w.heap.size ≤ s_.2) ∧ (gb159 ≠ s_.2) ∧ (s_.2 ≠ gb159) ∧ (gb160 ≠ s_.2) ∧ (s_.2 ≠ gb160) ∧ (gb161 ≠ s_.2) ∧ (s_.2 ≠ gb161) ∧ (Below w.heap.size w w')) ?_ ?_
               rotate_left
               ·intro hJ2_6
                refine join_ (σ := Value × Nat) 4 #[true, true, true, true, true, false, false, true, false, false] (fun s_ => [(21, .agg #[.bool t164, s_.1]), (8, .pointer (some ⟨s_.2, 0, none⟩))]) (fun s_ w' => (w'.cell? ⟨gb159, 0, none⟩ = some (.bool a0_0) ∧ w'.cell? ⟨gb159, 1, none⟩ = some (.slice A0_1 l0_1.length c0_1) ∧ w'.cell? ⟨gb160, 0, none⟩ = some (.bool a1_0) ∧ w'.cell? ⟨gb160, 1, none⟩ = some (.slice A1_1 l1_1.length c1_1)) ∧ (Kd.R (Kd.int .u32) 107 w' w.heap.size (fun _ => True) s_.1 t165) ∧ (w'.heap[gb159]? = some (.cells #[.bool a0_0, .slice A0_1 l0_1.length c0_1] 39 (0, 0))) ∧ (w'.heap[gb160]? = some (.cells #[.bool a1_0, .slice A1_1 l1_1.length c1_1] 39 (0, 0))) ∧ (w'.heap[gb161]? = some (.cells #[.bool a2_0, .slice A2_1 l2_1.length c2_1] 39 (0, 0))) ∧ (w'.heap[s_.2]? = some (.cells #[.bool false, .slice none 0 0] 39 (0, 0))) ∧ (w.heap.size ≤ s_.2) ∧ (w.heap.size ≤ s_.2) ∧ (gb159 ≠ s_.2) ∧ (s_.2 ≠ gb159) ∧ (gb160 ≠ s_.2) ∧ (s_.2 ≠ gb160) ∧ (gb161 ≠ s_.2) ∧ (s_.2 ≠ gb161) ∧ (Below w.heap.size w w')) ?_ ?_
                rotate_left
                ·intro hJ2_7
                 refine join_ (σ := Nat × Nat) 4 #[true, true, false, true, true, false, true, true, false, false] (fun s_ => [(7, .pointer (some ⟨s_.1, 0, none⟩)), (8, .pointer (some ⟨s_.2, 0, none⟩))]) (fun s_ w' => (w'.cell? ⟨gb159, 0, none⟩ = some (.bool a0_0) ∧ w'.cell? ⟨gb159, 1, none⟩ = some (.slice A0_1 l0_1.length c0_1) ∧ w'.cell? ⟨gb160, 0, none⟩ = some (.bool a1_0) ∧ w'.cell? ⟨gb160, 1, none⟩ = some (.slice A1_1 l1_1.length c1_1)) ∧ (w'.heap[gb159]? = some (.cells #[.bool a0_0, .slice A0_1 l0_1.length c0_1] 39 (0, 0))) ∧ (w'.heap[gb160]? = some (.cells #[.bool a1_0, .slice A1_1 l1_1.length c1_1] 39 (0, 0))) ∧ (w'.heap[gb161]? = some (.cells #[.bool a2_0, .slice A2_1 l2_1.length c2_1] 39 (0, 0))) ∧ (w'.heap[s_.1]? = some (.cells #[.bool false, .slice none 0 0] 39 (0, 0))) ∧ (w'.heap[s_.2]? = some (.cells #[.bool false, .slice none 0 0] 39 (0, 0))) ∧ (w.heap.size ≤ s_.1) ∧ (w.heap.size ≤ s_.1) ∧ (gb159 ≠ s_.1) ∧ (s_.1 ≠ gb159) ∧ (gb160 ≠ s_.1) ∧ (s_.1 ≠ gb160) ∧ (gb161 ≠ s_.1) ∧ (s_.1 ≠ gb161) ∧ (s_.2 ≠ s_.1) ∧ (s_.1 ≠ s_.2) ∧ (w.heap.size ≤ s_.2) ∧ (w.heap.size ≤ s_.2) ∧ (gb159 ≠ s_.2) ∧ (s_.2 ≠ gb159) ∧ (gb160 ≠ s_.2) ∧ (s_.2 ≠ gb160) ∧ (gb161 ≠ s_.2) ∧ (s_.2 ≠ gb161) ∧ (Below w.heap.size w w')) ?_ ?_
                 rotate_left
                 ·intro hJ6_7
                  refine join_ (σ := Value) 5 #[true, true, true, true, true, false, false, false, false, false] (fun s_ => [(21, .agg #[.bool t164, s_])]) (fun s_ w' => (w'.cell? ⟨gb159, 0, none⟩ = some (.bool a0_0) ∧ w'.cell? ⟨gb159, 1, none⟩ = some (.slice A0_1 l0_1.length c0_1) ∧ w'.cell? ⟨gb160, 0, none⟩ = some (.bool a1_0) ∧ w'.cell? ⟨gb160, 1, none⟩ = some (.slice A1_1 l1_1.length c1_1)) ∧ (Kd.R (Kd.int .u32) 107 w' w.heap.size (fun _ => True) s_ t165) ∧ (w'.heap[gb159]? = some (.cells #[.bool a0_0, .slice A0_1 l0_1.length c0_1] 39 (0, 0))) ∧ (w'.heap[gb160]? = some (.cells #[.bool a1_0, .slice A1_1 l1_1.length c1_1] 39 (0, 0))) ∧ (w'.heap[gb161]? = some (.cells #[.bool a2_0, .slice A2_1 l2_1.length c2_1] 39 (0, 0))) ∧ (Below w.heap.size w w')) ?_ ?_
                  rotate_left
                  ·intro hJ2
                   refine join_ (σ := Nat) 5 #[true, true, false, true, true, false, true, false, false, false] (fun s_ => [(7, .pointer (some ⟨s_, 0, none⟩))]) (fun s_ w' => (w'.cell? ⟨gb159, 0, none⟩ = some (.bool a0_0) ∧ w'.cell? ⟨gb159, 1, none⟩ = some (.slice A0_1 l0_1.length c0_1) ∧ w'.cell? ⟨gb160, 0, none⟩ = some (.bool a1_0) ∧ w'.cell? ⟨gb160, 1, none⟩ = some (.slice A1_1 l1_1.length c1_1)) ∧ (w'.heap[gb159]? = some (.cells #[.bool a0_0, .slice A0_1 l0_1.length c0_1] 39 (0, 0))) ∧ (w'.heap[gb160]? = some (.cells #[.bool a1_0, .slice A1_1 l1_1.length c1_1] 39 (0, 0))) ∧ (w'.heap[gb161]? = some (.cells #[.bool a2_0, .slice A2_1 l2_1.length c2_1] 39 (0, 0))) ∧ (w'.heap[s_]? = some (.cells #[.bool false, .slice none 0 0] 39 (0, 0))) ∧ (w.heap.size ≤ s_) ∧ (w.heap.size ≤ s_) ∧ (gb159 ≠ s_) ∧ (s_ ≠ gb159) ∧ (gb160 ≠ s_) ∧ (s_ ≠ gb160) ∧ (gb161 ≠ s_) ∧ (s_ ≠ gb161) ∧ (Below w.heap.size w w')) ?_ ?_
                   rotate_left
                   ·intro hJ6
                    refine join_ (σ := Nat) 5 #[true, true, false, true, true, false, false, true, false, false] (fun s_ => [(8, .pointer (some ⟨s_, 0, none⟩))]) (fun s_ w' => (w'.cell? ⟨gb159, 0, none⟩ = some (.bool a0_0) ∧ w'.cell? ⟨gb159, 1, none⟩ = some (.slice A0_1 l0_1.length c0_1) ∧ w'.cell? ⟨gb160, 0, none⟩ = some (.bool a1_0) ∧ w'.cell? ⟨gb160, 1, none⟩ = some (.slice A1_1 l1_1.length c1_1)) ∧ (w'.heap[gb159]? = some (.cells #[.bool a0_0, .slice A0_1 l0_1.length c0_1] 39 (0, 0))) ∧ (w'.heap[gb160]? = some (.cells #[.bool a1_0, .slice A1_1 l1_1.length c1_1] 39 (0, 0))) ∧ (w'.heap[gb161]? = some (.cells #[.bool a2_0, .slice A2_1 l2_1.length c2_1] 39 (0, 0))) ∧ (w'.heap[s_]? = some (.cells #[.bool false, .slice none 0 0] 39 (0, 0))) ∧ (w.heap.size ≤ s_) ∧ (w.heap.size ≤ s_) ∧ (gb159 ≠ s_) ∧ (s_ ≠ gb159) ∧ (gb160 ≠ s_) ∧ (s_ ≠ gb160) ∧ (gb161 ≠ s_) ∧ (s_ ≠ gb161) ∧ (Below w.heap.size w w')) ?_ ?_
                    rotate_left
                    ·intro hJ7
                     refine three_ (i := 2) (j := 6) (k := 7) (Ni := some 21) (Nj := some 7) (Nk := some 8) #[true, true, true, true, true, false, false, false, false, false] #[true, true, false, true, true, false, true, false, false, false] #[true, true, false, true, true, false, false, true, false, false] rfl rfl rfl rfl rfl rfl (three_of HT_.out (by kernel_rfl)) (by decide) (by decide) (by decide) (fun K hK => ?_) (fun K hK => ?_) (fun K hK => ?_)
                     ·skip
                      refine goes_ Try.func63 (by kernel_rfl) rfl #[.agg #[.bool a0_0, .slice A0_1 l0_1.length c0_1], .agg #[.bool a1_0, .slice A1_1 l1_1.length c1_1]] (by rfl) rfl rfl (by (try simp only [List.map_toArray, List.map_cons, List.map_nil]); first | done | rfl | (simp only [List.length_drop, List.length_take]; rfl)) ?_
                      with_reducible refine (integer_Add.calls a0_0 _ _ l0_1 a1_0 _ _ l1_1 t164 t165 _ ?side1 ?side2 ?side3 ?side4 A26.out).mono ?_
                      (case side1 => exact Sq.ca (Kd.C_below HR0_1.out HB.out))
                      (case side2 => exact HC0_1.out)
                      (case side3 => exact Sq.ca (Kd.C_below HR1_1.out HB.out))
                      (case side4 => exact HC1_1.out)
                      rintro e w55 ⟨v166, rfl, ho0, hb⟩
                      refine ⟨_, rfl, ?_⟩
                      have HO167 := Aside0.mk (Kd.R_lower ho0 (below_size (Sq.bl HB)))
                      replace BK159 := Sq.bb BK159 hb
                      replace BK160 := Sq.bb BK160 hb
                      replace BK161 := Sq.bb BK161 hb
                      replace HB := Sq.bs HB hb
                      (try clear hb)
                      (try clear hb2)
                      (try clear hk)
                      (try clear hi)
                      (try clear ho0)
                      refine hK.out _ _ ⟨(blk_cell BK159.out 0).trans rfl, (blk_cell BK159.out 1).trans rfl, (blk_cell BK160.out 0).trans rfl, (blk_cell BK160.out 1).trans rfl⟩ (fun hHeld => ?_)
                      clear hK K
                      refine norm_ (a' := ?_) ?_ ?_
                      rotate_left
                      ·show Act.put _ (some 21) _ = _
                       simp only [Act.put, List.setIfInBounds_toArray, List.set_cons_zero, List.set_cons_succ, i64_w, i32_w]
                       rfl
                      exact norm_ (by first | (simp only [putAll, Act.put, List.setIfInBounds_toArray, List.set_cons_zero, List.set_cons_succ]; done) | (simp only [putAll, Act.put, List.setIfInBounds_toArray, List.set_cons_zero, List.set_cons_succ]; rfl)) (hJ2 (v166) _ ⟨hHeld, (Sq.al HO167), (Sq.al BK159), (Sq.al BK160), (Sq.al BK161), (Sq.bl HB)⟩)
                     ·skip
                      refine box_step ?hg (N := 7) ?hd (cs := #[.bool false, .slice none 0 0]) (t := 39) ?hr ?_; (case hd => rfl); (case hg => rfl); (case hr => first | (go_simp; done) | (go_simp; rfl))
                      intro gb172 hg w55 hbox hb
                      have BK172 := Aside0.mk (hbox)
                      have GW172 := Sq.gw HB hg
                      have GE172 := Sq.gw HB hg
                      have NB159_172 := Sq.nl BK159 hg
                      have NB172_159 := Sq.ng BK159 hg
                      have NB160_172 := Sq.nl BK160 hg
                      have NB172_160 := Sq.ng BK160 hg
                      have NB161_172 := Sq.nl BK161 hg
                      have NB172_161 := Sq.ng BK161 hg
                      replace BK159 := Sq.bb BK159 hb
                      replace BK160 := Sq.bb BK160 hb
                      replace BK161 := Sq.bb BK161 hb
                      replace HB := Sq.bs HB hb
                      clear hb hbox hg
                      refine hK.out _ _ ⟨(blk_cell BK159.out 0).trans rfl, (blk_cell BK159.out 1).trans rfl, (blk_cell BK160.out 0).trans rfl, (blk_cell BK160.out 1).trans rfl⟩ (fun hHeld => ?_)
                      clear hK K
                      refine norm_ (a' := ?_) ?_ ?_
                      rotate_left
                      ·show Act.put _ (some 7) _ = _
                       simp only [Act.put, List.setIfInBounds_toArray, List.set_cons_zero, List.set_cons_succ, i64_w, i32_w]
                       rfl
                      exact norm_ (by first | (simp only [putAll, Act.put, List.setIfInBounds_toArray, List.set_cons_zero, List.set_cons_succ]; done) | (simp only [putAll, Act.put, List.setIfInBounds_toArray, List.set_cons_zero, List.set_cons_succ]; rfl)) (hJ6 (gb172) _ ⟨hHeld, (Sq.al BK159), (Sq.al BK160), (Sq.al BK161), (Sq.al BK172), GW172.out, GE172.out, NB159_172.out, NB172_159.out, NB160_172.out, NB172_160.out, NB161_172.out, NB172_161.out, (Sq.bl HB)⟩)
                     ·skip
                      refine box_step ?hg (N := 8) ?hd (cs := #[.bool false, .slice none 0 0]) (t := 39) ?hr ?_; (case hd => rfl); (case hg => rfl); (case hr => first | (go_simp; done) | (go_simp; rfl))
                      intro gb173 hg w55 hbox hb
                      have BK173 := Aside0.mk (hbox)
                      have GW173 := Sq.gw HB hg
                      have GE173 := Sq.gw HB hg
                      have NB159_173 := Sq.nl BK159 hg
                      have NB173_159 := Sq.ng BK159 hg
                      have NB160_173 := Sq.nl BK160 hg
                      have NB173_160 := Sq.ng BK160 hg
                      have NB161_173 := Sq.nl BK161 hg
                      have NB173_161 := Sq.ng BK161 hg
                      replace BK159 := Sq.bb BK159 hb
                      replace BK160 := Sq.bb BK160 hb
                      replace BK161 := Sq.bb BK161 hb
                      replace HB := Sq.bs HB hb
                      clear hb hbox hg
                      refine hK.out _ _ ⟨(blk_cell BK159.out 0).trans rfl, (blk_cell BK159.out 1).trans rfl, (blk_cell BK160.out 0).trans rfl, (blk_cell BK160.out 1).trans rfl⟩ (fun hHeld => ?_)
                      clear hK K
                      refine norm_ (a' := ?_) ?_ ?_
                      rotate_left
                      ·show Act.put _ (some 8) _ = _
                       simp only [Act.put, List.setIfInBounds_toArray, List.set_cons_zero, List.set_cons_succ, i64_w, i32_w]
                       rfl
                      exact norm_ (by first | (simp only [putAll, Act.put, List.setIfInBounds_toArray, List.set_cons_zero, List.set_cons_succ]; done) | (simp only [putAll, Act.put, List.setIfInBounds_toArray, List.set_cons_zero, List.set_cons_succ]; rfl)) (hJ7 (gb173) _ ⟨hHeld, (Sq.al BK159), (Sq.al BK160), (Sq.al BK161), (Sq.al BK173), GW173.out, GE173.out, NB159_173.out, NB173_159.out, NB160_173.out, NB173_160.out, NB161_173.out, NB173_161.out, (Sq.bl HB)⟩)
                    ·skip
                     rintro gb173 w56 ⟨hS_, h0_, h1_, h2_, h3_, h4_, h5_, h6_, h7_, h8_, h9_, h10_, h11_, h12_⟩
                     replace BK159 : Aside0 (w56.heap[gb159]? = some (.cells #[.bool a0_0, .slice A0_1 l0_1.length c0_1] 39 (0, 0))) := ⟨h0_⟩
                     replace BK160 : Aside0 (w56.heap[gb160]? = some (.cells #[.bool a1_0, .slice A1_1 l1_1.length c1_1] 39 (0, 0))) := ⟨h1_⟩
                     replace BK161 : Aside0 (w56.heap[gb161]? = some (.cells #[.bool a2_0, .slice A2_1 l2_1.length c2_1] 39 (0, 0))) := ⟨h2_⟩
                     have BK173 : Aside0 (w56.heap[gb173]? = some (.cells #[.bool false, .slice none 0 0] 39 (0, 0))) := ⟨h3_⟩
                     have GW173 : Aside0 (w.heap.size ≤ gb173) := ⟨h4_⟩
                     have GE173 : Aside0 (w.heap.size ≤ gb173) := ⟨h5_⟩
                     have NB159_173 : Aside0 (gb159 ≠ gb173) := ⟨h6_⟩
                     have NB173_159 : Aside0 (gb173 ≠ gb159) := ⟨h7_⟩
                     have NB160_173 : Aside0 (gb160 ≠ gb173) := ⟨h8_⟩
                     have NB173_160 : Aside0 (gb173 ≠ gb160) := ⟨h9_⟩
                     have NB161_173 : Aside0 (gb161 ≠ gb173) := ⟨h10_⟩
                     have NB173_161 : Aside0 (gb173 ≠ gb161) := ⟨h11_⟩
                     replace HB : Aside0 (Below w.heap.size w w56) := ⟨h12_⟩
                     clear h0_ h1_ h2_ h3_ h4_ h5_ h6_ h7_ h8_ h9_ h10_ h11_ h12_
                     have hHeld : w56.cell? ⟨gb159, 0, none⟩ = some (.bool a0_0) ∧ w56.cell? ⟨gb159, 1, none⟩ = some (.slice A0_1 l0_1.length c0_1) ∧ w56.cell? ⟨gb160, 0, none⟩ = some (.bool a1_0) ∧ w56.cell? ⟨gb160, 1, none⟩ = some (.slice A1_1 l1_1.length c1_1) := hS_
                     refine norm_ (a' := ?_) ?_ ?_
                     rotate_left
                     ·simp only [putAll, Act.put, List.setIfInBounds_toArray, List.set_cons_zero, List.set_cons_succ]
                      rfl
                     refine two_ (i := 2) (j := 6) (Ni := some 21) (Nj := some 7) #[true, true, true, true, true, false, false, true, false, false] #[true, true, false, true, true, false, true, true, false, false] rfl rfl rfl rfl (two_of HT_.out (by kernel_rfl)) (by decide) (by decide) (fun K hK => ?_) (fun K hK => ?_)
                     ·skip
                      refine goes_ Try.func63 (by kernel_rfl) rfl #[.agg #[.bool a0_0, .slice A0_1 l0_1.length c0_1], .agg #[.bool a1_0, .slice A1_1 l1_1.length c1_1]] (by rfl) rfl rfl (by (try simp only [List.map_toArray, List.map_cons, List.map_nil]); first | done | rfl | (simp only [List.length_drop, List.length_take]; rfl)) ?_
                      with_reducible refine (integer_Add.calls a0_0 _ _ l0_1 a1_0 _ _ l1_1 t164 t165 _ ?side1 ?side2 ?side3 ?side4 A26.out).mono ?_
                      (case side1 => exact Sq.ca (Kd.C_below HR0_1.out HB.out))
                      (case side2 => exact HC0_1.out)
                      (case side3 => exact Sq.ca (Kd.C_below HR1_1.out HB.out))
                      (case side4 => exact HC1_1.out)
                      rintro e w57 ⟨v166, rfl, ho0, hb⟩
                      refine ⟨_, rfl, ?_⟩
                      have HO167 := Aside0.mk (Kd.R_lower ho0 (below_size (Sq.bl HB)))
                      replace BK159 := Sq.bb BK159 hb
                      replace BK160 := Sq.bb BK160 hb
                      replace BK161 := Sq.bb BK161 hb
                      replace BK173 := Sq.bb BK173 hb
                      replace HB := Sq.bs HB hb
                      (try clear hb)
                      (try clear hb2)
                      (try clear hk)
                      (try clear hi)
                      (try clear ho0)
                      refine hK.out _ _ ⟨(blk_cell BK159.out 0).trans rfl, (blk_cell BK159.out 1).trans rfl, (blk_cell BK160.out 0).trans rfl, (blk_cell BK160.out 1).trans rfl⟩ (fun hHeld => ?_)
                      clear hK K
                      refine norm_ (a' := ?_) ?_ ?_
                      rotate_left
                      ·show Act.put _ (some 21) _ = _
                       simp only [Act.put, List.setIfInBounds_toArray, List.set_cons_zero, List.set_cons_succ, i64_w, i32_w]
                       rfl
                      exact norm_ (by first | (simp only [putAll, Act.put, List.setIfInBounds_toArray, List.set_cons_zero, List.set_cons_succ]; done) | (simp only [putAll, Act.put, List.setIfInBounds_toArray, List.set_cons_zero, List.set_cons_succ]; rfl)) (hJ2_7 (v166, gb173) _ ⟨hHeld, (Sq.al HO167), (Sq.al BK159), (Sq.al BK160), (Sq.al BK161), (Sq.al BK173), GW173.out, GE173.out, NB159_173.out, NB173_159.out, NB160_173.out, NB173_160.out, NB161_173.out, NB173_161.out, (Sq.bl HB)⟩)
                     ·skip
                      refine box_step ?hg (N := 7) ?hd (cs := #[.bool false, .slice none 0 0]) (t := 39) ?hr ?_; (case hd => rfl); (case hg => rfl); (case hr => first | (go_simp; done) | (go_simp; rfl))
                      intro gb172 hg w57 hbox hb
                      have BK172 := Aside0.mk (hbox)
                      have GW172 := Sq.gw HB hg
                      have GE172 := Sq.gw HB hg
                      have NB159_172 := Sq.nl BK159 hg
                      have NB172_159 := Sq.ng BK159 hg
                      have NB160_172 := Sq.nl BK160 hg
                      have NB172_160 := Sq.ng BK160 hg
                      have NB161_172 := Sq.nl BK161 hg
                      have NB172_161 := Sq.ng BK161 hg
                      have NB173_172 := Sq.nl BK173 hg
                      have NB172_173 := Sq.ng BK173 hg
                      replace BK159 := Sq.bb BK159 hb
                      replace BK160 := Sq.bb BK160 hb
                      replace BK161 := Sq.bb BK161 hb
                      replace BK173 := Sq.bb BK173 hb
                      replace HB := Sq.bs HB hb
                      clear hb hbox hg
                      refine hK.out _ _ ⟨(blk_cell BK159.out 0).trans rfl, (blk_cell BK159.out 1).trans rfl, (blk_cell BK160.out 0).trans rfl, (blk_cell BK160.out 1).trans rfl⟩ (fun hHeld => ?_)
                      clear hK K
                      refine norm_ (a' := ?_) ?_ ?_
                      rotate_left
                      ·show Act.put _ (some 7) _ = _
                       simp only [Act.put, List.setIfInBounds_toArray, List.set_cons_zero, List.set_cons_succ, i64_w, i32_w]
                       rfl
                      exact norm_ (by first | (simp only [putAll, Act.put, List.setIfInBounds_toArray, List.set_cons_zero, List.set_cons_succ]; done) | (simp only [putAll, Act.put, List.setIfInBounds_toArray, List.set_cons_zero, List.set_cons_succ]; rfl)) (hJ6_7 (gb172, gb173) _ ⟨hHeld, (Sq.al BK159), (Sq.al BK160), (Sq.al BK161), (Sq.al BK172), (Sq.al BK173), GW172.out, GE172.out, NB159_172.out, NB172_159.out, NB160_172.out, NB172_160.out, NB161_172.out, NB172_161.out, NB173_172.out, NB172_173.out, GW173.out, GE173.out, NB159_173.out, NB173_159.out, NB160_173.out, NB173_160.out, NB161_173.out, NB173_161.out, (Sq.bl HB)⟩)
                   ·skip
                    rintro gb172 w56 ⟨hS_, h0_, h1_, h2_, h3_, h4_, h5_, h6_, h7_, h8_, h9_, h10_, h11_, h12_⟩
                    replace BK159 : Aside0 (w56.heap[gb159]? = some (.cells #[.bool a0_0, .slice A0_1 l0_1.length c0_1] 39 (0, 0))) := ⟨h0_⟩
                    replace BK160 : Aside0 (w56.heap[gb160]? = some (.cells #[.bool a1_0, .slice A1_1 l1_1.length c1_1] 39 (0, 0))) := ⟨h1_⟩
                    replace BK161 : Aside0 (w56.heap[gb161]? = some (.cells #[.bool a2_0, .slice A2_1 l2_1.length c2_1] 39 (0, 0))) := ⟨h2_⟩
                    have BK172 : Aside0 (w56.heap[gb172]? = some (.cells #[.bool false, .slice none 0 0] 39 (0, 0))) := ⟨h3_⟩
                    have GW172 : Aside0 (w.heap.size ≤ gb172) := ⟨h4_⟩
                    have GE172 : Aside0 (w.heap.size ≤ gb172) := ⟨h5_⟩
                    have NB159_172 : Aside0 (gb159 ≠ gb172) := ⟨h6_⟩
                    have NB172_159 : Aside0 (gb172 ≠ gb159) := ⟨h7_⟩
                    have NB160_172 : Aside0 (gb160 ≠ gb172) := ⟨h8_⟩
                    have NB172_160 : Aside0 (gb172 ≠ gb160) := ⟨h9_⟩
                    have NB161_172 : Aside0 (gb161 ≠ gb172) := ⟨h10_⟩
                    have NB172_161 : Aside0 (gb172 ≠ gb161) := ⟨h11_⟩
                    replace HB : Aside0 (Below w.heap.size w w56) := ⟨h12_⟩
                    clear h0_ h1_ h2_ h3_ h4_ h5_ h6_ h7_ h8_ h9_ h10_ h11_ h12_
                    have hHeld : w56.cell? ⟨gb159, 0, none⟩ = some (.bool a0_0) ∧ w56.cell? ⟨gb159, 1, none⟩ = some (.slice A0_1 l0_1.length c0_1) ∧ w56.cell? ⟨gb160, 0, none⟩ = some (.bool a1_0) ∧ w56.cell? ⟨gb160, 1, none⟩ = some (.slice A1_1 l1_1.length c1_1) := hS_
                    refine norm_ (a' := ?_) ?_ ?_
                    rotate_left
                    ·simp only [putAll, Act.put, List.setIfInBounds_toArray, List.set_cons_zero, List.set_cons_succ]
                     rfl
                    refine two_ (i := 2) (j := 7) (Ni := some 21) (Nj := some 8) #[true, true, true, true, true, false, true, false, false, false] #[true, true, false, true, true, false, true, true, false, false] rfl rfl rfl rfl (two_of HT_.out (by kernel_rfl)) (by decide) (by decide) (fun K hK => ?_) (fun K hK => ?_)
                    ·skip
                     refine goes_ Try.func63 (by kernel_rfl) rfl #[.agg #[.bool a0_0, .slice A0_1 l0_1.length c0_1], .agg #[.bool a1_0, .slice A1_1 l1_1.length c1_1]] (by rfl) rfl rfl (by (try simp only [List.map_toArray, List.map_cons, List.map_nil]); first | done | rfl | (simp only [List.length_drop, List.length_take]; rfl)) ?_
                     with_reducible refine (integer_Add.calls a0_0 _ _ l0_1 a1_0 _ _ l1_1 t164 t165 _ ?side1 ?side2 ?side3 ?side4 A26.out).mono ?_
                     (case side1 => exact Sq.ca (Kd.C_below HR0_1.out HB.out))
                     (case side2 => exact HC0_1.out)
                     (case side3 => exact Sq.ca (Kd.C_below HR1_1.out HB.out))
                     (case side4 => exact HC1_1.out)
                     rintro e w57 ⟨v166, rfl, ho0, hb⟩
                     refine ⟨_, rfl, ?_⟩
                     have HO167 := Aside0.mk (Kd.R_lower ho0 (below_size (Sq.bl HB)))
                     replace BK159 := Sq.bb BK159 hb
                     replace BK160 := Sq.bb BK160 hb
                     replace BK161 := Sq.bb BK161 hb
                     replace BK172 := Sq.bb BK172 hb
                     replace HB := Sq.bs HB hb
                     (try clear hb)
                     (try clear hb2)
                     (try clear hk)
                     (try clear hi)
                     (try clear ho0)
                     refine hK.out _ _ ⟨(blk_cell BK159.out 0).trans rfl, (blk_cell BK159.out 1).trans rfl, (blk_cell BK160.out 0).trans rfl, (blk_cell BK160.out 1).trans rfl⟩ (fun hHeld => ?_)
                     clear hK K
                     refine norm_ (a' := ?_) ?_ ?_
                     rotate_left
                     ·show Act.put _ (some 21) _ = _
                      simp only [Act.put, List.setIfInBounds_toArray, List.set_cons_zero, List.set_cons_succ, i64_w, i32_w]
                      rfl
                     exact norm_ (by first | (simp only [putAll, Act.put, List.setIfInBounds_toArray, List.set_cons_zero, List.set_cons_succ]; done) | (simp only [putAll, Act.put, List.setIfInBounds_toArray, List.set_cons_zero, List.set_cons_succ]; rfl)) (hJ2_6 (v166, gb172) _ ⟨hHeld, (Sq.al HO167), (Sq.al BK159), (Sq.al BK160), (Sq.al BK161), (Sq.al BK172), GW172.out, GE172.out, NB159_172.out, NB172_159.out, NB160_172.out, NB172_160.out, NB161_172.out, NB172_161.out, (Sq.bl HB)⟩)
                    ·skip
                     refine box_step ?hg (N := 8) ?hd (cs := #[.bool false, .slice none 0 0]) (t := 39) ?hr ?_; (case hd => rfl); (case hg => rfl); (case hr => first | (go_simp; done) | (go_simp; rfl))
                     intro gb173 hg w57 hbox hb
                     have BK173 := Aside0.mk (hbox)
                     have GW173 := Sq.gw HB hg
                     have GE173 := Sq.gw HB hg
                     have NB159_173 := Sq.nl BK159 hg
                     have NB173_159 := Sq.ng BK159 hg
                     have NB160_173 := Sq.nl BK160 hg
                     have NB173_160 := Sq.ng BK160 hg
                     have NB161_173 := Sq.nl BK161 hg
                     have NB173_161 := Sq.ng BK161 hg
                     have NB172_173 := Sq.nl BK172 hg
                     have NB173_172 := Sq.ng BK172 hg
                     replace BK159 := Sq.bb BK159 hb
                     replace BK160 := Sq.bb BK160 hb
                     replace BK161 := Sq.bb BK161 hb
                     replace BK172 := Sq.bb BK172 hb
                     replace HB := Sq.bs HB hb
                     clear hb hbox hg
                     refine hK.out _ _ ⟨(blk_cell BK159.out 0).trans rfl, (blk_cell BK159.out 1).trans rfl, (blk_cell BK160.out 0).trans rfl, (blk_cell BK160.out 1).trans rfl⟩ (fun hHeld => ?_)
                     clear hK K
                     refine norm_ (a' := ?_) ?_ ?_
                     rotate_left
                     ·show Act.put _ (some 8) _ = _
                      simp only [Act.put, List.setIfInBounds_toArray, List.set_cons_zero, List.set_cons_succ, i64_w, i32_w]
                      rfl
                     exact norm_ (by first | (simp only [putAll, Act.put, List.setIfInBounds_toArray, List.set_cons_zero, List.set_cons_succ]; done) | (simp only [putAll, Act.put, List.setIfInBounds_toArray, List.set_cons_zero, List.set_cons_succ]; rfl)) (hJ6_7 (gb172, gb173) _ ⟨hHeld, (Sq.al BK159), (Sq.al BK160), (Sq.al BK161), (Sq.al BK172), (Sq.al BK173), GW172.out, GE172.out, NB159_172.out, NB172_159.out, NB160_172.out, NB172_160.out, NB161_172.out, NB172_161.out, NB173_172.out, NB172_173.out, GW173.out, GE173.out, NB159_173.out, NB173_159.out, NB160_173.out, NB173_160.out, NB161_173.out, NB173_161.out, (Sq.bl HB)⟩)
                  ·skip
                   rintro v166 w56 ⟨hS_, h0_, h1_, h2_, h3_, h4_⟩
                   have HO167 : Aside0 (Kd.R (Kd.int .u32) 107 w56 w.heap.size (fun _ => True) v166 t165) := ⟨h0_⟩
                   replace BK159 : Aside0 (w56.heap[gb159]? = some (.cells #[.bool a0_0, .slice A0_1 l0_1.length c0_1] 39 (0, 0))) := ⟨h1_⟩
                   replace BK160 : Aside0 (w56.heap[gb160]? = some (.cells #[.bool a1_0, .slice A1_1 l1_1.length c1_1] 39 (0, 0))) := ⟨h2_⟩
                   replace BK161 : Aside0 (w56.heap[gb161]? = some (.cells #[.bool a2_0, .slice A2_1 l2_1.length c2_1] 39 (0, 0))) := ⟨h3_⟩
                   replace HB : Aside0 (Below w.heap.size w w56) := ⟨h4_⟩
                   clear h0_ h1_ h2_ h3_ h4_
                   have hHeld : w56.cell? ⟨gb159, 0, none⟩ = some (.bool a0_0) ∧ w56.cell? ⟨gb159, 1, none⟩ = some (.slice A0_1 l0_1.length c0_1) ∧ w56.cell? ⟨gb160, 0, none⟩ = some (.bool a1_0) ∧ w56.cell? ⟨gb160, 1, none⟩ = some (.slice A1_1 l1_1.length c1_1) := hS_
                   refine norm_ (a' := ?_) ?_ ?_
                   rotate_left
                   ·simp only [putAll, Act.put, List.setIfInBounds_toArray, List.set_cons_zero, List.set_cons_succ]
                    rfl
                   refine three_ (i := 5) (j := 6) (k := 7) (Ni := some 24) (Nj := some 7) (Nk := some 8) #[true, true, true, true, true, true, false, false, false, false] #[true, true, true, true, true, false, true, false, false, false] #[true, true, true, true, true, false, false, true, false, false] rfl rfl rfl rfl rfl rfl (three_of HT_.out (by kernel_rfl)) (by decide) (by decide) (by decide) (fun K hK => ?_) (fun K hK => ?_) (fun K hK => ?_)
                   ·skip
                    refine goes_ Try.func64 (by kernel_rfl) rfl #[.agg #[.bool a0_0, .slice A0_1 l0_1.length c0_1], .agg #[.bool a1_0, .slice A1_1 l1_1.length c1_1]] (by rfl) rfl rfl (by (try simp only [List.map_toArray, List.map_cons, List.map_nil]); first | done | rfl | (simp only [List.length_drop, List.length_take]; rfl)) ?_
                    with_reducible refine (integer_Mul.calls a0_0 _ _ l0_1 a1_0 _ _ l1_1 t168 t169 _ ?side1 ?side2 ?side3 ?side4 A27.out).mono ?_
                    (case side1 => exact Sq.ca (Kd.C_below HR0_1.out HB.out))
                    (case side2 => exact HC0_1.out)
                    (case side3 => exact Sq.ca (Kd.C_below HR1_1.out HB.out))
                    (case side4 => exact HC1_1.out)
                    rintro e w57 ⟨v170, rfl, ho0, hb⟩
                    refine ⟨_, rfl, ?_⟩
                    have HO171 := Aside0.mk (Kd.R_lower (Kd.R_new' ho0 (Kd.R_lt (Sq.al HO167))) (below_size (Sq.bl HB)))
                    replace BK159 := Sq.bb BK159 hb
                    replace BK160 := Sq.bb BK160 hb
                    replace BK161 := Sq.bb BK161 hb
                    replace HO167 := Aside0.mk (Kd.R_elder' (Sq.al HO167) (Kd.R_base ho0) hb)
                    replace HB := Sq.bs HB hb
                    (try clear hb)
                    (try clear hb2)
                    (try clear hk)
                    (try clear hi)
                    (try clear ho0)
                    refine hK.out _ _ ⟨(blk_cell BK159.out 0).trans rfl, (blk_cell BK159.out 1).trans rfl, (blk_cell BK160.out 0).trans rfl, (blk_cell BK160.out 1).trans rfl⟩ (fun hHeld => ?_)
                    clear hK K
                    refine norm_ (a' := ?_) ?_ ?_
                    rotate_left
                    ·show Act.put _ (some 24) _ = _
                     simp only [Act.put, List.setIfInBounds_toArray, List.set_cons_zero, List.set_cons_succ, i64_w, i32_w]
                     rfl
                    exact norm_ (by first | (simp only [putAll, Act.put, List.setIfInBounds_toArray, List.set_cons_zero, List.set_cons_succ]; done) | (simp only [putAll, Act.put, List.setIfInBounds_toArray, List.set_cons_zero, List.set_cons_succ]; rfl)) (hJ2_5 (v166, v170) _ ⟨hHeld, (by (with_reducible repeat (first | apply Kd.R_alloc | apply Kd.R_drewN | apply Kd.R_drew)); exact Kd.R_mono HO167.out (fun _ hk => hk.2)), (by (with_reducible repeat (first | apply Kd.R_alloc | apply Kd.R_drewN | apply Kd.R_drew)); exact Kd.R_mono HO171.out (fun _ hk => hk.2)), (Sq.al BK159), (Sq.al BK160), (Sq.al BK161), (Sq.bl HB)⟩)
                   ·skip
                    refine box_step ?hg (N := 7) ?hd (cs := #[.bool false, .slice none 0 0]) (t := 39) ?hr ?_; (case hd => rfl); (case hg => rfl); (case hr => first | (go_simp; done) | (go_simp; rfl))
                    intro gb172 hg w57 hbox hb
                    replace HO167 := Aside0.mk (Kd.R_below (Sq.al HO167) hb)
                    have BK172 := Aside0.mk (hbox)
                    have GW172 := Sq.gw HB hg
                    have GE172 := Sq.gw HB hg
                    have NB159_172 := Sq.nl BK159 hg
                    have NB172_159 := Sq.ng BK159 hg
                    have NB160_172 := Sq.nl BK160 hg
                    have NB172_160 := Sq.ng BK160 hg
                    have NB161_172 := Sq.nl BK161 hg
                    have NB172_161 := Sq.ng BK161 hg
                    replace BK159 := Sq.bb BK159 hb
                    replace BK160 := Sq.bb BK160 hb
                    replace BK161 := Sq.bb BK161 hb
                    replace HB := Sq.bs HB hb
                    clear hb hbox hg
                    refine hK.out _ _ ⟨(blk_cell BK159.out 0).trans rfl, (blk_cell BK159.out 1).trans rfl, (blk_cell BK160.out 0).trans rfl, (blk_cell BK160.out 1).trans rfl⟩ (fun hHeld => ?_)
                    clear hK K
                    refine norm_ (a' := ?_) ?_ ?_
                    rotate_left
                    ·show Act.put _ (some 7) _ = _
                     simp only [Act.put, List.setIfInBounds_toArray, List.set_cons_zero, List.set_cons_succ, i64_w, i32_w]
                     rfl
                    exact norm_ (by first | (simp only [putAll, Act.put, List.setIfInBounds_toArray, List.set_cons_zero, List.set_cons_succ]; done) | (simp only [putAll, Act.put, List.setIfInBounds_toArray, List.set_cons_zero, List.set_cons_succ]; rfl)) (hJ2_6 (v166, gb172) _ ⟨hHeld, (Sq.al HO167), (Sq.al BK159), (Sq.al BK160), (Sq.al BK161), (Sq.al BK172), GW172.out, GE172.out, NB159_172.out, NB172_159.out, NB160_172.out, NB172_160.out, NB161_172.out, NB172_161.out, (Sq.bl HB)⟩)
                   ·skip
                    refine box_step ?hg (N := 8) ?hd (cs := #[.bool false, .slice none 0 0]) (t := 39) ?hr ?_; (case hd => rfl); (case hg => rfl); (case hr => first | (go_simp; done) | (go_simp; rfl))
                    intro gb173 hg w57 hbox hb
                    replace HO167 := Aside0.mk (Kd.R_below (Sq.al HO167) hb)
                    have BK173 := Aside0.mk (hbox)
                    have GW173 := Sq.gw HB hg
                    have GE173 := Sq.gw HB hg
                    have NB159_173 := Sq.nl BK159 hg
                    have NB173_159 := Sq.ng BK159 hg
                    have NB160_173 := Sq.nl BK160 hg
                    have NB173_160 := Sq.ng BK160 hg
                    have NB161_173 := Sq.nl BK161 hg
                    have NB173_161 := Sq.ng BK161 hg
                    replace BK159 := Sq.bb BK159 hb
                    replace BK160 := Sq.bb BK160 hb
                    replace BK161 := Sq.bb BK161 hb
                    replace HB := Sq.bs HB hb
                    clear hb hbox hg
                    refine hK.out _ _ ⟨(blk_cell BK159.out 0).trans rfl, (blk_cell BK159.out 1).trans rfl, (blk_cell BK160.out 0).trans rfl, (blk_cell BK160.out 1).trans rfl⟩ (fun hHeld => ?_)
                    clear hK K
                    refine norm_ (a' := ?_) ?_ ?_
                    rotate_left
                    ·show Act.put _ (some 8) _ = _
                     simp only [Act.put, List.setIfInBounds_toArray, List.set_cons_zero, List.set_cons_succ, i64_w, i32_w]
                     rfl
                    exact norm_ (by first | (simp only [putAll, Act.put, List.setIfInBounds_toArray, List.set_cons_zero, List.set_cons_succ]; done) | (simp only [putAll, Act.put, List.setIfInBounds_toArray, List.set_cons_zero, List.set_cons_succ]; rfl)) (hJ2_7 (v166, gb173) _ ⟨hHeld, (Sq.al HO167), (Sq.al BK159), (Sq.al BK160), (Sq.al BK161), (Sq.al BK173), GW173.out, GE173.out, NB159_173.out, NB173_159.out, NB160_173.out, NB173_160.out, NB161_173.out, NB173_161.out, (Sq.bl HB)⟩)
                 ·skip
                  rintro ⟨gb172, gb173⟩ w57 ⟨hS_, h0_, h1_, h2_, h3_, h4_, h5_, h6_, h7_, h8_, h9_, h10_, h11_, h12_, h13_, h14_, h15_, h16_, h17_, h18_, h19_, h20_, h21_, h22_, h23_⟩
                  replace BK159 : Aside0 (w57.heap[gb159]? = some (.cells #[.bool a0_0, .slice A0_1 l0_1.length c0_1] 39 (0, 0))) := ⟨h0_⟩
                  replace BK160 : Aside0 (w57.heap[gb160]? = some (.cells #[.bool a1_0, .slice A1_1 l1_1.length c1_1] 39 (0, 0))) := ⟨h1_⟩
                  replace BK161 : Aside0 (w57.heap[gb161]? = some (.cells #[.bool a2_0, .slice A2_1 l2_1.length c2_1] 39 (0, 0))) := ⟨h2_⟩
                  have BK172 : Aside0 (w57.heap[gb172]? = some (.cells #[.bool false, .slice none 0 0] 39 (0, 0))) := ⟨h3_⟩
                  have BK173 : Aside0 (w57.heap[gb173]? = some (.cells #[.bool false, .slice none 0 0] 39 (0, 0))) := ⟨h4_⟩
                  have GW172 : Aside0 (w.heap.size ≤ gb172) := ⟨h5_⟩
                  have GE172 : Aside0 (w.heap.size ≤ gb172) := ⟨h6_⟩
                  have NB159_172 : Aside0 (gb159 ≠ gb172) := ⟨h7_⟩
                  have NB172_159 : Aside0 (gb172 ≠ gb159) := ⟨h8_⟩
                  have NB160_172 : Aside0 (gb160 ≠ gb172) := ⟨h9_⟩
                  have NB172_160 : Aside0 (gb172 ≠ gb160) := ⟨h10_⟩
                  have NB161_172 : Aside0 (gb161 ≠ gb172) := ⟨h11_⟩
                  have NB172_161 : Aside0 (gb172 ≠ gb161) := ⟨h12_⟩
                  have NB173_172 : Aside0 (gb173 ≠ gb172) := ⟨h13_⟩
                  have NB172_173 : Aside0 (gb172 ≠ gb173) := ⟨h14_⟩
                  have GW173 : Aside0 (w.heap.size ≤ gb173) := ⟨h15_⟩
                  have GE173 : Aside0 (w.heap.size ≤ gb173) := ⟨h16_⟩
                  have NB159_173 : Aside0 (gb159 ≠ gb173) := ⟨h17_⟩
                  have NB173_159 : Aside0 (gb173 ≠ gb159) := ⟨h18_⟩
                  have NB160_173 : Aside0 (gb160 ≠ gb173) := ⟨h19_⟩
                  have NB173_160 : Aside0 (gb173 ≠ gb160) := ⟨h20_⟩
                  have NB161_173 : Aside0 (gb161 ≠ gb173) := ⟨h21_⟩
                  have NB173_161 : Aside0 (gb173 ≠ gb161) := ⟨h22_⟩
                  replace HB : Aside0 (Below w.heap.size w w57) := ⟨h23_⟩
                  clear h0_ h1_ h2_ h3_ h4_ h5_ h6_ h7_ h8_ h9_ h10_ h11_ h12_ h13_ h14_ h15_ h16_ h17_ h18_ h19_ h20_ h21_ h22_ h23_
                  have hHeld : w57.cell? ⟨gb159, 0, none⟩ = some (.bool a0_0) ∧ w57.cell? ⟨gb159, 1, none⟩ = some (.slice A0_1 l0_1.length c0_1) ∧ w57.cell? ⟨gb160, 0, none⟩ = some (.bool a1_0) ∧ w57.cell? ⟨gb160, 1, none⟩ = some (.slice A1_1 l1_1.length c1_1) := hS_
                  refine norm_ (a' := ?_) ?_ ?_
                  rotate_left
                  ·simp only [putAll, Act.put, List.setIfInBounds_toArray, List.set_cons_zero, List.set_cons_succ]
                   rfl
                  refine one_ (i := 2) (N := some 21) #[true, true, true, true, true, false, true, true, false, false] rfl rfl (one_of HT_.out (by kernel_rfl)) (by decide) (fun K hK => ?_)
                  refine goes_ Try.func63 (by kernel_rfl) rfl #[.agg #[.bool a0_0, .slice A0_1 l0_1.length c0_1], .agg #[.bool a1_0, .slice A1_1 l1_1.length c1_1]] (by rfl) rfl rfl (by (try simp only [List.map_toArray, List.map_cons, List.map_nil]); first | done | rfl | (simp only [List.length_drop, List.length_take]; rfl)) ?_
                  with_reducible refine (integer_Add.calls a0_0 _ _ l0_1 a1_0 _ _ l1_1 t164 t165 _ ?side1 ?side2 ?side3 ?side4 A26.out).mono ?_
                  (case side1 => exact Sq.ca (Kd.C_below HR0_1.out HB.out))
                  (case side2 => exact HC0_1.out)
                  (case side3 => exact Sq.ca (Kd.C_below HR1_1.out HB.out))
                  (case side4 => exact HC1_1.out)
                  rintro e w58 ⟨v166, rfl, ho0, hb⟩
                  refine ⟨_, rfl, ?_⟩
                  have HO167 := Aside0.mk (Kd.R_lower ho0 (below_size (Sq.bl HB)))
                  replace BK159 := Sq.bb BK159 hb
                  replace BK160 := Sq.bb BK160 hb
                  replace BK161 := Sq.bb BK161 hb
                  replace BK172 := Sq.bb BK172 hb
                  replace BK173 := Sq.bb BK173 hb
                  replace HB := Sq.bs HB hb
                  (try clear hb)
                  (try clear hb2)
                  (try clear hk)
                  (try clear hi)
                  (try clear ho0)
                  refine hK.out _ _ ⟨(blk_cell BK159.out 0).trans rfl, (blk_cell BK159.out 1).trans rfl, (blk_cell BK160.out 0).trans rfl, (blk_cell BK160.out 1).trans rfl⟩ (fun hHeld => ?_)
                  clear hK K
                  refine norm_ (a' := ?_) ?_ ?_
                  rotate_left
                  ·show Act.put _ (some 21) _ = _
                   simp only [Act.put, List.setIfInBounds_toArray, List.set_cons_zero, List.set_cons_succ, i64_w, i32_w]
                   rfl
                  exact norm_ (by first | (simp only [putAll, Act.put, List.setIfInBounds_toArray, List.set_cons_zero, List.set_cons_succ]; done) | (simp only [putAll, Act.put, List.setIfInBounds_toArray, List.set_cons_zero, List.set_cons_succ]; rfl)) (hJ2_6_7 (v166, gb172, gb173) _ ⟨hHeld, (Sq.al HO167), (Sq.al BK159), (Sq.al BK160), (Sq.al BK161), (Sq.al BK172), (Sq.al BK173), GW172.out, GE172.out, NB159_172.out, NB172_159.out, NB160_172.out, NB172_160.out, NB161_172.out, NB172_161.out, NB173_172.out, NB172_173.out, GW173.out, GE173.out, NB159_173.out, NB173_159.out, NB160_173.out, NB173_160.out, NB161_173.out, NB173_161.out, (Sq.bl HB)⟩)
                ·skip
                 rintro ⟨v166, gb173⟩ w57 ⟨hS_, h0_, h1_, h2_, h3_, h4_, h5_, h6_, h7_, h8_, h9_, h10_, h11_, h12_, h13_⟩
                 have HO167 : Aside0 (Kd.R (Kd.int .u32) 107 w57 w.heap.size (fun _ => True) v166 t165) := ⟨h0_⟩
                 replace BK159 : Aside0 (w57.heap[gb159]? = some (.cells #[.bool a0_0, .slice A0_1 l0_1.length c0_1] 39 (0, 0))) := ⟨h1_⟩
                 replace BK160 : Aside0 (w57.heap[gb160]? = some (.cells #[.bool a1_0, .slice A1_1 l1_1.length c1_1] 39 (0, 0))) := ⟨h2_⟩
                 replace BK161 : Aside0 (w57.heap[gb161]? = some (.cells #[.bool a2_0, .slice A2_1 l2_1.length c2_1] 39 (0, 0))) := ⟨h3_⟩
                 have BK173 : Aside0 (w57.heap[gb173]? = some (.cells #[.bool false, .slice none 0 0] 39 (0, 0))) := ⟨h4_⟩
                 have GW173 : Aside0 (w.heap.size ≤ gb173) := ⟨h5_⟩
                 have GE173 : Aside0 (w.heap.size ≤ gb173) := ⟨h6_⟩
                 have NB159_173 : Aside0 (gb159 ≠ gb173) := ⟨h7_⟩
                 have NB173_159 : Aside0 (gb173 ≠ gb159) := ⟨h8_⟩
                 have NB160_173 : Aside0 (gb160 ≠ gb173) := ⟨h9_⟩
                 have NB173_160 : Aside0 (gb173 ≠ gb160) := ⟨h10_⟩
                 have NB161_173 : Aside0 (gb161 ≠ gb173) := ⟨h11_⟩
                 have NB173_161 : Aside0 (gb173 ≠ gb161) := ⟨h12_⟩
                 replace HB : Aside0 (Below w.heap.size w w57) := ⟨h13_⟩
                 clear h0_ h1_ h2_ h3_ h4_ h5_ h6_ h7_ h8_ h9_ h10_ h11_ h12_ h13_
                 have hHeld : w57.cell? ⟨gb159, 0, none⟩ = some (.bool a0_0) ∧ w57.cell? ⟨gb159, 1, none⟩ = some (.slice A0_1 l0_1.length c0_1) ∧ w57.cell? ⟨gb160, 0, none⟩ = some (.bool a1_0) ∧ w57.cell? ⟨gb160, 1, none⟩ = some (.slice A1_1 l1_1.length c1_1) := hS_
                 refine norm_ (a' := ?_) ?_ ?_
                 rotate_left
                 ·simp only [putAll, Act.put, List.setIfInBounds_toArray, List.set_cons_zero, List.set_cons_succ]
                  rfl
                 refine two_ (i := 5) (j := 6) (Ni := some 24) (Nj := some 7) #[true, true, true, true, true, true, false, true, false, false] #[true, true, true, true, true, false, true, true, false, false] rfl rfl rfl rfl (two_of HT_.out (by kernel_rfl)) (by decide) (by decide) (fun K hK => ?_) (fun K hK => ?_)
                 ·skip
                  refine goes_ Try.func64 (by kernel_rfl) rfl #[.agg #[.bool a0_0, .slice A0_1 l0_1.length c0_1], .agg #[.bool a1_0, .slice A1_1 l1_1.length c1_1]] (by rfl) rfl rfl (by (try simp only [List.map_toArray, List.map_cons, List.map_nil]); first | done | rfl | (simp only [List.length_drop, List.length_take]; rfl)) ?_
                  with_reducible refine (integer_Mul.calls a0_0 _ _ l0_1 a1_0 _ _ l1_1 t168 t169 _ ?side1 ?side2 ?side3 ?side4 A27.out).mono ?_
                  (case side1 => exact Sq.ca (Kd.C_below HR0_1.out HB.out))
                  (case side2 => exact HC0_1.out)
                  (case side3 => exact Sq.ca (Kd.C_below HR1_1.out HB.out))
                  (case side4 => exact HC1_1.out)
                  rintro e w58 ⟨v170, rfl, ho0, hb⟩
                  refine ⟨_, rfl, ?_⟩
                  have HO171 := Aside0.mk (Kd.R_lower (Kd.R_new' ho0 (Kd.R_lt (Sq.al HO167))) (below_size (Sq.bl HB)))
                  replace BK159 := Sq.bb BK159 hb
                  replace BK160 := Sq.bb BK160 hb
                  replace BK161 := Sq.bb BK161 hb
                  replace BK173 := Sq.bb BK173 hb
                  replace HO167 := Aside0.mk (Kd.R_elder' (Sq.al HO167) (Kd.R_base ho0) hb)
                  replace HB := Sq.bs HB hb
                  (try clear hb)
                  (try clear hb2)
                  (try clear hk)
                  (try clear hi)
                  (try clear ho0)
                  refine hK.out _ _ ⟨(blk_cell BK159.out 0).trans rfl, (blk_cell BK159.out 1).trans rfl, (blk_cell BK160.out 0).trans rfl, (blk_cell BK160.out 1).trans rfl⟩ (fun hHeld => ?_)
                  clear hK K
                  refine norm_ (a' := ?_) ?_ ?_
                  rotate_left
                  ·show Act.put _ (some 24) _ = _
                   simp only [Act.put, List.setIfInBounds_toArray, List.set_cons_zero, List.set_cons_succ, i64_w, i32_w]
                   rfl
                  exact norm_ (by first | (simp only [putAll, Act.put, List.setIfInBounds_toArray, List.set_cons_zero, List.set_cons_succ]; done) | (simp only [putAll, Act.put, List.setIfInBounds_toArray, List.set_cons_zero, List.set_cons_succ]; rfl)) (hJ2_5_7 (v166, v170, gb173) _ ⟨hHeld, (by (with_reducible repeat (first | apply Kd.R_alloc | apply Kd.R_drewN | apply Kd.R_drew)); exact Kd.R_mono HO167.out (fun _ hk => hk.2)), (by (with_reducible repeat (first | apply Kd.R_alloc | apply Kd.R_drewN | apply Kd.R_drew)); exact Kd.R_mono HO171.out (fun _ hk => hk.2)), (Sq.al BK159), (Sq.al BK160), (Sq.al BK161), (Sq.al BK173), GW173.out, GE173.out, NB159_173.out, NB173_159.out, NB160_173.out, NB173_160.out, NB161_173.out, NB173_161.out, (Sq.bl HB)⟩)
                 ·skip
                  refine box_step ?hg (N := 7) ?hd (cs := #[.bool false, .slice none 0 0]) (t := 39) ?hr ?_; (case hd => rfl); (case hg => rfl); (case hr => first | (go_simp; done) | (go_simp; rfl))
                  intro gb172 hg w58 hbox hb
                  replace HO167 := Aside0.mk (Kd.R_below (Sq.al HO167) hb)
                  have BK172 := Aside0.mk (hbox)
                  have GW172 := Sq.gw HB hg
                  have GE172 := Sq.gw HB hg
                  have NB159_172 := Sq.nl BK159 hg
                  have NB172_159 := Sq.ng BK159 hg
                  have NB160_172 := Sq.nl BK160 hg
                  have NB172_160 := Sq.ng BK160 hg
                  have NB161_172 := Sq.nl BK161 hg
                  have NB172_161 := Sq.ng BK161 hg
                  have NB173_172 := Sq.nl BK173 hg
                  have NB172_173 := Sq.ng BK173 hg
                  replace BK159 := Sq.bb BK159 hb
                  replace BK160 := Sq.bb BK160 hb
                  replace BK161 := Sq.bb BK161 hb
                  replace BK173 := Sq.bb BK173 hb
                  replace HB := Sq.bs HB hb
                  clear hb hbox hg
                  refine hK.out _ _ ⟨(blk_cell BK159.out 0).trans rfl, (blk_cell BK159.out 1).trans rfl, (blk_cell BK160.out 0).trans rfl, (blk_cell BK160.out 1).trans rfl⟩ (fun hHeld => ?_)
                  clear hK K
                  refine norm_ (a' := ?_) ?_ ?_
                  rotate_left
                  ·show Act.put _ (some 7) _ = _
                   simp only [Act.put, List.setIfInBounds_toArray, List.set_cons_zero, List.set_cons_succ, i64_w, i32_w]
                   rfl
                  exact norm_ (by first | (simp only [putAll, Act.put, List.setIfInBounds_toArray, List.set_cons_zero, List.set_cons_succ]; done) | (simp only [putAll, Act.put, List.setIfInBounds_toArray, List.set_cons_zero, List.set_cons_succ]; rfl)) (hJ2_6_7 (v166, gb172, gb173) _ ⟨hHeld, (Sq.al HO167), (Sq.al BK159), (Sq.al BK160), (Sq.al BK161), (Sq.al BK172), (Sq.al BK173), GW172.out, GE172.out, NB159_172.out, NB172_159.out, NB160_172.out, NB172_160.out, NB161_172.out, NB172_161.out, NB173_172.out, NB172_173.out, GW173.out, GE173.out, NB159_173.out, NB173_159.out, NB160_173.out, NB173_160.out, NB161_173.out, NB173_161.out, (Sq.bl HB)⟩)
               ·skip
                rintro ⟨v166, gb172⟩ w57 ⟨hS_, h0_, h1_, h2_, h3_, h4_, h5_, h6_, h7_, h8_, h9_, h10_, h11_, h12_, h13_⟩
                have HO167 : Aside0 (Kd.R (Kd.int .u32) 107 w57 w.heap.size (fun _ => True) v166 t165) := ⟨h0_⟩
                replace BK159 : Aside0 (w57.heap[gb159]? = some (.cells #[.bool a0_0, .slice A0_1 l0_1.length c0_1] 39 (0, 0))) := ⟨h1_⟩
                replace BK160 : Aside0 (w57.heap[gb160]? = some (.cells #[.bool a1_0, .slice A1_1 l1_1.length c1_1] 39 (0, 0))) := ⟨h2_⟩
                replace BK161 : Aside0 (w57.heap[gb161]? = some (.cells #[.bool a2_0, .slice A2_1 l2_1.length c2_1] 39 (0, 0))) := ⟨h3_⟩
                have BK172 : Aside0 (w57.heap[gb172]? = some (.cells #[.bool false, .slice none 0 0] 39 (0, 0))) := ⟨h4_⟩
                have GW172 : Aside0 (w.heap.size ≤ gb172) := ⟨h5_⟩
                have GE172 : Aside0 (w.heap.size ≤ gb172) := ⟨h6_⟩
                have NB159_172 : Aside0 (gb159 ≠ gb172) := ⟨h7_⟩
                have NB172_159 : Aside0 (gb172 ≠ gb159) := ⟨h8_⟩
                have NB160_172 : Aside0 (gb160 ≠ gb172) := ⟨h9_⟩
                have NB172_160 : Aside0 (gb172 ≠ gb160) := ⟨h10_⟩
                have NB161_172 : Aside0 (gb161 ≠ gb172) := ⟨h11_⟩
                have NB172_161 : Aside0 (gb172 ≠ gb161) := ⟨h12_⟩
                replace HB : Aside0 (Below w.heap.size w w57) := ⟨h13_⟩
                clear h0_ h1_ h2_ h3_ h4_ h5_ h6_ h7_ h8_ h9_ h10_ h11_ h12_ h13_
                have hHeld : w57.cell? ⟨gb159, 0, none⟩ = some (.bool a0_0) ∧ w57.cell? ⟨gb159, 1, none⟩ = some (.slice A0_1 l0_1.length c0_1) ∧ w57.cell? ⟨gb160, 0, none⟩ = some (.bool a1_0) ∧ w57.cell? ⟨gb160, 1, none⟩ = some (.slice A1_1 l1_1.length c1_1) := hS_
                refine norm_ (a' := ?_) ?_ ?_
                rotate_left
                ·simp only [putAll, Act.put, List.setIfInBounds_toArray, List.set_cons_zero, List.set_cons_succ]
                 rfl
                refine two_ (i := 5) (j := 7) (Ni := some 24) (Nj := some 8) #[true, true, true, true, true, true, true, false, false, false] #[true, true, true, true, true, false, true, true, false, false] rfl rfl rfl rfl (two_of HT_.out (by kernel_rfl)) (by decide) (by decide) (fun K hK => ?_) (fun K hK => ?_)
                ·skip
                 refine goes_ Try.func64 (by kernel_rfl) rfl #[.agg #[.bool a0_0, .slice A0_1 l0_1.length c0_1], .agg #[.bool a1_0, .slice A1_1 l1_1.length c1_1]] (by rfl) rfl rfl (by (try simp only [List.map_toArray, List.map_cons, List.map_nil]); first | done | rfl | (simp only [List.length_drop, List.length_take]; rfl)) ?_
                 with_reducible refine (integer_Mul.calls a0_0 _ _ l0_1 a1_0 _ _ l1_1 t168 t169 _ ?side1 ?side2 ?side3 ?side4 A27.out).mono ?_
                 (case side1 => exact Sq.ca (Kd.C_below HR0_1.out HB.out))
                 (case side2 => exact HC0_1.out)
                 (case side3 => exact Sq.ca (Kd.C_below HR1_1.out HB.out))
                 (case side4 => exact HC1_1.out)
                 rintro e w58 ⟨v170, rfl, ho0, hb⟩
                 refine ⟨_, rfl, ?_⟩
                 have HO171 := Aside0.mk (Kd.R_lower (Kd.R_new' ho0 (Kd.R_lt (Sq.al HO167))) (below_size (Sq.bl HB)))
                 replace BK159 := Sq.bb BK159 hb
                 replace BK160 := Sq.bb BK160 hb
                 replace BK161 := Sq.bb BK161 hb
                 replace BK172 := Sq.bb BK172 hb
                 replace HO167 := Aside0.mk (Kd.R_elder' (Sq.al HO167) (Kd.R_base ho0) hb)
                 replace HB := Sq.bs HB hb
                 (try clear hb)
                 (try clear hb2)
                 (try clear hk)
                 (try clear hi)
                 (try clear ho0)
                 refine hK.out _ _ ⟨(blk_cell BK159.out 0).trans rfl, (blk_cell BK159.out 1).trans rfl, (blk_cell BK160.out 0).trans rfl, (blk_cell BK160.out 1).trans rfl⟩ (fun hHeld => ?_)
                 clear hK K
                 refine norm_ (a' := ?_) ?_ ?_
                 rotate_left
                 ·show Act.put _ (some 24) _ = _
                  simp only [Act.put, List.setIfInBounds_toArray, List.set_cons_zero, List.set_cons_succ, i64_w, i32_w]
                  rfl
                 exact norm_ (by first | (simp only [putAll, Act.put, List.setIfInBounds_toArray, List.set_cons_zero, List.set_cons_succ]; done) | (simp only [putAll, Act.put, List.setIfInBounds_toArray, List.set_cons_zero, List.set_cons_succ]; rfl)) (hJ2_5_6 (v166, v170, gb172) _ ⟨hHeld, (by (with_reducible repeat (first | apply Kd.R_alloc | apply Kd.R_drewN | apply Kd.R_drew)); exact Kd.R_mono HO167.out (fun _ hk => hk.2)), (by (with_reducible repeat (first | apply Kd.R_alloc | apply Kd.R_drewN | apply Kd.R_drew)); exact Kd.R_mono HO171.out (fun _ hk => hk.2)), (Sq.al BK159), (Sq.al BK160), (Sq.al BK161), (Sq.al BK172), GW172.out, GE172.out, NB159_172.out, NB172_159.out, NB160_172.out, NB172_160.out, NB161_172.out, NB172_161.out, (Sq.bl HB)⟩)
                ·skip
                 refine box_step ?hg (N := 8) ?hd (cs := #[.bool false, .slice none 0 0]) (t := 39) ?hr ?_; (case hd => rfl); (case hg => rfl); (case hr => first | (go_simp; done) | (go_simp; rfl))
                 intro gb173 hg w58 hbox hb
                 replace HO167 := Aside0.mk (Kd.R_below (Sq.al HO167) hb)
                 have BK173 := Aside0.mk (hbox)
                 have GW173 := Sq.gw HB hg
                 have GE173 := Sq.gw HB hg
                 have NB159_173 := Sq.nl BK159 hg
                 have NB173_159 := Sq.ng BK159 hg
                 have NB160_173 := Sq.nl BK160 hg
                 have NB173_160 := Sq.ng BK160 hg
                 have NB161_173 := Sq.nl BK161 hg
                 have NB173_161 := Sq.ng BK161 hg
                 have NB172_173 := Sq.nl BK172 hg
                 have NB173_172 := Sq.ng BK172 hg
                 replace BK159 := Sq.bb BK159 hb
                 replace BK160 := Sq.bb BK160 hb
                 replace BK161 := Sq.bb BK161 hb
                 replace BK172 := Sq.bb BK172 hb
                 replace HB := Sq.bs HB hb
                 clear hb hbox hg
                 refine hK.out _ _ ⟨(blk_cell BK159.out 0).trans rfl, (blk_cell BK159.out 1).trans rfl, (blk_cell BK160.out 0).trans rfl, (blk_cell BK160.out 1).trans rfl⟩ (fun hHeld => ?_)
                 clear hK K
                 refine norm_ (a' := ?_) ?_ ?_
                 rotate_left
                 ·show Act.put _ (some 8) _ = _
                  simp only [Act.put, List.setIfInBounds_toArray, List.set_cons_zero, List.set_cons_succ, i64_w, i32_w]
                  rfl
                 exact norm_ (by first | (simp only [putAll, Act.put, List.setIfInBounds_toArray, List.set_cons_zero, List.set_cons_succ]; done) | (simp only [putAll, Act.put, List.setIfInBounds_toArray, List.set_cons_zero, List.set_cons_succ]; rfl)) (hJ2_6_7 (v166, gb172, gb173) _ ⟨hHeld, (Sq.al HO167), (Sq.al BK159), (Sq.al BK160), (Sq.al BK161), (Sq.al BK172), (Sq.al BK173), GW172.out, GE172.out, NB159_172.out, NB172_159.out, NB160_172.out, NB172_160.out, NB161_172.out, NB172_161.out, NB173_172.out, NB172_173.out, GW173.out, GE173.out, NB159_173.out, NB173_159.out, NB160_173.out, NB173_160.out, NB161_173.out, NB173_161.out, (Sq.bl HB)⟩)
              ·skip
               rintro ⟨v166, v170⟩ w57 ⟨hS_, h0_, h1_, h2_, h3_, h4_, h5_⟩
               have HO167 : Aside0 (Kd.R (Kd.int .u32) 107 w57 w.heap.size (fun k_ => some k_ ≠ (v170 : Value).ownBlock) v166 t165) := ⟨h0_⟩
               have HO171 : Aside0 (Kd.R (Kd.int .u32) 107 w57 w.heap.size (fun k_ => some k_ ≠ (v166 : Value).ownBlock) v170 t169) := ⟨h1_⟩
               replace BK159 : Aside0 (w57.heap[gb159]? = some (.cells #[.bool a0_0, .slice A0_1 l0_1.length c0_1] 39 (0, 0))) := ⟨h2_⟩
               replace BK160 : Aside0 (w57.heap[gb160]? = some (.cells #[.bool a1_0, .slice A1_1 l1_1.length c1_1] 39 (0, 0))) := ⟨h3_⟩
               replace BK161 : Aside0 (w57.heap[gb161]? = some (.cells #[.bool a2_0, .slice A2_1 l2_1.length c2_1] 39 (0, 0))) := ⟨h4_⟩
               replace HB : Aside0 (Below w.heap.size w w57) := ⟨h5_⟩
               clear h0_ h1_ h2_ h3_ h4_ h5_
               have hHeld : w57.cell? ⟨gb159, 0, none⟩ = some (.bool a0_0) ∧ w57.cell? ⟨gb159, 1, none⟩ = some (.slice A0_1 l0_1.length c0_1) ∧ w57.cell? ⟨gb160, 0, none⟩ = some (.bool a1_0) ∧ w57.cell? ⟨gb160, 1, none⟩ = some (.slice A1_1 l1_1.length c1_1) := hS_
               refine norm_ (a' := ?_) ?_ ?_
               rotate_left
               ·simp only [putAll, Act.put, List.setIfInBounds_toArray, List.set_cons_zero, List.set_cons_succ]
                rfl
               refine two_ (i := 6) (j := 7) (Ni := some 7) (Nj := some 8) #[true, true, true, true, true, true, true, false, false, false] #[true, true, true, true, true, true, false, true, false, false] rfl rfl rfl rfl (two_of HT_.out (by kernel_rfl)) (by decide) (by decide) (fun K hK => ?_) (fun K hK => ?_)
               ·skip
                refine box_step ?hg (N := 7) ?hd (cs := #[.bool false, .slice none 0 0]) (t := 39) ?hr ?_; (case hd => rfl); (case hg => rfl); (case hr => first | (go_simp; done) | (go_simp; rfl))
                intro gb172 hg w58 hbox hb
                replace HO167 := Aside0.mk (Kd.R_below (Sq.al HO167) hb)
                replace HO171 := Aside0.mk (Kd.R_below (Sq.al HO171) hb)
                have BK172 := Aside0.mk (hbox)
                have GW172 := Sq.gw HB hg
                have GE172 := Sq.gw HB hg
                have NB159_172 := Sq.nl BK159 hg
                have NB172_159 := Sq.ng BK159 hg
                have NB160_172 := Sq.nl BK160 hg
                have NB172_160 := Sq.ng BK160 hg
                have NB161_172 := Sq.nl BK161 hg
                have NB172_161 := Sq.ng BK161 hg
                replace BK159 := Sq.bb BK159 hb
                replace BK160 := Sq.bb BK160 hb
                replace BK161 := Sq.bb BK161 hb
                replace HB := Sq.bs HB hb
                clear hb hbox hg
                refine hK.out _ _ ⟨(blk_cell BK159.out 0).trans rfl, (blk_cell BK159.out 1).trans rfl, (blk_cell BK160.out 0).trans rfl, (blk_cell BK160.out 1).trans rfl⟩ (fun hHeld => ?_)
                clear hK K
                refine norm_ (a' := ?_) ?_ ?_
                rotate_left
                ·show Act.put _ (some 7) _ = _
                 simp only [Act.put, List.setIfInBounds_toArray, List.set_cons_zero, List.set_cons_succ, i64_w, i32_w]
                 rfl
                exact norm_ (by first | (simp only [putAll, Act.put, List.setIfInBounds_toArray, List.set_cons_zero, List.set_cons_succ]; done) | (simp only [putAll, Act.put, List.setIfInBounds_toArray, List.set_cons_zero, List.set_cons_succ]; rfl)) (hJ2_5_6 (v166, v170, gb172) _ ⟨hHeld, (Sq.al HO167), (Sq.al HO171), (Sq.al BK159), (Sq.al BK160), (Sq.al BK161), (Sq.al BK172), GW172.out, GE172.out, NB159_172.out, NB172_159.out, NB160_172.out, NB172_160.out, NB161_172.out, NB172_161.out, (Sq.bl HB)⟩)
               ·skip
                refine box_step ?hg (N := 8) ?hd (cs := #[.bool false, .slice none 0 0]) (t := 39) ?hr ?_; (case hd => rfl); (case hg => rfl); (case hr => first | (go_simp; done) | (go_simp; rfl))
                intro gb173 hg w58 hbox hb
                replace HO167 := Aside0.mk (Kd.R_below (Sq.al HO167) hb)
                replace HO171 := Aside0.mk (Kd.R_below (Sq.al HO171) hb)
                have BK173 := Aside0.mk (hbox)
                have GW173 := Sq.gw HB hg
                have GE173 := Sq.gw HB hg
                have NB159_173 := Sq.nl BK159 hg
                have NB173_159 := Sq.ng BK159 hg
                have NB160_173 := Sq.nl BK160 hg
                have NB173_160 := Sq.ng BK160 hg
                have NB161_173 := Sq.nl BK161 hg
                have NB173_161 := Sq.ng BK161 hg
                replace BK159 := Sq.bb BK159 hb
                replace BK160 := Sq.bb BK160 hb
                replace BK161 := Sq.bb BK161 hb
                replace HB := Sq.bs HB hb
                clear hb hbox hg
                refine hK.out _ _ ⟨(blk_cell BK159.out 0).trans rfl, (blk_cell BK159.out 1).trans rfl, (blk_cell BK160.out 0).trans rfl, (blk_cell BK160.out 1).trans rfl⟩ (fun hHeld => ?_)
                clear hK K
                refine norm_ (a' := ?_) ?_ ?_
                rotate_left
                ·show Act.put _ (some 8) _ = _
                 simp only [Act.put, List.setIfInBounds_toArray, List.set_cons_zero, List.set_cons_succ, i64_w, i32_w]
                 rfl
                exact norm_ (by first | (simp only [putAll, Act.put, List.setIfInBounds_toArray, List.set_cons_zero, List.set_cons_succ]; done) | (simp only [putAll, Act.put, List.setIfInBounds_toArray, List.set_cons_zero, List.set_cons_succ]; rfl)) (hJ2_5_7 (v166, v170, gb173) _ ⟨hHeld, (Sq.al HO167), (Sq.al HO171), (Sq.al BK159), (Sq.al BK160), (Sq.al BK161), (Sq.al BK173), GW173.out, GE173.out, NB159_173.out, NB173_159.out, NB160_173.out, NB173_160.out, NB161_173.out, NB173_161.out, (Sq.bl HB)⟩)
             ·skip
              rintro ⟨v166, gb172, gb173⟩ w58 ⟨hS_, h0_, h1_, h2_, h3_, h4_, h5_, h6_, h7_, h8_, h9_, h10_, h11_, h12_, h13_, h14_, h15_, h16_, h17_, h18_, h19_, h20_, h21_, h22_, h23_, h24_⟩
              have HO167 : Aside0 (Kd.R (Kd.int .u32) 107 w58 w.heap.size (fun _ => True) v166 t165) := ⟨h0_⟩
              replace BK159 : Aside0 (w58.heap[gb159]? = some (.cells #[.bool a0_0, .slice A0_1 l0_1.length c0_1] 39 (0, 0))) := ⟨h1_⟩
              replace BK160 : Aside0 (w58.heap[gb160]? = some (.cells #[.bool a1_0, .slice A1_1 l1_1.length c1_1] 39 (0, 0))) := ⟨h2_⟩
              replace BK161 : Aside0 (w58.heap[gb161]? = some (.cells #[.bool a2_0, .slice A2_1 l2_1.length c2_1] 39 (0, 0))) := ⟨h3_⟩
              have BK172 : Aside0 (w58.heap[gb172]? = some (.cells #[.bool false, .slice none 0 0] 39 (0, 0))) := ⟨h4_⟩
              have BK173 : Aside0 (w58.heap[gb173]? = some (.cells #[.bool false, .slice none 0 0] 39 (0, 0))) := ⟨h5_⟩
              have GW172 : Aside0 (w.heap.size ≤ gb172) := ⟨h6_⟩
              have GE172 : Aside0 (w.heap.size ≤ gb172) := ⟨h7_⟩
              have NB159_172 : Aside0 (gb159 ≠ gb172) := ⟨h8_⟩
              have NB172_159 : Aside0 (gb172 ≠ gb159) := ⟨h9_⟩
              have NB160_172 : Aside0 (gb160 ≠ gb172) := ⟨h10_⟩
              have NB172_160 : Aside0 (gb172 ≠ gb160) := ⟨h11_⟩
              have NB161_172 : Aside0 (gb161 ≠ gb172) := ⟨h12_⟩
              have NB172_161 : Aside0 (gb172 ≠ gb161) := ⟨h13_⟩
              have NB173_172 : Aside0 (gb173 ≠ gb172) := ⟨h14_⟩
              have NB172_173 : Aside0 (gb172 ≠ gb173) := ⟨h15_⟩
              have GW173 : Aside0 (w.heap.size ≤ gb173) := ⟨h16_⟩
              have GE173 : Aside0 (w.heap.size ≤ gb173) := ⟨h17_⟩
              have NB159_173 : Aside0 (gb159 ≠ gb173) := ⟨h18_⟩
              have NB173_159 : Aside0 (gb173 ≠ gb159) := ⟨h19_⟩
              have NB160_173 : Aside0 (gb160 ≠ gb173) := ⟨h20_⟩
              have NB173_160 : Aside0 (gb173 ≠ gb160) := ⟨h21_⟩
              have NB161_173 : Aside0 (gb161 ≠ gb173) := ⟨h22_⟩
              have NB173_161 : Aside0 (gb173 ≠ gb161) := ⟨h23_⟩
              replace HB : Aside0 (Below w.heap.size w w58) := ⟨h24_⟩
              clear h0_ h1_ h2_ h3_ h4_ h5_ h6_ h7_ h8_ h9_ h10_ h11_ h12_ h13_ h14_ h15_ h16_ h17_ h18_ h19_ h20_ h21_ h22_ h23_ h24_
              have hHeld : w58.cell? ⟨gb159, 0, none⟩ = some (.bool a0_0) ∧ w58.cell? ⟨gb159, 1, none⟩ = some (.slice A0_1 l0_1.length c0_1) ∧ w58.cell? ⟨gb160, 0, none⟩ = some (.bool a1_0) ∧ w58.cell? ⟨gb160, 1, none⟩ = some (.slice A1_1 l1_1.length c1_1) := hS_
              refine norm_ (a' := ?_) ?_ ?_
              rotate_left
              ·simp only [putAll, Act.put, List.setIfInBounds_toArray, List.set_cons_zero, List.set_cons_succ]
               rfl
              refine one_ (i := 5) (N := some 24) #[true, true, true, true, true, true, true, true, false, false] rfl rfl (one_of HT_.out (by kernel_rfl)) (by decide) (fun K hK => ?_)
              refine goes_ Try.func64 (by kernel_rfl) rfl #[.agg #[.bool a0_0, .slice A0_1 l0_1.length c0_1], .agg #[.bool a1_0, .slice A1_1 l1_1.length c1_1]] (by rfl) rfl rfl (by (try simp only [List.map_toArray, List.map_cons, List.map_nil]); first | done | rfl | (simp only [List.length_drop, List.length_take]; rfl)) ?_
              with_reducible refine (integer_Mul.calls a0_0 _ _ l0_1 a1_0 _ _ l1_1 t168 t169 _ ?side1 ?side2 ?side3 ?side4 A27.out).mono ?_
              (case side1 => exact Sq.ca (Kd.C_below HR0_1.out HB.out))
              (case side2 => exact HC0_1.out)
              (case side3 => exact Sq.ca (Kd.C_below HR1_1.out HB.out))
              (case side4 => exact HC1_1.out)
              rintro e w59 ⟨v170, rfl, ho0, hb⟩
              refine ⟨_, rfl, ?_⟩
              have HO171 := Aside0.mk (Kd.R_lower (Kd.R_new' ho0 (Kd.R_lt (Sq.al HO167))) (below_size (Sq.bl HB)))
              replace BK159 := Sq.bb BK159 hb
              replace BK160 := Sq.bb BK160 hb
              replace BK161 := Sq.bb BK161 hb
              replace BK172 := Sq.bb BK172 hb
              replace BK173 := Sq.bb BK173 hb
              replace HO167 := Aside0.mk (Kd.R_elder' (Sq.al HO167) (Kd.R_base ho0) hb)
              replace HB := Sq.bs HB hb
              (try clear hb)
              (try clear hb2)
              (try clear hk)
              (try clear hi)
              (try clear ho0)
              refine hK.out _ _ ⟨(blk_cell BK159.out 0).trans rfl, (blk_cell BK159.out 1).trans rfl, (blk_cell BK160.out 0).trans rfl, (blk_cell BK160.out 1).trans rfl⟩ (fun hHeld => ?_)
              clear hK K
              refine norm_ (a' := ?_) ?_ ?_
              rotate_left
              ·show Act.put _ (some 24) _ = _
               simp only [Act.put, List.setIfInBounds_toArray, List.set_cons_zero, List.set_cons_succ, i64_w, i32_w]
               rfl
              exact norm_ (by first | (simp only [putAll, Act.put, List.setIfInBounds_toArray, List.set_cons_zero, List.set_cons_succ]; done) | (simp only [putAll, Act.put, List.setIfInBounds_toArray, List.set_cons_zero, List.set_cons_succ]; rfl)) (hJ2_5_6_7 (v166, v170, gb172, gb173) _ ⟨hHeld, (by (with_reducible repeat (first | apply Kd.R_alloc | apply Kd.R_drewN | apply Kd.R_drew)); exact Kd.R_mono HO167.out (fun _ hk => hk.2)), (by (with_reducible repeat (first | apply Kd.R_alloc | apply Kd.R_drewN | apply Kd.R_drew)); exact Kd.R_mono HO171.out (fun _ hk => hk.2)), (Sq.al BK159), (Sq.al BK160), (Sq.al BK161), (Sq.al BK172), (Sq.al BK173), GW172.out, GE172.out, NB159_172.out, NB172_159.out, NB160_172.out, NB172_160.out, NB161_172.out, NB172_161.out, NB173_172.out, NB172_173.out, GW173.out, GE173.out, NB159_173.out, NB173_159.out, NB160_173.out, NB173_160.out, NB161_173.out, NB173_161.out, (Sq.bl HB)⟩)
            ·skip
             rintro ⟨v166, v170, gb173⟩ w58 ⟨hS_, h0_, h1_, h2_, h3_, h4_, h5_, h6_, h7_, h8_, h9_, h10_, h11_, h12_, h13_, h14_⟩
             have HO167 : Aside0 (Kd.R (Kd.int .u32) 107 w58 w.heap.size (fun k_ => some k_ ≠ (v170 : Value).ownBlock) v166 t165) := ⟨h0_⟩
             have HO171 : Aside0 (Kd.R (Kd.int .u32) 107 w58 w.heap.size (fun k_ => some k_ ≠ (v166 : Value).ownBlock) v170 t169) := ⟨h1_⟩
             replace BK159 : Aside0 (w58.heap[gb159]? = some (.cells #[.bool a0_0, .slice A0_1 l0_1.length c0_1] 39 (0, 0))) := ⟨h2_⟩
             replace BK160 : Aside0 (w58.heap[gb160]? = some (.cells #[.bool a1_0, .slice A1_1 l1_1.length c1_1] 39 (0, 0))) := ⟨h3_⟩
             replace BK161 : Aside0 (w58.heap[gb161]? = some (.cells #[.bool a2_0, .slice A2_1 l2_1.length c2_1] 39 (0, 0))) := ⟨h4_⟩
             have BK173 : Aside0 (w58.heap[gb173]? = some (.cells #[.bool false, .slice none 0 0] 39 (0, 0))) := ⟨h5_⟩
             have GW173 : Aside0 (w.heap.size ≤ gb173) := ⟨h6_⟩
             have GE173 : Aside0 (w.heap.size ≤ gb173) := ⟨h7_⟩
             have NB159_173 : Aside0 (gb159 ≠ gb173) := ⟨h8_⟩
             have NB173_159 : Aside0 (gb173 ≠ gb159) := ⟨h9_⟩
             have NB160_173 : Aside0 (gb160 ≠ gb173) := ⟨h10_⟩
             have NB173_160 : Aside0 (gb173 ≠ gb160) := ⟨h11_⟩
             have NB161_173 : Aside0 (gb161 ≠ gb173) := ⟨h12_⟩
             have NB173_161 : Aside0 (gb173 ≠ gb161) := ⟨h13_⟩
             replace HB : Aside0 (Below w.heap.size w w58) := ⟨h14_⟩
             clear h0_ h1_ h2_ h3_ h4_ h5_ h6_ h7_ h8_ h9_ h10_ h11_ h12_ h13_ h14_
             have hHeld : w58.cell? ⟨gb159, 0, none⟩ = some (.bool a0_0) ∧ w58.cell? ⟨gb159, 1, none⟩ = some (.slice A0_1 l0_1.length c0_1) ∧ w58.cell? ⟨gb160, 0, none⟩ = some (.bool a1_0) ∧ w58.cell? ⟨gb160, 1, none⟩ = some (.slice A1_1 l1_1.length c1_1) := hS_
             refine norm_ (a' := ?_) ?_ ?_
             rotate_left
             ·simp only [putAll, Act.put, List.setIfInBounds_toArray, List.set_cons_zero, List.set_cons_succ]
              rfl
             refine one_ (i := 6) (N := some 7) #[true, true, true, true, true, true, true, true, false, false] rfl rfl (one_of HT_.out (by kernel_rfl)) (by decide) (fun K hK => ?_)
             refine box_step ?hg (N := 7) ?hd (cs := #[.bool false, .slice none 0 0]) (t := 39) ?hr ?_; (case hd => rfl); (case hg => rfl); (case hr => first | (go_simp; done) | (go_simp; rfl))
             intro gb172 hg w59 hbox hb
             replace HO167 := Aside0.mk (Kd.R_below (Sq.al HO167) hb)
             replace HO171 := Aside0.mk (Kd.R_below (Sq.al HO171) hb)
             have BK172 := Aside0.mk (hbox)
             have GW172 := Sq.gw HB hg
             have GE172 := Sq.gw HB hg
             have NB159_172 := Sq.nl BK159 hg
             have NB172_159 := Sq.ng BK159 hg
             have NB160_172 := Sq.nl BK160 hg
             have NB172_160 := Sq.ng BK160 hg
             have NB161_172 := Sq.nl BK161 hg
             have NB172_161 := Sq.ng BK161 hg
             have NB173_172 := Sq.nl BK173 hg
             have NB172_173 := Sq.ng BK173 hg
             replace BK159 := Sq.bb BK159 hb
             replace BK160 := Sq.bb BK160 hb
             replace BK161 := Sq.bb BK161 hb
             replace BK173 := Sq.bb BK173 hb
             replace HB := Sq.bs HB hb
             clear hb hbox hg
             refine hK.out _ _ ⟨(blk_cell BK159.out 0).trans rfl, (blk_cell BK159.out 1).trans rfl, (blk_cell BK160.out 0).trans rfl, (blk_cell BK160.out 1).trans rfl⟩ (fun hHeld => ?_)
             clear hK K
             refine norm_ (a' := ?_) ?_ ?_
             rotate_left
             ·show Act.put _ (some 7) _ = _
              simp only [Act.put, List.setIfInBounds_toArray, List.set_cons_zero, List.set_cons_succ, i64_w, i32_w]
              rfl
             exact norm_ (by first | (simp only [putAll, Act.put, List.setIfInBounds_toArray, List.set_cons_zero, List.set_cons_succ]; done) | (simp only [putAll, Act.put, List.setIfInBounds_toArray, List.set_cons_zero, List.set_cons_succ]; rfl)) (hJ2_5_6_7 (v166, v170, gb172, gb173) _ ⟨hHeld, (Sq.al HO167), (Sq.al HO171), (Sq.al BK159), (Sq.al BK160), (Sq.al BK161), (Sq.al BK172), (Sq.al BK173), GW172.out, GE172.out, NB159_172.out, NB172_159.out, NB160_172.out, NB172_160.out, NB161_172.out, NB172_161.out, NB173_172.out, NB172_173.out, GW173.out, GE173.out, NB159_173.out, NB173_159.out, NB160_173.out, NB173_160.out, NB161_173.out, NB173_161.out, (Sq.bl HB)⟩)
           ·skip
            rintro ⟨v166, v170, gb172⟩ w58 ⟨hS_, h0_, h1_, h2_, h3_, h4_, h5_, h6_, h7_, h8_, h9_, h10_, h11_, h12_, h13_, h14_⟩
            have HO167 : Aside0 (Kd.R (Kd.int .u32) 107 w58 w.heap.size (fun k_ => some k_ ≠ (v170 : Value).ownBlock) v166 t165) := ⟨h0_⟩
            have HO171 : Aside0 (Kd.R (Kd.int .u32) 107 w58 w.heap.size (fun k_ => some k_ ≠ (v166 : Value).ownBlock) v170 t169) := ⟨h1_⟩
            replace BK159 : Aside0 (w58.heap[gb159]? = some (.cells #[.bool a0_0, .slice A0_1 l0_1.length c0_1] 39 (0, 0))) := ⟨h2_⟩
            replace BK160 : Aside0 (w58.heap[gb160]? = some (.cells #[.bool a1_0, .slice A1_1 l1_1.length c1_1] 39 (0, 0))) := ⟨h3_⟩
            replace BK161 : Aside0 (w58.heap[gb161]? = some (.cells #[.bool a2_0, .slice A2_1 l2_1.length c2_1] 39 (0, 0))) := ⟨h4_⟩
            have BK172 : Aside0 (w58.heap[gb172]? = some (.cells #[.bool false, .slice none 0 0] 39 (0, 0))) := ⟨h5_⟩
            have GW172 : Aside0 (w.heap.size ≤ gb172) := ⟨h6_⟩
            have GE172 : Aside0 (w.heap.size ≤ gb172) := ⟨h7_⟩
            have NB159_172 : Aside0 (gb159 ≠ gb172) := ⟨h8_⟩
            have NB172_159 : Aside0 (gb172 ≠ gb159) := ⟨h9_⟩
            have NB160_172 : Aside0 (gb160 ≠ gb172) := ⟨h10_⟩
            have NB172_160 : Aside0 (gb172 ≠ gb160) := ⟨h11_⟩
            have NB161_172 : Aside0 (gb161 ≠ gb172) := ⟨h12_⟩
            have NB172_161 : Aside0 (gb172 ≠ gb161) := ⟨h13_⟩
            replace HB : Aside0 (Below w.heap.size w w58) := ⟨h14_⟩
            clear h0_ h1_ h2_ h3_ h4_ h5_ h6_ h7_ h8_ h9_ h10_ h11_ h12_ h13_ h14_
            have hHeld : w58.cell? ⟨gb159, 0, none⟩ = some (.bool a0_0) ∧ w58.cell? ⟨gb159, 1, none⟩ = some (.slice A0_1 l0_1.length c0_1) ∧ w58.cell? ⟨gb160, 0, none⟩ = some (.bool a1_0) ∧ w58.cell? ⟨gb160, 1, none⟩ = some (.slice A1_1 l1_1.length c1_1) := hS_
            refine norm_ (a' := ?_) ?_ ?_
            rotate_left
            ·simp only [putAll, Act.put, List.setIfInBounds_toArray, List.set_cons_zero, List.set_cons_succ]
             rfl
            refine one_ (i := 7) (N := some 8) #[true, true, true, true, true, true, true, true, false, false] rfl rfl (one_of HT_.out (by kernel_rfl)) (by decide) (fun K hK => ?_)
            refine box_step ?hg (N := 8) ?hd (cs := #[.bool false, .slice none 0 0]) (t := 39) ?hr ?_; (case hd => rfl); (case hg => rfl); (case hr => first | (go_simp; done) | (go_simp; rfl))
            intro gb173 hg w59 hbox hb
            replace HO167 := Aside0.mk (Kd.R_below (Sq.al HO167) hb)
            replace HO171 := Aside0.mk (Kd.R_below (Sq.al HO171) hb)
            have BK173 := Aside0.mk (hbox)
            have GW173 := Sq.gw HB hg
            have GE173 := Sq.gw HB hg
            have NB159_173 := Sq.nl BK159 hg
            have NB173_159 := Sq.ng BK159 hg
            have NB160_173 := Sq.nl BK160 hg
            have NB173_160 := Sq.ng BK160 hg
            have NB161_173 := Sq.nl BK161 hg
            have NB173_161 := Sq.ng BK161 hg
            have NB172_173 := Sq.nl BK172 hg
            have NB173_172 := Sq.ng BK172 hg
            replace BK159 := Sq.bb BK159 hb
            replace BK160 := Sq.bb BK160 hb
            replace BK161 := Sq.bb BK161 hb
            replace BK172 := Sq.bb BK172 hb
            replace HB := Sq.bs HB hb
            clear hb hbox hg
            refine hK.out _ _ ⟨(blk_cell BK159.out 0).trans rfl, (blk_cell BK159.out 1).trans rfl, (blk_cell BK160.out 0).trans rfl, (blk_cell BK160.out 1).trans rfl⟩ (fun hHeld => ?_)
            clear hK K
            refine norm_ (a' := ?_) ?_ ?_
            rotate_left
            ·show Act.put _ (some 8) _ = _
             simp only [Act.put, List.setIfInBounds_toArray, List.set_cons_zero, List.set_cons_succ, i64_w, i32_w]
             rfl
            exact norm_ (by first | (simp only [putAll, Act.put, List.setIfInBounds_toArray, List.set_cons_zero, List.set_cons_succ]; done) | (simp only [putAll, Act.put, List.setIfInBounds_toArray, List.set_cons_zero, List.set_cons_succ]; rfl)) (hJ2_5_6_7 (v166, v170, gb172, gb173) _ ⟨hHeld, (Sq.al HO167), (Sq.al HO171), (Sq.al BK159), (Sq.al BK160), (Sq.al BK161), (Sq.al BK172), (Sq.al BK173), GW172.out, GE172.out, NB159_172.out, NB172_159.out, NB160_172.out, NB172_160.out, NB161_172.out, NB172_161.out, NB173_172.out, NB172_173.out, GW173.out, GE173.out, NB159_173.out, NB173_159.out, NB160_173.out, NB173_160.out, NB161_173.out, NB173_161.out, (Sq.bl HB)⟩)
          rintro ⟨v166, v170, gb172, gb173⟩ w59 ⟨hS_, h0_, h1_, h2_, h3_, h4_, h5_, h6_, h7_, h8_, h9_, h10_, h11_, h12_, h13_, h14_, h15_, h16_, h17_, h18_, h19_, h20_, h21_, h22_, h23_, h24_, h25_⟩
          have HO167 : Aside0 (Kd.R (Kd.int .u32) 107 w59 w.heap.size (fun k_ => some k_ ≠ (v170 : Value).ownBlock) v166 t165) := ⟨h0_⟩
          have HO171 : Aside0 (Kd.R (Kd.int .u32) 107 w59 w.heap.size (fun k_ => some k_ ≠ (v166 : Value).ownBlock) v170 t169) := ⟨h1_⟩
          replace BK159 : Aside0 (w59.heap[gb159]? = some (.cells #[.bool a0_0, .slice A0_1 l0_1.length c0_1] 39 (0, 0))) := ⟨h2_⟩
          replace BK160 : Aside0 (w59.heap[gb160]? = some (.cells #[.bool a1_0, .slice A1_1 l1_1.length c1_1] 39 (0, 0))) := ⟨h3_⟩
          replace BK161 : Aside0 (w59.heap[gb161]? = some (.cells #[.bool a2_0, .slice A2_1 l2_1.length c2_1] 39 (0, 0))) := ⟨h4_⟩
          have BK172 : Aside0 (w59.heap[gb172]? = some (.cells #[.bool false, .slice none 0 0] 39 (0, 0))) := ⟨h5_⟩
          have BK173 : Aside0 (w59.heap[gb173]? = some (.cells #[.bool false, .slice none 0 0] 39 (0, 0))) := ⟨h6_⟩
          have GW172 : Aside0 (w.heap.size ≤ gb172) := ⟨h7_⟩
          have GE172 : Aside0 (w.heap.size ≤ gb172) := ⟨h8_⟩
          have NB159_172 : Aside0 (gb159 ≠ gb172) := ⟨h9_⟩
          have NB172_159 : Aside0 (gb172 ≠ gb159) := ⟨h10_⟩
          have NB160_172 : Aside0 (gb160 ≠ gb172) := ⟨h11_⟩
          have NB172_160 : Aside0 (gb172 ≠ gb160) := ⟨h12_⟩
          have NB161_172 : Aside0 (gb161 ≠ gb172) := ⟨h13_⟩
          have NB172_161 : Aside0 (gb172 ≠ gb161) := ⟨h14_⟩
          have NB173_172 : Aside0 (gb173 ≠ gb172) := ⟨h15_⟩
          have NB172_173 : Aside0 (gb172 ≠ gb173) := ⟨h16_⟩
          have GW173 : Aside0 (w.heap.size ≤ gb173) := ⟨h17_⟩
          have GE173 : Aside0 (w.heap.size ≤ gb173) := ⟨h18_⟩
          have NB159_173 : Aside0 (gb159 ≠ gb173) := ⟨h19_⟩
          have NB173_159 : Aside0 (gb173 ≠ gb159) := ⟨h20_⟩
          have NB160_173 : Aside0 (gb160 ≠ gb173) := ⟨h21_⟩
          have NB173_160 : Aside0 (gb173 ≠ gb160) := ⟨h22_⟩
          have NB161_173 : Aside0 (gb161 ≠ gb173) := ⟨h23_⟩
          have NB173_161 : Aside0 (gb173 ≠ gb161) := ⟨h24_⟩
          replace HB : Aside0 (Below w.heap.size w w59) := ⟨h25_⟩
          clear h0_ h1_ h2_ h3_ h4_ h5_ h6_ h7_ h8_ h9_ h10_ h11_ h12_ h13_ h14_ h15_ h16_ h17_ h18_ h19_ h20_ h21_ h22_ h23_ h24_ h25_
          have hHeld : w59.cell? ⟨gb159, 0, none⟩ = some (.bool a0_0) ∧ w59.cell? ⟨gb159, 1, none⟩ = some (.slice A0_1 l0_1.length c0_1) ∧ w59.cell? ⟨gb160, 0, none⟩ = some (.bool a1_0) ∧ w59.cell? ⟨gb160, 1, none⟩ = some (.slice A1_1 l1_1.length c1_1) := hS_
          obtain ⟨Ao61, co61, eo61⟩ := Kd.R_slice HO167.out
          (first | subst eo61 | (injection eo61 with f1_ f2_ f3_; have f4_ := f1_.symm; have f5_ := f3_.symm; clear f1_ f2_ f3_; subst f4_; subst f5_))
          obtain ⟨Ao64, co64, eo64⟩ := Kd.R_slice HO171.out
          (first | subst eo64 | (injection eo64 with f1_ f2_ f3_; have f4_ := f1_.symm; have f5_ := f3_.symm; clear f1_ f2_ f3_; subst f4_; subst f5_))
          refine norm_ (a' := ?_) ?_ ?_
          rotate_left
          ·simp only [putAll, Act.put, List.setIfInBounds_toArray, List.set_cons_zero, List.set_cons_succ]
           rfl
          refine one_ (i := 8) (N := none) #[true, true, true, true, true, true, true, true, true, false] rfl rfl (one_of HT_.out (by kernel_rfl)) (by decide) (fun K hK => ?_)
          have hs60 : w59.cell? ⟨gb172, 0, none⟩ = some (.bool false) := (blk_cell BK172.out 0).trans rfl
          have hfs60 := blk_frozen BK172.out 0
          have hns60_0 := NB159_172.out
          have hns60_1 := NB160_172.out
          have hns60_2 := NB161_172.out
          have hns60_4 := NB173_172.out
          have hms60_0 := NB172_159.out
          have hms60_1 := NB172_160.out
          have hms60_2 := NB172_161.out
          have hms60_4 := NB172_173.out
          have hs62 : w59.cell? ⟨gb172, 1, none⟩ = some (.slice none 0 0) := (blk_cell BK172.out 1).trans rfl
          have hfs62 := blk_frozen BK172.out 1
          have hns62_0 := NB159_172.out
          have hns62_1 := NB160_172.out
          have hns62_2 := NB161_172.out
          have hns62_4 := NB173_172.out
          have hms62_0 := NB172_159.out
          have hms62_1 := NB172_160.out
          have hms62_2 := NB172_161.out
          have hms62_4 := NB172_173.out
          refine skip_ (w1 := ?_) (by rfl) rfl ?_ ?_
          rotate_left
          ·go_simp
           rfl
          refine hK.out _ _ ⟨((cell_far (p := ⟨gb172, _, none⟩) NB159_172.out _).trans (((cell_far (p := ⟨gb172, _, none⟩) NB159_172.out _).trans (hHeld.1)))), ((cell_far (p := ⟨gb172, _, none⟩) NB159_172.out _).trans (((cell_far (p := ⟨gb172, _, none⟩) NB159_172.out _).trans (hHeld.2.1)))), ((cell_far (p := ⟨gb172, _, none⟩) NB160_172.out _).trans (((cell_far (p := ⟨gb172, _, none⟩) NB160_172.out _).trans (hHeld.2.2.1)))), ((cell_far (p := ⟨gb172, _, none⟩) NB160_172.out _).trans (((cell_far (p := ⟨gb172, _, none⟩) NB160_172.out _).trans (hHeld.2.2.2))))⟩ (fun hHeld => ?_)
          clear hK K
          refine one_ (i := 9) (N := none) #[true, true, true, true, true, true, true, true, true, true] rfl rfl (one_of HT_.out (by kernel_rfl)) (by decide) (fun K hK => ?_)
          have hs63 : w59.cell? ⟨gb173, 0, none⟩ = some (.bool false) := (blk_cell BK173.out 0).trans rfl
          have hfs63 := blk_frozen BK173.out 0
          have hns63_0 := NB159_173.out
          have hns63_1 := NB160_173.out
          have hns63_2 := NB161_173.out
          have hns63_3 := NB172_173.out
          have hms63_0 := NB173_159.out
          have hms63_1 := NB173_160.out
          have hms63_2 := NB173_161.out
          have hms63_3 := NB173_172.out
          have hs65 : w59.cell? ⟨gb173, 1, none⟩ = some (.slice none 0 0) := (blk_cell BK173.out 1).trans rfl
          have hfs65 := blk_frozen BK173.out 1
          have hns65_0 := NB159_173.out
          have hns65_1 := NB160_173.out
          have hns65_2 := NB161_173.out
          have hns65_3 := NB172_173.out
          have hms65_0 := NB173_159.out
          have hms65_1 := NB173_160.out
          have hms65_2 := NB173_161.out
          have hms65_3 := NB173_172.out
          refine skip_ (w1 := ?_) (by rfl) rfl ?_ ?_
          rotate_left
          ·go_simp
           rfl
          refine hK.out _ _ ⟨((cell_far (p := ⟨gb173, _, none⟩) NB159_173.out _).trans (((cell_far (p := ⟨gb173, _, none⟩) NB159_173.out _).trans (hHeld.1)))), ((cell_far (p := ⟨gb173, _, none⟩) NB159_173.out _).trans (((cell_far (p := ⟨gb173, _, none⟩) NB159_173.out _).trans (hHeld.2.1)))), ((cell_far (p := ⟨gb173, _, none⟩) NB160_173.out _).trans (((cell_far (p := ⟨gb173, _, none⟩) NB160_173.out _).trans (hHeld.2.2.1)))), ((cell_far (p := ⟨gb173, _, none⟩) NB160_173.out _).trans (((cell_far (p := ⟨gb173, _, none⟩) NB160_173.out _).trans (hHeld.2.2.2))))⟩ (fun hHeld => ?_)
          clear hK K
          refine done_ (done_of HT_.out (by kernel_rfl)) ?_
          try go_wp2
          have n0_ : Aside0 (Kd.R (Kd.int .u32) 107 ((((w59.setCell ⟨gb172, 0, none⟩ (.bool t164)).setCell ⟨gb172, 1, none⟩ (.slice Ao61 t165.length co61)).setCell ⟨gb173, 0, none⟩ (.bool t168)).setCell ⟨gb173, 1, none⟩ (.slice Ao64 t169.length co64)) w.heap.size (fun k_ => some k_ ≠ (.slice Ao64 t169.length co64 : Value).ownBlock) (.slice Ao61 t165.length co61) t165) := ⟨by (with_reducible repeat (first | apply Kd.R_alloc | apply Kd.R_drewN | apply Kd.R_drew)); exact Kd.R_mono (Kd.R_far (p := ⟨gb173, 1, none⟩) (Kd.R_far (p := ⟨gb173, 0, none⟩) (Kd.R_far (p := ⟨gb172, 1, none⟩) (Kd.R_far (p := ⟨gb172, 0, none⟩) (Sq.rt (Sq.rt HO167.out BK172) BK173) (fun _ hk => hk.1.2) (.bool t164)) (fun _ hk => hk.1.2) (.slice Ao61 t165.length co61)) (fun _ hk => hk.2) (.bool t168)) (fun _ hk => hk.2) (.slice Ao64 t169.length co64)) (fun _ hk => hk.1.1)⟩
          have n1_ : Aside0 (Kd.R (Kd.int .u32) 107 ((((w59.setCell ⟨gb172, 0, none⟩ (.bool t164)).setCell ⟨gb172, 1, none⟩ (.slice Ao61 t165.length co61)).setCell ⟨gb173, 0, none⟩ (.bool t168)).setCell ⟨gb173, 1, none⟩ (.slice Ao64 t169.length co64)) w.heap.size (fun k_ => some k_ ≠ (.slice Ao61 t165.length co61 : Value).ownBlock) (.slice Ao64 t169.length co64) t169) := ⟨by (with_reducible repeat (first | apply Kd.R_alloc | apply Kd.R_drewN | apply Kd.R_drew)); exact Kd.R_mono (Kd.R_far (p := ⟨gb173, 1, none⟩) (Kd.R_far (p := ⟨gb173, 0, none⟩) (Kd.R_far (p := ⟨gb172, 1, none⟩) (Kd.R_far (p := ⟨gb172, 0, none⟩) (Sq.rt (Sq.rt HO171.out BK172) BK173) (fun _ hk => hk.1.2) (.bool t164)) (fun _ hk => hk.1.2) (.slice Ao61 t165.length co61)) (fun _ hk => hk.2) (.bool t168)) (fun _ hk => hk.2) (.slice Ao64 t169.length co64)) (fun _ hk => hk.1.1)⟩
          have n2_ : Aside0 (((((w59.setCell ⟨gb172, 0, none⟩ (.bool t164)).setCell ⟨gb172, 1, none⟩ (.slice Ao61 t165.length co61)).setCell ⟨gb173, 0, none⟩ (.bool t168)).setCell ⟨gb173, 1, none⟩ (.slice Ao64 t169.length co64)).heap[gb159]? = some (.cells #[.bool a0_0, .slice A0_1 l0_1.length c0_1] 39 (0, 0))) := ⟨by (with_reducible repeat (first | refine blk_drewN ?_ _ | refine blk_drew ?_ | refine blk_alloc ?_ _)); refine blk_far ?_ NB159_173.out _; (with_reducible repeat (first | refine blk_drewN ?_ _ | refine blk_drew ?_ | refine blk_alloc ?_ _)); refine blk_far ?_ NB159_173.out _; (with_reducible repeat (first | refine blk_drewN ?_ _ | refine blk_drew ?_ | refine blk_alloc ?_ _)); refine blk_far ?_ NB159_172.out _; (with_reducible repeat (first | refine blk_drewN ?_ _ | refine blk_drew ?_ | refine blk_alloc ?_ _)); refine blk_far ?_ NB159_172.out _; (with_reducible repeat (first | refine blk_drewN ?_ _ | refine blk_drew ?_ | refine blk_alloc ?_ _)); exact BK159.out⟩
          have n3_ : Aside0 (((((w59.setCell ⟨gb172, 0, none⟩ (.bool t164)).setCell ⟨gb172, 1, none⟩ (.slice Ao61 t165.length co61)).setCell ⟨gb173, 0, none⟩ (.bool t168)).setCell ⟨gb173, 1, none⟩ (.slice Ao64 t169.length co64)).heap[gb160]? = some (.cells #[.bool a1_0, .slice A1_1 l1_1.length c1_1] 39 (0, 0))) := ⟨by (with_reducible repeat (first | refine blk_drewN ?_ _ | refine blk_drew ?_ | refine blk_alloc ?_ _)); refine blk_far ?_ NB160_173.out _; (with_reducible repeat (first | refine blk_drewN ?_ _ | refine blk_drew ?_ | refine blk_alloc ?_ _)); refine blk_far ?_ NB160_173.out _; (with_reducible repeat (first | refine blk_drewN ?_ _ | refine blk_drew ?_ | refine blk_alloc ?_ _)); refine blk_far ?_ NB160_172.out _; (with_reducible repeat (first | refine blk_drewN ?_ _ | refine blk_drew ?_ | refine blk_alloc ?_ _)); refine blk_far ?_ NB160_172.out _; (with_reducible repeat (first | refine blk_drewN ?_ _ | refine blk_drew ?_ | refine blk_alloc ?_ _)); exact BK160.out⟩
          have n4_ : Aside0 (((((w59.setCell ⟨gb172, 0, none⟩ (.bool t164)).setCell ⟨gb172, 1, none⟩ (.slice Ao61 t165.length co61)).setCell ⟨gb173, 0, none⟩ (.bool t168)).setCell ⟨gb173, 1, none⟩ (.slice Ao64 t169.length co64)).heap[gb161]? = some (.cells #[.bool a2_0, .slice A2_1 l2_1.length c2_1] 39 (0, 0))) := ⟨by (with_reducible repeat (first | refine blk_drewN ?_ _ | refine blk_drew ?_ | refine blk_alloc ?_ _)); refine blk_far ?_ NB161_173.out _; (with_reducible repeat (first | refine blk_drewN ?_ _ | refine blk_drew ?_ | refine blk_alloc ?_ _)); refine blk_far ?_ NB161_173.out _; (with_reducible repeat (first | refine blk_drewN ?_ _ | refine blk_drew ?_ | refine blk_alloc ?_ _)); refine blk_far ?_ NB161_172.out _; (with_reducible repeat (first | refine blk_drewN ?_ _ | refine blk_drew ?_ | refine blk_alloc ?_ _)); refine blk_far ?_ NB161_172.out _; (with_reducible repeat (first | refine blk_drewN ?_ _ | refine blk_drew ?_ | refine blk_alloc ?_ _)); exact BK161.out⟩
          have n5_ : Aside0 (((((w59.setCell ⟨gb172, 0, none⟩ (.bool t164)).setCell ⟨gb172, 1, none⟩ (.slice Ao61 t165.length co61)).setCell ⟨gb173, 0, none⟩ (.bool t168)).setCell ⟨gb173, 1, none⟩ (.slice Ao64 t169.length co64)).heap[gb172]? = some (.cells #[.bool t164, .slice Ao61 t165.length co61] 39 (0, 0))) := ⟨by (with_reducible repeat (first | refine blk_drewN ?_ _ | refine blk_drew ?_ | refine blk_alloc ?_ _)); refine blk_far ?_ NB172_173.out _; (with_reducible repeat (first | refine blk_drewN ?_ _ | refine blk_drew ?_ | refine blk_alloc ?_ _)); refine blk_far ?_ NB172_173.out _; (with_reducible repeat (first | refine blk_drewN ?_ _ | refine blk_drew ?_ | refine blk_alloc ?_ _)); refine blk_put (cs := #[.bool t164, .slice none 0 0]) ?_ 1 _ rfl; (with_reducible repeat (first | refine blk_drewN ?_ _ | refine blk_drew ?_ | refine blk_alloc ?_ _)); refine blk_put (cs := #[.bool false, .slice none 0 0]) ?_ 0 _ rfl; (with_reducible repeat (first | refine blk_drewN ?_ _ | refine blk_drew ?_ | refine blk_alloc ?_ _)); exact BK172.out⟩
          have n6_ : Aside0 (((((w59.setCell ⟨gb172, 0, none⟩ (.bool t164)).setCell ⟨gb172, 1, none⟩ (.slice Ao61 t165.length co61)).setCell ⟨gb173, 0, none⟩ (.bool t168)).setCell ⟨gb173, 1, none⟩ (.slice Ao64 t169.length co64)).heap[gb173]? = some (.cells #[.bool t168, .slice Ao64 t169.length co64] 39 (0, 0))) := ⟨by (with_reducible repeat (first | refine blk_drewN ?_ _ | refine blk_drew ?_ | refine blk_alloc ?_ _)); refine blk_put (cs := #[.bool t168, .slice none 0 0]) ?_ 1 _ rfl; (with_reducible repeat (first | refine blk_drewN ?_ _ | refine blk_drew ?_ | refine blk_alloc ?_ _)); refine blk_put (cs := #[.bool false, .slice none 0 0]) ?_ 0 _ rfl; (with_reducible repeat (first | refine blk_drewN ?_ _ | refine blk_drew ?_ | refine blk_alloc ?_ _)); refine blk_far ?_ NB173_172.out _; (with_reducible repeat (first | refine blk_drewN ?_ _ | refine blk_drew ?_ | refine blk_alloc ?_ _)); refine blk_far ?_ NB173_172.out _; (with_reducible repeat (first | refine blk_drewN ?_ _ | refine blk_drew ?_ | refine blk_alloc ?_ _)); exact BK173.out⟩
          have n7_ : Aside0 (Below w.heap.size w ((((w59.setCell ⟨gb172, 0, none⟩ (.bool t164)).setCell ⟨gb172, 1, none⟩ (.slice Ao61 t165.length co61)).setCell ⟨gb173, 0, none⟩ (.bool t168)).setCell ⟨gb173, 1, none⟩ (.slice Ao64 t169.length co64))) := ⟨Sq.bl HB⟩
          (try clear HO167)
          (try clear HO171)
          (try clear BK159)
          (try clear BK160)
          (try clear BK161)
          (try clear BK172)
          (try clear BK173)
          (try clear HB)
          generalize ((((w59.setCell ⟨gb172, 0, none⟩ (.bool t164)).setCell ⟨gb172, 1, none⟩ (.slice Ao61 t165.length co61)).setCell ⟨gb173, 0, none⟩ (.bool t168)).setCell ⟨gb173, 1, none⟩ (.slice Ao64 t169.length co64)) = w66 at n0_ n1_ n2_ n3_ n4_ n5_ n6_ n7_ ⊢
          have HO167 := n0_
          have HO171 := n1_
          have BK159 := n2_
          have BK160 := n3_
          have BK161 := n4_
          have BK172 := n5_
          have BK173 := n6_
          have HB := n7_
          clear n0_ n1_ n2_ n3_ n4_ n5_ n6_ n7_
          replace HO167 := Aside0.mk (Kd.R_drew HO167.out)
          replace HO171 := Aside0.mk (Kd.R_drew HO171.out)
          replace BK159 := Aside0.mk (blk_drew BK159.out)
          replace BK160 := Aside0.mk (blk_drew BK160.out)
          replace BK161 := Aside0.mk (blk_drew BK161.out)
          replace BK172 := Aside0.mk (blk_drew BK172.out)
          replace BK173 := Aside0.mk (blk_drew BK173.out)
          replace HB := Aside0.mk (below_drew1 HB.out)
          refine start_ (n := 56) (S := fun w' => w'.cell? ⟨gb172, 0, none⟩ = some (.bool t164) ∧ w'.cell? ⟨gb172, 1, none⟩ = some (.slice Ao61 t165.length co61) ∧ w'.cell? ⟨gb160, 0, none⟩ = some (.bool a1_0) ∧ w'.cell? ⟨gb160, 1, none⟩ = some (.slice A1_1 l1_1.length c1_1) ∧ w'.cell? ⟨gb159, 0, none⟩ = some (.bool a0_0) ∧ w'.cell? ⟨gb159, 1, none⟩ = some (.slice A0_1 l0_1.length c0_1) ∧ w'.cell? ⟨gb173, 0, none⟩ = some (.bool t168) ∧ w'.cell? ⟨gb173, 1, none⟩ = some (.slice Ao64 t169.length co64) ∧ w'.cell? ⟨gb161, 0, none⟩ = some (.bool a2_0) ∧ w'.cell? ⟨gb161, 1, none⟩ = some (.slice A2_1 l2_1.length c2_1)) (ds := []) #[false, false, false, false, false, false, false, false, false, false, false, false, false, false, false, false, false, false, false, false, false, false, false, false, false, false, false, false, false, false, false, false, false, false, false, false, false, false, false, false, false, false, false, false, false, false, false, false, false, false, false, false, false, false, false, false] (by kernel_rfl) rfl rfl ⟨(blk_cell BK172.out 0).trans rfl, (blk_cell BK172.out 1).trans rfl, (blk_cell BK160.out 0).trans rfl, (blk_cell BK160.out 1).trans rfl, (blk_cell BK159.out 0).trans rfl, (blk_cell BK159.out 1).trans rfl, (blk_cell BK173.out 0).trans rfl, (blk_cell BK173.out 1).trans rfl, (blk_cell BK161.out 0).trans rfl, (blk_cell BK161.out 1).trans rfl⟩ (fun hHeld => ?_); refine with_tabW foliotlaw02_IntegerRing.tab4 foliotlaw02_IntegerRing.bits4 (fun HT_ HW_ => ?_)
          generalize w66.drew = w67 at HO167 HO171 BK159 BK160 BK161 BK172 BK173 HB hHeld ⊢
          refine Sq.tk (v := ?_) (a' := ?_) 0 (some 25) #[true, false, false, false, false, false, false, false, false, false, false, false, false, false, false, false, false, false, false, false, false, false, false, false, false, false, false, false, false, false, false, false, false, false, false, false, false, false, false, false, false, false, false, false, false, false, false, false, false, false, false, false, false, false, false, false] HT_ HW_ hHeld ?_ ?_ ?_
          rotate_left
          ·rintro w' ⟨s0, s1, s2, s3, s4, s5, s6, s7, s8, s9⟩
           go_simp
           with_reducible rfl
          rotate_left
          ·simp only [Act.put, List.setIfInBounds_toArray, List.set_cons_zero, List.set_cons_succ, i64_w, i32_w]
           rfl
          refine Sq.tk (v := ?_) (a' := ?_) 1 (some 26) #[true, true, false, false, false, false, false, false, false, false, false, false, false, false, false, false, false, false, false, false, false, false, false, false, false, false, false, false, false, false, false, false, false, false, false, false, false, false, false, false, false, false, false, false, false, false, false, false, false, false, false, false, false, false, false, false] HT_ HW_ hHeld ?_ ?_ ?_
          rotate_left
          ·rintro w' ⟨s0, s1, s2, s3, s4, s5, s6, s7, s8, s9⟩
           go_simp
           with_reducible rfl
          rotate_left
          ·simp only [Act.put, List.setIfInBounds_toArray, List.set_cons_zero, List.set_cons_succ, i64_w, i32_w]
           rfl
          refine Sq.tk (v := ?_) (a' := ?_) 2 (some 27) #[true, true, true, false, false, false, false, false, false, false, false, false, false, false, false, false, false, false, false, false, false, false, false, false, false, false, false, false, false, false, false, false, false, false, false, false, false, false, false, false, false, false, false, false, false, false, false, false, false, false, false, false, false, false, false, false] HT_ HW_ hHeld ?_ ?_ ?_
          rotate_left
          ·rintro w' ⟨s0, s1, s2, s3, s4, s5, s6, s7, s8, s9⟩
           go_simp
           with_reducible rfl
          rotate_left
          ·simp only [Act.put, List.setIfInBounds_toArray, List.set_cons_zero, List.set_cons_succ, i64_w, i32_w]
           rfl
          refine one_ (i := 3) (N := some 28) #[true, true, true, true, false, false, false, false, false, false, false, false, false, false, false, false, false, false, false, false, false, false, false, false, false, false, false, false, false, false, false, false, false, false, false, false, false, false, false, false, false, false, false, false, false, false, false, false, false, false, false, false, false, false, false, false] rfl rfl (one_of HT_.out (by kernel_rfl)) (by decide) (fun K hK => ?_)
          refine goes_ Try.func63 (by kernel_rfl) rfl #[.agg #[.bool a1_0, .slice A1_1 l1_1.length c1_1], .agg #[.bool a0_0, .slice A0_1 l0_1.length c0_1]] (by rfl) rfl rfl (by (try simp only [List.map_toArray, List.map_cons, List.map_nil]); first | done | rfl | (simp only [List.length_drop, List.length_take]; rfl)) ?_
          with_reducible refine (integer_Add.calls a1_0 _ _ l1_1 a0_0 _ _ l0_1 t174 t175 _ ?side1 ?side2 ?side3 ?side4 A28.out).mono ?_
          (case side1 => exact Sq.ca (Kd.C_below HR1_1.out HB.out))
          (case side2 => exact HC1_1.out)
          (case side3 => exact Sq.ca (Kd.C_below HR0_1.out HB.out))
          (case side4 => exact HC0_1.out)
          rintro e w68 ⟨v176, rfl, ho0, hb⟩
          refine ⟨_, rfl, ?_⟩
          have HO177 := Aside0.mk (Kd.R_lower (Kd.R_new' (Kd.R_new' ho0 (Kd.R_lt (Sq.al HO167))) (Kd.R_lt (Sq.al HO171))) (below_size (Sq.bl HB)))
          replace BK159 := Sq.bb BK159 hb
          replace BK160 := Sq.bb BK160 hb
          replace BK161 := Sq.bb BK161 hb
          replace BK172 := Sq.bb BK172 hb
          replace BK173 := Sq.bb BK173 hb
          replace HO167 := Aside0.mk (Kd.R_elder' (Sq.al HO167) (Kd.R_base ho0) hb)
          replace HO171 := Aside0.mk (Kd.R_elder' (Sq.al HO171) (Kd.R_base ho0) hb)
          replace HB := Sq.bs HB hb
          (try clear hb)
          (try clear hb2)
          (try clear hk)
          (try clear hi)
          (try clear ho0)
          obtain ⟨Ao69, co69, eo69⟩ := Kd.R_slice HO177.out
          (first | subst eo69 | (injection eo69 with f1_ f2_ f3_; have f4_ := f1_.symm; have f5_ := f3_.symm; clear f1_ f2_ f3_; subst f4_; subst f5_))
          refine hK.out _ _ ⟨(blk_cell BK172.out 0).trans rfl, (blk_cell BK172.out 1).trans rfl, (blk_cell BK160.out 0).trans rfl, (blk_cell BK160.out 1).trans rfl, (blk_cell BK159.out 0).trans rfl, (blk_cell BK159.out 1).trans rfl, (blk_cell BK173.out 0).trans rfl, (blk_cell BK173.out 1).trans rfl, (blk_cell BK161.out 0).trans rfl, (blk_cell BK161.out 1).trans rfl⟩ (fun hHeld => ?_)
          clear hK K
          refine norm_ (a' := ?_) ?_ ?_
          rotate_left
          ·show Act.put _ (some 28) _ = _
           simp only [Act.put, List.setIfInBounds_toArray, List.set_cons_zero, List.set_cons_succ, i64_w, i32_w]
           rfl
          refine one_ (i := 4) (N := some 29) #[true, true, true, true, true, false, false, false, false, false, false, false, false, false, false, false, false, false, false, false, false, false, false, false, false, false, false, false, false, false, false, false, false, false, false, false, false, false, false, false, false, false, false, false, false, false, false, false, false, false, false, false, false, false, false, false] rfl rfl (one_of HT_.out (by kernel_rfl)) (by decide) (fun K hK => ?_)
          refine goes_ Try.func56 (by kernel_rfl) rfl #[.agg #[.bool t164, .slice Ao61 t165.length co61], .agg #[.bool t174, .slice Ao69 t175.length co69]] (by rfl) rfl rfl (by (try simp only [List.map_toArray, List.map_cons, List.map_nil]); first | done | rfl | (simp only [List.length_drop, List.length_take]; rfl)) ?_
          with_reducible refine (foliotlaw02_same.calls kj3 t164 _ _ t165 t174 _ _ t175 true _ ?side1 ?side2 ?side3 ?side4 A29.out).mono ?_
          (case side1 => exact Sq.ca (Kd.R_reads' HO167.out).2.2)
          (case side2 => exact (Kd.R_reads' HO167.out).2.1)
          (case side3 => exact Sq.ca (Kd.R_reads' HO177.out).2.2)
          (case side4 => exact (Kd.R_reads' HO177.out).2.1)
          rintro e w70 ⟨rfl, hb⟩
          refine ⟨_, rfl, ?_⟩
          replace HO167 := Aside0.mk (Kd.R_below (Sq.al HO167) hb)
          replace HO171 := Aside0.mk (Kd.R_below (Sq.al HO171) hb)
          replace HO177 := Aside0.mk (Kd.R_below (Sq.al HO177) hb)
          replace BK159 := Sq.bb BK159 hb
          replace BK160 := Sq.bb BK160 hb
          replace BK161 := Sq.bb BK161 hb
          replace BK172 := Sq.bb BK172 hb
          replace BK173 := Sq.bb BK173 hb
          replace HB := Sq.bs HB hb
          (try clear hb)
          (try clear hb2)
          (try clear hk)
          (try clear hi)
          refine hK.out _ _ ⟨(blk_cell BK172.out 0).trans rfl, (blk_cell BK172.out 1).trans rfl, (blk_cell BK160.out 0).trans rfl, (blk_cell BK160.out 1).trans rfl, (blk_cell BK159.out 0).trans rfl, (blk_cell BK159.out 1).trans rfl, (blk_cell BK173.out 0).trans rfl, (blk_cell BK173.out 1).trans rfl, (blk_cell BK161.out 0).trans rfl, (blk_cell BK161.out 1).trans rfl⟩ (fun hHeld => ?_)
          clear hK K
          refine norm_ (a' := ?_) ?_ ?_
          rotate_left
          ·show Act.put _ (some 29) _ = _
           simp only [Act.put, List.setIfInBounds_toArray, List.set_cons_zero, List.set_cons_succ, i64_w, i32_w]
           rfl
          refine Sq.pu (v := ?_) (a' := ?_) 5 (some 30) #[true, true, true, true, true, true, false, false, false, false, false, false, false, false, false, false, false, false, false, false, false, false, false, false, false, false, false, false, false, false, false, false, false, false, false, false, false, false, false, false, false, false, false, false, false, false, false, false, false, false, false, false, false, false, false, false] HT_ ?_ ?_ ?_
          rotate_left
          ·intro w'
           go_simp
           with_reducible rfl
          rotate_left
          ·simp only [Act.put, List.setIfInBounds_toArray, List.set_cons_zero, List.set_cons_succ, i64_w, i32_w]
           rfl
          refine Sq.tk (v := ?_) (a' := ?_) 6 (some 31) #[true, true, true, true, true, true, true, false, false, false, false, false, false, false, false, false, false, false, false, false, false, false, false, false, false, false, false, false, false, false, false, false, false, false, false, false, false, false, false, false, false, false, false, false, false, false, false, false, false, false, false, false, false, false, false, false] HT_ HW_ hHeld ?_ ?_ ?_
          rotate_left
          ·rintro w' ⟨s0, s1, s2, s3, s4, s5, s6, s7, s8, s9⟩
           go_simp
           with_reducible rfl
          rotate_left
          ·simp only [Act.put, List.setIfInBounds_toArray, List.set_cons_zero, List.set_cons_succ, i64_w, i32_w]
           rfl
          refine Sq.tk (v := ?_) (a' := ?_) 7 (some 32) #[true, true, true, true, true, true, true, true, false, false, false, false, false, false, false, false, false, false, false, false, false, false, false, false, false, false, false, false, false, false, false, false, false, false, false, false, false, false, false, false, false, false, false, false, false, false, false, false, false, false, false, false, false, false, false, false] HT_ HW_ hHeld ?_ ?_ ?_
          rotate_left
          ·rintro w' ⟨s0, s1, s2, s3, s4, s5, s6, s7, s8, s9⟩
           go_simp
           with_reducible rfl
          rotate_left
          ·simp only [Act.put, List.setIfInBounds_toArray, List.set_cons_zero, List.set_cons_succ, i64_w, i32_w]
           rfl
          refine Sq.tk (v := ?_) (a' := ?_) 8 (some 33) #[true, true, true, true, true, true, true, true, true, false, false, false, false, false, false, false, false, false, false, false, false, false, false, false, false, false, false, false, false, false, false, false, false, false, false, false, false, false, false, false, false, false, false, false, false, false, false, false, false, false, false, false, false, false, false, false] HT_ HW_ hHeld ?_ ?_ ?_
          rotate_left
          ·rintro w' ⟨s0, s1, s2, s3, s4, s5, s6, s7, s8, s9⟩
           go_simp
           with_reducible rfl
          rotate_left
          ·simp only [Act.put, List.setIfInBounds_toArray, List.set_cons_zero, List.set_cons_succ, i64_w, i32_w]
           rfl
          refine one_ (i := 9) (N := some 34) #[true, true, true, true, true, true, true, true, true, true, false, false, false, false, false, false, false, false, false, false, false, false, false, false, false, false, false, false, false, false, false, false, false, false, false, false, false, false, false, false, false, false, false, false, false, false, false, false, false, false, false, false, false, false, false, false] rfl rfl (one_of HT_.out (by kernel_rfl)) (by decide) (fun K hK => ?_)
          refine goes_ Try.func64 (by kernel_rfl) rfl #[.agg #[.bool a1_0, .slice A1_1 l1_1.length c1_1], .agg #[.bool a0_0, .slice A0_1 l0_1.length c0_1]] (by rfl) rfl rfl (by (try simp only [List.map_toArray, List.map_cons, List.map_nil]); first | done | rfl | (simp only [List.length_drop, List.length_take]; rfl)) ?_
          with_reducible refine (integer_Mul.calls a1_0 _ _ l1_1 a0_0 _ _ l0_1 t179 t180 _ ?side1 ?side2 ?side3 ?side4 A31.out).mono ?_
          (case side1 => exact Sq.ca (Kd.C_below HR1_1.out HB.out))
          (case side2 => exact HC1_1.out)
          (case side3 => exact Sq.ca (Kd.C_below HR0_1.out HB.out))
          (case side4 => exact HC0_1.out)
          rintro e w71 ⟨v181, rfl, ho0, hb⟩
          refine ⟨_, rfl, ?_⟩
          have HO182 := Aside0.mk (Kd.R_lower (Kd.R_new' (Kd.R_new' (Kd.R_new' ho0 (Kd.R_lt (Sq.al HO167))) (Kd.R_lt (Sq.al HO171))) (Kd.R_lt (Sq.al HO177))) (below_size (Sq.bl HB)))
          replace BK159 := Sq.bb BK159 hb
          replace BK160 := Sq.bb BK160 hb
          replace BK161 := Sq.bb BK161 hb
          replace BK172 := Sq.bb BK172 hb
          replace BK173 := Sq.bb BK173 hb
          replace HO167 := Aside0.mk (Kd.R_elder' (Sq.al HO167) (Kd.R_base ho0) hb)
          replace HO171 := Aside0.mk (Kd.R_elder' (Sq.al HO171) (Kd.R_base ho0) hb)
          replace HO177 := Aside0.mk (Kd.R_elder' (Sq.al HO177) (Kd.R_base ho0) hb)
          replace HB := Sq.bs HB hb
          (try clear hb)
          (try clear hb2)
          (try clear hk)
          (try clear hi)
          (try clear ho0)
          obtain ⟨Ao72, co72, eo72⟩ := Kd.R_slice HO182.out
          (first | subst eo72 | (injection eo72 with f1_ f2_ f3_; have f4_ := f1_.symm; have f5_ := f3_.symm; clear f1_ f2_ f3_; subst f4_; subst f5_))
          refine hK.out _ _ ⟨(blk_cell BK172.out 0).trans rfl, (blk_cell BK172.out 1).trans rfl, (blk_cell BK160.out 0).trans rfl, (blk_cell BK160.out 1).trans rfl, (blk_cell BK159.out 0).trans rfl, (blk_cell BK159.out 1).trans rfl, (blk_cell BK173.out 0).trans rfl, (blk_cell BK173.out 1).trans rfl, (blk_cell BK161.out 0).trans rfl, (blk_cell BK161.out 1).trans rfl⟩ (fun hHeld => ?_)
          clear hK K
          refine norm_ (a' := ?_) ?_ ?_
          rotate_left
          ·show Act.put _ (some 34) _ = _
           simp only [Act.put, List.setIfInBounds_toArray, List.set_cons_zero, List.set_cons_succ, i64_w, i32_w]
           rfl
          refine one_ (i := 10) (N := some 35) #[true, true, true, true, true, true, true, true, true, true, true, false, false, false, false, false, false, false, false, false, false, false, false, false, false, false, false, false, false, false, false, false, false, false, false, false, false, false, false, false, false, false, false, false, false, false, false, false, false, false, false, false, false, false, false, false] rfl rfl (one_of HT_.out (by kernel_rfl)) (by decide) (fun K hK => ?_)
          refine goes_ Try.func56 (by kernel_rfl) rfl #[.agg #[.bool t168, .slice Ao64 t169.length co64], .agg #[.bool t179, .slice Ao72 t180.length co72]] (by rfl) rfl rfl (by (try simp only [List.map_toArray, List.map_cons, List.map_nil]); first | done | rfl | (simp only [List.length_drop, List.length_take]; rfl)) ?_
          with_reducible refine (foliotlaw02_same.calls kj3 t168 _ _ t169 t179 _ _ t180 true _ ?side1 ?side2 ?side3 ?side4 A32.out).mono ?_
          (case side1 => exact Sq.ca (Kd.R_reads' HO171.out).2.2)
          (case side2 => exact (Kd.R_reads' HO171.out).2.1)
          (case side3 => exact Sq.ca (Kd.R_reads' HO182.out).2.2)
          (case side4 => exact (Kd.R_reads' HO182.out).2.1)
          rintro e w73 ⟨rfl, hb⟩
          refine ⟨_, rfl, ?_⟩
          replace HO167 := Aside0.mk (Kd.R_below (Sq.al HO167) hb)
          replace HO171 := Aside0.mk (Kd.R_below (Sq.al HO171) hb)
          replace HO177 := Aside0.mk (Kd.R_below (Sq.al HO177) hb)
          replace HO182 := Aside0.mk (Kd.R_below (Sq.al HO182) hb)
          replace BK159 := Sq.bb BK159 hb
          replace BK160 := Sq.bb BK160 hb
          replace BK161 := Sq.bb BK161 hb
          replace BK172 := Sq.bb BK172 hb
          replace BK173 := Sq.bb BK173 hb
          replace HB := Sq.bs HB hb
          (try clear hb)
          (try clear hb2)
          (try clear hk)
          (try clear hi)
          refine hK.out _ _ ⟨(blk_cell BK172.out 0).trans rfl, (blk_cell BK172.out 1).trans rfl, (blk_cell BK160.out 0).trans rfl, (blk_cell BK160.out 1).trans rfl, (blk_cell BK159.out 0).trans rfl, (blk_cell BK159.out 1).trans rfl, (blk_cell BK173.out 0).trans rfl, (blk_cell BK173.out 1).trans rfl, (blk_cell BK161.out 0).trans rfl, (blk_cell BK161.out 1).trans rfl⟩ (fun hHeld => ?_)
          clear hK K
          refine norm_ (a' := ?_) ?_ ?_
          rotate_left
          ·show Act.put _ (some 35) _ = _
           simp only [Act.put, List.setIfInBounds_toArray, List.set_cons_zero, List.set_cons_succ, i64_w, i32_w]
           rfl
          refine Sq.pu (v := ?_) (a' := ?_) 11 (some 36) #[true, true, true, true, true, true, true, true, true, true, true, true, false, false, false, false, false, false, false, false, false, false, false, false, false, false, false, false, false, false, false, false, false, false, false, false, false, false, false, false, false, false, false, false, false, false, false, false, false, false, false, false, false, false, false, false] HT_ ?_ ?_ ?_
          rotate_left
          ·intro w'
           go_simp
           with_reducible rfl
          rotate_left
          ·simp only [Act.put, List.setIfInBounds_toArray, List.set_cons_zero, List.set_cons_succ, i64_w, i32_w]
           rfl
          refine Sq.pu (v := ?_) (a' := ?_) 12 (some 37) #[true, true, true, true, true, true, true, true, true, true, true, true, true, false, false, false, false, false, false, false, false, false, false, false, false, false, false, false, false, false, false, false, false, false, false, false, false, false, false, false, false, false, false, false, false, false, false, false, false, false, false, false, false, false, false, false] HT_ ?_ ?_ ?_
          rotate_left
          ·intro w'
           go_simp
           with_reducible rfl
          rotate_left
          ·simp only [Act.put, List.setIfInBounds_toArray, List.set_cons_zero, List.set_cons_succ, i64_w, i32_w]
           rfl
          refine Sq.tk (v := ?_) (a' := ?_) 13 (some 38) #[true, true, true, true, true, true, true, true, true, true, true, true, true, true, false, false, false, false, false, false, false, false, false, false, false, false, false, false, false, false, false, false, false, false, false, false, false, false, false, false, false, false, false, false, false, false, false, false, false, false, false, false, false, false, false, false] HT_ HW_ hHeld ?_ ?_ ?_
          rotate_left
          ·rintro w' ⟨s0, s1, s2, s3, s4, s5, s6, s7, s8, s9⟩
           go_simp
           with_reducible rfl
          rotate_left
          ·simp only [Act.put, List.setIfInBounds_toArray, List.set_cons_zero, List.set_cons_succ, i64_w, i32_w]
           rfl
          refine Sq.tk (v := ?_) (a' := ?_) 14 (some 39) #[true, true, true, true, true, true, true, true, true, true, true, true, true, true, true, false, false, false, false, false, false, false, false, false, false, false, false, false, false, false, false, false, false, false, false, false, false, false, false, false, false, false, false, false, false, false, false, false, false, false, false, false, false, false, false, false] HT_ HW_ hHeld ?_ ?_ ?_
          rotate_left
          ·rintro w' ⟨s0, s1, s2, s3, s4, s5, s6, s7, s8, s9⟩
           go_simp
           with_reducible rfl
          rotate_left
          ·simp only [Act.put, List.setIfInBounds_toArray, List.set_cons_zero, List.set_cons_succ, i64_w, i32_w]
           rfl
          refine Sq.tk (v := ?_) (a' := ?_) 16 (some 41) #[true, true, true, true, true, true, true, true, true, true, true, true, true, true, true, false, true, false, false, false, false, false, false, false, false, false, false, false, false, false, false, false, false, false, false, false, false, false, false, false, false, false, false, false, false, false, false, false, false, false, false, false, false, false, false, false] HT_ HW_ hHeld ?_ ?_ ?_
          rotate_left
          ·rintro w' ⟨s0, s1, s2, s3, s4, s5, s6, s7, s8, s9⟩
           go_simp
           with_reducible rfl
          rotate_left
          ·simp only [Act.put, List.setIfInBounds_toArray, List.set_cons_zero, List.set_cons_succ, i64_w, i32_w]
           rfl
          refine Sq.tk (v := ?_) (a' := ?_) 17 (some 42) #[true, true, true, true, true, true, true, true, true, true, true, true, true, true, true, false, true, true, false, false, false, false, false, false, false, false, false, false, false, false, false, false, false, false, false, false, false, false, false, false, false, false, false, false, false, false, false, false, false, false, false, false, false, false, false, false] HT_ HW_ hHeld ?_ ?_ ?_
          rotate_left
          ·rintro w' ⟨s0, s1, s2, s3, s4, s5, s6, s7, s8, s9⟩
           go_simp
           with_reducible rfl
          rotate_left
          ·simp only [Act.put, List.setIfInBounds_toArray, List.set_cons_zero, List.set_cons_succ, i64_w, i32_w]
           rfl
          refine Sq.tk (v := ?_) (a' := ?_) 19 (some 44) #[true, true, true, true, true, true, true, true, true, true, true, true, true, true, true, false, true, true, false, true, false, false, false, false, false, false, false, false, false, false, false, false, false, false, false, false, false, false, false, false, false, false, false, false, false, false, false, false, false, false, false, false, false, false, false, false] HT_ HW_ hHeld ?_ ?_ ?_
          rotate_left
          ·rintro w' ⟨s0, s1, s2, s3, s4, s5, s6, s7, s8, s9⟩
           go_simp
           with_reducible rfl
          rotate_left
          ·simp only [Act.put, List.setIfInBounds_toArray, List.set_cons_zero, List.set_cons_succ, i64_w, i32_w]
           rfl
          refine Sq.tk (v := ?_) (a' := ?_) 20 (some 45) #[true, true, true, true, true, true, true, true, true, true, true, true, true, true, true, false, true, true, false, true, true, false, false, false, false, false, false, false, false, false, false, false, false, false, false, false, false, false, false, false, false, false, false, false, false, false, false, false, false, false, false, false, false, false, false, false] HT_ HW_ hHeld ?_ ?_ ?_
          rotate_left
          ·rintro w' ⟨s0, s1, s2, s3, s4, s5, s6, s7, s8, s9⟩
           go_simp
           with_reducible rfl
          rotate_left
          ·simp only [Act.put, List.setIfInBounds_toArray, List.set_cons_zero, List.set_cons_succ, i64_w, i32_w]
           rfl
          refine one_ (i := 15) (N := some 40) #[true, true, true, true, true, true, true, true, true, true, true, true, true, true, true, true, true, true, false, true, true, false, false, false, false, false, false, false, false, false, false, false, false, false, false, false, false, false, false, false, false, false, false, false, false, false, false, false, false, false, false, false, false, false, false, false] rfl rfl (one_of HT_.out (by kernel_rfl)) (by decide) (fun K hK => ?_)
          refine goes_ Try.func64 (by kernel_rfl) rfl #[.agg #[.bool t164, .slice Ao61 t165.length co61], .agg #[.bool a2_0, .slice A2_1 l2_1.length c2_1]] (by rfl) rfl rfl (by (try simp only [List.map_toArray, List.map_cons, List.map_nil]); first | done | rfl | (simp only [List.length_drop, List.length_take]; rfl)) ?_
          with_reducible refine (integer_Mul.calls t164 _ _ t165 a2_0 _ _ l2_1 t184 t185 _ ?side1 ?side2 ?side3 ?side4 A34.out).mono ?_
          (case side1 => exact Sq.ca (Kd.R_reads' HO167.out).2.2)
          (case side2 => exact (Kd.R_reads' HO167.out).2.1)
          (case side3 => exact Sq.ca (Kd.C_below HR2_1.out HB.out))
          (case side4 => exact HC2_1.out)
          rintro e w74 ⟨v186, rfl, ho0, hb⟩
          refine ⟨_, rfl, ?_⟩
          have HO187 := Aside0.mk (Kd.R_lower (Kd.R_new' (Kd.R_new' (Kd.R_new' (Kd.R_new' ho0 (Kd.R_lt (Sq.al HO167))) (Kd.R_lt (Sq.al HO171))) (Kd.R_lt (Sq.al HO177))) (Kd.R_lt (Sq.al HO182))) (below_size (Sq.bl HB)))
          replace BK159 := Sq.bb BK159 hb
          replace BK160 := Sq.bb BK160 hb
          replace BK161 := Sq.bb BK161 hb
          replace BK172 := Sq.bb BK172 hb
          replace BK173 := Sq.bb BK173 hb
          replace HO167 := Aside0.mk (Kd.R_elder' (Sq.al HO167) (Kd.R_base ho0) hb)
          replace HO171 := Aside0.mk (Kd.R_elder' (Sq.al HO171) (Kd.R_base ho0) hb)
          replace HO177 := Aside0.mk (Kd.R_elder' (Sq.al HO177) (Kd.R_base ho0) hb)
          replace HO182 := Aside0.mk (Kd.R_elder' (Sq.al HO182) (Kd.R_base ho0) hb)
          replace HB := Sq.bs HB hb
          (try clear hb)
          (try clear hb2)
          (try clear hk)
          (try clear hi)
          (try clear ho0)
          refine hK.out _ _ ⟨(blk_cell BK172.out 0).trans rfl, (blk_cell BK172.out 1).trans rfl, (blk_cell BK160.out 0).trans rfl, (blk_cell BK160.out 1).trans rfl, (blk_cell BK159.out 0).trans rfl, (blk_cell BK159.out 1).trans rfl, (blk_cell BK173.out 0).trans rfl, (blk_cell BK173.out 1).trans rfl, (blk_cell BK161.out 0).trans rfl, (blk_cell BK161.out 1).trans rfl⟩ (fun hHeld => ?_)
          clear hK K
          refine norm_ (a' := ?_) ?_ ?_
          rotate_left
          ·show Act.put _ (some 40) _ = _
           simp only [Act.put, List.setIfInBounds_toArray, List.set_cons_zero, List.set_cons_succ, i64_w, i32_w]
           rfl
          refine one_ (i := 18) (N := some 43) #[true, true, true, true, true, true, true, true, true, true, true, true, true, true, true, true, true, true, true, true, true, false, false, false, false, false, false, false, false, false, false, false, false, false, false, false, false, false, false, false, false, false, false, false, false, false, false, false, false, false, false, false, false, false, false, false] rfl rfl (one_of HT_.out (by kernel_rfl)) (by decide) (fun K hK => ?_)
          refine goes_ Try.func64 (by kernel_rfl) rfl #[.agg #[.bool a0_0, .slice A0_1 l0_1.length c0_1], .agg #[.bool a2_0, .slice A2_1 l2_1.length c2_1]] (by rfl) rfl rfl (by (try simp only [List.map_toArray, List.map_cons, List.map_nil]); first | done | rfl | (simp only [List.length_drop, List.length_take]; rfl)) ?_
          with_reducible refine (integer_Mul.calls a0_0 _ _ l0_1 a2_0 _ _ l2_1 t188 t189 _ ?side1 ?side2 ?side3 ?side4 A35.out).mono ?_
          (case side1 => exact Sq.ca (Kd.C_below HR0_1.out HB.out))
          (case side2 => exact HC0_1.out)
          (case side3 => exact Sq.ca (Kd.C_below HR2_1.out HB.out))
          (case side4 => exact HC2_1.out)
          rintro e w75 ⟨v190, rfl, ho0, hb⟩
          refine ⟨_, rfl, ?_⟩
          have HO191 := Aside0.mk (Kd.R_lower (Kd.R_new' (Kd.R_new' (Kd.R_new' (Kd.R_new' (Kd.R_new' ho0 (Kd.R_lt (Sq.al HO167))) (Kd.R_lt (Sq.al HO171))) (Kd.R_lt (Sq.al HO177))) (Kd.R_lt (Sq.al HO182))) (Kd.R_lt (Sq.al HO187))) (below_size (Sq.bl HB)))
          replace BK159 := Sq.bb BK159 hb
          replace BK160 := Sq.bb BK160 hb
          replace BK161 := Sq.bb BK161 hb
          replace BK172 := Sq.bb BK172 hb
          replace BK173 := Sq.bb BK173 hb
          replace HO167 := Aside0.mk (Kd.R_elder' (Sq.al HO167) (Kd.R_base ho0) hb)
          replace HO171 := Aside0.mk (Kd.R_elder' (Sq.al HO171) (Kd.R_base ho0) hb)
          replace HO177 := Aside0.mk (Kd.R_elder' (Sq.al HO177) (Kd.R_base ho0) hb)
          replace HO182 := Aside0.mk (Kd.R_elder' (Sq.al HO182) (Kd.R_base ho0) hb)
          replace HO187 := Aside0.mk (Kd.R_elder' (Sq.al HO187) (Kd.R_base ho0) hb)
          replace HB := Sq.bs HB hb
          (try clear hb)
          (try clear hb2)
          (try clear hk)
          (try clear hi)
          (try clear ho0)
          refine hK.out _ _ ⟨(blk_cell BK172.out 0).trans rfl, (blk_cell BK172.out 1).trans rfl, (blk_cell BK160.out 0).trans rfl, (blk_cell BK160.out 1).trans rfl, (blk_cell BK159.out 0).trans rfl, (blk_cell BK159.out 1).trans rfl, (blk_cell BK173.out 0).trans rfl, (blk_cell BK173.out 1).trans rfl, (blk_cell BK161.out 0).trans rfl, (blk_cell BK161.out 1).trans rfl⟩ (fun hHeld => ?_)
          clear hK K
          refine norm_ (a' := ?_) ?_ ?_
          rotate_left
          ·show Act.put _ (some 43) _ = _
           simp only [Act.put, List.setIfInBounds_toArray, List.set_cons_zero, List.set_cons_succ, i64_w, i32_w]
           rfl
          refine one_ (i := 21) (N := some 46) #[true, true, true, true, true, true, true, true, true, true, true, true, true, true, true, true, true, true, true, true, true, true, false, false, false, false, false, false, false, false, false, false, false, false, false, false, false, false, false, false, false, false, false, false, false, false, false, false, false, false, false, false, false, false, false, false] rfl rfl (one_of HT_.out (by kernel_rfl)) (by decide) (fun K hK => ?_)
          refine goes_ Try.func64 (by kernel_rfl) rfl #[.agg #[.bool a1_0, .slice A1_1 l1_1.length c1_1], .agg #[.bool a2_0, .slice A2_1 l2_1.length c2_1]] (by rfl) rfl rfl (by (try simp only [List.map_toArray, List.map_cons, List.map_nil]); first | done | rfl | (simp only [List.length_drop, List.length_take]; rfl)) ?_
          with_reducible refine (integer_Mul.calls a1_0 _ _ l1_1 a2_0 _ _ l2_1 t192 t193 _ ?side1 ?side2 ?side3 ?side4 A36.out).mono ?_
          (case side1 => exact Sq.ca (Kd.C_below HR1_1.out HB.out))
          (case side2 => exact HC1_1.out)
          (case side3 => exact Sq.ca (Kd.C_below HR2_1.out HB.out))
          (case side4 => exact HC2_1.out)
          rintro e w76 ⟨v194, rfl, ho0, hb⟩
          refine ⟨_, rfl, ?_⟩
          have HO195 := Aside0.mk (Kd.R_lower (Kd.R_new' (Kd.R_new' (Kd.R_new' (Kd.R_new' (Kd.R_new' (Kd.R_new' ho0 (Kd.R_lt (Sq.al HO167))) (Kd.R_lt (Sq.al HO171))) (Kd.R_lt (Sq.al HO177))) (Kd.R_lt (Sq.al HO182))) (Kd.R_lt (Sq.al HO187))) (Kd.R_lt (Sq.al HO191))) (below_size (Sq.bl HB)))
          replace BK159 := Sq.bb BK159 hb
          replace BK160 := Sq.bb BK160 hb
          replace BK161 := Sq.bb BK161 hb
          replace BK172 := Sq.bb BK172 hb
          replace BK173 := Sq.bb BK173 hb
          replace HO167 := Aside0.mk (Kd.R_elder' (Sq.al HO167) (Kd.R_base ho0) hb)
          replace HO171 := Aside0.mk (Kd.R_elder' (Sq.al HO171) (Kd.R_base ho0) hb)
          replace HO177 := Aside0.mk (Kd.R_elder' (Sq.al HO177) (Kd.R_base ho0) hb)
          replace HO182 := Aside0.mk (Kd.R_elder' (Sq.al HO182) (Kd.R_base ho0) hb)
          replace HO187 := Aside0.mk (Kd.R_elder' (Sq.al HO187) (Kd.R_base ho0) hb)
          replace HO191 := Aside0.mk (Kd.R_elder' (Sq.al HO191) (Kd.R_base ho0) hb)
          replace HB := Sq.bs HB hb
          (try clear hb)
          (try clear hb2)
          (try clear hk)
          (try clear hi)
          (try clear ho0)
          obtain ⟨Ao77, co77, eo77⟩ := Kd.R_slice HO191.out
          (first | subst eo77 | (injection eo77 with f1_ f2_ f3_; have f4_ := f1_.symm; have f5_ := f3_.symm; clear f1_ f2_ f3_; subst f4_; subst f5_))
          obtain ⟨Ao78, co78, eo78⟩ := Kd.R_slice HO195.out
          (first | subst eo78 | (injection eo78 with f1_ f2_ f3_; have f4_ := f1_.symm; have f5_ := f3_.symm; clear f1_ f2_ f3_; subst f4_; subst f5_))
          refine hK.out _ _ ⟨(blk_cell BK172.out 0).trans rfl, (blk_cell BK172.out 1).trans rfl, (blk_cell BK160.out 0).trans rfl, (blk_cell BK160.out 1).trans rfl, (blk_cell BK159.out 0).trans rfl, (blk_cell BK159.out 1).trans rfl, (blk_cell BK173.out 0).trans rfl, (blk_cell BK173.out 1).trans rfl, (blk_cell BK161.out 0).trans rfl, (blk_cell BK161.out 1).trans rfl⟩ (fun hHeld => ?_)
          clear hK K
          refine norm_ (a' := ?_) ?_ ?_
          rotate_left
          ·show Act.put _ (some 46) _ = _
           simp only [Act.put, List.setIfInBounds_toArray, List.set_cons_zero, List.set_cons_succ, i64_w, i32_w]
           rfl
          refine one_ (i := 22) (N := some 47) #[true, true, true, true, true, true, true, true, true, true, true, true, true, true, true, true, true, true, true, true, true, true, true, false, false, false, false, false, false, false, false, false, false, false, false, false, false, false, false, false, false, false, false, false, false, false, false, false, false, false, false, false, false, false, false, false] rfl rfl (one_of HT_.out (by kernel_rfl)) (by decide) (fun K hK => ?_)
          refine goes_ Try.func63 (by kernel_rfl) rfl #[.agg #[.bool t188, .slice Ao77 t189.length co77], .agg #[.bool t192, .slice Ao78 t193.length co78]] (by rfl) rfl rfl (by (try simp only [List.map_toArray, List.map_cons, List.map_nil]); first | done | rfl | (simp only [List.length_drop, List.length_take]; rfl)) ?_
          with_reducible refine (integer_Add.calls t188 _ _ t189 t192 _ _ t193 t196 t197 _ ?side1 ?side2 ?side3 ?side4 A37.out).mono ?_
          (case side1 => exact Sq.ca (Kd.R_reads' HO191.out).2.2)
          (case side2 => exact (Kd.R_reads' HO191.out).2.1)
          (case side3 => exact Sq.ca (Kd.R_reads' HO195.out).2.2)
          (case side4 => exact (Kd.R_reads' HO195.out).2.1)
          rintro e w79 ⟨v198, rfl, ho0, hb⟩
          refine ⟨_, rfl, ?_⟩
          have HO199 := Aside0.mk (Kd.R_lower (Kd.R_new' (Kd.R_new' (Kd.R_new' (Kd.R_new' (Kd.R_new' (Kd.R_new' (Kd.R_new' ho0 (Kd.R_lt (Sq.al HO167))) (Kd.R_lt (Sq.al HO171))) (Kd.R_lt (Sq.al HO177))) (Kd.R_lt (Sq.al HO182))) (Kd.R_lt (Sq.al HO187))) (Kd.R_lt (Sq.al HO191))) (Kd.R_lt (Sq.al HO195))) (below_size (Sq.bl HB)))
          replace BK159 := Sq.bb BK159 hb
          replace BK160 := Sq.bb BK160 hb
          replace BK161 := Sq.bb BK161 hb
          replace BK172 := Sq.bb BK172 hb
          replace BK173 := Sq.bb BK173 hb
          replace HO167 := Aside0.mk (Kd.R_elder' (Sq.al HO167) (Kd.R_base ho0) hb)
          replace HO171 := Aside0.mk (Kd.R_elder' (Sq.al HO171) (Kd.R_base ho0) hb)
          replace HO177 := Aside0.mk (Kd.R_elder' (Sq.al HO177) (Kd.R_base ho0) hb)
          replace HO182 := Aside0.mk (Kd.R_elder' (Sq.al HO182) (Kd.R_base ho0) hb)
          replace HO187 := Aside0.mk (Kd.R_elder' (Sq.al HO187) (Kd.R_base ho0) hb)
          replace HO191 := Aside0.mk (Kd.R_elder' (Sq.al HO191) (Kd.R_base ho0) hb)
          replace HO195 := Aside0.mk (Kd.R_elder' (Sq.al HO195) (Kd.R_base ho0) hb)
          replace HB := Sq.bs HB hb
          (try clear hb)
          (try clear hb2)
          (try clear hk)
          (try clear hi)
          (try clear ho0)
          obtain ⟨Ao80, co80, eo80⟩ := Kd.R_slice HO187.out
          (first | subst eo80 | (injection eo80 with f1_ f2_ f3_; have f4_ := f1_.symm; have f5_ := f3_.symm; clear f1_ f2_ f3_; subst f4_; subst f5_))
          obtain ⟨Ao81, co81, eo81⟩ := Kd.R_slice HO199.out
          (first | subst eo81 | (injection eo81 with f1_ f2_ f3_; have f4_ := f1_.symm; have f5_ := f3_.symm; clear f1_ f2_ f3_; subst f4_; subst f5_))
          refine hK.out _ _ ⟨(blk_cell BK172.out 0).trans rfl, (blk_cell BK172.out 1).trans rfl, (blk_cell BK160.out 0).trans rfl, (blk_cell BK160.out 1).trans rfl, (blk_cell BK159.out 0).trans rfl, (blk_cell BK159.out 1).trans rfl, (blk_cell BK173.out 0).trans rfl, (blk_cell BK173.out 1).trans rfl, (blk_cell BK161.out 0).trans rfl, (blk_cell BK161.out 1).trans rfl⟩ (fun hHeld => ?_)
          clear hK K
          refine norm_ (a' := ?_) ?_ ?_
          rotate_left
          ·show Act.put _ (some 47) _ = _
           simp only [Act.put, List.setIfInBounds_toArray, List.set_cons_zero, List.set_cons_succ, i64_w, i32_w]
           rfl
          refine one_ (i := 23) (N := some 48) #[true, true, true, true, true, true, true, true, true, true, true, true, true, true, true, true, true, true, true, true, true, true, true, true, false, false, false, false, false, false, false, false, false, false, false, false, false, false, false, false, false, false, false, false, false, false, false, false, false, false, false, false, false, false, false, false] rfl rfl (one_of HT_.out (by kernel_rfl)) (by decide) (fun K hK => ?_)
          refine goes_ Try.func56 (by kernel_rfl) rfl #[.agg #[.bool t184, .slice Ao80 t185.length co80], .agg #[.bool t196, .slice Ao81 t197.length co81]] (by rfl) rfl rfl (by (try simp only [List.map_toArray, List.map_cons, List.map_nil]); first | done | rfl | (simp only [List.length_drop, List.length_take]; rfl)) ?_
          with_reducible refine (foliotlaw02_same.calls kj3 t184 _ _ t185 t196 _ _ t197 true _ ?side1 ?side2 ?side3 ?side4 A38.out).mono ?_
          (case side1 => exact Sq.ca (Kd.R_reads' HO187.out).2.2)
          (case side2 => exact (Kd.R_reads' HO187.out).2.1)
          (case side3 => exact Sq.ca (Kd.R_reads' HO199.out).2.2)
          (case side4 => exact (Kd.R_reads' HO199.out).2.1)
          rintro e w82 ⟨rfl, hb⟩
          refine ⟨_, rfl, ?_⟩
          replace HO167 := Aside0.mk (Kd.R_below (Sq.al HO167) hb)
          replace HO171 := Aside0.mk (Kd.R_below (Sq.al HO171) hb)
          replace HO177 := Aside0.mk (Kd.R_below (Sq.al HO177) hb)
          replace HO182 := Aside0.mk (Kd.R_below (Sq.al HO182) hb)
          replace HO187 := Aside0.mk (Kd.R_below (Sq.al HO187) hb)
          replace HO191 := Aside0.mk (Kd.R_below (Sq.al HO191) hb)
          replace HO195 := Aside0.mk (Kd.R_below (Sq.al HO195) hb)
          replace HO199 := Aside0.mk (Kd.R_below (Sq.al HO199) hb)
          replace BK159 := Sq.bb BK159 hb
          replace BK160 := Sq.bb BK160 hb
          replace BK161 := Sq.bb BK161 hb
          replace BK172 := Sq.bb BK172 hb
          replace BK173 := Sq.bb BK173 hb
          replace HB := Sq.bs HB hb
          (try clear hb)
          (try clear hb2)
          (try clear hk)
          (try clear hi)
          refine hK.out _ _ ⟨(blk_cell BK172.out 0).trans rfl, (blk_cell BK172.out 1).trans rfl, (blk_cell BK160.out 0).trans rfl, (blk_cell BK160.out 1).trans rfl, (blk_cell BK159.out 0).trans rfl, (blk_cell BK159.out 1).trans rfl, (blk_cell BK173.out 0).trans rfl, (blk_cell BK173.out 1).trans rfl, (blk_cell BK161.out 0).trans rfl, (blk_cell BK161.out 1).trans rfl⟩ (fun hHeld => ?_)
          clear hK K
          refine norm_ (a' := ?_) ?_ ?_
          rotate_left
          ·show Act.put _ (some 48) _ = _
           simp only [Act.put, List.setIfInBounds_toArray, List.set_cons_zero, List.set_cons_succ, i64_w, i32_w]
           rfl
          refine Sq.pu (v := ?_) (a' := ?_) 24 (some 49) #[true, true, true, true, true, true, true, true, true, true, true, true, true, true, true, true, true, true, true, true, true, true, true, true, true, false, false, false, false, false, false, false, false, false, false, false, false, false, false, false, false, false, false, false, false, false, false, false, false, false, false, false, false, false, false, false] HT_ ?_ ?_ ?_
          rotate_left
          ·intro w'
           go_simp
           with_reducible rfl
          rotate_left
          ·simp only [Act.put, List.setIfInBounds_toArray, List.set_cons_zero, List.set_cons_succ, i64_w, i32_w]
           rfl
          refine Sq.pu (v := ?_) (a' := ?_) 25 (some 50) #[true, true, true, true, true, true, true, true, true, true, true, true, true, true, true, true, true, true, true, true, true, true, true, true, true, true, false, false, false, false, false, false, false, false, false, false, false, false, false, false, false, false, false, false, false, false, false, false, false, false, false, false, false, false, false, false] HT_ ?_ ?_ ?_
          rotate_left
          ·intro w'
           go_simp
           with_reducible rfl
          rotate_left
          ·simp only [Act.put, List.setIfInBounds_toArray, List.set_cons_zero, List.set_cons_succ, i64_w, i32_w]
           rfl
          refine Sq.tk (v := ?_) (a' := ?_) 26 (some 51) #[true, true, true, true, true, true, true, true, true, true, true, true, true, true, true, true, true, true, true, true, true, true, true, true, true, true, true, false, false, false, false, false, false, false, false, false, false, false, false, false, false, false, false, false, false, false, false, false, false, false, false, false, false, false, false, false] HT_ HW_ hHeld ?_ ?_ ?_
          rotate_left
          ·rintro w' ⟨s0, s1, s2, s3, s4, s5, s6, s7, s8, s9⟩
           go_simp
           with_reducible rfl
          rotate_left
          ·simp only [Act.put, List.setIfInBounds_toArray, List.set_cons_zero, List.set_cons_succ, i64_w, i32_w]
           rfl
          refine Sq.tk (v := ?_) (a' := ?_) 27 (some 52) #[true, true, true, true, true, true, true, true, true, true, true, true, true, true, true, true, true, true, true, true, true, true, true, true, true, true, true, true, false, false, false, false, false, false, false, false, false, false, false, false, false, false, false, false, false, false, false, false, false, false, false, false, false, false, false, false] HT_ HW_ hHeld ?_ ?_ ?_
          rotate_left
          ·rintro w' ⟨s0, s1, s2, s3, s4, s5, s6, s7, s8, s9⟩
           go_simp
           with_reducible rfl
          rotate_left
          ·simp only [Act.put, List.setIfInBounds_toArray, List.set_cons_zero, List.set_cons_succ, i64_w, i32_w]
           rfl
          refine Sq.tk (v := ?_) (a' := ?_) 29 (some 54) #[true, true, true, true, true, true, true, true, true, true, true, true, true, true, true, true, true, true, true, true, true, true, true, true, true, true, true, true, false, true, false, false, false, false, false, false, false, false, false, false, false, false, false, false, false, false, false, false, false, false, false, false, false, false, false, false] HT_ HW_ hHeld ?_ ?_ ?_
          rotate_left
          ·rintro w' ⟨s0, s1, s2, s3, s4, s5, s6, s7, s8, s9⟩
           go_simp
           with_reducible rfl
          rotate_left
          ·simp only [Act.put, List.setIfInBounds_toArray, List.set_cons_zero, List.set_cons_succ, i64_w, i32_w]
           rfl
          refine Sq.tk (v := ?_) (a' := ?_) 30 (some 55) #[true, true, true, true, true, true, true, true, true, true, true, true, true, true, true, true, true, true, true, true, true, true, true, true, true, true, true, true, false, true, true, false, false, false, false, false, false, false, false, false, false, false, false, false, false, false, false, false, false, false, false, false, false, false, false, false] HT_ HW_ hHeld ?_ ?_ ?_
          rotate_left
          ·rintro w' ⟨s0, s1, s2, s3, s4, s5, s6, s7, s8, s9⟩
           go_simp
           with_reducible rfl
          rotate_left
          ·simp only [Act.put, List.setIfInBounds_toArray, List.set_cons_zero, List.set_cons_succ, i64_w, i32_w]
           rfl
          refine Sq.tk (v := ?_) (a' := ?_) 31 (some 56) #[true, true, true, true, true, true, true, true, true, true, true, true, true, true, true, true, true, true, true, true, true, true, true, true, true, true, true, true, false, true, true, true, false, false, false, false, false, false, false, false, false, false, false, false, false, false, false, false, false, false, false, false, false, false, false, false] HT_ HW_ hHeld ?_ ?_ ?_
          rotate_left
          ·rintro w' ⟨s0, s1, s2, s3, s4, s5, s6, s7, s8, s9⟩
           go_simp
           with_reducible rfl
          rotate_left
          ·simp only [Act.put, List.setIfInBounds_toArray, List.set_cons_zero, List.set_cons_succ, i64_w, i32_w]
           rfl
          refine one_ (i := 28) (N := some 53) #[true, true, true, true, true, true, true, true, true, true, true, true, true, true, true, true, true, true, true, true, true, true, true, true, true, true, true, true, true, true, true, true, false, false, false, false, false, false, false, false, false, false, false, false, false, false, false, false, false, false, false, false, false, false, false, false] rfl rfl (one_of HT_.out (by kernel_rfl)) (by decide) (fun K hK => ?_)
          refine goes_ Try.func63 (by kernel_rfl) rfl #[.agg #[.bool t164, .slice Ao61 t165.length co61], .agg #[.bool a2_0, .slice A2_1 l2_1.length c2_1]] (by rfl) rfl rfl (by (try simp only [List.map_toArray, List.map_cons, List.map_nil]); first | done | rfl | (simp only [List.length_drop, List.length_take]; rfl)) ?_
          with_reducible refine (integer_Add.calls t164 _ _ t165 a2_0 _ _ l2_1 t201 t202 _ ?side1 ?side2 ?side3 ?side4 A40.out).mono ?_
          (case side1 => exact Sq.ca (Kd.R_reads' HO167.out).2.2)
          (case side2 => exact (Kd.R_reads' HO167.out).2.1)
          (case side3 => exact Sq.ca (Kd.C_below HR2_1.out HB.out))
          (case side4 => exact HC2_1.out)
          rintro e w83 ⟨v203, rfl, ho0, hb⟩
          refine ⟨_, rfl, ?_⟩
          have HO204 := Aside0.mk (Kd.R_lower (Kd.R_new' (Kd.R_new' (Kd.R_new' (Kd.R_new' (Kd.R_new' (Kd.R_new' (Kd.R_new' (Kd.R_new' ho0 (Kd.R_lt (Sq.al HO167))) (Kd.R_lt (Sq.al HO171))) (Kd.R_lt (Sq.al HO177))) (Kd.R_lt (Sq.al HO182))) (Kd.R_lt (Sq.al HO187))) (Kd.R_lt (Sq.al HO191))) (Kd.R_lt (Sq.al HO195))) (Kd.R_lt (Sq.al HO199))) (below_size (Sq.bl HB)))
          replace BK159 := Sq.bb BK159 hb
          replace BK160 := Sq.bb BK160 hb
          replace BK161 := Sq.bb BK161 hb
          replace BK172 := Sq.bb BK172 hb
          replace BK173 := Sq.bb BK173 hb
          replace HO167 := Aside0.mk (Kd.R_elder' (Sq.al HO167) (Kd.R_base ho0) hb)
          replace HO171 := Aside0.mk (Kd.R_elder' (Sq.al HO171) (Kd.R_base ho0) hb)
          replace HO177 := Aside0.mk (Kd.R_elder' (Sq.al HO177) (Kd.R_base ho0) hb)
          replace HO182 := Aside0.mk (Kd.R_elder' (Sq.al HO182) (Kd.R_base ho0) hb)
          replace HO187 := Aside0.mk (Kd.R_elder' (Sq.al HO187) (Kd.R_base ho0) hb)
          replace HO191 := Aside0.mk (Kd.R_elder' (Sq.al HO191) (Kd.R_base ho0) hb)
          replace HO195 := Aside0.mk (Kd.R_elder' (Sq.al HO195) (Kd.R_base ho0) hb)
          replace HO199 := Aside0.mk (Kd.R_elder' (Sq.al HO199) (Kd.R_base ho0) hb)
          replace HB := Sq.bs HB hb
          (try clear hb)
          (try clear hb2)
          (try clear hk)
          (try clear hi)
          (try clear ho0)
          refine hK.out _ _ ⟨(blk_cell BK172.out 0).trans rfl, (blk_cell BK172.out 1).trans rfl, (blk_cell BK160.out 0).trans rfl, (blk_cell BK160.out 1).trans rfl, (blk_cell BK159.out 0).trans rfl, (blk_cell BK159.out 1).trans rfl, (blk_cell BK173.out 0).trans rfl, (blk_cell BK173.out 1).trans rfl, (blk_cell BK161.out 0).trans rfl, (blk_cell BK161.out 1).trans rfl⟩ (fun hHeld => ?_)
          clear hK K
          refine norm_ (a' := ?_) ?_ ?_
          rotate_left
          ·show Act.put _ (some 53) _ = _
           simp only [Act.put, List.setIfInBounds_toArray, List.set_cons_zero, List.set_cons_succ, i64_w, i32_w]
           rfl
          refine one_ (i := 32) (N := some 57) #[true, true, true, true, true, true, true, true, true, true, true, true, true, true, true, true, true, true, true, true, true, true, true, true, true, true, true, true, true, true, true, true, true, false, false, false, false, false, false, false, false, false, false, false, false, false, false, false, false, false, false, false, false, false, false, false] rfl rfl (one_of HT_.out (by kernel_rfl)) (by decide) (fun K hK => ?_)
          refine goes_ Try.func63 (by kernel_rfl) rfl #[.agg #[.bool a1_0, .slice A1_1 l1_1.length c1_1], .agg #[.bool a2_0, .slice A2_1 l2_1.length c2_1]] (by rfl) rfl rfl (by (try simp only [List.map_toArray, List.map_cons, List.map_nil]); first | done | rfl | (simp only [List.length_drop, List.length_take]; rfl)) ?_
          with_reducible refine (integer_Add.calls a1_0 _ _ l1_1 a2_0 _ _ l2_1 t205 t206 _ ?side1 ?side2 ?side3 ?side4 A41.out).mono ?_
          (case side1 => exact Sq.ca (Kd.C_below HR1_1.out HB.out))
          (case side2 => exact HC1_1.out)
          (case side3 => exact Sq.ca (Kd.C_below HR2_1.out HB.out))
          (case side4 => exact HC2_1.out)
          rintro e w84 ⟨v207, rfl, ho0, hb⟩
          refine ⟨_, rfl, ?_⟩
          have HO208 := Aside0.mk (Kd.R_lower (Kd.R_new' (Kd.R_new' (Kd.R_new' (Kd.R_new' (Kd.R_new' (Kd.R_new' (Kd.R_new' (Kd.R_new' (Kd.R_new' ho0 (Kd.R_lt (Sq.al HO167))) (Kd.R_lt (Sq.al HO171))) (Kd.R_lt (Sq.al HO177))) (Kd.R_lt (Sq.al HO182))) (Kd.R_lt (Sq.al HO187))) (Kd.R_lt (Sq.al HO191))) (Kd.R_lt (Sq.al HO195))) (Kd.R_lt (Sq.al HO199))) (Kd.R_lt (Sq.al HO204))) (below_size (Sq.bl HB)))
          replace BK159 := Sq.bb BK159 hb
          replace BK160 := Sq.bb BK160 hb
          replace BK161 := Sq.bb BK161 hb
          replace BK172 := Sq.bb BK172 hb
          replace BK173 := Sq.bb BK173 hb
          replace HO167 := Aside0.mk (Kd.R_elder' (Sq.al HO167) (Kd.R_base ho0) hb)
          replace HO171 := Aside0.mk (Kd.R_elder' (Sq.al HO171) (Kd.R_base ho0) hb)
          replace HO177 := Aside0.mk (Kd.R_elder' (Sq.al HO177) (Kd.R_base ho0) hb)
          replace HO182 := Aside0.mk (Kd.R_elder' (Sq.al HO182) (Kd.R_base ho0) hb)
          replace HO187 := Aside0.mk (Kd.R_elder' (Sq.al HO187) (Kd.R_base ho0) hb)
          replace HO191 := Aside0.mk (Kd.R_elder' (Sq.al HO191) (Kd.R_base ho0) hb)
          replace HO195 := Aside0.mk (Kd.R_elder' (Sq.al HO195) (Kd.R_base ho0) hb)
          replace HO199 := Aside0.mk (Kd.R_elder' (Sq.al HO199) (Kd.R_base ho0) hb)
          replace HO204 := Aside0.mk (Kd.R_elder' (Sq.al HO204) (Kd.R_base ho0) hb)
          replace HB := Sq.bs HB hb
          (try clear hb)
          (try clear hb2)
          (try clear hk)
          (try clear hi)
          (try clear ho0)
          obtain ⟨Ao85, co85, eo85⟩ := Kd.R_slice HO208.out
          (first | subst eo85 | (injection eo85 with f1_ f2_ f3_; have f4_ := f1_.symm; have f5_ := f3_.symm; clear f1_ f2_ f3_; subst f4_; subst f5_))
          refine hK.out _ _ ⟨(blk_cell BK172.out 0).trans rfl, (blk_cell BK172.out 1).trans rfl, (blk_cell BK160.out 0).trans rfl, (blk_cell BK160.out 1).trans rfl, (blk_cell BK159.out 0).trans rfl, (blk_cell BK159.out 1).trans rfl, (blk_cell BK173.out 0).trans rfl, (blk_cell BK173.out 1).trans rfl, (blk_cell BK161.out 0).trans rfl, (blk_cell BK161.out 1).trans rfl⟩ (fun hHeld => ?_)
          clear hK K
          refine norm_ (a' := ?_) ?_ ?_
          rotate_left
          ·show Act.put _ (some 57) _ = _
           simp only [Act.put, List.setIfInBounds_toArray, List.set_cons_zero, List.set_cons_succ, i64_w, i32_w]
           rfl
          refine one_ (i := 33) (N := some 58) #[true, true, true, true, true, true, true, true, true, true, true, true, true, true, true, true, true, true, true, true, true, true, true, true, true, true, true, true, true, true, true, true, true, true, false, false, false, false, false, false, false, false, false, false, false, false, false, false, false, false, false, false, false, false, false, false] rfl rfl (one_of HT_.out (by kernel_rfl)) (by decide) (fun K hK => ?_)
          refine goes_ Try.func63 (by kernel_rfl) rfl #[.agg #[.bool a0_0, .slice A0_1 l0_1.length c0_1], .agg #[.bool t205, .slice Ao85 t206.length co85]] (by rfl) rfl rfl (by (try simp only [List.map_toArray, List.map_cons, List.map_nil]); first | done | rfl | (simp only [List.length_drop, List.length_take]; rfl)) ?_
          with_reducible refine (integer_Add.calls a0_0 _ _ l0_1 t205 _ _ t206 t209 t210 _ ?side1 ?side2 ?side3 ?side4 A42.out).mono ?_
          (case side1 => exact Sq.ca (Kd.C_below HR0_1.out HB.out))
          (case side2 => exact HC0_1.out)
          (case side3 => exact Sq.ca (Kd.R_reads' HO208.out).2.2)
          (case side4 => exact (Kd.R_reads' HO208.out).2.1)
          rintro e w86 ⟨v211, rfl, ho0, hb⟩
          refine ⟨_, rfl, ?_⟩
          have HO212 := Aside0.mk (Kd.R_lower (Kd.R_new' (Kd.R_new' (Kd.R_new' (Kd.R_new' (Kd.R_new' (Kd.R_new' (Kd.R_new' (Kd.R_new' (Kd.R_new' (Kd.R_new' ho0 (Kd.R_lt (Sq.al HO167))) (Kd.R_lt (Sq.al HO171))) (Kd.R_lt (Sq.al HO177))) (Kd.R_lt (Sq.al HO182))) (Kd.R_lt (Sq.al HO187))) (Kd.R_lt (Sq.al HO191))) (Kd.R_lt (Sq.al HO195))) (Kd.R_lt (Sq.al HO199))) (Kd.R_lt (Sq.al HO204))) (Kd.R_lt (Sq.al HO208))) (below_size (Sq.bl HB)))
          replace BK159 := Sq.bb BK159 hb
          replace BK160 := Sq.bb BK160 hb
          replace BK161 := Sq.bb BK161 hb
          replace BK172 := Sq.bb BK172 hb
          replace BK173 := Sq.bb BK173 hb
          replace HO167 := Aside0.mk (Kd.R_elder' (Sq.al HO167) (Kd.R_base ho0) hb)
          replace HO171 := Aside0.mk (Kd.R_elder' (Sq.al HO171) (Kd.R_base ho0) hb)
          replace HO177 := Aside0.mk (Kd.R_elder' (Sq.al HO177) (Kd.R_base ho0) hb)
          replace HO182 := Aside0.mk (Kd.R_elder' (Sq.al HO182) (Kd.R_base ho0) hb)
          replace HO187 := Aside0.mk (Kd.R_elder' (Sq.al HO187) (Kd.R_base ho0) hb)
          replace HO191 := Aside0.mk (Kd.R_elder' (Sq.al HO191) (Kd.R_base ho0) hb)
          replace HO195 := Aside0.mk (Kd.R_elder' (Sq.al HO195) (Kd.R_base ho0) hb)
          replace HO199 := Aside0.mk (Kd.R_elder' (Sq.al HO199) (Kd.R_base ho0) hb)
          replace HO204 := Aside0.mk (Kd.R_elder' (Sq.al HO204) (Kd.R_base ho0) hb)
          replace HO208 := Aside0.mk (Kd.R_elder' (Sq.al HO208) (Kd.R_base ho0) hb)
          replace HB := Sq.bs HB hb
          (try clear hb)
          (try clear hb2)
          (try clear hk)
          (try clear hi)
          (try clear ho0)
          obtain ⟨Ao87, co87, eo87⟩ := Kd.R_slice HO204.out
          (first | subst eo87 | (injection eo87 with f1_ f2_ f3_; have f4_ := f1_.symm; have f5_ := f3_.symm; clear f1_ f2_ f3_; subst f4_; subst f5_))
          obtain ⟨Ao88, co88, eo88⟩ := Kd.R_slice HO212.out
          (first | subst eo88 | (injection eo88 with f1_ f2_ f3_; have f4_ := f1_.symm; have f5_ := f3_.symm; clear f1_ f2_ f3_; subst f4_; subst f5_))
          refine hK.out _ _ ⟨(blk_cell BK172.out 0).trans rfl, (blk_cell BK172.out 1).trans rfl, (blk_cell BK160.out 0).trans rfl, (blk_cell BK160.out 1).trans rfl, (blk_cell BK159.out 0).trans rfl, (blk_cell BK159.out 1).trans rfl, (blk_cell BK173.out 0).trans rfl, (blk_cell BK173.out 1).trans rfl, (blk_cell BK161.out 0).trans rfl, (blk_cell BK161.out 1).trans rfl⟩ (fun hHeld => ?_)
          clear hK K
          refine norm_ (a' := ?_) ?_ ?_
          rotate_left
          ·show Act.put _ (some 58) _ = _
           simp only [Act.put, List.setIfInBounds_toArray, List.set_cons_zero, List.set_cons_succ, i64_w, i32_w]
           rfl
          refine one_ (i := 34) (N := some 59) #[true, true, true, true, true, true, true, true, true, true, true, true, true, true, true, true, true, true, true, true, true, true, true, true, true, true, true, true, true, true, true, true, true, true, true, false, false, false, false, false, false, false, false, false, false, false, false, false, false, false, false, false, false, false, false, false] rfl rfl (one_of HT_.out (by kernel_rfl)) (by decide) (fun K hK => ?_)
          refine goes_ Try.func56 (by kernel_rfl) rfl #[.agg #[.bool t201, .slice Ao87 t202.length co87], .agg #[.bool t209, .slice Ao88 t210.length co88]] (by rfl) rfl rfl (by (try simp only [List.map_toArray, List.map_cons, List.map_nil]); first | done | rfl | (simp only [List.length_drop, List.length_take]; rfl)) ?_
          with_reducible refine (foliotlaw02_same.calls kj3 t201 _ _ t202 t209 _ _ t210 true _ ?side1 ?side2 ?side3 ?side4 A43.out).mono ?_
          (case side1 => exact Sq.ca (Kd.R_reads' HO204.out).2.2)
          (case side2 => exact (Kd.R_reads' HO204.out).2.1)
          (case side3 => exact Sq.ca (Kd.R_reads' HO212.out).2.2)
          (case side4 => exact (Kd.R_reads' HO212.out).2.1)
          rintro e w89 ⟨rfl, hb⟩
          refine ⟨_, rfl, ?_⟩
          replace HO167 := Aside0.mk (Kd.R_below (Sq.al HO167) hb)
          replace HO171 := Aside0.mk (Kd.R_below (Sq.al HO171) hb)
          replace HO177 := Aside0.mk (Kd.R_below (Sq.al HO177) hb)
          replace HO182 := Aside0.mk (Kd.R_below (Sq.al HO182) hb)
          replace HO187 := Aside0.mk (Kd.R_below (Sq.al HO187) hb)
          replace HO191 := Aside0.mk (Kd.R_below (Sq.al HO191) hb)
          replace HO195 := Aside0.mk (Kd.R_below (Sq.al HO195) hb)
          replace HO199 := Aside0.mk (Kd.R_below (Sq.al HO199) hb)
          replace HO204 := Aside0.mk (Kd.R_below (Sq.al HO204) hb)
          replace HO208 := Aside0.mk (Kd.R_below (Sq.al HO208) hb)
          replace HO212 := Aside0.mk (Kd.R_below (Sq.al HO212) hb)
          replace BK159 := Sq.bb BK159 hb
          replace BK160 := Sq.bb BK160 hb
          replace BK161 := Sq.bb BK161 hb
          replace BK172 := Sq.bb BK172 hb
          replace BK173 := Sq.bb BK173 hb
          replace HB := Sq.bs HB hb
          (try clear hb)
          (try clear hb2)
          (try clear hk)
          (try clear hi)
          refine hK.out _ _ ⟨(blk_cell BK172.out 0).trans rfl, (blk_cell BK172.out 1).trans rfl, (blk_cell BK160.out 0).trans rfl, (blk_cell BK160.out 1).trans rfl, (blk_cell BK159.out 0).trans rfl, (blk_cell BK159.out 1).trans rfl, (blk_cell BK173.out 0).trans rfl, (blk_cell BK173.out 1).trans rfl, (blk_cell BK161.out 0).trans rfl, (blk_cell BK161.out 1).trans rfl⟩ (fun hHeld => ?_)
          clear hK K
          refine norm_ (a' := ?_) ?_ ?_
          rotate_left
          ·show Act.put _ (some 59) _ = _
           simp only [Act.put, List.setIfInBounds_toArray, List.set_cons_zero, List.set_cons_succ, i64_w, i32_w]
           rfl
          refine Sq.pu (v := ?_) (a' := ?_) 35 (some 60) #[true, true, true, true, true, true, true, true, true, true, true, true, true, true, true, true, true, true, true, true, true, true, true, true, true, true, true, true, true, true, true, true, true, true, true, true, false, false, false, false, false, false, false, false, false, false, false, false, false, false, false, false, false, false, false, false] HT_ ?_ ?_ ?_
          rotate_left
          ·intro w'
           go_simp
           with_reducible rfl
          rotate_left
          ·simp only [Act.put, List.setIfInBounds_toArray, List.set_cons_zero, List.set_cons_succ, i64_w, i32_w]
           rfl
          refine Sq.pu (v := ?_) (a' := ?_) 36 (some 61) #[true, true, true, true, true, true, true, true, true, true, true, true, true, true, true, true, true, true, true, true, true, true, true, true, true, true, true, true, true, true, true, true, true, true, true, true, true, false, false, false, false, false, false, false, false, false, false, false, false, false, false, false, false, false, false, false] HT_ ?_ ?_ ?_
          rotate_left
          ·intro w'
           go_simp
           with_reducible rfl
          rotate_left
          ·simp only [Act.put, List.setIfInBounds_toArray, List.set_cons_zero, List.set_cons_succ, i64_w, i32_w]
           rfl
          refine Sq.tk (v := ?_) (a' := ?_) 37 (some 62) #[true, true, true, true, true, true, true, true, true, true, true, true, true, true, true, true, true, true, true, true, true, true, true, true, true, true, true, true, true, true, true, true, true, true, true, true, true, true, false, false, false, false, false, false, false, false, false, false, false, false, false, false, false, false, false, false] HT_ HW_ hHeld ?_ ?_ ?_
          rotate_left
          ·rintro w' ⟨s0, s1, s2, s3, s4, s5, s6, s7, s8, s9⟩
           go_simp
           with_reducible rfl
          rotate_left
          ·simp only [Act.put, List.setIfInBounds_toArray, List.set_cons_zero, List.set_cons_succ, i64_w, i32_w]
           rfl
          refine Sq.tk (v := ?_) (a' := ?_) 38 (some 63) #[true, true, true, true, true, true, true, true, true, true, true, true, true, true, true, true, true, true, true, true, true, true, true, true, true, true, true, true, true, true, true, true, true, true, true, true, true, true, true, false, false, false, false, false, false, false, false, false, false, false, false, false, false, false, false, false] HT_ HW_ hHeld ?_ ?_ ?_
          rotate_left
          ·rintro w' ⟨s0, s1, s2, s3, s4, s5, s6, s7, s8, s9⟩
           go_simp
           with_reducible rfl
          rotate_left
          ·simp only [Act.put, List.setIfInBounds_toArray, List.set_cons_zero, List.set_cons_succ, i64_w, i32_w]
           rfl
          refine Sq.tk (v := ?_) (a' := ?_) 40 (some 65) #[true, true, true, true, true, true, true, true, true, true, true, true, true, true, true, true, true, true, true, true, true, true, true, true, true, true, true, true, true, true, true, true, true, true, true, true, true, true, true, false, true, false, false, false, false, false, false, false, false, false, false, false, false, false, false, false] HT_ HW_ hHeld ?_ ?_ ?_
          rotate_left
          ·rintro w' ⟨s0, s1, s2, s3, s4, s5, s6, s7, s8, s9⟩
           go_simp
           with_reducible rfl
          rotate_left
          ·simp only [Act.put, List.setIfInBounds_toArray, List.set_cons_zero, List.set_cons_succ, i64_w, i32_w]
           rfl
          refine one_ (i := 39) (N := some 64) #[true, true, true, true, true, true, true, true, true, true, true, true, true, true, true, true, true, true, true, true, true, true, true, true, true, true, true, true, true, true, true, true, true, true, true, true, true, true, true, true, true, false, false, false, false, false, false, false, false, false, false, false, false, false, false, false] rfl rfl (one_of HT_.out (by kernel_rfl)) (by decide) (fun K hK => ?_)
          refine goes_ Try.func65 (by kernel_rfl) rfl #[.agg #[.bool t164, .slice Ao61 t165.length co61], .agg #[.bool a1_0, .slice A1_1 l1_1.length c1_1]] (by rfl) rfl rfl (by (try simp only [List.map_toArray, List.map_cons, List.map_nil]); first | done | rfl | (simp only [List.length_drop, List.length_take]; rfl)) ?_
          with_reducible refine (integer_Sub.calls t164 _ _ t165 a1_0 _ _ l1_1 t214 t215 _ ?side1 ?side2 ?side3 ?side4 A45.out).mono ?_
          (case side1 => exact Sq.ca (Kd.R_reads' HO167.out).2.2)
          (case side2 => exact (Kd.R_reads' HO167.out).2.1)
          (case side3 => exact Sq.ca (Kd.C_below HR1_1.out HB.out))
          (case side4 => exact HC1_1.out)
          rintro e w90 ⟨v216, rfl, ho0, hb⟩
          refine ⟨_, rfl, ?_⟩
          have HO217 := Aside0.mk (Kd.R_lower (Kd.R_new' (Kd.R_new' (Kd.R_new' (Kd.R_new' (Kd.R_new' (Kd.R_new' (Kd.R_new' (Kd.R_new' (Kd.R_new' (Kd.R_new' (Kd.R_new' ho0 (Kd.R_lt (Sq.al HO167))) (Kd.R_lt (Sq.al HO171))) (Kd.R_lt (Sq.al HO177))) (Kd.R_lt (Sq.al HO182))) (Kd.R_lt (Sq.al HO187))) (Kd.R_lt (Sq.al HO191))) (Kd.R_lt (Sq.al HO195))) (Kd.R_lt (Sq.al HO199))) (Kd.R_lt (Sq.al HO204))) (Kd.R_lt (Sq.al HO208))) (Kd.R_lt (Sq.al HO212))) (below_size (Sq.bl HB)))
          replace BK159 := Sq.bb BK159 hb
          replace BK160 := Sq.bb BK160 hb
          replace BK161 := Sq.bb BK161 hb
          replace BK172 := Sq.bb BK172 hb
          replace BK173 := Sq.bb BK173 hb
          replace HO167 := Aside0.mk (Kd.R_elder' (Sq.al HO167) (Kd.R_base ho0) hb)
          replace HO171 := Aside0.mk (Kd.R_elder' (Sq.al HO171) (Kd.R_base ho0) hb)
          replace HO177 := Aside0.mk (Kd.R_elder' (Sq.al HO177) (Kd.R_base ho0) hb)
          replace HO182 := Aside0.mk (Kd.R_elder' (Sq.al HO182) (Kd.R_base ho0) hb)
          replace HO187 := Aside0.mk (Kd.R_elder' (Sq.al HO187) (Kd.R_base ho0) hb)
          replace HO191 := Aside0.mk (Kd.R_elder' (Sq.al HO191) (Kd.R_base ho0) hb)
          replace HO195 := Aside0.mk (Kd.R_elder' (Sq.al HO195) (Kd.R_base ho0) hb)
          replace HO199 := Aside0.mk (Kd.R_elder' (Sq.al HO199) (Kd.R_base ho0) hb)
          replace HO204 := Aside0.mk (Kd.R_elder' (Sq.al HO204) (Kd.R_base ho0) hb)
          replace HO208 := Aside0.mk (Kd.R_elder' (Sq.al HO208) (Kd.R_base ho0) hb)
          replace HO212 := Aside0.mk (Kd.R_elder' (Sq.al HO212) (Kd.R_base ho0) hb)
          replace HB := Sq.bs HB hb
          (try clear hb)
          (try clear hb2)
          (try clear hk)
          (try clear hi)
          (try clear ho0)
          refine hK.out _ _ ⟨(blk_cell BK172.out 0).trans rfl, (blk_cell BK172.out 1).trans rfl, (blk_cell BK160.out 0).trans rfl, (blk_cell BK160.out 1).trans rfl, (blk_cell BK159.out 0).trans rfl, (blk_cell BK159.out 1).trans rfl, (blk_cell BK173.out 0).trans rfl, (blk_cell BK173.out 1).trans rfl, (blk_cell BK161.out 0).trans rfl, (blk_cell BK161.out 1).trans rfl⟩ (fun hHeld => ?_)
          clear hK K
          refine norm_ (a' := ?_) ?_ ?_
          rotate_left
          ·show Act.put _ (some 64) _ = _
           simp only [Act.put, List.setIfInBounds_toArray, List.set_cons_zero, List.set_cons_succ, i64_w, i32_w]
           rfl
          refine one_ (i := 41) (N := some 66) #[true, true, true, true, true, true, true, true, true, true, true, true, true, true, true, true, true, true, true, true, true, true, true, true, true, true, true, true, true, true, true, true, true, true, true, true, true, true, true, true, true, true, false, false, false, false, false, false, false, false, false, false, false, false, false, false] rfl rfl (one_of HT_.out (by kernel_rfl)) (by decide) (fun K hK => ?_)
          refine goes_ Try.func62 (by kernel_rfl) rfl #[.agg #[.bool a0_0, .slice A0_1 l0_1.length c0_1]] (by rfl) rfl rfl (by (try simp only [List.map_toArray, List.map_cons, List.map_nil]); first | done | rfl | (simp only [List.length_drop, List.length_take]; rfl)) ?_
          with_reducible refine (integer_Norm.calls a0_0 _ _ l0_1 t218 t219 _ ?side1 ?side2 A46.out).mono ?_
          (case side1 => exact Sq.ca (Kd.C_below HR0_1.out HB.out))
          (case side2 => exact HC0_1.out)
          rintro e w91 ⟨v220, rfl, ho0, hb⟩
          refine ⟨_, rfl, ?_⟩
          have HO221 := Aside0.mk (Kd.R_lower (Kd.R_new' (Kd.R_new' (Kd.R_new' (Kd.R_new' (Kd.R_new' (Kd.R_new' (Kd.R_new' (Kd.R_new' (Kd.R_new' (Kd.R_new' (Kd.R_new' (Kd.R_new' ho0 (Kd.R_lt (Sq.al HO167))) (Kd.R_lt (Sq.al HO171))) (Kd.R_lt (Sq.al HO177))) (Kd.R_lt (Sq.al HO182))) (Kd.R_lt (Sq.al HO187))) (Kd.R_lt (Sq.al HO191))) (Kd.R_lt (Sq.al HO195))) (Kd.R_lt (Sq.al HO199))) (Kd.R_lt (Sq.al HO204))) (Kd.R_lt (Sq.al HO208))) (Kd.R_lt (Sq.al HO212))) (Kd.R_lt (Sq.al HO217))) (below_size (Sq.bl HB)))
          replace BK159 := Sq.bb BK159 hb
          replace BK160 := Sq.bb BK160 hb
          replace BK161 := Sq.bb BK161 hb
          replace BK172 := Sq.bb BK172 hb
          replace BK173 := Sq.bb BK173 hb
          replace HO167 := Aside0.mk (Kd.R_elder' (Sq.al HO167) (Kd.R_base ho0) hb)
          replace HO171 := Aside0.mk (Kd.R_elder' (Sq.al HO171) (Kd.R_base ho0) hb)
          replace HO177 := Aside0.mk (Kd.R_elder' (Sq.al HO177) (Kd.R_base ho0) hb)
          replace HO182 := Aside0.mk (Kd.R_elder' (Sq.al HO182) (Kd.R_base ho0) hb)
          replace HO187 := Aside0.mk (Kd.R_elder' (Sq.al HO187) (Kd.R_base ho0) hb)
          replace HO191 := Aside0.mk (Kd.R_elder' (Sq.al HO191) (Kd.R_base ho0) hb)
          replace HO195 := Aside0.mk (Kd.R_elder' (Sq.al HO195) (Kd.R_base ho0) hb)
          replace HO199 := Aside0.mk (Kd.R_elder' (Sq.al HO199) (Kd.R_base ho0) hb)
          replace HO204 := Aside0.mk (Kd.R_elder' (Sq.al HO204) (Kd.R_base ho0) hb)
          replace HO208 := Aside0.mk (Kd.R_elder' (Sq.al HO208) (Kd.R_base ho0) hb)
          replace HO212 := Aside0.mk (Kd.R_elder' (Sq.al HO212) (Kd.R_base ho0) hb)
          replace HO217 := Aside0.mk (Kd.R_elder' (Sq.al HO217) (Kd.R_base ho0) hb)
          replace HB := Sq.bs HB hb
          (try clear hb)
          (try clear hb2)
          (try clear hk)
          (try clear hi)
          (try clear ho0)
          obtain ⟨Ao92, co92, eo92⟩ := Kd.R_slice HO217.out
          (first | subst eo92 | (injection eo92 with f1_ f2_ f3_; have f4_ := f1_.symm; have f5_ := f3_.symm; clear f1_ f2_ f3_; subst f4_; subst f5_))
          obtain ⟨Ao93, co93, eo93⟩ := Kd.R_slice HO221.out
          (first | subst eo93 | (injection eo93 with f1_ f2_ f3_; have f4_ := f1_.symm; have f5_ := f3_.symm; clear f1_ f2_ f3_; subst f4_; subst f5_))
          refine hK.out _ _ ⟨(blk_cell BK172.out 0).trans rfl, (blk_cell BK172.out 1).trans rfl, (blk_cell BK160.out 0).trans rfl, (blk_cell BK160.out 1).trans rfl, (blk_cell BK159.out 0).trans rfl, (blk_cell BK159.out 1).trans rfl, (blk_cell BK173.out 0).trans rfl, (blk_cell BK173.out 1).trans rfl, (blk_cell BK161.out 0).trans rfl, (blk_cell BK161.out 1).trans rfl⟩ (fun hHeld => ?_)
          clear hK K
          refine norm_ (a' := ?_) ?_ ?_
          rotate_left
          ·show Act.put _ (some 66) _ = _
           simp only [Act.put, List.setIfInBounds_toArray, List.set_cons_zero, List.set_cons_succ, i64_w, i32_w]
           rfl
          refine one_ (i := 42) (N := some 67) #[true, true, true, true, true, true, true, true, true, true, true, true, true, true, true, true, true, true, true, true, true, true, true, true, true, true, true, true, true, true, true, true, true, true, true, true, true, true, true, true, true, true, true, false, false, false, false, false, false, false, false, false, false, false, false, false] rfl rfl (one_of HT_.out (by kernel_rfl)) (by decide) (fun K hK => ?_)
          refine goes_ Try.func56 (by kernel_rfl) rfl #[.agg #[.bool t214, .slice Ao92 t215.length co92], .agg #[.bool t218, .slice Ao93 t219.length co93]] (by rfl) rfl rfl (by (try simp only [List.map_toArray, List.map_cons, List.map_nil]); first | done | rfl | (simp only [List.length_drop, List.length_take]; rfl)) ?_
          with_reducible refine (foliotlaw02_same.calls kj3 t214 _ _ t215 t218 _ _ t219 true _ ?side1 ?side2 ?side3 ?side4 A47.out).mono ?_
          (case side1 => exact Sq.ca (Kd.R_reads' HO217.out).2.2)
          (case side2 => exact (Kd.R_reads' HO217.out).2.1)
          (case side3 => exact Sq.ca (Kd.R_reads' HO221.out).2.2)
          (case side4 => exact (Kd.R_reads' HO221.out).2.1)
          rintro e w94 ⟨rfl, hb⟩
          refine ⟨_, rfl, ?_⟩
          replace HO167 := Aside0.mk (Kd.R_below (Sq.al HO167) hb)
          replace HO171 := Aside0.mk (Kd.R_below (Sq.al HO171) hb)
          replace HO177 := Aside0.mk (Kd.R_below (Sq.al HO177) hb)
          replace HO182 := Aside0.mk (Kd.R_below (Sq.al HO182) hb)
          replace HO187 := Aside0.mk (Kd.R_below (Sq.al HO187) hb)
          replace HO191 := Aside0.mk (Kd.R_below (Sq.al HO191) hb)
          replace HO195 := Aside0.mk (Kd.R_below (Sq.al HO195) hb)
          replace HO199 := Aside0.mk (Kd.R_below (Sq.al HO199) hb)
          replace HO204 := Aside0.mk (Kd.R_below (Sq.al HO204) hb)
          replace HO208 := Aside0.mk (Kd.R_below (Sq.al HO208) hb)
          replace HO212 := Aside0.mk (Kd.R_below (Sq.al HO212) hb)
          replace HO217 := Aside0.mk (Kd.R_below (Sq.al HO217) hb)
          replace HO221 := Aside0.mk (Kd.R_below (Sq.al HO221) hb)
          replace BK159 := Sq.bb BK159 hb
          replace BK160 := Sq.bb BK160 hb
          replace BK161 := Sq.bb BK161 hb
          replace BK172 := Sq.bb BK172 hb
          replace BK173 := Sq.bb BK173 hb
          replace HB := Sq.bs HB hb
          (try clear hb)
          (try clear hb2)
          (try clear hk)
          (try clear hi)
          refine hK.out _ _ ⟨(blk_cell BK172.out 0).trans rfl, (blk_cell BK172.out 1).trans rfl, (blk_cell BK160.out 0).trans rfl, (blk_cell BK160.out 1).trans rfl, (blk_cell BK159.out 0).trans rfl, (blk_cell BK159.out 1).trans rfl, (blk_cell BK173.out 0).trans rfl, (blk_cell BK173.out 1).trans rfl, (blk_cell BK161.out 0).trans rfl, (blk_cell BK161.out 1).trans rfl⟩ (fun hHeld => ?_)
          clear hK K
          refine norm_ (a' := ?_) ?_ ?_
          rotate_left
          ·show Act.put _ (some 67) _ = _
           simp only [Act.put, List.setIfInBounds_toArray, List.set_cons_zero, List.set_cons_succ, i64_w, i32_w]
           rfl
          refine Sq.pu (v := ?_) (a' := ?_) 43 (some 68) #[true, true, true, true, true, true, true, true, true, true, true, true, true, true, true, true, true, true, true, true, true, true, true, true, true, true, true, true, true, true, true, true, true, true, true, true, true, true, true, true, true, true, true, true, false, false, false, false, false, false, false, false, false, false, false, false] HT_ ?_ ?_ ?_
          rotate_left
          ·intro w'
           go_simp
           with_reducible rfl
          rotate_left
          ·simp only [Act.put, List.setIfInBounds_toArray, List.set_cons_zero, List.set_cons_succ, i64_w, i32_w]
           rfl
          refine Sq.pu (v := ?_) (a' := ?_) 44 (some 69) #[true, true, true, true, true, true, true, true, true, true, true, true, true, true, true, true, true, true, true, true, true, true, true, true, true, true, true, true, true, true, true, true, true, true, true, true, true, true, true, true, true, true, true, true, true, false, false, false, false, false, false, false, false, false, false, false] HT_ ?_ ?_ ?_
          rotate_left
          ·intro w'
           go_simp
           with_reducible rfl
          rotate_left
          ·simp only [Act.put, List.setIfInBounds_toArray, List.set_cons_zero, List.set_cons_succ, i64_w, i32_w]
           rfl
          refine Sq.tk (v := ?_) (a' := ?_) 45 (some 70) #[true, true, true, true, true, true, true, true, true, true, true, true, true, true, true, true, true, true, true, true, true, true, true, true, true, true, true, true, true, true, true, true, true, true, true, true, true, true, true, true, true, true, true, true, true, true, false, false, false, false, false, false, false, false, false, false] HT_ HW_ hHeld ?_ ?_ ?_
          rotate_left
          ·rintro w' ⟨s0, s1, s2, s3, s4, s5, s6, s7, s8, s9⟩
           go_simp
           with_reducible rfl
          rotate_left
          ·simp only [Act.put, List.setIfInBounds_toArray, List.set_cons_zero, List.set_cons_succ, i64_w, i32_w]
           rfl
          refine Sq.tk (v := ?_) (a' := ?_) 46 (some 71) #[true, true, true, true, true, true, true, true, true, true, true, true, true, true, true, true, true, true, true, true, true, true, true, true, true, true, true, true, true, true, true, true, true, true, true, true, true, true, true, true, true, true, true, true, true, true, true, false, false, false, false, false, false, false, false, false] HT_ HW_ hHeld ?_ ?_ ?_
          rotate_left
          ·rintro w' ⟨s0, s1, s2, s3, s4, s5, s6, s7, s8, s9⟩
           go_simp
           with_reducible rfl
          rotate_left
          ·simp only [Act.put, List.setIfInBounds_toArray, List.set_cons_zero, List.set_cons_succ, i64_w, i32_w]
           rfl
          refine one_ (i := 47) (N := some 72) #[true, true, true, true, true, true, true, true, true, true, true, true, true, true, true, true, true, true, true, true, true, true, true, true, true, true, true, true, true, true, true, true, true, true, true, true, true, true, true, true, true, true, true, true, true, true, true, true, false, false, false, false, false, false, false, false] rfl rfl (one_of HT_.out (by kernel_rfl)) (by decide) (fun K hK => ?_)
          refine goes_ Try.func67 (by kernel_rfl) rfl #[.agg #[.bool a0_0, .slice A0_1 l0_1.length c0_1]] (by rfl) rfl rfl (by (try simp only [List.map_toArray, List.map_cons, List.map_nil]); first | done | rfl | (simp only [List.length_drop, List.length_take]; rfl)) ?_
          with_reducible refine (integer_Neg.calls a0_0 _ _ l0_1 t223 t224 _ ?side1 ?side2 A49.out).mono ?_
          (case side1 => exact Sq.ca (Kd.C_below HR0_1.out HB.out))
          (case side2 => exact HC0_1.out)
          rintro e w95 ⟨v225, rfl, ho0, hb⟩
          refine ⟨_, rfl, ?_⟩
          have HO226 := Aside0.mk (Kd.R_lower (Kd.R_new' (Kd.R_new' (Kd.R_new' (Kd.R_new' (Kd.R_new' (Kd.R_new' (Kd.R_new' (Kd.R_new' (Kd.R_new' (Kd.R_new' (Kd.R_new' (Kd.R_new' (Kd.R_new' ho0 (Kd.R_lt (Sq.al HO167))) (Kd.R_lt (Sq.al HO171))) (Kd.R_lt (Sq.al HO177))) (Kd.R_lt (Sq.al HO182))) (Kd.R_lt (Sq.al HO187))) (Kd.R_lt (Sq.al HO191))) (Kd.R_lt (Sq.al HO195))) (Kd.R_lt (Sq.al HO199))) (Kd.R_lt (Sq.al HO204))) (Kd.R_lt (Sq.al HO208))) (Kd.R_lt (Sq.al HO212))) (Kd.R_lt (Sq.al HO217))) (Kd.R_lt (Sq.al HO221))) (below_size (Sq.bl HB)))
          replace BK159 := Sq.bb BK159 hb
          replace BK160 := Sq.bb BK160 hb
          replace BK161 := Sq.bb BK161 hb
          replace BK172 := Sq.bb BK172 hb
          replace BK173 := Sq.bb BK173 hb
          replace HO167 := Aside0.mk (Kd.R_elder' (Sq.al HO167) (Kd.R_base ho0) hb)
          replace HO171 := Aside0.mk (Kd.R_elder' (Sq.al HO171) (Kd.R_base ho0) hb)
          replace HO177 := Aside0.mk (Kd.R_elder' (Sq.al HO177) (Kd.R_base ho0) hb)
          replace HO182 := Aside0.mk (Kd.R_elder' (Sq.al HO182) (Kd.R_base ho0) hb)
          replace HO187 := Aside0.mk (Kd.R_elder' (Sq.al HO187) (Kd.R_base ho0) hb)
          replace HO191 := Aside0.mk (Kd.R_elder' (Sq.al HO191) (Kd.R_base ho0) hb)
          replace HO195 := Aside0.mk (Kd.R_elder' (Sq.al HO195) (Kd.R_base ho0) hb)
          replace HO199 := Aside0.mk (Kd.R_elder' (Sq.al HO199) (Kd.R_base ho0) hb)
          replace HO204 := Aside0.mk (Kd.R_elder' (Sq.al HO204) (Kd.R_base ho0) hb)
          replace HO208 := Aside0.mk (Kd.R_elder' (Sq.al HO208) (Kd.R_base ho0) hb)
          replace HO212 := Aside0.mk (Kd.R_elder' (Sq.al HO212) (Kd.R_base ho0) hb)
          replace HO217 := Aside0.mk (Kd.R_elder' (Sq.al HO217) (Kd.R_base ho0) hb)
          replace HO221 := Aside0.mk (Kd.R_elder' (Sq.al HO221) (Kd.R_base ho0) hb)
          replace HB := Sq.bs HB hb
          (try clear hb)
          (try clear hb2)
          (try clear hk)
          (try clear hi)
          (try clear ho0)
          obtain ⟨Ao96, co96, eo96⟩ := Kd.R_slice HO226.out
          (first | subst eo96 | (injection eo96 with f1_ f2_ f3_; have f4_ := f1_.symm; have f5_ := f3_.symm; clear f1_ f2_ f3_; subst f4_; subst f5_))
          refine hK.out _ _ ⟨(blk_cell BK172.out 0).trans rfl, (blk_cell BK172.out 1).trans rfl, (blk_cell BK160.out 0).trans rfl, (blk_cell BK160.out 1).trans rfl, (blk_cell BK159.out 0).trans rfl, (blk_cell BK159.out 1).trans rfl, (blk_cell BK173.out 0).trans rfl, (blk_cell BK173.out 1).trans rfl, (blk_cell BK161.out 0).trans rfl, (blk_cell BK161.out 1).trans rfl⟩ (fun hHeld => ?_)
          clear hK K
          refine norm_ (a' := ?_) ?_ ?_
          rotate_left
          ·show Act.put _ (some 72) _ = _
           simp only [Act.put, List.setIfInBounds_toArray, List.set_cons_zero, List.set_cons_succ, i64_w, i32_w]
           rfl
          refine one_ (i := 48) (N := some 73) #[true, true, true, true, true, true, true, true, true, true, true, true, true, true, true, true, true, true, true, true, true, true, true, true, true, true, true, true, true, true, true, true, true, true, true, true, true, true, true, true, true, true, true, true, true, true, true, true, true, false, false, false, false, false, false, false] rfl rfl (one_of HT_.out (by kernel_rfl)) (by decide) (fun K hK => ?_)
          refine goes_ Try.func63 (by kernel_rfl) rfl #[.agg #[.bool a0_0, .slice A0_1 l0_1.length c0_1], .agg #[.bool t223, .slice Ao96 t224.length co96]] (by rfl) rfl rfl (by (try simp only [List.map_toArray, List.map_cons, List.map_nil]); first | done | rfl | (simp only [List.length_drop, List.length_take]; rfl)) ?_
          with_reducible refine (integer_Add.calls a0_0 _ _ l0_1 t223 _ _ t224 t227 t228 _ ?side1 ?side2 ?side3 ?side4 A50.out).mono ?_
          (case side1 => exact Sq.ca (Kd.C_below HR0_1.out HB.out))
          (case side2 => exact HC0_1.out)
          (case side3 => exact Sq.ca (Kd.R_reads' HO226.out).2.2)
          (case side4 => exact (Kd.R_reads' HO226.out).2.1)
          rintro e w97 ⟨v229, rfl, ho0, hb⟩
          refine ⟨_, rfl, ?_⟩
          have HO230 := Aside0.mk (Kd.R_lower (Kd.R_new' (Kd.R_new' (Kd.R_new' (Kd.R_new' (Kd.R_new' (Kd.R_new' (Kd.R_new' (Kd.R_new' (Kd.R_new' (Kd.R_new' (Kd.R_new' (Kd.R_new' (Kd.R_new' (Kd.R_new' ho0 (Kd.R_lt (Sq.al HO167))) (Kd.R_lt (Sq.al HO171))) (Kd.R_lt (Sq.al HO177))) (Kd.R_lt (Sq.al HO182))) (Kd.R_lt (Sq.al HO187))) (Kd.R_lt (Sq.al HO191))) (Kd.R_lt (Sq.al HO195))) (Kd.R_lt (Sq.al HO199))) (Kd.R_lt (Sq.al HO204))) (Kd.R_lt (Sq.al HO208))) (Kd.R_lt (Sq.al HO212))) (Kd.R_lt (Sq.al HO217))) (Kd.R_lt (Sq.al HO221))) (Kd.R_lt (Sq.al HO226))) (below_size (Sq.bl HB)))
          replace BK159 := Sq.bb BK159 hb
          replace BK160 := Sq.bb BK160 hb
          replace BK161 := Sq.bb BK161 hb
          replace BK172 := Sq.bb BK172 hb
          replace BK173 := Sq.bb BK173 hb
          replace HO167 := Aside0.mk (Kd.R_elder' (Sq.al HO167) (Kd.R_base ho0) hb)
          replace HO171 := Aside0.mk (Kd.R_elder' (Sq.al HO171) (Kd.R_base ho0) hb)
          replace HO177 := Aside0.mk (Kd.R_elder' (Sq.al HO177) (Kd.R_base ho0) hb)
          replace HO182 := Aside0.mk (Kd.R_elder' (Sq.al HO182) (Kd.R_base ho0) hb)
          replace HO187 := Aside0.mk (Kd.R_elder' (Sq.al HO187) (Kd.R_base ho0) hb)
          replace HO191 := Aside0.mk (Kd.R_elder' (Sq.al HO191) (Kd.R_base ho0) hb)
          replace HO195 := Aside0.mk (Kd.R_elder' (Sq.al HO195) (Kd.R_base ho0) hb)
          replace HO199 := Aside0.mk (Kd.R_elder' (Sq.al HO199) (Kd.R_base ho0) hb)
          replace HO204 := Aside0.mk (Kd.R_elder' (Sq.al HO204) (Kd.R_base ho0) hb)
          replace HO208 := Aside0.mk (Kd.R_elder' (Sq.al HO208) (Kd.R_base ho0) hb)
          replace HO212 := Aside0.mk (Kd.R_elder' (Sq.al HO212) (Kd.R_base ho0) hb)
          replace HO217 := Aside0.mk (Kd.R_elder' (Sq.al HO217) (Kd.R_base ho0) hb)
          replace HO221 := Aside0.mk (Kd.R_elder' (Sq.al HO221) (Kd.R_base ho0) hb)
          replace HO226 := Aside0.mk (Kd.R_elder' (Sq.al HO226) (Kd.R_base ho0) hb)
          replace HB := Sq.bs HB hb
          (try clear hb)
          (try clear hb2)
          (try clear hk)
          (try clear hi)
          (try clear ho0)
          obtain ⟨Ao98, co98, eo98⟩ := Kd.R_slice HO230.out
          (first | subst eo98 | (injection eo98 with f1_ f2_ f3_; have f4_ := f1_.symm; have f5_ := f3_.symm; clear f1_ f2_ f3_; subst f4_; subst f5_))
          refine hK.out _ _ ⟨(blk_cell BK172.out 0).trans rfl, (blk_cell BK172.out 1).trans rfl, (blk_cell BK160.out 0).trans rfl, (blk_cell BK160.out 1).trans rfl, (blk_cell BK159.out 0).trans rfl, (blk_cell BK159.out 1).trans rfl, (blk_cell BK173.out 0).trans rfl, (blk_cell BK173.out 1).trans rfl, (blk_cell BK161.out 0).trans rfl, (blk_cell BK161.out 1).trans rfl⟩ (fun hHeld => ?_)
          clear hK K
          refine norm_ (a' := ?_) ?_ ?_
          rotate_left
          ·show Act.put _ (some 73) _ = _
           simp only [Act.put, List.setIfInBounds_toArray, List.set_cons_zero, List.set_cons_succ, i64_w, i32_w]
           rfl
          refine one_ (i := 49) (N := some 74) #[true, true, true, true, true, true, true, true, true, true, true, true, true, true, true, true, true, true, true, true, true, true, true, true, true, true, true, true, true, true, true, true, true, true, true, true, true, true, true, true, true, true, true, true, true, true, true, true, true, true, false, false, false, false, false, false] rfl rfl (one_of HT_.out (by kernel_rfl)) (by decide) (fun K hK => ?_)
          refine goes_ Try.func66 (by kernel_rfl) rfl #[.agg #[.bool t227, .slice Ao98 t228.length co98]] (by rfl) rfl rfl (by (try simp only [List.map_toArray, List.map_cons, List.map_nil]); first | done | rfl | (simp only [List.length_drop, List.length_take]; rfl)) ?_
          with_reducible refine (integer_Sign.calls t227 _ _ t228 t231 _ ?side1 ?side2 A51.out).mono ?_
          (case side1 => exact Sq.ca (Kd.R_reads' HO230.out).2.2)
          (case side2 => exact (Kd.R_reads' HO230.out).2.1)
          rintro e w99 ⟨rfl, hb⟩
          refine ⟨_, rfl, ?_⟩
          replace HO167 := Aside0.mk (Kd.R_below (Sq.al HO167) hb)
          replace HO171 := Aside0.mk (Kd.R_below (Sq.al HO171) hb)
          replace HO177 := Aside0.mk (Kd.R_below (Sq.al HO177) hb)
          replace HO182 := Aside0.mk (Kd.R_below (Sq.al HO182) hb)
          replace HO187 := Aside0.mk (Kd.R_below (Sq.al HO187) hb)
          replace HO191 := Aside0.mk (Kd.R_below (Sq.al HO191) hb)
          replace HO195 := Aside0.mk (Kd.R_below (Sq.al HO195) hb)
          replace HO199 := Aside0.mk (Kd.R_below (Sq.al HO199) hb)
          replace HO204 := Aside0.mk (Kd.R_below (Sq.al HO204) hb)
          replace HO208 := Aside0.mk (Kd.R_below (Sq.al HO208) hb)
          replace HO212 := Aside0.mk (Kd.R_below (Sq.al HO212) hb)
          replace HO217 := Aside0.mk (Kd.R_below (Sq.al HO217) hb)
          replace HO221 := Aside0.mk (Kd.R_below (Sq.al HO221) hb)
          replace HO226 := Aside0.mk (Kd.R_below (Sq.al HO226) hb)
          replace HO230 := Aside0.mk (Kd.R_below (Sq.al HO230) hb)
          replace BK159 := Sq.bb BK159 hb
          replace BK160 := Sq.bb BK160 hb
          replace BK161 := Sq.bb BK161 hb
          replace BK172 := Sq.bb BK172 hb
          replace BK173 := Sq.bb BK173 hb
          replace HB := Sq.bs HB hb
          (try clear hb)
          (try clear hb2)
          (try clear hk)
          (try clear hi)
          refine hK.out _ _ ⟨(blk_cell BK172.out 0).trans rfl, (blk_cell BK172.out 1).trans rfl, (blk_cell BK160.out 0).trans rfl, (blk_cell BK160.out 1).trans rfl, (blk_cell BK159.out 0).trans rfl, (blk_cell BK159.out 1).trans rfl, (blk_cell BK173.out 0).trans rfl, (blk_cell BK173.out 1).trans rfl, (blk_cell BK161.out 0).trans rfl, (blk_cell BK161.out 1).trans rfl⟩ (fun hHeld => ?_)
          clear hK K
          refine norm_ (a' := ?_) ?_ ?_
          rotate_left
          ·show Act.put _ (some 74) _ = _
           simp only [Act.put, List.setIfInBounds_toArray, List.set_cons_zero, List.set_cons_succ, i64_w, i32_w]
           rfl
          refine Sq.pu (v := ?_) (a' := ?_) 50 (some 75) #[true, true, true, true, true, true, true, true, true, true, true, true, true, true, true, true, true, true, true, true, true, true, true, true, true, true, true, true, true, true, true, true, true, true, true, true, true, true, true, true, true, true, true, true, true, true, true, true, true, true, true, false, false, false, false, false] HT_ ?_ ?_ ?_
          rotate_left
          ·intro w'
           go_simp
           with_reducible rfl
          rotate_left
          ·simp only [Act.put, List.setIfInBounds_toArray, List.set_cons_zero, List.set_cons_succ, i64_w, i32_w]
           rfl
          refine Sq.pu (v := ?_) (a' := ?_) 51 (some 76) #[true, true, true, true, true, true, true, true, true, true, true, true, true, true, true, true, true, true, true, true, true, true, true, true, true, true, true, true, true, true, true, true, true, true, true, true, true, true, true, true, true, true, true, true, true, true, true, true, true, true, true, true, false, false, false, false] HT_ ?_ ?_ ?_
          rotate_left
          ·intro w'
           go_simp
           with_reducible rfl
          rotate_left
          ·simp only [Act.put, List.setIfInBounds_toArray, List.set_cons_zero, List.set_cons_succ, i64_w, i32_w]
           rfl
          refine Sq.pu (v := ?_) (a' := ?_) 52 (some 77) #[true, true, true, true, true, true, true, true, true, true, true, true, true, true, true, true, true, true, true, true, true, true, true, true, true, true, true, true, true, true, true, true, true, true, true, true, true, true, true, true, true, true, true, true, true, true, true, true, true, true, true, true, true, false, false, false] HT_ ?_ ?_ ?_
          rotate_left
          ·intro w'
           go_simp
           with_reducible rfl
          rotate_left
          ·simp only [Act.put, List.setIfInBounds_toArray, List.set_cons_zero, List.set_cons_succ, i64_w, i32_w]
           rfl
          refine one_ (i := 53) (N := some 78) #[true, true, true, true, true, true, true, true, true, true, true, true, true, true, true, true, true, true, true, true, true, true, true, true, true, true, true, true, true, true, true, true, true, true, true, true, true, true, true, true, true, true, true, true, true, true, true, true, true, true, true, true, true, true, false, false] rfl rfl (one_of HT_.out (by kernel_rfl)) (by decide) (fun K hK => ?_)
          refine goes_ Try.func57 (by kernel_rfl) rfl #[] (by rfl) rfl rfl (by (try simp only [List.map_toArray, List.map_cons, List.map_nil]); first | done | rfl | (simp only [List.length_drop, List.length_take]; rfl)) ?_
          with_reducible refine (foliotlaw02_awake.calls  t232 _ A53.out).mono ?_
          rintro e w100 ⟨rfl, hb⟩
          refine ⟨_, rfl, ?_⟩
          replace HO167 := Aside0.mk (Kd.R_below (Sq.al HO167) hb)
          replace HO171 := Aside0.mk (Kd.R_below (Sq.al HO171) hb)
          replace HO177 := Aside0.mk (Kd.R_below (Sq.al HO177) hb)
          replace HO182 := Aside0.mk (Kd.R_below (Sq.al HO182) hb)
          replace HO187 := Aside0.mk (Kd.R_below (Sq.al HO187) hb)
          replace HO191 := Aside0.mk (Kd.R_below (Sq.al HO191) hb)
          replace HO195 := Aside0.mk (Kd.R_below (Sq.al HO195) hb)
          replace HO199 := Aside0.mk (Kd.R_below (Sq.al HO199) hb)
          replace HO204 := Aside0.mk (Kd.R_below (Sq.al HO204) hb)
          replace HO208 := Aside0.mk (Kd.R_below (Sq.al HO208) hb)
          replace HO212 := Aside0.mk (Kd.R_below (Sq.al HO212) hb)
          replace HO217 := Aside0.mk (Kd.R_below (Sq.al HO217) hb)
          replace HO221 := Aside0.mk (Kd.R_below (Sq.al HO221) hb)
          replace HO226 := Aside0.mk (Kd.R_below (Sq.al HO226) hb)
          replace HO230 := Aside0.mk (Kd.R_below (Sq.al HO230) hb)
          replace BK159 := Sq.bb BK159 hb
          replace BK160 := Sq.bb BK160 hb
          replace BK161 := Sq.bb BK161 hb
          replace BK172 := Sq.bb BK172 hb
          replace BK173 := Sq.bb BK173 hb
          replace HB := Sq.bs HB hb
          (try clear hb)
          (try clear hb2)
          (try clear hk)
          (try clear hi)
          refine hK.out _ _ ⟨(blk_cell BK172.out 0).trans rfl, (blk_cell BK172.out 1).trans rfl, (blk_cell BK160.out 0).trans rfl, (blk_cell BK160.out 1).trans rfl, (blk_cell BK159.out 0).trans rfl, (blk_cell BK159.out 1).trans rfl, (blk_cell BK173.out 0).trans rfl, (blk_cell BK173.out 1).trans rfl, (blk_cell BK161.out 0).trans rfl, (blk_cell BK161.out 1).trans rfl⟩ (fun hHeld => ?_)
          clear hK K
          refine norm_ (a' := ?_) ?_ ?_
          rotate_left
          ·show Act.put _ (some 78) _ = _
           simp only [Act.put, List.setIfInBounds_toArray, List.set_cons_zero, List.set_cons_succ, i64_w, i32_w]
           rfl
          refine Sq.pu (v := ?_) (a' := ?_) 54 (some 79) #[true, true, true, true, true, true, true, true, true, true, true, true, true, true, true, true, true, true, true, true, true, true, true, true, true, true, true, true, true, true, true, true, true, true, true, true, true, true, true, true, true, true, true, true, true, true, true, true, true, true, true, true, true, true, true, false] HT_ ?_ ?_ ?_
          rotate_left
          ·intro w'
           go_simp
           with_reducible rfl
          rotate_left
          ·simp only [Act.put, List.setIfInBounds_toArray, List.set_cons_zero, List.set_cons_succ, i64_w, i32_w]
           rfl
          refine Sq.pu (v := ?_) (a' := ?_) 55 (some 6) #[true, true, true, true, true, true, true, true, true, true, true, true, true, true, true, true, true, true, true, true, true, true, true, true, true, true, true, true, true, true, true, true, true, true, true, true, true, true, true, true, true, true, true, true, true, true, true, true, true, true, true, true, true, true, true, true] HT_ ?_ ?_ ?_
          rotate_left
          ·intro w'
           go_simp
           with_reducible rfl
          rotate_left
          ·simp only [Act.put, List.setIfInBounds_toArray, List.set_cons_zero, List.set_cons_succ, i64_w, i32_w]
           rfl
          refine done_ (done_of HT_.out (by kernel_rfl)) ?_
          try go_wp2
          go_ret
          exact ⟨by first | rfl | (simp [errW_none, errW_some] <;> rfl) | (simp [*, errW_none, errW_some] <;> rfl), Sq.bl HB⟩
         ·rw [if_neg c52] at H
          have c52b0 : (t231 == 0) = false := beq_eq_false_iff_ne.mpr c52
          have c52b1 : (t231 != 0) = true := bne_iff_ne.mpr c52
          exact absurd H (by simp)
        ·replace c48 := Bool.eq_false_iff.mpr c48
         subst c48
         have H1 : (none) = some r := by rw [if_neg (show ¬ (false = true) by decide)] at H; exact H
         clear H
         have H := H1
         clear H1
         exact absurd H (by simp)
       ·replace c44 := Bool.eq_false_iff.mpr c44
        subst c44
        have H1 : (none) = some r := by rw [if_neg (show ¬ (false = true) by decide)] at H; exact H
        clear H
        have H := H1
        clear H1
        exact absurd H (by simp)
      ·replace c39 := Bool.eq_false_iff.mpr c39
       subst c39
       have H1 : (none) = some r := by rw [if_neg (show ¬ (false = true) by decide)] at H; exact H
       clear H
       have H := H1
       clear H1
       exact absurd H (by simp)
     ·replace c33 := Bool.eq_false_iff.mpr c33
      subst c33
      have H1 : (none) = some r := by rw [if_neg (show ¬ (false = true) by decide)] at H; exact H
      clear H
      have H := H1
      clear H1
      exact absurd H (by simp)
    ·replace c30 := Bool.eq_false_iff.mpr c30
     subst c30
     have H1 : (none) = some r := by rw [if_neg (show ¬ (false = true) by decide)] at H; exact H
     clear H
     have H := H1
     clear H1
     exact absurd H (by simp)
end Go.Proofs.Ytaclkccgjpjdjaa.BG
