import Derived.Test.YtaclkccgjpjdjaaQmhihlbmpepBOx0
import Derived.Test.YtaclkccgjpjdjaaQmlkpmmhlemBOx1
import Derived.Test.YtaclkccgjpjdjaaQahfjhkblbeM
namespace Go.Proofs.Ytaclkccgjpjdjaa.BO
open Go.RowKit Go.Proofs.YtaclkccgjpjdjaaW.PrintWords Go.Proofs.YtaclkccgjpjdjaaW.PrintLast Go.Proofs.YtaclkccgjpjdjaaW.PrintMore
attribute [local go_sem] max2_int min2_int max_two min_two max_three min_three max_four min_four   -- for this text's walks alone
set_option linter.unusedVariables false
set_option linter.unusedSimpArgs false
def foliotlaw02_IntegerOrder.j0 : Nat → Bool → Bool → List Int → Bool → List Int → Bool → List Int → Option (Bool)
 | 0, _, _, _, _, _, _, _ => none
 | k + 1, x17, x160000, x160001, x161000, x161001, x162000, x162001 => if x17 = true then (some true) else ((integer_Cmp.f x160000 x160001 x161000 x161001).bind fun t164 => ((integer_Cmp.f x161000 x161001 x160000 x160001).bind fun t165 => (if t165 = (wrap64 (-t164)) then ((integer_Add.f x160000 x160001 x162000 x162001).bind fun bt166 => ((integer_Add.f x161000 x161001 x162000 x162001).bind fun bt170 => ((integer_Cmp.f bt166.1 bt166.2 bt170.1 bt170.2).bind fun t174 => (if t174 = t164 then ((integer_Neg.f x160000 x160001).bind fun bt175 => ((integer_Neg.f x161000 x161001).bind fun bt179 => ((integer_Cmp.f bt175.1 bt175.2 bt179.1 bt179.2).bind fun t183 => (if t183 = (wrap64 (-t164)) then ((integer_Norm.f x160000 x160001).bind fun bt184 => ((integer_Norm.f x161000 x161001).bind fun bt188 => ((foliotlaw02_same.f k bt184.1 bt184.2 bt188.1 bt188.2).bind fun t192 => (if ((t164 == 0) == t192) = true then ((integer_Sub.f x160000 x160001 x161000 x161001).bind fun bt193 => ((integer_Sign.f bt193.1 bt193.2).bind fun t197 => (if t197 = t164 then ((foliotlaw02_awake.f).bind fun t198 => (some t198)) else (none)))) else (none))))) else (none))))) else (none))))) else (none))))
def foliotlaw02_IntegerOrder.f (k : Nat) (a0_0 : Bool) (l0_1 : List Int) (a1_0 : Bool) (l1_1 : List Int) (a2_0 : Bool) (l2_1 : List Int) : Option (Bool) := (foliotlaw02_few.f a0_0 l0_1 a1_0 l1_1).bind fun t162 => (if t162 = true then ((foliotlaw02_few.f a2_0 l2_1 a2_0 l2_1).bind fun t163 => (foliotlaw02_IntegerOrder.j0 k (!t163) a0_0 l0_1 a1_0 l1_1 a2_0 l2_1)) else (foliotlaw02_IntegerOrder.j0 k true a0_0 l0_1 a1_0 l1_1 a2_0 l2_1))
def foliotlaw02_IntegerOrder.T4 : Bool × List (List Nat × List Nat) := (true, [([], []), ([], []), ([0, 1], [0, 1]), ([], []), ([3], [3]), ([2, 4], [2, 4]), ([5, 2], [5]), ([6], [6]), ([6], [6]), ([7, 8, 6, 6], [6, 7, 8]), ([6], [6]), ([6], [6]), ([10, 11, 9, 6], [6, 10, 11]), ([9, 12, 12, 6], [6, 9, 12]), ([6], [6]), ([13, 14, 6], [6, 13, 14]), ([6, 15], [6, 15]), ([16, 13], [16]), ([17], [17]), ([18, 17, 17], [17, 18]), ([17], [17]), ([20, 19, 17], [17, 20]), ([19, 21, 21, 17], [17, 19, 21]), ([17], [17]), ([23, 17], [17, 23]), ([22, 24, 17], [17, 22, 24]), ([17, 25], [17, 25]), ([26, 22], [26]), ([27], [27]), ([28, 27], [27, 28]), ([27], [27]), ([30, 27, 27], [27, 30]), ([27], [27]), ([32, 31, 27], [27, 32]), ([31, 33, 33, 27], [27, 31, 33]), ([29, 34, 27], [27, 29, 34]), ([27, 35], [27, 35]), ([36, 34], [36]), ([37], [37]), ([37], [37]), ([38, 39, 37, 37], [37, 38, 39]), ([40, 40, 37], [37, 40]), ([37], [37]), ([41, 42, 37], [37, 41, 42]), ([37, 43], [37, 43]), ([44, 41], [44]), ([45, 45], [45]), ([45, 46], [45, 46]), ([47, 46, 0, 1, 2, 3, 4, 5, 6, 7, 8, 9, 10, 11, 12, 13, 14, 15, 16, 17, 18, 19, 20, 21, 22, 23, 24, 25, 26, 27, 28, 29, 30, 31, 32, 33, 34, 35, 36, 37, 38, 39, 40, 41, 42, 43, 44, 45, 46, 47], [47])])
def foliotlaw02_IntegerOrder.B4 : List Nat := [0, 0, 3, 0, 8, 31, 63, 127, 127, 511, 127, 127, 4095, 8191, 127, 32767, 65535, 131071, 262143, 524287, 262143, 2097151, 4194303, 262143, 8650751, 33554431, 67108863, 134217727, 268435455, 536870911, 268435455, 1342177279, 268435455, 7784628223, 16374562815, 34359738367, 68719476735, 137438953471, 274877906943, 274877906943, 1099511627775, 2199023255551, 274877906943, 8796093022207, 17592186044415, 35184372088831, 70368744177663, 140737488355327, 281474976710655]
theorem foliotlaw02_IntegerOrder.tab4 : rtab .any (opsOf Try.f15 4) = foliotlaw02_IntegerOrder.T4 := by kernel_rfl
theorem foliotlaw02_IntegerOrder.bits4 : waitsOk foliotlaw02_IntegerOrder.T4.2 foliotlaw02_IntegerOrder.B4 = true := by kernel_rfl
set_option maxHeartbeats 8000000 in
set_option maxRecDepth 100000 in
theorem foliotlaw02_IntegerOrder.calls (k : Nat) (a0_0 : Bool) (A0_1 : Option Addr) (c0_1 : Nat) (l0_1 : List Int) (a1_0 : Bool) (A1_1 : Option Addr) (c1_1 : Nat) (l1_1 : List Int) (a2_0 : Bool) (A2_1 : Option Addr) (c2_1 : Nat) (l2_1 : List Int) (r : Bool) (w : World) (hr0_1 : Kd.C (Kd.int .u32) w A0_1 l0_1.length l0_1) (hc0_1 : l0_1.length ≤ c0_1) (hr1_1 : Kd.C (Kd.int .u32) w A1_1 l1_1.length l1_1) (hc1_1 : l1_1.length ≤ c1_1) (hr2_1 : Kd.C (Kd.int .u32) w A2_1 l2_1.length l2_1) (hc2_1 : l2_1.length ≤ c2_1) (h : foliotlaw02_IntegerOrder.f k a0_0 l0_1 a1_0 l1_1 a2_0 l2_1 = some r) :
  Calls Try.prog 15 #[.agg #[.bool a0_0, .slice A0_1 l0_1.length c0_1], .agg #[.bool a1_0, .slice A1_1 l1_1.length c1_1], .agg #[.bool a2_0, .slice A2_1 l2_1.length c2_1]] w fun e w' => e = .returned (.bool r) ∧ Below w.heap.size w w' := by
 have hu39 := Try.underlying39
 have HR0_1 := Aside0.mk hr0_1
 have HC0_1 := Aside0.mk hc0_1
 clear hr0_1 hc0_1
 have HR1_1 := Aside0.mk hr1_1
 have HC1_1 := Aside0.mk hc1_1
 clear hr1_1 hc1_1
 have HR2_1 := Aside0.mk hr2_1
 have HC2_1 := Aside0.mk hc2_1
 clear hr2_1 hc2_1
 have HB := Aside0.mk (Below.refl w.heap.size w)
 have H : ((foliotlaw02_few.f a0_0 l0_1 a1_0 l1_1).bind fun t162 => (if t162 = true then ((foliotlaw02_few.f a2_0 l2_1 a2_0 l2_1).bind fun t163 => (foliotlaw02_IntegerOrder.j0 k (!t163) a0_0 l0_1 a1_0 l1_1 a2_0 l2_1)) else (foliotlaw02_IntegerOrder.j0 k true a0_0 l0_1 a1_0 l1_1 a2_0 l2_1))) = some r := h
 clear h
 have HC4 := Aside0.mk H
 clear H
 go_enter Try.func15, Try.ntmps15
 go_upto_region 1 with (first | ((with_reducible refine gate_dst (N := 3) rfl ?_); refine box_event ?hg (N := 3) ?hd (cs := #[.bool a0_0, .slice A0_1 l0_1.length c0_1]) (t := 39) ?hr ?_; (case hd => rfl); (case hg => rfl); (case hr => first | (go_simp; done) | (go_simp; rfl)); intro gb159 hg w5 hbox hb; have BK159 := Aside0.mk (hbox); have GW159 := Sq.gw HB hg; have GE159 := Sq.gw HB hg; replace HB := Sq.bs HB hb; clear hb hbox hg) | ((with_reducible refine gate_dst (N := 4) rfl ?_); refine box_event ?hg (N := 4) ?hd (cs := #[.bool a1_0, .slice A1_1 l1_1.length c1_1]) (t := 39) ?hr ?_; (case hd => rfl); (case hg => rfl); (case hr => first | (go_simp; done) | (go_simp; rfl)); intro gb160 hg w6 hbox hb; have BK160 := Aside0.mk (hbox); have GW160 := Sq.gw HB hg; have GE160 := Sq.gw HB hg; have NB159_160 := Sq.nl BK159 hg; have NB160_159 := Sq.ng BK159 hg; replace BK159 := Sq.bb BK159 hb; replace HB := Sq.bs HB hb; clear hb hbox hg) | ((with_reducible refine gate_dst (N := 5) rfl ?_); refine box_event ?hg (N := 5) ?hd (cs := #[.bool a2_0, .slice A2_1 l2_1.length c2_1]) (t := 39) ?hr ?_; (case hd => rfl); (case hg => rfl); (case hr => first | (go_simp; done) | (go_simp; rfl)); intro gb161 hg w7 hbox hb; have BK161 := Aside0.mk (hbox); have GW161 := Sq.gw HB hg; have GE161 := Sq.gw HB hg; have NB159_161 := Sq.nl BK159 hg; have NB161_159 := Sq.ng BK159 hg; have NB160_161 := Sq.nl BK160 hg; have NB161_160 := Sq.ng BK160 hg; replace BK159 := Sq.bb BK159 hb; replace BK160 := Sq.bb BK160 hb; replace HB := Sq.bs HB hb; clear hb hbox hg))
 (try simp only [Act.put, List.setIfInBounds_toArray, List.set_cons_zero, List.set_cons_succ])
 go_cut [17] (fun v17 wc => ∃ (kq : Nat) (x17_3 : Bool), v17 = .bool x17_3 ∧ Aside0 (foliotlaw02_IntegerOrder.j0 kq x17_3 a0_0 l0_1 a1_0 l1_1 a2_0 l2_1 = some r) ∧ Aside0 (kq ≤ k) ∧ Aside0 (wc.heap[gb159]? = some (.cells #[.bool a0_0, (.slice A0_1 l0_1.length c0_1)] 39 (0, 0))) ∧ Aside0 (wc.heap[gb160]? = some (.cells #[.bool a1_0, (.slice A1_1 l1_1.length c1_1)] 39 (0, 0))) ∧ Aside0 (wc.heap[gb161]? = some (.cells #[.bool a2_0, (.slice A2_1 l2_1.length c2_1)] 39 (0, 0))) ∧ Aside0 (Below w.heap.size w wc))
 case first =>
  have H := HC4.out
  clear HC4
  replace H := Sq.bd H
  obtain ⟨t162, A8, H⟩ := H
  (try dsimp -simprocs only at H)
  by_cases c9 : t162 = true
  ·subst c9
   have H1 : ((foliotlaw02_few.f a2_0 l2_1 a2_0 l2_1).bind fun t163 => (foliotlaw02_IntegerOrder.j0 k (!t163) a0_0 l0_1 a1_0 l1_1 a2_0 l2_1)) = some r := by rw [if_pos rfl] at H; exact H
   clear H
   have H := H1
   clear H1
   replace H := Sq.bd H
   obtain ⟨t163, A10, H⟩ := H
   (try dsimp -simprocs only at H)
   have H' := Aside0.mk H
   clear H
   have hnb11 := NB159_160.out
   have hnc11 := NB160_159.out
   have hnb12 := NB159_161.out
   have hnc12 := NB161_159.out
   have hcz13_0 := Sq.bc BK159 0 (.bool a0_0)
   have hcz13_1 := Sq.bc BK159 1 (.slice A0_1 l0_1.length c0_1)
   have hfz13_0 := blk_frozen BK159.out 0
   have hfz13_1 := blk_frozen BK159.out 1
   have hnb14 := NB160_161.out
   have hnc14 := NB161_160.out
   have hcz15_0 := Sq.bc BK160 0 (.bool a1_0)
   have hcz15_1 := Sq.bc BK160 1 (.slice A1_1 l1_1.length c1_1)
   have hfz15_0 := blk_frozen BK160.out 0
   have hfz15_1 := blk_frozen BK160.out 1
   go_wp2_with (first | ((with_reducible refine gate_callee (f := 53) rfl ?_); refine Sq.gl (some 10) Try.func53 #[.agg #[.bool a0_0, .slice A0_1 l0_1.length c0_1], .agg #[.bool a1_0, .slice A1_1 l1_1.length c1_1]] ?_; (with_reducible refine (foliotlaw02_few.calls a0_0 _ _ l0_1 a1_0 _ _ l1_1 true _ ?side1 ?side2 ?side3 ?side4 A8.out).mono ?_); (case side1 => exact Sq.ca (Kd.C_below HR0_1.out HB.out)); (case side2 => exact HC0_1.out); (case side3 => exact Sq.ca (Kd.C_below HR1_1.out HB.out)); (case side4 => exact HC1_1.out); rintro e w16 ⟨rfl, hb⟩; refine ⟨_, rfl, ?_⟩; replace BK159 := Sq.bb BK159 hb; replace BK160 := Sq.bb BK160 hb; replace BK161 := Sq.bb BK161 hb; replace HB := Sq.bs HB hb; (try clear hb); (try clear hb2); (try clear hk); (try clear hi); have hcz17_0 := Sq.bc BK161 0 (.bool a2_0); have hcz17_1 := Sq.bc BK161 1 (.slice A2_1 l2_1.length c2_1); have hfz17_0 := blk_frozen BK161.out 0; have hfz17_1 := blk_frozen BK161.out 1) | (go_at_call 53; (with_reducible refine (foliotlaw02_few.calls a2_0 _ _ l2_1 a2_0 _ _ l2_1 t163 _ ?side1 ?side2 ?side3 ?side4 A10.out).mono ?_); (case side1 => exact Sq.ca (Kd.C_below HR2_1.out HB.out)); (case side2 => exact HC2_1.out); (case side3 => exact Sq.ca (Kd.C_below HR2_1.out HB.out)); (case side4 => exact HC2_1.out); rintro e w18 ⟨rfl, hb⟩; replace BK159 := Sq.bb BK159 hb; replace BK160 := Sq.bb BK160 hb; replace BK161 := Sq.bb BK161 hb; replace HB := Sq.bs HB hb; (try clear hb); (try clear hb2); (try clear hk); (try clear hi)))
   go_meet
   case rel => exact ⟨_, (!t163), (by first | rfl | (simp; done) | (simp [*]; done)), H', ⟨by first | omega | exact Nat.le_refl _⟩, ⟨by (with_reducible repeat (first | refine blk_drewN ?_ _ | refine blk_drew ?_ | refine blk_alloc ?_ _)); exact BK159.out⟩, ⟨by (with_reducible repeat (first | refine blk_drewN ?_ _ | refine blk_drew ?_ | refine blk_alloc ?_ _)); exact BK160.out⟩, ⟨by (with_reducible repeat (first | refine blk_drewN ?_ _ | refine blk_drew ?_ | refine blk_alloc ?_ _)); exact BK161.out⟩, ⟨Sq.bl HB⟩⟩
  ·replace c9 := Bool.eq_false_iff.mpr c9
   subst c9
   have H1 : (foliotlaw02_IntegerOrder.j0 k true a0_0 l0_1 a1_0 l1_1 a2_0 l2_1) = some r := by rw [if_neg (show ¬ (false = true) by decide)] at H; exact H
   clear H
   have H := H1
   clear H1
   have H' := Aside0.mk H
   clear H
   have hnb19 := NB159_160.out
   have hnc19 := NB160_159.out
   have hnb20 := NB159_161.out
   have hnc20 := NB161_159.out
   have hcz21_0 := Sq.bc BK159 0 (.bool a0_0)
   have hcz21_1 := Sq.bc BK159 1 (.slice A0_1 l0_1.length c0_1)
   have hfz21_0 := blk_frozen BK159.out 0
   have hfz21_1 := blk_frozen BK159.out 1
   have hnb22 := NB160_161.out
   have hnc22 := NB161_160.out
   have hcz23_0 := Sq.bc BK160 0 (.bool a1_0)
   have hcz23_1 := Sq.bc BK160 1 (.slice A1_1 l1_1.length c1_1)
   have hfz23_0 := blk_frozen BK160.out 0
   have hfz23_1 := blk_frozen BK160.out 1
   go_wp2_with (first | ((with_reducible refine gate_callee (f := 53) rfl ?_); refine Sq.gl (some 10) Try.func53 #[.agg #[.bool a0_0, .slice A0_1 l0_1.length c0_1], .agg #[.bool a1_0, .slice A1_1 l1_1.length c1_1]] ?_; (with_reducible refine (foliotlaw02_few.calls a0_0 _ _ l0_1 a1_0 _ _ l1_1 false _ ?side1 ?side2 ?side3 ?side4 A8.out).mono ?_); (case side1 => exact Sq.ca (Kd.C_below HR0_1.out HB.out)); (case side2 => exact HC0_1.out); (case side3 => exact Sq.ca (Kd.C_below HR1_1.out HB.out)); (case side4 => exact HC1_1.out); rintro e w24 ⟨rfl, hb⟩; refine ⟨_, rfl, ?_⟩; replace BK159 := Sq.bb BK159 hb; replace BK160 := Sq.bb BK160 hb; replace BK161 := Sq.bb BK161 hb; replace HB := Sq.bs HB hb; (try clear hb); (try clear hb2); (try clear hk); (try clear hi)))
   go_meet
   case rel => exact ⟨_, (true), (by first | rfl | (simp; done) | (simp [*]; done)), H', ⟨by first | omega | exact Nat.le_refl _⟩, ⟨by (with_reducible repeat (first | refine blk_drewN ?_ _ | refine blk_drew ?_ | refine blk_alloc ?_ _)); exact BK159.out⟩, ⟨by (with_reducible repeat (first | refine blk_drewN ?_ _ | refine blk_drew ?_ | refine blk_alloc ?_ _)); exact BK160.out⟩, ⟨by (with_reducible repeat (first | refine blk_drewN ?_ _ | refine blk_drew ?_ | refine blk_alloc ?_ _)); exact BK161.out⟩, ⟨Sq.bl HB⟩⟩
 case rest =>
  clear HC4
  try clear c1
  try clear c2
  try clear p2
  try clear c5
  try clear c9
  try clear c11
  try clear c12
  try clear c14
  try clear c15
  try clear c19
  try clear c20
  try clear c22
  try clear hcz13_0
  try clear hcz13_1
  try clear hcz15_0
  try clear hcz15_1
  try clear hcz17_0
  try clear hcz17_1
  try clear hcz21_0
  try clear hcz21_1
  try clear hcz23_0
  try clear hcz23_1
  try clear hfz13_0
  try clear hfz13_1
  try clear hfz15_0
  try clear hfz15_1
  try clear hfz17_0
  try clear hfz17_1
  try clear hfz21_0
  try clear hfz21_1
  try clear hfz23_0
  try clear hfz23_1
  obtain ⟨kq, x17_3, rfl, HA, HJ3, BK159, BK160, BK161, HB⟩ := hcut
  cases kq with
  | zero => exact absurd HA.out (by simp [foliotlaw02_IntegerOrder.j0])
  | succ kj3 =>
   have H := HA.out
   clear HA
   simp only [foliotlaw02_IntegerOrder.j0] at H
   by_cases c25 : x17_3 = true
   ·subst c25
    have H1 : (some true) = some r := by rw [if_pos rfl] at H; exact H
    clear H
    have H := H1
    clear H1
    obtain rfl := Option.some.inj H
    go_wp2
    go_ret
    exact ⟨by first | rfl | (simp [errW_none, errW_some] <;> rfl) | (simp [*, errW_none, errW_some] <;> rfl), Sq.bl HB⟩
   ·replace c25 := Bool.eq_false_iff.mpr c25
    subst c25
    have H1 : ((integer_Cmp.f a0_0 l0_1 a1_0 l1_1).bind fun t164 => ((integer_Cmp.f a1_0 l1_1 a0_0 l0_1).bind fun t165 => (if t165 = (wrap64 (-t164)) then ((integer_Add.f a0_0 l0_1 a2_0 l2_1).bind fun bt166 => ((integer_Add.f a1_0 l1_1 a2_0 l2_1).bind fun bt170 => ((integer_Cmp.f bt166.1 bt166.2 bt170.1 bt170.2).bind fun t174 => (if t174 = t164 then ((integer_Neg.f a0_0 l0_1).bind fun bt175 => ((integer_Neg.f a1_0 l1_1).bind fun bt179 => ((integer_Cmp.f bt175.1 bt175.2 bt179.1 bt179.2).bind fun t183 => (if t183 = (wrap64 (-t164)) then ((integer_Norm.f a0_0 l0_1).bind fun bt184 => ((integer_Norm.f a1_0 l1_1).bind fun bt188 => ((foliotlaw02_same.f kj3 bt184.1 bt184.2 bt188.1 bt188.2).bind fun t192 => (if ((t164 == 0) == t192) = true then ((integer_Sub.f a0_0 l0_1 a1_0 l1_1).bind fun bt193 => ((integer_Sign.f bt193.1 bt193.2).bind fun t197 => (if t197 = t164 then ((foliotlaw02_awake.f).bind fun t198 => (some t198)) else (none)))) else (none))))) else (none))))) else (none))))) else (none)))) = some r := by rw [if_neg (show ¬ (false = true) by decide)] at H; exact H
    clear H
    have H := H1
    clear H1
    replace H := Sq.bd H
    obtain ⟨t164, A26, H⟩ := H
    (try dsimp -simprocs only at H)
    replace H := Sq.bd H
    obtain ⟨t165, A27, H⟩ := H
    (try dsimp -simprocs only at H)
    by_cases c28 : t165 = (wrap64 (-t164))
    ·rw [if_pos c28] at H
     have c28b0 : (t165 == (wrap64 (-t164))) = true := beq_iff_eq.mpr c28
     have c28b1 : (t165 != (wrap64 (-t164))) = false := bne_eq_false_iff_eq.mpr c28
     clear c28
     replace H := Sq.bd H
     obtain ⟨⟨t166, t167⟩, A29, H⟩ := H
     (try dsimp -simprocs only at H)
     replace H := Sq.bd H
     obtain ⟨⟨t170, t171⟩, A30, H⟩ := H
     (try dsimp -simprocs only at H)
     replace H := Sq.bd H
     obtain ⟨t174, A31, H⟩ := H
     (try dsimp -simprocs only at H)
     by_cases c32 : t174 = t164
     ·rw [if_pos c32] at H
      have c32b0 : (t174 == t164) = true := beq_iff_eq.mpr c32
      have c32b1 : (t174 != t164) = false := bne_eq_false_iff_eq.mpr c32
      clear c32
      replace H := Sq.bd H
      obtain ⟨⟨t175, t176⟩, A33, H⟩ := H
      (try dsimp -simprocs only at H)
      replace H := Sq.bd H
      obtain ⟨⟨t179, t180⟩, A34, H⟩ := H
      (try dsimp -simprocs only at H)
      replace H := Sq.bd H
      obtain ⟨t183, A35, H⟩ := H
      (try dsimp -simprocs only at H)
      by_cases c36 : t183 = (wrap64 (-t164))
      ·rw [if_pos c36] at H
       have c36b0 : (t183 == (wrap64 (-t164))) = true := beq_iff_eq.mpr c36
       have c36b1 : (t183 != (wrap64 (-t164))) = false := bne_eq_false_iff_eq.mpr c36
       clear c36
       replace H := Sq.bd H
       obtain ⟨⟨t184, t185⟩, A37, H⟩ := H
       (try dsimp -simprocs only at H)
       replace H := Sq.bd H
       obtain ⟨⟨t188, t189⟩, A38, H⟩ := H
       (try dsimp -simprocs only at H)
       replace H := Sq.bd H
       obtain ⟨t192, A39, H⟩ := H
       (try dsimp -simprocs only at H)
       by_cases c40 : ((t164 == 0) == t192) = true
       ·rw [if_pos c40] at H
        have c40b0 : ((t164 == 0) == t192) = true := c40
        (try (have c40b1 : decide ((t164 == 0) = t192) = true := by simpa using c40))
        (try (have c40b2 : ((t164 == 0) == t192) = true := by simpa using c40))
        clear c40
        replace H := Sq.bd H
        obtain ⟨⟨t193, t194⟩, A41, H⟩ := H
        (try dsimp -simprocs only at H)
        replace H := Sq.bd H
        obtain ⟨t197, A42, H⟩ := H
        (try dsimp -simprocs only at H)
        by_cases c43 : t197 = t164
        ·rw [if_pos c43] at H
         have c43b0 : (t197 == t164) = true := beq_iff_eq.mpr c43
         have c43b1 : (t197 != t164) = false := bne_eq_false_iff_eq.mpr c43
         clear c43
         replace H := Sq.bd H
         obtain ⟨t198, A44, H⟩ := H
         (try dsimp -simprocs only at H)
         obtain rfl := Option.some.inj H
         have hnb45 := NB159_160.out
         have hnc45 := NB160_159.out
         have hnb46 := NB159_161.out
         have hnc46 := NB161_159.out
         have hcz47_0 := Sq.bc BK159 0 (.bool a0_0)
         have hcz47_1 := Sq.bc BK159 1 (.slice A0_1 l0_1.length c0_1)
         have hfz47_0 := blk_frozen BK159.out 0
         have hfz47_1 := blk_frozen BK159.out 1
         have hnb48 := NB160_161.out
         have hnc48 := NB161_160.out
         have hcz49_0 := Sq.bc BK160 0 (.bool a1_0)
         have hcz49_1 := Sq.bc BK160 1 (.slice A1_1 l1_1.length c1_1)
         have hfz49_0 := blk_frozen BK160.out 0
         have hfz49_1 := blk_frozen BK160.out 1
         try go_wp2_with (first | ((with_reducible refine gate_callee (f := 72) rfl ?_); refine Sq.gl (some 20) Try.func72 #[.agg #[.bool a0_0, .slice A0_1 l0_1.length c0_1], .agg #[.bool a1_0, .slice A1_1 l1_1.length c1_1]] ?_; (with_reducible refine (integer_Cmp.calls a0_0 _ _ l0_1 a1_0 _ _ l1_1 t164 _ ?side1 ?side2 ?side3 ?side4 A26.out).mono ?_); (case side1 => exact Sq.ca (Kd.C_below HR0_1.out HB.out)); (case side2 => exact HC0_1.out); (case side3 => exact Sq.ca (Kd.C_below HR1_1.out HB.out)); (case side4 => exact HC1_1.out); rintro e w50 ⟨rfl, hb⟩; refine ⟨_, rfl, ?_⟩; replace BK159 := Sq.bb BK159 hb; replace BK160 := Sq.bb BK160 hb; replace BK161 := Sq.bb BK161 hb; replace HB := Sq.bs HB hb; (try clear hb); (try clear hb2); (try clear hk); (try clear hi)))
         replace BK159 := Aside0.mk (blk_drew BK159.out)
         replace BK160 := Aside0.mk (blk_drew BK160.out)
         replace BK161 := Aside0.mk (blk_drew BK161.out)
         replace HB := Aside0.mk (below_drew1 HB.out)
         refine start_ (n := 49) (S := fun w' => w'.cell? ⟨gb160, 0, none⟩ = some (.bool a1_0) ∧ w'.cell? ⟨gb160, 1, none⟩ = some (.slice A1_1 l1_1.length c1_1) ∧ w'.cell? ⟨gb159, 0, none⟩ = some (.bool a0_0) ∧ w'.cell? ⟨gb159, 1, none⟩ = some (.slice A0_1 l0_1.length c0_1) ∧ w'.cell? ⟨gb161, 0, none⟩ = some (.bool a2_0) ∧ w'.cell? ⟨gb161, 1, none⟩ = some (.slice A2_1 l2_1.length c2_1)) (ds := []) #[false, false, false, false, false, false, false, false, false, false, false, false, false, false, false, false, false, false, false, false, false, false, false, false, false, false, false, false, false, false, false, false, false, false, false, false, false, false, false, false, false, false, false, false, false, false, false, false, false] (by kernel_rfl) rfl rfl ⟨(blk_cell BK160.out 0).trans rfl, (blk_cell BK160.out 1).trans rfl, (blk_cell BK159.out 0).trans rfl, (blk_cell BK159.out 1).trans rfl, (blk_cell BK161.out 0).trans rfl, (blk_cell BK161.out 1).trans rfl⟩ (fun hHeld => ?_); refine with_tabW foliotlaw02_IntegerOrder.tab4 foliotlaw02_IntegerOrder.bits4 (fun HT_ HW_ => ?_)
         generalize w50.drew = w51 at BK159 BK160 BK161 HB hHeld ⊢
         refine Sq.pu (v := ?_) (a' := ?_) 3 (some 24) #[false, false, false, true, false, false, false, false, false, false, false, false, false, false, false, false, false, false, false, false, false, false, false, false, false, false, false, false, false, false, false, false, false, false, false, false, false, false, false, false, false, false, false, false, false, false, false, false, false] HT_ ?_ ?_ ?_
         rotate_left
         ·intro w'
          go_simp
          with_reducible rfl
         rotate_left
         ·simp only [Act.put, List.setIfInBounds_toArray, List.set_cons_zero, List.set_cons_succ, i64_w, i32_w]
          rfl
         refine Sq.pu (v := ?_) (a' := ?_) 4 (some 25) #[false, false, false, true, true, false, false, false, false, false, false, false, false, false, false, false, false, false, false, false, false, false, false, false, false, false, false, false, false, false, false, false, false, false, false, false, false, false, false, false, false, false, false, false, false, false, false, false, false] HT_ ?_ ?_ ?_
         rotate_left
         ·intro w'
          go_simp
          with_reducible rfl
         rotate_left
         ·simp only [Act.put, List.setIfInBounds_toArray, List.set_cons_zero, List.set_cons_succ, i64_w, i32_w]
          rfl
         refine Sq.tk (v := ?_) (a' := ?_) 0 (some 21) #[true, false, false, true, true, false, false, false, false, false, false, false, false, false, false, false, false, false, false, false, false, false, false, false, false, false, false, false, false, false, false, false, false, false, false, false, false, false, false, false, false, false, false, false, false, false, false, false, false] HT_ HW_ hHeld ?_ ?_ ?_
         rotate_left
         ·rintro w' ⟨s0, s1, s2, s3, s4, s5⟩
          go_simp
          with_reducible rfl
         rotate_left
         ·simp only [Act.put, List.setIfInBounds_toArray, List.set_cons_zero, List.set_cons_succ, i64_w, i32_w]
          rfl
         refine Sq.tk (v := ?_) (a' := ?_) 1 (some 22) #[true, true, false, true, true, false, false, false, false, false, false, false, false, false, false, false, false, false, false, false, false, false, false, false, false, false, false, false, false, false, false, false, false, false, false, false, false, false, false, false, false, false, false, false, false, false, false, false, false] HT_ HW_ hHeld ?_ ?_ ?_
         rotate_left
         ·rintro w' ⟨s0, s1, s2, s3, s4, s5⟩
          go_simp
          with_reducible rfl
         rotate_left
         ·simp only [Act.put, List.setIfInBounds_toArray, List.set_cons_zero, List.set_cons_succ, i64_w, i32_w]
          rfl
         refine one_ (i := 2) (N := some 23) #[true, true, true, true, true, false, false, false, false, false, false, false, false, false, false, false, false, false, false, false, false, false, false, false, false, false, false, false, false, false, false, false, false, false, false, false, false, false, false, false, false, false, false, false, false, false, false, false, false] rfl rfl (one_of HT_.out (by kernel_rfl)) (by decide) (fun K hK => ?_)
         refine goes_ Try.func72 (by kernel_rfl) rfl #[.agg #[.bool a1_0, .slice A1_1 l1_1.length c1_1], .agg #[.bool a0_0, .slice A0_1 l0_1.length c0_1]] (by rfl) rfl rfl (by (try simp only [List.map_toArray, List.map_cons, List.map_nil]); first | done | rfl | (simp only [List.length_drop, List.length_take]; rfl)) ?_
         with_reducible refine (integer_Cmp.calls a1_0 _ _ l1_1 a0_0 _ _ l0_1 t165 _ ?side1 ?side2 ?side3 ?side4 A27.out).mono ?_
         (case side1 => exact Sq.ca (Kd.C_below HR1_1.out HB.out))
         (case side2 => exact HC1_1.out)
         (case side3 => exact Sq.ca (Kd.C_below HR0_1.out HB.out))
         (case side4 => exact HC0_1.out)
         rintro e w52 ⟨rfl, hb⟩
         refine ⟨_, rfl, ?_⟩
         replace BK159 := Sq.bb BK159 hb
         replace BK160 := Sq.bb BK160 hb
         replace BK161 := Sq.bb BK161 hb
         replace HB := Sq.bs HB hb
         (try clear hb)
         (try clear hb2)
         (try clear hk)
         (try clear hi)
         refine hK.out _ _ ⟨(blk_cell BK160.out 0).trans rfl, (blk_cell BK160.out 1).trans rfl, (blk_cell BK159.out 0).trans rfl, (blk_cell BK159.out 1).trans rfl, (blk_cell BK161.out 0).trans rfl, (blk_cell BK161.out 1).trans rfl⟩ (fun hHeld => ?_)
         clear hK K
         refine norm_ (a' := ?_) ?_ ?_
         rotate_left
         ·show Act.put _ (some 23) _ = _
          simp only [Act.put, List.setIfInBounds_toArray, List.set_cons_zero, List.set_cons_succ, i64_w, i32_w]
          rfl
         refine Sq.pu (v := ?_) (a' := ?_) 5 (some 26) #[true, true, true, true, true, true, false, false, false, false, false, false, false, false, false, false, false, false, false, false, false, false, false, false, false, false, false, false, false, false, false, false, false, false, false, false, false, false, false, false, false, false, false, false, false, false, false, false, false] HT_ ?_ ?_ ?_
         rotate_left
         ·intro w'
          go_simp
          with_reducible rfl
         rotate_left
         ·simp only [Act.put, List.setIfInBounds_toArray, List.set_cons_zero, List.set_cons_succ, i64_w, i32_w]
          rfl
         refine Sq.pu (v := ?_) (a' := ?_) 6 (some 27) #[true, true, true, true, true, true, true, false, false, false, false, false, false, false, false, false, false, false, false, false, false, false, false, false, false, false, false, false, false, false, false, false, false, false, false, false, false, false, false, false, false, false, false, false, false, false, false, false, false] HT_ ?_ ?_ ?_
         rotate_left
         ·intro w'
          go_simp
          with_reducible rfl
         rotate_left
         ·simp only [Act.put, List.setIfInBounds_toArray, List.set_cons_zero, List.set_cons_succ, i64_w, i32_w]
          rfl
         refine Sq.pu (v := ?_) (a' := ?_) 14 (some 35) #[true, true, true, true, true, true, true, false, false, false, false, false, false, false, true, false, false, false, false, false, false, false, false, false, false, false, false, false, false, false, false, false, false, false, false, false, false, false, false, false, false, false, false, false, false, false, false, false, false] HT_ ?_ ?_ ?_
         rotate_left
         ·intro w'
          go_simp
          with_reducible rfl
         rotate_left
         ·simp only [Act.put, List.setIfInBounds_toArray, List.set_cons_zero, List.set_cons_succ, i64_w, i32_w]
          rfl
         refine Sq.tk (v := ?_) (a' := ?_) 7 (some 28) #[true, true, true, true, true, true, true, true, false, false, false, false, false, false, true, false, false, false, false, false, false, false, false, false, false, false, false, false, false, false, false, false, false, false, false, false, false, false, false, false, false, false, false, false, false, false, false, false, false] HT_ HW_ hHeld ?_ ?_ ?_
         rotate_left
         ·rintro w' ⟨s0, s1, s2, s3, s4, s5⟩
          go_simp
          with_reducible rfl
         rotate_left
         ·simp only [Act.put, List.setIfInBounds_toArray, List.set_cons_zero, List.set_cons_succ, i64_w, i32_w]
          rfl
         refine Sq.tk (v := ?_) (a' := ?_) 8 (some 29) #[true, true, true, true, true, true, true, true, true, false, false, false, false, false, true, false, false, false, false, false, false, false, false, false, false, false, false, false, false, false, false, false, false, false, false, false, false, false, false, false, false, false, false, false, false, false, false, false, false] HT_ HW_ hHeld ?_ ?_ ?_
         rotate_left
         ·rintro w' ⟨s0, s1, s2, s3, s4, s5⟩
          go_simp
          with_reducible rfl
         rotate_left
         ·simp only [Act.put, List.setIfInBounds_toArray, List.set_cons_zero, List.set_cons_succ, i64_w, i32_w]
          rfl
         refine Sq.tk (v := ?_) (a' := ?_) 10 (some 31) #[true, true, true, true, true, true, true, true, true, false, true, false, false, false, true, false, false, false, false, false, false, false, false, false, false, false, false, false, false, false, false, false, false, false, false, false, false, false, false, false, false, false, false, false, false, false, false, false, false] HT_ HW_ hHeld ?_ ?_ ?_
         rotate_left
         ·rintro w' ⟨s0, s1, s2, s3, s4, s5⟩
          go_simp
          with_reducible rfl
         rotate_left
         ·simp only [Act.put, List.setIfInBounds_toArray, List.set_cons_zero, List.set_cons_succ, i64_w, i32_w]
          rfl
         refine Sq.tk (v := ?_) (a' := ?_) 11 (some 32) #[true, true, true, true, true, true, true, true, true, false, true, true, false, false, true, false, false, false, false, false, false, false, false, false, false, false, false, false, false, false, false, false, false, false, false, false, false, false, false, false, false, false, false, false, false, false, false, false, false] HT_ HW_ hHeld ?_ ?_ ?_
         rotate_left
         ·rintro w' ⟨s0, s1, s2, s3, s4, s5⟩
          go_simp
          with_reducible rfl
         rotate_left
         ·simp only [Act.put, List.setIfInBounds_toArray, List.set_cons_zero, List.set_cons_succ, i64_w, i32_w]
          rfl
         refine one_ (i := 9) (N := some 30) #[true, true, true, true, true, true, true, true, true, true, true, true, false, false, true, false, false, false, false, false, false, false, false, false, false, false, false, false, false, false, false, false, false, false, false, false, false, false, false, false, false, false, false, false, false, false, false, false, false] rfl rfl (one_of HT_.out (by kernel_rfl)) (by decide) (fun K hK => ?_)
         refine goes_ Try.func63 (by kernel_rfl) rfl #[.agg #[.bool a0_0, .slice A0_1 l0_1.length c0_1], .agg #[.bool a2_0, .slice A2_1 l2_1.length c2_1]] (by rfl) rfl rfl (by (try simp only [List.map_toArray, List.map_cons, List.map_nil]); first | done | rfl | (simp only [List.length_drop, List.length_take]; rfl)) ?_
         with_reducible refine (integer_Add.calls a0_0 _ _ l0_1 a2_0 _ _ l2_1 t166 t167 _ ?side1 ?side2 ?side3 ?side4 A29.out).mono ?_
         (case side1 => exact Sq.ca (Kd.C_below HR0_1.out HB.out))
         (case side2 => exact HC0_1.out)
         (case side3 => exact Sq.ca (Kd.C_below HR2_1.out HB.out))
         (case side4 => exact HC2_1.out)
         rintro e w53 ⟨v168, rfl, ho0, hb⟩
         refine ⟨_, rfl, ?_⟩
         have HO169 := Aside0.mk (Kd.R_lower ho0 (below_size (Sq.bl HB)))
         replace BK159 := Sq.bb BK159 hb
         replace BK160 := Sq.bb BK160 hb
         replace BK161 := Sq.bb BK161 hb
         replace HB := Sq.bs HB hb
         (try clear hb)
         (try clear hb2)
         (try clear hk)
         (try clear hi)
         (try clear ho0)
         refine hK.out _ _ ⟨(blk_cell BK160.out 0).trans rfl, (blk_cell BK160.out 1).trans rfl, (blk_cell BK159.out 0).trans rfl, (blk_cell BK159.out 1).trans rfl, (blk_cell BK161.out 0).trans rfl, (blk_cell BK161.out 1).trans rfl⟩ (fun hHeld => ?_)
         clear hK K
         refine norm_ (a' := ?_) ?_ ?_
         rotate_left
         ·show Act.put _ (some 30) _ = _
          simp only [Act.put, List.setIfInBounds_toArray, List.set_cons_zero, List.set_cons_succ, i64_w, i32_w]
          rfl
         refine one_ (i := 12) (N := some 33) #[true, true, true, true, true, true, true, true, true, true, true, true, true, false, true, false, false, false, false, false, false, false, false, false, false, false, false, false, false, false, false, false, false, false, false, false, false, false, false, false, false, false, false, false, false, false, false, false, false] rfl rfl (one_of HT_.out (by kernel_rfl)) (by decide) (fun K hK => ?_)
         refine goes_ Try.func63 (by kernel_rfl) rfl #[.agg #[.bool a1_0, .slice A1_1 l1_1.length c1_1], .agg #[.bool a2_0, .slice A2_1 l2_1.length c2_1]] (by rfl) rfl rfl (by (try simp only [List.map_toArray, List.map_cons, List.map_nil]); first | done | rfl | (simp only [List.length_drop, List.length_take]; rfl)) ?_
         with_reducible refine (integer_Add.calls a1_0 _ _ l1_1 a2_0 _ _ l2_1 t170 t171 _ ?side1 ?side2 ?side3 ?side4 A30.out).mono ?_
         (case side1 => exact Sq.ca (Kd.C_below HR1_1.out HB.out))
         (case side2 => exact HC1_1.out)
         (case side3 => exact Sq.ca (Kd.C_below HR2_1.out HB.out))
         (case side4 => exact HC2_1.out)
         rintro e w54 ⟨v172, rfl, ho0, hb⟩
         refine ⟨_, rfl, ?_⟩
         have HO173 := Aside0.mk (Kd.R_lower (Kd.R_new' ho0 (Kd.R_lt (Sq.al HO169))) (below_size (Sq.bl HB)))
         replace BK159 := Sq.bb BK159 hb
         replace BK160 := Sq.bb BK160 hb
         replace BK161 := Sq.bb BK161 hb
         replace HO169 := Aside0.mk (Kd.R_elder' (Sq.al HO169) (Kd.R_base ho0) hb)
         replace HB := Sq.bs HB hb
         (try clear hb)
         (try clear hb2)
         (try clear hk)
         (try clear hi)
         (try clear ho0)
         obtain ⟨Ao55, co55, eo55⟩ := Kd.R_slice HO169.out
         (first | subst eo55 | (injection eo55 with f1_ f2_ f3_; have f4_ := f1_.symm; have f5_ := f3_.symm; clear f1_ f2_ f3_; subst f4_; subst f5_))
         obtain ⟨Ao56, co56, eo56⟩ := Kd.R_slice HO173.out
         (first | subst eo56 | (injection eo56 with f1_ f2_ f3_; have f4_ := f1_.symm; have f5_ := f3_.symm; clear f1_ f2_ f3_; subst f4_; subst f5_))
         refine hK.out _ _ ⟨(blk_cell BK160.out 0).trans rfl, (blk_cell BK160.out 1).trans rfl, (blk_cell BK159.out 0).trans rfl, (blk_cell BK159.out 1).trans rfl, (blk_cell BK161.out 0).trans rfl, (blk_cell BK161.out 1).trans rfl⟩ (fun hHeld => ?_)
         clear hK K
         refine norm_ (a' := ?_) ?_ ?_
         rotate_left
         ·show Act.put _ (some 33) _ = _
          simp only [Act.put, List.setIfInBounds_toArray, List.set_cons_zero, List.set_cons_succ, i64_w, i32_w]
          rfl
         refine one_ (i := 13) (N := some 34) #[true, true, true, true, true, true, true, true, true, true, true, true, true, true, true, false, false, false, false, false, false, false, false, false, false, false, false, false, false, false, false, false, false, false, false, false, false, false, false, false, false, false, false, false, false, false, false, false, false] rfl rfl (one_of HT_.out (by kernel_rfl)) (by decide) (fun K hK => ?_)
         refine goes_ Try.func72 (by kernel_rfl) rfl #[.agg #[.bool t166, .slice Ao55 t167.length co55], .agg #[.bool t170, .slice Ao56 t171.length co56]] (by rfl) rfl rfl (by (try simp only [List.map_toArray, List.map_cons, List.map_nil]); first | done | rfl | (simp only [List.length_drop, List.length_take]; rfl)) ?_
         with_reducible refine (integer_Cmp.calls t166 _ _ t167 t170 _ _ t171 t174 _ ?side1 ?side2 ?side3 ?side4 A31.out).mono ?_
         (case side1 => exact Sq.ca (Kd.R_reads' HO169.out).2.2)
         (case side2 => exact (Kd.R_reads' HO169.out).2.1)
         (case side3 => exact Sq.ca (Kd.R_reads' HO173.out).2.2)
         (case side4 => exact (Kd.R_reads' HO173.out).2.1)
         rintro e w57 ⟨rfl, hb⟩
         refine ⟨_, rfl, ?_⟩
         replace HO169 := Aside0.mk (Kd.R_below (Sq.al HO169) hb)
         replace HO173 := Aside0.mk (Kd.R_below (Sq.al HO173) hb)
         replace BK159 := Sq.bb BK159 hb
         replace BK160 := Sq.bb BK160 hb
         replace BK161 := Sq.bb BK161 hb
         replace HB := Sq.bs HB hb
         (try clear hb)
         (try clear hb2)
         (try clear hk)
         (try clear hi)
         refine hK.out _ _ ⟨(blk_cell BK160.out 0).trans rfl, (blk_cell BK160.out 1).trans rfl, (blk_cell BK159.out 0).trans rfl, (blk_cell BK159.out 1).trans rfl, (blk_cell BK161.out 0).trans rfl, (blk_cell BK161.out 1).trans rfl⟩ (fun hHeld => ?_)
         clear hK K
         refine norm_ (a' := ?_) ?_ ?_
         rotate_left
         ·show Act.put _ (some 34) _ = _
          simp only [Act.put, List.setIfInBounds_toArray, List.set_cons_zero, List.set_cons_succ, i64_w, i32_w]
          rfl
         refine Sq.pu (v := ?_) (a' := ?_) 15 (some 36) #[true, true, true, true, true, true, true, true, true, true, true, true, true, true, true, true, false, false, false, false, false, false, false, false, false, false, false, false, false, false, false, false, false, false, false, false, false, false, false, false, false, false, false, false, false, false, false, false, false] HT_ ?_ ?_ ?_
         rotate_left
         ·intro w'
          go_simp
          with_reducible rfl
         rotate_left
         ·simp only [Act.put, List.setIfInBounds_toArray, List.set_cons_zero, List.set_cons_succ, i64_w, i32_w]
          rfl
         refine Sq.pu (v := ?_) (a' := ?_) 16 (some 37) #[true, true, true, true, true, true, true, true, true, true, true, true, true, true, true, true, true, false, false, false, false, false, false, false, false, false, false, false, false, false, false, false, false, false, false, false, false, false, false, false, false, false, false, false, false, false, false, false, false] HT_ ?_ ?_ ?_
         rotate_left
         ·intro w'
          go_simp
          with_reducible rfl
         rotate_left
         ·simp only [Act.put, List.setIfInBounds_toArray, List.set_cons_zero, List.set_cons_succ, i64_w, i32_w]
          rfl
         refine Sq.pu (v := ?_) (a' := ?_) 17 (some 38) #[true, true, true, true, true, true, true, true, true, true, true, true, true, true, true, true, true, true, false, false, false, false, false, false, false, false, false, false, false, false, false, false, false, false, false, false, false, false, false, false, false, false, false, false, false, false, false, false, false] HT_ ?_ ?_ ?_
         rotate_left
         ·intro w'
          go_simp
          with_reducible rfl
         rotate_left
         ·simp only [Act.put, List.setIfInBounds_toArray, List.set_cons_zero, List.set_cons_succ, i64_w, i32_w]
          rfl
         refine Sq.pu (v := ?_) (a' := ?_) 23 (some 44) #[true, true, true, true, true, true, true, true, true, true, true, true, true, true, true, true, true, true, false, false, false, false, false, true, false, false, false, false, false, false, false, false, false, false, false, false, false, false, false, false, false, false, false, false, false, false, false, false, false] HT_ ?_ ?_ ?_
         rotate_left
         ·intro w'
          go_simp
          with_reducible rfl
         rotate_left
         ·simp only [Act.put, List.setIfInBounds_toArray, List.set_cons_zero, List.set_cons_succ, i64_w, i32_w]
          rfl
         refine Sq.pu (v := ?_) (a' := ?_) 24 (some 45) #[true, true, true, true, true, true, true, true, true, true, true, true, true, true, true, true, true, true, false, false, false, false, false, true, true, false, false, false, false, false, false, false, false, false, false, false, false, false, false, false, false, false, false, false, false, false, false, false, false] HT_ ?_ ?_ ?_
         rotate_left
         ·intro w'
          go_simp
          with_reducible rfl
         rotate_left
         ·simp only [Act.put, List.setIfInBounds_toArray, List.set_cons_zero, List.set_cons_succ, i64_w, i32_w]
          rfl
         refine Sq.tk (v := ?_) (a' := ?_) 18 (some 39) #[true, true, true, true, true, true, true, true, true, true, true, true, true, true, true, true, true, true, true, false, false, false, false, true, true, false, false, false, false, false, false, false, false, false, false, false, false, false, false, false, false, false, false, false, false, false, false, false, false] HT_ HW_ hHeld ?_ ?_ ?_
         rotate_left
         ·rintro w' ⟨s0, s1, s2, s3, s4, s5⟩
          go_simp
          with_reducible rfl
         rotate_left
         ·simp only [Act.put, List.setIfInBounds_toArray, List.set_cons_zero, List.set_cons_succ, i64_w, i32_w]
          rfl
         refine Sq.tk (v := ?_) (a' := ?_) 20 (some 41) #[true, true, true, true, true, true, true, true, true, true, true, true, true, true, true, true, true, true, true, false, true, false, false, true, true, false, false, false, false, false, false, false, false, false, false, false, false, false, false, false, false, false, false, false, false, false, false, false, false] HT_ HW_ hHeld ?_ ?_ ?_
         rotate_left
         ·rintro w' ⟨s0, s1, s2, s3, s4, s5⟩
          go_simp
          with_reducible rfl
         rotate_left
         ·simp only [Act.put, List.setIfInBounds_toArray, List.set_cons_zero, List.set_cons_succ, i64_w, i32_w]
          rfl
         refine one_ (i := 19) (N := some 40) #[true, true, true, true, true, true, true, true, true, true, true, true, true, true, true, true, true, true, true, true, true, false, false, true, true, false, false, false, false, false, false, false, false, false, false, false, false, false, false, false, false, false, false, false, false, false, false, false, false] rfl rfl (one_of HT_.out (by kernel_rfl)) (by decide) (fun K hK => ?_)
         refine goes_ Try.func67 (by kernel_rfl) rfl #[.agg #[.bool a0_0, .slice A0_1 l0_1.length c0_1]] (by rfl) rfl rfl (by (try simp only [List.map_toArray, List.map_cons, List.map_nil]); first | done | rfl | (simp only [List.length_drop, List.length_take]; rfl)) ?_
         with_reducible refine (integer_Neg.calls a0_0 _ _ l0_1 t175 t176 _ ?side1 ?side2 A33.out).mono ?_
         (case side1 => exact Sq.ca (Kd.C_below HR0_1.out HB.out))
         (case side2 => exact HC0_1.out)
         rintro e w58 ⟨v177, rfl, ho0, hb⟩
         refine ⟨_, rfl, ?_⟩
         have HO178 := Aside0.mk (Kd.R_lower (Kd.R_new' (Kd.R_new' ho0 (Kd.R_lt (Sq.al HO169))) (Kd.R_lt (Sq.al HO173))) (below_size (Sq.bl HB)))
         replace BK159 := Sq.bb BK159 hb
         replace BK160 := Sq.bb BK160 hb
         replace BK161 := Sq.bb BK161 hb
         replace HO169 := Aside0.mk (Kd.R_elder' (Sq.al HO169) (Kd.R_base ho0) hb)
         replace HO173 := Aside0.mk (Kd.R_elder' (Sq.al HO173) (Kd.R_base ho0) hb)
         replace HB := Sq.bs HB hb
         (try clear hb)
         (try clear hb2)
         (try clear hk)
         (try clear hi)
         (try clear ho0)
         refine hK.out _ _ ⟨(blk_cell BK160.out 0).trans rfl, (blk_cell BK160.out 1).trans rfl, (blk_cell BK159.out 0).trans rfl, (blk_cell BK159.out 1).trans rfl, (blk_cell BK161.out 0).trans rfl, (blk_cell BK161.out 1).trans rfl⟩ (fun hHeld => ?_)
         clear hK K
         refine norm_ (a' := ?_) ?_ ?_
         rotate_left
         ·show Act.put _ (some 40) _ = _
          simp only [Act.put, List.setIfInBounds_toArray, List.set_cons_zero, List.set_cons_succ, i64_w, i32_w]
          rfl
         refine one_ (i := 21) (N := some 42) #[true, true, true, true, true, true, true, true, true, true, true, true, true, true, true, true, true, true, true, true, true, true, false, true, true, false, false, false, false, false, false, false, false, false, false, false, false, false, false, false, false, false, false, false, false, false, false, false, false] rfl rfl (one_of HT_.out (by kernel_rfl)) (by decide) (fun K hK => ?_)
         refine goes_ Try.func67 (by kernel_rfl) rfl #[.agg #[.bool a1_0, .slice A1_1 l1_1.length c1_1]] (by rfl) rfl rfl (by (try simp only [List.map_toArray, List.map_cons, List.map_nil]); first | done | rfl | (simp only [List.length_drop, List.length_take]; rfl)) ?_
         with_reducible refine (integer_Neg.calls a1_0 _ _ l1_1 t179 t180 _ ?side1 ?side2 A34.out).mono ?_
         (case side1 => exact Sq.ca (Kd.C_below HR1_1.out HB.out))
         (case side2 => exact HC1_1.out)
         rintro e w59 ⟨v181, rfl, ho0, hb⟩
         refine ⟨_, rfl, ?_⟩
         have HO182 := Aside0.mk (Kd.R_lower (Kd.R_new' (Kd.R_new' (Kd.R_new' ho0 (Kd.R_lt (Sq.al HO169))) (Kd.R_lt (Sq.al HO173))) (Kd.R_lt (Sq.al HO178))) (below_size (Sq.bl HB)))
         replace BK159 := Sq.bb BK159 hb
         replace BK160 := Sq.bb BK160 hb
         replace BK161 := Sq.bb BK161 hb
         replace HO169 := Aside0.mk (Kd.R_elder' (Sq.al HO169) (Kd.R_base ho0) hb)
         replace HO173 := Aside0.mk (Kd.R_elder' (Sq.al HO173) (Kd.R_base ho0) hb)
         replace HO178 := Aside0.mk (Kd.R_elder' (Sq.al HO178) (Kd.R_base ho0) hb)
         replace HB := Sq.bs HB hb
         (try clear hb)
         (try clear hb2)
         (try clear hk)
         (try clear hi)
         (try clear ho0)
         obtain ⟨Ao60, co60, eo60⟩ := Kd.R_slice HO178.out
         (first | subst eo60 | (injection eo60 with f1_ f2_ f3_; have f4_ := f1_.symm; have f5_ := f3_.symm; clear f1_ f2_ f3_; subst f4_; subst f5_))
         obtain ⟨Ao61, co61, eo61⟩ := Kd.R_slice HO182.out
         (first | subst eo61 | (injection eo61 with f1_ f2_ f3_; have f4_ := f1_.symm; have f5_ := f3_.symm; clear f1_ f2_ f3_; subst f4_; subst f5_))
         refine hK.out _ _ ⟨(blk_cell BK160.out 0).trans rfl, (blk_cell BK160.out 1).trans rfl, (blk_cell BK159.out 0).trans rfl, (blk_cell BK159.out 1).trans rfl, (blk_cell BK161.out 0).trans rfl, (blk_cell BK161.out 1).trans rfl⟩ (fun hHeld => ?_)
         clear hK K
         refine norm_ (a' := ?_) ?_ ?_
         rotate_left
         ·show Act.put _ (some 42) _ = _
          simp only [Act.put, List.setIfInBounds_toArray, List.set_cons_zero, List.set_cons_succ, i64_w, i32_w]
          rfl
         refine one_ (i := 22) (N := some 43) #[true, true, true, true, true, true, true, true, true, true, true, true, true, true, true, true, true, true, true, true, true, true, true, true, true, false, false, false, false, false, false, false, false, false, false, false, false, false, false, false, false, false, false, false, false, false, false, false, false] rfl rfl (one_of HT_.out (by kernel_rfl)) (by decide) (fun K hK => ?_)
         refine goes_ Try.func72 (by kernel_rfl) rfl #[.agg #[.bool t175, .slice Ao60 t176.length co60], .agg #[.bool t179, .slice Ao61 t180.length co61]] (by rfl) rfl rfl (by (try simp only [List.map_toArray, List.map_cons, List.map_nil]); first | done | rfl | (simp only [List.length_drop, List.length_take]; rfl)) ?_
         with_reducible refine (integer_Cmp.calls t175 _ _ t176 t179 _ _ t180 t183 _ ?side1 ?side2 ?side3 ?side4 A35.out).mono ?_
         (case side1 => exact Sq.ca (Kd.R_reads' HO178.out).2.2)
         (case side2 => exact (Kd.R_reads' HO178.out).2.1)
         (case side3 => exact Sq.ca (Kd.R_reads' HO182.out).2.2)
         (case side4 => exact (Kd.R_reads' HO182.out).2.1)
         rintro e w62 ⟨rfl, hb⟩
         refine ⟨_, rfl, ?_⟩
         replace HO169 := Aside0.mk (Kd.R_below (Sq.al HO169) hb)
         replace HO173 := Aside0.mk (Kd.R_below (Sq.al HO173) hb)
         replace HO178 := Aside0.mk (Kd.R_below (Sq.al HO178) hb)
         replace HO182 := Aside0.mk (Kd.R_below (Sq.al HO182) hb)
         replace BK159 := Sq.bb BK159 hb
         replace BK160 := Sq.bb BK160 hb
         replace BK161 := Sq.bb BK161 hb
         replace HB := Sq.bs HB hb
         (try clear hb)
         (try clear hb2)
         (try clear hk)
         (try clear hi)
         refine hK.out _ _ ⟨(blk_cell BK160.out 0).trans rfl, (blk_cell BK160.out 1).trans rfl, (blk_cell BK159.out 0).trans rfl, (blk_cell BK159.out 1).trans rfl, (blk_cell BK161.out 0).trans rfl, (blk_cell BK161.out 1).trans rfl⟩ (fun hHeld => ?_)
         clear hK K
         refine norm_ (a' := ?_) ?_ ?_
         rotate_left
         ·show Act.put _ (some 43) _ = _
          simp only [Act.put, List.setIfInBounds_toArray, List.set_cons_zero, List.set_cons_succ, i64_w, i32_w]
          rfl
         refine Sq.pu (v := ?_) (a' := ?_) 25 (some 46) #[true, true, true, true, true, true, true, true, true, true, true, true, true, true, true, true, true, true, true, true, true, true, true, true, true, true, false, false, false, false, false, false, false, false, false, false, false, false, false, false, false, false, false, false, false, false, false, false, false] HT_ ?_ ?_ ?_
         rotate_left
         ·intro w'
          go_simp
          with_reducible rfl
         rotate_left
         ·simp only [Act.put, List.setIfInBounds_toArray, List.set_cons_zero, List.set_cons_succ, i64_w, i32_w]
          rfl
         refine Sq.pu (v := ?_) (a' := ?_) 26 (some 47) #[true, true, true, true, true, true, true, true, true, true, true, true, true, true, true, true, true, true, true, true, true, true, true, true, true, true, true, false, false, false, false, false, false, false, false, false, false, false, false, false, false, false, false, false, false, false, false, false, false] HT_ ?_ ?_ ?_
         rotate_left
         ·intro w'
          go_simp
          with_reducible rfl
         rotate_left
         ·simp only [Act.put, List.setIfInBounds_toArray, List.set_cons_zero, List.set_cons_succ, i64_w, i32_w]
          rfl
         refine Sq.pu (v := ?_) (a' := ?_) 27 (some 48) #[true, true, true, true, true, true, true, true, true, true, true, true, true, true, true, true, true, true, true, true, true, true, true, true, true, true, true, true, false, false, false, false, false, false, false, false, false, false, false, false, false, false, false, false, false, false, false, false, false] HT_ ?_ ?_ ?_
         rotate_left
         ·intro w'
          go_simp
          with_reducible rfl
         rotate_left
         ·simp only [Act.put, List.setIfInBounds_toArray, List.set_cons_zero, List.set_cons_succ, i64_w, i32_w]
          rfl
         refine Sq.pu (v := ?_) (a' := ?_) 28 (some 49) #[true, true, true, true, true, true, true, true, true, true, true, true, true, true, true, true, true, true, true, true, true, true, true, true, true, true, true, true, true, false, false, false, false, false, false, false, false, false, false, false, false, false, false, false, false, false, false, false, false] HT_ ?_ ?_ ?_
         rotate_left
         ·intro w'
          go_simp
          with_reducible rfl
         rotate_left
         ·simp only [Act.put, List.setIfInBounds_toArray, List.set_cons_zero, List.set_cons_succ, i64_w, i32_w]
          rfl
         refine Sq.pu (v := ?_) (a' := ?_) 29 (some 50) #[true, true, true, true, true, true, true, true, true, true, true, true, true, true, true, true, true, true, true, true, true, true, true, true, true, true, true, true, true, true, false, false, false, false, false, false, false, false, false, false, false, false, false, false, false, false, false, false, false] HT_ ?_ ?_ ?_
         rotate_left
         ·intro w'
          go_simp
          with_reducible rfl
         rotate_left
         ·simp only [Act.put, List.setIfInBounds_toArray, List.set_cons_zero, List.set_cons_succ, i64_w, i32_w]
          rfl
         refine Sq.tk (v := ?_) (a' := ?_) 30 (some 51) #[true, true, true, true, true, true, true, true, true, true, true, true, true, true, true, true, true, true, true, true, true, true, true, true, true, true, true, true, true, true, true, false, false, false, false, false, false, false, false, false, false, false, false, false, false, false, false, false, false] HT_ HW_ hHeld ?_ ?_ ?_
         rotate_left
         ·rintro w' ⟨s0, s1, s2, s3, s4, s5⟩
          go_simp
          with_reducible rfl
         rotate_left
         ·simp only [Act.put, List.setIfInBounds_toArray, List.set_cons_zero, List.set_cons_succ, i64_w, i32_w]
          rfl
         refine Sq.tk (v := ?_) (a' := ?_) 32 (some 53) #[true, true, true, true, true, true, true, true, true, true, true, true, true, true, true, true, true, true, true, true, true, true, true, true, true, true, true, true, true, true, true, false, true, false, false, false, false, false, false, false, false, false, false, false, false, false, false, false, false] HT_ HW_ hHeld ?_ ?_ ?_
         rotate_left
         ·rintro w' ⟨s0, s1, s2, s3, s4, s5⟩
          go_simp
          with_reducible rfl
         rotate_left
         ·simp only [Act.put, List.setIfInBounds_toArray, List.set_cons_zero, List.set_cons_succ, i64_w, i32_w]
          rfl
         refine one_ (i := 31) (N := some 52) #[true, true, true, true, true, true, true, true, true, true, true, true, true, true, true, true, true, true, true, true, true, true, true, true, true, true, true, true, true, true, true, true, true, false, false, false, false, false, false, false, false, false, false, false, false, false, false, false, false] rfl rfl (one_of HT_.out (by kernel_rfl)) (by decide) (fun K hK => ?_)
         refine goes_ Try.func62 (by kernel_rfl) rfl #[.agg #[.bool a0_0, .slice A0_1 l0_1.length c0_1]] (by rfl) rfl rfl (by (try simp only [List.map_toArray, List.map_cons, List.map_nil]); first | done | rfl | (simp only [List.length_drop, List.length_take]; rfl)) ?_
         with_reducible refine (integer_Norm.calls a0_0 _ _ l0_1 t184 t185 _ ?side1 ?side2 A37.out).mono ?_
         (case side1 => exact Sq.ca (Kd.C_below HR0_1.out HB.out))
         (case side2 => exact HC0_1.out)
         rintro e w63 ⟨v186, rfl, ho0, hb⟩
         refine ⟨_, rfl, ?_⟩
         have HO187 := Aside0.mk (Kd.R_lower (Kd.R_new' (Kd.R_new' (Kd.R_new' (Kd.R_new' ho0 (Kd.R_lt (Sq.al HO169))) (Kd.R_lt (Sq.al HO173))) (Kd.R_lt (Sq.al HO178))) (Kd.R_lt (Sq.al HO182))) (below_size (Sq.bl HB)))
         replace BK159 := Sq.bb BK159 hb
         replace BK160 := Sq.bb BK160 hb
         replace BK161 := Sq.bb BK161 hb
         replace HO169 := Aside0.mk (Kd.R_elder' (Sq.al HO169) (Kd.R_base ho0) hb)
         replace HO173 := Aside0.mk (Kd.R_elder' (Sq.al HO173) (Kd.R_base ho0) hb)
         replace HO178 := Aside0.mk (Kd.R_elder' (Sq.al HO178) (Kd.R_base ho0) hb)
         replace HO182 := Aside0.mk (Kd.R_elder' (Sq.al HO182) (Kd.R_base ho0) hb)
         replace HB := Sq.bs HB hb
         (try clear hb)
         (try clear hb2)
         (try clear hk)
         (try clear hi)
         (try clear ho0)
         refine hK.out _ _ ⟨(blk_cell BK160.out 0).trans rfl, (blk_cell BK160.out 1).trans rfl, (blk_cell BK159.out 0).trans rfl, (blk_cell BK159.out 1).trans rfl, (blk_cell BK161.out 0).trans rfl, (blk_cell BK161.out 1).trans rfl⟩ (fun hHeld => ?_)
         clear hK K
         refine norm_ (a' := ?_) ?_ ?_
         rotate_left
         ·show Act.put _ (some 52) _ = _
          simp only [Act.put, List.setIfInBounds_toArray, List.set_cons_zero, List.set_cons_succ, i64_w, i32_w]
          rfl
         refine one_ (i := 33) (N := some 54) #[true, true, true, true, true, true, true, true, true, true, true, true, true, true, true, true, true, true, true, true, true, true, true, true, true, true, true, true, true, true, true, true, true, true, false, false, false, false, false, false, false, false, false, false, false, false, false, false, false] rfl rfl (one_of HT_.out (by kernel_rfl)) (by decide) (fun K hK => ?_)
         refine goes_ Try.func62 (by kernel_rfl) rfl #[.agg #[.bool a1_0, .slice A1_1 l1_1.length c1_1]] (by rfl) rfl rfl (by (try simp only [List.map_toArray, List.map_cons, List.map_nil]); first | done | rfl | (simp only [List.length_drop, List.length_take]; rfl)) ?_
         with_reducible refine (integer_Norm.calls a1_0 _ _ l1_1 t188 t189 _ ?side1 ?side2 A38.out).mono ?_
         (case side1 => exact Sq.ca (Kd.C_below HR1_1.out HB.out))
         (case side2 => exact HC1_1.out)
         rintro e w64 ⟨v190, rfl, ho0, hb⟩
         refine ⟨_, rfl, ?_⟩
         have HO191 := Aside0.mk (Kd.R_lower (Kd.R_new' (Kd.R_new' (Kd.R_new' (Kd.R_new' (Kd.R_new' ho0 (Kd.R_lt (Sq.al HO169))) (Kd.R_lt (Sq.al HO173))) (Kd.R_lt (Sq.al HO178))) (Kd.R_lt (Sq.al HO182))) (Kd.R_lt (Sq.al HO187))) (below_size (Sq.bl HB)))
         replace BK159 := Sq.bb BK159 hb
         replace BK160 := Sq.bb BK160 hb
         replace BK161 := Sq.bb BK161 hb
         replace HO169 := Aside0.mk (Kd.R_elder' (Sq.al HO169) (Kd.R_base ho0) hb)
         replace HO173 := Aside0.mk (Kd.R_elder' (Sq.al HO173) (Kd.R_base ho0) hb)
         replace HO178 := Aside0.mk (Kd.R_elder' (Sq.al HO178) (Kd.R_base ho0) hb)
         replace HO182 := Aside0.mk (Kd.R_elder' (Sq.al HO182) (Kd.R_base ho0) hb)
         replace HO187 := Aside0.mk (Kd.R_elder' (Sq.al HO187) (Kd.R_base ho0) hb)
         replace HB := Sq.bs HB hb
         (try clear hb)
         (try clear hb2)
         (try clear hk)
         (try clear hi)
         (try clear ho0)
         obtain ⟨Ao65, co65, eo65⟩ := Kd.R_slice HO187.out
         (first | subst eo65 | (injection eo65 with f1_ f2_ f3_; have f4_ := f1_.symm; have f5_ := f3_.symm; clear f1_ f2_ f3_; subst f4_; subst f5_))
         obtain ⟨Ao66, co66, eo66⟩ := Kd.R_slice HO191.out
         (first | subst eo66 | (injection eo66 with f1_ f2_ f3_; have f4_ := f1_.symm; have f5_ := f3_.symm; clear f1_ f2_ f3_; subst f4_; subst f5_))
         refine hK.out _ _ ⟨(blk_cell BK160.out 0).trans rfl, (blk_cell BK160.out 1).trans rfl, (blk_cell BK159.out 0).trans rfl, (blk_cell BK159.out 1).trans rfl, (blk_cell BK161.out 0).trans rfl, (blk_cell BK161.out 1).trans rfl⟩ (fun hHeld => ?_)
         clear hK K
         refine norm_ (a' := ?_) ?_ ?_
         rotate_left
         ·show Act.put _ (some 54) _ = _
          simp only [Act.put, List.setIfInBounds_toArray, List.set_cons_zero, List.set_cons_succ, i64_w, i32_w]
          rfl
         refine one_ (i := 34) (N := some 55) #[true, true, true, true, true, true, true, true, true, true, true, true, true, true, true, true, true, true, true, true, true, true, true, true, true, true, true, true, true, true, true, true, true, true, true, false, false, false, false, false, false, false, false, false, false, false, false, false, false] rfl rfl (one_of HT_.out (by kernel_rfl)) (by decide) (fun K hK => ?_)
         refine goes_ Try.func56 (by kernel_rfl) rfl #[.agg #[.bool t184, .slice Ao65 t185.length co65], .agg #[.bool t188, .slice Ao66 t189.length co66]] (by rfl) rfl rfl (by (try simp only [List.map_toArray, List.map_cons, List.map_nil]); first | done | rfl | (simp only [List.length_drop, List.length_take]; rfl)) ?_
         with_reducible refine (foliotlaw02_same.calls kj3 t184 _ _ t185 t188 _ _ t189 t192 _ ?side1 ?side2 ?side3 ?side4 A39.out).mono ?_
         (case side1 => exact Sq.ca (Kd.R_reads' HO187.out).2.2)
         (case side2 => exact (Kd.R_reads' HO187.out).2.1)
         (case side3 => exact Sq.ca (Kd.R_reads' HO191.out).2.2)
         (case side4 => exact (Kd.R_reads' HO191.out).2.1)
         rintro e w67 ⟨rfl, hb⟩
         refine ⟨_, rfl, ?_⟩
         replace HO169 := Aside0.mk (Kd.R_below (Sq.al HO169) hb)
         replace HO173 := Aside0.mk (Kd.R_below (Sq.al HO173) hb)
         replace HO178 := Aside0.mk (Kd.R_below (Sq.al HO178) hb)
         replace HO182 := Aside0.mk (Kd.R_below (Sq.al HO182) hb)
         replace HO187 := Aside0.mk (Kd.R_below (Sq.al HO187) hb)
         replace HO191 := Aside0.mk (Kd.R_below (Sq.al HO191) hb)
         replace BK159 := Sq.bb BK159 hb
         replace BK160 := Sq.bb BK160 hb
         replace BK161 := Sq.bb BK161 hb
         replace HB := Sq.bs HB hb
         (try clear hb)
         (try clear hb2)
         (try clear hk)
         (try clear hi)
         refine hK.out _ _ ⟨(blk_cell BK160.out 0).trans rfl, (blk_cell BK160.out 1).trans rfl, (blk_cell BK159.out 0).trans rfl, (blk_cell BK159.out 1).trans rfl, (blk_cell BK161.out 0).trans rfl, (blk_cell BK161.out 1).trans rfl⟩ (fun hHeld => ?_)
         clear hK K
         refine norm_ (a' := ?_) ?_ ?_
         rotate_left
         ·show Act.put _ (some 55) _ = _
          simp only [Act.put, List.setIfInBounds_toArray, List.set_cons_zero, List.set_cons_succ, i64_w, i32_w]
          rfl
         refine Sq.pu (v := ?_) (a' := ?_) 35 (some 56) #[true, true, true, true, true, true, true, true, true, true, true, true, true, true, true, true, true, true, true, true, true, true, true, true, true, true, true, true, true, true, true, true, true, true, true, true, false, false, false, false, false, false, false, false, false, false, false, false, false] HT_ ?_ ?_ ?_
         rotate_left
         ·intro w'
          go_simp
          with_reducible rfl
         rotate_left
         ·simp only [Act.put, List.setIfInBounds_toArray, List.set_cons_zero, List.set_cons_succ, i64_w, i32_w]
          rfl
         refine Sq.pu (v := ?_) (a' := ?_) 36 (some 57) #[true, true, true, true, true, true, true, true, true, true, true, true, true, true, true, true, true, true, true, true, true, true, true, true, true, true, true, true, true, true, true, true, true, true, true, true, true, false, false, false, false, false, false, false, false, false, false, false, false] HT_ ?_ ?_ ?_
         rotate_left
         ·intro w'
          go_simp
          with_reducible rfl
         rotate_left
         ·simp only [Act.put, List.setIfInBounds_toArray, List.set_cons_zero, List.set_cons_succ, i64_w, i32_w]
          rfl
         refine Sq.pu (v := ?_) (a' := ?_) 37 (some 58) #[true, true, true, true, true, true, true, true, true, true, true, true, true, true, true, true, true, true, true, true, true, true, true, true, true, true, true, true, true, true, true, true, true, true, true, true, true, true, false, false, false, false, false, false, false, false, false, false, false] HT_ ?_ ?_ ?_
         rotate_left
         ·intro w'
          go_simp
          with_reducible rfl
         rotate_left
         ·simp only [Act.put, List.setIfInBounds_toArray, List.set_cons_zero, List.set_cons_succ, i64_w, i32_w]
          rfl
         refine Sq.pu (v := ?_) (a' := ?_) 42 (some 63) #[true, true, true, true, true, true, true, true, true, true, true, true, true, true, true, true, true, true, true, true, true, true, true, true, true, true, true, true, true, true, true, true, true, true, true, true, true, true, false, false, false, false, true, false, false, false, false, false, false] HT_ ?_ ?_ ?_
         rotate_left
         ·intro w'
          go_simp
          with_reducible rfl
         rotate_left
         ·simp only [Act.put, List.setIfInBounds_toArray, List.set_cons_zero, List.set_cons_succ, i64_w, i32_w]
          rfl
         refine Sq.tk (v := ?_) (a' := ?_) 38 (some 59) #[true, true, true, true, true, true, true, true, true, true, true, true, true, true, true, true, true, true, true, true, true, true, true, true, true, true, true, true, true, true, true, true, true, true, true, true, true, true, true, false, false, false, true, false, false, false, false, false, false] HT_ HW_ hHeld ?_ ?_ ?_
         rotate_left
         ·rintro w' ⟨s0, s1, s2, s3, s4, s5⟩
          go_simp
          with_reducible rfl
         rotate_left
         ·simp only [Act.put, List.setIfInBounds_toArray, List.set_cons_zero, List.set_cons_succ, i64_w, i32_w]
          rfl
         refine Sq.tk (v := ?_) (a' := ?_) 39 (some 60) #[true, true, true, true, true, true, true, true, true, true, true, true, true, true, true, true, true, true, true, true, true, true, true, true, true, true, true, true, true, true, true, true, true, true, true, true, true, true, true, true, false, false, true, false, false, false, false, false, false] HT_ HW_ hHeld ?_ ?_ ?_
         rotate_left
         ·rintro w' ⟨s0, s1, s2, s3, s4, s5⟩
          go_simp
          with_reducible rfl
         rotate_left
         ·simp only [Act.put, List.setIfInBounds_toArray, List.set_cons_zero, List.set_cons_succ, i64_w, i32_w]
          rfl
         refine one_ (i := 40) (N := some 61) #[true, true, true, true, true, true, true, true, true, true, true, true, true, true, true, true, true, true, true, true, true, true, true, true, true, true, true, true, true, true, true, true, true, true, true, true, true, true, true, true, true, false, true, false, false, false, false, false, false] rfl rfl (one_of HT_.out (by kernel_rfl)) (by decide) (fun K hK => ?_)
         refine goes_ Try.func65 (by kernel_rfl) rfl #[.agg #[.bool a0_0, .slice A0_1 l0_1.length c0_1], .agg #[.bool a1_0, .slice A1_1 l1_1.length c1_1]] (by rfl) rfl rfl (by (try simp only [List.map_toArray, List.map_cons, List.map_nil]); first | done | rfl | (simp only [List.length_drop, List.length_take]; rfl)) ?_
         with_reducible refine (integer_Sub.calls a0_0 _ _ l0_1 a1_0 _ _ l1_1 t193 t194 _ ?side1 ?side2 ?side3 ?side4 A41.out).mono ?_
         (case side1 => exact Sq.ca (Kd.C_below HR0_1.out HB.out))
         (case side2 => exact HC0_1.out)
         (case side3 => exact Sq.ca (Kd.C_below HR1_1.out HB.out))
         (case side4 => exact HC1_1.out)
         rintro e w68 ⟨v195, rfl, ho0, hb⟩
         refine ⟨_, rfl, ?_⟩
         have HO196 := Aside0.mk (Kd.R_lower (Kd.R_new' (Kd.R_new' (Kd.R_new' (Kd.R_new' (Kd.R_new' (Kd.R_new' ho0 (Kd.R_lt (Sq.al HO169))) (Kd.R_lt (Sq.al HO173))) (Kd.R_lt (Sq.al HO178))) (Kd.R_lt (Sq.al HO182))) (Kd.R_lt (Sq.al HO187))) (Kd.R_lt (Sq.al HO191))) (below_size (Sq.bl HB)))
         replace BK159 := Sq.bb BK159 hb
         replace BK160 := Sq.bb BK160 hb
         replace BK161 := Sq.bb BK161 hb
         replace HO169 := Aside0.mk (Kd.R_elder' (Sq.al HO169) (Kd.R_base ho0) hb)
         replace HO173 := Aside0.mk (Kd.R_elder' (Sq.al HO173) (Kd.R_base ho0) hb)
         replace HO178 := Aside0.mk (Kd.R_elder' (Sq.al HO178) (Kd.R_base ho0) hb)
         replace HO182 := Aside0.mk (Kd.R_elder' (Sq.al HO182) (Kd.R_base ho0) hb)
         replace HO187 := Aside0.mk (Kd.R_elder' (Sq.al HO187) (Kd.R_base ho0) hb)
         replace HO191 := Aside0.mk (Kd.R_elder' (Sq.al HO191) (Kd.R_base ho0) hb)
         replace HB := Sq.bs HB hb
         (try clear hb)
         (try clear hb2)
         (try clear hk)
         (try clear hi)
         (try clear ho0)
         obtain ⟨Ao69, co69, eo69⟩ := Kd.R_slice HO196.out
         (first | subst eo69 | (injection eo69 with f1_ f2_ f3_; have f4_ := f1_.symm; have f5_ := f3_.symm; clear f1_ f2_ f3_; subst f4_; subst f5_))
         refine hK.out _ _ ⟨(blk_cell BK160.out 0).trans rfl, (blk_cell BK160.out 1).trans rfl, (blk_cell BK159.out 0).trans rfl, (blk_cell BK159.out 1).trans rfl, (blk_cell BK161.out 0).trans rfl, (blk_cell BK161.out 1).trans rfl⟩ (fun hHeld => ?_)
         clear hK K
         refine norm_ (a' := ?_) ?_ ?_
         rotate_left
         ·show Act.put _ (some 61) _ = _
          simp only [Act.put, List.setIfInBounds_toArray, List.set_cons_zero, List.set_cons_succ, i64_w, i32_w]
          rfl
         refine one_ (i := 41) (N := some 62) #[true, true, true, true, true, true, true, true, true, true, true, true, true, true, true, true, true, true, true, true, true, true, true, true, true, true, true, true, true, true, true, true, true, true, true, true, true, true, true, true, true, true, true, false, false, false, false, false, false] rfl rfl (one_of HT_.out (by kernel_rfl)) (by decide) (fun K hK => ?_)
         refine goes_ Try.func66 (by kernel_rfl) rfl #[.agg #[.bool t193, .slice Ao69 t194.length co69]] (by rfl) rfl rfl (by (try simp only [List.map_toArray, List.map_cons, List.map_nil]); first | done | rfl | (simp only [List.length_drop, List.length_take]; rfl)) ?_
         with_reducible refine (integer_Sign.calls t193 _ _ t194 t197 _ ?side1 ?side2 A42.out).mono ?_
         (case side1 => exact Sq.ca (Kd.R_reads' HO196.out).2.2)
         (case side2 => exact (Kd.R_reads' HO196.out).2.1)
         rintro e w70 ⟨rfl, hb⟩
         refine ⟨_, rfl, ?_⟩
         replace HO169 := Aside0.mk (Kd.R_below (Sq.al HO169) hb)
         replace HO173 := Aside0.mk (Kd.R_below (Sq.al HO173) hb)
         replace HO178 := Aside0.mk (Kd.R_below (Sq.al HO178) hb)
         replace HO182 := Aside0.mk (Kd.R_below (Sq.al HO182) hb)
         replace HO187 := Aside0.mk (Kd.R_below (Sq.al HO187) hb)
         replace HO191 := Aside0.mk (Kd.R_below (Sq.al HO191) hb)
         replace HO196 := Aside0.mk (Kd.R_below (Sq.al HO196) hb)
         replace BK159 := Sq.bb BK159 hb
         replace BK160 := Sq.bb BK160 hb
         replace BK161 := Sq.bb BK161 hb
         replace HB := Sq.bs HB hb
         (try clear hb)
         (try clear hb2)
         (try clear hk)
         (try clear hi)
         refine hK.out _ _ ⟨(blk_cell BK160.out 0).trans rfl, (blk_cell BK160.out 1).trans rfl, (blk_cell BK159.out 0).trans rfl, (blk_cell BK159.out 1).trans rfl, (blk_cell BK161.out 0).trans rfl, (blk_cell BK161.out 1).trans rfl⟩ (fun hHeld => ?_)
         clear hK K
         refine norm_ (a' := ?_) ?_ ?_
         rotate_left
         ·show Act.put _ (some 62) _ = _
          simp only [Act.put, List.setIfInBounds_toArray, List.set_cons_zero, List.set_cons_succ, i64_w, i32_w]
          rfl
         refine Sq.pu (v := ?_) (a' := ?_) 43 (some 64) #[true, true, true, true, true, true, true, true, true, true, true, true, true, true, true, true, true, true, true, true, true, true, true, true, true, true, true, true, true, true, true, true, true, true, true, true, true, true, true, true, true, true, true, true, false, false, false, false, false] HT_ ?_ ?_ ?_
         rotate_left
         ·intro w'
          go_simp
          with_reducible rfl
         rotate_left
         ·simp only [Act.put, List.setIfInBounds_toArray, List.set_cons_zero, List.set_cons_succ, i64_w, i32_w]
          rfl
         refine Sq.pu (v := ?_) (a' := ?_) 44 (some 65) #[true, true, true, true, true, true, true, true, true, true, true, true, true, true, true, true, true, true, true, true, true, true, true, true, true, true, true, true, true, true, true, true, true, true, true, true, true, true, true, true, true, true, true, true, true, false, false, false, false] HT_ ?_ ?_ ?_
         rotate_left
         ·intro w'
          go_simp
          with_reducible rfl
         rotate_left
         ·simp only [Act.put, List.setIfInBounds_toArray, List.set_cons_zero, List.set_cons_succ, i64_w, i32_w]
          rfl
         refine Sq.pu (v := ?_) (a' := ?_) 45 (some 66) #[true, true, true, true, true, true, true, true, true, true, true, true, true, true, true, true, true, true, true, true, true, true, true, true, true, true, true, true, true, true, true, true, true, true, true, true, true, true, true, true, true, true, true, true, true, true, false, false, false] HT_ ?_ ?_ ?_
         rotate_left
         ·intro w'
          go_simp
          with_reducible rfl
         rotate_left
         ·simp only [Act.put, List.setIfInBounds_toArray, List.set_cons_zero, List.set_cons_succ, i64_w, i32_w]
          rfl
         refine one_ (i := 46) (N := some 67) #[true, true, true, true, true, true, true, true, true, true, true, true, true, true, true, true, true, true, true, true, true, true, true, true, true, true, true, true, true, true, true, true, true, true, true, true, true, true, true, true, true, true, true, true, true, true, true, false, false] rfl rfl (one_of HT_.out (by kernel_rfl)) (by decide) (fun K hK => ?_)
         refine goes_ Try.func57 (by kernel_rfl) rfl #[] (by rfl) rfl rfl (by (try simp only [List.map_toArray, List.map_cons, List.map_nil]); first | done | rfl | (simp only [List.length_drop, List.length_take]; rfl)) ?_
         with_reducible refine (foliotlaw02_awake.calls  t198 _ A44.out).mono ?_
         rintro e w71 ⟨rfl, hb⟩
         refine ⟨_, rfl, ?_⟩
         replace HO169 := Aside0.mk (Kd.R_below (Sq.al HO169) hb)
         replace HO173 := Aside0.mk (Kd.R_below (Sq.al HO173) hb)
         replace HO178 := Aside0.mk (Kd.R_below (Sq.al HO178) hb)
         replace HO182 := Aside0.mk (Kd.R_below (Sq.al HO182) hb)
         replace HO187 := Aside0.mk (Kd.R_below (Sq.al HO187) hb)
         replace HO191 := Aside0.mk (Kd.R_below (Sq.al HO191) hb)
         replace HO196 := Aside0.mk (Kd.R_below (Sq.al HO196) hb)
         replace BK159 := Sq.bb BK159 hb
         replace BK160 := Sq.bb BK160 hb
         replace BK161 := Sq.bb BK161 hb
         replace HB := Sq.bs HB hb
         (try clear hb)
         (try clear hb2)
         (try clear hk)
         (try clear hi)
         refine hK.out _ _ ⟨(blk_cell BK160.out 0).trans rfl, (blk_cell BK160.out 1).trans rfl, (blk_cell BK159.out 0).trans rfl, (blk_cell BK159.out 1).trans rfl, (blk_cell BK161.out 0).trans rfl, (blk_cell BK161.out 1).trans rfl⟩ (fun hHeld => ?_)
         clear hK K
         refine norm_ (a' := ?_) ?_ ?_
         rotate_left
         ·show Act.put _ (some 67) _ = _
          simp only [Act.put, List.setIfInBounds_toArray, List.set_cons_zero, List.set_cons_succ, i64_w, i32_w]
          rfl
         refine Sq.pu (v := ?_) (a' := ?_) 47 (some 68) #[true, true, true, true, true, true, true, true, true, true, true, true, true, true, true, true, true, true, true, true, true, true, true, true, true, true, true, true, true, true, true, true, true, true, true, true, true, true, true, true, true, true, true, true, true, true, true, true, false] HT_ ?_ ?_ ?_
         rotate_left
         ·intro w'
          go_simp
          with_reducible rfl
         rotate_left
         ·simp only [Act.put, List.setIfInBounds_toArray, List.set_cons_zero, List.set_cons_succ, i64_w, i32_w]
          rfl
         refine Sq.pu (v := ?_) (a' := ?_) 48 (some 6) #[true, true, true, true, true, true, true, true, true, true, true, true, true, true, true, true, true, true, true, true, true, true, true, true, true, true, true, true, true, true, true, true, true, true, true, true, true, true, true, true, true, true, true, true, true, true, true, true, true] HT_ ?_ ?_ ?_
         rotate_left
         ·intro w'
          go_simp
          with_reducible rfl
         rotate_left
         ·simp only [Act.put, List.setIfInBounds_toArray, List.set_cons_zero, List.set_cons_succ, i64_w, i32_w]
          rfl
         refine done_ (done_of HT_.out (by kernel_rfl)) ?_
         try go_wp2
         go_ret
         exact ⟨by first | rfl | (simp [errW_none, errW_some] <;> rfl) | (simp [*, errW_none, errW_some] <;> rfl), Sq.bl HB⟩
        ·rw [if_neg c43] at H
         have c43b0 : (t197 == t164) = false := beq_eq_false_iff_ne.mpr c43
         have c43b1 : (t197 != t164) = true := bne_iff_ne.mpr c43
         exact absurd H (by simp)
       ·rw [if_neg c40] at H
        have c40b0 : ((t164 == 0) == t192) = false := by simpa using c40
        (try (have c40b1 : decide ((t164 == 0) = t192) = false := by simpa using c40))
        (try (have c40b2 : ((t164 == 0) == t192) = false := by simpa using c40))
        (try (have c40b3 : ¬ ((t164 == 0) = t192) := by simpa using c40))
        clear c40
        exact absurd H (by simp)
      ·rw [if_neg c36] at H
       have c36b0 : (t183 == (wrap64 (-t164))) = false := beq_eq_false_iff_ne.mpr c36
       have c36b1 : (t183 != (wrap64 (-t164))) = true := bne_iff_ne.mpr c36
       exact absurd H (by simp)
     ·rw [if_neg c32] at H
      have c32b0 : (t174 == t164) = false := beq_eq_false_iff_ne.mpr c32
      have c32b1 : (t174 != t164) = true := bne_iff_ne.mpr c32
      exact absurd H (by simp)
    ·rw [if_neg c28] at H
     have c28b0 : (t165 == (wrap64 (-t164))) = false := beq_eq_false_iff_ne.mpr c28
     have c28b1 : (t165 != (wrap64 (-t164))) = true := bne_iff_ne.mpr c28
     exact absurd H (by simp)
end Go.Proofs.Ytaclkccgjpjdjaa.BO
