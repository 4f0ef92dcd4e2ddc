import Derived.Test.YtaclkccgjpjdjaaQjoggjjmeebIx0
import Derived.Test.YtaclkccgjpjdjaaQbihmhmnfomIx3
import Derived.Test.YtaclkccgjpjdjaaQpkibiefcpbIx4
import Derived.Test.YtaclkccgjpjdjaaQkdgeadahooM
namespace Go.Proofs.Ytaclkccgjpjdjaa.I
open Go.RowKit Go.Proofs.YtaclkccgjpjdjaaW.PrintWords Go.Proofs.YtaclkccgjpjdjaaW.PrintLast Go.Proofs.YtaclkccgjpjdjaaW.PrintMore
attribute [local go_sem] max2_int min2_int max_two min_two max_three min_three max_four min_four   -- for this text's walks alone
set_option linter.unusedVariables false
set_option linter.unusedSimpArgs false
def foliotref01_Cmp.f (l0 : List Int) (l1 : List Int) : Option (Int) := if Nb.rfits l0 ∧ Nb.rfits l1 then some (Nb.cmp3 (Nt.val l0) (Nt.val l1)) else none
theorem foliotref01_Cmp.calls (A0 : Option Addr) (c0 : Nat) (l0 : List Int) (A1 : Option Addr) (c1 : Nat) (l1 : List Int) (r : Int) (w : World) (hr0 : Kd.C (Kd.int .u32) w A0 l0.length l0) (hc0 : l0.length ≤ c0) (hr1 : Kd.C (Kd.int .u32) w A1 l1.length l1) (hc1 : l1.length ≤ c1) (h : foliotref01_Cmp.f l0 l1 = some r) :
  Calls Try.prog 49 #[.slice A0 l0.length c0, .slice A1 l1.length c1] w fun e w' => e = .returned (.int .i64 r) ∧ Below w.heap.size w w' := by
 unfold foliotref01_Cmp.f at h
 split at h
 ·rename_i hf
  injection h with h
  obtain ⟨K, hK⟩ := Nb.rcmp_ev hf.1.2 hf.2.2 hf.1.1 hf.2.1
  exact N.foliotref01_Cmp.calls K A0 c0 l0 A1 c1 l1 _ w hr0 hc0 hr1 hc1 ((hK K (Nat.le_refl _)).trans (congrArg some h))
 ·cases h
def foliotref02_Add.f (a0_0 : Bool) (l0_1 : List Int) (a1_0 : Bool) (l1_1 : List Int) : Option (Bool × List Int) := (foliotref02_Norm.f a0_0 l0_1).bind fun bt325 => ((foliotref02_Norm.f a1_0 l1_1).bind fun bt329 => (if (bt325.1 == bt329.1) = true then ((foliotref01_Add.f bt325.2 bt329.2).bind fun t333 => ((foliotref02_Norm.f bt325.1 t333).bind fun bt336 => (some (bt336.1, bt336.2)))) else ((foliotref01_Cmp.f bt325.2 bt329.2).bind fun t340 => (if t340 ≥ 0 then ((foliotref01_Sub.f bt325.2 bt329.2).bind fun bt341 => ((foliotref02_Norm.f bt325.1 bt341.1).bind fun bt345 => (some (bt345.1, bt345.2)))) else ((foliotref01_Sub.f bt329.2 bt325.2).bind fun bt349 => ((foliotref02_Norm.f bt329.1 bt349.1).bind fun bt353 => (some (bt353.1, bt353.2))))))))
def foliotref02_Add.T4 : Bool × List (List Nat × List Nat) := (true, [([], []), ([0], [0]), ([], []), ([2], [2]), ([], []), ([4], [4]), ([3, 5], [3, 5]), ([1, 6], [1, 6]), ([7, 6], [7]), ([8, 8, 0, 1, 2, 3, 4, 5, 6, 7, 8], [8])])
def foliotref02_Add.B4 : List Nat := [0, 1, 0, 4, 0, 16, 60, 127, 255, 511]
theorem foliotref02_Add.tab4 : rtab .any (opsOf Try.f74 4) = foliotref02_Add.T4 := by kernel_rfl
theorem foliotref02_Add.bits4 : waitsOk foliotref02_Add.T4.2 foliotref02_Add.B4 = true := by kernel_rfl
set_option maxHeartbeats 8000000 in
set_option maxRecDepth 100000 in
theorem foliotref02_Add.calls (a0_0 : Bool) (A0_1 : Option Addr) (c0_1 : Nat) (l0_1 : List Int) (a1_0 : Bool) (A1_1 : Option Addr) (c1_1 : Nat) (l1_1 : List Int) (r1 : Bool) (r2 : List Int) (w : World) (hr0_1 : Kd.C (Kd.int .u32) w A0_1 l0_1.length l0_1) (hc0_1 : l0_1.length ≤ c0_1) (hr1_1 : Kd.C (Kd.int .u32) w A1_1 l1_1.length l1_1) (hc1_1 : l1_1.length ≤ c1_1) (h : foliotref02_Add.f a0_0 l0_1 a1_0 l1_1 = some (r1, r2)) :
  Calls Try.prog 74 #[.agg #[.bool a0_0, .slice A0_1 l0_1.length c0_1], .agg #[.bool a1_0, .slice A1_1 l1_1.length c1_1]] w fun e w' => ∃ v1_ : Value, e = .returned (.agg #[.bool r1, v1_]) ∧ Kd.R (Kd.int .u32) 107 w' w.heap.size (fun _ => True) v1_ r2 ∧ Below w.heap.size w w' := by
 have hu39 := Try.underlying39
 have HR0_1 := Aside0.mk hr0_1
 have HC0_1 := Aside0.mk hc0_1
 clear hr0_1 hc0_1
 have HR1_1 := Aside0.mk hr1_1
 have HC1_1 := Aside0.mk hc1_1
 clear hr1_1 hc1_1
 have HB := Aside0.mk (Below.refl w.heap.size w)
 have H : ((foliotref02_Norm.f a0_0 l0_1).bind fun bt325 => ((foliotref02_Norm.f a1_0 l1_1).bind fun bt329 => (if (bt325.1 == bt329.1) = true then ((foliotref01_Add.f bt325.2 bt329.2).bind fun t333 => ((foliotref02_Norm.f bt325.1 t333).bind fun bt336 => (some (bt336.1, bt336.2)))) else ((foliotref01_Cmp.f bt325.2 bt329.2).bind fun t340 => (if t340 ≥ 0 then ((foliotref01_Sub.f bt325.2 bt329.2).bind fun bt341 => ((foliotref02_Norm.f bt325.1 bt341.1).bind fun bt345 => (some (bt345.1, bt345.2)))) else ((foliotref01_Sub.f bt329.2 bt325.2).bind fun bt349 => ((foliotref02_Norm.f bt329.1 bt349.1).bind fun bt353 => (some (bt353.1, bt353.2))))))))) = some (r1, r2) := h
 clear h
 replace H := Sq.bd H
 obtain ⟨⟨t325, t326⟩, A3, H⟩ := H
 (try dsimp -simprocs only at H)
 replace H := Sq.bd H
 obtain ⟨⟨t329, t330⟩, A4, H⟩ := H
 (try dsimp -simprocs only at H)
 by_cases c5 : (t325 == t329) = true
 ·rw [if_pos c5] at H
  have c5b0 : (t325 == t329) = true := c5
  (try (have c5b1 : decide (t325 = t329) = true := by simpa using c5))
  (try (have c5b2 : (t325 == t329) = true := by simpa using c5))
  clear c5
  replace H := Sq.bd H
  obtain ⟨t333, A6, H⟩ := H
  (try dsimp -simprocs only at H)
  replace H := Sq.bd H
  obtain ⟨⟨t336, t337⟩, A7, H⟩ := H
  (try dsimp -simprocs only at H)
  simp only [Option.some.injEq, Prod.mk.injEq] at H
  obtain ⟨rfl, rfl⟩ := H
  go_enter Try.func74, Try.ntmps74
  try go_wp2_with (first | ((with_reducible refine gate_dst (N := 2) rfl ?_); refine box_event ?hg (N := 2) ?hd (cs := #[.bool a0_0, .slice A0_1 l0_1.length c0_1]) (t := 39) ?hr ?_; (case hd => rfl); (case hg => rfl); (case hr => first | (go_simp; done) | (go_simp; rfl)); intro gb322 hg w8 hbox hb; have BK322 := Aside0.mk (hbox); have GW322 := Sq.gw HB hg; have GE322 := Sq.gw HB hg; replace HB := Sq.bs HB hb; clear hb hbox hg) | ((with_reducible refine gate_dst (N := 3) rfl ?_); refine box_event ?hg (N := 3) ?hd (cs := #[.bool a1_0, .slice A1_1 l1_1.length c1_1]) (t := 39) ?hr ?_; (case hd => rfl); (case hg => rfl); (case hr => first | (go_simp; done) | (go_simp; rfl)); intro gb323 hg w9 hbox hb; have BK323 := Aside0.mk (hbox); have GW323 := Sq.gw HB hg; have GE323 := Sq.gw HB hg; have NB322_323 := Sq.nl BK322 hg; have NB323_322 := Sq.ng BK322 hg; replace BK322 := Sq.bb BK322 hb; replace HB := Sq.bs HB hb; clear hb hbox hg) | ((with_reducible refine gate_dst (N := 4) rfl ?_); refine box_event ?hg (N := 4) ?hd (cs := #[.bool false, .slice none 0 0]) (t := 39) ?hr ?_; (case hd => rfl); (case hg => rfl); (case hr => first | (go_simp; done) | (go_simp; rfl)); intro gb324 hg w10 hbox hb; have BK324 := Aside0.mk (hbox); have GW324 := Sq.gw HB hg; have GE324 := Sq.gw HB hg; have NB322_324 := Sq.nl BK322 hg; have NB324_322 := Sq.ng BK322 hg; have NB323_324 := Sq.nl BK323 hg; have NB324_323 := Sq.ng BK323 hg; replace BK322 := Sq.bb BK322 hb; replace BK323 := Sq.bb BK323 hb; replace HB := Sq.bs HB hb; clear hb hbox hg; have hnb11 := NB322_323.out; have hnc11 := NB323_322.out; have hnb12 := NB322_324.out; have hnc12 := NB324_322.out; have hcz13_0 := Sq.bc BK322 0 (.bool a0_0); have hcz13_1 := Sq.bc BK322 1 (.slice A0_1 l0_1.length c0_1); have hfz13_0 := blk_frozen BK322.out 0; have hfz13_1 := blk_frozen BK322.out 1) | ((with_reducible refine gate_callee (f := 73) rfl ?_); refine Sq.gl (some 10) Try.func73 #[.agg #[.bool a0_0, .slice A0_1 l0_1.length c0_1]] ?_; (with_reducible refine (foliotref02_Norm.calls a0_0 _ _ l0_1 t325 t326 _ ?side1 ?side2 A3.out).mono ?_); (case side1 => exact Sq.ca (Kd.C_below HR0_1.out HB.out)); (case side2 => exact HC0_1.out); rintro e w14 ⟨v327, rfl, ho0, hb⟩; refine ⟨_, rfl, ?_⟩; have HO328 := Aside0.mk (Kd.R_lower ho0 (below_size (Sq.bl HB))); replace BK322 := Sq.bb BK322 hb; replace BK323 := Sq.bb BK323 hb; replace BK324 := Sq.bb BK324 hb; replace HB := Sq.bs HB hb; (try clear hb); (try clear hb2); (try clear hk); (try clear hi); (try clear ho0); have hcz15_0 := Sq.bc BK322 0 (.bool a0_0); have hcz15_1 := Sq.bc BK322 1 (.slice A0_1 l0_1.length c0_1); have hfz15_0 := blk_frozen BK322.out 0; have hfz15_1 := blk_frozen BK322.out 1; obtain ⟨Ao16, co16, eo16⟩ := Kd.R_slice HO328.out; subst eo16; have hnb17 := NB323_324.out; have hnc17 := NB324_323.out; have hcz18_0 := Sq.bc BK323 0 (.bool a1_0); have hcz18_1 := Sq.bc BK323 1 (.slice A1_1 l1_1.length c1_1); have hfz18_0 := blk_frozen BK323.out 0; have hfz18_1 := blk_frozen BK323.out 1) | ((with_reducible refine gate_callee (f := 73) rfl ?_); refine Sq.gl (some 12) Try.func73 #[.agg #[.bool a1_0, .slice A1_1 l1_1.length c1_1]] ?_; (with_reducible refine (foliotref02_Norm.calls a1_0 _ _ l1_1 t329 t330 _ ?side1 ?side2 A4.out).mono ?_); (case side1 => exact Kd.C_below HR1_1.out (Sq.bl HB)); (case side2 => exact HC1_1.out); rintro e w19 ⟨v331, rfl, ho0, hb⟩; refine ⟨_, rfl, ?_⟩; have HO332 := Aside0.mk (Kd.R_lower (Kd.R_new' ho0 (Kd.R_lt (by (with_reducible repeat (first | apply Kd.R_alloc | apply Kd.R_drewN | apply Kd.R_drew)); exact (Kd.R_mono (Kd.R_far (p := ⟨gb322, 1, none⟩) (Kd.R_far (p := ⟨gb322, 0, none⟩) (Sq.rt HO328.out BK322) (fun _ hk => hk.2) (.bool t325)) (fun _ hk => hk.2) (.slice Ao16 t326.length co16)) (fun _ h_ => h_.1))))) (below_size (Sq.bl HB))); replace BK323 := Aside0.mk (blk_below (g := gb323) (o := .cells #[.bool a1_0, .slice A1_1 l1_1.length c1_1] 39 (0, 0)) (by (with_reducible repeat (first | refine blk_drewN ?_ _ | refine blk_drew ?_ | refine blk_alloc ?_ _)); refine blk_far ?_ NB323_322.out _; (with_reducible repeat (first | refine blk_drewN ?_ _ | refine blk_drew ?_ | refine blk_alloc ?_ _)); refine blk_far ?_ NB323_322.out _; (with_reducible repeat (first | refine blk_drewN ?_ _ | refine blk_drew ?_ | refine blk_alloc ?_ _)); exact BK323.out) hb); replace BK324 := Aside0.mk (blk_below (g := gb324) (o := .cells #[.bool false, .slice none 0 0] 39 (0, 0)) (by (with_reducible repeat (first | refine blk_drewN ?_ _ | refine blk_drew ?_ | refine blk_alloc ?_ _)); refine blk_far ?_ NB324_322.out _; (with_reducible repeat (first | refine blk_drewN ?_ _ | refine blk_drew ?_ | refine blk_alloc ?_ _)); refine blk_far ?_ NB324_322.out _; (with_reducible repeat (first | refine blk_drewN ?_ _ | refine blk_drew ?_ | refine blk_alloc ?_ _)); exact BK324.out) hb); replace HO328 := Aside0.mk (Kd.R_elder' (by (with_reducible repeat (first | apply Kd.R_alloc | apply Kd.R_drewN | apply Kd.R_drew)); exact (Kd.R_mono (Kd.R_far (p := ⟨gb322, 1, none⟩) (Kd.R_far (p := ⟨gb322, 0, none⟩) (Sq.rt HO328.out BK322) (fun _ hk => hk.2) (.bool t325)) (fun _ hk => hk.2) (.slice Ao16 t326.length co16)) (fun _ h_ => h_.1))) (Kd.R_base ho0) hb); replace HB := Sq.bs HB hb; replace BK322 := Aside0.mk (blk_below (g := gb322) (o := .cells #[.bool t325, .slice Ao16 t326.length co16] 39 (0, 0)) (by (with_reducible repeat (first | refine blk_drewN ?_ _ | refine blk_drew ?_ | refine blk_alloc ?_ _)); refine blk_put (cs := #[.bool t325, .slice A0_1 l0_1.length c0_1]) ?_ 1 _ rfl; (with_reducible repeat (first | refine blk_drewN ?_ _ | refine blk_drew ?_ | refine blk_alloc ?_ _)); refine blk_put (cs := #[.bool a0_0, .slice A0_1 l0_1.length c0_1]) ?_ 0 _ rfl; (with_reducible repeat (first | refine blk_drewN ?_ _ | refine blk_drew ?_ | refine blk_alloc ?_ _)); exact BK322.out) hb); (try clear hb); (try clear hb2); (try clear hk); (try clear hi); (try clear ho0); have hcz20_0 := Sq.bc BK323 0 (.bool a1_0); have hcz20_1 := Sq.bc BK323 1 (.slice A1_1 l1_1.length c1_1); have hfz20_0 := blk_frozen BK323.out 0; have hfz20_1 := blk_frozen BK323.out 1; obtain ⟨Ao21, co21, eo21⟩ := Kd.R_slice HO332.out; subst eo21; have hcz22_0 := Sq.bc BK322 0 (.bool t325); have hcz22_1 := Sq.bc BK322 1 (.slice Ao16 t326.length co16); have hfz22_0 := blk_frozen BK322.out 0; have hfz22_1 := blk_frozen BK322.out 1))
  have n0_ : Aside0 (Kd.R (Kd.int .u32) 107 ((w19.setCell ⟨gb323, 0, none⟩ (.bool t329)).setCell ⟨gb323, 1, none⟩ (.slice Ao21 t330.length co21)) w.heap.size (fun k_ => some k_ ≠ (.slice Ao21 t330.length co21 : Value).ownBlock) (.slice Ao16 t326.length co16) t326) := ⟨by (with_reducible repeat (first | apply Kd.R_alloc | apply Kd.R_drewN | apply Kd.R_drew)); exact Kd.R_mono (Kd.R_far (p := ⟨gb323, 1, none⟩) (Kd.R_far (p := ⟨gb323, 0, none⟩) (Sq.rt HO328.out BK323) (fun _ hk => hk.2) (.bool t329)) (fun _ hk => hk.2) (.slice Ao21 t330.length co21)) (fun _ hk => hk.1.2)⟩
  have n1_ : Aside0 (Kd.R (Kd.int .u32) 107 ((w19.setCell ⟨gb323, 0, none⟩ (.bool t329)).setCell ⟨gb323, 1, none⟩ (.slice Ao21 t330.length co21)) w.heap.size (fun k_ => some k_ ≠ (.slice Ao16 t326.length co16 : Value).ownBlock) (.slice Ao21 t330.length co21) t330) := ⟨by (with_reducible repeat (first | apply Kd.R_alloc | apply Kd.R_drewN | apply Kd.R_drew)); exact Kd.R_mono (Kd.R_far (p := ⟨gb323, 1, none⟩) (Kd.R_far (p := ⟨gb323, 0, none⟩) (Sq.rt HO332.out BK323) (fun _ hk => hk.2) (.bool t329)) (fun _ hk => hk.2) (.slice Ao21 t330.length co21)) (fun _ hk => hk.1.2)⟩
  have n2_ : Aside0 (((w19.setCell ⟨gb323, 0, none⟩ (.bool t329)).setCell ⟨gb323, 1, none⟩ (.slice Ao21 t330.length co21)).heap[gb322]? = some (.cells #[.bool t325, .slice Ao16 t326.length co16] 39 (0, 0))) := ⟨by (with_reducible repeat (first | refine blk_drewN ?_ _ | refine blk_drew ?_ | refine blk_alloc ?_ _)); refine blk_far ?_ NB322_323.out _; (with_reducible repeat (first | refine blk_drewN ?_ _ | refine blk_drew ?_ | refine blk_alloc ?_ _)); refine blk_far ?_ NB322_323.out _; (with_reducible repeat (first | refine blk_drewN ?_ _ | refine blk_drew ?_ | refine blk_alloc ?_ _)); exact BK322.out⟩
  have n3_ : Aside0 (((w19.setCell ⟨gb323, 0, none⟩ (.bool t329)).setCell ⟨gb323, 1, none⟩ (.slice Ao21 t330.length co21)).heap[gb323]? = some (.cells #[.bool t329, .slice Ao21 t330.length co21] 39 (0, 0))) := ⟨by (with_reducible repeat (first | refine blk_drewN ?_ _ | refine blk_drew ?_ | refine blk_alloc ?_ _)); refine blk_put (cs := #[.bool t329, .slice A1_1 l1_1.length c1_1]) ?_ 1 _ rfl; (with_reducible repeat (first | refine blk_drewN ?_ _ | refine blk_drew ?_ | refine blk_alloc ?_ _)); refine blk_put (cs := #[.bool a1_0, .slice A1_1 l1_1.length c1_1]) ?_ 0 _ rfl; (with_reducible repeat (first | refine blk_drewN ?_ _ | refine blk_drew ?_ | refine blk_alloc ?_ _)); exact BK323.out⟩
  have n4_ : Aside0 (((w19.setCell ⟨gb323, 0, none⟩ (.bool t329)).setCell ⟨gb323, 1, none⟩ (.slice Ao21 t330.length co21)).heap[gb324]? = some (.cells #[.bool false, .slice none 0 0] 39 (0, 0))) := ⟨by (with_reducible repeat (first | refine blk_drewN ?_ _ | refine blk_drew ?_ | refine blk_alloc ?_ _)); refine blk_far ?_ NB324_323.out _; (with_reducible repeat (first | refine blk_drewN ?_ _ | refine blk_drew ?_ | refine blk_alloc ?_ _)); refine blk_far ?_ NB324_323.out _; (with_reducible repeat (first | refine blk_drewN ?_ _ | refine blk_drew ?_ | refine blk_alloc ?_ _)); exact BK324.out⟩
  have n5_ : Aside0 (Below w.heap.size w ((w19.setCell ⟨gb323, 0, none⟩ (.bool t329)).setCell ⟨gb323, 1, none⟩ (.slice Ao21 t330.length co21))) := ⟨Sq.bl HB⟩
  (try clear HO328)
  (try clear HO332)
  (try clear BK322)
  (try clear BK323)
  (try clear BK324)
  (try clear HB)
  generalize ((w19.setCell ⟨gb323, 0, none⟩ (.bool t329)).setCell ⟨gb323, 1, none⟩ (.slice Ao21 t330.length co21)) = w23 at n0_ n1_ n2_ n3_ n4_ n5_ ⊢
  have HO328 := n0_
  have HO332 := n1_
  have BK322 := n2_
  have BK323 := n3_
  have BK324 := n4_
  have HB := n5_
  clear n0_ n1_ n2_ n3_ n4_ n5_
  replace HO328 := Aside0.mk (Kd.R_drew HO328.out)
  replace HO332 := Aside0.mk (Kd.R_drew HO332.out)
  replace BK322 := Aside0.mk (blk_drew BK322.out)
  replace BK323 := Aside0.mk (blk_drew BK323.out)
  replace BK324 := Aside0.mk (blk_drew BK324.out)
  replace HB := Aside0.mk (below_drew1 HB.out)
  refine start_ (n := 10) (S := fun w' => w'.cell? ⟨gb322, 0, none⟩ = some (.bool t325) ∧ w'.cell? ⟨gb322, 1, none⟩ = some (.slice Ao16 t326.length co16) ∧ w'.cell? ⟨gb323, 0, none⟩ = some (.bool t329) ∧ w'.cell? ⟨gb323, 1, none⟩ = some (.slice Ao21 t330.length co21)) (ds := []) #[false, false, false, false, false, false, false, false, false, false] (by kernel_rfl) rfl rfl ⟨(blk_cell BK322.out 0).trans rfl, (blk_cell BK322.out 1).trans rfl, (blk_cell BK323.out 0).trans rfl, (blk_cell BK323.out 1).trans rfl⟩ (fun hHeld => ?_); refine with_tabW foliotref02_Add.tab4 foliotref02_Add.bits4 (fun HT_ HW_ => ?_)
  generalize w23.drew = w24 at HO328 HO332 BK322 BK323 BK324 HB hHeld ⊢
  refine Sq.pu (v := ?_) (a' := ?_) 0 (some 18) #[true, false, false, false, false, false, false, false, false, false] HT_ ?_ ?_ ?_
  rotate_left
  ·intro w'
   go_simp
   with_reducible rfl
  rotate_left
  ·simp only [Act.put, List.setIfInBounds_toArray, List.set_cons_zero, List.set_cons_succ, i64_w, i32_w]
   rfl
  refine Sq.pu (v := ?_) (a' := ?_) 2 (some 20) #[true, false, true, false, false, false, false, false, false, false] HT_ ?_ ?_ ?_
  rotate_left
  ·intro w'
   go_simp
   with_reducible rfl
  rotate_left
  ·simp only [Act.put, List.setIfInBounds_toArray, List.set_cons_zero, List.set_cons_succ, i64_w, i32_w]
   rfl
  refine Sq.pu (v := ?_) (a' := ?_) 4 (some 22) #[true, false, true, false, true, false, false, false, false, false] HT_ ?_ ?_ ?_
  rotate_left
  ·intro w'
   go_simp
   with_reducible rfl
  rotate_left
  ·simp only [Act.put, List.setIfInBounds_toArray, List.set_cons_zero, List.set_cons_succ, i64_w, i32_w]
   rfl
  refine Sq.tk (v := ?_) (a' := ?_) 1 (some 19) #[true, true, true, false, true, false, false, false, false, false] HT_ HW_ hHeld ?_ ?_ ?_
  rotate_left
  ·rintro w' ⟨s0, s1, s2, s3⟩
   go_simp
   with_reducible rfl
  rotate_left
  ·simp only [Act.put, List.setIfInBounds_toArray, List.set_cons_zero, List.set_cons_succ, i64_w, i32_w]
   rfl
  refine Sq.tk (v := ?_) (a' := ?_) 3 (some 21) #[true, true, true, true, true, false, false, false, false, false] HT_ HW_ hHeld ?_ ?_ ?_
  rotate_left
  ·rintro w' ⟨s0, s1, s2, s3⟩
   go_simp
   with_reducible rfl
  rotate_left
  ·simp only [Act.put, List.setIfInBounds_toArray, List.set_cons_zero, List.set_cons_succ, i64_w, i32_w]
   rfl
  refine Sq.tk (v := ?_) (a' := ?_) 5 (some 23) #[true, true, true, true, true, true, false, false, false, false] HT_ HW_ hHeld ?_ ?_ ?_
  rotate_left
  ·rintro w' ⟨s0, s1, s2, s3⟩
   go_simp
   with_reducible rfl
  rotate_left
  ·simp only [Act.put, List.setIfInBounds_toArray, List.set_cons_zero, List.set_cons_succ, i64_w, i32_w]
   rfl
  refine one_ (i := 6) (N := some 24) #[true, true, true, true, true, true, true, false, false, false] rfl rfl (one_of HT_.out (by kernel_rfl)) (by decide) (fun K hK => ?_)
  refine goes_ Try.func47 (by kernel_rfl) rfl #[.slice Ao16 t326.length co16, .slice Ao21 t330.length co21] (by rfl) rfl rfl (by (try simp only [List.map_toArray, List.map_cons, List.map_nil]); first | done | rfl | (simp only [List.length_drop, List.length_take]; rfl)) ?_
  with_reducible refine (foliotref01_Add.calls _ _ t326 _ _ t330 t333 _ ?side1 ?side2 ?side3 ?side4 A6.out).mono ?_
  (case side1 => exact Sq.ca (Kd.R_reads' HO328.out).2.2)
  (case side2 => exact (Kd.R_reads' HO328.out).2.1)
  (case side3 => exact Sq.ca (Kd.R_reads' HO332.out).2.2)
  (case side4 => exact (Kd.R_reads' HO332.out).2.1)
  rintro e w25 ⟨v334, rfl, ho0, hb⟩
  refine ⟨_, rfl, ?_⟩
  have HO335 := Aside0.mk (Kd.R_lower (Kd.R_new' (Kd.R_new' ho0 (Kd.R_lt (Sq.al HO328))) (Kd.R_lt (Sq.al HO332))) (below_size (Sq.bl HB)))
  replace BK322 := Sq.bb BK322 hb
  replace BK323 := Sq.bb BK323 hb
  replace BK324 := Sq.bb BK324 hb
  replace HO328 := Aside0.mk (Kd.R_elder' (Sq.al HO328) (Kd.R_base ho0) hb)
  replace HO332 := Aside0.mk (Kd.R_elder' (Sq.al HO332) (Kd.R_base ho0) hb)
  replace HB := Sq.bs HB hb
  (try clear hb)
  (try clear hb2)
  (try clear hk)
  (try clear hi)
  (try clear ho0)
  obtain ⟨Ao26, co26, eo26⟩ := Kd.R_slice HO335.out
  (first | subst eo26 | (injection eo26 with f1_ f2_ f3_; have f4_ := f1_.symm; have f5_ := f3_.symm; clear f1_ f2_ f3_; subst f4_; subst f5_))
  refine hK.out _ _ ⟨(blk_cell BK322.out 0).trans rfl, (blk_cell BK322.out 1).trans rfl, (blk_cell BK323.out 0).trans rfl, (blk_cell BK323.out 1).trans rfl⟩ (fun hHeld => ?_)
  clear hK K
  refine norm_ (a' := ?_) ?_ ?_
  rotate_left
  ·show Act.put _ (some 24) _ = _
   simp only [Act.put, List.setIfInBounds_toArray, List.set_cons_zero, List.set_cons_succ, i64_w, i32_w]
   rfl
  refine Sq.pu (v := ?_) (a' := ?_) 7 (some 25) #[true, true, true, true, true, true, true, true, false, false] HT_ ?_ ?_ ?_
  rotate_left
  ·intro w'
   go_simp
   with_reducible rfl
  rotate_left
  ·simp only [Act.put, List.setIfInBounds_toArray, List.set_cons_zero, List.set_cons_succ, i64_w, i32_w]
   rfl
  refine one_ (i := 8) (N := some 26) #[true, true, true, true, true, true, true, true, true, false] rfl rfl (one_of HT_.out (by kernel_rfl)) (by decide) (fun K hK => ?_)
  refine goes_ Try.func73 (by kernel_rfl) rfl #[.agg #[.bool t325, .slice Ao26 t333.length co26]] (by rfl) rfl rfl (by (try simp only [List.map_toArray, List.map_cons, List.map_nil]); first | done | rfl | (simp only [List.length_drop, List.length_take]; rfl)) ?_
  with_reducible refine (foliotref02_Norm.calls t325 _ _ t333 t336 t337 _ ?side1 ?side2 A7.out).mono ?_
  (case side1 => exact Sq.ca (Kd.R_reads' HO335.out).2.2)
  (case side2 => exact (Kd.R_reads' HO335.out).2.1)
  rintro e w27 ⟨v338, rfl, ho0, hb⟩
  refine ⟨_, rfl, ?_⟩
  have HO339 := Aside0.mk (Kd.R_lower (Kd.R_new' (Kd.R_new' (Kd.R_new' ho0 (Kd.R_lt (Sq.al HO328))) (Kd.R_lt (Sq.al HO332))) (Kd.R_lt (Sq.al HO335))) (below_size (Sq.bl HB)))
  replace BK322 := Sq.bb BK322 hb
  replace BK323 := Sq.bb BK323 hb
  replace BK324 := Sq.bb BK324 hb
  replace HO328 := Aside0.mk (Kd.R_elder' (Sq.al HO328) (Kd.R_base ho0) hb)
  replace HO332 := Aside0.mk (Kd.R_elder' (Sq.al HO332) (Kd.R_base ho0) hb)
  replace HO335 := Aside0.mk (Kd.R_elder' (Sq.al HO335) (Kd.R_base ho0) hb)
  replace HB := Sq.bs HB hb
  (try clear hb)
  (try clear hb2)
  (try clear hk)
  (try clear hi)
  (try clear ho0)
  obtain ⟨Ao29, co29, eo29⟩ := Kd.R_slice HO339.out
  (first | subst eo29 | (injection eo29 with f1_ f2_ f3_; have f4_ := f1_.symm; have f5_ := f3_.symm; clear f1_ f2_ f3_; subst f4_; subst f5_))
  refine hK.out _ _ ⟨(blk_cell BK322.out 0).trans rfl, (blk_cell BK322.out 1).trans rfl, (blk_cell BK323.out 0).trans rfl, (blk_cell BK323.out 1).trans rfl⟩ (fun hHeld => ?_)
  clear hK K
  refine norm_ (a' := ?_) ?_ ?_
  rotate_left
  ·show Act.put _ (some 26) _ = _
   simp only [Act.put, List.setIfInBounds_toArray, List.set_cons_zero, List.set_cons_succ, i64_w, i32_w]
   rfl
  refine one_ (i := 9) (N := none) #[true, true, true, true, true, true, true, true, true, true] rfl rfl (one_of HT_.out (by kernel_rfl)) (by decide) (fun K hK => ?_)
  have hs28 : w27.cell? ⟨gb324, 0, none⟩ = some (.bool false) := (blk_cell BK324.out 0).trans rfl
  have hfs28 := blk_frozen BK324.out 0
  have hns28_0 := NB322_324.out
  have hns28_1 := NB323_324.out
  have hms28_0 := NB324_322.out
  have hms28_1 := NB324_323.out
  have hs30 : w27.cell? ⟨gb324, 1, none⟩ = some (.slice none 0 0) := (blk_cell BK324.out 1).trans rfl
  have hfs30 := blk_frozen BK324.out 1
  have hns30_0 := NB322_324.out
  have hns30_1 := NB323_324.out
  have hms30_0 := NB324_322.out
  have hms30_1 := NB324_323.out
  refine skip_ (w1 := ?_) (by rfl) rfl ?_ ?_
  rotate_left
  ·go_simp
   rfl
  refine hK.out _ _ ⟨((cell_far (p := ⟨gb324, _, none⟩) NB322_324.out _).trans (((cell_far (p := ⟨gb324, _, none⟩) NB322_324.out _).trans (hHeld.1)))), ((cell_far (p := ⟨gb324, _, none⟩) NB322_324.out _).trans (((cell_far (p := ⟨gb324, _, none⟩) NB322_324.out _).trans (hHeld.2.1)))), ((cell_far (p := ⟨gb324, _, none⟩) NB323_324.out _).trans (((cell_far (p := ⟨gb324, _, none⟩) NB323_324.out _).trans (hHeld.2.2.1)))), ((cell_far (p := ⟨gb324, _, none⟩) NB323_324.out _).trans (((cell_far (p := ⟨gb324, _, none⟩) NB323_324.out _).trans (hHeld.2.2.2))))⟩ (fun hHeld => ?_)
  clear hK K
  refine done_ (done_of HT_.out (by kernel_rfl)) ?_
  try go_wp2
  refine bodyPost_ret (results_cell_row rfl _ _ gb324 39 #[.bool t336, .slice Ao29 t337.length co29] (0, 0) _ rfl (by (with_reducible repeat (first | refine blk_drewN ?_ _ | refine blk_drew ?_ | refine blk_alloc ?_ _)); refine blk_put (cs := #[.bool t336, .slice none 0 0]) ?_ 1 _ rfl; (with_reducible repeat (first | refine blk_drewN ?_ _ | refine blk_drew ?_ | refine blk_alloc ?_ _)); refine blk_put (cs := #[.bool false, .slice none 0 0]) ?_ 0 _ rfl; (with_reducible repeat (first | refine blk_drewN ?_ _ | refine blk_drew ?_ | refine blk_alloc ?_ _)); exact BK324.out) Try.underlying39 rfl (by kernel_rfl)) rfl ?_
  exact ⟨_, by first | rfl | (simp [errW_none, errW_some] <;> rfl) | (simp [*, errW_none, errW_some] <;> rfl), by (with_reducible repeat (first | apply Kd.R_alloc | apply Kd.R_drewN | apply Kd.R_drew)); exact Kd.R_mono (Kd.R_far (p := ⟨gb324, 1, none⟩) (Kd.R_far (p := ⟨gb324, 0, none⟩) (Sq.rt HO339.out BK324) (fun _ hk => hk.2) (.bool t336)) (fun _ hk => hk.2) (.slice Ao29 t337.length co29)) (fun _ hk => trivial), Sq.bl HB⟩
 ·rw [if_neg c5] at H
  have c5b0 : (t325 == t329) = false := by simpa using c5
  (try (have c5b1 : decide (t325 = t329) = false := by simpa using c5))
  (try (have c5b2 : (t325 == t329) = false := by simpa using c5))
  (try (have c5b3 : ¬ (t325 = t329) := by simpa using c5))
  clear c5
  replace H := Sq.bd H
  obtain ⟨t340, A31, H⟩ := H
  (try dsimp -simprocs only at H)
  by_cases c32 : t340 ≥ 0
  ·rw [if_pos c32] at H
   have c32b0 : decide (0 ≤ t340) = true := decide_eq_true c32
   clear c32
   replace H := Sq.bd H
   obtain ⟨⟨t341, t342⟩, A33, H⟩ := H
   (try dsimp -simprocs only at H)
   replace H := Sq.bd H
   obtain ⟨⟨t345, t346⟩, A34, H⟩ := H
   (try dsimp -simprocs only at H)
   simp only [Option.some.injEq, Prod.mk.injEq] at H
   obtain ⟨rfl, rfl⟩ := H
   go_enter Try.func74, Try.ntmps74
   go_wp2_with (first | ((with_reducible refine gate_dst (N := 2) rfl ?_); refine box_event ?hg (N := 2) ?hd (cs := #[.bool a0_0, .slice A0_1 l0_1.length c0_1]) (t := 39) ?hr ?_; (case hd => rfl); (case hg => rfl); (case hr => first | (go_simp; done) | (go_simp; rfl)); intro gb322 hg w35 hbox hb; have BK322 := Aside0.mk (hbox); have GW322 := Sq.gw HB hg; have GE322 := Sq.gw HB hg; replace HB := Sq.bs HB hb; clear hb hbox hg) | ((with_reducible refine gate_dst (N := 3) rfl ?_); refine box_event ?hg (N := 3) ?hd (cs := #[.bool a1_0, .slice A1_1 l1_1.length c1_1]) (t := 39) ?hr ?_; (case hd => rfl); (case hg => rfl); (case hr => first | (go_simp; done) | (go_simp; rfl)); intro gb323 hg w36 hbox hb; have BK323 := Aside0.mk (hbox); have GW323 := Sq.gw HB hg; have GE323 := Sq.gw HB hg; have NB322_323 := Sq.nl BK322 hg; have NB323_322 := Sq.ng BK322 hg; replace BK322 := Sq.bb BK322 hb; replace HB := Sq.bs HB hb; clear hb hbox hg) | ((with_reducible refine gate_dst (N := 4) rfl ?_); refine box_event ?hg (N := 4) ?hd (cs := #[.bool false, .slice none 0 0]) (t := 39) ?hr ?_; (case hd => rfl); (case hg => rfl); (case hr => first | (go_simp; done) | (go_simp; rfl)); intro gb324 hg w37 hbox hb; have BK324 := Aside0.mk (hbox); have GW324 := Sq.gw HB hg; have GE324 := Sq.gw HB hg; have NB322_324 := Sq.nl BK322 hg; have NB324_322 := Sq.ng BK322 hg; have NB323_324 := Sq.nl BK323 hg; have NB324_323 := Sq.ng BK323 hg; replace BK322 := Sq.bb BK322 hb; replace BK323 := Sq.bb BK323 hb; replace HB := Sq.bs HB hb; clear hb hbox hg; have hnb38 := NB322_323.out; have hnc38 := NB323_322.out; have hnb39 := NB322_324.out; have hnc39 := NB324_322.out; have hcz40_0 := Sq.bc BK322 0 (.bool a0_0); have hcz40_1 := Sq.bc BK322 1 (.slice A0_1 l0_1.length c0_1); have hfz40_0 := blk_frozen BK322.out 0; have hfz40_1 := blk_frozen BK322.out 1) | ((with_reducible refine gate_callee (f := 73) rfl ?_); refine Sq.gl (some 10) Try.func73 #[.agg #[.bool a0_0, .slice A0_1 l0_1.length c0_1]] ?_; (with_reducible refine (foliotref02_Norm.calls a0_0 _ _ l0_1 t325 t326 _ ?side1 ?side2 A3.out).mono ?_); (case side1 => exact Sq.ca (Kd.C_below HR0_1.out HB.out)); (case side2 => exact HC0_1.out); rintro e w41 ⟨v327, rfl, ho0, hb⟩; refine ⟨_, rfl, ?_⟩; have HO328 := Aside0.mk (Kd.R_lower ho0 (below_size (Sq.bl HB))); replace BK322 := Sq.bb BK322 hb; replace BK323 := Sq.bb BK323 hb; replace BK324 := Sq.bb BK324 hb; replace HB := Sq.bs HB hb; (try clear hb); (try clear hb2); (try clear hk); (try clear hi); (try clear ho0); have hcz42_0 := Sq.bc BK322 0 (.bool a0_0); have hcz42_1 := Sq.bc BK322 1 (.slice A0_1 l0_1.length c0_1); have hfz42_0 := blk_frozen BK322.out 0; have hfz42_1 := blk_frozen BK322.out 1; obtain ⟨Ao43, co43, eo43⟩ := Kd.R_slice HO328.out; subst eo43; have hnb44 := NB323_324.out; have hnc44 := NB324_323.out; have hcz45_0 := Sq.bc BK323 0 (.bool a1_0); have hcz45_1 := Sq.bc BK323 1 (.slice A1_1 l1_1.length c1_1); have hfz45_0 := blk_frozen BK323.out 0; have hfz45_1 := blk_frozen BK323.out 1) | ((with_reducible refine gate_callee (f := 73) rfl ?_); refine Sq.gl (some 12) Try.func73 #[.agg #[.bool a1_0, .slice A1_1 l1_1.length c1_1]] ?_; (with_reducible refine (foliotref02_Norm.calls a1_0 _ _ l1_1 t329 t330 _ ?side1 ?side2 A4.out).mono ?_); (case side1 => exact Kd.C_below HR1_1.out (Sq.bl HB)); (case side2 => exact HC1_1.out); rintro e w46 ⟨v331, rfl, ho0, hb⟩; refine ⟨_, rfl, ?_⟩; have HO332 := Aside0.mk (Kd.R_lower (Kd.R_new' ho0 (Kd.R_lt (by (with_reducible repeat (first | apply Kd.R_alloc | apply Kd.R_drewN | apply Kd.R_drew)); exact (Kd.R_mono (Kd.R_far (p := ⟨gb322, 1, none⟩) (Kd.R_far (p := ⟨gb322, 0, none⟩) (Sq.rt HO328.out BK322) (fun _ hk => hk.2) (.bool t325)) (fun _ hk => hk.2) (.slice Ao43 t326.length co43)) (fun _ h_ => h_.1))))) (below_size (Sq.bl HB))); replace BK323 := Aside0.mk (blk_below (g := gb323) (o := .cells #[.bool a1_0, .slice A1_1 l1_1.length c1_1] 39 (0, 0)) (by (with_reducible repeat (first | refine blk_drewN ?_ _ | refine blk_drew ?_ | refine blk_alloc ?_ _)); refine blk_far ?_ NB323_322.out _; (with_reducible repeat (first | refine blk_drewN ?_ _ | refine blk_drew ?_ | refine blk_alloc ?_ _)); refine blk_far ?_ NB323_322.out _; (with_reducible repeat (first | refine blk_drewN ?_ _ | refine blk_drew ?_ | refine blk_alloc ?_ _)); exact BK323.out) hb); replace BK324 := Aside0.mk (blk_below (g := gb324) (o := .cells #[.bool false, .slice none 0 0] 39 (0, 0)) (by (with_reducible repeat (first | refine blk_drewN ?_ _ | refine blk_drew ?_ | refine blk_alloc ?_ _)); refine blk_far ?_ NB324_322.out _; (with_reducible repeat (first | refine blk_drewN ?_ _ | refine blk_drew ?_ | refine blk_alloc ?_ _)); refine blk_far ?_ NB324_322.out _; (with_reducible repeat (first | refine blk_drewN ?_ _ | refine blk_drew ?_ | refine blk_alloc ?_ _)); exact BK324.out) hb); replace HO328 := Aside0.mk (Kd.R_elder' (by (with_reducible repeat (first | apply Kd.R_alloc | apply Kd.R_drewN | apply Kd.R_drew)); exact (Kd.R_mono (Kd.R_far (p := ⟨gb322, 1, none⟩) (Kd.R_far (p := ⟨gb322, 0, none⟩) (Sq.rt HO328.out BK322) (fun _ hk => hk.2) (.bool t325)) (fun _ hk => hk.2) (.slice Ao43 t326.length co43)) (fun _ h_ => h_.1))) (Kd.R_base ho0) hb); replace HB := Sq.bs HB hb; replace BK322 := Aside0.mk (blk_below (g := gb322) (o := .cells #[.bool t325, .slice Ao43 t326.length co43] 39 (0, 0)) (by (with_reducible repeat (first | refine blk_drewN ?_ _ | refine blk_drew ?_ | refine blk_alloc ?_ _)); refine blk_put (cs := #[.bool t325, .slice A0_1 l0_1.length c0_1]) ?_ 1 _ rfl; (with_reducible repeat (first | refine blk_drewN ?_ _ | refine blk_drew ?_ | refine blk_alloc ?_ _)); refine blk_put (cs := #[.bool a0_0, .slice A0_1 l0_1.length c0_1]) ?_ 0 _ rfl; (with_reducible repeat (first | refine blk_drewN ?_ _ | refine blk_drew ?_ | refine blk_alloc ?_ _)); exact BK322.out) hb); (try clear hb); (try clear hb2); (try clear hk); (try clear hi); (try clear ho0); have hcz47_0 := Sq.bc BK323 0 (.bool a1_0); have hcz47_1 := Sq.bc BK323 1 (.slice A1_1 l1_1.length c1_1); have hfz47_0 := blk_frozen BK323.out 0; have hfz47_1 := blk_frozen BK323.out 1; obtain ⟨Ao48, co48, eo48⟩ := Kd.R_slice HO332.out; subst eo48; have hcz49_0 := Sq.bc BK322 0 (.bool t325); have hcz49_1 := Sq.bc BK322 1 (.slice Ao43 t326.length co43); have hfz49_0 := blk_frozen BK322.out 0; have hfz49_1 := blk_frozen BK322.out 1) | ((with_reducible refine gate_callee (f := 49) rfl ?_); refine Sq.gl (some 31) Try.func49 #[.slice Ao43 t326.length co43, .slice Ao48 t330.length co48] ?_; (with_reducible refine (foliotref01_Cmp.calls _ _ t326 _ _ t330 t340 _ ?side1 ?side2 ?side3 ?side4 A31.out).mono ?_); (case side1 => refine (Kd.R_reads' (e := 107) (base := w.heap.size) (ok := fun k_ => (True ∧ some k_ ≠ (.slice Ao48 t330.length co48 : Value).ownBlock)) (n := t326.length) (c := co43) ?_).2.2; exact (by (with_reducible repeat (first | apply Kd.R_alloc | apply Kd.R_drewN | apply Kd.R_drew)); exact (Kd.R_mono (Kd.R_far (p := ⟨gb323, 1, none⟩) (Kd.R_far (p := ⟨gb323, 0, none⟩) (Sq.rt HO328.out BK323) (fun _ hk => hk.2) (.bool t329)) (fun _ hk => hk.2) (.slice Ao48 t330.length co48)) (fun _ h_ => h_.1)))); (case side2 => exact (Kd.R_reads' HO328.out).2.1); (case side3 => refine (Kd.R_reads' (e := 107) (base := w.heap.size) (ok := fun k_ => (True ∧ some k_ ≠ (.slice Ao43 t326.length co43 : Value).ownBlock)) (n := t330.length) (c := co48) ?_).2.2; exact (by (with_reducible repeat (first | apply Kd.R_alloc | apply Kd.R_drewN | apply Kd.R_drew)); exact (Kd.R_mono (Kd.R_far (p := ⟨gb323, 1, none⟩) (Kd.R_far (p := ⟨gb323, 0, none⟩) (Sq.rt HO332.out BK323) (fun _ hk => hk.2) (.bool t329)) (fun _ hk => hk.2) (.slice Ao48 t330.length co48)) (fun _ h_ => h_.1)))); (case side4 => exact (Kd.R_reads' HO332.out).2.1); rintro e w50 ⟨rfl, hb⟩; refine ⟨_, rfl, ?_⟩; replace HO328 := Aside0.mk (Kd.R_below (by (with_reducible repeat (first | apply Kd.R_alloc | apply Kd.R_drewN | apply Kd.R_drew)); exact (Kd.R_mono (Kd.R_far (p := ⟨gb323, 1, none⟩) (Kd.R_far (p := ⟨gb323, 0, none⟩) (Sq.rt HO328.out BK323) (fun _ hk => hk.2) (.bool t329)) (fun _ hk => hk.2) (.slice Ao48 t330.length co48)) (fun _ h_ => h_.1))) hb); replace HO332 := Aside0.mk (Kd.R_below (by (with_reducible repeat (first | apply Kd.R_alloc | apply Kd.R_drewN | apply Kd.R_drew)); exact (Kd.R_mono (Kd.R_far (p := ⟨gb323, 1, none⟩) (Kd.R_far (p := ⟨gb323, 0, none⟩) (Sq.rt HO332.out BK323) (fun _ hk => hk.2) (.bool t329)) (fun _ hk => hk.2) (.slice Ao48 t330.length co48)) (fun _ h_ => h_.1))) hb); replace BK322 := Aside0.mk (blk_below (g := gb322) (o := .cells #[.bool t325, .slice Ao43 t326.length co43] 39 (0, 0)) (by (with_reducible repeat (first | refine blk_drewN ?_ _ | refine blk_drew ?_ | refine blk_alloc ?_ _)); refine blk_far ?_ NB322_323.out _; (with_reducible repeat (first | refine blk_drewN ?_ _ | refine blk_drew ?_ | refine blk_alloc ?_ _)); refine blk_far ?_ NB322_323.out _; (with_reducible repeat (first | refine blk_drewN ?_ _ | refine blk_drew ?_ | refine blk_alloc ?_ _)); exact BK322.out) hb); replace BK324 := Aside0.mk (blk_below (g := gb324) (o := .cells #[.bool false, .slice none 0 0] 39 (0, 0)) (by (with_reducible repeat (first | refine blk_drewN ?_ _ | refine blk_drew ?_ | refine blk_alloc ?_ _)); refine blk_far ?_ NB324_323.out _; (with_reducible repeat (first | refine blk_drewN ?_ _ | refine blk_drew ?_ | refine blk_alloc ?_ _)); refine blk_far ?_ NB324_323.out _; (with_reducible repeat (first | refine blk_drewN ?_ _ | refine blk_drew ?_ | refine blk_alloc ?_ _)); exact BK324.out) hb); replace HB := Sq.bs HB hb; replace BK323 := Aside0.mk (blk_below (g := gb323) (o := .cells #[.bool t329, .slice Ao48 t330.length co48] 39 (0, 0)) (by (with_reducible repeat (first | refine blk_drewN ?_ _ | refine blk_drew ?_ | refine blk_alloc ?_ _)); refine blk_put (cs := #[.bool t329, .slice A1_1 l1_1.length c1_1]) ?_ 1 _ rfl; (with_reducible repeat (first | refine blk_drewN ?_ _ | refine blk_drew ?_ | refine blk_alloc ?_ _)); refine blk_put (cs := #[.bool a1_0, .slice A1_1 l1_1.length c1_1]) ?_ 0 _ rfl; (with_reducible repeat (first | refine blk_drewN ?_ _ | refine blk_drew ?_ | refine blk_alloc ?_ _)); exact BK323.out) hb); (try clear hb); (try clear hb2); (try clear hk); (try clear hi); have hcz51_0 := Sq.bc BK322 0 (.bool t325); have hcz51_1 := Sq.bc BK322 1 (.slice Ao43 t326.length co43); have hfz51_0 := blk_frozen BK322.out 0; have hfz51_1 := blk_frozen BK322.out 1; have hcz52_0 := Sq.bc BK323 0 (.bool t329); have hcz52_1 := Sq.bc BK323 1 (.slice Ao48 t330.length co48); have hfz52_0 := blk_frozen BK323.out 0; have hfz52_1 := blk_frozen BK323.out 1) | ((with_reducible refine gate_callee (f := 46) rfl ?_); refine Sq.gl (some 38) Try.func46 #[.slice Ao43 t326.length co43, .slice Ao48 t330.length co48] ?_; (with_reducible refine (foliotref01_Sub.calls _ _ t326 _ _ t330 t341 t342 _ ?side1 ?side2 ?side3 ?side4 A33.out).mono ?_); (case side1 => exact Sq.ca (Kd.R_reads' HO328.out).2.2); (case side2 => exact (Kd.R_reads' HO328.out).2.1); (case side3 => exact Sq.ca (Kd.R_reads' HO332.out).2.2); (case side4 => exact (Kd.R_reads' HO332.out).2.1); rintro e w53 ⟨v343, rfl, ho0, hb⟩; refine ⟨_, rfl, ?_⟩; have HO344 := Aside0.mk (Kd.R_lower (Kd.R_new' (Kd.R_new' ho0 (Kd.R_lt (Sq.al HO328))) (Kd.R_lt (Sq.al HO332))) (below_size (Sq.bl HB))); replace BK322 := Sq.bb BK322 hb; replace BK323 := Sq.bb BK323 hb; replace BK324 := Sq.bb BK324 hb; replace HO328 := Aside0.mk (Kd.R_elder' (Sq.al HO328) (Kd.R_base ho0) hb); replace HO332 := Aside0.mk (Kd.R_elder' (Sq.al HO332) (Kd.R_base ho0) hb); replace HB := Sq.bs HB hb; (try clear hb); (try clear hb2); (try clear hk); (try clear hi); (try clear ho0); have hcz54_0 := Sq.bc BK322 0 (.bool t325); have hcz54_1 := Sq.bc BK322 1 (.slice Ao43 t326.length co43); have hfz54_0 := blk_frozen BK322.out 0; have hfz54_1 := blk_frozen BK322.out 1; obtain ⟨Ao55, co55, eo55⟩ := Kd.R_slice HO344.out; subst eo55) | ((with_reducible refine gate_callee (f := 73) rfl ?_); refine Sq.gl (some 45) Try.func73 #[.agg #[.bool t325, .slice Ao55 t341.length co55]] ?_; (with_reducible refine (foliotref02_Norm.calls t325 _ _ t341 t345 t346 _ ?side1 ?side2 A34.out).mono ?_); (case side1 => exact Sq.ca (Kd.R_reads' HO344.out).2.2); (case side2 => exact (Kd.R_reads' HO344.out).2.1); rintro e w56 ⟨v347, rfl, ho0, hb⟩; refine ⟨_, rfl, ?_⟩; have HO348 := Aside0.mk (Kd.R_lower (Kd.R_new' (Kd.R_new' (Kd.R_new' ho0 (Kd.R_lt (Sq.al HO328))) (Kd.R_lt (Sq.al HO332))) (Kd.R_lt (Sq.al HO344))) (below_size (Sq.bl HB))); replace BK322 := Sq.bb BK322 hb; replace BK323 := Sq.bb BK323 hb; replace BK324 := Sq.bb BK324 hb; replace HO328 := Aside0.mk (Kd.R_elder' (Sq.al HO328) (Kd.R_base ho0) hb); replace HO332 := Aside0.mk (Kd.R_elder' (Sq.al HO332) (Kd.R_base ho0) hb); replace HO344 := Aside0.mk (Kd.R_elder' (Sq.al HO344) (Kd.R_base ho0) hb); replace HB := Sq.bs HB hb; (try clear hb); (try clear hb2); (try clear hk); (try clear hi); (try clear ho0); have hcz57_0 := Sq.bc BK324 0 (.bool false); have hcz57_1 := Sq.bc BK324 1 (.slice none 0 0); have hfz57_0 := blk_frozen BK324.out 0; have hfz57_1 := blk_frozen BK324.out 1; obtain ⟨Ao58, co58, eo58⟩ := Kd.R_slice HO348.out; subst eo58))
   refine bodyPost_ret (results_cell_row rfl _ _ gb324 39 #[.bool t345, .slice Ao58 t346.length co58] (0, 0) _ rfl (by (with_reducible repeat (first | refine blk_drewN ?_ _ | refine blk_drew ?_ | refine blk_alloc ?_ _)); refine blk_put (cs := #[.bool t345, .slice none 0 0]) ?_ 1 _ rfl; (with_reducible repeat (first | refine blk_drewN ?_ _ | refine blk_drew ?_ | refine blk_alloc ?_ _)); refine blk_put (cs := #[.bool false, .slice none 0 0]) ?_ 0 _ rfl; (with_reducible repeat (first | refine blk_drewN ?_ _ | refine blk_drew ?_ | refine blk_alloc ?_ _)); exact BK324.out) Try.underlying39 rfl (by kernel_rfl)) rfl ?_
   exact ⟨_, by first | rfl | (simp [errW_none, errW_some] <;> rfl) | (simp [*, errW_none, errW_some] <;> rfl), by (with_reducible repeat (first | apply Kd.R_alloc | apply Kd.R_drewN | apply Kd.R_drew)); exact Kd.R_mono (Kd.R_far (p := ⟨gb324, 1, none⟩) (Kd.R_far (p := ⟨gb324, 0, none⟩) (Sq.rt HO348.out BK324) (fun _ hk => hk.2) (.bool t345)) (fun _ hk => hk.2) (.slice Ao58 t346.length co58)) (fun _ hk => trivial), Sq.bl HB⟩
  ·rw [if_neg c32] at H
   have c32b0 : decide (0 ≤ t340) = false := decide_eq_false c32
   clear c32
   replace H := Sq.bd H
   obtain ⟨⟨t349, t350⟩, A59, H⟩ := H
   (try dsimp -simprocs only at H)
   replace H := Sq.bd H
   obtain ⟨⟨t353, t354⟩, A60, H⟩ := H
   (try dsimp -simprocs only at H)
   simp only [Option.some.injEq, Prod.mk.injEq] at H
   obtain ⟨rfl, rfl⟩ := H
   go_enter Try.func74, Try.ntmps74
   go_wp2_with (first | ((with_reducible refine gate_dst (N := 2) rfl ?_); refine box_event ?hg (N := 2) ?hd (cs := #[.bool a0_0, .slice A0_1 l0_1.length c0_1]) (t := 39) ?hr ?_; (case hd => rfl); (case hg => rfl); (case hr => first | (go_simp; done) | (go_simp; rfl)); intro gb322 hg w61 hbox hb; have BK322 := Aside0.mk (hbox); have GW322 := Sq.gw HB hg; have GE322 := Sq.gw HB hg; replace HB := Sq.bs HB hb; clear hb hbox hg) | ((with_reducible refine gate_dst (N := 3) rfl ?_); refine box_event ?hg (N := 3) ?hd (cs := #[.bool a1_0, .slice A1_1 l1_1.length c1_1]) (t := 39) ?hr ?_; (case hd => rfl); (case hg => rfl); (case hr => first | (go_simp; done) | (go_simp; rfl)); intro gb323 hg w62 hbox hb; have BK323 := Aside0.mk (hbox); have GW323 := Sq.gw HB hg; have GE323 := Sq.gw HB hg; have NB322_323 := Sq.nl BK322 hg; have NB323_322 := Sq.ng BK322 hg; replace BK322 := Sq.bb BK322 hb; replace HB := Sq.bs HB hb; clear hb hbox hg) | ((with_reducible refine gate_dst (N := 4) rfl ?_); refine box_event ?hg (N := 4) ?hd (cs := #[.bool false, .slice none 0 0]) (t := 39) ?hr ?_; (case hd => rfl); (case hg => rfl); (case hr => first | (go_simp; done) | (go_simp; rfl)); intro gb324 hg w63 hbox hb; have BK324 := Aside0.mk (hbox); have GW324 := Sq.gw HB hg; have GE324 := Sq.gw HB hg; have NB322_324 := Sq.nl BK322 hg; have NB324_322 := Sq.ng BK322 hg; have NB323_324 := Sq.nl BK323 hg; have NB324_323 := Sq.ng BK323 hg; replace BK322 := Sq.bb BK322 hb; replace BK323 := Sq.bb BK323 hb; replace HB := Sq.bs HB hb; clear hb hbox hg; have hnb64 := NB322_323.out; have hnc64 := NB323_322.out; have hnb65 := NB322_324.out; have hnc65 := NB324_322.out; have hcz66_0 := Sq.bc BK322 0 (.bool a0_0); have hcz66_1 := Sq.bc BK322 1 (.slice A0_1 l0_1.length c0_1); have hfz66_0 := blk_frozen BK322.out 0; have hfz66_1 := blk_frozen BK322.out 1) | ((with_reducible refine gate_callee (f := 73) rfl ?_); refine Sq.gl (some 10) Try.func73 #[.agg #[.bool a0_0, .slice A0_1 l0_1.length c0_1]] ?_; (with_reducible refine (foliotref02_Norm.calls a0_0 _ _ l0_1 t325 t326 _ ?side1 ?side2 A3.out).mono ?_); (case side1 => exact Sq.ca (Kd.C_below HR0_1.out HB.out)); (case side2 => exact HC0_1.out); rintro e w67 ⟨v327, rfl, ho0, hb⟩; refine ⟨_, rfl, ?_⟩; have HO328 := Aside0.mk (Kd.R_lower ho0 (below_size (Sq.bl HB))); replace BK322 := Sq.bb BK322 hb; replace BK323 := Sq.bb BK323 hb; replace BK324 := Sq.bb BK324 hb; replace HB := Sq.bs HB hb; (try clear hb); (try clear hb2); (try clear hk); (try clear hi); (try clear ho0); have hcz68_0 := Sq.bc BK322 0 (.bool a0_0); have hcz68_1 := Sq.bc BK322 1 (.slice A0_1 l0_1.length c0_1); have hfz68_0 := blk_frozen BK322.out 0; have hfz68_1 := blk_frozen BK322.out 1; obtain ⟨Ao69, co69, eo69⟩ := Kd.R_slice HO328.out; subst eo69; have hnb70 := NB323_324.out; have hnc70 := NB324_323.out; have hcz71_0 := Sq.bc BK323 0 (.bool a1_0); have hcz71_1 := Sq.bc BK323 1 (.slice A1_1 l1_1.length c1_1); have hfz71_0 := blk_frozen BK323.out 0; have hfz71_1 := blk_frozen BK323.out 1) | ((with_reducible refine gate_callee (f := 73) rfl ?_); refine Sq.gl (some 12) Try.func73 #[.agg #[.bool a1_0, .slice A1_1 l1_1.length c1_1]] ?_; (with_reducible refine (foliotref02_Norm.calls a1_0 _ _ l1_1 t329 t330 _ ?side1 ?side2 A4.out).mono ?_); (case side1 => exact Kd.C_below HR1_1.out (Sq.bl HB)); (case side2 => exact HC1_1.out); rintro e w72 ⟨v331, rfl, ho0, hb⟩; refine ⟨_, rfl, ?_⟩; have HO332 := Aside0.mk (Kd.R_lower (Kd.R_new' ho0 (Kd.R_lt (by (with_reducible repeat (first | apply Kd.R_alloc | apply Kd.R_drewN | apply Kd.R_drew)); exact (Kd.R_mono (Kd.R_far (p := ⟨gb322, 1, none⟩) (Kd.R_far (p := ⟨gb322, 0, none⟩) (Sq.rt HO328.out BK322) (fun _ hk => hk.2) (.bool t325)) (fun _ hk => hk.2) (.slice Ao69 t326.length co69)) (fun _ h_ => h_.1))))) (below_size (Sq.bl HB))); replace BK323 := Aside0.mk (blk_below (g := gb323) (o := .cells #[.bool a1_0, .slice A1_1 l1_1.length c1_1] 39 (0, 0)) (by (with_reducible repeat (first | refine blk_drewN ?_ _ | refine blk_drew ?_ | refine blk_alloc ?_ _)); refine blk_far ?_ NB323_322.out _; (with_reducible repeat (first | refine blk_drewN ?_ _ | refine blk_drew ?_ | refine blk_alloc ?_ _)); refine blk_far ?_ NB323_322.out _; (with_reducible repeat (first | refine blk_drewN ?_ _ | refine blk_drew ?_ | refine blk_alloc ?_ _)); exact BK323.out) hb); replace BK324 := Aside0.mk (blk_below (g := gb324) (o := .cells #[.bool false, .slice none 0 0] 39 (0, 0)) (by (with_reducible repeat (first | refine blk_drewN ?_ _ | refine blk_drew ?_ | refine blk_alloc ?_ _)); refine blk_far ?_ NB324_322.out _; (with_reducible repeat (first | refine blk_drewN ?_ _ | refine blk_drew ?_ | refine blk_alloc ?_ _)); refine blk_far ?_ NB324_322.out _; (with_reducible repeat (first | refine blk_drewN ?_ _ | refine blk_drew ?_ | refine blk_alloc ?_ _)); exact BK324.out) hb); replace HO328 := Aside0.mk (Kd.R_elder' (by (with_reducible repeat (first | apply Kd.R_alloc | apply Kd.R_drewN | apply Kd.R_drew)); exact (Kd.R_mono (Kd.R_far (p := ⟨gb322, 1, none⟩) (Kd.R_far (p := ⟨gb322, 0, none⟩) (Sq.rt HO328.out BK322) (fun _ hk => hk.2) (.bool t325)) (fun _ hk => hk.2) (.slice Ao69 t326.length co69)) (fun _ h_ => h_.1))) (Kd.R_base ho0) hb); replace HB := Sq.bs HB hb; replace BK322 := Aside0.mk (blk_below (g := gb322) (o := .cells #[.bool t325, .slice Ao69 t326.length co69] 39 (0, 0)) (by (with_reducible repeat (first | refine blk_drewN ?_ _ | refine blk_drew ?_ | refine blk_alloc ?_ _)); refine blk_put (cs := #[.bool t325, .slice A0_1 l0_1.length c0_1]) ?_ 1 _ rfl; (with_reducible repeat (first | refine blk_drewN ?_ _ | refine blk_drew ?_ | refine blk_alloc ?_ _)); refine blk_put (cs := #[.bool a0_0, .slice A0_1 l0_1.length c0_1]) ?_ 0 _ rfl; (with_reducible repeat (first | refine blk_drewN ?_ _ | refine blk_drew ?_ | refine blk_alloc ?_ _)); exact BK322.out) hb); (try clear hb); (try clear hb2); (try clear hk); (try clear hi); (try clear ho0); have hcz73_0 := Sq.bc BK323 0 (.bool a1_0); have hcz73_1 := Sq.bc BK323 1 (.slice A1_1 l1_1.length c1_1); have hfz73_0 := blk_frozen BK323.out 0; have hfz73_1 := blk_frozen BK323.out 1; obtain ⟨Ao74, co74, eo74⟩ := Kd.R_slice HO332.out; subst eo74; have hcz75_0 := Sq.bc BK322 0 (.bool t325); have hcz75_1 := Sq.bc BK322 1 (.slice Ao69 t326.length co69); have hfz75_0 := blk_frozen BK322.out 0; have hfz75_1 := blk_frozen BK322.out 1) | ((with_reducible refine gate_callee (f := 49) rfl ?_); refine Sq.gl (some 31) Try.func49 #[.slice Ao69 t326.length co69, .slice Ao74 t330.length co74] ?_; (with_reducible refine (foliotref01_Cmp.calls _ _ t326 _ _ t330 t340 _ ?side1 ?side2 ?side3 ?side4 A31.out).mono ?_); (case side1 => refine (Kd.R_reads' (e := 107) (base := w.heap.size) (ok := fun k_ => (True ∧ some k_ ≠ (.slice Ao74 t330.length co74 : Value).ownBlock)) (n := t326.length) (c := co69) ?_).2.2; exact (by (with_reducible repeat (first | apply Kd.R_alloc | apply Kd.R_drewN | apply Kd.R_drew)); exact (Kd.R_mono (Kd.R_far (p := ⟨gb323, 1, none⟩) (Kd.R_far (p := ⟨gb323, 0, none⟩) (Sq.rt HO328.out BK323) (fun _ hk => hk.2) (.bool t329)) (fun _ hk => hk.2) (.slice Ao74 t330.length co74)) (fun _ h_ => h_.1)))); (case side2 => exact (Kd.R_reads' HO328.out).2.1); (case side3 => refine (Kd.R_reads' (e := 107) (base := w.heap.size) (ok := fun k_ => (True ∧ some k_ ≠ (.slice Ao69 t326.length co69 : Value).ownBlock)) (n := t330.length) (c := co74) ?_).2.2; exact (by (with_reducible repeat (first | apply Kd.R_alloc | apply Kd.R_drewN | apply Kd.R_drew)); exact (Kd.R_mono (Kd.R_far (p := ⟨gb323, 1, none⟩) (Kd.R_far (p := ⟨gb323, 0, none⟩) (Sq.rt HO332.out BK323) (fun _ hk => hk.2) (.bool t329)) (fun _ hk => hk.2) (.slice Ao74 t330.length co74)) (fun _ h_ => h_.1)))); (case side4 => exact (Kd.R_reads' HO332.out).2.1); rintro e w76 ⟨rfl, hb⟩; refine ⟨_, rfl, ?_⟩; replace HO328 := Aside0.mk (Kd.R_below (by (with_reducible repeat (first | apply Kd.R_alloc | apply Kd.R_drewN | apply Kd.R_drew)); exact (Kd.R_mono (Kd.R_far (p := ⟨gb323, 1, none⟩) (Kd.R_far (p := ⟨gb323, 0, none⟩) (Sq.rt HO328.out BK323) (fun _ hk => hk.2) (.bool t329)) (fun _ hk => hk.2) (.slice Ao74 t330.length co74)) (fun _ h_ => h_.1))) hb); replace HO332 := Aside0.mk (Kd.R_below (by (with_reducible repeat (first | apply Kd.R_alloc | apply Kd.R_drewN | apply Kd.R_drew)); exact (Kd.R_mono (Kd.R_far (p := ⟨gb323, 1, none⟩) (Kd.R_far (p := ⟨gb323, 0, none⟩) (Sq.rt HO332.out BK323) (fun _ hk => hk.2) (.bool t329)) (fun _ hk => hk.2) (.slice Ao74 t330.length co74)) (fun _ h_ => h_.1))) hb); replace BK322 := Aside0.mk (blk_below (g := gb322) (o := .cells #[.bool t325, .slice Ao69 t326.length co69] 39 (0, 0)) (by (with_reducible repeat (first | refine blk_drewN ?_ _ | refine blk_drew ?_ | refine blk_alloc ?_ _)); refine blk_far ?_ NB322_323.out _; (with_reducible repeat (first | refine blk_drewN ?_ _ | refine blk_drew ?_ | refine blk_alloc ?_ _)); refine blk_far ?_ NB322_323.out _; (with_reducible repeat (first | refine blk_drewN ?_ _ | refine blk_drew ?_ | refine blk_alloc ?_ _)); exact BK322.out) hb); replace BK324 := Aside0.mk (blk_below (g := gb324) (o := .cells #[.bool false, .slice none 0 0] 39 (0, 0)) (by (with_reducible repeat (first | refine blk_drewN ?_ _ | refine blk_drew ?_ | refine blk_alloc ?_ _)); refine blk_far ?_ NB324_323.out _; (with_reducible repeat (first | refine blk_drewN ?_ _ | refine blk_drew ?_ | refine blk_alloc ?_ _)); refine blk_far ?_ NB324_323.out _; (with_reducible repeat (first | refine blk_drewN ?_ _ | refine blk_drew ?_ | refine blk_alloc ?_ _)); exact BK324.out) hb); replace HB := Sq.bs HB hb; replace BK323 := Aside0.mk (blk_below (g := gb323) (o := .cells #[.bool t329, .slice Ao74 t330.length co74] 39 (0, 0)) (by (with_reducible repeat (first | refine blk_drewN ?_ _ | refine blk_drew ?_ | refine blk_alloc ?_ _)); refine blk_put (cs := #[.bool t329, .slice A1_1 l1_1.length c1_1]) ?_ 1 _ rfl; (with_reducible repeat (first | refine blk_drewN ?_ _ | refine blk_drew ?_ | refine blk_alloc ?_ _)); refine blk_put (cs := #[.bool a1_0, .slice A1_1 l1_1.length c1_1]) ?_ 0 _ rfl; (with_reducible repeat (first | refine blk_drewN ?_ _ | refine blk_drew ?_ | refine blk_alloc ?_ _)); exact BK323.out) hb); (try clear hb); (try clear hb2); (try clear hk); (try clear hi); have hcz77_0 := Sq.bc BK323 0 (.bool t329); have hcz77_1 := Sq.bc BK323 1 (.slice Ao74 t330.length co74); have hfz77_0 := blk_frozen BK323.out 0; have hfz77_1 := blk_frozen BK323.out 1; have hcz78_0 := Sq.bc BK322 0 (.bool t325); have hcz78_1 := Sq.bc BK322 1 (.slice Ao69 t326.length co69); have hfz78_0 := blk_frozen BK322.out 0; have hfz78_1 := blk_frozen BK322.out 1) | ((with_reducible refine gate_callee (f := 46) rfl ?_); refine Sq.gl (some 51) Try.func46 #[.slice Ao74 t330.length co74, .slice Ao69 t326.length co69] ?_; (with_reducible refine (foliotref01_Sub.calls _ _ t330 _ _ t326 t349 t350 _ ?side1 ?side2 ?side3 ?side4 A59.out).mono ?_); (case side1 => exact Sq.ca (Kd.R_reads' HO332.out).2.2); (case side2 => exact (Kd.R_reads' HO332.out).2.1); (case side3 => exact Sq.ca (Kd.R_reads' HO328.out).2.2); (case side4 => exact (Kd.R_reads' HO328.out).2.1); rintro e w79 ⟨v351, rfl, ho0, hb⟩; refine ⟨_, rfl, ?_⟩; have HO352 := Aside0.mk (Kd.R_lower (Kd.R_new' (Kd.R_new' ho0 (Kd.R_lt (Sq.al HO328))) (Kd.R_lt (Sq.al HO332))) (below_size (Sq.bl HB))); replace BK322 := Sq.bb BK322 hb; replace BK323 := Sq.bb BK323 hb; replace BK324 := Sq.bb BK324 hb; replace HO328 := Aside0.mk (Kd.R_elder' (Sq.al HO328) (Kd.R_base ho0) hb); replace HO332 := Aside0.mk (Kd.R_elder' (Sq.al HO332) (Kd.R_base ho0) hb); replace HB := Sq.bs HB hb; (try clear hb); (try clear hb2); (try clear hk); (try clear hi); (try clear ho0); have hcz80_0 := Sq.bc BK323 0 (.bool t329); have hcz80_1 := Sq.bc BK323 1 (.slice Ao74 t330.length co74); have hfz80_0 := blk_frozen BK323.out 0; have hfz80_1 := blk_frozen BK323.out 1; obtain ⟨Ao81, co81, eo81⟩ := Kd.R_slice HO352.out; subst eo81) | ((with_reducible refine gate_callee (f := 73) rfl ?_); refine Sq.gl (some 58) Try.func73 #[.agg #[.bool t329, .slice Ao81 t349.length co81]] ?_; (with_reducible refine (foliotref02_Norm.calls t329 _ _ t349 t353 t354 _ ?side1 ?side2 A60.out).mono ?_); (case side1 => exact Sq.ca (Kd.R_reads' HO352.out).2.2); (case side2 => exact (Kd.R_reads' HO352.out).2.1); rintro e w82 ⟨v355, rfl, ho0, hb⟩; refine ⟨_, rfl, ?_⟩; have HO356 := Aside0.mk (Kd.R_lower (Kd.R_new' (Kd.R_new' (Kd.R_new' ho0 (Kd.R_lt (Sq.al HO328))) (Kd.R_lt (Sq.al HO332))) (Kd.R_lt (Sq.al HO352))) (below_size (Sq.bl HB))); replace BK322 := Sq.bb BK322 hb; replace BK323 := Sq.bb BK323 hb; replace BK324 := Sq.bb BK324 hb; replace HO328 := Aside0.mk (Kd.R_elder' (Sq.al HO328) (Kd.R_base ho0) hb); replace HO332 := Aside0.mk (Kd.R_elder' (Sq.al HO332) (Kd.R_base ho0) hb); replace HO352 := Aside0.mk (Kd.R_elder' (Sq.al HO352) (Kd.R_base ho0) hb); replace HB := Sq.bs HB hb; (try clear hb); (try clear hb2); (try clear hk); (try clear hi); (try clear ho0); have hcz83_0 := Sq.bc BK324 0 (.bool false); have hcz83_1 := Sq.bc BK324 1 (.slice none 0 0); have hfz83_0 := blk_frozen BK324.out 0; have hfz83_1 := blk_frozen BK324.out 1; obtain ⟨Ao84, co84, eo84⟩ := Kd.R_slice HO356.out; subst eo84))
   refine bodyPost_ret (results_cell_row rfl _ _ gb324 39 #[.bool t353, .slice Ao84 t354.length co84] (0, 0) _ rfl (by (with_reducible repeat (first | refine blk_drewN ?_ _ | refine blk_drew ?_ | refine blk_alloc ?_ _)); refine blk_put (cs := #[.bool t353, .slice none 0 0]) ?_ 1 _ rfl; (with_reducible repeat (first | refine blk_drewN ?_ _ | refine blk_drew ?_ | refine blk_alloc ?_ _)); refine blk_put (cs := #[.bool false, .slice none 0 0]) ?_ 0 _ rfl; (with_reducible repeat (first | refine blk_drewN ?_ _ | refine blk_drew ?_ | refine blk_alloc ?_ _)); exact BK324.out) Try.underlying39 rfl (by kernel_rfl)) rfl ?_
   exact ⟨_, by first | rfl | (simp [errW_none, errW_some] <;> rfl) | (simp [*, errW_none, errW_some] <;> rfl), by (with_reducible repeat (first | apply Kd.R_alloc | apply Kd.R_drewN | apply Kd.R_drew)); exact Kd.R_mono (Kd.R_far (p := ⟨gb324, 1, none⟩) (Kd.R_far (p := ⟨gb324, 0, none⟩) (Sq.rt HO356.out BK324) (fun _ hk => hk.2) (.bool t353)) (fun _ hk => hk.2) (.slice Ao84 t354.length co84)) (fun _ hk => trivial), Sq.bl HB⟩
def foliotref02_Neg.f (a0_0 : Bool) (l0_1 : List Int) : Option (Bool × List Int) := (foliotref02_Norm.f (!a0_0) l0_1).bind fun bt359 => (some (bt359.1, bt359.2))
set_option maxHeartbeats 8000000 in
set_option maxRecDepth 100000 in
theorem foliotref02_Neg.calls (a0_0 : Bool) (A0_1 : Option Addr) (c0_1 : Nat) (l0_1 : List Int) (r1 : Bool) (r2 : List Int) (w : World) (hr0_1 : Kd.C (Kd.int .u32) w A0_1 l0_1.length l0_1) (hc0_1 : l0_1.length ≤ c0_1) (h : foliotref02_Neg.f a0_0 l0_1 = some (r1, r2)) :
  Calls Try.prog 77 #[.agg #[.bool a0_0, .slice A0_1 l0_1.length c0_1]] w fun e w' => ∃ v1_ : Value, e = .returned (.agg #[.bool r1, v1_]) ∧ Kd.R (Kd.int .u32) 107 w' w.heap.size (fun _ => True) v1_ r2 ∧ Below w.heap.size w w' := by
 have hu39 := Try.underlying39
 have HR0_1 := Aside0.mk hr0_1
 have HC0_1 := Aside0.mk hc0_1
 clear hr0_1 hc0_1
 have HB := Aside0.mk (Below.refl w.heap.size w)
 have H : ((foliotref02_Norm.f (!a0_0) l0_1).bind fun bt359 => (some (bt359.1, bt359.2))) = some (r1, r2) := h
 clear h
 replace H := Sq.bd H
 obtain ⟨⟨t359, t360⟩, A2, H⟩ := H
 (try dsimp -simprocs only at H)
 simp only [Option.some.injEq, Prod.mk.injEq] at H
 obtain ⟨rfl, rfl⟩ := H
 go_enter Try.func77, Try.ntmps77
 go_wp2_with (first | ((with_reducible refine gate_dst (N := 1) rfl ?_); refine box_event ?hg (N := 1) ?hd (cs := #[.bool a0_0, .slice A0_1 l0_1.length c0_1]) (t := 39) ?hr ?_; (case hd => rfl); (case hg => rfl); (case hr => first | (go_simp; done) | (go_simp; rfl)); intro gb357 hg w3 hbox hb; have BK357 := Aside0.mk (hbox); have GW357 := Sq.gw HB hg; have GE357 := Sq.gw HB hg; replace HB := Sq.bs HB hb; clear hb hbox hg) | ((with_reducible refine gate_dst (N := 2) rfl ?_); refine box_event ?hg (N := 2) ?hd (cs := #[.bool false, .slice none 0 0]) (t := 39) ?hr ?_; (case hd => rfl); (case hg => rfl); (case hr => first | (go_simp; done) | (go_simp; rfl)); intro gb358 hg w4 hbox hb; have BK358 := Aside0.mk (hbox); have GW358 := Sq.gw HB hg; have GE358 := Sq.gw HB hg; have NB357_358 := Sq.nl BK357 hg; have NB358_357 := Sq.ng BK357 hg; replace BK357 := Sq.bb BK357 hb; replace HB := Sq.bs HB hb; clear hb hbox hg; have hnb5 := NB357_358.out; have hnc5 := NB358_357.out; have hcz6_0 := Sq.bc BK357 0 (.bool a0_0); have hcz6_1 := Sq.bc BK357 1 (.slice A0_1 l0_1.length c0_1); have hfz6_0 := blk_frozen BK357.out 0; have hfz6_1 := blk_frozen BK357.out 1) | ((with_reducible refine gate_callee (f := 73) rfl ?_); refine Sq.gl (some 8) Try.func73 #[.agg #[.bool (!a0_0), .slice A0_1 l0_1.length c0_1]] ?_; (with_reducible refine (foliotref02_Norm.calls (!a0_0) _ _ l0_1 t359 t360 _ ?side1 ?side2 A2.out).mono ?_); (case side1 => exact Kd.C_below HR0_1.out (Sq.bl HB)); (case side2 => exact HC0_1.out); rintro e w7 ⟨v361, rfl, ho0, hb⟩; refine ⟨_, rfl, ?_⟩; have HO362 := Aside0.mk (Kd.R_lower ho0 (below_size (Sq.bl HB))); replace BK357 := Aside0.mk (blk_below (g := gb357) (o := .cells #[.bool (!a0_0), .slice A0_1 l0_1.length c0_1] 39 (0, 0)) (by (with_reducible repeat (first | refine blk_drewN ?_ _ | refine blk_drew ?_ | refine blk_alloc ?_ _)); refine blk_put (cs := #[.bool a0_0, .slice A0_1 l0_1.length c0_1]) ?_ 0 _ rfl; (with_reducible repeat (first | refine blk_drewN ?_ _ | refine blk_drew ?_ | refine blk_alloc ?_ _)); exact BK357.out) hb); replace BK358 := Aside0.mk (blk_below (g := gb358) (o := .cells #[.bool false, .slice none 0 0] 39 (0, 0)) (by (with_reducible repeat (first | refine blk_drewN ?_ _ | refine blk_drew ?_ | refine blk_alloc ?_ _)); refine blk_far ?_ NB358_357.out _; (with_reducible repeat (first | refine blk_drewN ?_ _ | refine blk_drew ?_ | refine blk_alloc ?_ _)); exact BK358.out) hb); replace HB := Sq.bs HB hb; (try clear hb); (try clear hb2); (try clear hk); (try clear hi); (try clear ho0); have hcz8_0 := Sq.bc BK358 0 (.bool false); have hcz8_1 := Sq.bc BK358 1 (.slice none 0 0); have hfz8_0 := blk_frozen BK358.out 0; have hfz8_1 := blk_frozen BK358.out 1; obtain ⟨Ao9, co9, eo9⟩ := Kd.R_slice HO362.out; subst eo9))
 refine bodyPost_ret (results_cell_row rfl _ _ gb358 39 #[.bool t359, .slice Ao9 t360.length co9] (0, 0) _ rfl (by (with_reducible repeat (first | refine blk_drewN ?_ _ | refine blk_drew ?_ | refine blk_alloc ?_ _)); refine blk_put (cs := #[.bool t359, .slice none 0 0]) ?_ 1 _ rfl; (with_reducible repeat (first | refine blk_drewN ?_ _ | refine blk_drew ?_ | refine blk_alloc ?_ _)); refine blk_put (cs := #[.bool false, .slice none 0 0]) ?_ 0 _ rfl; (with_reducible repeat (first | refine blk_drewN ?_ _ | refine blk_drew ?_ | refine blk_alloc ?_ _)); exact BK358.out) Try.underlying39 rfl (by kernel_rfl)) rfl ?_
 exact ⟨_, by first | rfl | (simp [errW_none, errW_some] <;> rfl) | (simp [*, errW_none, errW_some] <;> rfl), by (with_reducible repeat (first | apply Kd.R_alloc | apply Kd.R_drewN | apply Kd.R_drew)); exact Kd.R_mono (Kd.R_far (p := ⟨gb358, 1, none⟩) (Kd.R_far (p := ⟨gb358, 0, none⟩) (Sq.rt HO362.out BK358) (fun _ hk => hk.2) (.bool t359)) (fun _ hk => hk.2) (.slice Ao9 t360.length co9)) (fun _ hk => trivial), Sq.bl HB⟩
def foliotref02_Sub.f (a0_0 : Bool) (l0_1 : List Int) (a1_0 : Bool) (l1_1 : List Int) : Option (Bool × List Int) := (foliotref02_Neg.f a1_0 l1_1).bind fun bt366 => ((foliotref02_Add.f a0_0 l0_1 bt366.1 bt366.2).bind fun bt370 => (some (bt370.1, bt370.2)))
set_option maxHeartbeats 8000000 in
set_option maxRecDepth 100000 in
theorem foliotref02_Sub.calls (a0_0 : Bool) (A0_1 : Option Addr) (c0_1 : Nat) (l0_1 : List Int) (a1_0 : Bool) (A1_1 : Option Addr) (c1_1 : Nat) (l1_1 : List Int) (r1 : Bool) (r2 : List Int) (w : World) (hr0_1 : Kd.C (Kd.int .u32) w A0_1 l0_1.length l0_1) (hc0_1 : l0_1.length ≤ c0_1) (hr1_1 : Kd.C (Kd.int .u32) w A1_1 l1_1.length l1_1) (hc1_1 : l1_1.length ≤ c1_1) (h : foliotref02_Sub.f a0_0 l0_1 a1_0 l1_1 = some (r1, r2)) :
  Calls Try.prog 75 #[.agg #[.bool a0_0, .slice A0_1 l0_1.length c0_1], .agg #[.bool a1_0, .slice A1_1 l1_1.length c1_1]] w fun e w' => ∃ v1_ : Value, e = .returned (.agg #[.bool r1, v1_]) ∧ Kd.R (Kd.int .u32) 107 w' w.heap.size (fun _ => True) v1_ r2 ∧ Below w.heap.size w w' := by
 have hu39 := Try.underlying39
 have HR0_1 := Aside0.mk hr0_1
 have HC0_1 := Aside0.mk hc0_1
 clear hr0_1 hc0_1
 have HR1_1 := Aside0.mk hr1_1
 have HC1_1 := Aside0.mk hc1_1
 clear hr1_1 hc1_1
 have HB := Aside0.mk (Below.refl w.heap.size w)
 have H : ((foliotref02_Neg.f a1_0 l1_1).bind fun bt366 => ((foliotref02_Add.f a0_0 l0_1 bt366.1 bt366.2).bind fun bt370 => (some (bt370.1, bt370.2)))) = some (r1, r2) := h
 clear h
 replace H := Sq.bd H
 obtain ⟨⟨t366, t367⟩, A3, H⟩ := H
 (try dsimp -simprocs only at H)
 replace H := Sq.bd H
 obtain ⟨⟨t370, t371⟩, A4, H⟩ := H
 (try dsimp -simprocs only at H)
 simp only [Option.some.injEq, Prod.mk.injEq] at H
 obtain ⟨rfl, rfl⟩ := H
 go_enter Try.func75, Try.ntmps75
 try go_wp2_with (first | ((with_reducible refine gate_dst (N := 2) rfl ?_); refine box_event ?hg (N := 2) ?hd (cs := #[.bool a0_0, .slice A0_1 l0_1.length c0_1]) (t := 39) ?hr ?_; (case hd => rfl); (case hg => rfl); (case hr => first | (go_simp; done) | (go_simp; rfl)); intro gb363 hg w5 hbox hb; have BK363 := Aside0.mk (hbox); have GW363 := Sq.gw HB hg; have GE363 := Sq.gw HB hg; replace HB := Sq.bs HB hb; clear hb hbox hg) | ((with_reducible refine gate_dst (N := 3) rfl ?_); refine box_event ?hg (N := 3) ?hd (cs := #[.bool a1_0, .slice A1_1 l1_1.length c1_1]) (t := 39) ?hr ?_; (case hd => rfl); (case hg => rfl); (case hr => first | (go_simp; done) | (go_simp; rfl)); intro gb364 hg w6 hbox hb; have BK364 := Aside0.mk (hbox); have GW364 := Sq.gw HB hg; have GE364 := Sq.gw HB hg; have NB363_364 := Sq.nl BK363 hg; have NB364_363 := Sq.ng BK363 hg; replace BK363 := Sq.bb BK363 hb; replace HB := Sq.bs HB hb; clear hb hbox hg) | ((with_reducible refine gate_dst (N := 4) rfl ?_); refine box_event ?hg (N := 4) ?hd (cs := #[.bool false, .slice none 0 0]) (t := 39) ?hr ?_; (case hd => rfl); (case hg => rfl); (case hr => first | (go_simp; done) | (go_simp; rfl)); intro gb365 hg w7 hbox hb; have BK365 := Aside0.mk (hbox); have GW365 := Sq.gw HB hg; have GE365 := Sq.gw HB hg; have NB363_365 := Sq.nl BK363 hg; have NB365_363 := Sq.ng BK363 hg; have NB364_365 := Sq.nl BK364 hg; have NB365_364 := Sq.ng BK364 hg; replace BK363 := Sq.bb BK363 hb; replace BK364 := Sq.bb BK364 hb; replace HB := Sq.bs HB hb; clear hb hbox hg))
 replace BK363 := Aside0.mk (blk_drew BK363.out)
 replace BK364 := Aside0.mk (blk_drew BK364.out)
 replace BK365 := Aside0.mk (blk_drew BK365.out)
 replace HB := Aside0.mk (below_drew1 HB.out)
 refine start_ (n := 5) (S := fun w' => w'.cell? ⟨gb363, 0, none⟩ = some (.bool a0_0) ∧ w'.cell? ⟨gb363, 1, none⟩ = some (.slice A0_1 l0_1.length c0_1) ∧ w'.cell? ⟨gb364, 0, none⟩ = some (.bool a1_0) ∧ w'.cell? ⟨gb364, 1, none⟩ = some (.slice A1_1 l1_1.length c1_1)) (ds := []) #[false, false, false, false, false] (by kernel_rfl) rfl rfl ⟨(blk_cell BK363.out 0).trans rfl, (blk_cell BK363.out 1).trans rfl, (blk_cell BK364.out 0).trans rfl, (blk_cell BK364.out 1).trans rfl⟩ (fun hHeld => ?_)
 generalize w7.drew = w8 at BK363 BK364 BK365 HB hHeld ⊢
 refine take_ (i := 0) (N := some 5) (v := ?_) (a' := ?_) #[true, false, false, false, false] rfl rfl (by kernel_rfl) (fun _ _ _ h => h) (Or.inl ⟨by rfl, ?_⟩) hHeld ?_ ?_
 rotate_left
 ·rintro w' ⟨s0, s1, s2, s3⟩
  go_simp
  with_reducible rfl
 rotate_left
 ·simp only [Act.put, List.setIfInBounds_toArray, List.set_cons_zero, List.set_cons_succ, i64_w, i32_w]
  rfl
 refine take_ (i := 1) (N := some 6) (v := ?_) (a' := ?_) #[true, true, false, false, false] rfl rfl (by kernel_rfl) (fun _ _ _ h => h) (Or.inl ⟨by rfl, ?_⟩) hHeld ?_ ?_
 rotate_left
 ·rintro w' ⟨s0, s1, s2, s3⟩
  go_simp
  with_reducible rfl
 rotate_left
 ·simp only [Act.put, List.setIfInBounds_toArray, List.set_cons_zero, List.set_cons_succ, i64_w, i32_w]
  rfl
 refine one_ (i := 2) (N := some 7) #[true, true, true, false, false] rfl rfl (by kernel_rfl) (by decide) (fun K hK => ?_)
 refine goes_ Try.func77 (by kernel_rfl) rfl #[.agg #[.bool a1_0, .slice A1_1 l1_1.length c1_1]] (by rfl) rfl rfl (by (try simp only [List.map_toArray, List.map_cons, List.map_nil]); first | done | rfl | (simp only [List.length_drop, List.length_take]; rfl)) ?_
 with_reducible refine (foliotref02_Neg.calls a1_0 _ _ l1_1 t366 t367 _ ?side1 ?side2 A3.out).mono ?_
 (case side1 => exact Sq.ca (Kd.C_below HR1_1.out HB.out))
 (case side2 => exact HC1_1.out)
 rintro e w9 ⟨v368, rfl, ho0, hb⟩
 refine ⟨_, rfl, ?_⟩
 have HO369 := Aside0.mk (Kd.R_lower ho0 (below_size (Sq.bl HB)))
 replace BK363 := Sq.bb BK363 hb
 replace BK364 := Sq.bb BK364 hb
 replace BK365 := Sq.bb BK365 hb
 replace HB := Sq.bs HB hb
 (try clear hb)
 (try clear hb2)
 (try clear hk)
 (try clear hi)
 (try clear ho0)
 obtain ⟨Ao10, co10, eo10⟩ := Kd.R_slice HO369.out
 (first | subst eo10 | (injection eo10 with f1_ f2_ f3_; have f4_ := f1_.symm; have f5_ := f3_.symm; clear f1_ f2_ f3_; subst f4_; subst f5_))
 refine hK.out _ _ ⟨(blk_cell BK363.out 0).trans rfl, (blk_cell BK363.out 1).trans rfl, (blk_cell BK364.out 0).trans rfl, (blk_cell BK364.out 1).trans rfl⟩ (fun hHeld => ?_)
 clear hK K
 refine norm_ (a' := ?_) ?_ ?_
 rotate_left
 ·show Act.put _ (some 7) _ = _
  simp only [Act.put, List.setIfInBounds_toArray, List.set_cons_zero, List.set_cons_succ, i64_w, i32_w]
  rfl
 refine one_ (i := 3) (N := some 8) #[true, true, true, true, false] rfl rfl (by kernel_rfl) (by decide) (fun K hK => ?_)
 refine goes_ Try.func74 (by kernel_rfl) rfl #[.agg #[.bool a0_0, .slice A0_1 l0_1.length c0_1], .agg #[.bool t366, .slice Ao10 t367.length co10]] (by rfl) rfl rfl (by (try simp only [List.map_toArray, List.map_cons, List.map_nil]); first | done | rfl | (simp only [List.length_drop, List.length_take]; rfl)) ?_
 with_reducible refine (foliotref02_Add.calls a0_0 _ _ l0_1 t366 _ _ t367 t370 t371 _ ?side1 ?side2 ?side3 ?side4 A4.out).mono ?_
 (case side1 => exact Sq.ca (Kd.C_below HR0_1.out HB.out))
 (case side2 => exact HC0_1.out)
 (case side3 => exact Sq.ca (Kd.R_reads' HO369.out).2.2)
 (case side4 => exact (Kd.R_reads' HO369.out).2.1)
 rintro e w11 ⟨v372, rfl, ho0, hb⟩
 refine ⟨_, rfl, ?_⟩
 have HO373 := Aside0.mk (Kd.R_lower (Kd.R_new' ho0 (Kd.R_lt (Sq.al HO369))) (below_size (Sq.bl HB)))
 replace BK363 := Sq.bb BK363 hb
 replace BK364 := Sq.bb BK364 hb
 replace BK365 := Sq.bb BK365 hb
 replace HO369 := Aside0.mk (Kd.R_elder' (Sq.al HO369) (Kd.R_base ho0) hb)
 replace HB := Sq.bs HB hb
 (try clear hb)
 (try clear hb2)
 (try clear hk)
 (try clear hi)
 (try clear ho0)
 obtain ⟨Ao13, co13, eo13⟩ := Kd.R_slice HO373.out
 (first | subst eo13 | (injection eo13 with f1_ f2_ f3_; have f4_ := f1_.symm; have f5_ := f3_.symm; clear f1_ f2_ f3_; subst f4_; subst f5_))
 refine hK.out _ _ ⟨(blk_cell BK363.out 0).trans rfl, (blk_cell BK363.out 1).trans rfl, (blk_cell BK364.out 0).trans rfl, (blk_cell BK364.out 1).trans rfl⟩ (fun hHeld => ?_)
 clear hK K
 refine norm_ (a' := ?_) ?_ ?_
 rotate_left
 ·show Act.put _ (some 8) _ = _
  simp only [Act.put, List.setIfInBounds_toArray, List.set_cons_zero, List.set_cons_succ, i64_w, i32_w]
  rfl
 refine one_ (i := 4) (N := none) #[true, true, true, true, true] rfl rfl (by kernel_rfl) (by decide) (fun K hK => ?_)
 have hs12 : w11.cell? ⟨gb365, 0, none⟩ = some (.bool false) := (blk_cell BK365.out 0).trans rfl
 have hfs12 := blk_frozen BK365.out 0
 have hns12_0 := NB363_365.out
 have hns12_1 := NB364_365.out
 have hms12_0 := NB365_363.out
 have hms12_1 := NB365_364.out
 have hs14 : w11.cell? ⟨gb365, 1, none⟩ = some (.slice none 0 0) := (blk_cell BK365.out 1).trans rfl
 have hfs14 := blk_frozen BK365.out 1
 have hns14_0 := NB363_365.out
 have hns14_1 := NB364_365.out
 have hms14_0 := NB365_363.out
 have hms14_1 := NB365_364.out
 refine skip_ (w1 := ?_) (by rfl) rfl ?_ ?_
 rotate_left
 ·go_simp
  rfl
 refine hK.out _ _ ⟨((cell_far (p := ⟨gb365, _, none⟩) NB363_365.out _).trans (((cell_far (p := ⟨gb365, _, none⟩) NB363_365.out _).trans (hHeld.1)))), ((cell_far (p := ⟨gb365, _, none⟩) NB363_365.out _).trans (((cell_far (p := ⟨gb365, _, none⟩) NB363_365.out _).trans (hHeld.2.1)))), ((cell_far (p := ⟨gb365, _, none⟩) NB364_365.out _).trans (((cell_far (p := ⟨gb365, _, none⟩) NB364_365.out _).trans (hHeld.2.2.1)))), ((cell_far (p := ⟨gb365, _, none⟩) NB364_365.out _).trans (((cell_far (p := ⟨gb365, _, none⟩) NB364_365.out _).trans (hHeld.2.2.2))))⟩ (fun hHeld => ?_)
 clear hK K
 refine done_ (by kernel_rfl) ?_
 try go_wp2
 refine bodyPost_ret (results_cell_row rfl _ _ gb365 39 #[.bool t370, .slice Ao13 t371.length co13] (0, 0) _ rfl (by (with_reducible repeat (first | refine blk_drewN ?_ _ | refine blk_drew ?_ | refine blk_alloc ?_ _)); refine blk_put (cs := #[.bool t370, .slice none 0 0]) ?_ 1 _ rfl; (with_reducible repeat (first | refine blk_drewN ?_ _ | refine blk_drew ?_ | refine blk_alloc ?_ _)); refine blk_put (cs := #[.bool false, .slice none 0 0]) ?_ 0 _ rfl; (with_reducible repeat (first | refine blk_drewN ?_ _ | refine blk_drew ?_ | refine blk_alloc ?_ _)); exact BK365.out) Try.underlying39 rfl (by kernel_rfl)) rfl ?_
 exact ⟨_, by first | rfl | (simp [errW_none, errW_some] <;> rfl) | (simp [*, errW_none, errW_some] <;> rfl), by (with_reducible repeat (first | apply Kd.R_alloc | apply Kd.R_drewN | apply Kd.R_drew)); exact Kd.R_mono (Kd.R_far (p := ⟨gb365, 1, none⟩) (Kd.R_far (p := ⟨gb365, 0, none⟩) (Sq.rt HO373.out BK365) (fun _ hk => hk.2) (.bool t370)) (fun _ hk => hk.2) (.slice Ao13 t371.length co13)) (fun _ hk => trivial), Sq.bl HB⟩
def foliotref01_Mul.f (l0 : List Int) (l1 : List Int) : Option (List Int) := if Nb.rfits l0 ∧ Nb.rfits l1 then some (Nt.ofN (Nt.val l0 * Nt.val l1)) else none
theorem foliotref01_Mul.calls (A0 : Option Addr) (c0 : Nat) (l0 : List Int) (A1 : Option Addr) (c1 : Nat) (l1 : List Int) (r : List Int) (w : World) (hr0 : Kd.C (Kd.int .u32) w A0 l0.length l0) (hc0 : l0.length ≤ c0) (hr1 : Kd.C (Kd.int .u32) w A1 l1.length l1) (hc1 : l1.length ≤ c1) (h : foliotref01_Mul.f l0 l1 = some r) :
  Calls Try.prog 48 #[.slice A0 l0.length c0, .slice A1 l1.length c1] w fun e w' => ∃ v0_ : Value, e = .returned (v0_) ∧ Kd.R (Kd.int .u32) 107 w' w.heap.size (fun _ => True) v0_ r ∧ Below w.heap.size w w' := by
 unfold foliotref01_Mul.f at h
 split at h
 ·rename_i hf
  injection h with h
  obtain ⟨K, hK⟩ := Nb.rmul_ev hf.1.2 hf.2.2 hf.1.1 hf.2.1
  exact N.foliotref01_Mul.calls K A0 c0 l0 A1 c1 l1 _ w hr0 hc0 hr1 hc1 ((hK K (Nat.le_refl _)).trans (congrArg some h))
 ·cases h
def foliotref02_Mul.f (a0_0 : Bool) (l0_1 : List Int) (a1_0 : Bool) (l1_1 : List Int) : Option (Bool × List Int) := (foliotref01_Mul.f l0_1 l1_1).bind fun t377 => ((foliotref02_Norm.f (a0_0 != a1_0) t377).bind fun bt380 => (some (bt380.1, bt380.2)))
def foliotref02_Mul.T1 : Bool × List (List Nat × List Nat) := (true, [([], []), ([0], [0]), ([], []), ([2], [2]), ([1, 3], [1, 3]), ([], []), ([5], [5]), ([], []), ([7], [7]), ([6, 8], [6, 8]), ([4, 9], [4, 9]), ([10, 9], [10]), ([11, 11, 0, 1, 2, 3, 4, 5, 6, 7, 8, 9, 10, 11], [11])])
def foliotref02_Mul.B1 : List Nat := [0, 1, 0, 4, 15, 0, 32, 0, 128, 480, 1023, 2047, 4095]
theorem foliotref02_Mul.tab1 : rtab .any (opsOf Try.f76 1) = foliotref02_Mul.T1 := by kernel_rfl
theorem foliotref02_Mul.bits1 : waitsOk foliotref02_Mul.T1.2 foliotref02_Mul.B1 = true := by kernel_rfl
set_option maxHeartbeats 8000000 in
set_option maxRecDepth 100000 in
theorem foliotref02_Mul.calls (a0_0 : Bool) (A0_1 : Option Addr) (c0_1 : Nat) (l0_1 : List Int) (a1_0 : Bool) (A1_1 : Option Addr) (c1_1 : Nat) (l1_1 : List Int) (r1 : Bool) (r2 : List Int) (w : World) (hr0_1 : Kd.C (Kd.int .u32) w A0_1 l0_1.length l0_1) (hc0_1 : l0_1.length ≤ c0_1) (hr1_1 : Kd.C (Kd.int .u32) w A1_1 l1_1.length l1_1) (hc1_1 : l1_1.length ≤ c1_1) (h : foliotref02_Mul.f a0_0 l0_1 a1_0 l1_1 = some (r1, r2)) :
  Calls Try.prog 76 #[.agg #[.bool a0_0, .slice A0_1 l0_1.length c0_1], .agg #[.bool a1_0, .slice A1_1 l1_1.length c1_1]] w fun e w' => ∃ v1_ : Value, e = .returned (.agg #[.bool r1, v1_]) ∧ Kd.R (Kd.int .u32) 107 w' w.heap.size (fun _ => True) v1_ r2 ∧ Below w.heap.size w w' := by
 have hu39 := Try.underlying39
 have HR0_1 := Aside0.mk hr0_1
 have HC0_1 := Aside0.mk hc0_1
 clear hr0_1 hc0_1
 have HR1_1 := Aside0.mk hr1_1
 have HC1_1 := Aside0.mk hc1_1
 clear hr1_1 hc1_1
 have HB := Aside0.mk (Below.refl w.heap.size w)
 have H : ((foliotref01_Mul.f l0_1 l1_1).bind fun t377 => ((foliotref02_Norm.f (a0_0 != a1_0) t377).bind fun bt380 => (some (bt380.1, bt380.2)))) = some (r1, r2) := h
 clear h
 replace H := Sq.bd H
 obtain ⟨t377, A3, H⟩ := H
 (try dsimp -simprocs only at H)
 replace H := Sq.bd H
 obtain ⟨⟨t380, t381⟩, A4, H⟩ := H
 (try dsimp -simprocs only at H)
 simp only [Option.some.injEq, Prod.mk.injEq] at H
 obtain ⟨rfl, rfl⟩ := H
 go_enter Try.func76, Try.ntmps76
 try go_wp2_with (first | ((with_reducible refine gate_dst (N := 2) rfl ?_); refine box_event ?hg (N := 2) ?hd (cs := #[.bool a0_0, .slice A0_1 l0_1.length c0_1]) (t := 39) ?hr ?_; (case hd => rfl); (case hg => rfl); (case hr => first | (go_simp; done) | (go_simp; rfl)); intro gb374 hg w5 hbox hb; have BK374 := Aside0.mk (hbox); have GW374 := Sq.gw HB hg; have GE374 := Sq.gw HB hg; replace HB := Sq.bs HB hb; clear hb hbox hg) | ((with_reducible refine gate_dst (N := 3) rfl ?_); refine box_event ?hg (N := 3) ?hd (cs := #[.bool a1_0, .slice A1_1 l1_1.length c1_1]) (t := 39) ?hr ?_; (case hd => rfl); (case hg => rfl); (case hr => first | (go_simp; done) | (go_simp; rfl)); intro gb375 hg w6 hbox hb; have BK375 := Aside0.mk (hbox); have GW375 := Sq.gw HB hg; have GE375 := Sq.gw HB hg; have NB374_375 := Sq.nl BK374 hg; have NB375_374 := Sq.ng BK374 hg; replace BK374 := Sq.bb BK374 hb; replace HB := Sq.bs HB hb; clear hb hbox hg) | ((with_reducible refine gate_dst (N := 4) rfl ?_); refine box_event ?hg (N := 4) ?hd (cs := #[.bool false, .slice none 0 0]) (t := 39) ?hr ?_; (case hd => rfl); (case hg => rfl); (case hr => first | (go_simp; done) | (go_simp; rfl)); intro gb376 hg w7 hbox hb; have BK376 := Aside0.mk (hbox); have GW376 := Sq.gw HB hg; have GE376 := Sq.gw HB hg; have NB374_376 := Sq.nl BK374 hg; have NB376_374 := Sq.ng BK374 hg; have NB375_376 := Sq.nl BK375 hg; have NB376_375 := Sq.ng BK375 hg; replace BK374 := Sq.bb BK374 hb; replace BK375 := Sq.bb BK375 hb; replace HB := Sq.bs HB hb; clear hb hbox hg))
 replace BK374 := Aside0.mk (blk_drew BK374.out)
 replace BK375 := Aside0.mk (blk_drew BK375.out)
 replace BK376 := Aside0.mk (blk_drew BK376.out)
 replace HB := Aside0.mk (below_drew1 HB.out)
 refine start_ (n := 13) (S := fun w' => w'.cell? ⟨gb374, 0, none⟩ = some (.bool a0_0) ∧ w'.cell? ⟨gb374, 1, none⟩ = some (.slice A0_1 l0_1.length c0_1) ∧ w'.cell? ⟨gb375, 0, none⟩ = some (.bool a1_0) ∧ w'.cell? ⟨gb375, 1, none⟩ = some (.slice A1_1 l1_1.length c1_1)) (ds := []) #[false, false, false, false, false, false, false, false, false, false, false, false, false] (by kernel_rfl) rfl rfl ⟨(blk_cell BK374.out 0).trans rfl, (blk_cell BK374.out 1).trans rfl, (blk_cell BK375.out 0).trans rfl, (blk_cell BK375.out 1).trans rfl⟩ (fun hHeld => ?_); refine with_tabW foliotref02_Mul.tab1 foliotref02_Mul.bits1 (fun HT_ HW_ => ?_)
 generalize w7.drew = w8 at BK374 BK375 BK376 HB hHeld ⊢
 refine Sq.pu (v := ?_) (a' := ?_) 0 (some 5) #[true, false, false, false, false, false, false, false, false, false, false, false, false] HT_ ?_ ?_ ?_
 rotate_left
 ·intro w'
  go_simp
  with_reducible rfl
 rotate_left
 ·simp only [Act.put, List.setIfInBounds_toArray, List.set_cons_zero, List.set_cons_succ, i64_w, i32_w]
  rfl
 refine Sq.pu (v := ?_) (a' := ?_) 2 (some 7) #[true, false, true, false, false, false, false, false, false, false, false, false, false] HT_ ?_ ?_ ?_
 rotate_left
 ·intro w'
  go_simp
  with_reducible rfl
 rotate_left
 ·simp only [Act.put, List.setIfInBounds_toArray, List.set_cons_zero, List.set_cons_succ, i64_w, i32_w]
  rfl
 refine Sq.pu (v := ?_) (a' := ?_) 5 (some 10) #[true, false, true, false, false, true, false, false, false, false, false, false, false] HT_ ?_ ?_ ?_
 rotate_left
 ·intro w'
  go_simp
  with_reducible rfl
 rotate_left
 ·simp only [Act.put, List.setIfInBounds_toArray, List.set_cons_zero, List.set_cons_succ, i64_w, i32_w]
  rfl
 refine Sq.pu (v := ?_) (a' := ?_) 7 (some 12) #[true, false, true, false, false, true, false, true, false, false, false, false, false] HT_ ?_ ?_ ?_
 rotate_left
 ·intro w'
  go_simp
  with_reducible rfl
 rotate_left
 ·simp only [Act.put, List.setIfInBounds_toArray, List.set_cons_zero, List.set_cons_succ, i64_w, i32_w]
  rfl
 refine Sq.tk (v := ?_) (a' := ?_) 1 (some 6) #[true, true, true, false, false, true, false, true, false, false, false, false, false] HT_ HW_ hHeld ?_ ?_ ?_
 rotate_left
 ·rintro w' ⟨s0, s1, s2, s3⟩
  go_simp
  with_reducible rfl
 rotate_left
 ·simp only [Act.put, List.setIfInBounds_toArray, List.set_cons_zero, List.set_cons_succ, i64_w, i32_w]
  rfl
 refine Sq.tk (v := ?_) (a' := ?_) 3 (some 8) #[true, true, true, true, false, true, false, true, false, false, false, false, false] HT_ HW_ hHeld ?_ ?_ ?_
 rotate_left
 ·rintro w' ⟨s0, s1, s2, s3⟩
  go_simp
  with_reducible rfl
 rotate_left
 ·simp only [Act.put, List.setIfInBounds_toArray, List.set_cons_zero, List.set_cons_succ, i64_w, i32_w]
  rfl
 refine Sq.pu (v := ?_) (a' := ?_) 4 (some 9) #[true, true, true, true, true, true, false, true, false, false, false, false, false] HT_ ?_ ?_ ?_
 rotate_left
 ·intro w'
  go_simp
  with_reducible rfl
 rotate_left
 ·simp only [Act.put, List.setIfInBounds_toArray, List.set_cons_zero, List.set_cons_succ, i64_w, i32_w]
  rfl
 refine Sq.tk (v := ?_) (a' := ?_) 6 (some 11) #[true, true, true, true, true, true, true, true, false, false, false, false, false] HT_ HW_ hHeld ?_ ?_ ?_
 rotate_left
 ·rintro w' ⟨s0, s1, s2, s3⟩
  go_simp
  with_reducible rfl
 rotate_left
 ·simp only [Act.put, List.setIfInBounds_toArray, List.set_cons_zero, List.set_cons_succ, i64_w, i32_w]
  rfl
 refine Sq.tk (v := ?_) (a' := ?_) 8 (some 13) #[true, true, true, true, true, true, true, true, true, false, false, false, false] HT_ HW_ hHeld ?_ ?_ ?_
 rotate_left
 ·rintro w' ⟨s0, s1, s2, s3⟩
  go_simp
  with_reducible rfl
 rotate_left
 ·simp only [Act.put, List.setIfInBounds_toArray, List.set_cons_zero, List.set_cons_succ, i64_w, i32_w]
  rfl
 refine one_ (i := 9) (N := some 14) #[true, true, true, true, true, true, true, true, true, true, false, false, false] rfl rfl (one_of HT_.out (by kernel_rfl)) (by decide) (fun K hK => ?_)
 refine goes_ Try.func48 (by kernel_rfl) rfl #[.slice A0_1 l0_1.length c0_1, .slice A1_1 l1_1.length c1_1] (by rfl) rfl rfl (by (try simp only [List.map_toArray, List.map_cons, List.map_nil]); first | done | rfl | (simp only [List.length_drop, List.length_take]; rfl)) ?_
 with_reducible refine (foliotref01_Mul.calls _ _ l0_1 _ _ l1_1 t377 _ ?side1 ?side2 ?side3 ?side4 A3.out).mono ?_
 (case side1 => exact Sq.ca (Kd.C_below HR0_1.out HB.out))
 (case side2 => exact HC0_1.out)
 (case side3 => exact Sq.ca (Kd.C_below HR1_1.out HB.out))
 (case side4 => exact HC1_1.out)
 rintro e w9 ⟨v378, rfl, ho0, hb⟩
 refine ⟨_, rfl, ?_⟩
 have HO379 := Aside0.mk (Kd.R_lower ho0 (below_size (Sq.bl HB)))
 replace BK374 := Sq.bb BK374 hb
 replace BK375 := Sq.bb BK375 hb
 replace BK376 := Sq.bb BK376 hb
 replace HB := Sq.bs HB hb
 (try clear hb)
 (try clear hb2)
 (try clear hk)
 (try clear hi)
 (try clear ho0)
 obtain ⟨Ao10, co10, eo10⟩ := Kd.R_slice HO379.out
 (first | subst eo10 | (injection eo10 with f1_ f2_ f3_; have f4_ := f1_.symm; have f5_ := f3_.symm; clear f1_ f2_ f3_; subst f4_; subst f5_))
 refine hK.out _ _ ⟨(blk_cell BK374.out 0).trans rfl, (blk_cell BK374.out 1).trans rfl, (blk_cell BK375.out 0).trans rfl, (blk_cell BK375.out 1).trans rfl⟩ (fun hHeld => ?_)
 clear hK K
 refine norm_ (a' := ?_) ?_ ?_
 rotate_left
 ·show Act.put _ (some 14) _ = _
  simp only [Act.put, List.setIfInBounds_toArray, List.set_cons_zero, List.set_cons_succ, i64_w, i32_w]
  rfl
 refine Sq.pu (v := ?_) (a' := ?_) 10 (some 15) #[true, true, true, true, true, true, true, true, true, true, true, false, false] HT_ ?_ ?_ ?_
 rotate_left
 ·intro w'
  go_simp
  with_reducible rfl
 rotate_left
 ·simp only [Act.put, List.setIfInBounds_toArray, List.set_cons_zero, List.set_cons_succ, i64_w, i32_w]
  rfl
 refine one_ (i := 11) (N := some 16) #[true, true, true, true, true, true, true, true, true, true, true, true, false] rfl rfl (one_of HT_.out (by kernel_rfl)) (by decide) (fun K hK => ?_)
 refine goes_ Try.func73 (by kernel_rfl) rfl #[.agg #[.bool (a0_0 != a1_0), .slice Ao10 t377.length co10]] (by rfl) rfl rfl (by (try simp only [List.map_toArray, List.map_cons, List.map_nil]); first | done | rfl | (simp only [List.length_drop, List.length_take]; rfl)) ?_
 with_reducible refine (foliotref02_Norm.calls (a0_0 != a1_0) _ _ t377 t380 t381 _ ?side1 ?side2 A4.out).mono ?_
 (case side1 => exact Sq.ca (Kd.R_reads' HO379.out).2.2)
 (case side2 => exact (Kd.R_reads' HO379.out).2.1)
 rintro e w11 ⟨v382, rfl, ho0, hb⟩
 refine ⟨_, rfl, ?_⟩
 have HO383 := Aside0.mk (Kd.R_lower (Kd.R_new' ho0 (Kd.R_lt (Sq.al HO379))) (below_size (Sq.bl HB)))
 replace BK374 := Sq.bb BK374 hb
 replace BK375 := Sq.bb BK375 hb
 replace BK376 := Sq.bb BK376 hb
 replace HO379 := Aside0.mk (Kd.R_elder' (Sq.al HO379) (Kd.R_base ho0) hb)
 replace HB := Sq.bs HB hb
 (try clear hb)
 (try clear hb2)
 (try clear hk)
 (try clear hi)
 (try clear ho0)
 obtain ⟨Ao13, co13, eo13⟩ := Kd.R_slice HO383.out
 (first | subst eo13 | (injection eo13 with f1_ f2_ f3_; have f4_ := f1_.symm; have f5_ := f3_.symm; clear f1_ f2_ f3_; subst f4_; subst f5_))
 refine hK.out _ _ ⟨(blk_cell BK374.out 0).trans rfl, (blk_cell BK374.out 1).trans rfl, (blk_cell BK375.out 0).trans rfl, (blk_cell BK375.out 1).trans rfl⟩ (fun hHeld => ?_)
 clear hK K
 refine norm_ (a' := ?_) ?_ ?_
 rotate_left
 ·show Act.put _ (some 16) _ = _
  simp only [Act.put, List.setIfInBounds_toArray, List.set_cons_zero, List.set_cons_succ, i64_w, i32_w]
  rfl
 refine one_ (i := 12) (N := none) #[true, true, true, true, true, true, true, true, true, true, true, true, true] rfl rfl (one_of HT_.out (by kernel_rfl)) (by decide) (fun K hK => ?_)
 have hs12 : w11.cell? ⟨gb376, 0, none⟩ = some (.bool false) := (blk_cell BK376.out 0).trans rfl
 have hfs12 := blk_frozen BK376.out 0
 have hns12_0 := NB374_376.out
 have hns12_1 := NB375_376.out
 have hms12_0 := NB376_374.out
 have hms12_1 := NB376_375.out
 have hs14 : w11.cell? ⟨gb376, 1, none⟩ = some (.slice none 0 0) := (blk_cell BK376.out 1).trans rfl
 have hfs14 := blk_frozen BK376.out 1
 have hns14_0 := NB374_376.out
 have hns14_1 := NB375_376.out
 have hms14_0 := NB376_374.out
 have hms14_1 := NB376_375.out
 refine skip_ (w1 := ?_) (by rfl) rfl ?_ ?_
 rotate_left
 ·go_simp
  rfl
 refine hK.out _ _ ⟨((cell_far (p := ⟨gb376, _, none⟩) NB374_376.out _).trans (((cell_far (p := ⟨gb376, _, none⟩) NB374_376.out _).trans (hHeld.1)))), ((cell_far (p := ⟨gb376, _, none⟩) NB374_376.out _).trans (((cell_far (p := ⟨gb376, _, none⟩) NB374_376.out _).trans (hHeld.2.1)))), ((cell_far (p := ⟨gb376, _, none⟩) NB375_376.out _).trans (((cell_far (p := ⟨gb376, _, none⟩) NB375_376.out _).trans (hHeld.2.2.1)))), ((cell_far (p := ⟨gb376, _, none⟩) NB375_376.out _).trans (((cell_far (p := ⟨gb376, _, none⟩) NB375_376.out _).trans (hHeld.2.2.2))))⟩ (fun hHeld => ?_)
 clear hK K
 refine done_ (done_of HT_.out (by kernel_rfl)) ?_
 try go_wp2
 refine bodyPost_ret (results_cell_row rfl _ _ gb376 39 #[.bool t380, .slice Ao13 t381.length co13] (0, 0) _ rfl (by (with_reducible repeat (first | refine blk_drewN ?_ _ | refine blk_drew ?_ | refine blk_alloc ?_ _)); refine blk_put (cs := #[.bool t380, .slice none 0 0]) ?_ 1 _ rfl; (with_reducible repeat (first | refine blk_drewN ?_ _ | refine blk_drew ?_ | refine blk_alloc ?_ _)); refine blk_put (cs := #[.bool false, .slice none 0 0]) ?_ 0 _ rfl; (with_reducible repeat (first | refine blk_drewN ?_ _ | refine blk_drew ?_ | refine blk_alloc ?_ _)); exact BK376.out) Try.underlying39 rfl (by kernel_rfl)) rfl ?_
 exact ⟨_, by first | rfl | (simp [errW_none, errW_some] <;> rfl) | (simp [*, errW_none, errW_some] <;> rfl), by (with_reducible repeat (first | apply Kd.R_alloc | apply Kd.R_drewN | apply Kd.R_drew)); exact Kd.R_mono (Kd.R_far (p := ⟨gb376, 1, none⟩) (Kd.R_far (p := ⟨gb376, 0, none⟩) (Sq.rt HO383.out BK376) (fun _ hk => hk.2) (.bool t380)) (fun _ hk => hk.2) (.slice Ao13 t381.length co13)) (fun _ hk => trivial), Sq.bl HB⟩
end Go.Proofs.Ytaclkccgjpjdjaa.I
