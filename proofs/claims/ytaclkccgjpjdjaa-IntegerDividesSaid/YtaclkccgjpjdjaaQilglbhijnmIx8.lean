import Derived.Test.YtaclkccgjpjdjaaQjoggjjmeebIx0
import Derived.Test.YtaclkccgjpjdjaaQbihmhmnfomIx3
import Derived.Test.YtaclkccgjpjdjaaQpmkoicdapoIx5
import Derived.Test.YtaclkccgjpjdjaaQpmhnfmapkcIx7
import Derived.Test.YtaclkccgjpjdjaaQkdgeadahooM
namespace Go.Proofs.Ytaclkccgjpjdjaa.I
open Go.RowKit Go.Proofs.YtaclkccgjpjdjaaW.PrintWords Go.Proofs.YtaclkccgjpjdjaaW.PrintLast Go.Proofs.YtaclkccgjpjdjaaW.PrintMore
attribute [local go_sem] max2_int min2_int max_two min_two max_three min_three max_four min_four   -- for this text's walks alone
set_option linter.unusedVariables false
set_option linter.unusedSimpArgs false
def foliotref02_Div.j0 : Nat → Bool → Bool → List Int → Bool → List Int → Bool → List Int → Option (Bool × List Int × Bool × List Int × Int)
 | 0, _, _, _, _, _, _, _ => none
 | k + 1, x46, x450000, x450001, x451000, x451001, x473000, x473001 => if x46 = true then ((foliotref02_Of.f 1).bind fun bt473 => ((foliotref02_Sub.f x473000 x473001 bt473.1 bt473.2).bind fun bt477 => ((foliotref02_Mul.f bt477.1 bt477.2 x451000 x451001).bind fun bt481 => ((foliotref02_Sub.f x450000 x450001 bt481.1 bt481.2).bind fun bt485 => (some (bt477.1, bt477.2, bt485.1, bt485.2, 0)))))) else ((foliotref02_Mul.f x473000 x473001 x451000 x451001).bind fun bt489 => ((foliotref02_Sub.f x450000 x450001 bt489.1 bt489.2).bind fun bt493 => (some (x473000, x473001, bt493.1, bt493.2, 0))))
def foliotref02_Div.f (k : Nat) (a0_0 : Bool) (l0_1 : List Int) (a1_0 : Bool) (l1_1 : List Int) : Option (Bool × List Int × Bool × List Int × Int) := (foliotref02_Norm.f a0_0 l0_1).bind fun bt453 => ((foliotref02_Norm.f a1_0 l1_1).bind fun bt457 => ((foliotref01_Div.f bt453.2 bt457.2).bind fun bt461 => (if bt461.2.2 = 0 then ((foliotref02_Norm.f (bt453.1 != bt457.1) bt461.1).bind fun bt468 => (if (bt453.1 != bt457.1) = true then (foliotref02_Div.j0 k (decide ((bt461.2.1.length : Int) > 0)) bt453.1 bt453.2 bt457.1 bt457.2 bt468.1 bt468.2) else (foliotref02_Div.j0 k false bt453.1 bt453.2 bt457.1 bt457.2 bt468.1 bt468.2))) else (some (false, ([] : List Int), false, ([] : List Int), bt461.2.2)))))
def foliotref02_Div.T9 : Bool × List (List Nat × List Nat) := (true, [([], []), ([], []), ([], []), ([], []), ([2, 3], [2, 3]), ([1, 4, 4], [1, 4]), ([0, 5, 0], [0]), ([5, 6, 0, 1, 2, 3, 4, 5, 6], [5]), ([7, 0, 1, 2, 3, 4, 5, 6, 7], [])])
def foliotref02_Div.B9 : List Nat := [0, 0, 0, 0, 12, 30, 63, 127, 255]
theorem foliotref02_Div.tab9 : rtab .any (opsOf Try.f55 9) = foliotref02_Div.T9 := by kernel_rfl
theorem foliotref02_Div.bits9 : waitsOk foliotref02_Div.T9.2 foliotref02_Div.B9 = true := by kernel_rfl
set_option maxHeartbeats 8000000 in
set_option maxRecDepth 100000 in
theorem foliotref02_Div.calls (k : Nat) (a0_0 : Bool) (A0_1 : Option Addr) (c0_1 : Nat) (l0_1 : List Int) (a1_0 : Bool) (A1_1 : Option Addr) (c1_1 : Nat) (l1_1 : List Int) (r1 : Bool) (r2 : List Int) (r3 : Bool) (r4 : List Int) (r5 : Int) (w : World) (hr0_1 : Kd.C (Kd.int .u32) w A0_1 l0_1.length l0_1) (hc0_1 : l0_1.length ≤ c0_1) (hr1_1 : Kd.C (Kd.int .u32) w A1_1 l1_1.length l1_1) (hc1_1 : l1_1.length ≤ c1_1) (h : foliotref02_Div.f k a0_0 l0_1 a1_0 l1_1 = some (r1, r2, r3, r4, r5)) :
  Calls Try.prog 55 #[.agg #[.bool a0_0, .slice A0_1 l0_1.length c0_1], .agg #[.bool a1_0, .slice A1_1 l1_1.length c1_1]] w fun e w' => ∃ v1_ v3_ : Value, e = .returned (.tuple #[.agg #[.bool r1, v1_], .agg #[.bool r3, v3_], .int .i64 r5]) ∧ Kd.R (Kd.int .u32) 107 w' w.heap.size (fun k_ => some k_ ≠ (v3_ : Value).ownBlock) v1_ r2 ∧ Kd.R (Kd.int .u32) 107 w' w.heap.size (fun k_ => some k_ ≠ (v1_ : Value).ownBlock) v3_ r4 ∧ Below w.heap.size w w' := by
 have hu39 := Try.underlying39
 have HR0_1 := Aside0.mk hr0_1
 have HC0_1 := Aside0.mk hc0_1
 clear hr0_1 hc0_1
 have HR1_1 := Aside0.mk hr1_1
 have HC1_1 := Aside0.mk hc1_1
 clear hr1_1 hc1_1
 have HB := Aside0.mk (Below.refl w.heap.size w)
 have H : ((foliotref02_Norm.f a0_0 l0_1).bind fun bt453 => ((foliotref02_Norm.f a1_0 l1_1).bind fun bt457 => ((foliotref01_Div.f bt453.2 bt457.2).bind fun bt461 => (if bt461.2.2 = 0 then ((foliotref02_Norm.f (bt453.1 != bt457.1) bt461.1).bind fun bt468 => (if (bt453.1 != bt457.1) = true then (foliotref02_Div.j0 k (decide ((bt461.2.1.length : Int) > 0)) bt453.1 bt453.2 bt457.1 bt457.2 bt468.1 bt468.2) else (foliotref02_Div.j0 k false bt453.1 bt453.2 bt457.1 bt457.2 bt468.1 bt468.2))) else (some (false, ([] : List Int), false, ([] : List Int), bt461.2.2)))))) = some (r1, r2, r3, r4, r5) := h
 clear h
 replace H := Sq.bd H
 obtain ⟨⟨t453, t454⟩, A3, H⟩ := H
 (try dsimp -simprocs only at H)
 replace H := Sq.bd H
 obtain ⟨⟨t457, t458⟩, A4, H⟩ := H
 (try dsimp -simprocs only at H)
 replace H := Sq.bd H
 obtain ⟨⟨t461, t462, t463⟩, A5, H⟩ := H
 (try dsimp -simprocs only at H)
 by_cases c6 : t463 = 0
 ·rw [if_pos c6] at H
  have c6b0 : (t463 == 0) = true := beq_iff_eq.mpr c6
  have c6b1 : (t463 != 0) = false := bne_eq_false_iff_eq.mpr c6
  clear c6
  replace H := Sq.bd H
  obtain ⟨⟨t468, t469⟩, A7, H⟩ := H
  (try dsimp -simprocs only at H)
  have HC8 := Aside0.mk H
  clear H
  go_enter Try.func55, Try.ntmps55
  go_upto_region 7 with (first | ((with_reducible refine gate_dst (N := 2) rfl ?_); (try (refine gate_guard (by rfl) ?_; dsimp only)); refine box_event ?hg (N := 2) ?hd (cs := #[.bool a0_0, .slice A0_1 l0_1.length c0_1]) (t := 39) ?hr ?_; (case hd => rfl); (case hg => rfl); (case hr => first | (go_simp; done) | (go_simp; rfl)); intro gb449 hg w9 hbox hb; have BK449 := Aside0.mk (hbox); have GW449 := Sq.gw HB hg; have GE449 := Sq.gw HB hg; replace HB := Sq.bs HB hb; clear hb hbox hg) | ((with_reducible refine gate_dst (N := 3) rfl ?_); (try (refine gate_guard (by rfl) ?_; dsimp only)); refine box_event ?hg (N := 3) ?hd (cs := #[.bool a1_0, .slice A1_1 l1_1.length c1_1]) (t := 39) ?hr ?_; (case hd => rfl); (case hg => rfl); (case hr => first | (go_simp; done) | (go_simp; rfl)); intro gb450 hg w10 hbox hb; have BK450 := Aside0.mk (hbox); have GW450 := Sq.gw HB hg; have GE450 := Sq.gw HB hg; have NB449_450 := Sq.nl BK449 hg; have NB450_449 := Sq.ng BK449 hg; replace BK449 := Sq.bb BK449 hb; replace HB := Sq.bs HB hb; clear hb hbox hg) | ((with_reducible refine gate_dst (N := 4) rfl ?_); (try (refine gate_guard (by rfl) ?_; dsimp only)); refine box_event ?hg (N := 4) ?hd (cs := #[.bool false, .slice none 0 0]) (t := 39) ?hr ?_; (case hd => rfl); (case hg => rfl); (case hr => first | (go_simp; done) | (go_simp; rfl)); intro gb451 hg w11 hbox hb; have BK451 := Aside0.mk (hbox); have GW451 := Sq.gw HB hg; have GE451 := Sq.gw HB hg; have NB449_451 := Sq.nl BK449 hg; have NB451_449 := Sq.ng BK449 hg; have NB450_451 := Sq.nl BK450 hg; have NB451_450 := Sq.ng BK450 hg; replace BK449 := Sq.bb BK449 hb; replace BK450 := Sq.bb BK450 hb; replace HB := Sq.bs HB hb; clear hb hbox hg) | ((with_reducible refine gate_dst (N := 5) rfl ?_); (try (refine gate_guard (by rfl) ?_; dsimp only)); refine box_event ?hg (N := 5) ?hd (cs := #[.bool false, .slice none 0 0]) (t := 39) ?hr ?_; (case hd => rfl); (case hg => rfl); (case hr => first | (go_simp; done) | (go_simp; rfl)); intro gb452 hg w12 hbox hb; have BK452 := Aside0.mk (hbox); have GW452 := Sq.gw HB hg; have GE452 := Sq.gw HB hg; have NB449_452 := Sq.nl BK449 hg; have NB452_449 := Sq.ng BK449 hg; have NB450_452 := Sq.nl BK450 hg; have NB452_450 := Sq.ng BK450 hg; have NB451_452 := Sq.nl BK451 hg; have NB452_451 := Sq.ng BK451 hg; replace BK449 := Sq.bb BK449 hb; replace BK450 := Sq.bb BK450 hb; replace BK451 := Sq.bb BK451 hb; replace HB := Sq.bs HB hb; clear hb hbox hg; have hnb13 := NB449_450.out; have hnc13 := NB450_449.out; have hnb14 := NB449_451.out; have hnc14 := NB451_449.out; have hnb15 := NB449_452.out; have hnc15 := NB452_449.out; have hcz16_0 := Sq.bc BK449 0 (.bool a0_0); have hcz16_1 := Sq.bc BK449 1 (.slice A0_1 l0_1.length c0_1); have hfz16_0 := blk_frozen BK449.out 0; have hfz16_1 := blk_frozen BK449.out 1) | ((with_reducible refine gate_callee (f := 73) rfl ?_); refine Sq.gl (some 12) Try.func73 #[.agg #[.bool a0_0, .slice A0_1 l0_1.length c0_1]] ?_; (with_reducible refine (foliotref02_Norm.calls a0_0 _ _ l0_1 t453 t454 _ ?side1 ?side2 A3.out).mono ?_); (case side1 => exact Sq.ca (Kd.C_below HR0_1.out HB.out)); (case side2 => exact HC0_1.out); rintro e w17 ⟨v455, rfl, ho0, hb⟩; refine ⟨_, rfl, ?_⟩; have HO456 := Aside0.mk (Kd.R_lower ho0 (below_size (Sq.bl HB))); replace BK449 := Sq.bb BK449 hb; replace BK450 := Sq.bb BK450 hb; replace BK451 := Sq.bb BK451 hb; replace BK452 := Sq.bb BK452 hb; replace HB := Sq.bs HB hb; (try clear hb); (try clear hb2); (try clear hk); (try clear hi); (try clear ho0); have hcz18_0 := Sq.bc BK449 0 (.bool a0_0); have hcz18_1 := Sq.bc BK449 1 (.slice A0_1 l0_1.length c0_1); have hfz18_0 := blk_frozen BK449.out 0; have hfz18_1 := blk_frozen BK449.out 1; obtain ⟨Ao19, co19, eo19⟩ := Kd.R_slice HO456.out; subst eo19; have hnb20 := NB450_451.out; have hnc20 := NB451_450.out; have hnb21 := NB450_452.out; have hnc21 := NB452_450.out; have hcz22_0 := Sq.bc BK450 0 (.bool a1_0); have hcz22_1 := Sq.bc BK450 1 (.slice A1_1 l1_1.length c1_1); have hfz22_0 := blk_frozen BK450.out 0; have hfz22_1 := blk_frozen BK450.out 1) | ((with_reducible refine gate_callee (f := 73) rfl ?_); refine Sq.gl (some 14) Try.func73 #[.agg #[.bool a1_0, .slice A1_1 l1_1.length c1_1]] ?_; (with_reducible refine (foliotref02_Norm.calls a1_0 _ _ l1_1 t457 t458 _ ?side1 ?side2 A4.out).mono ?_); (case side1 => exact Kd.C_below HR1_1.out (Sq.bl HB)); (case side2 => exact HC1_1.out); rintro e w23 ⟨v459, rfl, ho0, hb⟩; refine ⟨_, rfl, ?_⟩; have HO460 := Aside0.mk (Kd.R_lower (Kd.R_new' ho0 (Kd.R_lt (by (with_reducible repeat (first | apply Kd.R_alloc | apply Kd.R_drewN | apply Kd.R_drew)); exact (Kd.R_mono (Kd.R_far (p := ⟨gb449, 1, none⟩) (Kd.R_far (p := ⟨gb449, 0, none⟩) (Sq.rt HO456.out BK449) (fun _ hk => hk.2) (.bool t453)) (fun _ hk => hk.2) (.slice Ao19 t454.length co19)) (fun _ h_ => h_.1))))) (below_size (Sq.bl HB))); replace BK450 := Aside0.mk (blk_below (g := gb450) (o := .cells #[.bool a1_0, .slice A1_1 l1_1.length c1_1] 39 (0, 0)) (by (with_reducible repeat (first | refine blk_drewN ?_ _ | refine blk_drew ?_ | refine blk_alloc ?_ _)); refine blk_far ?_ NB450_449.out _; (with_reducible repeat (first | refine blk_drewN ?_ _ | refine blk_drew ?_ | refine blk_alloc ?_ _)); refine blk_far ?_ NB450_449.out _; (with_reducible repeat (first | refine blk_drewN ?_ _ | refine blk_drew ?_ | refine blk_alloc ?_ _)); exact BK450.out) hb); replace BK451 := Aside0.mk (blk_below (g := gb451) (o := .cells #[.bool false, .slice none 0 0] 39 (0, 0)) (by (with_reducible repeat (first | refine blk_drewN ?_ _ | refine blk_drew ?_ | refine blk_alloc ?_ _)); refine blk_far ?_ NB451_449.out _; (with_reducible repeat (first | refine blk_drewN ?_ _ | refine blk_drew ?_ | refine blk_alloc ?_ _)); refine blk_far ?_ NB451_449.out _; (with_reducible repeat (first | refine blk_drewN ?_ _ | refine blk_drew ?_ | refine blk_alloc ?_ _)); exact BK451.out) hb); replace BK452 := Aside0.mk (blk_below (g := gb452) (o := .cells #[.bool false, .slice none 0 0] 39 (0, 0)) (by (with_reducible repeat (first | refine blk_drewN ?_ _ | refine blk_drew ?_ | refine blk_alloc ?_ _)); refine blk_far ?_ NB452_449.out _; (with_reducible repeat (first | refine blk_drewN ?_ _ | refine blk_drew ?_ | refine blk_alloc ?_ _)); refine blk_far ?_ NB452_449.out _; (with_reducible repeat (first | refine blk_drewN ?_ _ | refine blk_drew ?_ | refine blk_alloc ?_ _)); exact BK452.out) hb); replace HO456 := Aside0.mk (Kd.R_elder' (by (with_reducible repeat (first | apply Kd.R_alloc | apply Kd.R_drewN | apply Kd.R_drew)); exact (Kd.R_mono (Kd.R_far (p := ⟨gb449, 1, none⟩) (Kd.R_far (p := ⟨gb449, 0, none⟩) (Sq.rt HO456.out BK449) (fun _ hk => hk.2) (.bool t453)) (fun _ hk => hk.2) (.slice Ao19 t454.length co19)) (fun _ h_ => h_.1))) (Kd.R_base ho0) hb); replace HB := Sq.bs HB hb; replace BK449 := Aside0.mk (blk_below (g := gb449) (o := .cells #[.bool t453, .slice Ao19 t454.length co19] 39 (0, 0)) (by (with_reducible repeat (first | refine blk_drewN ?_ _ | refine blk_drew ?_ | refine blk_alloc ?_ _)); refine blk_put (cs := #[.bool t453, .slice A0_1 l0_1.length c0_1]) ?_ 1 _ rfl; (with_reducible repeat (first | refine blk_drewN ?_ _ | refine blk_drew ?_ | refine blk_alloc ?_ _)); refine blk_put (cs := #[.bool a0_0, .slice A0_1 l0_1.length c0_1]) ?_ 0 _ rfl; (with_reducible repeat (first | refine blk_drewN ?_ _ | refine blk_drew ?_ | refine blk_alloc ?_ _)); exact BK449.out) hb); (try clear hb); (try clear hb2); (try clear hk); (try clear hi); (try clear ho0); have hcz24_0 := Sq.bc BK450 0 (.bool a1_0); have hcz24_1 := Sq.bc BK450 1 (.slice A1_1 l1_1.length c1_1); have hfz24_0 := blk_frozen BK450.out 0; have hfz24_1 := blk_frozen BK450.out 1; obtain ⟨Ao25, co25, eo25⟩ := Kd.R_slice HO460.out; subst eo25; have hcz26_0 := Sq.bc BK449 0 (.bool t453); have hcz26_1 := Sq.bc BK449 1 (.slice Ao19 t454.length co19); have hfz26_0 := blk_frozen BK449.out 0; have hfz26_1 := blk_frozen BK449.out 1) | ((with_reducible refine gate_callee (f := 32) rfl ?_); refine Sq.gl (some 20) Try.func32 #[.slice Ao19 t454.length co19, .slice Ao25 t458.length co25] ?_; (with_reducible refine (foliotref01_Div.calls _ _ t454 _ _ t458 t461 t462 t463 _ ?side1 ?side2 ?side3 ?side4 A5.out).mono ?_); (case side1 => refine (Kd.R_reads' (e := 107) (base := w.heap.size) (ok := fun k_ => (True ∧ some k_ ≠ (.slice Ao25 t458.length co25 : Value).ownBlock)) (n := t454.length) (c := co19) ?_).2.2; exact (by (with_reducible repeat (first | apply Kd.R_alloc | apply Kd.R_drewN | apply Kd.R_drew)); exact (Kd.R_mono (Kd.R_far (p := ⟨gb450, 1, none⟩) (Kd.R_far (p := ⟨gb450, 0, none⟩) (Sq.rt HO456.out BK450) (fun _ hk => hk.2) (.bool t457)) (fun _ hk => hk.2) (.slice Ao25 t458.length co25)) (fun _ h_ => h_.1)))); (case side2 => exact (Kd.R_reads' HO456.out).2.1); (case side3 => refine (Kd.R_reads' (e := 107) (base := w.heap.size) (ok := fun k_ => (True ∧ some k_ ≠ (.slice Ao19 t454.length co19 : Value).ownBlock)) (n := t458.length) (c := co25) ?_).2.2; exact (by (with_reducible repeat (first | apply Kd.R_alloc | apply Kd.R_drewN | apply Kd.R_drew)); exact (Kd.R_mono (Kd.R_far (p := ⟨gb450, 1, none⟩) (Kd.R_far (p := ⟨gb450, 0, none⟩) (Sq.rt HO460.out BK450) (fun _ hk => hk.2) (.bool t457)) (fun _ hk => hk.2) (.slice Ao25 t458.length co25)) (fun _ h_ => h_.1)))); (case side4 => exact (Kd.R_reads' HO460.out).2.1); rintro e w27 ⟨v464, v466, rfl, ho0, ho1, hb⟩; refine ⟨_, rfl, ?_⟩; have HO465 := Aside0.mk (Kd.R_lower (Kd.R_new' (Kd.R_new' ho0 (Kd.R_lt (by (with_reducible repeat (first | apply Kd.R_alloc | apply Kd.R_drewN | apply Kd.R_drew)); exact (Kd.R_mono (Kd.R_far (p := ⟨gb450, 1, none⟩) (Kd.R_far (p := ⟨gb450, 0, none⟩) (Sq.rt HO456.out BK450) (fun _ hk => hk.2) (.bool t457)) (fun _ hk => hk.2) (.slice Ao25 t458.length co25)) (fun _ h_ => h_.1))))) (Kd.R_lt (by (with_reducible repeat (first | apply Kd.R_alloc | apply Kd.R_drewN | apply Kd.R_drew)); exact (Kd.R_mono (Kd.R_far (p := ⟨gb450, 1, none⟩) (Kd.R_far (p := ⟨gb450, 0, none⟩) (Sq.rt HO460.out BK450) (fun _ hk => hk.2) (.bool t457)) (fun _ hk => hk.2) (.slice Ao25 t458.length co25)) (fun _ h_ => h_.1))))) (below_size (Sq.bl HB))); have HO467 := Aside0.mk (Kd.R_lower (Kd.R_new' (Kd.R_new' ho1 (Kd.R_lt (by (with_reducible repeat (first | apply Kd.R_alloc | apply Kd.R_drewN | apply Kd.R_drew)); exact (Kd.R_mono (Kd.R_far (p := ⟨gb450, 1, none⟩) (Kd.R_far (p := ⟨gb450, 0, none⟩) (Sq.rt HO456.out BK450) (fun _ hk => hk.2) (.bool t457)) (fun _ hk => hk.2) (.slice Ao25 t458.length co25)) (fun _ h_ => h_.1))))) (Kd.R_lt (by (with_reducible repeat (first | apply Kd.R_alloc | apply Kd.R_drewN | apply Kd.R_drew)); exact (Kd.R_mono (Kd.R_far (p := ⟨gb450, 1, none⟩) (Kd.R_far (p := ⟨gb450, 0, none⟩) (Sq.rt HO460.out BK450) (fun _ hk => hk.2) (.bool t457)) (fun _ hk => hk.2) (.slice Ao25 t458.length co25)) (fun _ h_ => h_.1))))) (below_size (Sq.bl HB))); replace BK449 := Aside0.mk (blk_below (g := gb449) (o := .cells #[.bool t453, .slice Ao19 t454.length co19] 39 (0, 0)) (by (with_reducible repeat (first | refine blk_drewN ?_ _ | refine blk_drew ?_ | refine blk_alloc ?_ _)); refine blk_far ?_ NB449_450.out _; (with_reducible repeat (first | refine blk_drewN ?_ _ | refine blk_drew ?_ | refine blk_alloc ?_ _)); refine blk_far ?_ NB449_450.out _; (with_reducible repeat (first | refine blk_drewN ?_ _ | refine blk_drew ?_ | refine blk_alloc ?_ _)); exact BK449.out) hb); replace BK451 := Aside0.mk (blk_below (g := gb451) (o := .cells #[.bool false, .slice none 0 0] 39 (0, 0)) (by (with_reducible repeat (first | refine blk_drewN ?_ _ | refine blk_drew ?_ | refine blk_alloc ?_ _)); refine blk_far ?_ NB451_450.out _; (with_reducible repeat (first | refine blk_drewN ?_ _ | refine blk_drew ?_ | refine blk_alloc ?_ _)); refine blk_far ?_ NB451_450.out _; (with_reducible repeat (first | refine blk_drewN ?_ _ | refine blk_drew ?_ | refine blk_alloc ?_ _)); exact BK451.out) hb); replace BK452 := Aside0.mk (blk_below (g := gb452) (o := .cells #[.bool false, .slice none 0 0] 39 (0, 0)) (by (with_reducible repeat (first | refine blk_drewN ?_ _ | refine blk_drew ?_ | refine blk_alloc ?_ _)); refine blk_far ?_ NB452_450.out _; (with_reducible repeat (first | refine blk_drewN ?_ _ | refine blk_drew ?_ | refine blk_alloc ?_ _)); refine blk_far ?_ NB452_450.out _; (with_reducible repeat (first | refine blk_drewN ?_ _ | refine blk_drew ?_ | refine blk_alloc ?_ _)); exact BK452.out) hb); replace HO456 := Aside0.mk (Kd.R_mono (Kd.R_told (Kd.R_told (Kd.R_old (by (with_reducible repeat (first | apply Kd.R_alloc | apply Kd.R_drewN | apply Kd.R_drew)); exact (Kd.R_mono (Kd.R_far (p := ⟨gb450, 1, none⟩) (Kd.R_far (p := ⟨gb450, 0, none⟩) (Sq.rt HO456.out BK450) (fun _ hk => hk.2) (.bool t457)) (fun _ hk => hk.2) (.slice Ao25 t458.length co25)) (fun _ h_ => h_.1))) hb) (Kd.R_base ho0)) (Kd.R_base ho1)) (fun _ h_ => h_.1)); replace HO460 := Aside0.mk (Kd.R_mono (Kd.R_told (Kd.R_told (Kd.R_old (by (with_reducible repeat (first | apply Kd.R_alloc | apply Kd.R_drewN | apply Kd.R_drew)); exact (Kd.R_mono (Kd.R_far (p := ⟨gb450, 1, none⟩) (Kd.R_far (p := ⟨gb450, 0, none⟩) (Sq.rt HO460.out BK450) (fun _ hk => hk.2) (.bool t457)) (fun _ hk => hk.2) (.slice Ao25 t458.length co25)) (fun _ h_ => h_.1))) hb) (Kd.R_base ho0)) (Kd.R_base ho1)) (fun _ h_ => h_.1)); replace HB := Sq.bs HB hb; replace BK450 := Aside0.mk (blk_below (g := gb450) (o := .cells #[.bool t457, .slice Ao25 t458.length co25] 39 (0, 0)) (by (with_reducible repeat (first | refine blk_drewN ?_ _ | refine blk_drew ?_ | refine blk_alloc ?_ _)); refine blk_put (cs := #[.bool t457, .slice A1_1 l1_1.length c1_1]) ?_ 1 _ rfl; (with_reducible repeat (first | refine blk_drewN ?_ _ | refine blk_drew ?_ | refine blk_alloc ?_ _)); refine blk_put (cs := #[.bool a1_0, .slice A1_1 l1_1.length c1_1]) ?_ 0 _ rfl; (with_reducible repeat (first | refine blk_drewN ?_ _ | refine blk_drew ?_ | refine blk_alloc ?_ _)); exact BK450.out) hb); (try clear hb); (try clear hb2); (try clear hk); (try clear hi); (try clear ho0); (try clear ho1); have hcz28_0 := Sq.bc BK449 0 (.bool t453); have hcz28_1 := Sq.bc BK449 1 (.slice Ao19 t454.length co19); have hfz28_0 := blk_frozen BK449.out 0; have hfz28_1 := blk_frozen BK449.out 1; have hcz29_0 := Sq.bc BK450 0 (.bool t457); have hcz29_1 := Sq.bc BK450 1 (.slice Ao25 t458.length co25); have hfz29_0 := blk_frozen BK450.out 0; have hfz29_1 := blk_frozen BK450.out 1; obtain ⟨Ao30, co30, eo30⟩ := Kd.R_slice HO465.out; subst eo30) | ((with_reducible refine gate_callee (f := 73) rfl ?_); refine Sq.gl (some 36) Try.func73 #[.agg #[.bool (t453 != t457), .slice Ao30 t461.length co30]] ?_; (with_reducible refine (foliotref02_Norm.calls (t453 != t457) _ _ t461 t468 t469 _ ?side1 ?side2 A7.out).mono ?_); (case side1 => exact Sq.ca (Kd.R_reads' HO465.out).2.2); (case side2 => exact (Kd.R_reads' HO465.out).2.1); rintro e w31 ⟨v470, rfl, ho0, hb⟩; refine ⟨_, rfl, ?_⟩; have HO471 := Aside0.mk (Kd.R_lower (Kd.R_new' (Kd.R_new' (Kd.R_new' (Kd.R_new' ho0 (Kd.R_lt (Sq.al HO456))) (Kd.R_lt (Sq.al HO460))) (Kd.R_lt (Sq.al HO465))) (Kd.R_lt (Sq.al HO467))) (below_size (Sq.bl HB))); replace BK449 := Sq.bb BK449 hb; replace BK450 := Sq.bb BK450 hb; replace BK451 := Sq.bb BK451 hb; replace BK452 := Sq.bb BK452 hb; replace HO456 := Aside0.mk (Kd.R_elder' (Sq.al HO456) (Kd.R_base ho0) hb); replace HO460 := Aside0.mk (Kd.R_elder' (Sq.al HO460) (Kd.R_base ho0) hb); replace HO465 := Aside0.mk (Kd.R_elder' (Sq.al HO465) (Kd.R_base ho0) hb); replace HO467 := Aside0.mk (Kd.R_elder' (Sq.al HO467) (Kd.R_base ho0) hb); replace HB := Sq.bs HB hb; (try clear hb); (try clear hb2); (try clear hk); (try clear hi); (try clear ho0)) | ((with_reducible refine gate_dst (N := 10) rfl ?_); (try (refine gate_guard (by rfl) ?_; dsimp only)); refine box_event ?hg (N := 10) ?hd (cs := #[.bool false, .slice none 0 0]) (t := 39) ?hr ?_; (case hd => rfl); (case hg => rfl); (case hr => first | (go_simp; done) | (go_simp; rfl)); intro gb472 hg w32 hbox hb; replace HO456 := Aside0.mk (Kd.R_below (Sq.al HO456) hb); replace HO460 := Aside0.mk (Kd.R_below (Sq.al HO460) hb); replace HO465 := Aside0.mk (Kd.R_below (Sq.al HO465) hb); replace HO467 := Aside0.mk (Kd.R_below (Sq.al HO467) hb); replace HO471 := Aside0.mk (Kd.R_below (Sq.al HO471) hb); have BK472 := Aside0.mk (hbox); have GW472 := Sq.gw HB hg; have GE472 := Sq.gw HB hg; have NB449_472 := Sq.nl BK449 hg; have NB472_449 := Sq.ng BK449 hg; have NB450_472 := Sq.nl BK450 hg; have NB472_450 := Sq.ng BK450 hg; have NB451_472 := Sq.nl BK451 hg; have NB472_451 := Sq.ng BK451 hg; have NB452_472 := Sq.nl BK452 hg; have NB472_452 := Sq.ng BK452 hg; replace BK449 := Sq.bb BK449 hb; replace BK450 := Sq.bb BK450 hb; replace BK451 := Sq.bb BK451 hb; replace BK452 := Sq.bb BK452 hb; replace HB := Sq.bs HB hb; clear hb hbox hg; have hnb33 := NB472_449.out; have hnc33 := NB449_472.out; have hnb34 := NB472_450.out; have hnc34 := NB450_472.out; have hnb35 := NB472_451.out; have hnc35 := NB451_472.out; have hnb36 := NB472_452.out; have hnc36 := NB452_472.out; have hcz37_0 := Sq.bc BK472 0 (.bool false); have hcz37_1 := Sq.bc BK472 1 (.slice none 0 0); have hfz37_0 := blk_frozen BK472.out 0; have hfz37_1 := blk_frozen BK472.out 1; obtain ⟨Ao38, co38, eo38⟩ := Kd.R_slice HO471.out; subst eo38))
  (try simp only [Act.put, List.setIfInBounds_toArray, List.set_cons_zero, List.set_cons_succ])
  go_cut [46] (fun v46 wc => ∃ (kq : Nat) (x46_7 : Bool), v46 = .bool x46_7 ∧ Aside0 (foliotref02_Div.j0 kq x46_7 t453 t454 t457 t458 t468 t469 = some (r1, r2, r3, r4, r5)) ∧ Aside0 (kq ≤ k) ∧ Aside0 (Kd.R (Kd.int .u32) 107 wc w.heap.size (fun k_ => some k_ ≠ ((.slice Ao25 t458.length co25) : Value).ownBlock ∧ some k_ ≠ ((.slice Ao38 t469.length co38) : Value).ownBlock) (.slice Ao19 t454.length co19) t454) ∧ Aside0 (Kd.R (Kd.int .u32) 107 wc w.heap.size (fun k_ => some k_ ≠ ((.slice Ao19 t454.length co19) : Value).ownBlock ∧ some k_ ≠ ((.slice Ao38 t469.length co38) : Value).ownBlock) (.slice Ao25 t458.length co25) t458) ∧ Aside0 (Kd.R (Kd.int .u32) 107 wc w.heap.size (fun k_ => some k_ ≠ ((.slice Ao19 t454.length co19) : Value).ownBlock ∧ some k_ ≠ ((.slice Ao25 t458.length co25) : Value).ownBlock) (.slice Ao38 t469.length co38) t469) ∧ Aside0 (wc.heap[gb449]? = some (.cells #[.bool t453, (.slice Ao19 t454.length co19)] 39 (0, 0))) ∧ Aside0 (wc.heap[gb450]? = some (.cells #[.bool t457, (.slice Ao25 t458.length co25)] 39 (0, 0))) ∧ Aside0 (wc.heap[gb451]? = some (.cells #[.bool false, (.slice none 0 0)] 39 (0, 0))) ∧ Aside0 (wc.heap[gb452]? = some (.cells #[.bool false, (.slice none 0 0)] 39 (0, 0))) ∧ Aside0 (wc.heap[gb472]? = some (.cells #[.bool t468, (.slice Ao38 t469.length co38)] 39 (0, 0))) ∧ Aside0 (Below w.heap.size w wc))
  case first =>
   have H := HC8.out
   clear HC8
   by_cases c39 : (t453 != t457) = true
   ·rw [if_pos c39] at H
    have c39b0 : (t453 != t457) = true := c39
    (try (have c39b1 : decide (t453 = t457) = false := by simpa using c39))
    (try (have c39b2 : (t453 == t457) = false := by simpa using c39))
    (try (have c39b3 : ¬ (t453 = t457) := by simpa using c39))
    clear c39
    (first | rw [c39b0] | (simp only [i64_w, i32_w]; rw [c39b0]) | skip)
    have H' := Aside0.mk H
    clear H
    have hnb40 := NB449_450.out
    have hnc40 := NB450_449.out
    have hnb41 := NB449_451.out
    have hnc41 := NB451_449.out
    have hnb42 := NB449_452.out
    have hnc42 := NB452_449.out
    have hnb43 := NB449_472.out
    have hnc43 := NB472_449.out
    have hcz44_0 := Sq.bc BK449 0 (.bool t453)
    have hcz44_1 := Sq.bc BK449 1 (.slice Ao19 t454.length co19)
    have hfz44_0 := blk_frozen BK449.out 0
    have hfz44_1 := blk_frozen BK449.out 1
    have hnb45 := NB450_451.out
    have hnc45 := NB451_450.out
    have hnb46 := NB450_452.out
    have hnc46 := NB452_450.out
    have hnb47 := NB450_472.out
    have hnc47 := NB472_450.out
    have hcz48_0 := Sq.bc BK450 0 (.bool t457)
    have hcz48_1 := Sq.bc BK450 1 (.slice Ao25 t458.length co25)
    have hfz48_0 := blk_frozen BK450.out 0
    have hfz48_1 := blk_frozen BK450.out 1
    obtain ⟨Ao49, co49, eo49⟩ := Kd.R_slice HO467.out
    subst eo49
    go_wp2
    go_meet
    case rel => exact ⟨_, (decide ((t462.length : Int) > 0)), (by first | rfl | (simp; done) | (simp [*]; done)), H', ⟨by first | omega | exact Nat.le_refl _⟩, ⟨by (with_reducible repeat (first | apply Kd.R_alloc | apply Kd.R_drewN | apply Kd.R_drew)); exact Kd.R_mono (Kd.R_far (p := ⟨gb472, 1, none⟩) (Kd.R_far (p := ⟨gb472, 0, none⟩) (Sq.rt HO456.out BK472) (fun _ hk => hk.2) (.bool t468)) (fun _ hk => hk.2) (.slice Ao38 t469.length co38)) (fun _ hk => ⟨hk.1.1.1.1.2, hk.1.2⟩)⟩, ⟨by (with_reducible repeat (first | apply Kd.R_alloc | apply Kd.R_drewN | apply Kd.R_drew)); exact Kd.R_mono (Kd.R_far (p := ⟨gb472, 1, none⟩) (Kd.R_far (p := ⟨gb472, 0, none⟩) (Sq.rt HO460.out BK472) (fun _ hk => hk.2) (.bool t468)) (fun _ hk => hk.2) (.slice Ao38 t469.length co38)) (fun _ hk => ⟨hk.1.1.1.1.2, hk.1.2⟩)⟩, ⟨by (with_reducible repeat (first | apply Kd.R_alloc | apply Kd.R_drewN | apply Kd.R_drew)); exact Kd.R_mono (Kd.R_far (p := ⟨gb472, 1, none⟩) (Kd.R_far (p := ⟨gb472, 0, none⟩) (Sq.rt HO471.out BK472) (fun _ hk => hk.2) (.bool t468)) (fun _ hk => hk.2) (.slice Ao38 t469.length co38)) (fun _ hk => ⟨hk.1.1.1.1.2, hk.1.1.1.2⟩)⟩, ⟨by (with_reducible repeat (first | refine blk_drewN ?_ _ | refine blk_drew ?_ | refine blk_alloc ?_ _)); refine blk_far ?_ NB449_472.out _; (with_reducible repeat (first | refine blk_drewN ?_ _ | refine blk_drew ?_ | refine blk_alloc ?_ _)); refine blk_far ?_ NB449_472.out _; (with_reducible repeat (first | refine blk_drewN ?_ _ | refine blk_drew ?_ | refine blk_alloc ?_ _)); exact BK449.out⟩, ⟨by (with_reducible repeat (first | refine blk_drewN ?_ _ | refine blk_drew ?_ | refine blk_alloc ?_ _)); refine blk_far ?_ NB450_472.out _; (with_reducible repeat (first | refine blk_drewN ?_ _ | refine blk_drew ?_ | refine blk_alloc ?_ _)); refine blk_far ?_ NB450_472.out _; (with_reducible repeat (first | refine blk_drewN ?_ _ | refine blk_drew ?_ | refine blk_alloc ?_ _)); exact BK450.out⟩, ⟨by (with_reducible repeat (first | refine blk_drewN ?_ _ | refine blk_drew ?_ | refine blk_alloc ?_ _)); refine blk_far ?_ NB451_472.out _; (with_reducible repeat (first | refine blk_drewN ?_ _ | refine blk_drew ?_ | refine blk_alloc ?_ _)); refine blk_far ?_ NB451_472.out _; (with_reducible repeat (first | refine blk_drewN ?_ _ | refine blk_drew ?_ | refine blk_alloc ?_ _)); exact BK451.out⟩, ⟨by (with_reducible repeat (first | refine blk_drewN ?_ _ | refine blk_drew ?_ | refine blk_alloc ?_ _)); refine blk_far ?_ NB452_472.out _; (with_reducible repeat (first | refine blk_drewN ?_ _ | refine blk_drew ?_ | refine blk_alloc ?_ _)); refine blk_far ?_ NB452_472.out _; (with_reducible repeat (first | refine blk_drewN ?_ _ | refine blk_drew ?_ | refine blk_alloc ?_ _)); exact BK452.out⟩, ⟨by (with_reducible repeat (first | refine blk_drewN ?_ _ | refine blk_drew ?_ | refine blk_alloc ?_ _)); refine blk_put (cs := #[.bool t468, .slice none 0 0]) ?_ 1 _ rfl; (with_reducible repeat (first | refine blk_drewN ?_ _ | refine blk_drew ?_ | refine blk_alloc ?_ _)); refine blk_put (cs := #[.bool false, .slice none 0 0]) ?_ 0 _ rfl; (with_reducible repeat (first | refine blk_drewN ?_ _ | refine blk_drew ?_ | refine blk_alloc ?_ _)); exact BK472.out⟩, ⟨Sq.bl HB⟩⟩
   ·rw [if_neg c39] at H
    have c39b0 : (t453 != t457) = false := by simpa using c39
    (try (have c39b1 : decide (t453 = t457) = true := by simpa using c39))
    (try (have c39b2 : (t453 == t457) = true := by simpa using c39))
    clear c39
    (first | rw [c39b0] | (simp only [i64_w, i32_w]; rw [c39b0]) | skip)
    have H' := Aside0.mk H
    clear H
    have hnb50 := NB449_450.out
    have hnc50 := NB450_449.out
    have hnb51 := NB449_451.out
    have hnc51 := NB451_449.out
    have hnb52 := NB449_452.out
    have hnc52 := NB452_449.out
    have hnb53 := NB449_472.out
    have hnc53 := NB472_449.out
    have hcz54_0 := Sq.bc BK449 0 (.bool t453)
    have hcz54_1 := Sq.bc BK449 1 (.slice Ao19 t454.length co19)
    have hfz54_0 := blk_frozen BK449.out 0
    have hfz54_1 := blk_frozen BK449.out 1
    have hnb55 := NB450_451.out
    have hnc55 := NB451_450.out
    have hnb56 := NB450_452.out
    have hnc56 := NB452_450.out
    have hnb57 := NB450_472.out
    have hnc57 := NB472_450.out
    have hcz58_0 := Sq.bc BK450 0 (.bool t457)
    have hcz58_1 := Sq.bc BK450 1 (.slice Ao25 t458.length co25)
    have hfz58_0 := blk_frozen BK450.out 0
    have hfz58_1 := blk_frozen BK450.out 1
    go_wp2
    go_meet
    case rel => exact ⟨_, (false), (by first | rfl | (simp; done) | (simp [*]; done)), H', ⟨by first | omega | exact Nat.le_refl _⟩, ⟨by (with_reducible repeat (first | apply Kd.R_alloc | apply Kd.R_drewN | apply Kd.R_drew)); exact Kd.R_mono (Kd.R_far (p := ⟨gb472, 1, none⟩) (Kd.R_far (p := ⟨gb472, 0, none⟩) (Sq.rt HO456.out BK472) (fun _ hk => hk.2) (.bool t468)) (fun _ hk => hk.2) (.slice Ao38 t469.length co38)) (fun _ hk => ⟨hk.1.1.1.1.2, hk.1.2⟩)⟩, ⟨by (with_reducible repeat (first | apply Kd.R_alloc | apply Kd.R_drewN | apply Kd.R_drew)); exact Kd.R_mono (Kd.R_far (p := ⟨gb472, 1, none⟩) (Kd.R_far (p := ⟨gb472, 0, none⟩) (Sq.rt HO460.out BK472) (fun _ hk => hk.2) (.bool t468)) (fun _ hk => hk.2) (.slice Ao38 t469.length co38)) (fun _ hk => ⟨hk.1.1.1.1.2, hk.1.2⟩)⟩, ⟨by (with_reducible repeat (first | apply Kd.R_alloc | apply Kd.R_drewN | apply Kd.R_drew)); exact Kd.R_mono (Kd.R_far (p := ⟨gb472, 1, none⟩) (Kd.R_far (p := ⟨gb472, 0, none⟩) (Sq.rt HO471.out BK472) (fun _ hk => hk.2) (.bool t468)) (fun _ hk => hk.2) (.slice Ao38 t469.length co38)) (fun _ hk => ⟨hk.1.1.1.1.2, hk.1.1.1.2⟩)⟩, ⟨by (with_reducible repeat (first | refine blk_drewN ?_ _ | refine blk_drew ?_ | refine blk_alloc ?_ _)); refine blk_far ?_ NB449_472.out _; (with_reducible repeat (first | refine blk_drewN ?_ _ | refine blk_drew ?_ | refine blk_alloc ?_ _)); refine blk_far ?_ NB449_472.out _; (with_reducible repeat (first | refine blk_drewN ?_ _ | refine blk_drew ?_ | refine blk_alloc ?_ _)); exact BK449.out⟩, ⟨by (with_reducible repeat (first | refine blk_drewN ?_ _ | refine blk_drew ?_ | refine blk_alloc ?_ _)); refine blk_far ?_ NB450_472.out _; (with_reducible repeat (first | refine blk_drewN ?_ _ | refine blk_drew ?_ | refine blk_alloc ?_ _)); refine blk_far ?_ NB450_472.out _; (with_reducible repeat (first | refine blk_drewN ?_ _ | refine blk_drew ?_ | refine blk_alloc ?_ _)); exact BK450.out⟩, ⟨by (with_reducible repeat (first | refine blk_drewN ?_ _ | refine blk_drew ?_ | refine blk_alloc ?_ _)); refine blk_far ?_ NB451_472.out _; (with_reducible repeat (first | refine blk_drewN ?_ _ | refine blk_drew ?_ | refine blk_alloc ?_ _)); refine blk_far ?_ NB451_472.out _; (with_reducible repeat (first | refine blk_drewN ?_ _ | refine blk_drew ?_ | refine blk_alloc ?_ _)); exact BK451.out⟩, ⟨by (with_reducible repeat (first | refine blk_drewN ?_ _ | refine blk_drew ?_ | refine blk_alloc ?_ _)); refine blk_far ?_ NB452_472.out _; (with_reducible repeat (first | refine blk_drewN ?_ _ | refine blk_drew ?_ | refine blk_alloc ?_ _)); refine blk_far ?_ NB452_472.out _; (with_reducible repeat (first | refine blk_drewN ?_ _ | refine blk_drew ?_ | refine blk_alloc ?_ _)); exact BK452.out⟩, ⟨by (with_reducible repeat (first | refine blk_drewN ?_ _ | refine blk_drew ?_ | refine blk_alloc ?_ _)); refine blk_put (cs := #[.bool t468, .slice none 0 0]) ?_ 1 _ rfl; (with_reducible repeat (first | refine blk_drewN ?_ _ | refine blk_drew ?_ | refine blk_alloc ?_ _)); refine blk_put (cs := #[.bool false, .slice none 0 0]) ?_ 0 _ rfl; (with_reducible repeat (first | refine blk_drewN ?_ _ | refine blk_drew ?_ | refine blk_alloc ?_ _)); exact BK472.out⟩, ⟨Sq.bl HB⟩⟩
  case rest =>
   clear HC8
   try clear c1
   try clear c2
   try clear p2
   try clear c3
   try clear c4
   try clear c5
   try clear c6
   try clear c6b0
   try clear c6b1
   try clear c7
   try clear c13
   try clear c14
   try clear c15
   try clear c20
   try clear c21
   try clear c32
   try clear c33
   try clear c34
   try clear c35
   try clear c36
   try clear c39
   try clear c39b0
   try clear c39b1
   try clear c39b2
   try clear c40
   try clear c41
   try clear c42
   try clear c43
   try clear c45
   try clear c46
   try clear c47
   try clear c50
   try clear c51
   try clear c52
   try clear c53
   try clear c55
   try clear c56
   try clear c57
   try clear hcz16_0
   try clear hcz16_1
   try clear hcz18_0
   try clear hcz18_1
   try clear hcz22_0
   try clear hcz22_1
   try clear hcz24_0
   try clear hcz24_1
   try clear hcz26_0
   try clear hcz26_1
   try clear hcz28_0
   try clear hcz28_1
   try clear hcz29_0
   try clear hcz29_1
   try clear hcz37_0
   try clear hcz37_1
   try clear hcz44_0
   try clear hcz44_1
   try clear hcz48_0
   try clear hcz48_1
   try clear hcz54_0
   try clear hcz54_1
   try clear hcz58_0
   try clear hcz58_1
   try clear hfz16_0
   try clear hfz16_1
   try clear hfz18_0
   try clear hfz18_1
   try clear hfz22_0
   try clear hfz22_1
   try clear hfz24_0
   try clear hfz24_1
   try clear hfz26_0
   try clear hfz26_1
   try clear hfz28_0
   try clear hfz28_1
   try clear hfz29_0
   try clear hfz29_1
   try clear hfz37_0
   try clear hfz37_1
   try clear hfz44_0
   try clear hfz44_1
   try clear hfz48_0
   try clear hfz48_1
   try clear hfz54_0
   try clear hfz54_1
   try clear hfz58_0
   try clear hfz58_1
   obtain ⟨kq, x46_7, rfl, HA, HJ7, HO_450001, HO_451001, HO_473001, BK449, BK450, BK451, BK452, BK472, HB⟩ := hcut
   cases kq with
   | zero => exact absurd HA.out (by simp [foliotref02_Div.j0])
   | succ kj7 =>
    have H := HA.out
    clear HA
    simp only [foliotref02_Div.j0] at H
    by_cases c59 : x46_7 = true
    ·subst c59
     have H1 : ((foliotref02_Of.f 1).bind fun bt473 => ((foliotref02_Sub.f t468 t469 bt473.1 bt473.2).bind fun bt477 => ((foliotref02_Mul.f bt477.1 bt477.2 t457 t458).bind fun bt481 => ((foliotref02_Sub.f t453 t454 bt481.1 bt481.2).bind fun bt485 => (some (bt477.1, bt477.2, bt485.1, bt485.2, 0)))))) = some (r1, r2, r3, r4, r5) := by rw [if_pos rfl] at H; exact H
     clear H
     have H := H1
     clear H1
     replace H := Sq.bd H
     obtain ⟨⟨t473, t474⟩, A60, H⟩ := H
     (try dsimp -simprocs only at H)
     replace H := Sq.bd H
     obtain ⟨⟨t477, t478⟩, A61, H⟩ := H
     (try dsimp -simprocs only at H)
     replace H := Sq.bd H
     obtain ⟨⟨t481, t482⟩, A62, H⟩ := H
     (try dsimp -simprocs only at H)
     replace H := Sq.bd H
     obtain ⟨⟨t485, t486⟩, A63, H⟩ := H
     (try dsimp -simprocs only at H)
     simp only [Option.some.injEq, Prod.mk.injEq] at H
     obtain ⟨rfl, rfl, rfl, rfl, rfl⟩ := H
     try go_wp2
     replace HO_450001 := Aside0.mk (Kd.R_drew HO_450001.out)
     replace HO_451001 := Aside0.mk (Kd.R_drew HO_451001.out)
     replace HO_473001 := Aside0.mk (Kd.R_drew HO_473001.out)
     replace BK449 := Aside0.mk (blk_drew BK449.out)
     replace BK450 := Aside0.mk (blk_drew BK450.out)
     replace BK451 := Aside0.mk (blk_drew BK451.out)
     replace BK452 := Aside0.mk (blk_drew BK452.out)
     replace BK472 := Aside0.mk (blk_drew BK472.out)
     replace HB := Aside0.mk (below_drew1 HB.out)
     refine start_ (n := 4) (S := fun w' => w'.cell? ⟨gb472, 0, none⟩ = some (.bool t468) ∧ w'.cell? ⟨gb472, 1, none⟩ = some (.slice Ao38 t469.length co38)) (ds := [3]) #[false, false, false, false] (by kernel_rfl) rfl rfl ⟨(blk_cell BK472.out 0).trans rfl, (blk_cell BK472.out 1).trans rfl⟩ (fun hHeld => ?_)
     generalize wc.drew = w64 at HO_450001 HO_451001 HO_473001 BK449 BK450 BK451 BK452 BK472 HB hHeld ⊢
     refine take_ (i := 0) (N := some 47) (v := ?_) (a' := ?_) #[true, false, false, false] rfl rfl (by kernel_rfl) (fun _ _ _ h => h) (Or.inl ⟨by rfl, ?_⟩) hHeld ?_ ?_
     rotate_left
     ·rintro w' ⟨s0, s1⟩
      go_simp
      with_reducible rfl
     rotate_left
     ·simp only [Act.put, List.setIfInBounds_toArray, List.set_cons_zero, List.set_cons_succ, i64_w, i32_w]
      rfl
     refine one_ (i := 1) (N := some 48) #[true, true, false, false] rfl rfl (by kernel_rfl) (by decide) (fun K hK => ?_)
     refine goes_ Try.func71 (by kernel_rfl) rfl #[.int .i64 1] (by rfl) rfl rfl (by (try simp only [List.map_toArray, List.map_cons, List.map_nil]); first | done | rfl | (simp only [List.length_drop, List.length_take]; rfl)) ?_
     with_reducible refine (foliotref02_Of.calls 1 t473 t474 _ A60.out).mono ?_
     rintro e w65 ⟨v475, rfl, ho0, hb⟩
     refine ⟨_, rfl, ?_⟩
     have HO476 := Aside0.mk (Kd.R_lower (Kd.R_new' (Kd.R_new' (Kd.R_new' ho0 (Kd.R_lt (Sq.al HO_450001))) (Kd.R_lt (Sq.al HO_451001))) (Kd.R_lt (Sq.al HO_473001))) (below_size (Sq.bl HB)))
     replace BK449 := Sq.bb BK449 hb
     replace BK450 := Sq.bb BK450 hb
     replace BK451 := Sq.bb BK451 hb
     replace BK452 := Sq.bb BK452 hb
     replace BK472 := Sq.bb BK472 hb
     replace HO_450001 := Aside0.mk (Kd.R_elder' (Sq.al HO_450001) (Kd.R_base ho0) hb)
     replace HO_451001 := Aside0.mk (Kd.R_elder' (Sq.al HO_451001) (Kd.R_base ho0) hb)
     replace HO_473001 := Aside0.mk (Kd.R_elder' (Sq.al HO_473001) (Kd.R_base ho0) hb)
     replace HB := Sq.bs HB hb
     (try clear hb)
     (try clear hb2)
     (try clear hk)
     (try clear hi)
     (try clear ho0)
     obtain ⟨Ao66, co66, eo66⟩ := Kd.R_slice HO476.out
     (first | subst eo66 | (injection eo66 with f1_ f2_ f3_; have f4_ := f1_.symm; have f5_ := f3_.symm; clear f1_ f2_ f3_; subst f4_; subst f5_))
     refine hK.out _ _ ⟨(blk_cell BK472.out 0).trans rfl, (blk_cell BK472.out 1).trans rfl⟩ (fun hHeld => ?_)
     clear hK K
     refine norm_ (a' := ?_) ?_ ?_
     rotate_left
     ·show Act.put _ (some 48) _ = _
      simp only [Act.put, List.setIfInBounds_toArray, List.set_cons_zero, List.set_cons_succ, i64_w, i32_w]
      rfl
     refine one_ (i := 2) (N := some 49) #[true, true, true, false] rfl rfl (by kernel_rfl) (by decide) (fun K hK => ?_)
     refine goes_ Try.func75 (by kernel_rfl) rfl #[.agg #[.bool t468, .slice Ao38 t469.length co38], .agg #[.bool t473, .slice Ao66 t474.length co66]] (by rfl) rfl rfl (by (try simp only [List.map_toArray, List.map_cons, List.map_nil]); first | done | rfl | (simp only [List.length_drop, List.length_take]; rfl)) ?_
     with_reducible refine (foliotref02_Sub.calls t468 _ _ t469 t473 _ _ t474 t477 t478 _ ?side1 ?side2 ?side3 ?side4 A61.out).mono ?_
     (case side1 => exact Sq.ca (Kd.R_reads' HO_473001.out).2.2)
     (case side2 => exact (Kd.R_reads' HO_473001.out).2.1)
     (case side3 => exact Sq.ca (Kd.R_reads' HO476.out).2.2)
     (case side4 => exact (Kd.R_reads' HO476.out).2.1)
     rintro e w67 ⟨v479, rfl, ho0, hb⟩
     refine ⟨_, rfl, ?_⟩
     have HO480 := Aside0.mk (Kd.R_lower (Kd.R_new' (Kd.R_new' (Kd.R_new' (Kd.R_new' ho0 (Kd.R_lt (Sq.al HO_450001))) (Kd.R_lt (Sq.al HO_451001))) (Kd.R_lt (Sq.al HO_473001))) (Kd.R_lt (Sq.al HO476))) (below_size (Sq.bl HB)))
     replace BK449 := Sq.bb BK449 hb
     replace BK450 := Sq.bb BK450 hb
     replace BK451 := Sq.bb BK451 hb
     replace BK452 := Sq.bb BK452 hb
     replace BK472 := Sq.bb BK472 hb
     replace HO_450001 := Aside0.mk (Kd.R_elder' (Sq.al HO_450001) (Kd.R_base ho0) hb)
     replace HO_451001 := Aside0.mk (Kd.R_elder' (Sq.al HO_451001) (Kd.R_base ho0) hb)
     replace HO_473001 := Aside0.mk (Kd.R_elder' (Sq.al HO_473001) (Kd.R_base ho0) hb)
     replace HO476 := Aside0.mk (Kd.R_elder' (Sq.al HO476) (Kd.R_base ho0) hb)
     replace HB := Sq.bs HB hb
     (try clear hb)
     (try clear hb2)
     (try clear hk)
     (try clear hi)
     (try clear ho0)
     obtain ⟨Ao69, co69, eo69⟩ := Kd.R_slice HO480.out
     (first | subst eo69 | (injection eo69 with f1_ f2_ f3_; have f4_ := f1_.symm; have f5_ := f3_.symm; clear f1_ f2_ f3_; subst f4_; subst f5_))
     refine hK.out _ _ ⟨(blk_cell BK472.out 0).trans rfl, (blk_cell BK472.out 1).trans rfl⟩ (fun hHeld => ?_)
     clear hK K
     refine norm_ (a' := ?_) ?_ ?_
     rotate_left
     ·show Act.put _ (some 49) _ = _
      simp only [Act.put, List.setIfInBounds_toArray, List.set_cons_zero, List.set_cons_succ, i64_w, i32_w]
      rfl
     refine last_ (i := 3) (N := none) #[true, true, true, true] rfl rfl (by kernel_rfl) (by decide) (fun K hK => ?_)
     have hs68 : w67.cell? ⟨gb472, 0, none⟩ = some (.bool t468) := (blk_cell BK472.out 0).trans rfl
     have hfs68 := blk_frozen BK472.out 0
     have hns68_0 := NB449_472.out
     have hns68_1 := NB450_472.out
     have hns68_2 := NB451_472.out
     have hns68_3 := NB452_472.out
     have hms68_0 := NB472_449.out
     have hms68_1 := NB472_450.out
     have hms68_2 := NB472_451.out
     have hms68_3 := NB472_452.out
     have hs70 : w67.cell? ⟨gb472, 1, none⟩ = some (.slice Ao38 t469.length co38) := (blk_cell BK472.out 1).trans rfl
     have hfs70 := blk_frozen BK472.out 1
     have hns70_0 := NB449_472.out
     have hns70_1 := NB450_472.out
     have hns70_2 := NB451_472.out
     have hns70_3 := NB452_472.out
     have hms70_0 := NB472_449.out
     have hms70_1 := NB472_450.out
     have hms70_2 := NB472_451.out
     have hms70_3 := NB472_452.out
     refine skip_ (w1 := ?_) (by rfl) rfl ?_ ?_
     rotate_left
     ·go_simp
      rfl
     refine hK.out _ _ ?_
     clear hK K
     refine done_ (by kernel_rfl) ?_
     try go_wp2
     have n0_ : Aside0 (Kd.R (Kd.int .u32) 107 ((w67.setCell ⟨gb472, 0, none⟩ (.bool t477)).setCell ⟨gb472, 1, none⟩ (.slice Ao69 t478.length co69)) w.heap.size (fun k_ => some k_ ≠ (.slice Ao25 t458.length co25 : Value).ownBlock ∧ some k_ ≠ (.slice Ao38 t469.length co38 : Value).ownBlock ∧ some k_ ≠ (.slice Ao66 t474.length co66 : Value).ownBlock ∧ some k_ ≠ (.slice Ao69 t478.length co69 : Value).ownBlock) (.slice Ao19 t454.length co19) t454) := ⟨by (with_reducible repeat (first | apply Kd.R_alloc | apply Kd.R_drewN | apply Kd.R_drew)); exact Kd.R_mono (Kd.R_far (p := ⟨gb472, 1, none⟩) (Kd.R_far (p := ⟨gb472, 0, none⟩) (Sq.rt HO_450001.out BK472) (fun _ hk => hk.2) (.bool t477)) (fun _ hk => hk.2) (.slice Ao69 t478.length co69)) (fun _ hk => ⟨hk.1.1.1.1, ⟨hk.1.1.1.2, ⟨hk.1.1.2, hk.1.2⟩⟩⟩)⟩
     have n1_ : Aside0 (Kd.R (Kd.int .u32) 107 ((w67.setCell ⟨gb472, 0, none⟩ (.bool t477)).setCell ⟨gb472, 1, none⟩ (.slice Ao69 t478.length co69)) w.heap.size (fun k_ => some k_ ≠ (.slice Ao19 t454.length co19 : Value).ownBlock ∧ some k_ ≠ (.slice Ao38 t469.length co38 : Value).ownBlock ∧ some k_ ≠ (.slice Ao66 t474.length co66 : Value).ownBlock ∧ some k_ ≠ (.slice Ao69 t478.length co69 : Value).ownBlock) (.slice Ao25 t458.length co25) t458) := ⟨by (with_reducible repeat (first | apply Kd.R_alloc | apply Kd.R_drewN | apply Kd.R_drew)); exact Kd.R_mono (Kd.R_far (p := ⟨gb472, 1, none⟩) (Kd.R_far (p := ⟨gb472, 0, none⟩) (Sq.rt HO_451001.out BK472) (fun _ hk => hk.2) (.bool t477)) (fun _ hk => hk.2) (.slice Ao69 t478.length co69)) (fun _ hk => ⟨hk.1.1.1.1, ⟨hk.1.1.1.2, ⟨hk.1.1.2, hk.1.2⟩⟩⟩)⟩
     have n2_ : Aside0 (Kd.R (Kd.int .u32) 107 ((w67.setCell ⟨gb472, 0, none⟩ (.bool t477)).setCell ⟨gb472, 1, none⟩ (.slice Ao69 t478.length co69)) w.heap.size (fun k_ => some k_ ≠ (.slice Ao19 t454.length co19 : Value).ownBlock ∧ some k_ ≠ (.slice Ao25 t458.length co25 : Value).ownBlock ∧ some k_ ≠ (.slice Ao66 t474.length co66 : Value).ownBlock ∧ some k_ ≠ (.slice Ao69 t478.length co69 : Value).ownBlock) (.slice Ao38 t469.length co38) t469) := ⟨by (with_reducible repeat (first | apply Kd.R_alloc | apply Kd.R_drewN | apply Kd.R_drew)); exact Kd.R_mono (Kd.R_far (p := ⟨gb472, 1, none⟩) (Kd.R_far (p := ⟨gb472, 0, none⟩) (Sq.rt HO_473001.out BK472) (fun _ hk => hk.2) (.bool t477)) (fun _ hk => hk.2) (.slice Ao69 t478.length co69)) (fun _ hk => ⟨hk.1.1.1.1, ⟨hk.1.1.1.2, ⟨hk.1.1.2, hk.1.2⟩⟩⟩)⟩
     have n3_ : Aside0 (Kd.R (Kd.int .u32) 107 ((w67.setCell ⟨gb472, 0, none⟩ (.bool t477)).setCell ⟨gb472, 1, none⟩ (.slice Ao69 t478.length co69)) w.heap.size (fun k_ => some k_ ≠ (.slice Ao19 t454.length co19 : Value).ownBlock ∧ some k_ ≠ (.slice Ao25 t458.length co25 : Value).ownBlock ∧ some k_ ≠ (.slice Ao38 t469.length co38 : Value).ownBlock ∧ some k_ ≠ (.slice Ao69 t478.length co69 : Value).ownBlock) (.slice Ao66 t474.length co66) t474) := ⟨by (with_reducible repeat (first | apply Kd.R_alloc | apply Kd.R_drewN | apply Kd.R_drew)); exact Kd.R_mono (Kd.R_far (p := ⟨gb472, 1, none⟩) (Kd.R_far (p := ⟨gb472, 0, none⟩) (Sq.rt HO476.out BK472) (fun _ hk => hk.2) (.bool t477)) (fun _ hk => hk.2) (.slice Ao69 t478.length co69)) (fun _ hk => ⟨hk.1.1.1.1.2, ⟨hk.1.1.1.2, ⟨hk.1.1.2, hk.1.2⟩⟩⟩)⟩
     have n4_ : Aside0 (Kd.R (Kd.int .u32) 107 ((w67.setCell ⟨gb472, 0, none⟩ (.bool t477)).setCell ⟨gb472, 1, none⟩ (.slice Ao69 t478.length co69)) w.heap.size (fun k_ => some k_ ≠ (.slice Ao19 t454.length co19 : Value).ownBlock ∧ some k_ ≠ (.slice Ao25 t458.length co25 : Value).ownBlock ∧ some k_ ≠ (.slice Ao38 t469.length co38 : Value).ownBlock ∧ some k_ ≠ (.slice Ao66 t474.length co66 : Value).ownBlock) (.slice Ao69 t478.length co69) t478) := ⟨by (with_reducible repeat (first | apply Kd.R_alloc | apply Kd.R_drewN | apply Kd.R_drew)); exact Kd.R_mono (Kd.R_far (p := ⟨gb472, 1, none⟩) (Kd.R_far (p := ⟨gb472, 0, none⟩) (Sq.rt HO480.out BK472) (fun _ hk => hk.2) (.bool t477)) (fun _ hk => hk.2) (.slice Ao69 t478.length co69)) (fun _ hk => ⟨hk.1.1.1.1.2, ⟨hk.1.1.1.2, ⟨hk.1.1.2, hk.1.2⟩⟩⟩)⟩
     have n5_ : Aside0 (((w67.setCell ⟨gb472, 0, none⟩ (.bool t477)).setCell ⟨gb472, 1, none⟩ (.slice Ao69 t478.length co69)).heap[gb449]? = some (.cells #[.bool t453, .slice Ao19 t454.length co19] 39 (0, 0))) := ⟨by (with_reducible repeat (first | refine blk_drewN ?_ _ | refine blk_drew ?_ | refine blk_alloc ?_ _)); refine blk_far ?_ NB449_472.out _; (with_reducible repeat (first | refine blk_drewN ?_ _ | refine blk_drew ?_ | refine blk_alloc ?_ _)); refine blk_far ?_ NB449_472.out _; (with_reducible repeat (first | refine blk_drewN ?_ _ | refine blk_drew ?_ | refine blk_alloc ?_ _)); exact BK449.out⟩
     have n6_ : Aside0 (((w67.setCell ⟨gb472, 0, none⟩ (.bool t477)).setCell ⟨gb472, 1, none⟩ (.slice Ao69 t478.length co69)).heap[gb450]? = some (.cells #[.bool t457, .slice Ao25 t458.length co25] 39 (0, 0))) := ⟨by (with_reducible repeat (first | refine blk_drewN ?_ _ | refine blk_drew ?_ | refine blk_alloc ?_ _)); refine blk_far ?_ NB450_472.out _; (with_reducible repeat (first | refine blk_drewN ?_ _ | refine blk_drew ?_ | refine blk_alloc ?_ _)); refine blk_far ?_ NB450_472.out _; (with_reducible repeat (first | refine blk_drewN ?_ _ | refine blk_drew ?_ | refine blk_alloc ?_ _)); exact BK450.out⟩
     have n7_ : Aside0 (((w67.setCell ⟨gb472, 0, none⟩ (.bool t477)).setCell ⟨gb472, 1, none⟩ (.slice Ao69 t478.length co69)).heap[gb451]? = some (.cells #[.bool false, .slice none 0 0] 39 (0, 0))) := ⟨by (with_reducible repeat (first | refine blk_drewN ?_ _ | refine blk_drew ?_ | refine blk_alloc ?_ _)); refine blk_far ?_ NB451_472.out _; (with_reducible repeat (first | refine blk_drewN ?_ _ | refine blk_drew ?_ | refine blk_alloc ?_ _)); refine blk_far ?_ NB451_472.out _; (with_reducible repeat (first | refine blk_drewN ?_ _ | refine blk_drew ?_ | refine blk_alloc ?_ _)); exact BK451.out⟩
     have n8_ : Aside0 (((w67.setCell ⟨gb472, 0, none⟩ (.bool t477)).setCell ⟨gb472, 1, none⟩ (.slice Ao69 t478.length co69)).heap[gb452]? = some (.cells #[.bool false, .slice none 0 0] 39 (0, 0))) := ⟨by (with_reducible repeat (first | refine blk_drewN ?_ _ | refine blk_drew ?_ | refine blk_alloc ?_ _)); refine blk_far ?_ NB452_472.out _; (with_reducible repeat (first | refine blk_drewN ?_ _ | refine blk_drew ?_ | refine blk_alloc ?_ _)); refine blk_far ?_ NB452_472.out _; (with_reducible repeat (first | refine blk_drewN ?_ _ | refine blk_drew ?_ | refine blk_alloc ?_ _)); exact BK452.out⟩
     have n9_ : Aside0 (((w67.setCell ⟨gb472, 0, none⟩ (.bool t477)).setCell ⟨gb472, 1, none⟩ (.slice Ao69 t478.length co69)).heap[gb472]? = some (.cells #[.bool t477, .slice Ao69 t478.length co69] 39 (0, 0))) := ⟨by (with_reducible repeat (first | refine blk_drewN ?_ _ | refine blk_drew ?_ | refine blk_alloc ?_ _)); refine blk_put (cs := #[.bool t477, .slice Ao38 t469.length co38]) ?_ 1 _ rfl; (with_reducible repeat (first | refine blk_drewN ?_ _ | refine blk_drew ?_ | refine blk_alloc ?_ _)); refine blk_put (cs := #[.bool t468, .slice Ao38 t469.length co38]) ?_ 0 _ rfl; (with_reducible repeat (first | refine blk_drewN ?_ _ | refine blk_drew ?_ | refine blk_alloc ?_ _)); exact BK472.out⟩
     have n10_ : Aside0 (Below w.heap.size w ((w67.setCell ⟨gb472, 0, none⟩ (.bool t477)).setCell ⟨gb472, 1, none⟩ (.slice Ao69 t478.length co69))) := ⟨Sq.bl HB⟩
     (try clear HO_450001)
     (try clear HO_451001)
     (try clear HO_473001)
     (try clear HO476)
     (try clear HO480)
     (try clear BK449)
     (try clear BK450)
     (try clear BK451)
     (try clear BK452)
     (try clear BK472)
     (try clear HB)
     generalize ((w67.setCell ⟨gb472, 0, none⟩ (.bool t477)).setCell ⟨gb472, 1, none⟩ (.slice Ao69 t478.length co69)) = w71 at n0_ n1_ n2_ n3_ n4_ n5_ n6_ n7_ n8_ n9_ n10_ ⊢
     have HO_450001 := n0_
     have HO_451001 := n1_
     have HO_473001 := n2_
     have HO476 := n3_
     have HO480 := n4_
     have BK449 := n5_
     have BK450 := n6_
     have BK451 := n7_
     have BK452 := n8_
     have BK472 := n9_
     have HB := n10_
     clear n0_ n1_ n2_ n3_ n4_ n5_ n6_ n7_ n8_ n9_ n10_
     replace HO_450001 := Aside0.mk (Kd.R_drew HO_450001.out)
     replace HO_451001 := Aside0.mk (Kd.R_drew HO_451001.out)
     replace HO_473001 := Aside0.mk (Kd.R_drew HO_473001.out)
     replace HO476 := Aside0.mk (Kd.R_drew HO476.out)
     replace HO480 := Aside0.mk (Kd.R_drew HO480.out)
     replace BK449 := Aside0.mk (blk_drew BK449.out)
     replace BK450 := Aside0.mk (blk_drew BK450.out)
     replace BK451 := Aside0.mk (blk_drew BK451.out)
     replace BK452 := Aside0.mk (blk_drew BK452.out)
     replace BK472 := Aside0.mk (blk_drew BK472.out)
     replace HB := Aside0.mk (below_drew1 HB.out)
     refine start_ (n := 9) (S := fun w' => w'.cell? ⟨gb472, 0, none⟩ = some (.bool t477) ∧ w'.cell? ⟨gb472, 1, none⟩ = some (.slice Ao69 t478.length co69) ∧ w'.cell? ⟨gb449, 0, none⟩ = some (.bool t453) ∧ w'.cell? ⟨gb449, 1, none⟩ = some (.slice Ao19 t454.length co19) ∧ w'.cell? ⟨gb450, 0, none⟩ = some (.bool t457) ∧ w'.cell? ⟨gb450, 1, none⟩ = some (.slice Ao25 t458.length co25)) (ds := []) #[false, false, false, false, false, false, false, false, false] (by kernel_rfl) rfl rfl ⟨(blk_cell BK472.out 0).trans rfl, (blk_cell BK472.out 1).trans rfl, (blk_cell BK449.out 0).trans rfl, (blk_cell BK449.out 1).trans rfl, (blk_cell BK450.out 0).trans rfl, (blk_cell BK450.out 1).trans rfl⟩ (fun hHeld => ?_); refine with_tabW foliotref02_Div.tab9 foliotref02_Div.bits9 (fun HT_ HW_ => ?_)
     generalize w71.drew = w72 at HO_450001 HO_451001 HO_473001 HO476 HO480 BK449 BK450 BK451 BK452 BK472 HB hHeld ⊢
     refine Sq.tk (v := ?_) (a' := ?_) 0 (some 50) #[true, false, false, false, false, false, false, false, false] HT_ HW_ hHeld ?_ ?_ ?_
     rotate_left
     ·rintro w' ⟨s0, s1, s2, s3, s4, s5⟩
      go_simp
      with_reducible rfl
     rotate_left
     ·simp only [Act.put, List.setIfInBounds_toArray, List.set_cons_zero, List.set_cons_succ, i64_w, i32_w]
      rfl
     refine Sq.tk (v := ?_) (a' := ?_) 1 (some 51) #[true, true, false, false, false, false, false, false, false] HT_ HW_ hHeld ?_ ?_ ?_
     rotate_left
     ·rintro w' ⟨s0, s1, s2, s3, s4, s5⟩
      go_simp
      with_reducible rfl
     rotate_left
     ·simp only [Act.put, List.setIfInBounds_toArray, List.set_cons_zero, List.set_cons_succ, i64_w, i32_w]
      rfl
     refine Sq.tk (v := ?_) (a' := ?_) 2 (some 52) #[true, true, true, false, false, false, false, false, false] HT_ HW_ hHeld ?_ ?_ ?_
     rotate_left
     ·rintro w' ⟨s0, s1, s2, s3, s4, s5⟩
      go_simp
      with_reducible rfl
     rotate_left
     ·simp only [Act.put, List.setIfInBounds_toArray, List.set_cons_zero, List.set_cons_succ, i64_w, i32_w]
      rfl
     refine Sq.tk (v := ?_) (a' := ?_) 3 (some 53) #[true, true, true, true, false, false, false, false, false] HT_ HW_ hHeld ?_ ?_ ?_
     rotate_left
     ·rintro w' ⟨s0, s1, s2, s3, s4, s5⟩
      go_simp
      with_reducible rfl
     rotate_left
     ·simp only [Act.put, List.setIfInBounds_toArray, List.set_cons_zero, List.set_cons_succ, i64_w, i32_w]
      rfl
     refine one_ (i := 4) (N := some 54) #[true, true, true, true, true, false, false, false, false] rfl rfl (one_of HT_.out (by kernel_rfl)) (by decide) (fun K hK => ?_)
     refine goes_ Try.func76 (by kernel_rfl) rfl #[.agg #[.bool t477, .slice Ao69 t478.length co69], .agg #[.bool t457, .slice Ao25 t458.length co25]] (by rfl) rfl rfl (by (try simp only [List.map_toArray, List.map_cons, List.map_nil]); first | done | rfl | (simp only [List.length_drop, List.length_take]; rfl)) ?_
     with_reducible refine (foliotref02_Mul.calls t477 _ _ t478 t457 _ _ t458 t481 t482 _ ?side1 ?side2 ?side3 ?side4 A62.out).mono ?_
     (case side1 => exact Sq.ca (Kd.R_reads' HO480.out).2.2)
     (case side2 => exact (Kd.R_reads' HO480.out).2.1)
     (case side3 => exact Sq.ca (Kd.R_reads' HO_451001.out).2.2)
     (case side4 => exact (Kd.R_reads' HO_451001.out).2.1)
     rintro e w73 ⟨v483, rfl, ho0, hb⟩
     refine ⟨_, rfl, ?_⟩
     have HO484 := Aside0.mk (Kd.R_lower (Kd.R_new' (Kd.R_new' (Kd.R_new' (Kd.R_new' (Kd.R_new' ho0 (Kd.R_lt (Sq.al HO_450001))) (Kd.R_lt (Sq.al HO_451001))) (Kd.R_lt (Sq.al HO_473001))) (Kd.R_lt (Sq.al HO476))) (Kd.R_lt (Sq.al HO480))) (below_size (Sq.bl HB)))
     replace BK449 := Sq.bb BK449 hb
     replace BK450 := Sq.bb BK450 hb
     replace BK451 := Sq.bb BK451 hb
     replace BK452 := Sq.bb BK452 hb
     replace BK472 := Sq.bb BK472 hb
     replace HO_450001 := Aside0.mk (Kd.R_elder' (Sq.al HO_450001) (Kd.R_base ho0) hb)
     replace HO_451001 := Aside0.mk (Kd.R_elder' (Sq.al HO_451001) (Kd.R_base ho0) hb)
     replace HO_473001 := Aside0.mk (Kd.R_elder' (Sq.al HO_473001) (Kd.R_base ho0) hb)
     replace HO476 := Aside0.mk (Kd.R_elder' (Sq.al HO476) (Kd.R_base ho0) hb)
     replace HO480 := Aside0.mk (Kd.R_elder' (Sq.al HO480) (Kd.R_base ho0) hb)
     replace HB := Sq.bs HB hb
     (try clear hb)
     (try clear hb2)
     (try clear hk)
     (try clear hi)
     (try clear ho0)
     obtain ⟨Ao74, co74, eo74⟩ := Kd.R_slice HO484.out
     (first | subst eo74 | (injection eo74 with f1_ f2_ f3_; have f4_ := f1_.symm; have f5_ := f3_.symm; clear f1_ f2_ f3_; subst f4_; subst f5_))
     refine hK.out _ _ ⟨(blk_cell BK472.out 0).trans rfl, (blk_cell BK472.out 1).trans rfl, (blk_cell BK449.out 0).trans rfl, (blk_cell BK449.out 1).trans rfl, (blk_cell BK450.out 0).trans rfl, (blk_cell BK450.out 1).trans rfl⟩ (fun hHeld => ?_)
     clear hK K
     refine norm_ (a' := ?_) ?_ ?_
     rotate_left
     ·show Act.put _ (some 54) _ = _
      simp only [Act.put, List.setIfInBounds_toArray, List.set_cons_zero, List.set_cons_succ, i64_w, i32_w]
      rfl
     refine one_ (i := 5) (N := some 55) #[true, true, true, true, true, true, false, false, false] rfl rfl (one_of HT_.out (by kernel_rfl)) (by decide) (fun K hK => ?_)
     refine goes_ Try.func75 (by kernel_rfl) rfl #[.agg #[.bool t453, .slice Ao19 t454.length co19], .agg #[.bool t481, .slice Ao74 t482.length co74]] (by rfl) rfl rfl (by (try simp only [List.map_toArray, List.map_cons, List.map_nil]); first | done | rfl | (simp only [List.length_drop, List.length_take]; rfl)) ?_
     with_reducible refine (foliotref02_Sub.calls t453 _ _ t454 t481 _ _ t482 t485 t486 _ ?side1 ?side2 ?side3 ?side4 A63.out).mono ?_
     (case side1 => exact Sq.ca (Kd.R_reads' HO_450001.out).2.2)
     (case side2 => exact (Kd.R_reads' HO_450001.out).2.1)
     (case side3 => exact Sq.ca (Kd.R_reads' HO484.out).2.2)
     (case side4 => exact (Kd.R_reads' HO484.out).2.1)
     rintro e w75 ⟨v487, rfl, ho0, hb⟩
     refine ⟨_, rfl, ?_⟩
     have HO488 := Aside0.mk (Kd.R_lower (Kd.R_new' (Kd.R_new' (Kd.R_new' (Kd.R_new' (Kd.R_new' (Kd.R_new' ho0 (Kd.R_lt (Sq.al HO_450001))) (Kd.R_lt (Sq.al HO_451001))) (Kd.R_lt (Sq.al HO_473001))) (Kd.R_lt (Sq.al HO476))) (Kd.R_lt (Sq.al HO480))) (Kd.R_lt (Sq.al HO484))) (below_size (Sq.bl HB)))
     replace BK449 := Sq.bb BK449 hb
     replace BK450 := Sq.bb BK450 hb
     replace BK451 := Sq.bb BK451 hb
     replace BK452 := Sq.bb BK452 hb
     replace BK472 := Sq.bb BK472 hb
     replace HO_450001 := Aside0.mk (Kd.R_elder' (Sq.al HO_450001) (Kd.R_base ho0) hb)
     replace HO_451001 := Aside0.mk (Kd.R_elder' (Sq.al HO_451001) (Kd.R_base ho0) hb)
     replace HO_473001 := Aside0.mk (Kd.R_elder' (Sq.al HO_473001) (Kd.R_base ho0) hb)
     replace HO476 := Aside0.mk (Kd.R_elder' (Sq.al HO476) (Kd.R_base ho0) hb)
     replace HO480 := Aside0.mk (Kd.R_elder' (Sq.al HO480) (Kd.R_base ho0) hb)
     replace HO484 := Aside0.mk (Kd.R_elder' (Sq.al HO484) (Kd.R_base ho0) hb)
     replace HB := Sq.bs HB hb
     (try clear hb)
     (try clear hb2)
     (try clear hk)
     (try clear hi)
     (try clear ho0)
     obtain ⟨Ao79, co79, eo79⟩ := Kd.R_slice HO488.out
     (first | subst eo79 | (injection eo79 with f1_ f2_ f3_; have f4_ := f1_.symm; have f5_ := f3_.symm; clear f1_ f2_ f3_; subst f4_; subst f5_))
     refine hK.out _ _ ⟨(blk_cell BK472.out 0).trans rfl, (blk_cell BK472.out 1).trans rfl, (blk_cell BK449.out 0).trans rfl, (blk_cell BK449.out 1).trans rfl, (blk_cell BK450.out 0).trans rfl, (blk_cell BK450.out 1).trans rfl⟩ (fun hHeld => ?_)
     clear hK K
     refine norm_ (a' := ?_) ?_ ?_
     rotate_left
     ·show Act.put _ (some 55) _ = _
      simp only [Act.put, List.setIfInBounds_toArray, List.set_cons_zero, List.set_cons_succ, i64_w, i32_w]
      rfl
     refine one_ (i := 6) (N := none) #[true, true, true, true, true, true, true, false, false] rfl rfl (one_of HT_.out (by kernel_rfl)) (by decide) (fun K hK => ?_)
     have hs76 : w75.cell? ⟨gb451, 0, none⟩ = some (.bool false) := (blk_cell BK451.out 0).trans rfl
     have hfs76 := blk_frozen BK451.out 0
     have hns76_0 := NB449_451.out
     have hns76_1 := NB450_451.out
     have hns76_3 := NB452_451.out
     have hns76_4 := NB472_451.out
     have hms76_0 := NB451_449.out
     have hms76_1 := NB451_450.out
     have hms76_3 := NB451_452.out
     have hms76_4 := NB451_472.out
     have hs77 : w75.cell? ⟨gb451, 1, none⟩ = some (.slice none 0 0) := (blk_cell BK451.out 1).trans rfl
     have hfs77 := blk_frozen BK451.out 1
     have hns77_0 := NB449_451.out
     have hns77_1 := NB450_451.out
     have hns77_3 := NB452_451.out
     have hns77_4 := NB472_451.out
     have hms77_0 := NB451_449.out
     have hms77_1 := NB451_450.out
     have hms77_3 := NB451_452.out
     have hms77_4 := NB451_472.out
     refine skip_ (w1 := ?_) (by rfl) rfl ?_ ?_
     rotate_left
     ·go_simp
      rfl
     refine hK.out _ _ ⟨((cell_far (p := ⟨gb451, _, none⟩) NB472_451.out _).trans (((cell_far (p := ⟨gb451, _, none⟩) NB472_451.out _).trans (hHeld.1)))), ((cell_far (p := ⟨gb451, _, none⟩) NB472_451.out _).trans (((cell_far (p := ⟨gb451, _, none⟩) NB472_451.out _).trans (hHeld.2.1)))), ((cell_far (p := ⟨gb451, _, none⟩) NB449_451.out _).trans (((cell_far (p := ⟨gb451, _, none⟩) NB449_451.out _).trans (hHeld.2.2.1)))), ((cell_far (p := ⟨gb451, _, none⟩) NB449_451.out _).trans (((cell_far (p := ⟨gb451, _, none⟩) NB449_451.out _).trans (hHeld.2.2.2.1)))), ((cell_far (p := ⟨gb451, _, none⟩) NB450_451.out _).trans (((cell_far (p := ⟨gb451, _, none⟩) NB450_451.out _).trans (hHeld.2.2.2.2.1)))), ((cell_far (p := ⟨gb451, _, none⟩) NB450_451.out _).trans (((cell_far (p := ⟨gb451, _, none⟩) NB450_451.out _).trans (hHeld.2.2.2.2.2))))⟩ (fun hHeld => ?_)
     clear hK K
     refine one_ (i := 7) (N := none) #[true, true, true, true, true, true, true, true, false] rfl rfl (one_of HT_.out (by kernel_rfl)) (by decide) (fun K hK => ?_)
     have hs78 : w75.cell? ⟨gb452, 0, none⟩ = some (.bool false) := (blk_cell BK452.out 0).trans rfl
     have hfs78 := blk_frozen BK452.out 0
     have hns78_0 := NB449_452.out
     have hns78_1 := NB450_452.out
     have hns78_2 := NB451_452.out
     have hns78_4 := NB472_452.out
     have hms78_0 := NB452_449.out
     have hms78_1 := NB452_450.out
     have hms78_2 := NB452_451.out
     have hms78_4 := NB452_472.out
     have hs80 : w75.cell? ⟨gb452, 1, none⟩ = some (.slice none 0 0) := (blk_cell BK452.out 1).trans rfl
     have hfs80 := blk_frozen BK452.out 1
     have hns80_0 := NB449_452.out
     have hns80_1 := NB450_452.out
     have hns80_2 := NB451_452.out
     have hns80_4 := NB472_452.out
     have hms80_0 := NB452_449.out
     have hms80_1 := NB452_450.out
     have hms80_2 := NB452_451.out
     have hms80_4 := NB452_472.out
     refine skip_ (w1 := ?_) (by rfl) rfl ?_ ?_
     rotate_left
     ·go_simp
      rfl
     refine hK.out _ _ ⟨((cell_far (p := ⟨gb452, _, none⟩) NB472_452.out _).trans (((cell_far (p := ⟨gb452, _, none⟩) NB472_452.out _).trans (hHeld.1)))), ((cell_far (p := ⟨gb452, _, none⟩) NB472_452.out _).trans (((cell_far (p := ⟨gb452, _, none⟩) NB472_452.out _).trans (hHeld.2.1)))), ((cell_far (p := ⟨gb452, _, none⟩) NB449_452.out _).trans (((cell_far (p := ⟨gb452, _, none⟩) NB449_452.out _).trans (hHeld.2.2.1)))), ((cell_far (p := ⟨gb452, _, none⟩) NB449_452.out _).trans (((cell_far (p := ⟨gb452, _, none⟩) NB449_452.out _).trans (hHeld.2.2.2.1)))), ((cell_far (p := ⟨gb452, _, none⟩) NB450_452.out _).trans (((cell_far (p := ⟨gb452, _, none⟩) NB450_452.out _).trans (hHeld.2.2.2.2.1)))), ((cell_far (p := ⟨gb452, _, none⟩) NB450_452.out _).trans (((cell_far (p := ⟨gb452, _, none⟩) NB450_452.out _).trans (hHeld.2.2.2.2.2))))⟩ (fun hHeld => ?_)
     clear hK K
     refine Sq.pu (v := ?_) (a' := ?_) 8 (some 6) #[true, true, true, true, true, true, true, true, true] HT_ ?_ ?_ ?_
     rotate_left
     ·intro w'
      go_simp
      with_reducible rfl
     rotate_left
     ·simp only [Act.put, List.setIfInBounds_toArray, List.set_cons_zero, List.set_cons_succ, i64_w, i32_w]
      rfl
     refine done_ (done_of HT_.out (by kernel_rfl)) ?_
     try go_wp2
     refine bodyPost_ret (results_list (rs := [.cell 4 39, .cell 5 39, .tmp 6]) rfl (by simp) (.cell gb451 39 #[.bool t477, .slice Ao69 t478.length co69] (0, 0) _ rfl (by (with_reducible repeat (first | refine blk_drewN ?_ _ | refine blk_drew ?_ | refine blk_alloc ?_ _)); refine blk_far ?_ NB451_452.out _; (with_reducible repeat (first | refine blk_drewN ?_ _ | refine blk_drew ?_ | refine blk_alloc ?_ _)); refine blk_far ?_ NB451_452.out _; (with_reducible repeat (first | refine blk_drewN ?_ _ | refine blk_drew ?_ | refine blk_alloc ?_ _)); refine blk_put (cs := #[.bool t477, .slice none 0 0]) ?_ 1 _ rfl; (with_reducible repeat (first | refine blk_drewN ?_ _ | refine blk_drew ?_ | refine blk_alloc ?_ _)); refine blk_put (cs := #[.bool false, .slice none 0 0]) ?_ 0 _ rfl; (with_reducible repeat (first | refine blk_drewN ?_ _ | refine blk_drew ?_ | refine blk_alloc ?_ _)); exact BK451.out) Try.underlying39 rfl (by kernel_rfl) (.cell gb452 39 #[.bool t485, .slice Ao79 t486.length co79] (0, 0) _ rfl (by (with_reducible repeat (first | refine blk_drewN ?_ _ | refine blk_drew ?_ | refine blk_alloc ?_ _)); refine blk_put (cs := #[.bool t485, .slice none 0 0]) ?_ 1 _ rfl; (with_reducible repeat (first | refine blk_drewN ?_ _ | refine blk_drew ?_ | refine blk_alloc ?_ _)); refine blk_put (cs := #[.bool false, .slice none 0 0]) ?_ 0 _ rfl; (with_reducible repeat (first | refine blk_drewN ?_ _ | refine blk_drew ?_ | refine blk_alloc ?_ _)); refine blk_far ?_ NB452_451.out _; (with_reducible repeat (first | refine blk_drewN ?_ _ | refine blk_drew ?_ | refine blk_alloc ?_ _)); refine blk_far ?_ NB452_451.out _; (with_reducible repeat (first | refine blk_drewN ?_ _ | refine blk_drew ?_ | refine blk_alloc ?_ _)); exact BK452.out) Try.underlying39 rfl (by kernel_rfl) (.tmp .nil)))) rfl ?_
     exact ⟨_, _, by first | rfl | (simp [errW_none, errW_some] <;> rfl) | (simp [*, errW_none, errW_some] <;> rfl), by (with_reducible repeat (first | apply Kd.R_alloc | apply Kd.R_drewN | apply Kd.R_drew)); exact Kd.R_mono (Kd.R_far (p := ⟨gb452, 1, none⟩) (Kd.R_far (p := ⟨gb452, 0, none⟩) (Kd.R_far (p := ⟨gb451, 1, none⟩) (Kd.R_far (p := ⟨gb451, 0, none⟩) (Sq.rt (Sq.rt HO480.out BK451) BK452) (fun _ hk => hk.1.2) (.bool t477)) (fun _ hk => hk.1.2) (.slice Ao69 t478.length co69)) (fun _ hk => hk.2) (.bool t485)) (fun _ hk => hk.2) (.slice Ao79 t486.length co79)) (fun _ hk => hk.1.1.2), by (with_reducible repeat (first | apply Kd.R_alloc | apply Kd.R_drewN | apply Kd.R_drew)); exact Kd.R_mono (Kd.R_far (p := ⟨gb452, 1, none⟩) (Kd.R_far (p := ⟨gb452, 0, none⟩) (Kd.R_far (p := ⟨gb451, 1, none⟩) (Kd.R_far (p := ⟨gb451, 0, none⟩) (Sq.rt (Sq.rt HO488.out BK451) BK452) (fun _ hk => hk.1.2) (.bool t477)) (fun _ hk => hk.1.2) (.slice Ao69 t478.length co69)) (fun _ hk => hk.2) (.bool t485)) (fun _ hk => hk.2) (.slice Ao79 t486.length co79)) (fun _ hk => hk.1.1.1.2), Sq.bl HB⟩
    ·replace c59 := Bool.eq_false_iff.mpr c59
     subst c59
     have H1 : ((foliotref02_Mul.f t468 t469 t457 t458).bind fun bt489 => ((foliotref02_Sub.f t453 t454 bt489.1 bt489.2).bind fun bt493 => (some (t468, t469, bt493.1, bt493.2, 0)))) = some (r1, r2, r3, r4, r5) := by rw [if_neg (show ¬ (false = true) by decide)] at H; exact H
     clear H
     have H := H1
     clear H1
     replace H := Sq.bd H
     obtain ⟨⟨t489, t490⟩, A81, H⟩ := H
     (try dsimp -simprocs only at H)
     replace H := Sq.bd H
     obtain ⟨⟨t493, t494⟩, A82, H⟩ := H
     (try dsimp -simprocs only at H)
     simp only [Option.some.injEq, Prod.mk.injEq] at H
     obtain ⟨rfl, rfl, rfl, rfl, rfl⟩ := H
     try go_wp2
     replace HO_450001 := Aside0.mk (Kd.R_drew HO_450001.out)
     replace HO_451001 := Aside0.mk (Kd.R_drew HO_451001.out)
     replace HO_473001 := Aside0.mk (Kd.R_drew HO_473001.out)
     replace BK449 := Aside0.mk (blk_drew BK449.out)
     replace BK450 := Aside0.mk (blk_drew BK450.out)
     replace BK451 := Aside0.mk (blk_drew BK451.out)
     replace BK452 := Aside0.mk (blk_drew BK452.out)
     replace BK472 := Aside0.mk (blk_drew BK472.out)
     replace HB := Aside0.mk (below_drew1 HB.out)
     refine start_ (n := 9) (S := fun w' => w'.cell? ⟨gb472, 0, none⟩ = some (.bool t468) ∧ w'.cell? ⟨gb472, 1, none⟩ = some (.slice Ao38 t469.length co38) ∧ w'.cell? ⟨gb449, 0, none⟩ = some (.bool t453) ∧ w'.cell? ⟨gb449, 1, none⟩ = some (.slice Ao19 t454.length co19) ∧ w'.cell? ⟨gb450, 0, none⟩ = some (.bool t457) ∧ w'.cell? ⟨gb450, 1, none⟩ = some (.slice Ao25 t458.length co25)) (ds := []) #[false, false, false, false, false, false, false, false, false] (by kernel_rfl) rfl rfl ⟨(blk_cell BK472.out 0).trans rfl, (blk_cell BK472.out 1).trans rfl, (blk_cell BK449.out 0).trans rfl, (blk_cell BK449.out 1).trans rfl, (blk_cell BK450.out 0).trans rfl, (blk_cell BK450.out 1).trans rfl⟩ (fun hHeld => ?_); refine with_tabW foliotref02_Div.tab9 foliotref02_Div.bits9 (fun HT_ HW_ => ?_)
     generalize wc.drew = w83 at HO_450001 HO_451001 HO_473001 BK449 BK450 BK451 BK452 BK472 HB hHeld ⊢
     refine Sq.tk (v := ?_) (a' := ?_) 0 (some 50) #[true, false, false, false, false, false, false, false, false] HT_ HW_ hHeld ?_ ?_ ?_
     rotate_left
     ·rintro w' ⟨s0, s1, s2, s3, s4, s5⟩
      go_simp
      with_reducible rfl
     rotate_left
     ·simp only [Act.put, List.setIfInBounds_toArray, List.set_cons_zero, List.set_cons_succ, i64_w, i32_w]
      rfl
     refine Sq.tk (v := ?_) (a' := ?_) 1 (some 51) #[true, true, false, false, false, false, false, false, false] HT_ HW_ hHeld ?_ ?_ ?_
     rotate_left
     ·rintro w' ⟨s0, s1, s2, s3, s4, s5⟩
      go_simp
      with_reducible rfl
     rotate_left
     ·simp only [Act.put, List.setIfInBounds_toArray, List.set_cons_zero, List.set_cons_succ, i64_w, i32_w]
      rfl
     refine Sq.tk (v := ?_) (a' := ?_) 2 (some 52) #[true, true, true, false, false, false, false, false, false] HT_ HW_ hHeld ?_ ?_ ?_
     rotate_left
     ·rintro w' ⟨s0, s1, s2, s3, s4, s5⟩
      go_simp
      with_reducible rfl
     rotate_left
     ·simp only [Act.put, List.setIfInBounds_toArray, List.set_cons_zero, List.set_cons_succ, i64_w, i32_w]
      rfl
     refine Sq.tk (v := ?_) (a' := ?_) 3 (some 53) #[true, true, true, true, false, false, false, false, false] HT_ HW_ hHeld ?_ ?_ ?_
     rotate_left
     ·rintro w' ⟨s0, s1, s2, s3, s4, s5⟩
      go_simp
      with_reducible rfl
     rotate_left
     ·simp only [Act.put, List.setIfInBounds_toArray, List.set_cons_zero, List.set_cons_succ, i64_w, i32_w]
      rfl
     refine one_ (i := 4) (N := some 54) #[true, true, true, true, true, false, false, false, false] rfl rfl (one_of HT_.out (by kernel_rfl)) (by decide) (fun K hK => ?_)
     refine goes_ Try.func76 (by kernel_rfl) rfl #[.agg #[.bool t468, .slice Ao38 t469.length co38], .agg #[.bool t457, .slice Ao25 t458.length co25]] (by rfl) rfl rfl (by (try simp only [List.map_toArray, List.map_cons, List.map_nil]); first | done | rfl | (simp only [List.length_drop, List.length_take]; rfl)) ?_
     with_reducible refine (foliotref02_Mul.calls t468 _ _ t469 t457 _ _ t458 t489 t490 _ ?side1 ?side2 ?side3 ?side4 A81.out).mono ?_
     (case side1 => exact Sq.ca (Kd.R_reads' HO_473001.out).2.2)
     (case side2 => exact (Kd.R_reads' HO_473001.out).2.1)
     (case side3 => exact Sq.ca (Kd.R_reads' HO_451001.out).2.2)
     (case side4 => exact (Kd.R_reads' HO_451001.out).2.1)
     rintro e w84 ⟨v491, rfl, ho0, hb⟩
     refine ⟨_, rfl, ?_⟩
     have HO492 := Aside0.mk (Kd.R_lower (Kd.R_new' (Kd.R_new' (Kd.R_new' ho0 (Kd.R_lt (Sq.al HO_450001))) (Kd.R_lt (Sq.al HO_451001))) (Kd.R_lt (Sq.al HO_473001))) (below_size (Sq.bl HB)))
     replace BK449 := Sq.bb BK449 hb
     replace BK450 := Sq.bb BK450 hb
     replace BK451 := Sq.bb BK451 hb
     replace BK452 := Sq.bb BK452 hb
     replace BK472 := Sq.bb BK472 hb
     replace HO_450001 := Aside0.mk (Kd.R_elder' (Sq.al HO_450001) (Kd.R_base ho0) hb)
     replace HO_451001 := Aside0.mk (Kd.R_elder' (Sq.al HO_451001) (Kd.R_base ho0) hb)
     replace HO_473001 := Aside0.mk (Kd.R_elder' (Sq.al HO_473001) (Kd.R_base ho0) hb)
     replace HB := Sq.bs HB hb
     (try clear hb)
     (try clear hb2)
     (try clear hk)
     (try clear hi)
     (try clear ho0)
     obtain ⟨Ao85, co85, eo85⟩ := Kd.R_slice HO492.out
     (first | subst eo85 | (injection eo85 with f1_ f2_ f3_; have f4_ := f1_.symm; have f5_ := f3_.symm; clear f1_ f2_ f3_; subst f4_; subst f5_))
     refine hK.out _ _ ⟨(blk_cell BK472.out 0).trans rfl, (blk_cell BK472.out 1).trans rfl, (blk_cell BK449.out 0).trans rfl, (blk_cell BK449.out 1).trans rfl, (blk_cell BK450.out 0).trans rfl, (blk_cell BK450.out 1).trans rfl⟩ (fun hHeld => ?_)
     clear hK K
     refine norm_ (a' := ?_) ?_ ?_
     rotate_left
     ·show Act.put _ (some 54) _ = _
      simp only [Act.put, List.setIfInBounds_toArray, List.set_cons_zero, List.set_cons_succ, i64_w, i32_w]
      rfl
     refine one_ (i := 5) (N := some 55) #[true, true, true, true, true, true, false, false, false] rfl rfl (one_of HT_.out (by kernel_rfl)) (by decide) (fun K hK => ?_)
     refine goes_ Try.func75 (by kernel_rfl) rfl #[.agg #[.bool t453, .slice Ao19 t454.length co19], .agg #[.bool t489, .slice Ao85 t490.length co85]] (by rfl) rfl rfl (by (try simp only [List.map_toArray, List.map_cons, List.map_nil]); first | done | rfl | (simp only [List.length_drop, List.length_take]; rfl)) ?_
     with_reducible refine (foliotref02_Sub.calls t453 _ _ t454 t489 _ _ t490 t493 t494 _ ?side1 ?side2 ?side3 ?side4 A82.out).mono ?_
     (case side1 => exact Sq.ca (Kd.R_reads' HO_450001.out).2.2)
     (case side2 => exact (Kd.R_reads' HO_450001.out).2.1)
     (case side3 => exact Sq.ca (Kd.R_reads' HO492.out).2.2)
     (case side4 => exact (Kd.R_reads' HO492.out).2.1)
     rintro e w86 ⟨v495, rfl, ho0, hb⟩
     refine ⟨_, rfl, ?_⟩
     have HO496 := Aside0.mk (Kd.R_lower (Kd.R_new' (Kd.R_new' (Kd.R_new' (Kd.R_new' ho0 (Kd.R_lt (Sq.al HO_450001))) (Kd.R_lt (Sq.al HO_451001))) (Kd.R_lt (Sq.al HO_473001))) (Kd.R_lt (Sq.al HO492))) (below_size (Sq.bl HB)))
     replace BK449 := Sq.bb BK449 hb
     replace BK450 := Sq.bb BK450 hb
     replace BK451 := Sq.bb BK451 hb
     replace BK452 := Sq.bb BK452 hb
     replace BK472 := Sq.bb BK472 hb
     replace HO_450001 := Aside0.mk (Kd.R_elder' (Sq.al HO_450001) (Kd.R_base ho0) hb)
     replace HO_451001 := Aside0.mk (Kd.R_elder' (Sq.al HO_451001) (Kd.R_base ho0) hb)
     replace HO_473001 := Aside0.mk (Kd.R_elder' (Sq.al HO_473001) (Kd.R_base ho0) hb)
     replace HO492 := Aside0.mk (Kd.R_elder' (Sq.al HO492) (Kd.R_base ho0) hb)
     replace HB := Sq.bs HB hb
     (try clear hb)
     (try clear hb2)
     (try clear hk)
     (try clear hi)
     (try clear ho0)
     obtain ⟨Ao90, co90, eo90⟩ := Kd.R_slice HO496.out
     (first | subst eo90 | (injection eo90 with f1_ f2_ f3_; have f4_ := f1_.symm; have f5_ := f3_.symm; clear f1_ f2_ f3_; subst f4_; subst f5_))
     refine hK.out _ _ ⟨(blk_cell BK472.out 0).trans rfl, (blk_cell BK472.out 1).trans rfl, (blk_cell BK449.out 0).trans rfl, (blk_cell BK449.out 1).trans rfl, (blk_cell BK450.out 0).trans rfl, (blk_cell BK450.out 1).trans rfl⟩ (fun hHeld => ?_)
     clear hK K
     refine norm_ (a' := ?_) ?_ ?_
     rotate_left
     ·show Act.put _ (some 55) _ = _
      simp only [Act.put, List.setIfInBounds_toArray, List.set_cons_zero, List.set_cons_succ, i64_w, i32_w]
      rfl
     refine one_ (i := 6) (N := none) #[true, true, true, true, true, true, true, false, false] rfl rfl (one_of HT_.out (by kernel_rfl)) (by decide) (fun K hK => ?_)
     have hs87 : w86.cell? ⟨gb451, 0, none⟩ = some (.bool false) := (blk_cell BK451.out 0).trans rfl
     have hfs87 := blk_frozen BK451.out 0
     have hns87_0 := NB449_451.out
     have hns87_1 := NB450_451.out
     have hns87_3 := NB452_451.out
     have hns87_4 := NB472_451.out
     have hms87_0 := NB451_449.out
     have hms87_1 := NB451_450.out
     have hms87_3 := NB451_452.out
     have hms87_4 := NB451_472.out
     have hs88 : w86.cell? ⟨gb451, 1, none⟩ = some (.slice none 0 0) := (blk_cell BK451.out 1).trans rfl
     have hfs88 := blk_frozen BK451.out 1
     have hns88_0 := NB449_451.out
     have hns88_1 := NB450_451.out
     have hns88_3 := NB452_451.out
     have hns88_4 := NB472_451.out
     have hms88_0 := NB451_449.out
     have hms88_1 := NB451_450.out
     have hms88_3 := NB451_452.out
     have hms88_4 := NB451_472.out
     refine skip_ (w1 := ?_) (by rfl) rfl ?_ ?_
     rotate_left
     ·go_simp
      rfl
     refine hK.out _ _ ⟨((cell_far (p := ⟨gb451, _, none⟩) NB472_451.out _).trans (((cell_far (p := ⟨gb451, _, none⟩) NB472_451.out _).trans (hHeld.1)))), ((cell_far (p := ⟨gb451, _, none⟩) NB472_451.out _).trans (((cell_far (p := ⟨gb451, _, none⟩) NB472_451.out _).trans (hHeld.2.1)))), ((cell_far (p := ⟨gb451, _, none⟩) NB449_451.out _).trans (((cell_far (p := ⟨gb451, _, none⟩) NB449_451.out _).trans (hHeld.2.2.1)))), ((cell_far (p := ⟨gb451, _, none⟩) NB449_451.out _).trans (((cell_far (p := ⟨gb451, _, none⟩) NB449_451.out _).trans (hHeld.2.2.2.1)))), ((cell_far (p := ⟨gb451, _, none⟩) NB450_451.out _).trans (((cell_far (p := ⟨gb451, _, none⟩) NB450_451.out _).trans (hHeld.2.2.2.2.1)))), ((cell_far (p := ⟨gb451, _, none⟩) NB450_451.out _).trans (((cell_far (p := ⟨gb451, _, none⟩) NB450_451.out _).trans (hHeld.2.2.2.2.2))))⟩ (fun hHeld => ?_)
     clear hK K
     refine one_ (i := 7) (N := none) #[true, true, true, true, true, true, true, true, false] rfl rfl (one_of HT_.out (by kernel_rfl)) (by decide) (fun K hK => ?_)
     have hs89 : w86.cell? ⟨gb452, 0, none⟩ = some (.bool false) := (blk_cell BK452.out 0).trans rfl
     have hfs89 := blk_frozen BK452.out 0
     have hns89_0 := NB449_452.out
     have hns89_1 := NB450_452.out
     have hns89_2 := NB451_452.out
     have hns89_4 := NB472_452.out
     have hms89_0 := NB452_449.out
     have hms89_1 := NB452_450.out
     have hms89_2 := NB452_451.out
     have hms89_4 := NB452_472.out
     have hs91 : w86.cell? ⟨gb452, 1, none⟩ = some (.slice none 0 0) := (blk_cell BK452.out 1).trans rfl
     have hfs91 := blk_frozen BK452.out 1
     have hns91_0 := NB449_452.out
     have hns91_1 := NB450_452.out
     have hns91_2 := NB451_452.out
     have hns91_4 := NB472_452.out
     have hms91_0 := NB452_449.out
     have hms91_1 := NB452_450.out
     have hms91_2 := NB452_451.out
     have hms91_4 := NB452_472.out
     refine skip_ (w1 := ?_) (by rfl) rfl ?_ ?_
     rotate_left
     ·go_simp
      rfl
     refine hK.out _ _ ⟨((cell_far (p := ⟨gb452, _, none⟩) NB472_452.out _).trans (((cell_far (p := ⟨gb452, _, none⟩) NB472_452.out _).trans (hHeld.1)))), ((cell_far (p := ⟨gb452, _, none⟩) NB472_452.out _).trans (((cell_far (p := ⟨gb452, _, none⟩) NB472_452.out _).trans (hHeld.2.1)))), ((cell_far (p := ⟨gb452, _, none⟩) NB449_452.out _).trans (((cell_far (p := ⟨gb452, _, none⟩) NB449_452.out _).trans (hHeld.2.2.1)))), ((cell_far (p := ⟨gb452, _, none⟩) NB449_452.out _).trans (((cell_far (p := ⟨gb452, _, none⟩) NB449_452.out _).trans (hHeld.2.2.2.1)))), ((cell_far (p := ⟨gb452, _, none⟩) NB450_452.out _).trans (((cell_far (p := ⟨gb452, _, none⟩) NB450_452.out _).trans (hHeld.2.2.2.2.1)))), ((cell_far (p := ⟨gb452, _, none⟩) NB450_452.out _).trans (((cell_far (p := ⟨gb452, _, none⟩) NB450_452.out _).trans (hHeld.2.2.2.2.2))))⟩ (fun hHeld => ?_)
     clear hK K
     refine Sq.pu (v := ?_) (a' := ?_) 8 (some 6) #[true, true, true, true, true, true, true, true, true] HT_ ?_ ?_ ?_
     rotate_left
     ·intro w'
      go_simp
      with_reducible rfl
     rotate_left
     ·simp only [Act.put, List.setIfInBounds_toArray, List.set_cons_zero, List.set_cons_succ, i64_w, i32_w]
      rfl
     refine done_ (done_of HT_.out (by kernel_rfl)) ?_
     try go_wp2
     refine bodyPost_ret (results_list (rs := [.cell 4 39, .cell 5 39, .tmp 6]) rfl (by simp) (.cell gb451 39 #[.bool t468, .slice Ao38 t469.length co38] (0, 0) _ rfl (by (with_reducible repeat (first | refine blk_drewN ?_ _ | refine blk_drew ?_ | refine blk_alloc ?_ _)); refine blk_far ?_ NB451_452.out _; (with_reducible repeat (first | refine blk_drewN ?_ _ | refine blk_drew ?_ | refine blk_alloc ?_ _)); refine blk_far ?_ NB451_452.out _; (with_reducible repeat (first | refine blk_drewN ?_ _ | refine blk_drew ?_ | refine blk_alloc ?_ _)); refine blk_put (cs := #[.bool t468, .slice none 0 0]) ?_ 1 _ rfl; (with_reducible repeat (first | refine blk_drewN ?_ _ | refine blk_drew ?_ | refine blk_alloc ?_ _)); refine blk_put (cs := #[.bool false, .slice none 0 0]) ?_ 0 _ rfl; (with_reducible repeat (first | refine blk_drewN ?_ _ | refine blk_drew ?_ | refine blk_alloc ?_ _)); exact BK451.out) Try.underlying39 rfl (by kernel_rfl) (.cell gb452 39 #[.bool t493, .slice Ao90 t494.length co90] (0, 0) _ rfl (by (with_reducible repeat (first | refine blk_drewN ?_ _ | refine blk_drew ?_ | refine blk_alloc ?_ _)); refine blk_put (cs := #[.bool t493, .slice none 0 0]) ?_ 1 _ rfl; (with_reducible repeat (first | refine blk_drewN ?_ _ | refine blk_drew ?_ | refine blk_alloc ?_ _)); refine blk_put (cs := #[.bool false, .slice none 0 0]) ?_ 0 _ rfl; (with_reducible repeat (first | refine blk_drewN ?_ _ | refine blk_drew ?_ | refine blk_alloc ?_ _)); refine blk_far ?_ NB452_451.out _; (with_reducible repeat (first | refine blk_drewN ?_ _ | refine blk_drew ?_ | refine blk_alloc ?_ _)); refine blk_far ?_ NB452_451.out _; (with_reducible repeat (first | refine blk_drewN ?_ _ | refine blk_drew ?_ | refine blk_alloc ?_ _)); exact BK452.out) Try.underlying39 rfl (by kernel_rfl) (.tmp .nil)))) rfl ?_
     exact ⟨_, _, by first | rfl | (simp [errW_none, errW_some] <;> rfl) | (simp [*, errW_none, errW_some] <;> rfl), by (with_reducible repeat (first | apply Kd.R_alloc | apply Kd.R_drewN | apply Kd.R_drew)); exact Kd.R_mono (Kd.R_far (p := ⟨gb452, 1, none⟩) (Kd.R_far (p := ⟨gb452, 0, none⟩) (Kd.R_far (p := ⟨gb451, 1, none⟩) (Kd.R_far (p := ⟨gb451, 0, none⟩) (Sq.rt (Sq.rt HO_473001.out BK451) BK452) (fun _ hk => hk.1.2) (.bool t468)) (fun _ hk => hk.1.2) (.slice Ao38 t469.length co38)) (fun _ hk => hk.2) (.bool t493)) (fun _ hk => hk.2) (.slice Ao90 t494.length co90)) (fun _ hk => hk.1.1.2), by (with_reducible repeat (first | apply Kd.R_alloc | apply Kd.R_drewN | apply Kd.R_drew)); exact Kd.R_mono (Kd.R_far (p := ⟨gb452, 1, none⟩) (Kd.R_far (p := ⟨gb452, 0, none⟩) (Kd.R_far (p := ⟨gb451, 1, none⟩) (Kd.R_far (p := ⟨gb451, 0, none⟩) (Sq.rt (Sq.rt HO496.out BK451) BK452) (fun _ hk => hk.1.2) (.bool t468)) (fun _ hk => hk.1.2) (.slice Ao38 t469.length co38)) (fun _ hk => hk.2) (.bool t493)) (fun _ hk => hk.2) (.slice Ao90 t494.length co90)) (fun _ hk => hk.1.1.1.2), Sq.bl HB⟩
 ·rw [if_neg c6] at H
  have c6b0 : (t463 == 0) = false := beq_eq_false_iff_ne.mpr c6
  have c6b1 : (t463 != 0) = true := bne_iff_ne.mpr c6
  simp only [Option.some.injEq, Prod.mk.injEq] at H
  obtain ⟨rfl, rfl, rfl, rfl, rfl⟩ := H
  go_enter Try.func55, Try.ntmps55
  go_wp2_with (first | ((with_reducible refine gate_dst (N := 2) rfl ?_); (try (refine gate_guard (by rfl) ?_; dsimp only)); refine box_event ?hg (N := 2) ?hd (cs := #[.bool a0_0, .slice A0_1 l0_1.length c0_1]) (t := 39) ?hr ?_; (case hd => rfl); (case hg => rfl); (case hr => first | (go_simp; done) | (go_simp; rfl)); intro gb449 hg w92 hbox hb; have BK449 := Aside0.mk (hbox); have GW449 := Sq.gw HB hg; have GE449 := Sq.gw HB hg; replace HB := Sq.bs HB hb; clear hb hbox hg) | ((with_reducible refine gate_dst (N := 3) rfl ?_); (try (refine gate_guard (by rfl) ?_; dsimp only)); refine box_event ?hg (N := 3) ?hd (cs := #[.bool a1_0, .slice A1_1 l1_1.length c1_1]) (t := 39) ?hr ?_; (case hd => rfl); (case hg => rfl); (case hr => first | (go_simp; done) | (go_simp; rfl)); intro gb450 hg w93 hbox hb; have BK450 := Aside0.mk (hbox); have GW450 := Sq.gw HB hg; have GE450 := Sq.gw HB hg; have NB449_450 := Sq.nl BK449 hg; have NB450_449 := Sq.ng BK449 hg; replace BK449 := Sq.bb BK449 hb; replace HB := Sq.bs HB hb; clear hb hbox hg) | ((with_reducible refine gate_dst (N := 4) rfl ?_); (try (refine gate_guard (by rfl) ?_; dsimp only)); refine box_event ?hg (N := 4) ?hd (cs := #[.bool false, .slice none 0 0]) (t := 39) ?hr ?_; (case hd => rfl); (case hg => rfl); (case hr => first | (go_simp; done) | (go_simp; rfl)); intro gb451 hg w94 hbox hb; have BK451 := Aside0.mk (hbox); have GW451 := Sq.gw HB hg; have GE451 := Sq.gw HB hg; have NB449_451 := Sq.nl BK449 hg; have NB451_449 := Sq.ng BK449 hg; have NB450_451 := Sq.nl BK450 hg; have NB451_450 := Sq.ng BK450 hg; replace BK449 := Sq.bb BK449 hb; replace BK450 := Sq.bb BK450 hb; replace HB := Sq.bs HB hb; clear hb hbox hg) | ((with_reducible refine gate_dst (N := 5) rfl ?_); (try (refine gate_guard (by rfl) ?_; dsimp only)); refine box_event ?hg (N := 5) ?hd (cs := #[.bool false, .slice none 0 0]) (t := 39) ?hr ?_; (case hd => rfl); (case hg => rfl); (case hr => first | (go_simp; done) | (go_simp; rfl)); intro gb452 hg w95 hbox hb; have BK452 := Aside0.mk (hbox); have GW452 := Sq.gw HB hg; have GE452 := Sq.gw HB hg; have NB449_452 := Sq.nl BK449 hg; have NB452_449 := Sq.ng BK449 hg; have NB450_452 := Sq.nl BK450 hg; have NB452_450 := Sq.ng BK450 hg; have NB451_452 := Sq.nl BK451 hg; have NB452_451 := Sq.ng BK451 hg; replace BK449 := Sq.bb BK449 hb; replace BK450 := Sq.bb BK450 hb; replace BK451 := Sq.bb BK451 hb; replace HB := Sq.bs HB hb; clear hb hbox hg; have hnb96 := NB449_450.out; have hnc96 := NB450_449.out; have hnb97 := NB449_451.out; have hnc97 := NB451_449.out; have hnb98 := NB449_452.out; have hnc98 := NB452_449.out; have hcz99_0 := Sq.bc BK449 0 (.bool a0_0); have hcz99_1 := Sq.bc BK449 1 (.slice A0_1 l0_1.length c0_1); have hfz99_0 := blk_frozen BK449.out 0; have hfz99_1 := blk_frozen BK449.out 1) | ((with_reducible refine gate_callee (f := 73) rfl ?_); refine Sq.gl (some 12) Try.func73 #[.agg #[.bool a0_0, .slice A0_1 l0_1.length c0_1]] ?_; (with_reducible refine (foliotref02_Norm.calls a0_0 _ _ l0_1 t453 t454 _ ?side1 ?side2 A3.out).mono ?_); (case side1 => exact Sq.ca (Kd.C_below HR0_1.out HB.out)); (case side2 => exact HC0_1.out); rintro e w100 ⟨v455, rfl, ho0, hb⟩; refine ⟨_, rfl, ?_⟩; have HO456 := Aside0.mk (Kd.R_lower ho0 (below_size (Sq.bl HB))); replace BK449 := Sq.bb BK449 hb; replace BK450 := Sq.bb BK450 hb; replace BK451 := Sq.bb BK451 hb; replace BK452 := Sq.bb BK452 hb; replace HB := Sq.bs HB hb; (try clear hb); (try clear hb2); (try clear hk); (try clear hi); (try clear ho0); have hcz101_0 := Sq.bc BK449 0 (.bool a0_0); have hcz101_1 := Sq.bc BK449 1 (.slice A0_1 l0_1.length c0_1); have hfz101_0 := blk_frozen BK449.out 0; have hfz101_1 := blk_frozen BK449.out 1; obtain ⟨Ao102, co102, eo102⟩ := Kd.R_slice HO456.out; subst eo102; have hnb103 := NB450_451.out; have hnc103 := NB451_450.out; have hnb104 := NB450_452.out; have hnc104 := NB452_450.out; have hcz105_0 := Sq.bc BK450 0 (.bool a1_0); have hcz105_1 := Sq.bc BK450 1 (.slice A1_1 l1_1.length c1_1); have hfz105_0 := blk_frozen BK450.out 0; have hfz105_1 := blk_frozen BK450.out 1) | ((with_reducible refine gate_callee (f := 73) rfl ?_); refine Sq.gl (some 14) Try.func73 #[.agg #[.bool a1_0, .slice A1_1 l1_1.length c1_1]] ?_; (with_reducible refine (foliotref02_Norm.calls a1_0 _ _ l1_1 t457 t458 _ ?side1 ?side2 A4.out).mono ?_); (case side1 => exact Kd.C_below HR1_1.out (Sq.bl HB)); (case side2 => exact HC1_1.out); rintro e w106 ⟨v459, rfl, ho0, hb⟩; refine ⟨_, rfl, ?_⟩; have HO460 := Aside0.mk (Kd.R_lower (Kd.R_new' ho0 (Kd.R_lt (by (with_reducible repeat (first | apply Kd.R_alloc | apply Kd.R_drewN | apply Kd.R_drew)); exact (Kd.R_mono (Kd.R_far (p := ⟨gb449, 1, none⟩) (Kd.R_far (p := ⟨gb449, 0, none⟩) (Sq.rt HO456.out BK449) (fun _ hk => hk.2) (.bool t453)) (fun _ hk => hk.2) (.slice Ao102 t454.length co102)) (fun _ h_ => h_.1))))) (below_size (Sq.bl HB))); replace BK450 := Aside0.mk (blk_below (g := gb450) (o := .cells #[.bool a1_0, .slice A1_1 l1_1.length c1_1] 39 (0, 0)) (by (with_reducible repeat (first | refine blk_drewN ?_ _ | refine blk_drew ?_ | refine blk_alloc ?_ _)); refine blk_far ?_ NB450_449.out _; (with_reducible repeat (first | refine blk_drewN ?_ _ | refine blk_drew ?_ | refine blk_alloc ?_ _)); refine blk_far ?_ NB450_449.out _; (with_reducible repeat (first | refine blk_drewN ?_ _ | refine blk_drew ?_ | refine blk_alloc ?_ _)); exact BK450.out) hb); replace BK451 := Aside0.mk (blk_below (g := gb451) (o := .cells #[.bool false, .slice none 0 0] 39 (0, 0)) (by (with_reducible repeat (first | refine blk_drewN ?_ _ | refine blk_drew ?_ | refine blk_alloc ?_ _)); refine blk_far ?_ NB451_449.out _; (with_reducible repeat (first | refine blk_drewN ?_ _ | refine blk_drew ?_ | refine blk_alloc ?_ _)); refine blk_far ?_ NB451_449.out _; (with_reducible repeat (first | refine blk_drewN ?_ _ | refine blk_drew ?_ | refine blk_alloc ?_ _)); exact BK451.out) hb); replace BK452 := Aside0.mk (blk_below (g := gb452) (o := .cells #[.bool false, .slice none 0 0] 39 (0, 0)) (by (with_reducible repeat (first | refine blk_drewN ?_ _ | refine blk_drew ?_ | refine blk_alloc ?_ _)); refine blk_far ?_ NB452_449.out _; (with_reducible repeat (first | refine blk_drewN ?_ _ | refine blk_drew ?_ | refine blk_alloc ?_ _)); refine blk_far ?_ NB452_449.out _; (with_reducible repeat (first | refine blk_drewN ?_ _ | refine blk_drew ?_ | refine blk_alloc ?_ _)); exact BK452.out) hb); replace HO456 := Aside0.mk (Kd.R_elder' (by (with_reducible repeat (first | apply Kd.R_alloc | apply Kd.R_drewN | apply Kd.R_drew)); exact (Kd.R_mono (Kd.R_far (p := ⟨gb449, 1, none⟩) (Kd.R_far (p := ⟨gb449, 0, none⟩) (Sq.rt HO456.out BK449) (fun _ hk => hk.2) (.bool t453)) (fun _ hk => hk.2) (.slice Ao102 t454.length co102)) (fun _ h_ => h_.1))) (Kd.R_base ho0) hb); replace HB := Sq.bs HB hb; replace BK449 := Aside0.mk (blk_below (g := gb449) (o := .cells #[.bool t453, .slice Ao102 t454.length co102] 39 (0, 0)) (by (with_reducible repeat (first | refine blk_drewN ?_ _ | refine blk_drew ?_ | refine blk_alloc ?_ _)); refine blk_put (cs := #[.bool t453, .slice A0_1 l0_1.length c0_1]) ?_ 1 _ rfl; (with_reducible repeat (first | refine blk_drewN ?_ _ | refine blk_drew ?_ | refine blk_alloc ?_ _)); refine blk_put (cs := #[.bool a0_0, .slice A0_1 l0_1.length c0_1]) ?_ 0 _ rfl; (with_reducible repeat (first | refine blk_drewN ?_ _ | refine blk_drew ?_ | refine blk_alloc ?_ _)); exact BK449.out) hb); (try clear hb); (try clear hb2); (try clear hk); (try clear hi); (try clear ho0); have hcz107_0 := Sq.bc BK450 0 (.bool a1_0); have hcz107_1 := Sq.bc BK450 1 (.slice A1_1 l1_1.length c1_1); have hfz107_0 := blk_frozen BK450.out 0; have hfz107_1 := blk_frozen BK450.out 1; obtain ⟨Ao108, co108, eo108⟩ := Kd.R_slice HO460.out; subst eo108; have hcz109_0 := Sq.bc BK449 0 (.bool t453); have hcz109_1 := Sq.bc BK449 1 (.slice Ao102 t454.length co102); have hfz109_0 := blk_frozen BK449.out 0; have hfz109_1 := blk_frozen BK449.out 1) | ((with_reducible refine gate_callee (f := 32) rfl ?_); refine Sq.gl (some 20) Try.func32 #[.slice Ao102 t454.length co102, .slice Ao108 t458.length co108] ?_; (with_reducible refine (foliotref01_Div.calls _ _ t454 _ _ t458 t461 t462 t463 _ ?side1 ?side2 ?side3 ?side4 A5.out).mono ?_); (case side1 => refine (Kd.R_reads' (e := 107) (base := w.heap.size) (ok := fun k_ => (True ∧ some k_ ≠ (.slice Ao108 t458.length co108 : Value).ownBlock)) (n := t454.length) (c := co102) ?_).2.2; exact (by (with_reducible repeat (first | apply Kd.R_alloc | apply Kd.R_drewN | apply Kd.R_drew)); exact (Kd.R_mono (Kd.R_far (p := ⟨gb450, 1, none⟩) (Kd.R_far (p := ⟨gb450, 0, none⟩) (Sq.rt HO456.out BK450) (fun _ hk => hk.2) (.bool t457)) (fun _ hk => hk.2) (.slice Ao108 t458.length co108)) (fun _ h_ => h_.1)))); (case side2 => exact (Kd.R_reads' HO456.out).2.1); (case side3 => refine (Kd.R_reads' (e := 107) (base := w.heap.size) (ok := fun k_ => (True ∧ some k_ ≠ (.slice Ao102 t454.length co102 : Value).ownBlock)) (n := t458.length) (c := co108) ?_).2.2; exact (by (with_reducible repeat (first | apply Kd.R_alloc | apply Kd.R_drewN | apply Kd.R_drew)); exact (Kd.R_mono (Kd.R_far (p := ⟨gb450, 1, none⟩) (Kd.R_far (p := ⟨gb450, 0, none⟩) (Sq.rt HO460.out BK450) (fun _ hk => hk.2) (.bool t457)) (fun _ hk => hk.2) (.slice Ao108 t458.length co108)) (fun _ h_ => h_.1)))); (case side4 => exact (Kd.R_reads' HO460.out).2.1); rintro e w110 ⟨v464, v466, rfl, ho0, ho1, hb⟩; refine ⟨_, rfl, ?_⟩; have HO465 := Aside0.mk (Kd.R_lower (Kd.R_new' (Kd.R_new' ho0 (Kd.R_lt (by (with_reducible repeat (first | apply Kd.R_alloc | apply Kd.R_drewN | apply Kd.R_drew)); exact (Kd.R_mono (Kd.R_far (p := ⟨gb450, 1, none⟩) (Kd.R_far (p := ⟨gb450, 0, none⟩) (Sq.rt HO456.out BK450) (fun _ hk => hk.2) (.bool t457)) (fun _ hk => hk.2) (.slice Ao108 t458.length co108)) (fun _ h_ => h_.1))))) (Kd.R_lt (by (with_reducible repeat (first | apply Kd.R_alloc | apply Kd.R_drewN | apply Kd.R_drew)); exact (Kd.R_mono (Kd.R_far (p := ⟨gb450, 1, none⟩) (Kd.R_far (p := ⟨gb450, 0, none⟩) (Sq.rt HO460.out BK450) (fun _ hk => hk.2) (.bool t457)) (fun _ hk => hk.2) (.slice Ao108 t458.length co108)) (fun _ h_ => h_.1))))) (below_size (Sq.bl HB))); have HO467 := Aside0.mk (Kd.R_lower (Kd.R_new' (Kd.R_new' ho1 (Kd.R_lt (by (with_reducible repeat (first | apply Kd.R_alloc | apply Kd.R_drewN | apply Kd.R_drew)); exact (Kd.R_mono (Kd.R_far (p := ⟨gb450, 1, none⟩) (Kd.R_far (p := ⟨gb450, 0, none⟩) (Sq.rt HO456.out BK450) (fun _ hk => hk.2) (.bool t457)) (fun _ hk => hk.2) (.slice Ao108 t458.length co108)) (fun _ h_ => h_.1))))) (Kd.R_lt (by (with_reducible repeat (first | apply Kd.R_alloc | apply Kd.R_drewN | apply Kd.R_drew)); exact (Kd.R_mono (Kd.R_far (p := ⟨gb450, 1, none⟩) (Kd.R_far (p := ⟨gb450, 0, none⟩) (Sq.rt HO460.out BK450) (fun _ hk => hk.2) (.bool t457)) (fun _ hk => hk.2) (.slice Ao108 t458.length co108)) (fun _ h_ => h_.1))))) (below_size (Sq.bl HB))); replace BK449 := Aside0.mk (blk_below (g := gb449) (o := .cells #[.bool t453, .slice Ao102 t454.length co102] 39 (0, 0)) (by (with_reducible repeat (first | refine blk_drewN ?_ _ | refine blk_drew ?_ | refine blk_alloc ?_ _)); refine blk_far ?_ NB449_450.out _; (with_reducible repeat (first | refine blk_drewN ?_ _ | refine blk_drew ?_ | refine blk_alloc ?_ _)); refine blk_far ?_ NB449_450.out _; (with_reducible repeat (first | refine blk_drewN ?_ _ | refine blk_drew ?_ | refine blk_alloc ?_ _)); exact BK449.out) hb); replace BK451 := Aside0.mk (blk_below (g := gb451) (o := .cells #[.bool false, .slice none 0 0] 39 (0, 0)) (by (with_reducible repeat (first | refine blk_drewN ?_ _ | refine blk_drew ?_ | refine blk_alloc ?_ _)); refine blk_far ?_ NB451_450.out _; (with_reducible repeat (first | refine blk_drewN ?_ _ | refine blk_drew ?_ | refine blk_alloc ?_ _)); refine blk_far ?_ NB451_450.out _; (with_reducible repeat (first | refine blk_drewN ?_ _ | refine blk_drew ?_ | refine blk_alloc ?_ _)); exact BK451.out) hb); replace BK452 := Aside0.mk (blk_below (g := gb452) (o := .cells #[.bool false, .slice none 0 0] 39 (0, 0)) (by (with_reducible repeat (first | refine blk_drewN ?_ _ | refine blk_drew ?_ | refine blk_alloc ?_ _)); refine blk_far ?_ NB452_450.out _; (with_reducible repeat (first | refine blk_drewN ?_ _ | refine blk_drew ?_ | refine blk_alloc ?_ _)); refine blk_far ?_ NB452_450.out _; (with_reducible repeat (first | refine blk_drewN ?_ _ | refine blk_drew ?_ | refine blk_alloc ?_ _)); exact BK452.out) hb); replace HO456 := Aside0.mk (Kd.R_mono (Kd.R_told (Kd.R_told (Kd.R_old (by (with_reducible repeat (first | apply Kd.R_alloc | apply Kd.R_drewN | apply Kd.R_drew)); exact (Kd.R_mono (Kd.R_far (p := ⟨gb450, 1, none⟩) (Kd.R_far (p := ⟨gb450, 0, none⟩) (Sq.rt HO456.out BK450) (fun _ hk => hk.2) (.bool t457)) (fun _ hk => hk.2) (.slice Ao108 t458.length co108)) (fun _ h_ => h_.1))) hb) (Kd.R_base ho0)) (Kd.R_base ho1)) (fun _ h_ => h_.1)); replace HO460 := Aside0.mk (Kd.R_mono (Kd.R_told (Kd.R_told (Kd.R_old (by (with_reducible repeat (first | apply Kd.R_alloc | apply Kd.R_drewN | apply Kd.R_drew)); exact (Kd.R_mono (Kd.R_far (p := ⟨gb450, 1, none⟩) (Kd.R_far (p := ⟨gb450, 0, none⟩) (Sq.rt HO460.out BK450) (fun _ hk => hk.2) (.bool t457)) (fun _ hk => hk.2) (.slice Ao108 t458.length co108)) (fun _ h_ => h_.1))) hb) (Kd.R_base ho0)) (Kd.R_base ho1)) (fun _ h_ => h_.1)); replace HB := Sq.bs HB hb; replace BK450 := Aside0.mk (blk_below (g := gb450) (o := .cells #[.bool t457, .slice Ao108 t458.length co108] 39 (0, 0)) (by (with_reducible repeat (first | refine blk_drewN ?_ _ | refine blk_drew ?_ | refine blk_alloc ?_ _)); refine blk_put (cs := #[.bool t457, .slice A1_1 l1_1.length c1_1]) ?_ 1 _ rfl; (with_reducible repeat (first | refine blk_drewN ?_ _ | refine blk_drew ?_ | refine blk_alloc ?_ _)); refine blk_put (cs := #[.bool a1_0, .slice A1_1 l1_1.length c1_1]) ?_ 0 _ rfl; (with_reducible repeat (first | refine blk_drewN ?_ _ | refine blk_drew ?_ | refine blk_alloc ?_ _)); exact BK450.out) hb); (try clear hb); (try clear hb2); (try clear hk); (try clear hi); (try clear ho0); (try clear ho1); have hnb111 := NB451_452.out; have hnc111 := NB452_451.out; have hcz112_0 := Sq.bc BK451 0 (.bool false); have hcz112_1 := Sq.bc BK451 1 (.slice none 0 0); have hfz112_0 := blk_frozen BK451.out 0; have hfz112_1 := blk_frozen BK451.out 1; have hcz113_0 := Sq.bc BK452 0 (.bool false); have hcz113_1 := Sq.bc BK452 1 (.slice none 0 0); have hfz113_0 := blk_frozen BK452.out 0; have hfz113_1 := blk_frozen BK452.out 1))
  refine bodyPost_ret (results_list (rs := [.cell 4 39, .cell 5 39, .tmp 6]) rfl (by simp) (.cell gb451 39 #[.bool false, .slice none 0 0] (0, 0) _ rfl (by (with_reducible repeat (first | refine blk_drewN ?_ _ | refine blk_drew ?_ | refine blk_alloc ?_ _)); refine blk_far ?_ NB451_452.out _; (with_reducible repeat (first | refine blk_drewN ?_ _ | refine blk_drew ?_ | refine blk_alloc ?_ _)); refine blk_far ?_ NB451_452.out _; (with_reducible repeat (first | refine blk_drewN ?_ _ | refine blk_drew ?_ | refine blk_alloc ?_ _)); refine blk_put (cs := #[.bool false, .slice none 0 0]) ?_ 1 _ rfl; (with_reducible repeat (first | refine blk_drewN ?_ _ | refine blk_drew ?_ | refine blk_alloc ?_ _)); refine blk_put (cs := #[.bool false, .slice none 0 0]) ?_ 0 _ rfl; (with_reducible repeat (first | refine blk_drewN ?_ _ | refine blk_drew ?_ | refine blk_alloc ?_ _)); exact BK451.out) Try.underlying39 rfl (by kernel_rfl) (.cell gb452 39 #[.bool false, .slice none 0 0] (0, 0) _ rfl (by (with_reducible repeat (first | refine blk_drewN ?_ _ | refine blk_drew ?_ | refine blk_alloc ?_ _)); refine blk_put (cs := #[.bool false, .slice none 0 0]) ?_ 1 _ rfl; (with_reducible repeat (first | refine blk_drewN ?_ _ | refine blk_drew ?_ | refine blk_alloc ?_ _)); refine blk_put (cs := #[.bool false, .slice none 0 0]) ?_ 0 _ rfl; (with_reducible repeat (first | refine blk_drewN ?_ _ | refine blk_drew ?_ | refine blk_alloc ?_ _)); refine blk_far ?_ NB452_451.out _; (with_reducible repeat (first | refine blk_drewN ?_ _ | refine blk_drew ?_ | refine blk_alloc ?_ _)); refine blk_far ?_ NB452_451.out _; (with_reducible repeat (first | refine blk_drewN ?_ _ | refine blk_drew ?_ | refine blk_alloc ?_ _)); exact BK452.out) Try.underlying39 rfl (by kernel_rfl) (.tmp .nil)))) rfl ?_
  exact ⟨_, _, by first | rfl | (simp [errW_none, errW_some] <;> rfl) | (simp [*, errW_none, errW_some] <;> rfl), by first | exact Kd.R_nil _ _ _ _ _ | exact Kd.N_nil _ _ _ _ _ | exact Kd.V_nil _ _ _ _ _ | exact Kd.Q_nil _ _ _ _ _ | exact Kd.S_nil _ _ _ _ _, by first | exact Kd.R_nil _ _ _ _ _ | exact Kd.N_nil _ _ _ _ _ | exact Kd.V_nil _ _ _ _ _ | exact Kd.Q_nil _ _ _ _ _ | exact Kd.S_nil _ _ _ _ _, Sq.bl HB⟩
end Go.Proofs.Ytaclkccgjpjdjaa.I
