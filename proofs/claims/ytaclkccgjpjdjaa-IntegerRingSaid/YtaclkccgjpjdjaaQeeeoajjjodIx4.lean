import Derived.Test.YtaclkccgjpjdjaaQlapigiapahIx0
import Derived.Test.YtaclkccgjpjdjaaQppfhkkjgogIx1
import Derived.Test.YtaclkccgjpjdjaaQahfekkchelM
namespace Go.Proofs.Ytaclkccgjpjdjaa.I
open Go.RowKit Go.Proofs.YtaclkccgjpjdjaaW.PrintWords Go.Proofs.YtaclkccgjpjdjaaW.PrintLast Go.Proofs.YtaclkccgjpjdjaaW.PrintMore
attribute [local go_sem] max2_int min2_int max_two min_two max_three min_three max_four min_four   -- for this text's walks alone
set_option linter.unusedVariables false
set_option linter.unusedSimpArgs false
def integer_Add.f (a0_0 : Bool) (l0_1 : List Int) (a1_0 : Bool) (l1_1 : List Int) : Option (Bool × List Int) := if (a0_0 == a1_0) = true then ((nat_Add.f l0_1 l1_1).bind fun t260 => ((integer_sign_with.f a0_0 t260).bind fun bt263 => (some (bt263.1, bt263.2)))) else ((nat_Sub.f l0_1 l1_1).bind fun bt267 => (if bt267.2 = 0 then ((integer_sign_with.f a0_0 bt267.1).bind fun bt271 => (some (bt271.1, bt271.2))) else ((nat_Sub.f l1_1 l0_1).bind fun bt275 => ((integer_sign_with.f a1_0 bt275.1).bind fun bt279 => (some (bt279.1, bt279.2))))))
set_option maxHeartbeats 8000000 in
set_option maxRecDepth 100000 in
theorem integer_Add.calls (a0_0 : Bool) (A0_1 : Option Addr) (c0_1 : Nat) (l0_1 : List Int) (a1_0 : Bool) (A1_1 : Option Addr) (c1_1 : Nat) (l1_1 : List Int) (r1 : Bool) (r2 : List Int) (w : World) (hr0_1 : Kd.C (Kd.int .u32) w A0_1 l0_1.length l0_1) (hc0_1 : l0_1.length ≤ c0_1) (hr1_1 : Kd.C (Kd.int .u32) w A1_1 l1_1.length l1_1) (hc1_1 : l1_1.length ≤ c1_1) (h : integer_Add.f a0_0 l0_1 a1_0 l1_1 = some (r1, r2)) :
  Calls Try.prog 63 #[.agg #[.bool a0_0, .slice A0_1 l0_1.length c0_1], .agg #[.bool a1_0, .slice A1_1 l1_1.length c1_1]] w fun e w' => ∃ v1_ : Value, e = .returned (.agg #[.bool r1, v1_]) ∧ Kd.R (Kd.int .u32) 107 w' w.heap.size (fun _ => True) v1_ r2 ∧ Below w.heap.size w w' := by
 have hu39 := Try.underlying39
 have HR0_1 := Aside0.mk hr0_1
 have HC0_1 := Aside0.mk hc0_1
 clear hr0_1 hc0_1
 have HR1_1 := Aside0.mk hr1_1
 have HC1_1 := Aside0.mk hc1_1
 clear hr1_1 hc1_1
 have HB := Aside0.mk (Below.refl w.heap.size w)
 have H : (if (a0_0 == a1_0) = true then ((nat_Add.f l0_1 l1_1).bind fun t260 => ((integer_sign_with.f a0_0 t260).bind fun bt263 => (some (bt263.1, bt263.2)))) else ((nat_Sub.f l0_1 l1_1).bind fun bt267 => (if bt267.2 = 0 then ((integer_sign_with.f a0_0 bt267.1).bind fun bt271 => (some (bt271.1, bt271.2))) else ((nat_Sub.f l1_1 l0_1).bind fun bt275 => ((integer_sign_with.f a1_0 bt275.1).bind fun bt279 => (some (bt279.1, bt279.2))))))) = some (r1, r2) := h
 clear h
 by_cases c3 : (a0_0 == a1_0) = true
 ·rw [if_pos c3] at H
  have c3b0 : (a0_0 == a1_0) = true := c3
  (try (have c3b1 : decide (a0_0 = a1_0) = true := by simpa using c3))
  (try (have c3b2 : (a0_0 == a1_0) = true := by simpa using c3))
  clear c3
  replace H := Sq.bd H
  obtain ⟨t260, A4, H⟩ := H
  (try dsimp -simprocs only at H)
  replace H := Sq.bd H
  obtain ⟨⟨t263, t264⟩, A5, H⟩ := H
  (try dsimp -simprocs only at H)
  simp only [Option.some.injEq, Prod.mk.injEq] at H
  obtain ⟨rfl, rfl⟩ := H
  go_enter Try.func63, Try.ntmps63
  go_wp2_with (first | ((with_reducible refine gate_dst (N := 2) rfl ?_); refine box_event ?hg (N := 2) ?hd (cs := #[.bool a0_0, .slice A0_1 l0_1.length c0_1]) (t := 39) ?hr ?_; (case hd => rfl); (case hg => rfl); (case hr => first | (go_simp; done) | (go_simp; rfl)); intro gb257 hg w6 hbox hb; have BK257 := Aside0.mk (hbox); have GW257 := Sq.gw HB hg; have GE257 := Sq.gw HB hg; replace HB := Sq.bs HB hb; clear hb hbox hg) | ((with_reducible refine gate_dst (N := 3) rfl ?_); refine box_event ?hg (N := 3) ?hd (cs := #[.bool a1_0, .slice A1_1 l1_1.length c1_1]) (t := 39) ?hr ?_; (case hd => rfl); (case hg => rfl); (case hr => first | (go_simp; done) | (go_simp; rfl)); intro gb258 hg w7 hbox hb; have BK258 := Aside0.mk (hbox); have GW258 := Sq.gw HB hg; have GE258 := Sq.gw HB hg; have NB257_258 := Sq.nl BK257 hg; have NB258_257 := Sq.ng BK257 hg; replace BK257 := Sq.bb BK257 hb; replace HB := Sq.bs HB hb; clear hb hbox hg) | ((with_reducible refine gate_dst (N := 4) rfl ?_); refine box_event ?hg (N := 4) ?hd (cs := #[.bool false, .slice none 0 0]) (t := 39) ?hr ?_; (case hd => rfl); (case hg => rfl); (case hr => first | (go_simp; done) | (go_simp; rfl)); intro gb259 hg w8 hbox hb; have BK259 := Aside0.mk (hbox); have GW259 := Sq.gw HB hg; have GE259 := Sq.gw HB hg; have NB257_259 := Sq.nl BK257 hg; have NB259_257 := Sq.ng BK257 hg; have NB258_259 := Sq.nl BK258 hg; have NB259_258 := Sq.ng BK258 hg; replace BK257 := Sq.bb BK257 hb; replace BK258 := Sq.bb BK258 hb; replace HB := Sq.bs HB hb; clear hb hbox hg; have hnb9 := NB257_258.out; have hnc9 := NB258_257.out; have hnb10 := NB257_259.out; have hnc10 := NB259_257.out; have hcz11_0 := Sq.bc BK257 0 (.bool a0_0); have hcz11_1 := Sq.bc BK257 1 (.slice A0_1 l0_1.length c0_1); have hfz11_0 := blk_frozen BK257.out 0; have hfz11_1 := blk_frozen BK257.out 1; have hnb12 := NB258_259.out; have hnc12 := NB259_258.out; have hcz13_0 := Sq.bc BK258 0 (.bool a1_0); have hcz13_1 := Sq.bc BK258 1 (.slice A1_1 l1_1.length c1_1); have hfz13_0 := blk_frozen BK258.out 0; have hfz13_1 := blk_frozen BK258.out 1) | (go_at_call 42; (with_reducible refine (nat_Add.calls _ _ l0_1 _ _ l1_1 t260 _ ?side1 ?side2 ?side3 ?side4 A4.out).mono ?_); (case side1 => exact Sq.ca (Kd.C_below HR0_1.out HB.out)); (case side2 => exact HC0_1.out); (case side3 => exact Sq.ca (Kd.C_below HR1_1.out HB.out)); (case side4 => exact HC1_1.out); rintro e w14 ⟨v261, rfl, ho0, hb⟩; have HO262 := Aside0.mk (Kd.V_lower (Kd.V_mono (ok' := fun k_ => k_ ≠ gb257 ∧ k_ ≠ gb258 ∧ k_ ≠ gb259) ho0 (fun k_ hk_ => ⟨(Sq.fb BK257 k_ hk_), (Sq.fb BK258 k_ hk_), (Sq.fb BK259 k_ hk_)⟩)) (below_size (Sq.bl HB))); replace BK257 := Sq.bb BK257 hb; replace BK258 := Sq.bb BK258 hb; replace BK259 := Sq.bb BK259 hb; replace HB := Sq.bs HB hb; (try clear hb); (try clear hb2); (try clear hk); (try clear hi); (try clear ho0); obtain ⟨Ao15, co15, eo15⟩ := Kd.V_slice HO262.out; subst eo15) | (go_at_call 147; (with_reducible refine (integer_sign_with.calls a0_0 _ _ t260 t263 t264 _ ?side1 ?side2 A5.out).mono ?_); (case side1 => exact Sq.ca (Kd.V_reads' HO262.out).2.2); (case side2 => exact (Kd.V_reads' HO262.out).2.1); rintro e w16 ⟨v265, rfl, ho0, hb⟩; replace HO262 := Aside0.mk (Kd.V_elder' (Sq.al HO262) (Kd.R_base ho0) hb); have HO266 := Aside0.mk (Kd.R_lower ho0 (below_size (Sq.bl HB))); replace BK257 := Sq.bb BK257 hb; replace BK258 := Sq.bb BK258 hb; replace BK259 := Sq.bb BK259 hb; replace HB := Sq.bs HB hb; (try clear hb); (try clear hb2); (try clear hk); (try clear hi); (try clear ho0); have hcz17_0 := Sq.bc BK259 0 (.bool false); have hcz17_1 := Sq.bc BK259 1 (.slice none 0 0); have hfz17_0 := blk_frozen BK259.out 0; have hfz17_1 := blk_frozen BK259.out 1; obtain ⟨Ao18, co18, eo18⟩ := Kd.R_slice HO266.out; subst eo18))
  repeat (go_quiet (first | ((with_reducible refine gate_dst (N := 2) rfl ?_); refine box_event ?hg (N := 2) ?hd (cs := #[.bool a0_0, .slice A0_1 l0_1.length c0_1]) (t := 39) ?hr ?_; (case hd => rfl); (case hg => rfl); (case hr => first | (go_simp; done) | (go_simp; rfl)); intro gb257 hg w6 hbox hb; have BK257 := Aside0.mk (hbox); have GW257 := Sq.gw HB hg; have GE257 := Sq.gw HB hg; replace HB := Sq.bs HB hb; clear hb hbox hg) | ((with_reducible refine gate_dst (N := 3) rfl ?_); refine box_event ?hg (N := 3) ?hd (cs := #[.bool a1_0, .slice A1_1 l1_1.length c1_1]) (t := 39) ?hr ?_; (case hd => rfl); (case hg => rfl); (case hr => first | (go_simp; done) | (go_simp; rfl)); intro gb258 hg w7 hbox hb; have BK258 := Aside0.mk (hbox); have GW258 := Sq.gw HB hg; have GE258 := Sq.gw HB hg; have NB257_258 := Sq.nl BK257 hg; have NB258_257 := Sq.ng BK257 hg; replace BK257 := Sq.bb BK257 hb; replace HB := Sq.bs HB hb; clear hb hbox hg) | ((with_reducible refine gate_dst (N := 4) rfl ?_); refine box_event ?hg (N := 4) ?hd (cs := #[.bool false, .slice none 0 0]) (t := 39) ?hr ?_; (case hd => rfl); (case hg => rfl); (case hr => first | (go_simp; done) | (go_simp; rfl)); intro gb259 hg w8 hbox hb; have BK259 := Aside0.mk (hbox); have GW259 := Sq.gw HB hg; have GE259 := Sq.gw HB hg; have NB257_259 := Sq.nl BK257 hg; have NB259_257 := Sq.ng BK257 hg; have NB258_259 := Sq.nl BK258 hg; have NB259_258 := Sq.ng BK258 hg; replace BK257 := Sq.bb BK257 hb; replace BK258 := Sq.bb BK258 hb; replace HB := Sq.bs HB hb; clear hb hbox hg; have hnb9 := NB257_258.out; have hnc9 := NB258_257.out; have hnb10 := NB257_259.out; have hnc10 := NB259_257.out; have hcz11_0 := Sq.bc BK257 0 (.bool a0_0); have hcz11_1 := Sq.bc BK257 1 (.slice A0_1 l0_1.length c0_1); have hfz11_0 := blk_frozen BK257.out 0; have hfz11_1 := blk_frozen BK257.out 1; have hnb12 := NB258_259.out; have hnc12 := NB259_258.out; have hcz13_0 := Sq.bc BK258 0 (.bool a1_0); have hcz13_1 := Sq.bc BK258 1 (.slice A1_1 l1_1.length c1_1); have hfz13_0 := blk_frozen BK258.out 0; have hfz13_1 := blk_frozen BK258.out 1) | (go_at_call 42; (with_reducible refine (nat_Add.calls _ _ l0_1 _ _ l1_1 t260 _ ?side1 ?side2 ?side3 ?side4 A4.out).mono ?_); (case side1 => exact Sq.ca (Kd.C_below HR0_1.out HB.out)); (case side2 => exact HC0_1.out); (case side3 => exact Sq.ca (Kd.C_below HR1_1.out HB.out)); (case side4 => exact HC1_1.out); rintro e w14 ⟨v261, rfl, ho0, hb⟩; have HO262 := Aside0.mk (Kd.V_lower (Kd.V_mono (ok' := fun k_ => k_ ≠ gb257 ∧ k_ ≠ gb258 ∧ k_ ≠ gb259) ho0 (fun k_ hk_ => ⟨(Sq.fb BK257 k_ hk_), (Sq.fb BK258 k_ hk_), (Sq.fb BK259 k_ hk_)⟩)) (below_size (Sq.bl HB))); replace BK257 := Sq.bb BK257 hb; replace BK258 := Sq.bb BK258 hb; replace BK259 := Sq.bb BK259 hb; replace HB := Sq.bs HB hb; (try clear hb); (try clear hb2); (try clear hk); (try clear hi); (try clear ho0); obtain ⟨Ao15, co15, eo15⟩ := Kd.V_slice HO262.out; subst eo15) | (go_at_call 147; (with_reducible refine (integer_sign_with.calls a0_0 _ _ t260 t263 t264 _ ?side1 ?side2 A5.out).mono ?_); (case side1 => exact Sq.ca (Kd.V_reads' HO262.out).2.2); (case side2 => exact (Kd.V_reads' HO262.out).2.1); rintro e w16 ⟨v265, rfl, ho0, hb⟩; replace HO262 := Aside0.mk (Kd.V_elder' (Sq.al HO262) (Kd.R_base ho0) hb); have HO266 := Aside0.mk (Kd.R_lower ho0 (below_size (Sq.bl HB))); replace BK257 := Sq.bb BK257 hb; replace BK258 := Sq.bb BK258 hb; replace BK259 := Sq.bb BK259 hb; replace HB := Sq.bs HB hb; (try clear hb); (try clear hb2); (try clear hk); (try clear hi); (try clear ho0); have hcz17_0 := Sq.bc BK259 0 (.bool false); have hcz17_1 := Sq.bc BK259 1 (.slice none 0 0); have hfz17_0 := blk_frozen BK259.out 0; have hfz17_1 := blk_frozen BK259.out 1; obtain ⟨Ao18, co18, eo18⟩ := Kd.R_slice HO266.out; subst eo18)); try go_wp2_with (first | ((with_reducible refine gate_dst (N := 2) rfl ?_); refine box_event ?hg (N := 2) ?hd (cs := #[.bool a0_0, .slice A0_1 l0_1.length c0_1]) (t := 39) ?hr ?_; (case hd => rfl); (case hg => rfl); (case hr => first | (go_simp; done) | (go_simp; rfl)); intro gb257 hg w6 hbox hb; have BK257 := Aside0.mk (hbox); have GW257 := Sq.gw HB hg; have GE257 := Sq.gw HB hg; replace HB := Sq.bs HB hb; clear hb hbox hg) | ((with_reducible refine gate_dst (N := 3) rfl ?_); refine box_event ?hg (N := 3) ?hd (cs := #[.bool a1_0, .slice A1_1 l1_1.length c1_1]) (t := 39) ?hr ?_; (case hd => rfl); (case hg => rfl); (case hr => first | (go_simp; done) | (go_simp; rfl)); intro gb258 hg w7 hbox hb; have BK258 := Aside0.mk (hbox); have GW258 := Sq.gw HB hg; have GE258 := Sq.gw HB hg; have NB257_258 := Sq.nl BK257 hg; have NB258_257 := Sq.ng BK257 hg; replace BK257 := Sq.bb BK257 hb; replace HB := Sq.bs HB hb; clear hb hbox hg) | ((with_reducible refine gate_dst (N := 4) rfl ?_); refine box_event ?hg (N := 4) ?hd (cs := #[.bool false, .slice none 0 0]) (t := 39) ?hr ?_; (case hd => rfl); (case hg => rfl); (case hr => first | (go_simp; done) | (go_simp; rfl)); intro gb259 hg w8 hbox hb; have BK259 := Aside0.mk (hbox); have GW259 := Sq.gw HB hg; have GE259 := Sq.gw HB hg; have NB257_259 := Sq.nl BK257 hg; have NB259_257 := Sq.ng BK257 hg; have NB258_259 := Sq.nl BK258 hg; have NB259_258 := Sq.ng BK258 hg; replace BK257 := Sq.bb BK257 hb; replace BK258 := Sq.bb BK258 hb; replace HB := Sq.bs HB hb; clear hb hbox hg; have hnb9 := NB257_258.out; have hnc9 := NB258_257.out; have hnb10 := NB257_259.out; have hnc10 := NB259_257.out; have hcz11_0 := Sq.bc BK257 0 (.bool a0_0); have hcz11_1 := Sq.bc BK257 1 (.slice A0_1 l0_1.length c0_1); have hfz11_0 := blk_frozen BK257.out 0; have hfz11_1 := blk_frozen BK257.out 1; have hnb12 := NB258_259.out; have hnc12 := NB259_258.out; have hcz13_0 := Sq.bc BK258 0 (.bool a1_0); have hcz13_1 := Sq.bc BK258 1 (.slice A1_1 l1_1.length c1_1); have hfz13_0 := blk_frozen BK258.out 0; have hfz13_1 := blk_frozen BK258.out 1) | (go_at_call 42; (with_reducible refine (nat_Add.calls _ _ l0_1 _ _ l1_1 t260 _ ?side1 ?side2 ?side3 ?side4 A4.out).mono ?_); (case side1 => exact Sq.ca (Kd.C_below HR0_1.out HB.out)); (case side2 => exact HC0_1.out); (case side3 => exact Sq.ca (Kd.C_below HR1_1.out HB.out)); (case side4 => exact HC1_1.out); rintro e w14 ⟨v261, rfl, ho0, hb⟩; have HO262 := Aside0.mk (Kd.V_lower (Kd.V_mono (ok' := fun k_ => k_ ≠ gb257 ∧ k_ ≠ gb258 ∧ k_ ≠ gb259) ho0 (fun k_ hk_ => ⟨(Sq.fb BK257 k_ hk_), (Sq.fb BK258 k_ hk_), (Sq.fb BK259 k_ hk_)⟩)) (below_size (Sq.bl HB))); replace BK257 := Sq.bb BK257 hb; replace BK258 := Sq.bb BK258 hb; replace BK259 := Sq.bb BK259 hb; replace HB := Sq.bs HB hb; (try clear hb); (try clear hb2); (try clear hk); (try clear hi); (try clear ho0); obtain ⟨Ao15, co15, eo15⟩ := Kd.V_slice HO262.out; subst eo15) | (go_at_call 147; (with_reducible refine (integer_sign_with.calls a0_0 _ _ t260 t263 t264 _ ?side1 ?side2 A5.out).mono ?_); (case side1 => exact Sq.ca (Kd.V_reads' HO262.out).2.2); (case side2 => exact (Kd.V_reads' HO262.out).2.1); rintro e w16 ⟨v265, rfl, ho0, hb⟩; replace HO262 := Aside0.mk (Kd.V_elder' (Sq.al HO262) (Kd.R_base ho0) hb); have HO266 := Aside0.mk (Kd.R_lower ho0 (below_size (Sq.bl HB))); replace BK257 := Sq.bb BK257 hb; replace BK258 := Sq.bb BK258 hb; replace BK259 := Sq.bb BK259 hb; replace HB := Sq.bs HB hb; (try clear hb); (try clear hb2); (try clear hk); (try clear hi); (try clear ho0); have hcz17_0 := Sq.bc BK259 0 (.bool false); have hcz17_1 := Sq.bc BK259 1 (.slice none 0 0); have hfz17_0 := blk_frozen BK259.out 0; have hfz17_1 := blk_frozen BK259.out 1; obtain ⟨Ao18, co18, eo18⟩ := Kd.R_slice HO266.out; subst eo18)))
  refine bodyPost_ret (results_cell_row rfl _ _ gb259 39 #[.bool t263, .slice Ao18 t264.length co18] (0, 0) _ rfl (by (with_reducible repeat (first | refine blk_drewN ?_ _ | refine blk_drew ?_ | refine blk_alloc ?_ _)); refine blk_put (cs := #[.bool t263, .slice none 0 0]) ?_ 1 _ rfl; (with_reducible repeat (first | refine blk_drewN ?_ _ | refine blk_drew ?_ | refine blk_alloc ?_ _)); refine blk_put (cs := #[.bool false, .slice none 0 0]) ?_ 0 _ rfl; (with_reducible repeat (first | refine blk_drewN ?_ _ | refine blk_drew ?_ | refine blk_alloc ?_ _)); exact BK259.out) Try.underlying39 rfl (by kernel_rfl)) rfl ?_
  exact ⟨_, by first | rfl | (simp [errW_none, errW_some] <;> rfl) | (simp [*, errW_none, errW_some] <;> rfl), by (with_reducible repeat (first | apply Kd.R_alloc | apply Kd.R_drewN | apply Kd.R_drew)); exact Kd.R_mono (Kd.R_far (p := ⟨gb259, 1, none⟩) (Kd.R_far (p := ⟨gb259, 0, none⟩) (Sq.rt HO266.out BK259) (fun _ hk => hk.2) (.bool t263)) (fun _ hk => hk.2) (.slice Ao18 t264.length co18)) (fun _ hk => trivial), Sq.bl HB⟩
 ·rw [if_neg c3] at H
  have c3b0 : (a0_0 == a1_0) = false := by simpa using c3
  (try (have c3b1 : decide (a0_0 = a1_0) = false := by simpa using c3))
  (try (have c3b2 : (a0_0 == a1_0) = false := by simpa using c3))
  (try (have c3b3 : ¬ (a0_0 = a1_0) := by simpa using c3))
  clear c3
  replace H := Sq.bd H
  obtain ⟨⟨t267, t270⟩, A19, H⟩ := H
  (try dsimp -simprocs only at H)
  by_cases c20 : t270 = 0
  ·rw [if_pos c20] at H
   have c20b0 : (t270 == 0) = true := beq_iff_eq.mpr c20
   have c20b1 : (t270 != 0) = false := bne_eq_false_iff_eq.mpr c20
   clear c20
   replace H := Sq.bd H
   obtain ⟨⟨t271, t272⟩, A21, H⟩ := H
   (try dsimp -simprocs only at H)
   simp only [Option.some.injEq, Prod.mk.injEq] at H
   obtain ⟨rfl, rfl⟩ := H
   go_enter Try.func63, Try.ntmps63
   go_wp2_with (first | ((with_reducible refine gate_dst (N := 2) rfl ?_); refine box_event ?hg (N := 2) ?hd (cs := #[.bool a0_0, .slice A0_1 l0_1.length c0_1]) (t := 39) ?hr ?_; (case hd => rfl); (case hg => rfl); (case hr => first | (go_simp; done) | (go_simp; rfl)); intro gb257 hg w22 hbox hb; have BK257 := Aside0.mk (hbox); have GW257 := Sq.gw HB hg; have GE257 := Sq.gw HB hg; replace HB := Sq.bs HB hb; clear hb hbox hg) | ((with_reducible refine gate_dst (N := 3) rfl ?_); refine box_event ?hg (N := 3) ?hd (cs := #[.bool a1_0, .slice A1_1 l1_1.length c1_1]) (t := 39) ?hr ?_; (case hd => rfl); (case hg => rfl); (case hr => first | (go_simp; done) | (go_simp; rfl)); intro gb258 hg w23 hbox hb; have BK258 := Aside0.mk (hbox); have GW258 := Sq.gw HB hg; have GE258 := Sq.gw HB hg; have NB257_258 := Sq.nl BK257 hg; have NB258_257 := Sq.ng BK257 hg; replace BK257 := Sq.bb BK257 hb; replace HB := Sq.bs HB hb; clear hb hbox hg) | ((with_reducible refine gate_dst (N := 4) rfl ?_); refine box_event ?hg (N := 4) ?hd (cs := #[.bool false, .slice none 0 0]) (t := 39) ?hr ?_; (case hd => rfl); (case hg => rfl); (case hr => first | (go_simp; done) | (go_simp; rfl)); intro gb259 hg w24 hbox hb; have BK259 := Aside0.mk (hbox); have GW259 := Sq.gw HB hg; have GE259 := Sq.gw HB hg; have NB257_259 := Sq.nl BK257 hg; have NB259_257 := Sq.ng BK257 hg; have NB258_259 := Sq.nl BK258 hg; have NB259_258 := Sq.ng BK258 hg; replace BK257 := Sq.bb BK257 hb; replace BK258 := Sq.bb BK258 hb; replace HB := Sq.bs HB hb; clear hb hbox hg; have hnb25 := NB257_258.out; have hnc25 := NB258_257.out; have hnb26 := NB257_259.out; have hnc26 := NB259_257.out; have hcz27_0 := Sq.bc BK257 0 (.bool a0_0); have hcz27_1 := Sq.bc BK257 1 (.slice A0_1 l0_1.length c0_1); have hfz27_0 := blk_frozen BK257.out 0; have hfz27_1 := blk_frozen BK257.out 1; have hnb28 := NB258_259.out; have hnc28 := NB259_258.out; have hcz29_0 := Sq.bc BK258 0 (.bool a1_0); have hcz29_1 := Sq.bc BK258 1 (.slice A1_1 l1_1.length c1_1); have hfz29_0 := blk_frozen BK258.out 0; have hfz29_1 := blk_frozen BK258.out 1) | (go_at_call 45; (with_reducible refine (nat_Sub.calls (fun k_ => k_ < w.heap.size) _ _ l0_1 _ _ l1_1 t267 t270 _ ?side1 ?side2 ?side3 A19.out).mono ?_); (case side1 => exact Kd.V_mk HC0_1.out (Kd.F_below (Kd.C_F (Kd.heap_int .u32) HR0_1.out) (Sq.bl HB))); (case side2 => exact Sq.ca (Kd.C_below HR1_1.out HB.out)); (case side3 => exact HC1_1.out); rintro e w30 ⟨v268, rfl, ho0, hb⟩; have HO269 := Aside0.mk (Kd.V_lower (Kd.V_mono (ok' := fun k_ => k_ ≠ gb257 ∧ k_ ≠ gb258 ∧ k_ ≠ gb259) ho0 (fun k_ hk_ => ⟨Or.elim hk_ (fun hs_ => fun e_ => Nat.not_le.2 hs_ (by rw [e_]; exact GW257.out)) (fun hn_ => (Sq.fb BK257 k_ hn_)), Or.elim hk_ (fun hs_ => fun e_ => Nat.not_le.2 hs_ (by rw [e_]; exact GW258.out)) (fun hn_ => (Sq.fb BK258 k_ hn_)), Or.elim hk_ (fun hs_ => fun e_ => Nat.not_le.2 hs_ (by rw [e_]; exact GW259.out)) (fun hn_ => (Sq.fb BK259 k_ hn_))⟩)) (below_size (Sq.bl HB))); replace BK257 := Sq.bb BK257 hb; replace BK258 := Sq.bb BK258 hb; replace BK259 := Sq.bb BK259 hb; replace HB := Sq.bs HB hb; (try clear hb); (try clear hb2); (try clear hk); (try clear hi); (try clear ho0); obtain ⟨Ao31, co31, eo31⟩ := Kd.V_slice HO269.out; subst eo31) | (go_at_call 147; (with_reducible refine (integer_sign_with.calls a0_0 _ _ t267 t271 t272 _ ?side1 ?side2 A21.out).mono ?_); (case side1 => exact Sq.ca (Kd.V_reads' HO269.out).2.2); (case side2 => exact (Kd.V_reads' HO269.out).2.1); rintro e w32 ⟨v273, rfl, ho0, hb⟩; replace HO269 := Aside0.mk (Kd.V_elder' (Sq.al HO269) (Kd.R_base ho0) hb); have HO274 := Aside0.mk (Kd.R_lower ho0 (below_size (Sq.bl HB))); replace BK257 := Sq.bb BK257 hb; replace BK258 := Sq.bb BK258 hb; replace BK259 := Sq.bb BK259 hb; replace HB := Sq.bs HB hb; (try clear hb); (try clear hb2); (try clear hk); (try clear hi); (try clear ho0); have hcz33_0 := Sq.bc BK259 0 (.bool false); have hcz33_1 := Sq.bc BK259 1 (.slice none 0 0); have hfz33_0 := blk_frozen BK259.out 0; have hfz33_1 := blk_frozen BK259.out 1; obtain ⟨Ao34, co34, eo34⟩ := Kd.R_slice HO274.out; subst eo34))
   repeat (go_quiet (first | ((with_reducible refine gate_dst (N := 2) rfl ?_); refine box_event ?hg (N := 2) ?hd (cs := #[.bool a0_0, .slice A0_1 l0_1.length c0_1]) (t := 39) ?hr ?_; (case hd => rfl); (case hg => rfl); (case hr => first | (go_simp; done) | (go_simp; rfl)); intro gb257 hg w22 hbox hb; have BK257 := Aside0.mk (hbox); have GW257 := Sq.gw HB hg; have GE257 := Sq.gw HB hg; replace HB := Sq.bs HB hb; clear hb hbox hg) | ((with_reducible refine gate_dst (N := 3) rfl ?_); refine box_event ?hg (N := 3) ?hd (cs := #[.bool a1_0, .slice A1_1 l1_1.length c1_1]) (t := 39) ?hr ?_; (case hd => rfl); (case hg => rfl); (case hr => first | (go_simp; done) | (go_simp; rfl)); intro gb258 hg w23 hbox hb; have BK258 := Aside0.mk (hbox); have GW258 := Sq.gw HB hg; have GE258 := Sq.gw HB hg; have NB257_258 := Sq.nl BK257 hg; have NB258_257 := Sq.ng BK257 hg; replace BK257 := Sq.bb BK257 hb; replace HB := Sq.bs HB hb; clear hb hbox hg) | ((with_reducible refine gate_dst (N := 4) rfl ?_); refine box_event ?hg (N := 4) ?hd (cs := #[.bool false, .slice none 0 0]) (t := 39) ?hr ?_; (case hd => rfl); (case hg => rfl); (case hr => first | (go_simp; done) | (go_simp; rfl)); intro gb259 hg w24 hbox hb; have BK259 := Aside0.mk (hbox); have GW259 := Sq.gw HB hg; have GE259 := Sq.gw HB hg; have NB257_259 := Sq.nl BK257 hg; have NB259_257 := Sq.ng BK257 hg; have NB258_259 := Sq.nl BK258 hg; have NB259_258 := Sq.ng BK258 hg; replace BK257 := Sq.bb BK257 hb; replace BK258 := Sq.bb BK258 hb; replace HB := Sq.bs HB hb; clear hb hbox hg; have hnb25 := NB257_258.out; have hnc25 := NB258_257.out; have hnb26 := NB257_259.out; have hnc26 := NB259_257.out; have hcz27_0 := Sq.bc BK257 0 (.bool a0_0); have hcz27_1 := Sq.bc BK257 1 (.slice A0_1 l0_1.length c0_1); have hfz27_0 := blk_frozen BK257.out 0; have hfz27_1 := blk_frozen BK257.out 1; have hnb28 := NB258_259.out; have hnc28 := NB259_258.out; have hcz29_0 := Sq.bc BK258 0 (.bool a1_0); have hcz29_1 := Sq.bc BK258 1 (.slice A1_1 l1_1.length c1_1); have hfz29_0 := blk_frozen BK258.out 0; have hfz29_1 := blk_frozen BK258.out 1) | (go_at_call 45; (with_reducible refine (nat_Sub.calls (fun k_ => k_ < w.heap.size) _ _ l0_1 _ _ l1_1 t267 t270 _ ?side1 ?side2 ?side3 A19.out).mono ?_); (case side1 => exact Kd.V_mk HC0_1.out (Kd.F_below (Kd.C_F (Kd.heap_int .u32) HR0_1.out) (Sq.bl HB))); (case side2 => exact Sq.ca (Kd.C_below HR1_1.out HB.out)); (case side3 => exact HC1_1.out); rintro e w30 ⟨v268, rfl, ho0, hb⟩; have HO269 := Aside0.mk (Kd.V_lower (Kd.V_mono (ok' := fun k_ => k_ ≠ gb257 ∧ k_ ≠ gb258 ∧ k_ ≠ gb259) ho0 (fun k_ hk_ => ⟨Or.elim hk_ (fun hs_ => fun e_ => Nat.not_le.2 hs_ (by rw [e_]; exact GW257.out)) (fun hn_ => (Sq.fb BK257 k_ hn_)), Or.elim hk_ (fun hs_ => fun e_ => Nat.not_le.2 hs_ (by rw [e_]; exact GW258.out)) (fun hn_ => (Sq.fb BK258 k_ hn_)), Or.elim hk_ (fun hs_ => fun e_ => Nat.not_le.2 hs_ (by rw [e_]; exact GW259.out)) (fun hn_ => (Sq.fb BK259 k_ hn_))⟩)) (below_size (Sq.bl HB))); replace BK257 := Sq.bb BK257 hb; replace BK258 := Sq.bb BK258 hb; replace BK259 := Sq.bb BK259 hb; replace HB := Sq.bs HB hb; (try clear hb); (try clear hb2); (try clear hk); (try clear hi); (try clear ho0); obtain ⟨Ao31, co31, eo31⟩ := Kd.V_slice HO269.out; subst eo31) | (go_at_call 147; (with_reducible refine (integer_sign_with.calls a0_0 _ _ t267 t271 t272 _ ?side1 ?side2 A21.out).mono ?_); (case side1 => exact Sq.ca (Kd.V_reads' HO269.out).2.2); (case side2 => exact (Kd.V_reads' HO269.out).2.1); rintro e w32 ⟨v273, rfl, ho0, hb⟩; replace HO269 := Aside0.mk (Kd.V_elder' (Sq.al HO269) (Kd.R_base ho0) hb); have HO274 := Aside0.mk (Kd.R_lower ho0 (below_size (Sq.bl HB))); replace BK257 := Sq.bb BK257 hb; replace BK258 := Sq.bb BK258 hb; replace BK259 := Sq.bb BK259 hb; replace HB := Sq.bs HB hb; (try clear hb); (try clear hb2); (try clear hk); (try clear hi); (try clear ho0); have hcz33_0 := Sq.bc BK259 0 (.bool false); have hcz33_1 := Sq.bc BK259 1 (.slice none 0 0); have hfz33_0 := blk_frozen BK259.out 0; have hfz33_1 := blk_frozen BK259.out 1; obtain ⟨Ao34, co34, eo34⟩ := Kd.R_slice HO274.out; subst eo34)); try go_wp2_with (first | ((with_reducible refine gate_dst (N := 2) rfl ?_); refine box_event ?hg (N := 2) ?hd (cs := #[.bool a0_0, .slice A0_1 l0_1.length c0_1]) (t := 39) ?hr ?_; (case hd => rfl); (case hg => rfl); (case hr => first | (go_simp; done) | (go_simp; rfl)); intro gb257 hg w22 hbox hb; have BK257 := Aside0.mk (hbox); have GW257 := Sq.gw HB hg; have GE257 := Sq.gw HB hg; replace HB := Sq.bs HB hb; clear hb hbox hg) | ((with_reducible refine gate_dst (N := 3) rfl ?_); refine box_event ?hg (N := 3) ?hd (cs := #[.bool a1_0, .slice A1_1 l1_1.length c1_1]) (t := 39) ?hr ?_; (case hd => rfl); (case hg => rfl); (case hr => first | (go_simp; done) | (go_simp; rfl)); intro gb258 hg w23 hbox hb; have BK258 := Aside0.mk (hbox); have GW258 := Sq.gw HB hg; have GE258 := Sq.gw HB hg; have NB257_258 := Sq.nl BK257 hg; have NB258_257 := Sq.ng BK257 hg; replace BK257 := Sq.bb BK257 hb; replace HB := Sq.bs HB hb; clear hb hbox hg) | ((with_reducible refine gate_dst (N := 4) rfl ?_); refine box_event ?hg (N := 4) ?hd (cs := #[.bool false, .slice none 0 0]) (t := 39) ?hr ?_; (case hd => rfl); (case hg => rfl); (case hr => first | (go_simp; done) | (go_simp; rfl)); intro gb259 hg w24 hbox hb; have BK259 := Aside0.mk (hbox); have GW259 := Sq.gw HB hg; have GE259 := Sq.gw HB hg; have NB257_259 := Sq.nl BK257 hg; have NB259_257 := Sq.ng BK257 hg; have NB258_259 := Sq.nl BK258 hg; have NB259_258 := Sq.ng BK258 hg; replace BK257 := Sq.bb BK257 hb; replace BK258 := Sq.bb BK258 hb; replace HB := Sq.bs HB hb; clear hb hbox hg; have hnb25 := NB257_258.out; have hnc25 := NB258_257.out; have hnb26 := NB257_259.out; have hnc26 := NB259_257.out; have hcz27_0 := Sq.bc BK257 0 (.bool a0_0); have hcz27_1 := Sq.bc BK257 1 (.slice A0_1 l0_1.length c0_1); have hfz27_0 := blk_frozen BK257.out 0; have hfz27_1 := blk_frozen BK257.out 1; have hnb28 := NB258_259.out; have hnc28 := NB259_258.out; have hcz29_0 := Sq.bc BK258 0 (.bool a1_0); have hcz29_1 := Sq.bc BK258 1 (.slice A1_1 l1_1.length c1_1); have hfz29_0 := blk_frozen BK258.out 0; have hfz29_1 := blk_frozen BK258.out 1) | (go_at_call 45; (with_reducible refine (nat_Sub.calls (fun k_ => k_ < w.heap.size) _ _ l0_1 _ _ l1_1 t267 t270 _ ?side1 ?side2 ?side3 A19.out).mono ?_); (case side1 => exact Kd.V_mk HC0_1.out (Kd.F_below (Kd.C_F (Kd.heap_int .u32) HR0_1.out) (Sq.bl HB))); (case side2 => exact Sq.ca (Kd.C_below HR1_1.out HB.out)); (case side3 => exact HC1_1.out); rintro e w30 ⟨v268, rfl, ho0, hb⟩; have HO269 := Aside0.mk (Kd.V_lower (Kd.V_mono (ok' := fun k_ => k_ ≠ gb257 ∧ k_ ≠ gb258 ∧ k_ ≠ gb259) ho0 (fun k_ hk_ => ⟨Or.elim hk_ (fun hs_ => fun e_ => Nat.not_le.2 hs_ (by rw [e_]; exact GW257.out)) (fun hn_ => (Sq.fb BK257 k_ hn_)), Or.elim hk_ (fun hs_ => fun e_ => Nat.not_le.2 hs_ (by rw [e_]; exact GW258.out)) (fun hn_ => (Sq.fb BK258 k_ hn_)), Or.elim hk_ (fun hs_ => fun e_ => Nat.not_le.2 hs_ (by rw [e_]; exact GW259.out)) (fun hn_ => (Sq.fb BK259 k_ hn_))⟩)) (below_size (Sq.bl HB))); replace BK257 := Sq.bb BK257 hb; replace BK258 := Sq.bb BK258 hb; replace BK259 := Sq.bb BK259 hb; replace HB := Sq.bs HB hb; (try clear hb); (try clear hb2); (try clear hk); (try clear hi); (try clear ho0); obtain ⟨Ao31, co31, eo31⟩ := Kd.V_slice HO269.out; subst eo31) | (go_at_call 147; (with_reducible refine (integer_sign_with.calls a0_0 _ _ t267 t271 t272 _ ?side1 ?side2 A21.out).mono ?_); (case side1 => exact Sq.ca (Kd.V_reads' HO269.out).2.2); (case side2 => exact (Kd.V_reads' HO269.out).2.1); rintro e w32 ⟨v273, rfl, ho0, hb⟩; replace HO269 := Aside0.mk (Kd.V_elder' (Sq.al HO269) (Kd.R_base ho0) hb); have HO274 := Aside0.mk (Kd.R_lower ho0 (below_size (Sq.bl HB))); replace BK257 := Sq.bb BK257 hb; replace BK258 := Sq.bb BK258 hb; replace BK259 := Sq.bb BK259 hb; replace HB := Sq.bs HB hb; (try clear hb); (try clear hb2); (try clear hk); (try clear hi); (try clear ho0); have hcz33_0 := Sq.bc BK259 0 (.bool false); have hcz33_1 := Sq.bc BK259 1 (.slice none 0 0); have hfz33_0 := blk_frozen BK259.out 0; have hfz33_1 := blk_frozen BK259.out 1; obtain ⟨Ao34, co34, eo34⟩ := Kd.R_slice HO274.out; subst eo34)))
   refine bodyPost_ret (results_cell_row rfl _ _ gb259 39 #[.bool t271, .slice Ao34 t272.length co34] (0, 0) _ rfl (by (with_reducible repeat (first | refine blk_drewN ?_ _ | refine blk_drew ?_ | refine blk_alloc ?_ _)); refine blk_put (cs := #[.bool t271, .slice none 0 0]) ?_ 1 _ rfl; (with_reducible repeat (first | refine blk_drewN ?_ _ | refine blk_drew ?_ | refine blk_alloc ?_ _)); refine blk_put (cs := #[.bool false, .slice none 0 0]) ?_ 0 _ rfl; (with_reducible repeat (first | refine blk_drewN ?_ _ | refine blk_drew ?_ | refine blk_alloc ?_ _)); exact BK259.out) Try.underlying39 rfl (by kernel_rfl)) rfl ?_
   exact ⟨_, by first | rfl | (simp [errW_none, errW_some] <;> rfl) | (simp [*, errW_none, errW_some] <;> rfl), by (with_reducible repeat (first | apply Kd.R_alloc | apply Kd.R_drewN | apply Kd.R_drew)); exact Kd.R_mono (Kd.R_far (p := ⟨gb259, 1, none⟩) (Kd.R_far (p := ⟨gb259, 0, none⟩) (Sq.rt HO274.out BK259) (fun _ hk => hk.2) (.bool t271)) (fun _ hk => hk.2) (.slice Ao34 t272.length co34)) (fun _ hk => trivial), Sq.bl HB⟩
  ·rw [if_neg c20] at H
   have c20b0 : (t270 == 0) = false := beq_eq_false_iff_ne.mpr c20
   have c20b1 : (t270 != 0) = true := bne_iff_ne.mpr c20
   replace H := Sq.bd H
   obtain ⟨⟨t275, t278⟩, A35, H⟩ := H
   (try dsimp -simprocs only at H)
   replace H := Sq.bd H
   obtain ⟨⟨t279, t280⟩, A36, H⟩ := H
   (try dsimp -simprocs only at H)
   simp only [Option.some.injEq, Prod.mk.injEq] at H
   obtain ⟨rfl, rfl⟩ := H
   go_enter Try.func63, Try.ntmps63
   go_wp2_with (first | ((with_reducible refine gate_dst (N := 2) rfl ?_); refine box_event ?hg (N := 2) ?hd (cs := #[.bool a0_0, .slice A0_1 l0_1.length c0_1]) (t := 39) ?hr ?_; (case hd => rfl); (case hg => rfl); (case hr => first | (go_simp; done) | (go_simp; rfl)); intro gb257 hg w37 hbox hb; have BK257 := Aside0.mk (hbox); have GW257 := Sq.gw HB hg; have GE257 := Sq.gw HB hg; replace HB := Sq.bs HB hb; clear hb hbox hg) | ((with_reducible refine gate_dst (N := 3) rfl ?_); refine box_event ?hg (N := 3) ?hd (cs := #[.bool a1_0, .slice A1_1 l1_1.length c1_1]) (t := 39) ?hr ?_; (case hd => rfl); (case hg => rfl); (case hr => first | (go_simp; done) | (go_simp; rfl)); intro gb258 hg w38 hbox hb; have BK258 := Aside0.mk (hbox); have GW258 := Sq.gw HB hg; have GE258 := Sq.gw HB hg; have NB257_258 := Sq.nl BK257 hg; have NB258_257 := Sq.ng BK257 hg; replace BK257 := Sq.bb BK257 hb; replace HB := Sq.bs HB hb; clear hb hbox hg) | ((with_reducible refine gate_dst (N := 4) rfl ?_); refine box_event ?hg (N := 4) ?hd (cs := #[.bool false, .slice none 0 0]) (t := 39) ?hr ?_; (case hd => rfl); (case hg => rfl); (case hr => first | (go_simp; done) | (go_simp; rfl)); intro gb259 hg w39 hbox hb; have BK259 := Aside0.mk (hbox); have GW259 := Sq.gw HB hg; have GE259 := Sq.gw HB hg; have NB257_259 := Sq.nl BK257 hg; have NB259_257 := Sq.ng BK257 hg; have NB258_259 := Sq.nl BK258 hg; have NB259_258 := Sq.ng BK258 hg; replace BK257 := Sq.bb BK257 hb; replace BK258 := Sq.bb BK258 hb; replace HB := Sq.bs HB hb; clear hb hbox hg; have hnb40 := NB257_258.out; have hnc40 := NB258_257.out; have hnb41 := NB257_259.out; have hnc41 := NB259_257.out; have hcz42_0 := Sq.bc BK257 0 (.bool a0_0); have hcz42_1 := Sq.bc BK257 1 (.slice A0_1 l0_1.length c0_1); have hfz42_0 := blk_frozen BK257.out 0; have hfz42_1 := blk_frozen BK257.out 1; have hnb43 := NB258_259.out; have hnc43 := NB259_258.out; have hcz44_0 := Sq.bc BK258 0 (.bool a1_0); have hcz44_1 := Sq.bc BK258 1 (.slice A1_1 l1_1.length c1_1); have hfz44_0 := blk_frozen BK258.out 0; have hfz44_1 := blk_frozen BK258.out 1) | (go_at_call 45; (with_reducible refine (nat_Sub.calls (fun k_ => k_ < w.heap.size) _ _ l0_1 _ _ l1_1 t267 t270 _ ?side1 ?side2 ?side3 A19.out).mono ?_); (case side1 => exact Kd.V_mk HC0_1.out (Kd.F_below (Kd.C_F (Kd.heap_int .u32) HR0_1.out) (Sq.bl HB))); (case side2 => exact Sq.ca (Kd.C_below HR1_1.out HB.out)); (case side3 => exact HC1_1.out); rintro e w45 ⟨v268, rfl, ho0, hb⟩; have HO269 := Aside0.mk (Kd.V_lower (Kd.V_mono (ok' := fun k_ => k_ ≠ gb257 ∧ k_ ≠ gb258 ∧ k_ ≠ gb259) ho0 (fun k_ hk_ => ⟨Or.elim hk_ (fun hs_ => fun e_ => Nat.not_le.2 hs_ (by rw [e_]; exact GW257.out)) (fun hn_ => (Sq.fb BK257 k_ hn_)), Or.elim hk_ (fun hs_ => fun e_ => Nat.not_le.2 hs_ (by rw [e_]; exact GW258.out)) (fun hn_ => (Sq.fb BK258 k_ hn_)), Or.elim hk_ (fun hs_ => fun e_ => Nat.not_le.2 hs_ (by rw [e_]; exact GW259.out)) (fun hn_ => (Sq.fb BK259 k_ hn_))⟩)) (below_size (Sq.bl HB))); replace BK257 := Sq.bb BK257 hb; replace BK258 := Sq.bb BK258 hb; replace BK259 := Sq.bb BK259 hb; replace HB := Sq.bs HB hb; (try clear hb); (try clear hb2); (try clear hk); (try clear hi); (try clear ho0); have hcz46_0 := Sq.bc BK258 0 (.bool a1_0); have hcz46_1 := Sq.bc BK258 1 (.slice A1_1 l1_1.length c1_1); have hfz46_0 := blk_frozen BK258.out 0; have hfz46_1 := blk_frozen BK258.out 1; have hcz47_0 := Sq.bc BK257 0 (.bool a0_0); have hcz47_1 := Sq.bc BK257 1 (.slice A0_1 l0_1.length c0_1); have hfz47_0 := blk_frozen BK257.out 0; have hfz47_1 := blk_frozen BK257.out 1) | (go_at_call 45; (with_reducible refine (nat_Sub.calls (fun k_ => k_ < w.heap.size) _ _ l1_1 _ _ l0_1 t275 t278 _ ?side1 ?side2 ?side3 A35.out).mono ?_); (case side1 => exact Kd.V_mk HC1_1.out (Kd.F_below (Kd.C_F (Kd.heap_int .u32) HR1_1.out) (Sq.bl HB))); (case side2 => exact Sq.ca (Kd.C_below HR0_1.out HB.out)); (case side3 => exact HC0_1.out); rintro e w48 ⟨v276, rfl, ho0, hb⟩; replace HO269 := Aside0.mk (Kd.V_below (Sq.al HO269) hb); have HO277 := Aside0.mk (Kd.V_lower (Kd.V_mono (ok' := fun k_ => k_ ≠ gb257 ∧ k_ ≠ gb258 ∧ k_ ≠ gb259) ho0 (fun k_ hk_ => ⟨Or.elim hk_ (fun hs_ => fun e_ => Nat.not_le.2 hs_ (by rw [e_]; exact GW257.out)) (fun hn_ => (Sq.fb BK257 k_ hn_)), Or.elim hk_ (fun hs_ => fun e_ => Nat.not_le.2 hs_ (by rw [e_]; exact GW258.out)) (fun hn_ => (Sq.fb BK258 k_ hn_)), Or.elim hk_ (fun hs_ => fun e_ => Nat.not_le.2 hs_ (by rw [e_]; exact GW259.out)) (fun hn_ => (Sq.fb BK259 k_ hn_))⟩)) (below_size (Sq.bl HB))); replace BK257 := Sq.bb BK257 hb; replace BK258 := Sq.bb BK258 hb; replace BK259 := Sq.bb BK259 hb; replace HB := Sq.bs HB hb; (try clear hb); (try clear hb2); (try clear hk); (try clear hi); (try clear ho0); obtain ⟨Ao49, co49, eo49⟩ := Kd.V_slice HO277.out; subst eo49) | (go_at_call 147; (with_reducible refine (integer_sign_with.calls a1_0 _ _ t275 t279 t280 _ ?side1 ?side2 A36.out).mono ?_); (case side1 => exact Sq.ca (Kd.V_reads' HO277.out).2.2); (case side2 => exact (Kd.V_reads' HO277.out).2.1); rintro e w50 ⟨v281, rfl, ho0, hb⟩; replace HO269 := Aside0.mk (Kd.V_elder' (Sq.al HO269) (Kd.R_base ho0) hb); replace HO277 := Aside0.mk (Kd.V_elder' (Sq.al HO277) (Kd.R_base ho0) hb); have HO282 := Aside0.mk (Kd.R_lower ho0 (below_size (Sq.bl HB))); replace BK257 := Sq.bb BK257 hb; replace BK258 := Sq.bb BK258 hb; replace BK259 := Sq.bb BK259 hb; replace HB := Sq.bs HB hb; (try clear hb); (try clear hb2); (try clear hk); (try clear hi); (try clear ho0); have hcz51_0 := Sq.bc BK259 0 (.bool false); have hcz51_1 := Sq.bc BK259 1 (.slice none 0 0); have hfz51_0 := blk_frozen BK259.out 0; have hfz51_1 := blk_frozen BK259.out 1; obtain ⟨Ao52, co52, eo52⟩ := Kd.R_slice HO282.out; subst eo52))
   repeat (go_quiet (first | ((with_reducible refine gate_dst (N := 2) rfl ?_); refine box_event ?hg (N := 2) ?hd (cs := #[.bool a0_0, .slice A0_1 l0_1.length c0_1]) (t := 39) ?hr ?_; (case hd => rfl); (case hg => rfl); (case hr => first | (go_simp; done) | (go_simp; rfl)); intro gb257 hg w37 hbox hb; have BK257 := Aside0.mk (hbox); have GW257 := Sq.gw HB hg; have GE257 := Sq.gw HB hg; replace HB := Sq.bs HB hb; clear hb hbox hg) | ((with_reducible refine gate_dst (N := 3) rfl ?_); refine box_event ?hg (N := 3) ?hd (cs := #[.bool a1_0, .slice A1_1 l1_1.length c1_1]) (t := 39) ?hr ?_; (case hd => rfl); (case hg => rfl); (case hr => first | (go_simp; done) | (go_simp; rfl)); intro gb258 hg w38 hbox hb; have BK258 := Aside0.mk (hbox); have GW258 := Sq.gw HB hg; have GE258 := Sq.gw HB hg; have NB257_258 := Sq.nl BK257 hg; have NB258_257 := Sq.ng BK257 hg; replace BK257 := Sq.bb BK257 hb; replace HB := Sq.bs HB hb; clear hb hbox hg) | ((with_reducible refine gate_dst (N := 4) rfl ?_); refine box_event ?hg (N := 4) ?hd (cs := #[.bool false, .slice none 0 0]) (t := 39) ?hr ?_; (case hd => rfl); (case hg => rfl); (case hr => first | (go_simp; done) | (go_simp; rfl)); intro gb259 hg w39 hbox hb; have BK259 := Aside0.mk (hbox); have GW259 := Sq.gw HB hg; have GE259 := Sq.gw HB hg; have NB257_259 := Sq.nl BK257 hg; have NB259_257 := Sq.ng BK257 hg; have NB258_259 := Sq.nl BK258 hg; have NB259_258 := Sq.ng BK258 hg; replace BK257 := Sq.bb BK257 hb; replace BK258 := Sq.bb BK258 hb; replace HB := Sq.bs HB hb; clear hb hbox hg; have hnb40 := NB257_258.out; have hnc40 := NB258_257.out; have hnb41 := NB257_259.out; have hnc41 := NB259_257.out; have hcz42_0 := Sq.bc BK257 0 (.bool a0_0); have hcz42_1 := Sq.bc BK257 1 (.slice A0_1 l0_1.length c0_1); have hfz42_0 := blk_frozen BK257.out 0; have hfz42_1 := blk_frozen BK257.out 1; have hnb43 := NB258_259.out; have hnc43 := NB259_258.out; have hcz44_0 := Sq.bc BK258 0 (.bool a1_0); have hcz44_1 := Sq.bc BK258 1 (.slice A1_1 l1_1.length c1_1); have hfz44_0 := blk_frozen BK258.out 0; have hfz44_1 := blk_frozen BK258.out 1) | (go_at_call 45; (with_reducible refine (nat_Sub.calls (fun k_ => k_ < w.heap.size) _ _ l0_1 _ _ l1_1 t267 t270 _ ?side1 ?side2 ?side3 A19.out).mono ?_); (case side1 => exact Kd.V_mk HC0_1.out (Kd.F_below (Kd.C_F (Kd.heap_int .u32) HR0_1.out) (Sq.bl HB))); (case side2 => exact Sq.ca (Kd.C_below HR1_1.out HB.out)); (case side3 => exact HC1_1.out); rintro e w45 ⟨v268, rfl, ho0, hb⟩; have HO269 := Aside0.mk (Kd.V_lower (Kd.V_mono (ok' := fun k_ => k_ ≠ gb257 ∧ k_ ≠ gb258 ∧ k_ ≠ gb259) ho0 (fun k_ hk_ => ⟨Or.elim hk_ (fun hs_ => fun e_ => Nat.not_le.2 hs_ (by rw [e_]; exact GW257.out)) (fun hn_ => (Sq.fb BK257 k_ hn_)), Or.elim hk_ (fun hs_ => fun e_ => Nat.not_le.2 hs_ (by rw [e_]; exact GW258.out)) (fun hn_ => (Sq.fb BK258 k_ hn_)), Or.elim hk_ (fun hs_ => fun e_ => Nat.not_le.2 hs_ (by rw [e_]; exact GW259.out)) (fun hn_ => (Sq.fb BK259 k_ hn_))⟩)) (below_size (Sq.bl HB))); replace BK257 := Sq.bb BK257 hb; replace BK258 := Sq.bb BK258 hb; replace BK259 := Sq.bb BK259 hb; replace HB := Sq.bs HB hb; (try clear hb); (try clear hb2); (try clear hk); (try clear hi); (try clear ho0); have hcz46_0 := Sq.bc BK258 0 (.bool a1_0); have hcz46_1 := Sq.bc BK258 1 (.slice A1_1 l1_1.length c1_1); have hfz46_0 := blk_frozen BK258.out 0; have hfz46_1 := blk_frozen BK258.out 1; have hcz47_0 := Sq.bc BK257 0 (.bool a0_0); have hcz47_1 := Sq.bc BK257 1 (.slice A0_1 l0_1.length c0_1); have hfz47_0 := blk_frozen BK257.out 0; have hfz47_1 := blk_frozen BK257.out 1) | (go_at_call 45; (with_reducible refine (nat_Sub.calls (fun k_ => k_ < w.heap.size) _ _ l1_1 _ _ l0_1 t275 t278 _ ?side1 ?side2 ?side3 A35.out).mono ?_); (case side1 => exact Kd.V_mk HC1_1.out (Kd.F_below (Kd.C_F (Kd.heap_int .u32) HR1_1.out) (Sq.bl HB))); (case side2 => exact Sq.ca (Kd.C_below HR0_1.out HB.out)); (case side3 => exact HC0_1.out); rintro e w48 ⟨v276, rfl, ho0, hb⟩; replace HO269 := Aside0.mk (Kd.V_below (Sq.al HO269) hb); have HO277 := Aside0.mk (Kd.V_lower (Kd.V_mono (ok' := fun k_ => k_ ≠ gb257 ∧ k_ ≠ gb258 ∧ k_ ≠ gb259) ho0 (fun k_ hk_ => ⟨Or.elim hk_ (fun hs_ => fun e_ => Nat.not_le.2 hs_ (by rw [e_]; exact GW257.out)) (fun hn_ => (Sq.fb BK257 k_ hn_)), Or.elim hk_ (fun hs_ => fun e_ => Nat.not_le.2 hs_ (by rw [e_]; exact GW258.out)) (fun hn_ => (Sq.fb BK258 k_ hn_)), Or.elim hk_ (fun hs_ => fun e_ => Nat.not_le.2 hs_ (by rw [e_]; exact GW259.out)) (fun hn_ => (Sq.fb BK259 k_ hn_))⟩)) (below_size (Sq.bl HB))); replace BK257 := Sq.bb BK257 hb; replace BK258 := Sq.bb BK258 hb; replace BK259 := Sq.bb BK259 hb; replace HB := Sq.bs HB hb; (try clear hb); (try clear hb2); (try clear hk); (try clear hi); (try clear ho0); obtain ⟨Ao49, co49, eo49⟩ := Kd.V_slice HO277.out; subst eo49) | (go_at_call 147; (with_reducible refine (integer_sign_with.calls a1_0 _ _ t275 t279 t280 _ ?side1 ?side2 A36.out).mono ?_); (case side1 => exact Sq.ca (Kd.V_reads' HO277.out).2.2); (case side2 => exact (Kd.V_reads' HO277.out).2.1); rintro e w50 ⟨v281, rfl, ho0, hb⟩; replace HO269 := Aside0.mk (Kd.V_elder' (Sq.al HO269) (Kd.R_base ho0) hb); replace HO277 := Aside0.mk (Kd.V_elder' (Sq.al HO277) (Kd.R_base ho0) hb); have HO282 := Aside0.mk (Kd.R_lower ho0 (below_size (Sq.bl HB))); replace BK257 := Sq.bb BK257 hb; replace BK258 := Sq.bb BK258 hb; replace BK259 := Sq.bb BK259 hb; replace HB := Sq.bs HB hb; (try clear hb); (try clear hb2); (try clear hk); (try clear hi); (try clear ho0); have hcz51_0 := Sq.bc BK259 0 (.bool false); have hcz51_1 := Sq.bc BK259 1 (.slice none 0 0); have hfz51_0 := blk_frozen BK259.out 0; have hfz51_1 := blk_frozen BK259.out 1; obtain ⟨Ao52, co52, eo52⟩ := Kd.R_slice HO282.out; subst eo52)); try go_wp2_with (first | ((with_reducible refine gate_dst (N := 2) rfl ?_); refine box_event ?hg (N := 2) ?hd (cs := #[.bool a0_0, .slice A0_1 l0_1.length c0_1]) (t := 39) ?hr ?_; (case hd => rfl); (case hg => rfl); (case hr => first | (go_simp; done) | (go_simp; rfl)); intro gb257 hg w37 hbox hb; have BK257 := Aside0.mk (hbox); have GW257 := Sq.gw HB hg; have GE257 := Sq.gw HB hg; replace HB := Sq.bs HB hb; clear hb hbox hg) | ((with_reducible refine gate_dst (N := 3) rfl ?_); refine box_event ?hg (N := 3) ?hd (cs := #[.bool a1_0, .slice A1_1 l1_1.length c1_1]) (t := 39) ?hr ?_; (case hd => rfl); (case hg => rfl); (case hr => first | (go_simp; done) | (go_simp; rfl)); intro gb258 hg w38 hbox hb; have BK258 := Aside0.mk (hbox); have GW258 := Sq.gw HB hg; have GE258 := Sq.gw HB hg; have NB257_258 := Sq.nl BK257 hg; have NB258_257 := Sq.ng BK257 hg; replace BK257 := Sq.bb BK257 hb; replace HB := Sq.bs HB hb; clear hb hbox hg) | ((with_reducible refine gate_dst (N := 4) rfl ?_); refine box_event ?hg (N := 4) ?hd (cs := #[.bool false, .slice none 0 0]) (t := 39) ?hr ?_; (case hd => rfl); (case hg => rfl); (case hr => first | (go_simp; done) | (go_simp; rfl)); intro gb259 hg w39 hbox hb; have BK259 := Aside0.mk (hbox); have GW259 := Sq.gw HB hg; have GE259 := Sq.gw HB hg; have NB257_259 := Sq.nl BK257 hg; have NB259_257 := Sq.ng BK257 hg; have NB258_259 := Sq.nl BK258 hg; have NB259_258 := Sq.ng BK258 hg; replace BK257 := Sq.bb BK257 hb; replace BK258 := Sq.bb BK258 hb; replace HB := Sq.bs HB hb; clear hb hbox hg; have hnb40 := NB257_258.out; have hnc40 := NB258_257.out; have hnb41 := NB257_259.out; have hnc41 := NB259_257.out; have hcz42_0 := Sq.bc BK257 0 (.bool a0_0); have hcz42_1 := Sq.bc BK257 1 (.slice A0_1 l0_1.length c0_1); have hfz42_0 := blk_frozen BK257.out 0; have hfz42_1 := blk_frozen BK257.out 1; have hnb43 := NB258_259.out; have hnc43 := NB259_258.out; have hcz44_0 := Sq.bc BK258 0 (.bool a1_0); have hcz44_1 := Sq.bc BK258 1 (.slice A1_1 l1_1.length c1_1); have hfz44_0 := blk_frozen BK258.out 0; have hfz44_1 := blk_frozen BK258.out 1) | (go_at_call 45; (with_reducible refine (nat_Sub.calls (fun k_ => k_ < w.heap.size) _ _ l0_1 _ _ l1_1 t267 t270 _ ?side1 ?side2 ?side3 A19.out).mono ?_); (case side1 => exact Kd.V_mk HC0_1.out (Kd.F_below (Kd.C_F (Kd.heap_int .u32) HR0_1.out) (Sq.bl HB))); (case side2 => exact Sq.ca (Kd.C_below HR1_1.out HB.out)); (case side3 => exact HC1_1.out); rintro e w45 ⟨v268, rfl, ho0, hb⟩; have HO269 := Aside0.mk (Kd.V_lower (Kd.V_mono (ok' := fun k_ => k_ ≠ gb257 ∧ k_ ≠ gb258 ∧ k_ ≠ gb259) ho0 (fun k_ hk_ => ⟨Or.elim hk_ (fun hs_ => fun e_ => Nat.not_le.2 hs_ (by rw [e_]; exact GW257.out)) (fun hn_ => (Sq.fb BK257 k_ hn_)), Or.elim hk_ (fun hs_ => fun e_ => Nat.not_le.2 hs_ (by rw [e_]; exact GW258.out)) (fun hn_ => (Sq.fb BK258 k_ hn_)), Or.elim hk_ (fun hs_ => fun e_ => Nat.not_le.2 hs_ (by rw [e_]; exact GW259.out)) (fun hn_ => (Sq.fb BK259 k_ hn_))⟩)) (below_size (Sq.bl HB))); replace BK257 := Sq.bb BK257 hb; replace BK258 := Sq.bb BK258 hb; replace BK259 := Sq.bb BK259 hb; replace HB := Sq.bs HB hb; (try clear hb); (try clear hb2); (try clear hk); (try clear hi); (try clear ho0); have hcz46_0 := Sq.bc BK258 0 (.bool a1_0); have hcz46_1 := Sq.bc BK258 1 (.slice A1_1 l1_1.length c1_1); have hfz46_0 := blk_frozen BK258.out 0; have hfz46_1 := blk_frozen BK258.out 1; have hcz47_0 := Sq.bc BK257 0 (.bool a0_0); have hcz47_1 := Sq.bc BK257 1 (.slice A0_1 l0_1.length c0_1); have hfz47_0 := blk_frozen BK257.out 0; have hfz47_1 := blk_frozen BK257.out 1) | (go_at_call 45; (with_reducible refine (nat_Sub.calls (fun k_ => k_ < w.heap.size) _ _ l1_1 _ _ l0_1 t275 t278 _ ?side1 ?side2 ?side3 A35.out).mono ?_); (case side1 => exact Kd.V_mk HC1_1.out (Kd.F_below (Kd.C_F (Kd.heap_int .u32) HR1_1.out) (Sq.bl HB))); (case side2 => exact Sq.ca (Kd.C_below HR0_1.out HB.out)); (case side3 => exact HC0_1.out); rintro e w48 ⟨v276, rfl, ho0, hb⟩; replace HO269 := Aside0.mk (Kd.V_below (Sq.al HO269) hb); have HO277 := Aside0.mk (Kd.V_lower (Kd.V_mono (ok' := fun k_ => k_ ≠ gb257 ∧ k_ ≠ gb258 ∧ k_ ≠ gb259) ho0 (fun k_ hk_ => ⟨Or.elim hk_ (fun hs_ => fun e_ => Nat.not_le.2 hs_ (by rw [e_]; exact GW257.out)) (fun hn_ => (Sq.fb BK257 k_ hn_)), Or.elim hk_ (fun hs_ => fun e_ => Nat.not_le.2 hs_ (by rw [e_]; exact GW258.out)) (fun hn_ => (Sq.fb BK258 k_ hn_)), Or.elim hk_ (fun hs_ => fun e_ => Nat.not_le.2 hs_ (by rw [e_]; exact GW259.out)) (fun hn_ => (Sq.fb BK259 k_ hn_))⟩)) (below_size (Sq.bl HB))); replace BK257 := Sq.bb BK257 hb; replace BK258 := Sq.bb BK258 hb; replace BK259 := Sq.bb BK259 hb; replace HB := Sq.bs HB hb; (try clear hb); (try clear hb2); (try clear hk); (try clear hi); (try clear ho0); obtain ⟨Ao49, co49, eo49⟩ := Kd.V_slice HO277.out; subst eo49) | (go_at_call 147; (with_reducible refine (integer_sign_with.calls a1_0 _ _ t275 t279 t280 _ ?side1 ?side2 A36.out).mono ?_); (case side1 => exact Sq.ca (Kd.V_reads' HO277.out).2.2); (case side2 => exact (Kd.V_reads' HO277.out).2.1); rintro e w50 ⟨v281, rfl, ho0, hb⟩; replace HO269 := Aside0.mk (Kd.V_elder' (Sq.al HO269) (Kd.R_base ho0) hb); replace HO277 := Aside0.mk (Kd.V_elder' (Sq.al HO277) (Kd.R_base ho0) hb); have HO282 := Aside0.mk (Kd.R_lower ho0 (below_size (Sq.bl HB))); replace BK257 := Sq.bb BK257 hb; replace BK258 := Sq.bb BK258 hb; replace BK259 := Sq.bb BK259 hb; replace HB := Sq.bs HB hb; (try clear hb); (try clear hb2); (try clear hk); (try clear hi); (try clear ho0); have hcz51_0 := Sq.bc BK259 0 (.bool false); have hcz51_1 := Sq.bc BK259 1 (.slice none 0 0); have hfz51_0 := blk_frozen BK259.out 0; have hfz51_1 := blk_frozen BK259.out 1; obtain ⟨Ao52, co52, eo52⟩ := Kd.R_slice HO282.out; subst eo52)))
   refine bodyPost_ret (results_cell_row rfl _ _ gb259 39 #[.bool t279, .slice Ao52 t280.length co52] (0, 0) _ rfl (by (with_reducible repeat (first | refine blk_drewN ?_ _ | refine blk_drew ?_ | refine blk_alloc ?_ _)); refine blk_put (cs := #[.bool t279, .slice none 0 0]) ?_ 1 _ rfl; (with_reducible repeat (first | refine blk_drewN ?_ _ | refine blk_drew ?_ | refine blk_alloc ?_ _)); refine blk_put (cs := #[.bool false, .slice none 0 0]) ?_ 0 _ rfl; (with_reducible repeat (first | refine blk_drewN ?_ _ | refine blk_drew ?_ | refine blk_alloc ?_ _)); exact BK259.out) Try.underlying39 rfl (by kernel_rfl)) rfl ?_
   exact ⟨_, by first | rfl | (simp [errW_none, errW_some] <;> rfl) | (simp [*, errW_none, errW_some] <;> rfl), by (with_reducible repeat (first | apply Kd.R_alloc | apply Kd.R_drewN | apply Kd.R_drew)); exact Kd.R_mono (Kd.R_far (p := ⟨gb259, 1, none⟩) (Kd.R_far (p := ⟨gb259, 0, none⟩) (Sq.rt HO282.out BK259) (fun _ hk => hk.2) (.bool t279)) (fun _ hk => hk.2) (.slice Ao52 t280.length co52)) (fun _ hk => trivial), Sq.bl HB⟩
def nat_Mul.f (l0 : List Int) (l1 : List Int) : Option (List Int) := if Nt.fits l0 ∧ Nt.fits l1 then some (Nt.ofN (Nt.val l0 * Nt.val l1)) else none
theorem nat_Mul.calls (A0 : Option Addr) (c0 : Nat) (l0 : List Int) (A1 : Option Addr) (c1 : Nat) (l1 : List Int) (r : List Int) (w : World) (hr0 : Kd.C (Kd.int .u32) w A0 l0.length l0) (hc0 : l0.length ≤ c0) (hr1 : Kd.C (Kd.int .u32) w A1 l1.length l1) (hc1 : l1.length ≤ c1) (h : nat_Mul.f l0 l1 = some r) :
  Calls Try.prog 43 #[.slice A0 l0.length c0, .slice A1 l1.length c1] w fun e w' => ∃ v0_ : Value, e = .returned (v0_) ∧ Kd.V (Kd.int .u32) 107 w' w.heap.size (fun k_ => (w.heap.size ≤ k_)) v0_ r ∧ Below w.heap.size w w' := by
 unfold nat_Mul.f at h
 split at h
 ·rename_i hf
  injection h with h
  subst h
  obtain ⟨K, hK⟩ := Nt.mul_ev hf.1.1 hf.2.1 (by have := hf.1.2; have := hf.2.2; omega)
  exact N.nat_Mul.calls K A0 c0 l0 A1 c1 l1 _ w hr0 hc0 hr1 hc1 (hK K (Nat.le_refl _))
 ·cases h
def integer_Mul.f (a0_0 : Bool) (l0_1 : List Int) (a1_0 : Bool) (l1_1 : List Int) : Option (Bool × List Int) := (nat_Mul.f l0_1 l1_1).bind fun t286 => ((integer_sign_with.f (a0_0 != a1_0) t286).bind fun bt289 => (some (bt289.1, bt289.2)))
def integer_Mul.T1 : Bool × List (List Nat × List Nat) := (true, [([], []), ([0], [0]), ([], []), ([2], [2]), ([1, 3], [1, 3]), ([], []), ([5], [5]), ([], []), ([7], [7]), ([6, 8], [6, 8]), ([4, 9, 9], [4, 9]), ([10, 10, 0, 1, 2, 3, 4, 5, 6, 7, 8, 9, 10], [10])])
def integer_Mul.B1 : List Nat := [0, 1, 0, 4, 15, 0, 32, 0, 128, 480, 1023, 2047]
theorem integer_Mul.tab1 : rtab .any (opsOf Try.f64 1) = integer_Mul.T1 := by kernel_rfl
theorem integer_Mul.bits1 : waitsOk integer_Mul.T1.2 integer_Mul.B1 = true := by kernel_rfl
set_option maxHeartbeats 8000000 in
set_option maxRecDepth 100000 in
theorem integer_Mul.calls (a0_0 : Bool) (A0_1 : Option Addr) (c0_1 : Nat) (l0_1 : List Int) (a1_0 : Bool) (A1_1 : Option Addr) (c1_1 : Nat) (l1_1 : List Int) (r1 : Bool) (r2 : List Int) (w : World) (hr0_1 : Kd.C (Kd.int .u32) w A0_1 l0_1.length l0_1) (hc0_1 : l0_1.length ≤ c0_1) (hr1_1 : Kd.C (Kd.int .u32) w A1_1 l1_1.length l1_1) (hc1_1 : l1_1.length ≤ c1_1) (h : integer_Mul.f a0_0 l0_1 a1_0 l1_1 = some (r1, r2)) :
  Calls Try.prog 64 #[.agg #[.bool a0_0, .slice A0_1 l0_1.length c0_1], .agg #[.bool a1_0, .slice A1_1 l1_1.length c1_1]] w fun e w' => ∃ v1_ : Value, e = .returned (.agg #[.bool r1, v1_]) ∧ Kd.R (Kd.int .u32) 107 w' w.heap.size (fun _ => True) v1_ r2 ∧ Below w.heap.size w w' := by
 have hu39 := Try.underlying39
 have HR0_1 := Aside0.mk hr0_1
 have HC0_1 := Aside0.mk hc0_1
 clear hr0_1 hc0_1
 have HR1_1 := Aside0.mk hr1_1
 have HC1_1 := Aside0.mk hc1_1
 clear hr1_1 hc1_1
 have HB := Aside0.mk (Below.refl w.heap.size w)
 have H : ((nat_Mul.f l0_1 l1_1).bind fun t286 => ((integer_sign_with.f (a0_0 != a1_0) t286).bind fun bt289 => (some (bt289.1, bt289.2)))) = some (r1, r2) := h
 clear h
 replace H := Sq.bd H
 obtain ⟨t286, A3, H⟩ := H
 (try dsimp -simprocs only at H)
 replace H := Sq.bd H
 obtain ⟨⟨t289, t290⟩, A4, H⟩ := H
 (try dsimp -simprocs only at H)
 simp only [Option.some.injEq, Prod.mk.injEq] at H
 obtain ⟨rfl, rfl⟩ := H
 go_enter Try.func64, Try.ntmps64
 try go_wp2_with (first | ((with_reducible refine gate_dst (N := 2) rfl ?_); refine box_event ?hg (N := 2) ?hd (cs := #[.bool a0_0, .slice A0_1 l0_1.length c0_1]) (t := 39) ?hr ?_; (case hd => rfl); (case hg => rfl); (case hr => first | (go_simp; done) | (go_simp; rfl)); intro gb283 hg w5 hbox hb; have BK283 := Aside0.mk (hbox); have GW283 := Sq.gw HB hg; have GE283 := Sq.gw HB hg; replace HB := Sq.bs HB hb; clear hb hbox hg) | ((with_reducible refine gate_dst (N := 3) rfl ?_); refine box_event ?hg (N := 3) ?hd (cs := #[.bool a1_0, .slice A1_1 l1_1.length c1_1]) (t := 39) ?hr ?_; (case hd => rfl); (case hg => rfl); (case hr => first | (go_simp; done) | (go_simp; rfl)); intro gb284 hg w6 hbox hb; have BK284 := Aside0.mk (hbox); have GW284 := Sq.gw HB hg; have GE284 := Sq.gw HB hg; have NB283_284 := Sq.nl BK283 hg; have NB284_283 := Sq.ng BK283 hg; replace BK283 := Sq.bb BK283 hb; replace HB := Sq.bs HB hb; clear hb hbox hg) | ((with_reducible refine gate_dst (N := 4) rfl ?_); refine box_event ?hg (N := 4) ?hd (cs := #[.bool false, .slice none 0 0]) (t := 39) ?hr ?_; (case hd => rfl); (case hg => rfl); (case hr => first | (go_simp; done) | (go_simp; rfl)); intro gb285 hg w7 hbox hb; have BK285 := Aside0.mk (hbox); have GW285 := Sq.gw HB hg; have GE285 := Sq.gw HB hg; have NB283_285 := Sq.nl BK283 hg; have NB285_283 := Sq.ng BK283 hg; have NB284_285 := Sq.nl BK284 hg; have NB285_284 := Sq.ng BK284 hg; replace BK283 := Sq.bb BK283 hb; replace BK284 := Sq.bb BK284 hb; replace HB := Sq.bs HB hb; clear hb hbox hg))
 replace BK283 := Aside0.mk (blk_drew BK283.out)
 replace BK284 := Aside0.mk (blk_drew BK284.out)
 replace BK285 := Aside0.mk (blk_drew BK285.out)
 replace HB := Aside0.mk (below_drew1 HB.out)
 refine start_ (n := 12) (S := fun w' => w'.cell? ⟨gb283, 0, none⟩ = some (.bool a0_0) ∧ w'.cell? ⟨gb283, 1, none⟩ = some (.slice A0_1 l0_1.length c0_1) ∧ w'.cell? ⟨gb284, 0, none⟩ = some (.bool a1_0) ∧ w'.cell? ⟨gb284, 1, none⟩ = some (.slice A1_1 l1_1.length c1_1)) (ds := []) #[false, false, false, false, false, false, false, false, false, false, false, false] (by kernel_rfl) rfl rfl ⟨(blk_cell BK283.out 0).trans rfl, (blk_cell BK283.out 1).trans rfl, (blk_cell BK284.out 0).trans rfl, (blk_cell BK284.out 1).trans rfl⟩ (fun hHeld => ?_); refine with_tabW integer_Mul.tab1 integer_Mul.bits1 (fun HT_ HW_ => ?_)
 generalize w7.drew = w8 at BK283 BK284 BK285 HB hHeld ⊢
 refine Sq.pu (v := ?_) (a' := ?_) 0 (some 5) #[true, false, false, false, false, false, false, false, false, false, false, false] HT_ ?_ ?_ ?_
 rotate_left
 ·intro w'
  go_simp
  with_reducible rfl
 rotate_left
 ·simp only [Act.put, List.setIfInBounds_toArray, List.set_cons_zero, List.set_cons_succ, i64_w, i32_w]
  rfl
 refine Sq.pu (v := ?_) (a' := ?_) 2 (some 7) #[true, false, true, false, false, false, false, false, false, false, false, false] HT_ ?_ ?_ ?_
 rotate_left
 ·intro w'
  go_simp
  with_reducible rfl
 rotate_left
 ·simp only [Act.put, List.setIfInBounds_toArray, List.set_cons_zero, List.set_cons_succ, i64_w, i32_w]
  rfl
 refine Sq.pu (v := ?_) (a' := ?_) 5 (some 10) #[true, false, true, false, false, true, false, false, false, false, false, false] HT_ ?_ ?_ ?_
 rotate_left
 ·intro w'
  go_simp
  with_reducible rfl
 rotate_left
 ·simp only [Act.put, List.setIfInBounds_toArray, List.set_cons_zero, List.set_cons_succ, i64_w, i32_w]
  rfl
 refine Sq.pu (v := ?_) (a' := ?_) 7 (some 12) #[true, false, true, false, false, true, false, true, false, false, false, false] HT_ ?_ ?_ ?_
 rotate_left
 ·intro w'
  go_simp
  with_reducible rfl
 rotate_left
 ·simp only [Act.put, List.setIfInBounds_toArray, List.set_cons_zero, List.set_cons_succ, i64_w, i32_w]
  rfl
 refine Sq.tk (v := ?_) (a' := ?_) 1 (some 6) #[true, true, true, false, false, true, false, true, false, false, false, false] HT_ HW_ hHeld ?_ ?_ ?_
 rotate_left
 ·rintro w' ⟨s0, s1, s2, s3⟩
  go_simp
  with_reducible rfl
 rotate_left
 ·simp only [Act.put, List.setIfInBounds_toArray, List.set_cons_zero, List.set_cons_succ, i64_w, i32_w]
  rfl
 refine Sq.tk (v := ?_) (a' := ?_) 3 (some 8) #[true, true, true, true, false, true, false, true, false, false, false, false] HT_ HW_ hHeld ?_ ?_ ?_
 rotate_left
 ·rintro w' ⟨s0, s1, s2, s3⟩
  go_simp
  with_reducible rfl
 rotate_left
 ·simp only [Act.put, List.setIfInBounds_toArray, List.set_cons_zero, List.set_cons_succ, i64_w, i32_w]
  rfl
 refine Sq.pu (v := ?_) (a' := ?_) 4 (some 9) #[true, true, true, true, true, true, false, true, false, false, false, false] HT_ ?_ ?_ ?_
 rotate_left
 ·intro w'
  go_simp
  with_reducible rfl
 rotate_left
 ·simp only [Act.put, List.setIfInBounds_toArray, List.set_cons_zero, List.set_cons_succ, i64_w, i32_w]
  rfl
 refine Sq.tk (v := ?_) (a' := ?_) 6 (some 11) #[true, true, true, true, true, true, true, true, false, false, false, false] HT_ HW_ hHeld ?_ ?_ ?_
 rotate_left
 ·rintro w' ⟨s0, s1, s2, s3⟩
  go_simp
  with_reducible rfl
 rotate_left
 ·simp only [Act.put, List.setIfInBounds_toArray, List.set_cons_zero, List.set_cons_succ, i64_w, i32_w]
  rfl
 refine Sq.tk (v := ?_) (a' := ?_) 8 (some 13) #[true, true, true, true, true, true, true, true, true, false, false, false] HT_ HW_ hHeld ?_ ?_ ?_
 rotate_left
 ·rintro w' ⟨s0, s1, s2, s3⟩
  go_simp
  with_reducible rfl
 rotate_left
 ·simp only [Act.put, List.setIfInBounds_toArray, List.set_cons_zero, List.set_cons_succ, i64_w, i32_w]
  rfl
 refine one_ (i := 9) (N := some 14) #[true, true, true, true, true, true, true, true, true, true, false, false] rfl rfl (one_of HT_.out (by kernel_rfl)) (by decide) (fun K hK => ?_)
 refine goes_ Try.func43 (by kernel_rfl) rfl #[.slice A0_1 l0_1.length c0_1, .slice A1_1 l1_1.length c1_1] (by rfl) rfl rfl (by (try simp only [List.map_toArray, List.map_cons, List.map_nil]); first | done | rfl | (simp only [List.length_drop, List.length_take]; rfl)) ?_
 with_reducible refine (nat_Mul.calls _ _ l0_1 _ _ l1_1 t286 _ ?side1 ?side2 ?side3 ?side4 A3.out).mono ?_
 (case side1 => exact Sq.ca (Kd.C_below HR0_1.out HB.out))
 (case side2 => exact HC0_1.out)
 (case side3 => exact Sq.ca (Kd.C_below HR1_1.out HB.out))
 (case side4 => exact HC1_1.out)
 rintro e w9 ⟨v287, rfl, ho0, hb⟩
 refine ⟨_, rfl, ?_⟩
 have HO288 := Aside0.mk (Kd.V_lower (Kd.V_mono (ok' := fun k_ => k_ ≠ gb283 ∧ k_ ≠ gb284 ∧ k_ ≠ gb285) ho0 (fun k_ hk_ => ⟨(Sq.fb BK283 k_ hk_), (Sq.fb BK284 k_ hk_), (Sq.fb BK285 k_ hk_)⟩)) (below_size (Sq.bl HB)))
 replace BK283 := Sq.bb BK283 hb
 replace BK284 := Sq.bb BK284 hb
 replace BK285 := Sq.bb BK285 hb
 replace HB := Sq.bs HB hb
 (try clear hb)
 (try clear hb2)
 (try clear hk)
 (try clear hi)
 (try clear ho0)
 obtain ⟨Ao10, co10, eo10⟩ := Kd.V_slice HO288.out
 (first | subst eo10 | (injection eo10 with f1_ f2_ f3_; have f4_ := f1_.symm; have f5_ := f3_.symm; clear f1_ f2_ f3_; subst f4_; subst f5_))
 refine hK.out _ _ ⟨(blk_cell BK283.out 0).trans rfl, (blk_cell BK283.out 1).trans rfl, (blk_cell BK284.out 0).trans rfl, (blk_cell BK284.out 1).trans rfl⟩ (fun hHeld => ?_)
 clear hK K
 refine norm_ (a' := ?_) ?_ ?_
 rotate_left
 ·show Act.put _ (some 14) _ = _
  simp only [Act.put, List.setIfInBounds_toArray, List.set_cons_zero, List.set_cons_succ, i64_w, i32_w]
  rfl
 refine one_ (i := 10) (N := some 15) #[true, true, true, true, true, true, true, true, true, true, true, false] rfl rfl (one_of HT_.out (by kernel_rfl)) (by decide) (fun K hK => ?_)
 refine goes_ Try.func147 (by kernel_rfl) rfl #[.bool (a0_0 != a1_0), .slice Ao10 t286.length co10] (by rfl) rfl rfl (by (try simp only [List.map_toArray, List.map_cons, List.map_nil]); first | done | rfl | (simp only [List.length_drop, List.length_take]; rfl)) ?_
 with_reducible refine (integer_sign_with.calls (a0_0 != a1_0) _ _ t286 t289 t290 _ ?side1 ?side2 A4.out).mono ?_
 (case side1 => exact Sq.ca (Kd.V_reads' HO288.out).2.2)
 (case side2 => exact (Kd.V_reads' HO288.out).2.1)
 rintro e w11 ⟨v291, rfl, ho0, hb⟩
 refine ⟨_, rfl, ?_⟩
 replace HO288 := Aside0.mk (Kd.V_elder' (Sq.al HO288) (Kd.R_base ho0) hb)
 have HO292 := Aside0.mk (Kd.R_lower ho0 (below_size (Sq.bl HB)))
 replace BK283 := Sq.bb BK283 hb
 replace BK284 := Sq.bb BK284 hb
 replace BK285 := Sq.bb BK285 hb
 replace HB := Sq.bs HB hb
 (try clear hb)
 (try clear hb2)
 (try clear hk)
 (try clear hi)
 (try clear ho0)
 obtain ⟨Ao13, co13, eo13⟩ := Kd.R_slice HO292.out
 (first | subst eo13 | (injection eo13 with f1_ f2_ f3_; have f4_ := f1_.symm; have f5_ := f3_.symm; clear f1_ f2_ f3_; subst f4_; subst f5_))
 refine hK.out _ _ ⟨(blk_cell BK283.out 0).trans rfl, (blk_cell BK283.out 1).trans rfl, (blk_cell BK284.out 0).trans rfl, (blk_cell BK284.out 1).trans rfl⟩ (fun hHeld => ?_)
 clear hK K
 refine norm_ (a' := ?_) ?_ ?_
 rotate_left
 ·show Act.put _ (some 15) _ = _
  simp only [Act.put, List.setIfInBounds_toArray, List.set_cons_zero, List.set_cons_succ, i64_w, i32_w]
  rfl
 refine one_ (i := 11) (N := none) #[true, true, true, true, true, true, true, true, true, true, true, true] rfl rfl (one_of HT_.out (by kernel_rfl)) (by decide) (fun K hK => ?_)
 have hs12 : w11.cell? ⟨gb285, 0, none⟩ = some (.bool false) := (blk_cell BK285.out 0).trans rfl
 have hfs12 := blk_frozen BK285.out 0
 have hns12_0 := NB283_285.out
 have hns12_1 := NB284_285.out
 have hms12_0 := NB285_283.out
 have hms12_1 := NB285_284.out
 have hs14 : w11.cell? ⟨gb285, 1, none⟩ = some (.slice none 0 0) := (blk_cell BK285.out 1).trans rfl
 have hfs14 := blk_frozen BK285.out 1
 have hns14_0 := NB283_285.out
 have hns14_1 := NB284_285.out
 have hms14_0 := NB285_283.out
 have hms14_1 := NB285_284.out
 refine skip_ (w1 := ?_) (by rfl) rfl ?_ ?_
 rotate_left
 ·go_simp
  rfl
 refine hK.out _ _ ⟨((cell_far (p := ⟨gb285, _, none⟩) NB283_285.out _).trans (((cell_far (p := ⟨gb285, _, none⟩) NB283_285.out _).trans (hHeld.1)))), ((cell_far (p := ⟨gb285, _, none⟩) NB283_285.out _).trans (((cell_far (p := ⟨gb285, _, none⟩) NB283_285.out _).trans (hHeld.2.1)))), ((cell_far (p := ⟨gb285, _, none⟩) NB284_285.out _).trans (((cell_far (p := ⟨gb285, _, none⟩) NB284_285.out _).trans (hHeld.2.2.1)))), ((cell_far (p := ⟨gb285, _, none⟩) NB284_285.out _).trans (((cell_far (p := ⟨gb285, _, none⟩) NB284_285.out _).trans (hHeld.2.2.2))))⟩ (fun hHeld => ?_)
 clear hK K
 refine done_ (done_of HT_.out (by kernel_rfl)) ?_
 try go_wp2
 refine bodyPost_ret (results_cell_row rfl _ _ gb285 39 #[.bool t289, .slice Ao13 t290.length co13] (0, 0) _ rfl (by (with_reducible repeat (first | refine blk_drewN ?_ _ | refine blk_drew ?_ | refine blk_alloc ?_ _)); refine blk_put (cs := #[.bool t289, .slice none 0 0]) ?_ 1 _ rfl; (with_reducible repeat (first | refine blk_drewN ?_ _ | refine blk_drew ?_ | refine blk_alloc ?_ _)); refine blk_put (cs := #[.bool false, .slice none 0 0]) ?_ 0 _ rfl; (with_reducible repeat (first | refine blk_drewN ?_ _ | refine blk_drew ?_ | refine blk_alloc ?_ _)); exact BK285.out) Try.underlying39 rfl (by kernel_rfl)) rfl ?_
 exact ⟨_, by first | rfl | (simp [errW_none, errW_some] <;> rfl) | (simp [*, errW_none, errW_some] <;> rfl), by (with_reducible repeat (first | apply Kd.R_alloc | apply Kd.R_drewN | apply Kd.R_drew)); exact Kd.R_mono (Kd.R_far (p := ⟨gb285, 1, none⟩) (Kd.R_far (p := ⟨gb285, 0, none⟩) (Sq.rt HO292.out BK285) (fun _ hk => hk.2) (.bool t289)) (fun _ hk => hk.2) (.slice Ao13 t290.length co13)) (fun _ hk => trivial), Sq.bl HB⟩
def integer_Neg.f (a0_0 : Bool) (l0_1 : List Int) : Option (Bool × List Int) := (integer_sign_with.f (!a0_0) l0_1).bind fun bt295 => (some (bt295.1, bt295.2))
set_option maxHeartbeats 8000000 in
set_option maxRecDepth 100000 in
theorem integer_Neg.calls (a0_0 : Bool) (A0_1 : Option Addr) (c0_1 : Nat) (l0_1 : List Int) (r1 : Bool) (r2 : List Int) (w : World) (hr0_1 : Kd.C (Kd.int .u32) w A0_1 l0_1.length l0_1) (hc0_1 : l0_1.length ≤ c0_1) (h : integer_Neg.f a0_0 l0_1 = some (r1, r2)) :
  Calls Try.prog 67 #[.agg #[.bool a0_0, .slice A0_1 l0_1.length c0_1]] w fun e w' => ∃ v1_ : Value, e = .returned (.agg #[.bool r1, v1_]) ∧ Kd.R (Kd.int .u32) 107 w' w.heap.size (fun _ => True) v1_ r2 ∧ Below w.heap.size w w' := by
 have hu39 := Try.underlying39
 have HR0_1 := Aside0.mk hr0_1
 have HC0_1 := Aside0.mk hc0_1
 clear hr0_1 hc0_1
 have HB := Aside0.mk (Below.refl w.heap.size w)
 have H : ((integer_sign_with.f (!a0_0) l0_1).bind fun bt295 => (some (bt295.1, bt295.2))) = some (r1, r2) := h
 clear h
 replace H := Sq.bd H
 obtain ⟨⟨t295, t296⟩, A2, H⟩ := H
 (try dsimp -simprocs only at H)
 simp only [Option.some.injEq, Prod.mk.injEq] at H
 obtain ⟨rfl, rfl⟩ := H
 go_enter Try.func67, Try.ntmps67
 go_wp2_with (first | ((with_reducible refine gate_dst (N := 1) rfl ?_); refine box_event ?hg (N := 1) ?hd (cs := #[.bool a0_0, .slice A0_1 l0_1.length c0_1]) (t := 39) ?hr ?_; (case hd => rfl); (case hg => rfl); (case hr => first | (go_simp; done) | (go_simp; rfl)); intro gb293 hg w3 hbox hb; have BK293 := Aside0.mk (hbox); have GW293 := Sq.gw HB hg; have GE293 := Sq.gw HB hg; replace HB := Sq.bs HB hb; clear hb hbox hg) | ((with_reducible refine gate_dst (N := 2) rfl ?_); refine box_event ?hg (N := 2) ?hd (cs := #[.bool false, .slice none 0 0]) (t := 39) ?hr ?_; (case hd => rfl); (case hg => rfl); (case hr => first | (go_simp; done) | (go_simp; rfl)); intro gb294 hg w4 hbox hb; have BK294 := Aside0.mk (hbox); have GW294 := Sq.gw HB hg; have GE294 := Sq.gw HB hg; have NB293_294 := Sq.nl BK293 hg; have NB294_293 := Sq.ng BK293 hg; replace BK293 := Sq.bb BK293 hb; replace HB := Sq.bs HB hb; clear hb hbox hg; have hnb5 := NB293_294.out; have hnc5 := NB294_293.out; have hcz6_0 := Sq.bc BK293 0 (.bool a0_0); have hcz6_1 := Sq.bc BK293 1 (.slice A0_1 l0_1.length c0_1); have hfz6_0 := blk_frozen BK293.out 0; have hfz6_1 := blk_frozen BK293.out 1) | ((with_reducible refine gate_callee (f := 147) rfl ?_); refine Sq.gl (some 8) Try.func147 #[.bool (!a0_0), .slice A0_1 l0_1.length c0_1] ?_; (with_reducible refine (integer_sign_with.calls (!a0_0) _ _ l0_1 t295 t296 _ ?side1 ?side2 A2.out).mono ?_); (case side1 => exact Sq.ca (Kd.C_below HR0_1.out HB.out)); (case side2 => exact HC0_1.out); rintro e w7 ⟨v297, rfl, ho0, hb⟩; refine ⟨_, rfl, ?_⟩; have HO298 := Aside0.mk (Kd.R_lower ho0 (below_size (Sq.bl HB))); replace BK293 := Sq.bb BK293 hb; replace BK294 := Sq.bb BK294 hb; replace HB := Sq.bs HB hb; (try clear hb); (try clear hb2); (try clear hk); (try clear hi); (try clear ho0); have hcz8_0 := Sq.bc BK294 0 (.bool false); have hcz8_1 := Sq.bc BK294 1 (.slice none 0 0); have hfz8_0 := blk_frozen BK294.out 0; have hfz8_1 := blk_frozen BK294.out 1; obtain ⟨Ao9, co9, eo9⟩ := Kd.R_slice HO298.out; subst eo9))
 refine bodyPost_ret (results_cell_row rfl _ _ gb294 39 #[.bool t295, .slice Ao9 t296.length co9] (0, 0) _ rfl (by (with_reducible repeat (first | refine blk_drewN ?_ _ | refine blk_drew ?_ | refine blk_alloc ?_ _)); refine blk_put (cs := #[.bool t295, .slice none 0 0]) ?_ 1 _ rfl; (with_reducible repeat (first | refine blk_drewN ?_ _ | refine blk_drew ?_ | refine blk_alloc ?_ _)); refine blk_put (cs := #[.bool false, .slice none 0 0]) ?_ 0 _ rfl; (with_reducible repeat (first | refine blk_drewN ?_ _ | refine blk_drew ?_ | refine blk_alloc ?_ _)); exact BK294.out) Try.underlying39 rfl (by kernel_rfl)) rfl ?_
 exact ⟨_, by first | rfl | (simp [errW_none, errW_some] <;> rfl) | (simp [*, errW_none, errW_some] <;> rfl), by (with_reducible repeat (first | apply Kd.R_alloc | apply Kd.R_drewN | apply Kd.R_drew)); exact Kd.R_mono (Kd.R_far (p := ⟨gb294, 1, none⟩) (Kd.R_far (p := ⟨gb294, 0, none⟩) (Sq.rt HO298.out BK294) (fun _ hk => hk.2) (.bool t295)) (fun _ hk => hk.2) (.slice Ao9 t296.length co9)) (fun _ hk => trivial), Sq.bl HB⟩
def integer_Sub.f (a0_0 : Bool) (l0_1 : List Int) (a1_0 : Bool) (l1_1 : List Int) : Option (Bool × List Int) := (integer_Neg.f a1_0 l1_1).bind fun bt302 => ((integer_Add.f a0_0 l0_1 bt302.1 bt302.2).bind fun bt306 => (some (bt306.1, bt306.2)))
set_option maxHeartbeats 8000000 in
set_option maxRecDepth 100000 in
theorem integer_Sub.calls (a0_0 : Bool) (A0_1 : Option Addr) (c0_1 : Nat) (l0_1 : List Int) (a1_0 : Bool) (A1_1 : Option Addr) (c1_1 : Nat) (l1_1 : List Int) (r1 : Bool) (r2 : List Int) (w : World) (hr0_1 : Kd.C (Kd.int .u32) w A0_1 l0_1.length l0_1) (hc0_1 : l0_1.length ≤ c0_1) (hr1_1 : Kd.C (Kd.int .u32) w A1_1 l1_1.length l1_1) (hc1_1 : l1_1.length ≤ c1_1) (h : integer_Sub.f a0_0 l0_1 a1_0 l1_1 = some (r1, r2)) :
  Calls Try.prog 65 #[.agg #[.bool a0_0, .slice A0_1 l0_1.length c0_1], .agg #[.bool a1_0, .slice A1_1 l1_1.length c1_1]] w fun e w' => ∃ v1_ : Value, e = .returned (.agg #[.bool r1, v1_]) ∧ Kd.R (Kd.int .u32) 107 w' w.heap.size (fun _ => True) v1_ r2 ∧ Below w.heap.size w w' := by
 have hu39 := Try.underlying39
 have HR0_1 := Aside0.mk hr0_1
 have HC0_1 := Aside0.mk hc0_1
 clear hr0_1 hc0_1
 have HR1_1 := Aside0.mk hr1_1
 have HC1_1 := Aside0.mk hc1_1
 clear hr1_1 hc1_1
 have HB := Aside0.mk (Below.refl w.heap.size w)
 have H : ((integer_Neg.f a1_0 l1_1).bind fun bt302 => ((integer_Add.f a0_0 l0_1 bt302.1 bt302.2).bind fun bt306 => (some (bt306.1, bt306.2)))) = some (r1, r2) := h
 clear h
 replace H := Sq.bd H
 obtain ⟨⟨t302, t303⟩, A3, H⟩ := H
 (try dsimp -simprocs only at H)
 replace H := Sq.bd H
 obtain ⟨⟨t306, t307⟩, A4, H⟩ := H
 (try dsimp -simprocs only at H)
 simp only [Option.some.injEq, Prod.mk.injEq] at H
 obtain ⟨rfl, rfl⟩ := H
 go_enter Try.func65, Try.ntmps65
 try go_wp2_with (first | ((with_reducible refine gate_dst (N := 2) rfl ?_); refine box_event ?hg (N := 2) ?hd (cs := #[.bool a0_0, .slice A0_1 l0_1.length c0_1]) (t := 39) ?hr ?_; (case hd => rfl); (case hg => rfl); (case hr => first | (go_simp; done) | (go_simp; rfl)); intro gb299 hg w5 hbox hb; have BK299 := Aside0.mk (hbox); have GW299 := Sq.gw HB hg; have GE299 := Sq.gw HB hg; replace HB := Sq.bs HB hb; clear hb hbox hg) | ((with_reducible refine gate_dst (N := 3) rfl ?_); refine box_event ?hg (N := 3) ?hd (cs := #[.bool a1_0, .slice A1_1 l1_1.length c1_1]) (t := 39) ?hr ?_; (case hd => rfl); (case hg => rfl); (case hr => first | (go_simp; done) | (go_simp; rfl)); intro gb300 hg w6 hbox hb; have BK300 := Aside0.mk (hbox); have GW300 := Sq.gw HB hg; have GE300 := Sq.gw HB hg; have NB299_300 := Sq.nl BK299 hg; have NB300_299 := Sq.ng BK299 hg; replace BK299 := Sq.bb BK299 hb; replace HB := Sq.bs HB hb; clear hb hbox hg) | ((with_reducible refine gate_dst (N := 4) rfl ?_); refine box_event ?hg (N := 4) ?hd (cs := #[.bool false, .slice none 0 0]) (t := 39) ?hr ?_; (case hd => rfl); (case hg => rfl); (case hr => first | (go_simp; done) | (go_simp; rfl)); intro gb301 hg w7 hbox hb; have BK301 := Aside0.mk (hbox); have GW301 := Sq.gw HB hg; have GE301 := Sq.gw HB hg; have NB299_301 := Sq.nl BK299 hg; have NB301_299 := Sq.ng BK299 hg; have NB300_301 := Sq.nl BK300 hg; have NB301_300 := Sq.ng BK300 hg; replace BK299 := Sq.bb BK299 hb; replace BK300 := Sq.bb BK300 hb; replace HB := Sq.bs HB hb; clear hb hbox hg))
 replace BK299 := Aside0.mk (blk_drew BK299.out)
 replace BK300 := Aside0.mk (blk_drew BK300.out)
 replace BK301 := Aside0.mk (blk_drew BK301.out)
 replace HB := Aside0.mk (below_drew1 HB.out)
 refine start_ (n := 5) (S := fun w' => w'.cell? ⟨gb299, 0, none⟩ = some (.bool a0_0) ∧ w'.cell? ⟨gb299, 1, none⟩ = some (.slice A0_1 l0_1.length c0_1) ∧ w'.cell? ⟨gb300, 0, none⟩ = some (.bool a1_0) ∧ w'.cell? ⟨gb300, 1, none⟩ = some (.slice A1_1 l1_1.length c1_1)) (ds := []) #[false, false, false, false, false] (by kernel_rfl) rfl rfl ⟨(blk_cell BK299.out 0).trans rfl, (blk_cell BK299.out 1).trans rfl, (blk_cell BK300.out 0).trans rfl, (blk_cell BK300.out 1).trans rfl⟩ (fun hHeld => ?_)
 generalize w7.drew = w8 at BK299 BK300 BK301 HB hHeld ⊢
 refine take_ (i := 0) (N := some 5) (v := ?_) (a' := ?_) #[true, false, false, false, false] rfl rfl (by kernel_rfl) (fun _ _ _ h => h) (Or.inl ⟨by rfl, ?_⟩) hHeld ?_ ?_
 rotate_left
 ·rintro w' ⟨s0, s1, s2, s3⟩
  go_simp
  with_reducible rfl
 rotate_left
 ·simp only [Act.put, List.setIfInBounds_toArray, List.set_cons_zero, List.set_cons_succ, i64_w, i32_w]
  rfl
 refine take_ (i := 1) (N := some 6) (v := ?_) (a' := ?_) #[true, true, false, false, false] rfl rfl (by kernel_rfl) (fun _ _ _ h => h) (Or.inl ⟨by rfl, ?_⟩) hHeld ?_ ?_
 rotate_left
 ·rintro w' ⟨s0, s1, s2, s3⟩
  go_simp
  with_reducible rfl
 rotate_left
 ·simp only [Act.put, List.setIfInBounds_toArray, List.set_cons_zero, List.set_cons_succ, i64_w, i32_w]
  rfl
 refine one_ (i := 2) (N := some 7) #[true, true, true, false, false] rfl rfl (by kernel_rfl) (by decide) (fun K hK => ?_)
 refine goes_ Try.func67 (by kernel_rfl) rfl #[.agg #[.bool a1_0, .slice A1_1 l1_1.length c1_1]] (by rfl) rfl rfl (by (try simp only [List.map_toArray, List.map_cons, List.map_nil]); first | done | rfl | (simp only [List.length_drop, List.length_take]; rfl)) ?_
 with_reducible refine (integer_Neg.calls a1_0 _ _ l1_1 t302 t303 _ ?side1 ?side2 A3.out).mono ?_
 (case side1 => exact Sq.ca (Kd.C_below HR1_1.out HB.out))
 (case side2 => exact HC1_1.out)
 rintro e w9 ⟨v304, rfl, ho0, hb⟩
 refine ⟨_, rfl, ?_⟩
 have HO305 := Aside0.mk (Kd.R_lower ho0 (below_size (Sq.bl HB)))
 replace BK299 := Sq.bb BK299 hb
 replace BK300 := Sq.bb BK300 hb
 replace BK301 := Sq.bb BK301 hb
 replace HB := Sq.bs HB hb
 (try clear hb)
 (try clear hb2)
 (try clear hk)
 (try clear hi)
 (try clear ho0)
 obtain ⟨Ao10, co10, eo10⟩ := Kd.R_slice HO305.out
 (first | subst eo10 | (injection eo10 with f1_ f2_ f3_; have f4_ := f1_.symm; have f5_ := f3_.symm; clear f1_ f2_ f3_; subst f4_; subst f5_))
 refine hK.out _ _ ⟨(blk_cell BK299.out 0).trans rfl, (blk_cell BK299.out 1).trans rfl, (blk_cell BK300.out 0).trans rfl, (blk_cell BK300.out 1).trans rfl⟩ (fun hHeld => ?_)
 clear hK K
 refine norm_ (a' := ?_) ?_ ?_
 rotate_left
 ·show Act.put _ (some 7) _ = _
  simp only [Act.put, List.setIfInBounds_toArray, List.set_cons_zero, List.set_cons_succ, i64_w, i32_w]
  rfl
 refine one_ (i := 3) (N := some 8) #[true, true, true, true, false] rfl rfl (by kernel_rfl) (by decide) (fun K hK => ?_)
 refine goes_ Try.func63 (by kernel_rfl) rfl #[.agg #[.bool a0_0, .slice A0_1 l0_1.length c0_1], .agg #[.bool t302, .slice Ao10 t303.length co10]] (by rfl) rfl rfl (by (try simp only [List.map_toArray, List.map_cons, List.map_nil]); first | done | rfl | (simp only [List.length_drop, List.length_take]; rfl)) ?_
 with_reducible refine (integer_Add.calls a0_0 _ _ l0_1 t302 _ _ t303 t306 t307 _ ?side1 ?side2 ?side3 ?side4 A4.out).mono ?_
 (case side1 => exact Sq.ca (Kd.C_below HR0_1.out HB.out))
 (case side2 => exact HC0_1.out)
 (case side3 => exact Sq.ca (Kd.R_reads' HO305.out).2.2)
 (case side4 => exact (Kd.R_reads' HO305.out).2.1)
 rintro e w11 ⟨v308, rfl, ho0, hb⟩
 refine ⟨_, rfl, ?_⟩
 have HO309 := Aside0.mk (Kd.R_lower (Kd.R_new' ho0 (Kd.R_lt (Sq.al HO305))) (below_size (Sq.bl HB)))
 replace BK299 := Sq.bb BK299 hb
 replace BK300 := Sq.bb BK300 hb
 replace BK301 := Sq.bb BK301 hb
 replace HO305 := Aside0.mk (Kd.R_elder' (Sq.al HO305) (Kd.R_base ho0) hb)
 replace HB := Sq.bs HB hb
 (try clear hb)
 (try clear hb2)
 (try clear hk)
 (try clear hi)
 (try clear ho0)
 obtain ⟨Ao13, co13, eo13⟩ := Kd.R_slice HO309.out
 (first | subst eo13 | (injection eo13 with f1_ f2_ f3_; have f4_ := f1_.symm; have f5_ := f3_.symm; clear f1_ f2_ f3_; subst f4_; subst f5_))
 refine hK.out _ _ ⟨(blk_cell BK299.out 0).trans rfl, (blk_cell BK299.out 1).trans rfl, (blk_cell BK300.out 0).trans rfl, (blk_cell BK300.out 1).trans rfl⟩ (fun hHeld => ?_)
 clear hK K
 refine norm_ (a' := ?_) ?_ ?_
 rotate_left
 ·show Act.put _ (some 8) _ = _
  simp only [Act.put, List.setIfInBounds_toArray, List.set_cons_zero, List.set_cons_succ, i64_w, i32_w]
  rfl
 refine one_ (i := 4) (N := none) #[true, true, true, true, true] rfl rfl (by kernel_rfl) (by decide) (fun K hK => ?_)
 have hs12 : w11.cell? ⟨gb301, 0, none⟩ = some (.bool false) := (blk_cell BK301.out 0).trans rfl
 have hfs12 := blk_frozen BK301.out 0
 have hns12_0 := NB299_301.out
 have hns12_1 := NB300_301.out
 have hms12_0 := NB301_299.out
 have hms12_1 := NB301_300.out
 have hs14 : w11.cell? ⟨gb301, 1, none⟩ = some (.slice none 0 0) := (blk_cell BK301.out 1).trans rfl
 have hfs14 := blk_frozen BK301.out 1
 have hns14_0 := NB299_301.out
 have hns14_1 := NB300_301.out
 have hms14_0 := NB301_299.out
 have hms14_1 := NB301_300.out
 refine skip_ (w1 := ?_) (by rfl) rfl ?_ ?_
 rotate_left
 ·go_simp
  rfl
 refine hK.out _ _ ⟨((cell_far (p := ⟨gb301, _, none⟩) NB299_301.out _).trans (((cell_far (p := ⟨gb301, _, none⟩) NB299_301.out _).trans (hHeld.1)))), ((cell_far (p := ⟨gb301, _, none⟩) NB299_301.out _).trans (((cell_far (p := ⟨gb301, _, none⟩) NB299_301.out _).trans (hHeld.2.1)))), ((cell_far (p := ⟨gb301, _, none⟩) NB300_301.out _).trans (((cell_far (p := ⟨gb301, _, none⟩) NB300_301.out _).trans (hHeld.2.2.1)))), ((cell_far (p := ⟨gb301, _, none⟩) NB300_301.out _).trans (((cell_far (p := ⟨gb301, _, none⟩) NB300_301.out _).trans (hHeld.2.2.2))))⟩ (fun hHeld => ?_)
 clear hK K
 refine done_ (by kernel_rfl) ?_
 try go_wp2
 refine bodyPost_ret (results_cell_row rfl _ _ gb301 39 #[.bool t306, .slice Ao13 t307.length co13] (0, 0) _ rfl (by (with_reducible repeat (first | refine blk_drewN ?_ _ | refine blk_drew ?_ | refine blk_alloc ?_ _)); refine blk_put (cs := #[.bool t306, .slice none 0 0]) ?_ 1 _ rfl; (with_reducible repeat (first | refine blk_drewN ?_ _ | refine blk_drew ?_ | refine blk_alloc ?_ _)); refine blk_put (cs := #[.bool false, .slice none 0 0]) ?_ 0 _ rfl; (with_reducible repeat (first | refine blk_drewN ?_ _ | refine blk_drew ?_ | refine blk_alloc ?_ _)); exact BK301.out) Try.underlying39 rfl (by kernel_rfl)) rfl ?_
 exact ⟨_, by first | rfl | (simp [errW_none, errW_some] <;> rfl) | (simp [*, errW_none, errW_some] <;> rfl), by (with_reducible repeat (first | apply Kd.R_alloc | apply Kd.R_drewN | apply Kd.R_drew)); exact Kd.R_mono (Kd.R_far (p := ⟨gb301, 1, none⟩) (Kd.R_far (p := ⟨gb301, 0, none⟩) (Sq.rt HO309.out BK301) (fun _ hk => hk.2) (.bool t306)) (fun _ hk => hk.2) (.slice Ao13 t307.length co13)) (fun _ hk => trivial), Sq.bl HB⟩
end Go.Proofs.Ytaclkccgjpjdjaa.I
