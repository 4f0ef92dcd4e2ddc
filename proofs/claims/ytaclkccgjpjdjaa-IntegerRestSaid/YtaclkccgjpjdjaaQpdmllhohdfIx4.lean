import Derived.Test.YtaclkccgjpjdjaaQaljbeemcheIx0
import Derived.Test.YtaclkccgjpjdjaaQehenpapdheIx1
import Derived.Test.YtaclkccgjpjdjaaQipcojhjkmgM
namespace Go.Proofs.Ytaclkccgjpjdjaa.I
open Go.RowKit Go.Proofs.YtaclkccgjpjdjaaW.PrintWords Go.Proofs.YtaclkccgjpjdjaaW.PrintLast Go.Proofs.YtaclkccgjpjdjaaW.PrintMore
attribute [local go_sem] max2_int min2_int max_two min_two max_three min_three max_four min_four   -- for this text's walks alone
set_option linter.unusedVariables false
set_option linter.unusedSimpArgs false
def integer_Add.f (a0_0 : Bool) (l0_1 : List Int) (a1_0 : Bool) (l1_1 : List Int) : Option (Bool × List Int) := if (a0_0 == a1_0) = true then ((nat_Add.f l0_1 l1_1).bind fun t260 => ((integer_sign_with.f a0_0 t260).bind fun bt263 => (some (bt263.1, bt263.2)))) else ((nat_Sub.f l0_1 l1_1).bind fun bt267 => (if bt267.2 = 0 then ((integer_sign_with.f a0_0 bt267.1).bind fun bt271 => (some (bt271.1, bt271.2))) else ((nat_Sub.f l1_1 l0_1).bind fun bt275 => ((integer_sign_with.f a1_0 bt275.1).bind fun bt279 => (some (bt279.1, bt279.2))))))
set_option maxHeartbeats 8000000 in
set_option maxRecDepth 100000 in
theorem integer_Add.calls (a0_0 : Bool) (A0_1 : Option Addr) (c0_1 : Nat) (l0_1 : List Int) (a1_0 : Bool) (A1_1 : Option Addr) (c1_1 : Nat) (l1_1 : List Int) (r1 : Bool) (r2 : List Int) (w : World) (hr0_1 : Kd.C (Kd.int .u32) w A0_1 l0_1.length l0_1) (hc0_1 : l0_1.length ≤ c0_1) (hr1_1 : Kd.C (Kd.int .u32) w A1_1 l1_1.length l1_1) (hc1_1 : l1_1.length ≤ c1_1) (h : integer_Add.f a0_0 l0_1 a1_0 l1_1 = some (r1, r2)) :
  Calls Try.prog 63 #[.agg #[.bool a0_0, .slice A0_1 l0_1.length c0_1], .agg #[.bool a1_0, .slice A1_1 l1_1.length c1_1]] w fun e w' => ∃ v1_ : Value, e = .returned (.agg #[.bool r1, v1_]) ∧ Kd.R (Kd.int .u32) 107 w' w.heap.size (fun _ => True) v1_ r2 ∧ Below w.heap.size w w' := by
 have hu39 := Try.underlying39
 have HR0_1 := Aside0.mk hr0_1
 have HC0_1 := Aside0.mk hc0_1
 clear hr0_1 hc0_1
 have HR1_1 := Aside0.mk hr1_1
 have HC1_1 := Aside0.mk hc1_1
 clear hr1_1 hc1_1
 have HB := Aside0.mk (Below.refl w.heap.size w)
 have H : (if (a0_0 == a1_0) = true then ((nat_Add.f l0_1 l1_1).bind fun t260 => ((integer_sign_with.f a0_0 t260).bind fun bt263 => (some (bt263.1, bt263.2)))) else ((nat_Sub.f l0_1 l1_1).bind fun bt267 => (if bt267.2 = 0 then ((integer_sign_with.f a0_0 bt267.1).bind fun bt271 => (some (bt271.1, bt271.2))) else ((nat_Sub.f l1_1 l0_1).bind fun bt275 => ((integer_sign_with.f a1_0 bt275.1).bind fun bt279 => (some (bt279.1, bt279.2))))))) = some (r1, r2) := h
 clear h
 by_cases c3 : (a0_0 == a1_0) = true
 ·rw [if_pos c3] at H
  have c3b0 : (a0_0 == a1_0) = true := c3
  (try (have c3b1 : decide (a0_0 = a1_0) = true := by simpa using c3))
  (try (have c3b2 : (a0_0 == a1_0) = true := by simpa using c3))
  clear c3
  replace H := Sq.bd H
  obtain ⟨t260, A4, H⟩ := H
  (try dsimp -simprocs only at H)
  replace H := Sq.bd H
  obtain ⟨⟨t263, t264⟩, A5, H⟩ := H
  (try dsimp -simprocs only at H)
  simp only [Option.some.injEq, Prod.mk.injEq] at H
  obtain ⟨rfl, rfl⟩ := H
  go_enter Try.func63, Try.ntmps63
  go_wp2_with (first | ((with_reducible refine gate_dst (N := 2) rfl ?_); refine box_event ?hg (N := 2) ?hd (cs := #[.bool a0_0, .slice A0_1 l0_1.length c0_1]) (t := 39) ?hr ?_; (case hd => rfl); (case hg => rfl); (case hr => first | (go_simp; done) | (go_simp; rfl)); intro gb257 hg w6 hbox hb; have BK257 := Aside0.mk (hbox); have GW257 := Sq.gw HB hg; have GE257 := Sq.gw HB hg; replace HB := Sq.bs HB hb; clear hb hbox hg) | ((with_reducible refine gate_dst (N := 3) rfl ?_); refine box_event ?hg (N := 3) ?hd (cs := #[.bool a1_0, .slice A1_1 l1_1.length c1_1]) (t := 39) ?hr ?_; (case hd => rfl); (case hg => rfl); (case hr => first | (go_simp; done) | (go_simp; rfl)); intro gb258 hg w7 hbox hb; have BK258 := Aside0.mk (hbox); have GW258 := Sq.gw HB hg; have GE258 := Sq.gw HB hg; have NB257_258 := Sq.nl BK257 hg; have NB258_257 := Sq.ng BK257 hg; replace BK257 := Sq.bb BK257 hb; replace HB := Sq.bs HB hb; clear hb hbox hg) | ((with_reducible refine gate_dst (N := 4) rfl ?_); refine box_event ?hg (N := 4) ?hd (cs := #[.bool false, .slice none 0 0]) (t := 39) ?hr ?_; (case hd => rfl); (case hg => rfl); (case hr => first | (go_simp; done) | (go_simp; rfl)); intro gb259 hg w8 hbox hb; have BK259 := Aside0.mk (hbox); have GW259 := Sq.gw HB hg; have GE259 := Sq.gw HB hg; have NB257_259 := Sq.nl BK257 hg; have NB259_257 := Sq.ng BK257 hg; have NB258_259 := Sq.nl BK258 hg; have NB259_258 := Sq.ng BK258 hg; replace BK257 := Sq.bb BK257 hb; replace BK258 := Sq.bb BK258 hb; replace HB := Sq.bs HB hb; clear hb hbox hg; have hnb9 := NB257_258.out; have hnc9 := NB258_257.out; have hnb10 := NB257_259.out; have hnc10 := NB259_257.out; have hcz11_0 := Sq.bc BK257 0 (.bool a0_0); have hcz11_1 := Sq.bc BK257 1 (.slice A0_1 l0_1.length c0_1); have hfz11_0 := blk_frozen BK257.out 0; have hfz11_1 := blk_frozen BK257.out 1; have hnb12 := NB258_259.out; have hnc12 := NB259_258.out; have hcz13_0 := Sq.bc BK258 0 (.bool a1_0); have hcz13_1 := Sq.bc BK258 1 (.slice A1_1 l1_1.length c1_1); have hfz13_0 := blk_frozen BK258.out 0; have hfz13_1 := blk_frozen BK258.out 1) | (go_at_call 42; (with_reducible refine (nat_Add.calls _ _ l0_1 _ _ l1_1 t260 _ ?side1 ?side2 ?side3 ?side4 A4.out).mono ?_); (case side1 => exact Sq.ca (Kd.C_below HR0_1.out HB.out)); (case side2 => exact HC0_1.out); (case side3 => exact Sq.ca (Kd.C_below HR1_1.out HB.out)); (case side4 => exact HC1_1.out); rintro e w14 ⟨v261, rfl, ho0, hb⟩; have HO262 := Aside0.mk (Kd.V_lower (Kd.V_mono (ok' := fun k_ => k_ ≠ gb257 ∧ k_ ≠ gb258 ∧ k_ ≠ gb259) ho0 (fun k_ hk_ => ⟨(Sq.fb BK257 k_ hk_), (Sq.fb BK258 k_ hk_), (Sq.fb BK259 k_ hk_)⟩)) (below_size (Sq.bl HB))); replace BK257 := Sq.bb BK257 hb; replace BK258 := Sq.bb BK258 hb; replace BK259 := Sq.bb BK259 hb; replace HB := Sq.bs HB hb; (try clear hb); (try clear hb2); (try clear hk); (try clear hi); (try clear ho0); obtain ⟨Ao15, co15, eo15⟩ := Kd.V_slice HO262.out; subst eo15) | (go_at_call 147; (with_reducible refine (integer_sign_with.calls a0_0 _ _ t260 t263 t264 _ ?side1 ?side2 A5.out).mono ?_); (case side1 => exact Sq.ca (Kd.V_reads' HO262.out).2.2); (case side2 => exact (Kd.V_reads' HO262.out).2.1); rintro e w16 ⟨v265, rfl, ho0, hb⟩; replace HO262 := Aside0.mk (Kd.V_elder' (Sq.al HO262) (Kd.R_base ho0) hb); have HO266 := Aside0.mk (Kd.R_lower ho0 (below_size (Sq.bl HB))); replace BK257 := Sq.bb BK257 hb; replace BK258 := Sq.bb BK258 hb; replace BK259 := Sq.bb BK259 hb; replace HB := Sq.bs HB hb; (try clear hb); (try clear hb2); (try clear hk); (try clear hi); (try clear ho0); have hcz17_0 := Sq.bc BK259 0 (.bool false); have hcz17_1 := Sq.bc BK259 1 (.slice none 0 0); have hfz17_0 := blk_frozen BK259.out 0; have hfz17_1 := blk_frozen BK259.out 1; obtain ⟨Ao18, co18, eo18⟩ := Kd.R_slice HO266.out; subst eo18))
  repeat (go_quiet (first | ((with_reducible refine gate_dst (N := 2) rfl ?_); refine box_event ?hg (N := 2) ?hd (cs := #[.bool a0_0, .slice A0_1 l0_1.length c0_1]) (t := 39) ?hr ?_; (case hd => rfl); (case hg => rfl); (case hr => first | (go_simp; done) | (go_simp; rfl)); intro gb257 hg w6 hbox hb; have BK257 := Aside0.mk (hbox); have GW257 := Sq.gw HB hg; have GE257 := Sq.gw HB hg; replace HB := Sq.bs HB hb; clear hb hbox hg) | ((with_reducible refine gate_dst (N := 3) rfl ?_); refine box_event ?hg (N := 3) ?hd (cs := #[.bool a1_0, .slice A1_1 l1_1.length c1_1]) (t := 39) ?hr ?_; (case hd => rfl); (case hg => rfl); (case hr => first | (go_simp; done) | (go_simp; rfl)); intro gb258 hg w7 hbox hb; have BK258 := Aside0.mk (hbox); have GW258 := Sq.gw HB hg; have GE258 := Sq.gw HB hg; have NB257_258 := Sq.nl BK257 hg; have NB258_257 := Sq.ng BK257 hg; replace BK257 := Sq.bb BK257 hb; replace HB := Sq.bs HB hb; clear hb hbox hg) | ((with_reducible refine gate_dst (N := 4) rfl ?_); refine box_event ?hg (N := 4) ?hd (cs := #[.bool false, .slice none 0 0]) (t := 39) ?hr ?_; (case hd => rfl); (case hg => rfl); (case hr => first | (go_simp; done) | (go_simp; rfl)); intro gb259 hg w8 hbox hb; have BK259 := Aside0.mk (hbox); have GW259 := Sq.gw HB hg; have GE259 := Sq.gw HB hg; have NB257_259 := Sq.nl BK257 hg; have NB259_257 := Sq.ng BK257 hg; have NB258_259 := Sq.nl BK258 hg; have NB259_258 := Sq.ng BK258 hg; replace BK257 := Sq.bb BK257 hb; replace BK258 := Sq.bb BK258 hb; replace HB := Sq.bs HB hb; clear hb hbox hg; have hnb9 := NB257_258.out; have hnc9 := NB258_257.out; have hnb10 := NB257_259.out; have hnc10 := NB259_257.out; have hcz11_0 := Sq.bc BK257 0 (.bool a0_0); have hcz11_1 := Sq.bc BK257 1 (.slice A0_1 l0_1.length c0_1); have hfz11_0 := blk_frozen BK257.out 0; have hfz11_1 := blk_frozen BK257.out 1; have hnb12 := NB258_259.out; have hnc12 := NB259_258.out; have hcz13_0 := Sq.bc BK258 0 (.bool a1_0); have hcz13_1 := Sq.bc BK258 1 (.slice A1_1 l1_1.length c1_1); have hfz13_0 := blk_frozen BK258.out 0; have hfz13_1 := blk_frozen BK258.out 1) | (go_at_call 42; (with_reducible refine (nat_Add.calls _ _ l0_1 _ _ l1_1 t260 _ ?side1 ?side2 ?side3 ?side4 A4.out).mono ?_); (case side1 => exact Sq.ca (Kd.C_below HR0_1.out HB.out)); (case side2 => exact HC0_1.out); (case side3 => exact Sq.ca (Kd.C_below HR1_1.out HB.out)); (case side4 => exact HC1_1.out); rintro e w14 ⟨v261, rfl, ho0, hb⟩; have HO262 := Aside0.mk (Kd.V_lower (Kd.V_mono (ok' := fun k_ => k_ ≠ gb257 ∧ k_ ≠ gb258 ∧ k_ ≠ gb259) ho0 (fun k_ hk_ => ⟨(Sq.fb BK257 k_ hk_), (Sq.fb BK258 k_ hk_), (Sq.fb BK259 k_ hk_)⟩)) (below_size (Sq.bl HB))); replace BK257 := Sq.bb BK257 hb; replace BK258 := Sq.bb BK258 hb; replace BK259 := Sq.bb BK259 hb; replace HB := Sq.bs HB hb; (try clear hb); (try clear hb2); (try clear hk); (try clear hi); (try clear ho0); obtain ⟨Ao15, co15, eo15⟩ := Kd.V_slice HO262.out; subst eo15) | (go_at_call 147; (with_reducible refine (integer_sign_with.calls a0_0 _ _ t260 t263 t264 _ ?side1 ?side2 A5.out).mono ?_); (case side1 => exact Sq.ca (Kd.V_reads' HO262.out).2.2); (case side2 => exact (Kd.V_reads' HO262.out).2.1); rintro e w16 ⟨v265, rfl, ho0, hb⟩; replace HO262 := Aside0.mk (Kd.V_elder' (Sq.al HO262) (Kd.R_base ho0) hb); have HO266 := Aside0.mk (Kd.R_lower ho0 (below_size (Sq.bl HB))); replace BK257 := Sq.bb BK257 hb; replace BK258 := Sq.bb BK258 hb; replace BK259 := Sq.bb BK259 hb; replace HB := Sq.bs HB hb; (try clear hb); (try clear hb2); (try clear hk); (try clear hi); (try clear ho0); have hcz17_0 := Sq.bc BK259 0 (.bool false); have hcz17_1 := Sq.bc BK259 1 (.slice none 0 0); have hfz17_0 := blk_frozen BK259.out 0; have hfz17_1 := blk_frozen BK259.out 1; obtain ⟨Ao18, co18, eo18⟩ := Kd.R_slice HO266.out; subst eo18)); try go_wp2_with (first | ((with_reducible refine gate_dst (N := 2) rfl ?_); refine box_event ?hg (N := 2) ?hd (cs := #[.bool a0_0, .slice A0_1 l0_1.length c0_1]) (t := 39) ?hr ?_; (case hd => rfl); (case hg => rfl); (case hr => first | (go_simp; done) | (go_simp; rfl)); intro gb257 hg w6 hbox hb; have BK257 := Aside0.mk (hbox); have GW257 := Sq.gw HB hg; have GE257 := Sq.gw HB hg; replace HB := Sq.bs HB hb; clear hb hbox hg) | ((with_reducible refine gate_dst (N := 3) rfl ?_); refine box_event ?hg (N := 3) ?hd (cs := #[.bool a1_0, .slice A1_1 l1_1.length c1_1]) (t := 39) ?hr ?_; (case hd => rfl); (case hg => rfl); (case hr => first | (go_simp; done) | (go_simp; rfl)); intro gb258 hg w7 hbox hb; have BK258 := Aside0.mk (hbox); have GW258 := Sq.gw HB hg; have GE258 := Sq.gw HB hg; have NB257_258 := Sq.nl BK257 hg; have NB258_257 := Sq.ng BK257 hg; replace BK257 := Sq.bb BK257 hb; replace HB := Sq.bs HB hb; clear hb hbox hg) | ((with_reducible refine gate_dst (N := 4) rfl ?_); refine box_event ?hg (N := 4) ?hd (cs := #[.bool false, .slice none 0 0]) (t := 39) ?hr ?_; (case hd => rfl); (case hg => rfl); (case hr => first | (go_simp; done) | (go_simp; rfl)); intro gb259 hg w8 hbox hb; have BK259 := Aside0.mk (hbox); have GW259 := Sq.gw HB hg; have GE259 := Sq.gw HB hg; have NB257_259 := Sq.nl BK257 hg; have NB259_257 := Sq.ng BK257 hg; have NB258_259 := Sq.nl BK258 hg; have NB259_258 := Sq.ng BK258 hg; replace BK257 := Sq.bb BK257 hb; replace BK258 := Sq.bb BK258 hb; replace HB := Sq.bs HB hb; clear hb hbox hg; have hnb9 := NB257_258.out; have hnc9 := NB258_257.out; have hnb10 := NB257_259.out; have hnc10 := NB259_257.out; have hcz11_0 := Sq.bc BK257 0 (.bool a0_0); have hcz11_1 := Sq.bc BK257 1 (.slice A0_1 l0_1.length c0_1); have hfz11_0 := blk_frozen BK257.out 0; have hfz11_1 := blk_frozen BK257.out 1; have hnb12 := NB258_259.out; have hnc12 := NB259_258.out; have hcz13_0 := Sq.bc BK258 0 (.bool a1_0); have hcz13_1 := Sq.bc BK258 1 (.slice A1_1 l1_1.length c1_1); have hfz13_0 := blk_frozen BK258.out 0; have hfz13_1 := blk_frozen BK258.out 1) | (go_at_call 42; (with_reducible refine (nat_Add.calls _ _ l0_1 _ _ l1_1 t260 _ ?side1 ?side2 ?side3 ?side4 A4.out).mono ?_); (case side1 => exact Sq.ca (Kd.C_below HR0_1.out HB.out)); (case side2 => exact HC0_1.out); (case side3 => exact Sq.ca (Kd.C_below HR1_1.out HB.out)); (case side4 => exact HC1_1.out); rintro e w14 ⟨v261, rfl, ho0, hb⟩; have HO262 := Aside0.mk (Kd.V_lower (Kd.V_mono (ok' := fun k_ => k_ ≠ gb257 ∧ k_ ≠ gb258 ∧ k_ ≠ gb259) ho0 (fun k_ hk_ => ⟨(Sq.fb BK257 k_ hk_), (Sq.fb BK258 k_ hk_), (Sq.fb BK259 k_ hk_)⟩)) (below_size (Sq.bl HB))); replace BK257 := Sq.bb BK257 hb; replace BK258 := Sq.bb BK258 hb; replace BK259 := Sq.bb BK259 hb; replace HB := Sq.bs HB hb; (try clear hb); (try clear hb2); (try clear hk); (try clear hi); (try clear ho0); obtain ⟨Ao15, co15, eo15⟩ := Kd.V_slice HO262.out; subst eo15) | (go_at_call 147; (with_reducible refine (integer_sign_with.calls a0_0 _ _ t260 t263 t264 _ ?side1 ?side2 A5.out).mono ?_); (case side1 => exact Sq.ca (Kd.V_reads' HO262.out).2.2); (case side2 => exact (Kd.V_reads' HO262.out).2.1); rintro e w16 ⟨v265, rfl, ho0, hb⟩; replace HO262 := Aside0.mk (Kd.V_elder' (Sq.al HO262) (Kd.R_base ho0) hb); have HO266 := Aside0.mk (Kd.R_lower ho0 (below_size (Sq.bl HB))); replace BK257 := Sq.bb BK257 hb; replace BK258 := Sq.bb BK258 hb; replace BK259 := Sq.bb BK259 hb; replace HB := Sq.bs HB hb; (try clear hb); (try clear hb2); (try clear hk); (try clear hi); (try clear ho0); have hcz17_0 := Sq.bc BK259 0 (.bool false); have hcz17_1 := Sq.bc BK259 1 (.slice none 0 0); have hfz17_0 := blk_frozen BK259.out 0; have hfz17_1 := blk_frozen BK259.out 1; obtain ⟨Ao18, co18, eo18⟩ := Kd.R_slice HO266.out; subst eo18)))
  refine bodyPost_ret (results_cell_row rfl _ _ gb259 39 #[.bool t263, .slice Ao18 t264.length co18] (0, 0) _ rfl (by (with_reducible repeat (first | refine blk_drewN ?_ _ | refine blk_drew ?_ | refine blk_alloc ?_ _)); refine blk_put (cs := #[.bool t263, .slice none 0 0]) ?_ 1 _ rfl; (with_reducible repeat (first | refine blk_drewN ?_ _ | refine blk_drew ?_ | refine blk_alloc ?_ _)); refine blk_put (cs := #[.bool false, .slice none 0 0]) ?_ 0 _ rfl; (with_reducible repeat (first | refine blk_drewN ?_ _ | refine blk_drew ?_ | refine blk_alloc ?_ _)); exact BK259.out) Try.underlying39 rfl (by kernel_rfl)) rfl ?_
  exact ⟨_, by first | rfl | (simp [errW_none, errW_some] <;> rfl) | (simp [*, errW_none, errW_some] <;> rfl), by (with_reducible repeat (first | apply Kd.R_alloc | apply Kd.R_drewN | apply Kd.R_drew)); exact Kd.R_mono (Kd.R_far (p := ⟨gb259, 1, none⟩) (Kd.R_far (p := ⟨gb259, 0, none⟩) (Sq.rt HO266.out BK259) (fun _ hk => hk.2) (.bool t263)) (fun _ hk => hk.2) (.slice Ao18 t264.length co18)) (fun _ hk => trivial), Sq.bl HB⟩
 ·rw [if_neg c3] at H
  have c3b0 : (a0_0 == a1_0) = false := by simpa using c3
  (try (have c3b1 : decide (a0_0 = a1_0) = false := by simpa using c3))
  (try (have c3b2 : (a0_0 == a1_0) = false := by simpa using c3))
  (try (have c3b3 : ¬ (a0_0 = a1_0) := by simpa using c3))
  clear c3
  replace H := Sq.bd H
  obtain ⟨⟨t267, t270⟩, A19, H⟩ := H
  (try dsimp -simprocs only at H)
  by_cases c20 : t270 = 0
  ·rw [if_pos c20] at H
   have c20b0 : (t270 == 0) = true := beq_iff_eq.mpr c20
   have c20b1 : (t270 != 0) = false := bne_eq_false_iff_eq.mpr c20
   clear c20
   replace H := Sq.bd H
   obtain ⟨⟨t271, t272⟩, A21, H⟩ := H
   (try dsimp -simprocs only at H)
   simp only [Option.some.injEq, Prod.mk.injEq] at H
   obtain ⟨rfl, rfl⟩ := H
   go_enter Try.func63, Try.ntmps63
   go_wp2_with (first | ((with_reducible refine gate_dst (N := 2) rfl ?_); refine box_event ?hg (N := 2) ?hd (cs := #[.bool a0_0, .slice A0_1 l0_1.length c0_1]) (t := 39) ?hr ?_; (case hd => rfl); (case hg => rfl); (case hr => first | (go_simp; done) | (go_simp; rfl)); intro gb257 hg w22 hbox hb; have BK257 := Aside0.mk (hbox); have GW257 := Sq.gw HB hg; have GE257 := Sq.gw HB hg; replace HB := Sq.bs HB hb; clear hb hbox hg) | ((with_reducible refine gate_dst (N := 3) rfl ?_); refine box_event ?hg (N := 3) ?hd (cs := #[.bool a1_0, .slice A1_1 l1_1.length c1_1]) (t := 39) ?hr ?_; (case hd => rfl); (case hg => rfl); (case hr => first | (go_simp; done) | (go_simp; rfl)); intro gb258 hg w23 hbox hb; have BK258 := Aside0.mk (hbox); have GW258 := Sq.gw HB hg; have GE258 := Sq.gw HB hg; have NB257_258 := Sq.nl BK257 hg; have NB258_257 := Sq.ng BK257 hg; replace BK257 := Sq.bb BK257 hb; replace HB := Sq.bs HB hb; clear hb hbox hg) | ((with_reducible refine gate_dst (N := 4) rfl ?_); refine box_event ?hg (N := 4) ?hd (cs := #[.bool false, .slice none 0 0]) (t := 39) ?hr ?_; (case hd => rfl); (case hg => rfl); (case hr => first | (go_simp; done) | (go_simp; rfl)); intro gb259 hg w24 hbox hb; have BK259 := Aside0.mk (hbox); have GW259 := Sq.gw HB hg; have GE259 := Sq.gw HB hg; have NB257_259 := Sq.nl BK257 hg; have NB259_257 := Sq.ng BK257 hg; have NB258_259 := Sq.nl BK258 hg; have NB259_258 := Sq.ng BK258 hg; replace BK257 := Sq.bb BK257 hb; replace BK258 := Sq.bb BK258 hb; replace HB := Sq.bs HB hb; clear hb hbox hg; have hnb25 := NB257_258.out; have hnc25 := NB258_257.out; have hnb26 := NB257_259.out; have hnc26 := NB259_257.out; have hcz27_0 := Sq.bc BK257 0 (.bool a0_0); have hcz27_1 := Sq.bc BK257 1 (.slice A0_1 l0_1.length c0_1); have hfz27_0 := blk_frozen BK257.out 0; have hfz27_1 := blk_frozen BK257.out 1; have hnb28 := NB258_259.out; have hnc28 := NB259_258.out; have hcz29_0 := Sq.bc BK258 0 (.bool a1_0); have hcz29_1 := Sq.bc BK258 1 (.slice A1_1 l1_1.length c1_1); have hfz29_0 := blk_frozen BK258.out 0; have hfz29_1 := blk_frozen BK258.out 1) | (go_at_call 45; (with_reducible refine (nat_Sub.calls (fun k_ => k_ < w.heap.size) _ _ l0_1 _ _ l1_1 t267 t270 _ ?side1 ?side2 ?side3 A19.out).mono ?_); (case side1 => exact Kd.V_mk HC0_1.out (Kd.F_below (Kd.C_F (Kd.heap_int .u32) HR0_1.out) (Sq.bl HB))); (case side2 => exact Sq.ca (Kd.C_below HR1_1.out HB.out)); (case side3 => exact HC1_1.out); rintro e w30 ⟨v268, rfl, ho0, hb⟩; have HO269 := Aside0.mk (Kd.V_lower (Kd.V_mono (ok' := fun k_ => k_ ≠ gb257 ∧ k_ ≠ gb258 ∧ k_ ≠ gb259) ho0 (fun k_ hk_ => ⟨Or.elim hk_ (fun hs_ => fun e_ => Nat.not_le.2 hs_ (by rw [e_]; exact GW257.out)) (fun hn_ => (Sq.fb BK257 k_ hn_)), Or.elim hk_ (fun hs_ => fun e_ => Nat.not_le.2 hs_ (by rw [e_]; exact GW258.out)) (fun hn_ => (Sq.fb BK258 k_ hn_)), Or.elim hk_ (fun hs_ => fun e_ => Nat.not_le.2 hs_ (by rw [e_]; exact GW259.out)) (fun hn_ => (Sq.fb BK259 k_ hn_))⟩)) (below_size (Sq.bl HB))); replace BK257 := Sq.bb BK257 hb; replace BK258 := Sq.bb BK258 hb; replace BK259 := Sq.bb BK259 hb; replace HB := Sq.bs HB hb; (try clear hb); (try clear hb2); (try clear hk); (try clear hi); (try clear ho0); obtain ⟨Ao31, co31, eo31⟩ := Kd.V_slice HO269.out; subst eo31) | (go_at_call 147; (with_reducible refine (integer_sign_with.calls a0_0 _ _ t267 t271 t272 _ ?side1 ?side2 A21.out).mono ?_); (case side1 => exact Sq.ca (Kd.V_reads' HO269.out).2.2); (case side2 => exact (Kd.V_reads' HO269.out).2.1); rintro e w32 ⟨v273, rfl, ho0, hb⟩; replace HO269 := Aside0.mk (Kd.V_elder' (Sq.al HO269) (Kd.R_base ho0) hb); have HO274 := Aside0.mk (Kd.R_lower ho0 (below_size (Sq.bl HB))); replace BK257 := Sq.bb BK257 hb; replace BK258 := Sq.bb BK258 hb; replace BK259 := Sq.bb BK259 hb; replace HB := Sq.bs HB hb; (try clear hb); (try clear hb2); (try clear hk); (try clear hi); (try clear ho0); have hcz33_0 := Sq.bc BK259 0 (.bool false); have hcz33_1 := Sq.bc BK259 1 (.slice none 0 0); have hfz33_0 := blk_frozen BK259.out 0; have hfz33_1 := blk_frozen BK259.out 1; obtain ⟨Ao34, co34, eo34⟩ := Kd.R_slice HO274.out; subst eo34))
   repeat (go_quiet (first | ((with_reducible refine gate_dst (N := 2) rfl ?_); refine box_event ?hg (N := 2) ?hd (cs := #[.bool a0_0, .slice A0_1 l0_1.length c0_1]) (t := 39) ?hr ?_; (case hd => rfl); (case hg => rfl); (case hr => first | (go_simp; done) | (go_simp; rfl)); intro gb257 hg w22 hbox hb; have BK257 := Aside0.mk (hbox); have GW257 := Sq.gw HB hg; have GE257 := Sq.gw HB hg; replace HB := Sq.bs HB hb; clear hb hbox hg) | ((with_reducible refine gate_dst (N := 3) rfl ?_); refine box_event ?hg (N := 3) ?hd (cs := #[.bool a1_0, .slice A1_1 l1_1.length c1_1]) (t := 39) ?hr ?_; (case hd => rfl); (case hg => rfl); (case hr => first | (go_simp; done) | (go_simp; rfl)); intro gb258 hg w23 hbox hb; have BK258 := Aside0.mk (hbox); have GW258 := Sq.gw HB hg; have GE258 := Sq.gw HB hg; have NB257_258 := Sq.nl BK257 hg; have NB258_257 := Sq.ng BK257 hg; replace BK257 := Sq.bb BK257 hb; replace HB := Sq.bs HB hb; clear hb hbox hg) | ((with_reducible refine gate_dst (N := 4) rfl ?_); refine box_event ?hg (N := 4) ?hd (cs := #[.bool false, .slice none 0 0]) (t := 39) ?hr ?_; (case hd => rfl); (case hg => rfl); (case hr => first | (go_simp; done) | (go_simp; rfl)); intro gb259 hg w24 hbox hb; have BK259 := Aside0.mk (hbox); have GW259 := Sq.gw HB hg; have GE259 := Sq.gw HB hg; have NB257_259 := Sq.nl BK257 hg; have NB259_257 := Sq.ng BK257 hg; have NB258_259 := Sq.nl BK258 hg; have NB259_258 := Sq.ng BK258 hg; replace BK257 := Sq.bb BK257 hb; replace BK258 := Sq.bb BK258 hb; replace HB := Sq.bs HB hb; clear hb hbox hg; have hnb25 := NB257_258.out; have hnc25 := NB258_257.out; have hnb26 := NB257_259.out; have hnc26 := NB259_257.out; have hcz27_0 := Sq.bc BK257 0 (.bool a0_0); have hcz27_1 := Sq.bc BK257 1 (.slice A0_1 l0_1.length c0_1); have hfz27_0 := blk_frozen BK257.out 0; have hfz27_1 := blk_frozen BK257.out 1; have hnb28 := NB258_259.out; have hnc28 := NB259_258.out; have hcz29_0 := Sq.bc BK258 0 (.bool a1_0); have hcz29_1 := Sq.bc BK258 1 (.slice A1_1 l1_1.length c1_1); have hfz29_0 := blk_frozen BK258.out 0; have hfz29_1 := blk_frozen BK258.out 1) | (go_at_call 45; (with_reducible refine (nat_Sub.calls (fun k_ => k_ < w.heap.size) _ _ l0_1 _ _ l1_1 t267 t270 _ ?side1 ?side2 ?side3 A19.out).mono ?_); (case side1 => exact Kd.V_mk HC0_1.out (Kd.F_below (Kd.C_F (Kd.heap_int .u32) HR0_1.out) (Sq.bl HB))); (case side2 => exact Sq.ca (Kd.C_below HR1_1.out HB.out)); (case side3 => exact HC1_1.out); rintro e w30 ⟨v268, rfl, ho0, hb⟩; have HO269 := Aside0.mk (Kd.V_lower (Kd.V_mono (ok' := fun k_ => k_ ≠ gb257 ∧ k_ ≠ gb258 ∧ k_ ≠ gb259) ho0 (fun k_ hk_ => ⟨Or.elim hk_ (fun hs_ => fun e_ => Nat.not_le.2 hs_ (by rw [e_]; exact GW257.out)) (fun hn_ => (Sq.fb BK257 k_ hn_)), Or.elim hk_ (fun hs_ => fun e_ => Nat.not_le.2 hs_ (by rw [e_]; exact GW258.out)) (fun hn_ => (Sq.fb BK258 k_ hn_)), Or.elim hk_ (fun hs_ => fun e_ => Nat.not_le.2 hs_ (by rw [e_]; exact GW259.out)) (fun hn_ => (Sq.fb BK259 k_ hn_))⟩)) (below_size (Sq.bl HB))); replace BK257 := Sq.bb BK257 hb; replace BK258 := Sq.bb BK258 hb; replace BK259 := Sq.bb BK259 hb; replace HB := Sq.bs HB hb; (try clear hb); (try clear hb2); (try clear hk); (try clear hi); (try clear ho0); obtain ⟨Ao31, co31, eo31⟩ := Kd.V_slice HO269.out; subst eo31) | (go_at_call 147; (with_reducible refine (integer_sign_with.calls a0_0 _ _ t267 t271 t272 _ ?side1 ?side2 A21.out).mono ?_); (case side1 => exact Sq.ca (Kd.V_reads' HO269.out).2.2); (case side2 => exact (Kd.V_reads' HO269.out).2.1); rintro e w32 ⟨v273, rfl, ho0, hb⟩; replace HO269 := Aside0.mk (Kd.V_elder' (Sq.al HO269) (Kd.R_base ho0) hb); have HO274 := Aside0.mk (Kd.R_lower ho0 (below_size (Sq.bl HB))); replace BK257 := Sq.bb BK257 hb; replace BK258 := Sq.bb BK258 hb; replace BK259 := Sq.bb BK259 hb; replace HB := Sq.bs HB hb; (try clear hb); (try clear hb2); (try clear hk); (try clear hi); (try clear ho0); have hcz33_0 := Sq.bc BK259 0 (.bool false); have hcz33_1 := Sq.bc BK259 1 (.slice none 0 0); have hfz33_0 := blk_frozen BK259.out 0; have hfz33_1 := blk_frozen BK259.out 1; obtain ⟨Ao34, co34, eo34⟩ := Kd.R_slice HO274.out; subst eo34)); try go_wp2_with (first | ((with_reducible refine gate_dst (N := 2) rfl ?_); refine box_event ?hg (N := 2) ?hd (cs := #[.bool a0_0, .slice A0_1 l0_1.length c0_1]) (t := 39) ?hr ?_; (case hd => rfl); (case hg => rfl); (case hr => first | (go_simp; done) | (go_simp; rfl)); intro gb257 hg w22 hbox hb; have BK257 := Aside0.mk (hbox); have GW257 := Sq.gw HB hg; have GE257 := Sq.gw HB hg; replace HB := Sq.bs HB hb; clear hb hbox hg) | ((with_reducible refine gate_dst (N := 3) rfl ?_); refine box_event ?hg (N := 3) ?hd (cs := #[.bool a1_0, .slice A1_1 l1_1.length c1_1]) (t := 39) ?hr ?_; (case hd => rfl); (case hg => rfl); (case hr => first | (go_simp; done) | (go_simp; rfl)); intro gb258 hg w23 hbox hb; have BK258 := Aside0.mk (hbox); have GW258 := Sq.gw HB hg; have GE258 := Sq.gw HB hg; have NB257_258 := Sq.nl BK257 hg; have NB258_257 := Sq.ng BK257 hg; replace BK257 := Sq.bb BK257 hb; replace HB := Sq.bs HB hb; clear hb hbox hg) | ((with_reducible refine gate_dst (N := 4) rfl ?_); refine box_event ?hg (N := 4) ?hd (cs := #[.bool false, .slice none 0 0]) (t := 39) ?hr ?_; (case hd => rfl); (case hg => rfl); (case hr => first | (go_simp; done) | (go_simp; rfl)); intro gb259 hg w24 hbox hb; have BK259 := Aside0.mk (hbox); have GW259 := Sq.gw HB hg; have GE259 := Sq.gw HB hg; have NB257_259 := Sq.nl BK257 hg; have NB259_257 := Sq.ng BK257 hg; have NB258_259 := Sq.nl BK258 hg; have NB259_258 := Sq.ng BK258 hg; replace BK257 := Sq.bb BK257 hb; replace BK258 := Sq.bb BK258 hb; replace HB := Sq.bs HB hb; clear hb hbox hg; have hnb25 := NB257_258.out; have hnc25 := NB258_257.out; have hnb26 := NB257_259.out; have hnc26 := NB259_257.out; have hcz27_0 := Sq.bc BK257 0 (.bool a0_0); have hcz27_1 := Sq.bc BK257 1 (.slice A0_1 l0_1.length c0_1); have hfz27_0 := blk_frozen BK257.out 0; have hfz27_1 := blk_frozen BK257.out 1; have hnb28 := NB258_259.out; have hnc28 := NB259_258.out; have hcz29_0 := Sq.bc BK258 0 (.bool a1_0); have hcz29_1 := Sq.bc BK258 1 (.slice A1_1 l1_1.length c1_1); have hfz29_0 := blk_frozen BK258.out 0; have hfz29_1 := blk_frozen BK258.out 1) | (go_at_call 45; (with_reducible refine (nat_Sub.calls (fun k_ => k_ < w.heap.size) _ _ l0_1 _ _ l1_1 t267 t270 _ ?side1 ?side2 ?side3 A19.out).mono ?_); (case side1 => exact Kd.V_mk HC0_1.out (Kd.F_below (Kd.C_F (Kd.heap_int .u32) HR0_1.out) (Sq.bl HB))); (case side2 => exact Sq.ca (Kd.C_below HR1_1.out HB.out)); (case side3 => exact HC1_1.out); rintro e w30 ⟨v268, rfl, ho0, hb⟩; have HO269 := Aside0.mk (Kd.V_lower (Kd.V_mono (ok' := fun k_ => k_ ≠ gb257 ∧ k_ ≠ gb258 ∧ k_ ≠ gb259) ho0 (fun k_ hk_ => ⟨Or.elim hk_ (fun hs_ => fun e_ => Nat.not_le.2 hs_ (by rw [e_]; exact GW257.out)) (fun hn_ => (Sq.fb BK257 k_ hn_)), Or.elim hk_ (fun hs_ => fun e_ => Nat.not_le.2 hs_ (by rw [e_]; exact GW258.out)) (fun hn_ => (Sq.fb BK258 k_ hn_)), Or.elim hk_ (fun hs_ => fun e_ => Nat.not_le.2 hs_ (by rw [e_]; exact GW259.out)) (fun hn_ => (Sq.fb BK259 k_ hn_))⟩)) (below_size (Sq.bl HB))); replace BK257 := Sq.bb BK257 hb; replace BK258 := Sq.bb BK258 hb; replace BK259 := Sq.bb BK259 hb; replace HB := Sq.bs HB hb; (try clear hb); (try clear hb2); (try clear hk); (try clear hi); (try clear ho0); obtain ⟨Ao31, co31, eo31⟩ := Kd.V_slice HO269.out; subst eo31) | (go_at_call 147; (with_reducible refine (integer_sign_with.calls a0_0 _ _ t267 t271 t272 _ ?side1 ?side2 A21.out).mono ?_); (case side1 => exact Sq.ca (Kd.V_reads' HO269.out).2.2); (case side2 => exact (Kd.V_reads' HO269.out).2.1); rintro e w32 ⟨v273, rfl, ho0, hb⟩; replace HO269 := Aside0.mk (Kd.V_elder' (Sq.al HO269) (Kd.R_base ho0) hb); have HO274 := Aside0.mk (Kd.R_lower ho0 (below_size (Sq.bl HB))); replace BK257 := Sq.bb BK257 hb; replace BK258 := Sq.bb BK258 hb; replace BK259 := Sq.bb BK259 hb; replace HB := Sq.bs HB hb; (try clear hb); (try clear hb2); (try clear hk); (try clear hi); (try clear ho0); have hcz33_0 := Sq.bc BK259 0 (.bool false); have hcz33_1 := Sq.bc BK259 1 (.slice none 0 0); have hfz33_0 := blk_frozen BK259.out 0; have hfz33_1 := blk_frozen BK259.out 1; obtain ⟨Ao34, co34, eo34⟩ := Kd.R_slice HO274.out; subst eo34)))
   refine bodyPost_ret (results_cell_row rfl _ _ gb259 39 #[.bool t271, .slice Ao34 t272.length co34] (0, 0) _ rfl (by (with_reducible repeat (first | refine blk_drewN ?_ _ | refine blk_drew ?_ | refine blk_alloc ?_ _)); refine blk_put (cs := #[.bool t271, .slice none 0 0]) ?_ 1 _ rfl; (with_reducible repeat (first | refine blk_drewN ?_ _ | refine blk_drew ?_ | refine blk_alloc ?_ _)); refine blk_put (cs := #[.bool false, .slice none 0 0]) ?_ 0 _ rfl; (with_reducible repeat (first | refine blk_drewN ?_ _ | refine blk_drew ?_ | refine blk_alloc ?_ _)); exact BK259.out) Try.underlying39 rfl (by kernel_rfl)) rfl ?_
   exact ⟨_, by first | rfl | (simp [errW_none, errW_some] <;> rfl) | (simp [*, errW_none, errW_some] <;> rfl), by (with_reducible repeat (first | apply Kd.R_alloc | apply Kd.R_drewN | apply Kd.R_drew)); exact Kd.R_mono (Kd.R_far (p := ⟨gb259, 1, none⟩) (Kd.R_far (p := ⟨gb259, 0, none⟩) (Sq.rt HO274.out BK259) (fun _ hk => hk.2) (.bool t271)) (fun _ hk => hk.2) (.slice Ao34 t272.length co34)) (fun _ hk => trivial), Sq.bl HB⟩
  ·rw [if_neg c20] at H
   have c20b0 : (t270 == 0) = false := beq_eq_false_iff_ne.mpr c20
   have c20b1 : (t270 != 0) = true := bne_iff_ne.mpr c20
   replace H := Sq.bd H
   obtain ⟨⟨t275, t278⟩, A35, H⟩ := H
   (try dsimp -simprocs only at H)
   replace H := Sq.bd H
   obtain ⟨⟨t279, t280⟩, A36, H⟩ := H
   (try dsimp -simprocs only at H)
   simp only [Option.some.injEq, Prod.mk.injEq] at H
   obtain ⟨rfl, rfl⟩ := H
   go_enter Try.func63, Try.ntmps63
   go_wp2_with (first | ((with_reducible refine gate_dst (N := 2) rfl ?_); refine box_event ?hg (N := 2) ?hd (cs := #[.bool a0_0, .slice A0_1 l0_1.length c0_1]) (t := 39) ?hr ?_; (case hd => rfl); (case hg => rfl); (case hr => first | (go_simp; done) | (go_simp; rfl)); intro gb257 hg w37 hbox hb; have BK257 := Aside0.mk (hbox); have GW257 := Sq.gw HB hg; have GE257 := Sq.gw HB hg; replace HB := Sq.bs HB hb; clear hb hbox hg) | ((with_reducible refine gate_dst (N := 3) rfl ?_); refine box_event ?hg (N := 3) ?hd (cs := #[.bool a1_0, .slice A1_1 l1_1.length c1_1]) (t := 39) ?hr ?_; (case hd => rfl); (case hg => rfl); (case hr => first | (go_simp; done) | (go_simp; rfl)); intro gb258 hg w38 hbox hb; have BK258 := Aside0.mk (hbox); have GW258 := Sq.gw HB hg; have GE258 := Sq.gw HB hg; have NB257_258 := Sq.nl BK257 hg; have NB258_257 := Sq.ng BK257 hg; replace BK257 := Sq.bb BK257 hb; replace HB := Sq.bs HB hb; clear hb hbox hg) | ((with_reducible refine gate_dst (N := 4) rfl ?_); refine box_event ?hg (N := 4) ?hd (cs := #[.bool false, .slice none 0 0]) (t := 39) ?hr ?_; (case hd => rfl); (case hg => rfl); (case hr => first | (go_simp; done) | (go_simp; rfl)); intro gb259 hg w39 hbox hb; have BK259 := Aside0.mk (hbox); have GW259 := Sq.gw HB hg; have GE259 := Sq.gw HB hg; have NB257_259 := Sq.nl BK257 hg; have NB259_257 := Sq.ng BK257 hg; have NB258_259 := Sq.nl BK258 hg; have NB259_258 := Sq.ng BK258 hg; replace BK257 := Sq.bb BK257 hb; replace BK258 := Sq.bb BK258 hb; replace HB := Sq.bs HB hb; clear hb hbox hg; have hnb40 := NB257_258.out; have hnc40 := NB258_257.out; have hnb41 := NB257_259.out; have hnc41 := NB259_257.out; have hcz42_0 := Sq.bc BK257 0 (.bool a0_0); have hcz42_1 := Sq.bc BK257 1 (.slice A0_1 l0_1.length c0_1); have hfz42_0 := blk_frozen BK257.out 0; have hfz42_1 := blk_frozen BK257.out 1; have hnb43 := NB258_259.out; have hnc43 := NB259_258.out; have hcz44_0 := Sq.bc BK258 0 (.bool a1_0); have hcz44_1 := Sq.bc BK258 1 (.slice A1_1 l1_1.length c1_1); have hfz44_0 := blk_frozen BK258.out 0; have hfz44_1 := blk_frozen BK258.out 1) | (go_at_call 45; (with_reducible refine (nat_Sub.calls (fun k_ => k_ < w.heap.size) _ _ l0_1 _ _ l1_1 t267 t270 _ ?side1 ?side2 ?side3 A19.out).mono ?_); (case side1 => exact Kd.V_mk HC0_1.out (Kd.F_below (Kd.C_F (Kd.heap_int .u32) HR0_1.out) (Sq.bl HB))); (case side2 => exact Sq.ca (Kd.C_below HR1_1.out HB.out)); (case side3 => exact HC1_1.out); rintro e w45 ⟨v268, rfl, ho0, hb⟩; have HO269 := Aside0.mk (Kd.V_lower (Kd.V_mono (ok' := fun k_ => k_ ≠ gb257 ∧ k_ ≠ gb258 ∧ k_ ≠ gb259) ho0 (fun k_ hk_ => ⟨Or.elim hk_ (fun hs_ => fun e_ => Nat.not_le.2 hs_ (by rw [e_]; exact GW257.out)) (fun hn_ => (Sq.fb BK257 k_ hn_)), Or.elim hk_ (fun hs_ => fun e_ => Nat.not_le.2 hs_ (by rw [e_]; exact GW258.out)) (fun hn_ => (Sq.fb BK258 k_ hn_)), Or.elim hk_ (fun hs_ => fun e_ => Nat.not_le.2 hs_ (by rw [e_]; exact GW259.out)) (fun hn_ => (Sq.fb BK259 k_ hn_))⟩)) (below_size (Sq.bl HB))); replace BK257 := Sq.bb BK257 hb; replace BK258 := Sq.bb BK258 hb; replace BK259 := Sq.bb BK259 hb; replace HB := Sq.bs HB hb; (try clear hb); (try clear hb2); (try clear hk); (try clear hi); (try clear ho0); have hcz46_0 := Sq.bc BK258 0 (.bool a1_0); have hcz46_1 := Sq.bc BK258 1 (.slice A1_1 l1_1.length c1_1); have hfz46_0 := blk_frozen BK258.out 0; have hfz46_1 := blk_frozen BK258.out 1; have hcz47_0 := Sq.bc BK257 0 (.bool a0_0); have hcz47_1 := Sq.bc BK257 1 (.slice A0_1 l0_1.length c0_1); have hfz47_0 := blk_frozen BK257.out 0; have hfz47_1 := blk_frozen BK257.out 1) | (go_at_call 45; (with_reducible refine (nat_Sub.calls (fun k_ => k_ < w.heap.size) _ _ l1_1 _ _ l0_1 t275 t278 _ ?side1 ?side2 ?side3 A35.out).mono ?_); (case side1 => exact Kd.V_mk HC1_1.out (Kd.F_below (Kd.C_F (Kd.heap_int .u32) HR1_1.out) (Sq.bl HB))); (case side2 => exact Sq.ca (Kd.C_below HR0_1.out HB.out)); (case side3 => exact HC0_1.out); rintro e w48 ⟨v276, rfl, ho0, hb⟩; replace HO269 := Aside0.mk (Kd.V_below (Sq.al HO269) hb); have HO277 := Aside0.mk (Kd.V_lower (Kd.V_mono (ok' := fun k_ => k_ ≠ gb257 ∧ k_ ≠ gb258 ∧ k_ ≠ gb259) ho0 (fun k_ hk_ => ⟨Or.elim hk_ (fun hs_ => fun e_ => Nat.not_le.2 hs_ (by rw [e_]; exact GW257.out)) (fun hn_ => (Sq.fb BK257 k_ hn_)), Or.elim hk_ (fun hs_ => fun e_ => Nat.not_le.2 hs_ (by rw [e_]; exact GW258.out)) (fun hn_ => (Sq.fb BK258 k_ hn_)), Or.elim hk_ (fun hs_ => fun e_ => Nat.not_le.2 hs_ (by rw [e_]; exact GW259.out)) (fun hn_ => (Sq.fb BK259 k_ hn_))⟩)) (below_size (Sq.bl HB))); replace BK257 := Sq.bb BK257 hb; replace BK258 := Sq.bb BK258 hb; replace BK259 := Sq.bb BK259 hb; replace HB := Sq.bs HB hb; (try clear hb); (try clear hb2); (try clear hk); (try clear hi); (try clear ho0); obtain ⟨Ao49, co49, eo49⟩ := Kd.V_slice HO277.out; subst eo49) | (go_at_call 147; (with_reducible refine (integer_sign_with.calls a1_0 _ _ t275 t279 t280 _ ?side1 ?side2 A36.out).mono ?_); (case side1 => exact Sq.ca (Kd.V_reads' HO277.out).2.2); (case side2 => exact (Kd.V_reads' HO277.out).2.1); rintro e w50 ⟨v281, rfl, ho0, hb⟩; replace HO269 := Aside0.mk (Kd.V_elder' (Sq.al HO269) (Kd.R_base ho0) hb); replace HO277 := Aside0.mk (Kd.V_elder' (Sq.al HO277) (Kd.R_base ho0) hb); have HO282 := Aside0.mk (Kd.R_lower ho0 (below_size (Sq.bl HB))); replace BK257 := Sq.bb BK257 hb; replace BK258 := Sq.bb BK258 hb; replace BK259 := Sq.bb BK259 hb; replace HB := Sq.bs HB hb; (try clear hb); (try clear hb2); (try clear hk); (try clear hi); (try clear ho0); have hcz51_0 := Sq.bc BK259 0 (.bool false); have hcz51_1 := Sq.bc BK259 1 (.slice none 0 0); have hfz51_0 := blk_frozen BK259.out 0; have hfz51_1 := blk_frozen BK259.out 1; obtain ⟨Ao52, co52, eo52⟩ := Kd.R_slice HO282.out; subst eo52))
   repeat (go_quiet (first | ((with_reducible refine gate_dst (N := 2) rfl ?_); refine box_event ?hg (N := 2) ?hd (cs := #[.bool a0_0, .slice A0_1 l0_1.length c0_1]) (t := 39) ?hr ?_; (case hd => rfl); (case hg => rfl); (case hr => first | (go_simp; done) | (go_simp; rfl)); intro gb257 hg w37 hbox hb; have BK257 := Aside0.mk (hbox); have GW257 := Sq.gw HB hg; have GE257 := Sq.gw HB hg; replace HB := Sq.bs HB hb; clear hb hbox hg) | ((with_reducible refine gate_dst (N := 3) rfl ?_); refine box_event ?hg (N := 3) ?hd (cs := #[.bool a1_0, .slice A1_1 l1_1.length c1_1]) (t := 39) ?hr ?_; (case hd => rfl); (case hg => rfl); (case hr => first | (go_simp; done) | (go_simp; rfl)); intro gb258 hg w38 hbox hb; have BK258 := Aside0.mk (hbox); have GW258 := Sq.gw HB hg; have GE258 := Sq.gw HB hg; have NB257_258 := Sq.nl BK257 hg; have NB258_257 := Sq.ng BK257 hg; replace BK257 := Sq.bb BK257 hb; replace HB := Sq.bs HB hb; clear hb hbox hg) | ((with_reducible refine gate_dst (N := 4) rfl ?_); refine box_event ?hg (N := 4) ?hd (cs := #[.bool false, .slice none 0 0]) (t := 39) ?hr ?_; (case hd => rfl); (case hg => rfl); (case hr => first | (go_simp; done) | (go_simp; rfl)); intro gb259 hg w39 hbox hb; have BK259 := Aside0.mk (hbox); have GW259 := Sq.gw HB hg; have GE259 := Sq.gw HB hg; have NB257_259 := Sq.nl BK257 hg; have NB259_257 := Sq.ng BK257 hg; have NB258_259 := Sq.nl BK258 hg; have NB259_258 := Sq.ng BK258 hg; replace BK257 := Sq.bb BK257 hb; replace BK258 := Sq.bb BK258 hb; replace HB := Sq.bs HB hb; clear hb hbox hg; have hnb40 := NB257_258.out; have hnc40 := NB258_257.out; have hnb41 := NB257_259.out; have hnc41 := NB259_257.out; have hcz42_0 := Sq.bc BK257 0 (.bool a0_0); have hcz42_1 := Sq.bc BK257 1 (.slice A0_1 l0_1.length c0_1); have hfz42_0 := blk_frozen BK257.out 0; have hfz42_1 := blk_frozen BK257.out 1; have hnb43 := NB258_259.out; have hnc43 := NB259_258.out; have hcz44_0 := Sq.bc BK258 0 (.bool a1_0); have hcz44_1 := Sq.bc BK258 1 (.slice A1_1 l1_1.length c1_1); have hfz44_0 := blk_frozen BK258.out 0; have hfz44_1 := blk_frozen BK258.out 1) | (go_at_call 45; (with_reducible refine (nat_Sub.calls (fun k_ => k_ < w.heap.size) _ _ l0_1 _ _ l1_1 t267 t270 _ ?side1 ?side2 ?side3 A19.out).mono ?_); (case side1 => exact Kd.V_mk HC0_1.out (Kd.F_below (Kd.C_F (Kd.heap_int .u32) HR0_1.out) (Sq.bl HB))); (case side2 => exact Sq.ca (Kd.C_below HR1_1.out HB.out)); (case side3 => exact HC1_1.out); rintro e w45 ⟨v268, rfl, ho0, hb⟩; have HO269 := Aside0.mk (Kd.V_lower (Kd.V_mono (ok' := fun k_ => k_ ≠ gb257 ∧ k_ ≠ gb258 ∧ k_ ≠ gb259) ho0 (fun k_ hk_ => ⟨Or.elim hk_ (fun hs_ => fun e_ => Nat.not_le.2 hs_ (by rw [e_]; exact GW257.out)) (fun hn_ => (Sq.fb BK257 k_ hn_)), Or.elim hk_ (fun hs_ => fun e_ => Nat.not_le.2 hs_ (by rw [e_]; exact GW258.out)) (fun hn_ => (Sq.fb BK258 k_ hn_)), Or.elim hk_ (fun hs_ => fun e_ => Nat.not_le.2 hs_ (by rw [e_]; exact GW259.out)) (fun hn_ => (Sq.fb BK259 k_ hn_))⟩)) (below_size (Sq.bl HB))); replace BK257 := Sq.bb BK257 hb; replace BK258 := Sq.bb BK258 hb; replace BK259 := Sq.bb BK259 hb; replace HB := Sq.bs HB hb; (try clear hb); (try clear hb2); (try clear hk); (try clear hi); (try clear ho0); have hcz46_0 := Sq.bc BK258 0 (.bool a1_0); have hcz46_1 := Sq.bc BK258 1 (.slice A1_1 l1_1.length c1_1); have hfz46_0 := blk_frozen BK258.out 0; have hfz46_1 := blk_frozen BK258.out 1; have hcz47_0 := Sq.bc BK257 0 (.bool a0_0); have hcz47_1 := Sq.bc BK257 1 (.slice A0_1 l0_1.length c0_1); have hfz47_0 := blk_frozen BK257.out 0; have hfz47_1 := blk_frozen BK257.out 1) | (go_at_call 45; (with_reducible refine (nat_Sub.calls (fun k_ => k_ < w.heap.size) _ _ l1_1 _ _ l0_1 t275 t278 _ ?side1 ?side2 ?side3 A35.out).mono ?_); (case side1 => exact Kd.V_mk HC1_1.out (Kd.F_below (Kd.C_F (Kd.heap_int .u32) HR1_1.out) (Sq.bl HB))); (case side2 => exact Sq.ca (Kd.C_below HR0_1.out HB.out)); (case side3 => exact HC0_1.out); rintro e w48 ⟨v276, rfl, ho0, hb⟩; replace HO269 := Aside0.mk (Kd.V_below (Sq.al HO269) hb); have HO277 := Aside0.mk (Kd.V_lower (Kd.V_mono (ok' := fun k_ => k_ ≠ gb257 ∧ k_ ≠ gb258 ∧ k_ ≠ gb259) ho0 (fun k_ hk_ => ⟨Or.elim hk_ (fun hs_ => fun e_ => Nat.not_le.2 hs_ (by rw [e_]; exact GW257.out)) (fun hn_ => (Sq.fb BK257 k_ hn_)), Or.elim hk_ (fun hs_ => fun e_ => Nat.not_le.2 hs_ (by rw [e_]; exact GW258.out)) (fun hn_ => (Sq.fb BK258 k_ hn_)), Or.elim hk_ (fun hs_ => fun e_ => Nat.not_le.2 hs_ (by rw [e_]; exact GW259.out)) (fun hn_ => (Sq.fb BK259 k_ hn_))⟩)) (below_size (Sq.bl HB))); replace BK257 := Sq.bb BK257 hb; replace BK258 := Sq.bb BK258 hb; replace BK259 := Sq.bb BK259 hb; replace HB := Sq.bs HB hb; (try clear hb); (try clear hb2); (try clear hk); (try clear hi); (try clear ho0); obtain ⟨Ao49, co49, eo49⟩ := Kd.V_slice HO277.out; subst eo49) | (go_at_call 147; (with_reducible refine (integer_sign_with.calls a1_0 _ _ t275 t279 t280 _ ?side1 ?side2 A36.out).mono ?_); (case side1 => exact Sq.ca (Kd.V_reads' HO277.out).2.2); (case side2 => exact (Kd.V_reads' HO277.out).2.1); rintro e w50 ⟨v281, rfl, ho0, hb⟩; replace HO269 := Aside0.mk (Kd.V_elder' (Sq.al HO269) (Kd.R_base ho0) hb); replace HO277 := Aside0.mk (Kd.V_elder' (Sq.al HO277) (Kd.R_base ho0) hb); have HO282 := Aside0.mk (Kd.R_lower ho0 (below_size (Sq.bl HB))); replace BK257 := Sq.bb BK257 hb; replace BK258 := Sq.bb BK258 hb; replace BK259 := Sq.bb BK259 hb; replace HB := Sq.bs HB hb; (try clear hb); (try clear hb2); (try clear hk); (try clear hi); (try clear ho0); have hcz51_0 := Sq.bc BK259 0 (.bool false); have hcz51_1 := Sq.bc BK259 1 (.slice none 0 0); have hfz51_0 := blk_frozen BK259.out 0; have hfz51_1 := blk_frozen BK259.out 1; obtain ⟨Ao52, co52, eo52⟩ := Kd.R_slice HO282.out; subst eo52)); try go_wp2_with (first | ((with_reducible refine gate_dst (N := 2) rfl ?_); refine box_event ?hg (N := 2) ?hd (cs := #[.bool a0_0, .slice A0_1 l0_1.length c0_1]) (t := 39) ?hr ?_; (case hd => rfl); (case hg => rfl); (case hr => first | (go_simp; done) | (go_simp; rfl)); intro gb257 hg w37 hbox hb; have BK257 := Aside0.mk (hbox); have GW257 := Sq.gw HB hg; have GE257 := Sq.gw HB hg; replace HB := Sq.bs HB hb; clear hb hbox hg) | ((with_reducible refine gate_dst (N := 3) rfl ?_); refine box_event ?hg (N := 3) ?hd (cs := #[.bool a1_0, .slice A1_1 l1_1.length c1_1]) (t := 39) ?hr ?_; (case hd => rfl); (case hg => rfl); (case hr => first | (go_simp; done) | (go_simp; rfl)); intro gb258 hg w38 hbox hb; have BK258 := Aside0.mk (hbox); have GW258 := Sq.gw HB hg; have GE258 := Sq.gw HB hg; have NB257_258 := Sq.nl BK257 hg; have NB258_257 := Sq.ng BK257 hg; replace BK257 := Sq.bb BK257 hb; replace HB := Sq.bs HB hb; clear hb hbox hg) | ((with_reducible refine gate_dst (N := 4) rfl ?_); refine box_event ?hg (N := 4) ?hd (cs := #[.bool false, .slice none 0 0]) (t := 39) ?hr ?_; (case hd => rfl); (case hg => rfl); (case hr => first | (go_simp; done) | (go_simp; rfl)); intro gb259 hg w39 hbox hb; have BK259 := Aside0.mk (hbox); have GW259 := Sq.gw HB hg; have GE259 := Sq.gw HB hg; have NB257_259 := Sq.nl BK257 hg; have NB259_257 := Sq.ng BK257 hg; have NB258_259 := Sq.nl BK258 hg; have NB259_258 := Sq.ng BK258 hg; replace BK257 := Sq.bb BK257 hb; replace BK258 := Sq.bb BK258 hb; replace HB := Sq.bs HB hb; clear hb hbox hg; have hnb40 := NB257_258.out; have hnc40 := NB258_257.out; have hnb41 := NB257_259.out; have hnc41 := NB259_257.out; have hcz42_0 := Sq.bc BK257 0 (.bool a0_0); have hcz42_1 := Sq.bc BK257 1 (.slice A0_1 l0_1.length c0_1); have hfz42_0 := blk_frozen BK257.out 0; have hfz42_1 := blk_frozen BK257.out 1; have hnb43 := NB258_259.out; have hnc43 := NB259_258.out; have hcz44_0 := Sq.bc BK258 0 (.bool a1_0); have hcz44_1 := Sq.bc BK258 1 (.slice A1_1 l1_1.length c1_1); have hfz44_0 := blk_frozen BK258.out 0; have hfz44_1 := blk_frozen BK258.out 1) | (go_at_call 45; (with_reducible refine (nat_Sub.calls (fun k_ => k_ < w.heap.size) _ _ l0_1 _ _ l1_1 t267 t270 _ ?side1 ?side2 ?side3 A19.out).mono ?_); (case side1 => exact Kd.V_mk HC0_1.out (Kd.F_below (Kd.C_F (Kd.heap_int .u32) HR0_1.out) (Sq.bl HB))); (case side2 => exact Sq.ca (Kd.C_below HR1_1.out HB.out)); (case side3 => exact HC1_1.out); rintro e w45 ⟨v268, rfl, ho0, hb⟩; have HO269 := Aside0.mk (Kd.V_lower (Kd.V_mono (ok' := fun k_ => k_ ≠ gb257 ∧ k_ ≠ gb258 ∧ k_ ≠ gb259) ho0 (fun k_ hk_ => ⟨Or.elim hk_ (fun hs_ => fun e_ => Nat.not_le.2 hs_ (by rw [e_]; exact GW257.out)) (fun hn_ => (Sq.fb BK257 k_ hn_)), Or.elim hk_ (fun hs_ => fun e_ => Nat.not_le.2 hs_ (by rw [e_]; exact GW258.out)) (fun hn_ => (Sq.fb BK258 k_ hn_)), Or.elim hk_ (fun hs_ => fun e_ => Nat.not_le.2 hs_ (by rw [e_]; exact GW259.out)) (fun hn_ => (Sq.fb BK259 k_ hn_))⟩)) (below_size (Sq.bl HB))); replace BK257 := Sq.bb BK257 hb; replace BK258 := Sq.bb BK258 hb; replace BK259 := Sq.bb BK259 hb; replace HB := Sq.bs HB hb; (try clear hb); (try clear hb2); (try clear hk); (try clear hi); (try clear ho0); have hcz46_0 := Sq.bc BK258 0 (.bool a1_0); have hcz46_1 := Sq.bc BK258 1 (.slice A1_1 l1_1.length c1_1); have hfz46_0 := blk_frozen BK258.out 0; have hfz46_1 := blk_frozen BK258.out 1; have hcz47_0 := Sq.bc BK257 0 (.bool a0_0); have hcz47_1 := Sq.bc BK257 1 (.slice A0_1 l0_1.length c0_1); have hfz47_0 := blk_frozen BK257.out 0; have hfz47_1 := blk_frozen BK257.out 1) | (go_at_call 45; (with_reducible refine (nat_Sub.calls (fun k_ => k_ < w.heap.size) _ _ l1_1 _ _ l0_1 t275 t278 _ ?side1 ?side2 ?side3 A35.out).mono ?_); (case side1 => exact Kd.V_mk HC1_1.out (Kd.F_below (Kd.C_F (Kd.heap_int .u32) HR1_1.out) (Sq.bl HB))); (case side2 => exact Sq.ca (Kd.C_below HR0_1.out HB.out)); (case side3 => exact HC0_1.out); rintro e w48 ⟨v276, rfl, ho0, hb⟩; replace HO269 := Aside0.mk (Kd.V_below (Sq.al HO269) hb); have HO277 := Aside0.mk (Kd.V_lower (Kd.V_mono (ok' := fun k_ => k_ ≠ gb257 ∧ k_ ≠ gb258 ∧ k_ ≠ gb259) ho0 (fun k_ hk_ => ⟨Or.elim hk_ (fun hs_ => fun e_ => Nat.not_le.2 hs_ (by rw [e_]; exact GW257.out)) (fun hn_ => (Sq.fb BK257 k_ hn_)), Or.elim hk_ (fun hs_ => fun e_ => Nat.not_le.2 hs_ (by rw [e_]; exact GW258.out)) (fun hn_ => (Sq.fb BK258 k_ hn_)), Or.elim hk_ (fun hs_ => fun e_ => Nat.not_le.2 hs_ (by rw [e_]; exact GW259.out)) (fun hn_ => (Sq.fb BK259 k_ hn_))⟩)) (below_size (Sq.bl HB))); replace BK257 := Sq.bb BK257 hb; replace BK258 := Sq.bb BK258 hb; replace BK259 := Sq.bb BK259 hb; replace HB := Sq.bs HB hb; (try clear hb); (try clear hb2); (try clear hk); (try clear hi); (try clear ho0); obtain ⟨Ao49, co49, eo49⟩ := Kd.V_slice HO277.out; subst eo49) | (go_at_call 147; (with_reducible refine (integer_sign_with.calls a1_0 _ _ t275 t279 t280 _ ?side1 ?side2 A36.out).mono ?_); (case side1 => exact Sq.ca (Kd.V_reads' HO277.out).2.2); (case side2 => exact (Kd.V_reads' HO277.out).2.1); rintro e w50 ⟨v281, rfl, ho0, hb⟩; replace HO269 := Aside0.mk (Kd.V_elder' (Sq.al HO269) (Kd.R_base ho0) hb); replace HO277 := Aside0.mk (Kd.V_elder' (Sq.al HO277) (Kd.R_base ho0) hb); have HO282 := Aside0.mk (Kd.R_lower ho0 (below_size (Sq.bl HB))); replace BK257 := Sq.bb BK257 hb; replace BK258 := Sq.bb BK258 hb; replace BK259 := Sq.bb BK259 hb; replace HB := Sq.bs HB hb; (try clear hb); (try clear hb2); (try clear hk); (try clear hi); (try clear ho0); have hcz51_0 := Sq.bc BK259 0 (.bool false); have hcz51_1 := Sq.bc BK259 1 (.slice none 0 0); have hfz51_0 := blk_frozen BK259.out 0; have hfz51_1 := blk_frozen BK259.out 1; obtain ⟨Ao52, co52, eo52⟩ := Kd.R_slice HO282.out; subst eo52)))
   refine bodyPost_ret (results_cell_row rfl _ _ gb259 39 #[.bool t279, .slice Ao52 t280.length co52] (0, 0) _ rfl (by (with_reducible repeat (first | refine blk_drewN ?_ _ | refine blk_drew ?_ | refine blk_alloc ?_ _)); refine blk_put (cs := #[.bool t279, .slice none 0 0]) ?_ 1 _ rfl; (with_reducible repeat (first | refine blk_drewN ?_ _ | refine blk_drew ?_ | refine blk_alloc ?_ _)); refine blk_put (cs := #[.bool false, .slice none 0 0]) ?_ 0 _ rfl; (with_reducible repeat (first | refine blk_drewN ?_ _ | refine blk_drew ?_ | refine blk_alloc ?_ _)); exact BK259.out) Try.underlying39 rfl (by kernel_rfl)) rfl ?_
   exact ⟨_, by first | rfl | (simp [errW_none, errW_some] <;> rfl) | (simp [*, errW_none, errW_some] <;> rfl), by (with_reducible repeat (first | apply Kd.R_alloc | apply Kd.R_drewN | apply Kd.R_drew)); exact Kd.R_mono (Kd.R_far (p := ⟨gb259, 1, none⟩) (Kd.R_far (p := ⟨gb259, 0, none⟩) (Sq.rt HO282.out BK259) (fun _ hk => hk.2) (.bool t279)) (fun _ hk => hk.2) (.slice Ao52 t280.length co52)) (fun _ hk => trivial), Sq.bl HB⟩
def nat_Mul.f (l0 : List Int) (l1 : List Int) : Option (List Int) := if Nt.fits l0 ∧ Nt.fits l1 then some (Nt.ofN (Nt.val l0 * Nt.val l1)) else none
theorem nat_Mul.calls (A0 : Option Addr) (c0 : Nat) (l0 : List Int) (A1 : Option Addr) (c1 : Nat) (l1 : List Int) (r : List Int) (w : World) (hr0 : Kd.C (Kd.int .u32) w A0 l0.length l0) (hc0 : l0.length ≤ c0) (hr1 : Kd.C (Kd.int .u32) w A1 l1.length l1) (hc1 : l1.length ≤ c1) (h : nat_Mul.f l0 l1 = some r) :
  Calls Try.prog 43 #[.slice A0 l0.length c0, .slice A1 l1.length c1] w fun e w' => ∃ v0_ : Value, e = .returned (v0_) ∧ Kd.V (Kd.int .u32) 107 w' w.heap.size (fun k_ => (w.heap.size ≤ k_)) v0_ r ∧ Below w.heap.size w w' := by
 unfold nat_Mul.f at h
 split at h
 ·rename_i hf
  injection h with h
  subst h
  obtain ⟨K, hK⟩ := Nt.mul_ev hf.1.1 hf.2.1 (by have := hf.1.2; have := hf.2.2; omega)
  exact N.nat_Mul.calls K A0 c0 l0 A1 c1 l1 _ w hr0 hc0 hr1 hc1 (hK K (Nat.le_refl _))
 ·cases h
def integer_Mul.f (a0_0 : Bool) (l0_1 : List Int) (a1_0 : Bool) (l1_1 : List Int) : Option (Bool × List Int) := (nat_Mul.f l0_1 l1_1).bind fun t286 => ((integer_sign_with.f (a0_0 != a1_0) t286).bind fun bt289 => (some (bt289.1, bt289.2)))
def integer_Mul.T1 : Bool × List (List Nat × List Nat) := (true, [([], []), ([0], [0]), ([], []), ([2], [2]), ([1, 3], [1, 3]), ([], []), ([5], [5]), ([], []), ([7], [7]), ([6, 8], [6, 8]), ([4, 9, 9], [4, 9]), ([10, 10, 0, 1, 2, 3, 4, 5, 6, 7, 8, 9, 10], [10])])
def integer_Mul.B1 : List Nat := [0, 1, 0, 4, 15, 0, 32, 0, 128, 480, 1023, 2047]
theorem integer_Mul.tab1 : rtab .any (opsOf Try.f64 1) = integer_Mul.T1 := by kernel_rfl
theorem integer_Mul.bits1 : waitsOk integer_Mul.T1.2 integer_Mul.B1 = true := by kernel_rfl
set_option maxHeartbeats 8000000 in
set_option maxRecDepth 100000 in
theorem integer_Mul.calls (a0_0 : Bool) (A0_1 : Option Addr) (c0_1 : Nat) (l0_1 : List Int) (a1_0 : Bool) (A1_1 : Option Addr) (c1_1 : Nat) (l1_1 : List Int) (r1 : Bool) (r2 : List Int) (w : World) (hr0_1 : Kd.C (Kd.int .u32) w A0_1 l0_1.length l0_1) (hc0_1 : l0_1.length ≤ c0_1) (hr1_1 : Kd.C (Kd.int .u32) w A1_1 l1_1.length l1_1) (hc1_1 : l1_1.length ≤ c1_1) (h : integer_Mul.f a0_0 l0_1 a1_0 l1_1 = some (r1, r2)) :
  Calls Try.prog 64 #[.agg #[.bool a0_0, .slice A0_1 l0_1.length c0_1], .agg #[.bool a1_0, .slice A1_1 l1_1.length c1_1]] w fun e w' => ∃ v1_ : Value, e = .returned (.agg #[.bool r1, v1_]) ∧ Kd.R (Kd.int .u32) 107 w' w.heap.size (fun _ => True) v1_ r2 ∧ Below w.heap.size w w' := by
 have hu39 := Try.underlying39
 have HR0_1 := Aside0.mk hr0_1
 have HC0_1 := Aside0.mk hc0_1
 clear hr0_1 hc0_1
 have HR1_1 := Aside0.mk hr1_1
 have HC1_1 := Aside0.mk hc1_1
 clear hr1_1 hc1_1
 have HB := Aside0.mk (Below.refl w.heap.size w)
 have H : ((nat_Mul.f l0_1 l1_1).bind fun t286 => ((integer_sign_with.f (a0_0 != a1_0) t286).bind fun bt289 => (some (bt289.1, bt289.2)))) = some (r1, r2) := h
 clear h
 replace H := Sq.bd H
 obtain ⟨t286, A3, H⟩ := H
 (try dsimp -simprocs only at H)
 replace H := Sq.bd H
 obtain ⟨⟨t289, t290⟩, A4, H⟩ := H
 (try dsimp -simprocs only at H)
 simp only [Option.some.injEq, Prod.mk.injEq] at H
 obtain ⟨rfl, rfl⟩ := H
 go_enter Try.func64, Try.ntmps64
 try go_wp2_with (first | ((with_reducible refine gate_dst (N := 2) rfl ?_); refine box_event ?hg (N := 2) ?hd (cs := #[.bool a0_0, .slice A0_1 l0_1.length c0_1]) (t := 39) ?hr ?_; (case hd => rfl); (case hg => rfl); (case hr => first | (go_simp; done) | (go_simp; rfl)); intro gb283 hg w5 hbox hb; have BK283 := Aside0.mk (hbox); have GW283 := Sq.gw HB hg; have GE283 := Sq.gw HB hg; replace HB := Sq.bs HB hb; clear hb hbox hg) | ((with_reducible refine gate_dst (N := 3) rfl ?_); refine box_event ?hg (N := 3) ?hd (cs := #[.bool a1_0, .slice A1_1 l1_1.length c1_1]) (t := 39) ?hr ?_; (case hd => rfl); (case hg => rfl); (case hr => first | (go_simp; done) | (go_simp; rfl)); intro gb284 hg w6 hbox hb; have BK284 := Aside0.mk (hbox); have GW284 := Sq.gw HB hg; have GE284 := Sq.gw HB hg; have NB283_284 := Sq.nl BK283 hg; have NB284_283 := Sq.ng BK283 hg; replace BK283 := Sq.bb BK283 hb; replace HB := Sq.bs HB hb; clear hb hbox hg) | ((with_reducible refine gate_dst (N := 4) rfl ?_); refine box_event ?hg (N := 4) ?hd (cs := #[.bool false, .slice none 0 0]) (t := 39) ?hr ?_; (case hd => rfl); (case hg => rfl); (case hr => first | (go_simp; done) | (go_simp; rfl)); intro gb285 hg w7 hbox hb; have BK285 := Aside0.mk (hbox); have GW285 := Sq.gw HB hg; have GE285 := Sq.gw HB hg; have NB283_285 := Sq.nl BK283 hg; have NB285_283 := Sq.ng BK283 hg; have NB284_285 := Sq.nl BK284 hg; have NB285_284 := Sq.ng BK284 hg; replace BK283 := Sq.bb BK283 hb; replace BK284 := Sq.bb BK284 hb; replace HB := Sq.bs HB hb; clear hb hbox hg))
 replace BK283 := Aside0.mk (blk_drew BK283.out)
 replace BK284 := Aside0.mk (blk_drew BK284.out)
 replace BK285 := Aside0.mk (blk_drew BK285.out)
 replace HB := Aside0.mk (below_drew1 HB.out)
 refine start_ (n := 12) (S := fun w' => w'.cell? ⟨gb283, 0, none⟩ = some (.bool a0_0) ∧ w'.cell? ⟨gb283, 1, none⟩ = some (.slice A0_1 l0_1.length c0_1) ∧ w'.cell? ⟨gb284, 0, none⟩ = some (.bool a1_0) ∧ w'.cell? ⟨gb284, 1, none⟩ = some (.slice A1_1 l1_1.length c1_1)) (ds := []) #[false, false, false, false, false, false, false, false, false, false, false, false] (by kernel_rfl) rfl rfl ⟨(blk_cell BK283.out 0).trans rfl, (blk_cell BK283.out 1).trans rfl, (blk_cell BK284.out 0).trans rfl, (blk_cell BK284.out 1).trans rfl⟩ (fun hHeld => ?_); refine with_tabW integer_Mul.tab1 integer_Mul.bits1 (fun HT_ HW_ => ?_)
 generalize w7.drew = w8 at BK283 BK284 BK285 HB hHeld ⊢
 refine Sq.pu (v := ?_) (a' := ?_) 0 (some 5) #[true, false, false, false, false, false, false, false, false, false, false, false] HT_ ?_ ?_ ?_
 rotate_left
 ·intro w'
  go_simp
  with_reducible rfl
 rotate_left
 ·simp only [Act.put, List.setIfInBounds_toArray, List.set_cons_zero, List.set_cons_succ, i64_w, i32_w]
  rfl
 refine Sq.pu (v := ?_) (a' := ?_) 2 (some 7) #[true, false, true, false, false, false, false, false, false, false, false, false] HT_ ?_ ?_ ?_
 rotate_left
 ·intro w'
  go_simp
  with_reducible rfl
 rotate_left
 ·simp only [Act.put, List.setIfInBounds_toArray, List.set_cons_zero, List.set_cons_succ, i64_w, i32_w]
  rfl
 refine Sq.pu (v := ?_) (a' := ?_) 5 (some 10) #[true, false, true, false, false, true, false, false, false, false, false, false] HT_ ?_ ?_ ?_
 rotate_left
 ·intro w'
  go_simp
  with_reducible rfl
 rotate_left
 ·simp only [Act.put, List.setIfInBounds_toArray, List.set_cons_zero, List.set_cons_succ, i64_w, i32_w]
  rfl
 refine Sq.pu (v := ?_) (a' := ?_) 7 (some 12) #[true, false, true, false, false, true, false, true, false, false, false, false] HT_ ?_ ?_ ?_
 rotate_left
 ·intro w'
  go_simp
  with_reducible rfl
 rotate_left
 ·simp only [Act.put, List.setIfInBounds_toArray, List.set_cons_zero, List.set_cons_succ, i64_w, i32_w]
  rfl
 refine Sq.tk (v := ?_) (a' := ?_) 1 (some 6) #[true, true, true, false, false, true, false, true, false, false, false, false] HT_ HW_ hHeld ?_ ?_ ?_
 rotate_left
 ·rintro w' ⟨s0, s1, s2, s3⟩
  go_simp
  with_reducible rfl
 rotate_left
 ·simp only [Act.put, List.setIfInBounds_toArray, List.set_cons_zero, List.set_cons_succ, i64_w, i32_w]
  rfl
 refine Sq.tk (v := ?_) (a' := ?_) 3 (some 8) #[true, true, true, true, false, true, false, true, false, false, false, false] HT_ HW_ hHeld ?_ ?_ ?_
 rotate_left
 ·rintro w' ⟨s0, s1, s2, s3⟩
  go_simp
  with_reducible rfl
 rotate_left
 ·simp only [Act.put, List.setIfInBounds_toArray, List.set_cons_zero, List.set_cons_succ, i64_w, i32_w]
  rfl
 refine Sq.pu (v := ?_) (a' := ?_) 4 (some 9) #[true, true, true, true, true, true, false, true, false, false, false, false] HT_ ?_ ?_ ?_
 rotate_left
 ·intro w'
  go_simp
  with_reducible rfl
 rotate_left
 ·simp only [Act.put, List.setIfInBounds_toArray, List.set_cons_zero, List.set_cons_succ, i64_w, i32_w]
  rfl
 refine Sq.tk (v := ?_) (a' := ?_) 6 (some 11) #[true, true, true, true, true, true, true, true, false, false, false, false] HT_ HW_ hHeld ?_ ?_ ?_
 rotate_left
 ·rintro w' ⟨s0, s1, s2, s3⟩
  go_simp
  with_reducible rfl
 rotate_left
 ·simp only [Act.put, List.setIfInBounds_toArray, List.set_cons_zero, List.set_cons_succ, i64_w, i32_w]
  rfl
 refine Sq.tk (v := ?_) (a' := ?_) 8 (some 13) #[true, true, true, true, true, true, true, true, true, false, false, false] HT_ HW_ hHeld ?_ ?_ ?_
 rotate_left
 ·rintro w' ⟨s0, s1, s2, s3⟩
  go_simp
  with_reducible rfl
 rotate_left
 ·simp only [Act.put, List.setIfInBounds_toArray, List.set_cons_zero, List.set_cons_succ, i64_w, i32_w]
  rfl
 refine one_ (i := 9) (N := some 14) #[true, true, true, true, true, true, true, true, true, true, false, false] rfl rfl (one_of HT_.out (by kernel_rfl)) (by decide) (fun K hK => ?_)
 refine goes_ Try.func43 (by kernel_rfl) rfl #[.slice A0_1 l0_1.length c0_1, .slice A1_1 l1_1.length c1_1] (by rfl) rfl rfl (by (try simp only [List.map_toArray, List.map_cons, List.map_nil]); first | done | rfl | (simp only [List.length_drop, List.length_take]; rfl)) ?_
 with_reducible refine (nat_Mul.calls _ _ l0_1 _ _ l1_1 t286 _ ?side1 ?side2 ?side3 ?side4 A3.out).mono ?_
 (case side1 => exact Sq.ca (Kd.C_below HR0_1.out HB.out))
 (case side2 => exact HC0_1.out)
 (case side3 => exact Sq.ca (Kd.C_below HR1_1.out HB.out))
 (case side4 => exact HC1_1.out)
 rintro e w9 ⟨v287, rfl, ho0, hb⟩
 refine ⟨_, rfl, ?_⟩
 have HO288 := Aside0.mk (Kd.V_lower (Kd.V_mono (ok' := fun k_ => k_ ≠ gb283 ∧ k_ ≠ gb284 ∧ k_ ≠ gb285) ho0 (fun k_ hk_ => ⟨(Sq.fb BK283 k_ hk_), (Sq.fb BK284 k_ hk_), (Sq.fb BK285 k_ hk_)⟩)) (below_size (Sq.bl HB)))
 replace BK283 := Sq.bb BK283 hb
 replace BK284 := Sq.bb BK284 hb
 replace BK285 := Sq.bb BK285 hb
 replace HB := Sq.bs HB hb
 (try clear hb)
 (try clear hb2)
 (try clear hk)
 (try clear hi)
 (try clear ho0)
 obtain ⟨Ao10, co10, eo10⟩ := Kd.V_slice HO288.out
 (first | subst eo10 | (injection eo10 with f1_ f2_ f3_; have f4_ := f1_.symm; have f5_ := f3_.symm; clear f1_ f2_ f3_; subst f4_; subst f5_))
 refine hK.out _ _ ⟨(blk_cell BK283.out 0).trans rfl, (blk_cell BK283.out 1).trans rfl, (blk_cell BK284.out 0).trans rfl, (blk_cell BK284.out 1).trans rfl⟩ (fun hHeld => ?_)
 clear hK K
 refine norm_ (a' := ?_) ?_ ?_
 rotate_left
 ·show Act.put _ (some 14) _ = _
  simp only [Act.put, List.setIfInBounds_toArray, List.set_cons_zero, List.set_cons_succ, i64_w, i32_w]
  rfl
 refine one_ (i := 10) (N := some 15) #[true, true, true, true, true, true, true, true, true, true, true, false] rfl rfl (one_of HT_.out (by kernel_rfl)) (by decide) (fun K hK => ?_)
 refine goes_ Try.func147 (by kernel_rfl) rfl #[.bool (a0_0 != a1_0), .slice Ao10 t286.length co10] (by rfl) rfl rfl (by (try simp only [List.map_toArray, List.map_cons, List.map_nil]); first | done | rfl | (simp only [List.length_drop, List.length_take]; rfl)) ?_
 with_reducible refine (integer_sign_with.calls (a0_0 != a1_0) _ _ t286 t289 t290 _ ?side1 ?side2 A4.out).mono ?_
 (case side1 => exact Sq.ca (Kd.V_reads' HO288.out).2.2)
 (case side2 => exact (Kd.V_reads' HO288.out).2.1)
 rintro e w11 ⟨v291, rfl, ho0, hb⟩
 refine ⟨_, rfl, ?_⟩
 replace HO288 := Aside0.mk (Kd.V_elder' (Sq.al HO288) (Kd.R_base ho0) hb)
 have HO292 := Aside0.mk (Kd.R_lower ho0 (below_size (Sq.bl HB)))
 replace BK283 := Sq.bb BK283 hb
 replace BK284 := Sq.bb BK284 hb
 replace BK285 := Sq.bb BK285 hb
 replace HB := Sq.bs HB hb
 (try clear hb)
 (try clear hb2)
 (try clear hk)
 (try clear hi)
 (try clear ho0)
 obtain ⟨Ao13, co13, eo13⟩ := Kd.R_slice HO292.out
 (first | subst eo13 | (injection eo13 with f1_ f2_ f3_; have f4_ := f1_.symm; have f5_ := f3_.symm; clear f1_ f2_ f3_; subst f4_; subst f5_))
 refine hK.out _ _ ⟨(blk_cell BK283.out 0).trans rfl, (blk_cell BK283.out 1).trans rfl, (blk_cell BK284.out 0).trans rfl, (blk_cell BK284.out 1).trans rfl⟩ (fun hHeld => ?_)
 clear hK K
 refine norm_ (a' := ?_) ?_ ?_
 rotate_left
 ·show Act.put _ (some 15) _ = _
  simp only [Act.put, List.setIfInBounds_toArray, List.set_cons_zero, List.set_cons_succ, i64_w, i32_w]
  rfl
 refine one_ (i := 11) (N := none) #[true, true, true, true, true, true, true, true, true, true, true, true] rfl rfl (one_of HT_.out (by kernel_rfl)) (by decide) (fun K hK => ?_)
 have hs12 : w11.cell? ⟨gb285, 0, none⟩ = some (.bool false) := (blk_cell BK285.out 0).trans rfl
 have hfs12 := blk_frozen BK285.out 0
 have hns12_0 := NB283_285.out
 have hns12_1 := NB284_285.out
 have hms12_0 := NB285_283.out
 have hms12_1 := NB285_284.out
 have hs14 : w11.cell? ⟨gb285, 1, none⟩ = some (.slice none 0 0) := (blk_cell BK285.out 1).trans rfl
 have hfs14 := blk_frozen BK285.out 1
 have hns14_0 := NB283_285.out
 have hns14_1 := NB284_285.out
 have hms14_0 := NB285_283.out
 have hms14_1 := NB285_284.out
 refine skip_ (w1 := ?_) (by rfl) rfl ?_ ?_
 rotate_left
 ·go_simp
  rfl
 refine hK.out _ _ ⟨((cell_far (p := ⟨gb285, _, none⟩) NB283_285.out _).trans (((cell_far (p := ⟨gb285, _, none⟩) NB283_285.out _).trans (hHeld.1)))), ((cell_far (p := ⟨gb285, _, none⟩) NB283_285.out _).trans (((cell_far (p := ⟨gb285, _, none⟩) NB283_285.out _).trans (hHeld.2.1)))), ((cell_far (p := ⟨gb285, _, none⟩) NB284_285.out _).trans (((cell_far (p := ⟨gb285, _, none⟩) NB284_285.out _).trans (hHeld.2.2.1)))), ((cell_far (p := ⟨gb285, _, none⟩) NB284_285.out _).trans (((cell_far (p := ⟨gb285, _, none⟩) NB284_285.out _).trans (hHeld.2.2.2))))⟩ (fun hHeld => ?_)
 clear hK K
 refine done_ (done_of HT_.out (by kernel_rfl)) ?_
 try go_wp2
 refine bodyPost_ret (results_cell_row rfl _ _ gb285 39 #[.bool t289, .slice Ao13 t290.length co13] (0, 0) _ rfl (by (with_reducible repeat (first | refine blk_drewN ?_ _ | refine blk_drew ?_ | refine blk_alloc ?_ _)); refine blk_put (cs := #[.bool t289, .slice none 0 0]) ?_ 1 _ rfl; (with_reducible repeat (first | refine blk_drewN ?_ _ | refine blk_drew ?_ | refine blk_alloc ?_ _)); refine blk_put (cs := #[.bool false, .slice none 0 0]) ?_ 0 _ rfl; (with_reducible repeat (first | refine blk_drewN ?_ _ | refine blk_drew ?_ | refine blk_alloc ?_ _)); exact BK285.out) Try.underlying39 rfl (by kernel_rfl)) rfl ?_
 exact ⟨_, by first | rfl | (simp [errW_none, errW_some] <;> rfl) | (simp [*, errW_none, errW_some] <;> rfl), by (with_reducible repeat (first | apply Kd.R_alloc | apply Kd.R_drewN | apply Kd.R_drew)); exact Kd.R_mono (Kd.R_far (p := ⟨gb285, 1, none⟩) (Kd.R_far (p := ⟨gb285, 0, none⟩) (Sq.rt HO292.out BK285) (fun _ hk => hk.2) (.bool t289)) (fun _ hk => hk.2) (.slice Ao13 t290.length co13)) (fun _ hk => trivial), Sq.bl HB⟩
def nat_Cmp.f (l0 : List Int) (l1 : List Int) : Option (Int) := if Nt.fits l0 ∧ Nt.fits l1 then some (if Nt.val l0 < Nt.val l1 then -1 else if Nt.val l1 < Nt.val l0 then 1 else 0) else none
theorem nat_Cmp.calls (A0 : Option Addr) (c0 : Nat) (l0 : List Int) (A1 : Option Addr) (c1 : Nat) (l1 : List Int) (r : Int) (w : World) (hr0 : Kd.C (Kd.int .u32) w A0 l0.length l0) (hc0 : l0.length ≤ c0) (hr1 : Kd.C (Kd.int .u32) w A1 l1.length l1) (hc1 : l1.length ≤ c1) (h : nat_Cmp.f l0 l1 = some r) :
  Calls Try.prog 44 #[.slice A0 l0.length c0, .slice A1 l1.length c1] w fun e w' => e = .returned (.int .i64 r) ∧ Below w.heap.size w w' := by
 unfold nat_Cmp.f at h
 split at h
 ·rename_i hf
  injection h with h
  subst h
  obtain ⟨K, hK⟩ := Nt.cmp_ev hf.1.1 hf.2.1 (by have := hf.1.2; omega) (by have := hf.2.2; omega)
  exact N.nat_Cmp.calls K A0 c0 l0 A1 c1 l1 _ w hr0 hc0 hr1 hc1 (hK K (Nat.le_refl _))
 ·cases h
def integer_Cmp.j0 : Nat → Bool → Bool → List Int → Bool → List Int → Option (Int)
 | 0, _, _, _, _, _ => none
 | k + 1, x9, x311000, x311001, x312000, x312001 => if x9 = true then ((nat_Cmp.f x312001 x311001).bind fun t320 => (some t320)) else (if x311000 = true then (some (-1)) else (if x312000 = true then (some 1) else ((nat_Cmp.f x311001 x312001).bind fun t321 => (some t321))))
def integer_Cmp.f (k : Nat) (a0_0 : Bool) (l0_1 : List Int) (a1_0 : Bool) (l1_1 : List Int) : Option (Int) := (integer_Norm.f a0_0 l0_1).bind fun bt312 => ((integer_Norm.f a1_0 l1_1).bind fun bt316 => (if bt312.1 = true then (integer_Cmp.j0 k bt316.1 bt312.1 bt312.2 bt316.1 bt316.2) else (integer_Cmp.j0 k false bt312.1 bt312.2 bt316.1 bt316.2)))
set_option maxHeartbeats 8000000 in
set_option maxRecDepth 100000 in
theorem integer_Cmp.calls (k : Nat) (a0_0 : Bool) (A0_1 : Option Addr) (c0_1 : Nat) (l0_1 : List Int) (a1_0 : Bool) (A1_1 : Option Addr) (c1_1 : Nat) (l1_1 : List Int) (r : Int) (w : World) (hr0_1 : Kd.C (Kd.int .u32) w A0_1 l0_1.length l0_1) (hc0_1 : l0_1.length ≤ c0_1) (hr1_1 : Kd.C (Kd.int .u32) w A1_1 l1_1.length l1_1) (hc1_1 : l1_1.length ≤ c1_1) (h : integer_Cmp.f k a0_0 l0_1 a1_0 l1_1 = some r) :
  Calls Try.prog 72 #[.agg #[.bool a0_0, .slice A0_1 l0_1.length c0_1], .agg #[.bool a1_0, .slice A1_1 l1_1.length c1_1]] w fun e w' => e = .returned (.int .i64 r) ∧ Below w.heap.size w w' := by
 have hu39 := Try.underlying39
 have HR0_1 := Aside0.mk hr0_1
 have HC0_1 := Aside0.mk hc0_1
 clear hr0_1 hc0_1
 have HR1_1 := Aside0.mk hr1_1
 have HC1_1 := Aside0.mk hc1_1
 clear hr1_1 hc1_1
 have HB := Aside0.mk (Below.refl w.heap.size w)
 have H : ((integer_Norm.f a0_0 l0_1).bind fun bt312 => ((integer_Norm.f a1_0 l1_1).bind fun bt316 => (if bt312.1 = true then (integer_Cmp.j0 k bt316.1 bt312.1 bt312.2 bt316.1 bt316.2) else (integer_Cmp.j0 k false bt312.1 bt312.2 bt316.1 bt316.2)))) = some r := h
 clear h
 replace H := Sq.bd H
 obtain ⟨⟨t312, t313⟩, A3, H⟩ := H
 (try dsimp -simprocs only at H)
 replace H := Sq.bd H
 obtain ⟨⟨t316, t317⟩, A4, H⟩ := H
 (try dsimp -simprocs only at H)
 have HC5 := Aside0.mk H
 clear H
 go_enter Try.func72, Try.ntmps72
 try go_wp2_with (first | ((with_reducible refine gate_dst (N := 2) rfl ?_); refine box_event ?hg (N := 2) ?hd (cs := #[.bool a0_0, .slice A0_1 l0_1.length c0_1]) (t := 39) ?hr ?_; (case hd => rfl); (case hg => rfl); (case hr => first | (go_simp; done) | (go_simp; rfl)); intro gb310 hg w6 hbox hb; have BK310 := Aside0.mk (hbox); have GW310 := Sq.gw HB hg; have GE310 := Sq.gw HB hg; replace HB := Sq.bs HB hb; clear hb hbox hg) | ((with_reducible refine gate_dst (N := 3) rfl ?_); refine box_event ?hg (N := 3) ?hd (cs := #[.bool a1_0, .slice A1_1 l1_1.length c1_1]) (t := 39) ?hr ?_; (case hd => rfl); (case hg => rfl); (case hr => first | (go_simp; done) | (go_simp; rfl)); intro gb311 hg w7 hbox hb; have BK311 := Aside0.mk (hbox); have GW311 := Sq.gw HB hg; have GE311 := Sq.gw HB hg; have NB310_311 := Sq.nl BK310 hg; have NB311_310 := Sq.ng BK310 hg; replace BK310 := Sq.bb BK310 hb; replace HB := Sq.bs HB hb; clear hb hbox hg))
 replace BK310 := Aside0.mk (blk_drew BK310.out)
 replace BK311 := Aside0.mk (blk_drew BK311.out)
 replace HB := Aside0.mk (below_drew1 HB.out)
 refine start_ (n := 6) (S := fun w' => w'.cell? ⟨gb310, 0, none⟩ = some (.bool a0_0) ∧ w'.cell? ⟨gb310, 1, none⟩ = some (.slice A0_1 l0_1.length c0_1) ∧ w'.cell? ⟨gb311, 0, none⟩ = some (.bool a1_0) ∧ w'.cell? ⟨gb311, 1, none⟩ = some (.slice A1_1 l1_1.length c1_1)) (ds := [4, 5]) #[false, false, false, false, false, false] (by kernel_rfl) rfl rfl ⟨(blk_cell BK310.out 0).trans rfl, (blk_cell BK310.out 1).trans rfl, (blk_cell BK311.out 0).trans rfl, (blk_cell BK311.out 1).trans rfl⟩ (fun hHeld => ?_)
 generalize w7.drew = w8 at BK310 BK311 HB hHeld ⊢
 refine take_ (i := 0) (N := some 5) (v := ?_) (a' := ?_) #[true, false, false, false, false, false] rfl rfl (by kernel_rfl) (fun _ _ _ h => h) (Or.inl ⟨by rfl, ?_⟩) hHeld ?_ ?_
 rotate_left
 ·rintro w' ⟨s0, s1, s2, s3⟩
  go_simp
  with_reducible rfl
 rotate_left
 ·simp only [Act.put, List.setIfInBounds_toArray, List.set_cons_zero, List.set_cons_succ, i64_w, i32_w]
  rfl
 refine take_ (i := 2) (N := some 7) (v := ?_) (a' := ?_) #[true, false, true, false, false, false] rfl rfl (by kernel_rfl) (fun _ _ _ h => h) (Or.inl ⟨by rfl, ?_⟩) hHeld ?_ ?_
 rotate_left
 ·rintro w' ⟨s0, s1, s2, s3⟩
  go_simp
  with_reducible rfl
 rotate_left
 ·simp only [Act.put, List.setIfInBounds_toArray, List.set_cons_zero, List.set_cons_succ, i64_w, i32_w]
  rfl
 refine one_ (i := 1) (N := some 6) #[true, true, true, false, false, false] rfl rfl (by kernel_rfl) (by decide) (fun K hK => ?_)
 refine goes_ Try.func62 (by kernel_rfl) rfl #[.agg #[.bool a0_0, .slice A0_1 l0_1.length c0_1]] (by rfl) rfl rfl (by (try simp only [List.map_toArray, List.map_cons, List.map_nil]); first | done | rfl | (simp only [List.length_drop, List.length_take]; rfl)) ?_
 with_reducible refine (integer_Norm.calls a0_0 _ _ l0_1 t312 t313 _ ?side1 ?side2 A3.out).mono ?_
 (case side1 => exact Sq.ca (Kd.C_below HR0_1.out HB.out))
 (case side2 => exact HC0_1.out)
 rintro e w9 ⟨v314, rfl, ho0, hb⟩
 refine ⟨_, rfl, ?_⟩
 have HO315 := Aside0.mk (Kd.R_lower ho0 (below_size (Sq.bl HB)))
 replace BK310 := Sq.bb BK310 hb
 replace BK311 := Sq.bb BK311 hb
 replace HB := Sq.bs HB hb
 (try clear hb)
 (try clear hb2)
 (try clear hk)
 (try clear hi)
 (try clear ho0)
 refine hK.out _ _ ⟨(blk_cell BK310.out 0).trans rfl, (blk_cell BK310.out 1).trans rfl, (blk_cell BK311.out 0).trans rfl, (blk_cell BK311.out 1).trans rfl⟩ (fun hHeld => ?_)
 clear hK K
 refine norm_ (a' := ?_) ?_ ?_
 rotate_left
 ·show Act.put _ (some 6) _ = _
  simp only [Act.put, List.setIfInBounds_toArray, List.set_cons_zero, List.set_cons_succ, i64_w, i32_w]
  rfl
 refine one_ (i := 3) (N := some 8) #[true, true, true, true, false, false] rfl rfl (by kernel_rfl) (by decide) (fun K hK => ?_)
 refine goes_ Try.func62 (by kernel_rfl) rfl #[.agg #[.bool a1_0, .slice A1_1 l1_1.length c1_1]] (by rfl) rfl rfl (by (try simp only [List.map_toArray, List.map_cons, List.map_nil]); first | done | rfl | (simp only [List.length_drop, List.length_take]; rfl)) ?_
 with_reducible refine (integer_Norm.calls a1_0 _ _ l1_1 t316 t317 _ ?side1 ?side2 A4.out).mono ?_
 (case side1 => exact Sq.ca (Kd.C_below HR1_1.out HB.out))
 (case side2 => exact HC1_1.out)
 rintro e w10 ⟨v318, rfl, ho0, hb⟩
 refine ⟨_, rfl, ?_⟩
 have HO319 := Aside0.mk (Kd.R_lower (Kd.R_new' ho0 (Kd.R_lt (Sq.al HO315))) (below_size (Sq.bl HB)))
 replace BK310 := Sq.bb BK310 hb
 replace BK311 := Sq.bb BK311 hb
 replace HO315 := Aside0.mk (Kd.R_elder' (Sq.al HO315) (Kd.R_base ho0) hb)
 replace HB := Sq.bs HB hb
 (try clear hb)
 (try clear hb2)
 (try clear hk)
 (try clear hi)
 (try clear ho0)
 obtain ⟨Ao12, co12, eo12⟩ := Kd.R_slice HO315.out
 (first | subst eo12 | (injection eo12 with f1_ f2_ f3_; have f4_ := f1_.symm; have f5_ := f3_.symm; clear f1_ f2_ f3_; subst f4_; subst f5_))
 obtain ⟨Ao15, co15, eo15⟩ := Kd.R_slice HO319.out
 (first | subst eo15 | (injection eo15 with f1_ f2_ f3_; have f4_ := f1_.symm; have f5_ := f3_.symm; clear f1_ f2_ f3_; subst f4_; subst f5_))
 refine hK.out _ _ ⟨(blk_cell BK310.out 0).trans rfl, (blk_cell BK310.out 1).trans rfl, (blk_cell BK311.out 0).trans rfl, (blk_cell BK311.out 1).trans rfl⟩ (fun hHeld => ?_)
 clear hK K
 refine norm_ (a' := ?_) ?_ ?_
 rotate_left
 ·show Act.put _ (some 8) _ = _
  simp only [Act.put, List.setIfInBounds_toArray, List.set_cons_zero, List.set_cons_succ, i64_w, i32_w]
  rfl
 refine last_ (i := 4) (N := none) #[true, true, true, true, true, false] rfl rfl (by kernel_rfl) (by decide) (fun K hK => ?_)
 have hs11 : w10.cell? ⟨gb310, 0, none⟩ = some (.bool a0_0) := (blk_cell BK310.out 0).trans rfl
 have hfs11 := blk_frozen BK310.out 0
 have hns11_1 := NB311_310.out
 have hms11_1 := NB310_311.out
 have hs13 : w10.cell? ⟨gb310, 1, none⟩ = some (.slice A0_1 l0_1.length c0_1) := (blk_cell BK310.out 1).trans rfl
 have hfs13 := blk_frozen BK310.out 1
 have hns13_1 := NB311_310.out
 have hms13_1 := NB310_311.out
 refine skip_ (w1 := ?_) (by rfl) rfl ?_ ?_
 rotate_left
 ·go_simp
  rfl
 refine hK.out _ _ ?_
 clear hK K
 refine last_ (i := 5) (N := none) #[true, true, true, true, true, true] rfl rfl (by kernel_rfl) (by decide) (fun K hK => ?_)
 have hs14 : w10.cell? ⟨gb311, 0, none⟩ = some (.bool a1_0) := (blk_cell BK311.out 0).trans rfl
 have hfs14 := blk_frozen BK311.out 0
 have hns14_0 := NB310_311.out
 have hms14_0 := NB311_310.out
 have hs16 : w10.cell? ⟨gb311, 1, none⟩ = some (.slice A1_1 l1_1.length c1_1) := (blk_cell BK311.out 1).trans rfl
 have hfs16 := blk_frozen BK311.out 1
 have hns16_0 := NB310_311.out
 have hms16_0 := NB311_310.out
 refine skip_ (w1 := ?_) (by rfl) rfl ?_ ?_
 rotate_left
 ·go_simp
  rfl
 refine hK.out _ _ ?_
 clear hK K
 refine done_ (by kernel_rfl) ?_
 go_upto_region 2 with (fail)
 go_cut [9] (fun v9 wc => ∃ (kq : Nat) (x9_4 : Bool), v9 = .bool x9_4 ∧ Aside0 (integer_Cmp.j0 kq x9_4 t312 t313 t316 t317 = some r) ∧ Aside0 (kq ≤ k) ∧ Aside0 (Kd.R (Kd.int .u32) 107 wc w.heap.size (fun k_ => some k_ ≠ ((.slice Ao15 t317.length co15) : Value).ownBlock) (.slice Ao12 t313.length co12) t313) ∧ Aside0 (Kd.R (Kd.int .u32) 107 wc w.heap.size (fun k_ => some k_ ≠ ((.slice Ao12 t313.length co12) : Value).ownBlock) (.slice Ao15 t317.length co15) t317) ∧ Aside0 (wc.heap[gb310]? = some (.cells #[.bool t312, (.slice Ao12 t313.length co12)] 39 (0, 0))) ∧ Aside0 (wc.heap[gb311]? = some (.cells #[.bool t316, (.slice Ao15 t317.length co15)] 39 (0, 0))) ∧ Aside0 (Below w.heap.size w wc))
 case first =>
  have H := HC5.out
  clear HC5
  by_cases c17 : t312 = true
  ·subst c17
   have H1 : (integer_Cmp.j0 k t316 true t313 t316 t317) = some r := by rw [if_pos rfl] at H; exact H
   clear H
   have H := H1
   clear H1
   have H' := Aside0.mk H
   clear H
   have hnb18 := NB310_311.out
   have hnc18 := NB311_310.out
   have hcz19_0 := Sq.bc BK310 0 (.bool a0_0)
   have hcz19_1 := Sq.bc BK310 1 (.slice A0_1 l0_1.length c0_1)
   have hfz19_0 := blk_frozen BK310.out 0
   have hfz19_1 := blk_frozen BK310.out 1
   have hcz20_0 := Sq.bc BK311 0 (.bool a1_0)
   have hcz20_1 := Sq.bc BK311 1 (.slice A1_1 l1_1.length c1_1)
   have hfz20_0 := blk_frozen BK311.out 0
   have hfz20_1 := blk_frozen BK311.out 1
   go_wp2
   go_meet
   case rel => exact ⟨_, (t316), (by first | rfl | (simp; done) | (simp [*]; done)), H', ⟨by first | omega | exact Nat.le_refl _⟩, ⟨by (with_reducible repeat (first | apply Kd.R_alloc | apply Kd.R_drewN | apply Kd.R_drew)); exact Kd.R_mono (Kd.R_far (p := ⟨gb311, 1, none⟩) (Kd.R_far (p := ⟨gb311, 0, none⟩) (Kd.R_far (p := ⟨gb310, 1, none⟩) (Kd.R_far (p := ⟨gb310, 0, none⟩) (Sq.rt (Sq.rt HO315.out BK310) BK311) (fun _ hk => hk.1.2) (.bool true)) (fun _ hk => hk.1.2) (.slice Ao12 t313.length co12)) (fun _ hk => hk.2) (.bool t316)) (fun _ hk => hk.2) (.slice Ao15 t317.length co15)) (fun _ hk => hk.1.1.2)⟩, ⟨by (with_reducible repeat (first | apply Kd.R_alloc | apply Kd.R_drewN | apply Kd.R_drew)); exact Kd.R_mono (Kd.R_far (p := ⟨gb311, 1, none⟩) (Kd.R_far (p := ⟨gb311, 0, none⟩) (Kd.R_far (p := ⟨gb310, 1, none⟩) (Kd.R_far (p := ⟨gb310, 0, none⟩) (Sq.rt (Sq.rt HO319.out BK310) BK311) (fun _ hk => hk.1.2) (.bool true)) (fun _ hk => hk.1.2) (.slice Ao12 t313.length co12)) (fun _ hk => hk.2) (.bool t316)) (fun _ hk => hk.2) (.slice Ao15 t317.length co15)) (fun _ hk => hk.1.1.2)⟩, ⟨by (with_reducible repeat (first | refine blk_drewN ?_ _ | refine blk_drew ?_ | refine blk_alloc ?_ _)); refine blk_far ?_ NB310_311.out _; (with_reducible repeat (first | refine blk_drewN ?_ _ | refine blk_drew ?_ | refine blk_alloc ?_ _)); refine blk_far ?_ NB310_311.out _; (with_reducible repeat (first | refine blk_drewN ?_ _ | refine blk_drew ?_ | refine blk_alloc ?_ _)); refine blk_put (cs := #[.bool true, .slice A0_1 l0_1.length c0_1]) ?_ 1 _ rfl; (with_reducible repeat (first | refine blk_drewN ?_ _ | refine blk_drew ?_ | refine blk_alloc ?_ _)); refine blk_put (cs := #[.bool a0_0, .slice A0_1 l0_1.length c0_1]) ?_ 0 _ rfl; (with_reducible repeat (first | refine blk_drewN ?_ _ | refine blk_drew ?_ | refine blk_alloc ?_ _)); exact BK310.out⟩, ⟨by (with_reducible repeat (first | refine blk_drewN ?_ _ | refine blk_drew ?_ | refine blk_alloc ?_ _)); refine blk_put (cs := #[.bool t316, .slice A1_1 l1_1.length c1_1]) ?_ 1 _ rfl; (with_reducible repeat (first | refine blk_drewN ?_ _ | refine blk_drew ?_ | refine blk_alloc ?_ _)); refine blk_put (cs := #[.bool a1_0, .slice A1_1 l1_1.length c1_1]) ?_ 0 _ rfl; (with_reducible repeat (first | refine blk_drewN ?_ _ | refine blk_drew ?_ | refine blk_alloc ?_ _)); refine blk_far ?_ NB311_310.out _; (with_reducible repeat (first | refine blk_drewN ?_ _ | refine blk_drew ?_ | refine blk_alloc ?_ _)); refine blk_far ?_ NB311_310.out _; (with_reducible repeat (first | refine blk_drewN ?_ _ | refine blk_drew ?_ | refine blk_alloc ?_ _)); exact BK311.out⟩, ⟨Sq.bl HB⟩⟩
  ·replace c17 := Bool.eq_false_iff.mpr c17
   subst c17
   have H1 : (integer_Cmp.j0 k false false t313 t316 t317) = some r := by rw [if_neg (show ¬ (false = true) by decide)] at H; exact H
   clear H
   have H := H1
   clear H1
   have H' := Aside0.mk H
   clear H
   have hnb21 := NB310_311.out
   have hnc21 := NB311_310.out
   have hcz22_0 := Sq.bc BK310 0 (.bool a0_0)
   have hcz22_1 := Sq.bc BK310 1 (.slice A0_1 l0_1.length c0_1)
   have hfz22_0 := blk_frozen BK310.out 0
   have hfz22_1 := blk_frozen BK310.out 1
   go_wp2
   go_meet
   case rel => exact ⟨_, (false), (by first | rfl | (simp; done) | (simp [*]; done)), H', ⟨by first | omega | exact Nat.le_refl _⟩, ⟨by (with_reducible repeat (first | apply Kd.R_alloc | apply Kd.R_drewN | apply Kd.R_drew)); exact Kd.R_mono (Kd.R_far (p := ⟨gb311, 1, none⟩) (Kd.R_far (p := ⟨gb311, 0, none⟩) (Kd.R_far (p := ⟨gb310, 1, none⟩) (Kd.R_far (p := ⟨gb310, 0, none⟩) (Sq.rt (Sq.rt HO315.out BK310) BK311) (fun _ hk => hk.1.2) (.bool false)) (fun _ hk => hk.1.2) (.slice Ao12 t313.length co12)) (fun _ hk => hk.2) (.bool t316)) (fun _ hk => hk.2) (.slice Ao15 t317.length co15)) (fun _ hk => hk.1.1.2)⟩, ⟨by (with_reducible repeat (first | apply Kd.R_alloc | apply Kd.R_drewN | apply Kd.R_drew)); exact Kd.R_mono (Kd.R_far (p := ⟨gb311, 1, none⟩) (Kd.R_far (p := ⟨gb311, 0, none⟩) (Kd.R_far (p := ⟨gb310, 1, none⟩) (Kd.R_far (p := ⟨gb310, 0, none⟩) (Sq.rt (Sq.rt HO319.out BK310) BK311) (fun _ hk => hk.1.2) (.bool false)) (fun _ hk => hk.1.2) (.slice Ao12 t313.length co12)) (fun _ hk => hk.2) (.bool t316)) (fun _ hk => hk.2) (.slice Ao15 t317.length co15)) (fun _ hk => hk.1.1.2)⟩, ⟨by (with_reducible repeat (first | refine blk_drewN ?_ _ | refine blk_drew ?_ | refine blk_alloc ?_ _)); refine blk_far ?_ NB310_311.out _; (with_reducible repeat (first | refine blk_drewN ?_ _ | refine blk_drew ?_ | refine blk_alloc ?_ _)); refine blk_far ?_ NB310_311.out _; (with_reducible repeat (first | refine blk_drewN ?_ _ | refine blk_drew ?_ | refine blk_alloc ?_ _)); refine blk_put (cs := #[.bool false, .slice A0_1 l0_1.length c0_1]) ?_ 1 _ rfl; (with_reducible repeat (first | refine blk_drewN ?_ _ | refine blk_drew ?_ | refine blk_alloc ?_ _)); refine blk_put (cs := #[.bool a0_0, .slice A0_1 l0_1.length c0_1]) ?_ 0 _ rfl; (with_reducible repeat (first | refine blk_drewN ?_ _ | refine blk_drew ?_ | refine blk_alloc ?_ _)); exact BK310.out⟩, ⟨by (with_reducible repeat (first | refine blk_drewN ?_ _ | refine blk_drew ?_ | refine blk_alloc ?_ _)); refine blk_put (cs := #[.bool t316, .slice A1_1 l1_1.length c1_1]) ?_ 1 _ rfl; (with_reducible repeat (first | refine blk_drewN ?_ _ | refine blk_drew ?_ | refine blk_alloc ?_ _)); refine blk_put (cs := #[.bool a1_0, .slice A1_1 l1_1.length c1_1]) ?_ 0 _ rfl; (with_reducible repeat (first | refine blk_drewN ?_ _ | refine blk_drew ?_ | refine blk_alloc ?_ _)); refine blk_far ?_ NB311_310.out _; (with_reducible repeat (first | refine blk_drewN ?_ _ | refine blk_drew ?_ | refine blk_alloc ?_ _)); refine blk_far ?_ NB311_310.out _; (with_reducible repeat (first | refine blk_drewN ?_ _ | refine blk_drew ?_ | refine blk_alloc ?_ _)); exact BK311.out⟩, ⟨Sq.bl HB⟩⟩
 case rest =>
  clear HC5
  try clear c1
  try clear c2
  try clear p2
  try clear c6
  try clear c7
  try clear c17
  try clear c18
  try clear c21
  try clear hcz19_0
  try clear hcz19_1
  try clear hcz20_0
  try clear hcz20_1
  try clear hcz22_0
  try clear hcz22_1
  try clear hfz19_0
  try clear hfz19_1
  try clear hfz20_0
  try clear hfz20_1
  try clear hfz22_0
  try clear hfz22_1
  obtain ⟨kq, x9_4, rfl, HA, HJ4, HO_311001, HO_312001, BK310, BK311, HB⟩ := hcut
  cases kq with
  | zero => exact absurd HA.out (by simp [integer_Cmp.j0])
  | succ kj4 =>
   have H := HA.out
   clear HA
   simp only [integer_Cmp.j0] at H
   by_cases c23 : x9_4 = true
   ·subst c23
    have H1 : ((nat_Cmp.f t317 t313).bind fun t320 => (some t320)) = some r := by rw [if_pos rfl] at H; exact H
    clear H
    have H := H1
    clear H1
    replace H := Sq.bd H
    obtain ⟨t320, A24, H⟩ := H
    (try dsimp -simprocs only at H)
    obtain rfl := Option.some.inj H
    have hnb25 := NB311_310.out
    have hnc25 := NB310_311.out
    have hcz26_0 := Sq.bc BK311 0 (.bool t316)
    have hcz26_1 := Sq.bc BK311 1 (.slice Ao15 t317.length co15)
    have hfz26_0 := blk_frozen BK311.out 0
    have hfz26_1 := blk_frozen BK311.out 1
    have hcz27_0 := Sq.bc BK310 0 (.bool t312)
    have hcz27_1 := Sq.bc BK310 1 (.slice Ao12 t313.length co12)
    have hfz27_0 := blk_frozen BK310.out 0
    have hfz27_1 := blk_frozen BK310.out 1
    go_wp2_with (first | ((with_reducible refine gate_callee (f := 44) rfl ?_); refine Sq.gl (some 20) Try.func44 #[.slice Ao15 t317.length co15, .slice Ao12 t313.length co12] ?_; (with_reducible refine (nat_Cmp.calls _ _ t317 _ _ t313 t320 _ ?side1 ?side2 ?side3 ?side4 A24.out).mono ?_); (case side1 => exact Sq.ca (Kd.R_reads' HO_312001.out).2.2); (case side2 => exact (Kd.R_reads' HO_312001.out).2.1); (case side3 => exact Sq.ca (Kd.R_reads' HO_311001.out).2.2); (case side4 => exact (Kd.R_reads' HO_311001.out).2.1); rintro e w28 ⟨rfl, hb⟩; refine ⟨_, rfl, ?_⟩; replace HO_311001 := Aside0.mk (Kd.R_below (Sq.al HO_311001) hb); replace HO_312001 := Aside0.mk (Kd.R_below (Sq.al HO_312001) hb); replace BK310 := Sq.bb BK310 hb; replace BK311 := Sq.bb BK311 hb; replace HB := Sq.bs HB hb; (try clear hb); (try clear hb2); (try clear hk); (try clear hi)))
    go_ret
    exact ⟨by first | rfl | (simp [errW_none, errW_some] <;> rfl) | (simp [*, errW_none, errW_some] <;> rfl), Sq.bl HB⟩
   ·replace c23 := Bool.eq_false_iff.mpr c23
    subst c23
    have H1 : (if t312 = true then (some (-1)) else (if t316 = true then (some 1) else ((nat_Cmp.f t313 t317).bind fun t321 => (some t321)))) = some r := by rw [if_neg (show ¬ (false = true) by decide)] at H; exact H
    clear H
    have H := H1
    clear H1
    by_cases c29 : t312 = true
    ·subst c29
     have H1 : (some (-1)) = some r := by rw [if_pos rfl] at H; exact H
     clear H
     have H := H1
     clear H1
     obtain rfl := Option.some.inj H
     have hnb30 := NB310_311.out
     have hnc30 := NB311_310.out
     have hcz31_0 := Sq.bc BK310 0 (.bool true)
     have hcz31_1 := Sq.bc BK310 1 (.slice Ao12 t313.length co12)
     have hfz31_0 := blk_frozen BK310.out 0
     have hfz31_1 := blk_frozen BK310.out 1
     go_wp2
     go_ret
     exact ⟨by first | rfl | (simp [errW_none, errW_some] <;> rfl) | (simp [*, errW_none, errW_some] <;> rfl), Sq.bl HB⟩
    ·replace c29 := Bool.eq_false_iff.mpr c29
     subst c29
     have H1 : (if t316 = true then (some 1) else ((nat_Cmp.f t313 t317).bind fun t321 => (some t321))) = some r := by rw [if_neg (show ¬ (false = true) by decide)] at H; exact H
     clear H
     have H := H1
     clear H1
     by_cases c32 : t316 = true
     ·subst c32
      have H1 : (some 1) = some r := by rw [if_pos rfl] at H; exact H
      clear H
      have H := H1
      clear H1
      obtain rfl := Option.some.inj H
      have hnb33 := NB310_311.out
      have hnc33 := NB311_310.out
      have hcz34_0 := Sq.bc BK310 0 (.bool false)
      have hcz34_1 := Sq.bc BK310 1 (.slice Ao12 t313.length co12)
      have hfz34_0 := blk_frozen BK310.out 0
      have hfz34_1 := blk_frozen BK310.out 1
      have hcz35_0 := Sq.bc BK311 0 (.bool true)
      have hcz35_1 := Sq.bc BK311 1 (.slice Ao15 t317.length co15)
      have hfz35_0 := blk_frozen BK311.out 0
      have hfz35_1 := blk_frozen BK311.out 1
      go_wp2
      go_ret
      exact ⟨by first | rfl | (simp [errW_none, errW_some] <;> rfl) | (simp [*, errW_none, errW_some] <;> rfl), Sq.bl HB⟩
     ·replace c32 := Bool.eq_false_iff.mpr c32
      subst c32
      have H1 : ((nat_Cmp.f t313 t317).bind fun t321 => (some t321)) = some r := by rw [if_neg (show ¬ (false = true) by decide)] at H; exact H
      clear H
      have H := H1
      clear H1
      replace H := Sq.bd H
      obtain ⟨t321, A36, H⟩ := H
      (try dsimp -simprocs only at H)
      obtain rfl := Option.some.inj H
      have hnb37 := NB310_311.out
      have hnc37 := NB311_310.out
      have hcz38_0 := Sq.bc BK310 0 (.bool false)
      have hcz38_1 := Sq.bc BK310 1 (.slice Ao12 t313.length co12)
      have hfz38_0 := blk_frozen BK310.out 0
      have hfz38_1 := blk_frozen BK310.out 1
      have hcz39_0 := Sq.bc BK311 0 (.bool false)
      have hcz39_1 := Sq.bc BK311 1 (.slice Ao15 t317.length co15)
      have hfz39_0 := blk_frozen BK311.out 0
      have hfz39_1 := blk_frozen BK311.out 1
      go_wp2_with (first | ((with_reducible refine gate_callee (f := 44) rfl ?_); refine Sq.gl (some 31) Try.func44 #[.slice Ao12 t313.length co12, .slice Ao15 t317.length co15] ?_; (with_reducible refine (nat_Cmp.calls _ _ t313 _ _ t317 t321 _ ?side1 ?side2 ?side3 ?side4 A36.out).mono ?_); (case side1 => exact Sq.ca (Kd.R_reads' HO_311001.out).2.2); (case side2 => exact (Kd.R_reads' HO_311001.out).2.1); (case side3 => exact Sq.ca (Kd.R_reads' HO_312001.out).2.2); (case side4 => exact (Kd.R_reads' HO_312001.out).2.1); rintro e w40 ⟨rfl, hb⟩; refine ⟨_, rfl, ?_⟩; replace HO_311001 := Aside0.mk (Kd.R_below (Sq.al HO_311001) hb); replace HO_312001 := Aside0.mk (Kd.R_below (Sq.al HO_312001) hb); replace BK310 := Sq.bb BK310 hb; replace BK311 := Sq.bb BK311 hb; replace HB := Sq.bs HB hb; (try clear hb); (try clear hb2); (try clear hk); (try clear hi)))
      go_ret
      exact ⟨by first | rfl | (simp [errW_none, errW_some] <;> rfl) | (simp [*, errW_none, errW_some] <;> rfl), Sq.bl HB⟩
end Go.Proofs.Ytaclkccgjpjdjaa.I
