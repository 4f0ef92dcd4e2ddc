import Derived.Test.YtaclkccgjpjdjaaQlfccecgnoiBRx0
import Derived.Test.YtaclkccgjpjdjaaQjkeigghlgoBRx1
import Derived.Test.YtaclkccgjpjdjaaQipcojhjkmgM
namespace Go.Proofs.Ytaclkccgjpjdjaa.BR
open Go.RowKit Go.Proofs.YtaclkccgjpjdjaaW.PrintWords Go.Proofs.YtaclkccgjpjdjaaW.PrintLast Go.Proofs.YtaclkccgjpjdjaaW.PrintMore
attribute [local go_sem] max2_int min2_int max_two min_two max_three min_three max_four min_four   -- for this text's walks alone
set_option linter.unusedVariables false
set_option linter.unusedSimpArgs false
def foliotlaw02_IntegerRest.j0 : Nat → Int → Bool → Bool → List Int → Bool → List Int → Bool → List Int → Bool → List Int → Option (Bool)
 | 0, _, _, _, _, _, _, _, _, _, _ => none
 | k + 1, x7, x9, x160000, x160001, x161000, x161001, x173000, x173001, x186000, x186001 => (integer_Sign.f x161000 x161001).bind fun t188 => (if t188 < 0 then ((integer_Sign.f x173000 x173001).bind fun t189 => (if t189 ≤ 0 then ((integer_Cmp.f x173000 x173001 x161000 x161001).bind fun t190 => (if x7 = 0 then ((integer_Norm.f x160000 x160001).bind fun bt191 => ((foliotlaw02_same.f k x186000 x186001 bt191.1 bt191.2).bind fun t195 => (if t195 = true then (if t190 > 0 then ((foliotlaw02_awake.f).bind fun t196 => (some t196)) else (none)) else (none)))) else (none))) else (if x7 = 0 then ((integer_Norm.f x160000 x160001).bind fun bt197 => ((foliotlaw02_same.f k x186000 x186001 bt197.1 bt197.2).bind fun t201 => (if t201 = true then (none) else (none)))) else (none)))) else (if x7 = 0 then ((integer_Norm.f x160000 x160001).bind fun bt202 => ((foliotlaw02_same.f k x186000 x186001 bt202.1 bt202.2).bind fun t206 => (if t206 = true then (if x9 = true then ((foliotlaw02_awake.f).bind fun t207 => (some t207)) else (none)) else (none)))) else (none)))
def foliotlaw02_IntegerRest.f (k : Nat) (a0_0 : Bool) (l0_1 : List Int) (a1_0 : Bool) (l1_1 : List Int) : Option (Bool) := (foliotlaw02_few.f a0_0 l0_1 a1_0 l1_1).bind fun t161 => (if t161 = true then ((integer_Div.f a0_0 l0_1 a1_0 l1_1).bind fun bt162 => ((integer_Sign.f a1_0 l1_1).bind fun t173 => (if t173 = 0 then (if bt162.2.2.2.2 = 3 then ((foliotlaw02_same.f k bt162.1 bt162.2.1 false ([] : List Int)).bind fun t174 => (if t174 = true then ((foliotlaw02_same.f k bt162.2.2.1 bt162.2.2.2.1 false ([] : List Int)).bind fun t175 => (if t175 = true then ((foliotlaw02_awake.f).bind fun t176 => (some t176)) else (none))) else (none))) else (none)) else ((integer_Mul.f bt162.1 bt162.2.1 a1_0 l1_1).bind fun bt177 => ((integer_Add.f bt177.1 bt177.2 bt162.2.2.1 bt162.2.2.2.1).bind fun bt181 => ((integer_Sign.f bt162.2.2.1 bt162.2.2.2.1).bind fun t186 => (if t186 ≥ 0 then ((integer_Cmp.f bt162.2.2.1 bt162.2.2.2.1 a1_0 l1_1).bind fun t187 => (foliotlaw02_IntegerRest.j0 k bt162.2.2.2.2 (decide (t187 < 0)) a0_0 l0_1 a1_0 l1_1 bt162.2.2.1 bt162.2.2.2.1 bt181.1 bt181.2)) else (foliotlaw02_IntegerRest.j0 k bt162.2.2.2.2 false a0_0 l0_1 a1_0 l1_1 bt162.2.2.1 bt162.2.2.2.1 bt181.1 bt181.2)))))))) else (some true))
def foliotlaw02_IntegerRest.T10 : Bool × List (List Nat × List Nat) := (true, [([], []), ([0], [0]), ([1], [1]), ([2], [2]), ([2], [2]), ([4, 2, 2], [2, 4]), ([3, 5, 5, 2], [2, 3, 5]), ([2, 6], [2, 6]), ([7, 6], [7]), ([8], [8]), ([8, 9], [8, 9]), ([10, 8], [10]), ([11, 11], [11]), ([11, 12], [11, 12]), ([13, 12, 0, 1, 2, 3, 4, 5, 6, 7, 8, 9, 10, 11, 12, 13], [13])])
def foliotlaw02_IntegerRest.B10 : List Nat := [0, 1, 3, 7, 7, 23, 63, 127, 255, 511, 1023, 2047, 4095, 8191, 16383]
theorem foliotlaw02_IntegerRest.tab10 : rtab .any (opsOf Try.f14 10) = foliotlaw02_IntegerRest.T10 := by kernel_rfl
theorem foliotlaw02_IntegerRest.bits10 : waitsOk foliotlaw02_IntegerRest.T10.2 foliotlaw02_IntegerRest.B10 = true := by kernel_rfl
set_option maxHeartbeats 8000000 in
set_option maxRecDepth 100000 in
theorem foliotlaw02_IntegerRest.calls (k : Nat) (a0_0 : Bool) (A0_1 : Option Addr) (c0_1 : Nat) (l0_1 : List Int) (a1_0 : Bool) (A1_1 : Option Addr) (c1_1 : Nat) (l1_1 : List Int) (r : Bool) (w : World) (hr0_1 : Kd.C (Kd.int .u32) w A0_1 l0_1.length l0_1) (hc0_1 : l0_1.length ≤ c0_1) (hr1_1 : Kd.C (Kd.int .u32) w A1_1 l1_1.length l1_1) (hc1_1 : l1_1.length ≤ c1_1) (h : foliotlaw02_IntegerRest.f k a0_0 l0_1 a1_0 l1_1 = some r) :
  Calls Try.prog 14 #[.agg #[.bool a0_0, .slice A0_1 l0_1.length c0_1], .agg #[.bool a1_0, .slice A1_1 l1_1.length c1_1]] w fun e w' => e = .returned (.bool r) ∧ Below w.heap.size w w' := by
 have hu39 := Try.underlying39
 have HR0_1 := Aside0.mk hr0_1
 have HC0_1 := Aside0.mk hc0_1
 clear hr0_1 hc0_1
 have HR1_1 := Aside0.mk hr1_1
 have HC1_1 := Aside0.mk hc1_1
 clear hr1_1 hc1_1
 have HB := Aside0.mk (Below.refl w.heap.size w)
 have H : ((foliotlaw02_few.f a0_0 l0_1 a1_0 l1_1).bind fun t161 => (if t161 = true then ((integer_Div.f a0_0 l0_1 a1_0 l1_1).bind fun bt162 => ((integer_Sign.f a1_0 l1_1).bind fun t173 => (if t173 = 0 then (if bt162.2.2.2.2 = 3 then ((foliotlaw02_same.f k bt162.1 bt162.2.1 false ([] : List Int)).bind fun t174 => (if t174 = true then ((foliotlaw02_same.f k bt162.2.2.1 bt162.2.2.2.1 false ([] : List Int)).bind fun t175 => (if t175 = true then ((foliotlaw02_awake.f).bind fun t176 => (some t176)) else (none))) else (none))) else (none)) else ((integer_Mul.f bt162.1 bt162.2.1 a1_0 l1_1).bind fun bt177 => ((integer_Add.f bt177.1 bt177.2 bt162.2.2.1 bt162.2.2.2.1).bind fun bt181 => ((integer_Sign.f bt162.2.2.1 bt162.2.2.2.1).bind fun t186 => (if t186 ≥ 0 then ((integer_Cmp.f bt162.2.2.1 bt162.2.2.2.1 a1_0 l1_1).bind fun t187 => (foliotlaw02_IntegerRest.j0 k bt162.2.2.2.2 (decide (t187 < 0)) a0_0 l0_1 a1_0 l1_1 bt162.2.2.1 bt162.2.2.2.1 bt181.1 bt181.2)) else (foliotlaw02_IntegerRest.j0 k bt162.2.2.2.2 false a0_0 l0_1 a1_0 l1_1 bt162.2.2.1 bt162.2.2.2.1 bt181.1 bt181.2)))))))) else (some true))) = some r := h
 clear h
 replace H := Sq.bd H
 obtain ⟨t161, A3, H⟩ := H
 (try dsimp -simprocs only at H)
 by_cases c4 : t161 = true
 ·subst c4
  have H1 : ((integer_Div.f a0_0 l0_1 a1_0 l1_1).bind fun bt162 => ((integer_Sign.f a1_0 l1_1).bind fun t173 => (if t173 = 0 then (if bt162.2.2.2.2 = 3 then ((foliotlaw02_same.f k bt162.1 bt162.2.1 false ([] : List Int)).bind fun t174 => (if t174 = true then ((foliotlaw02_same.f k bt162.2.2.1 bt162.2.2.2.1 false ([] : List Int)).bind fun t175 => (if t175 = true then ((foliotlaw02_awake.f).bind fun t176 => (some t176)) else (none))) else (none))) else (none)) else ((integer_Mul.f bt162.1 bt162.2.1 a1_0 l1_1).bind fun bt177 => ((integer_Add.f bt177.1 bt177.2 bt162.2.2.1 bt162.2.2.2.1).bind fun bt181 => ((integer_Sign.f bt162.2.2.1 bt162.2.2.2.1).bind fun t186 => (if t186 ≥ 0 then ((integer_Cmp.f bt162.2.2.1 bt162.2.2.2.1 a1_0 l1_1).bind fun t187 => (foliotlaw02_IntegerRest.j0 k bt162.2.2.2.2 (decide (t187 < 0)) a0_0 l0_1 a1_0 l1_1 bt162.2.2.1 bt162.2.2.2.1 bt181.1 bt181.2)) else (foliotlaw02_IntegerRest.j0 k bt162.2.2.2.2 false a0_0 l0_1 a1_0 l1_1 bt162.2.2.1 bt162.2.2.2.1 bt181.1 bt181.2)))))))) = some r := by rw [if_pos rfl] at H; exact H
  clear H
  have H := H1
  clear H1
  replace H := Sq.bd H
  obtain ⟨⟨t162, t163, t166, t167, t170⟩, A5, H⟩ := H
  (try dsimp -simprocs only at H)
  replace H := Sq.bd H
  obtain ⟨t173, A6, H⟩ := H
  (try dsimp -simprocs only at H)
  by_cases c7 : t173 = 0
  ·rw [if_pos c7] at H
   have c7b0 : (t173 == 0) = true := beq_iff_eq.mpr c7
   have c7b1 : (t173 != 0) = false := bne_eq_false_iff_eq.mpr c7
   clear c7
   replace H := Sq.ifs H
   obtain ⟨c8, H⟩ := H
   have c8b0 : (t170 == 3) = true := beq_iff_eq.mpr c8
   have c8b1 : (t170 != 3) = false := bne_eq_false_iff_eq.mpr c8
   clear c8
   replace H := Sq.bd H
   obtain ⟨t174, A9, H⟩ := H
   (try dsimp -simprocs only at H)
   by_cases c10 : t174 = true
   ·subst c10
    have H1 : ((foliotlaw02_same.f k t166 t167 false ([] : List Int)).bind fun t175 => (if t175 = true then ((foliotlaw02_awake.f).bind fun t176 => (some t176)) else (none))) = some r := by rw [if_pos rfl] at H; exact H
    clear H
    have H := H1
    clear H1
    replace H := Sq.bd H
    obtain ⟨t175, A11, H⟩ := H
    (try dsimp -simprocs only at H)
    by_cases c12 : t175 = true
    ·subst c12
     have H1 : ((foliotlaw02_awake.f).bind fun t176 => (some t176)) = some r := by rw [if_pos rfl] at H; exact H
     clear H
     have H := H1
     clear H1
     replace H := Sq.bd H
     obtain ⟨t176, A13, H⟩ := H
     (try dsimp -simprocs only at H)
     obtain rfl := Option.some.inj H
     go_enter Try.func14, Try.ntmps14
     go_wp2_with (first | ((with_reducible refine gate_dst (N := 2) rfl ?_); refine box_event ?hg (N := 2) ?hd (cs := #[.bool a0_0, .slice A0_1 l0_1.length c0_1]) (t := 39) ?hr ?_; (case hd => rfl); (case hg => rfl); (case hr => first | (go_simp; done) | (go_simp; rfl)); intro gb159 hg w14 hbox hb; have BK159 := Aside0.mk (hbox); have GW159 := Sq.gw HB hg; have GE159 := Sq.gw HB hg; replace HB := Sq.bs HB hb; clear hb hbox hg) | ((with_reducible refine gate_dst (N := 3) rfl ?_); refine box_event ?hg (N := 3) ?hd (cs := #[.bool a1_0, .slice A1_1 l1_1.length c1_1]) (t := 39) ?hr ?_; (case hd => rfl); (case hg => rfl); (case hr => first | (go_simp; done) | (go_simp; rfl)); intro gb160 hg w15 hbox hb; have BK160 := Aside0.mk (hbox); have GW160 := Sq.gw HB hg; have GE160 := Sq.gw HB hg; have NB159_160 := Sq.nl BK159 hg; have NB160_159 := Sq.ng BK159 hg; replace BK159 := Sq.bb BK159 hb; replace HB := Sq.bs HB hb; clear hb hbox hg; have hnb16 := NB159_160.out; have hnc16 := NB160_159.out; have hcz17_0 := Sq.bc BK159 0 (.bool a0_0); have hcz17_1 := Sq.bc BK159 1 (.slice A0_1 l0_1.length c0_1); have hfz17_0 := blk_frozen BK159.out 0; have hfz17_1 := blk_frozen BK159.out 1; have hcz18_0 := Sq.bc BK160 0 (.bool a1_0); have hcz18_1 := Sq.bc BK160 1 (.slice A1_1 l1_1.length c1_1); have hfz18_0 := blk_frozen BK160.out 0; have hfz18_1 := blk_frozen BK160.out 1) | ((with_reducible refine gate_callee (f := 53) rfl ?_); refine Sq.gl (some 12) Try.func53 #[.agg #[.bool a0_0, .slice A0_1 l0_1.length c0_1], .agg #[.bool a1_0, .slice A1_1 l1_1.length c1_1]] ?_; (with_reducible refine (foliotlaw02_few.calls a0_0 _ _ l0_1 a1_0 _ _ l1_1 true _ ?side1 ?side2 ?side3 ?side4 A3.out).mono ?_); (case side1 => exact Sq.ca (Kd.C_below HR0_1.out HB.out)); (case side2 => exact HC0_1.out); (case side3 => exact Sq.ca (Kd.C_below HR1_1.out HB.out)); (case side4 => exact HC1_1.out); rintro e w19 ⟨rfl, hb⟩; refine ⟨_, rfl, ?_⟩; replace BK159 := Sq.bb BK159 hb; replace BK160 := Sq.bb BK160 hb; replace HB := Sq.bs HB hb; (try clear hb); (try clear hb2); (try clear hk); (try clear hi); have hcz20_0 := Sq.bc BK159 0 (.bool a0_0); have hcz20_1 := Sq.bc BK159 1 (.slice A0_1 l0_1.length c0_1); have hfz20_0 := blk_frozen BK159.out 0; have hfz20_1 := blk_frozen BK159.out 1; have hcz21_0 := Sq.bc BK160 0 (.bool a1_0); have hcz21_1 := Sq.bc BK160 1 (.slice A1_1 l1_1.length c1_1); have hfz21_0 := blk_frozen BK160.out 0; have hfz21_1 := blk_frozen BK160.out 1) | ((with_reducible refine gate_callee (f := 54) rfl ?_); refine Sq.gl (some 17) Try.func54 #[.agg #[.bool a0_0, .slice A0_1 l0_1.length c0_1], .agg #[.bool a1_0, .slice A1_1 l1_1.length c1_1]] ?_; (with_reducible refine (integer_Div.calls a0_0 _ _ l0_1 a1_0 _ _ l1_1 t162 t163 t166 t167 t170 _ ?side1 ?side2 ?side3 ?side4 A5.out).mono ?_); (case side1 => exact Sq.ca (Kd.C_below HR0_1.out HB.out)); (case side2 => exact HC0_1.out); (case side3 => exact Sq.ca (Kd.C_below HR1_1.out HB.out)); (case side4 => exact HC1_1.out); rintro e w22 ⟨v164, v168, rfl, ho0, ho1, hb⟩; refine ⟨_, rfl, ?_⟩; have HO165 := Aside0.mk (Kd.R_lower ho0 (below_size (Sq.bl HB))); have HO169 := Aside0.mk (Kd.R_lower ho1 (below_size (Sq.bl HB))); replace BK159 := Sq.bb BK159 hb; replace BK160 := Sq.bb BK160 hb; replace HB := Sq.bs HB hb; (try clear hb); (try clear hb2); (try clear hk); (try clear hi); (try clear ho0); (try clear ho1)) | ((with_reducible refine gate_dst (N := 5) rfl ?_); refine box_event ?hg (N := 5) ?hd (cs := #[.bool false, .slice none 0 0]) (t := 39) ?hr ?_; (case hd => rfl); (case hg => rfl); (case hr => first | (go_simp; done) | (go_simp; rfl)); intro gb171 hg w23 hbox hb; replace HO165 := Aside0.mk (Kd.R_below (Sq.al HO165) hb); replace HO169 := Aside0.mk (Kd.R_below (Sq.al HO169) hb); have BK171 := Aside0.mk (hbox); have GW171 := Sq.gw HB hg; have GE171 := Sq.gw HB hg; have NB159_171 := Sq.nl BK159 hg; have NB171_159 := Sq.ng BK159 hg; have NB160_171 := Sq.nl BK160 hg; have NB171_160 := Sq.ng BK160 hg; replace BK159 := Sq.bb BK159 hb; replace BK160 := Sq.bb BK160 hb; replace HB := Sq.bs HB hb; clear hb hbox hg) | ((with_reducible refine gate_dst (N := 6) rfl ?_); refine box_event ?hg (N := 6) ?hd (cs := #[.bool false, .slice none 0 0]) (t := 39) ?hr ?_; (case hd => rfl); (case hg => rfl); (case hr => first | (go_simp; done) | (go_simp; rfl)); intro gb172 hg w24 hbox hb; replace HO165 := Aside0.mk (Kd.R_below (Sq.al HO165) hb); replace HO169 := Aside0.mk (Kd.R_below (Sq.al HO169) hb); have BK172 := Aside0.mk (hbox); have GW172 := Sq.gw HB hg; have GE172 := Sq.gw HB hg; have NB159_172 := Sq.nl BK159 hg; have NB172_159 := Sq.ng BK159 hg; have NB160_172 := Sq.nl BK160 hg; have NB172_160 := Sq.ng BK160 hg; have NB171_172 := Sq.nl BK171 hg; have NB172_171 := Sq.ng BK171 hg; replace BK159 := Sq.bb BK159 hb; replace BK160 := Sq.bb BK160 hb; replace BK171 := Sq.bb BK171 hb; replace HB := Sq.bs HB hb; clear hb hbox hg; have hnb25 := NB171_159.out; have hnc25 := NB159_171.out; have hnb26 := NB171_160.out; have hnc26 := NB160_171.out; have hnb27 := NB171_172.out; have hnc27 := NB172_171.out; have hcz28_0 := Sq.bc BK171 0 (.bool false); have hcz28_1 := Sq.bc BK171 1 (.slice none 0 0); have hfz28_0 := blk_frozen BK171.out 0; have hfz28_1 := blk_frozen BK171.out 1; obtain ⟨Ao29, co29, eo29⟩ := Kd.R_slice HO165.out; subst eo29; have hnb30 := NB172_159.out; have hnc30 := NB159_172.out; have hnb31 := NB172_160.out; have hnc31 := NB160_172.out; have hcz32_0 := Sq.bc BK172 0 (.bool false); have hcz32_1 := Sq.bc BK172 1 (.slice none 0 0); have hfz32_0 := blk_frozen BK172.out 0; have hfz32_1 := blk_frozen BK172.out 1; obtain ⟨Ao33, co33, eo33⟩ := Kd.R_slice HO169.out; subst eo33; have hcz34_0 := Sq.bc BK160 0 (.bool a1_0); have hcz34_1 := Sq.bc BK160 1 (.slice A1_1 l1_1.length c1_1); have hfz34_0 := blk_frozen BK160.out 0; have hfz34_1 := blk_frozen BK160.out 1) | ((with_reducible refine gate_callee (f := 66) rfl ?_); refine Sq.gl (some 22) Try.func66 #[.agg #[.bool a1_0, .slice A1_1 l1_1.length c1_1]] ?_; (with_reducible refine (integer_Sign.calls a1_0 _ _ l1_1 t173 _ ?side1 ?side2 A6.out).mono ?_); (case side1 => exact Kd.C_below HR1_1.out (Sq.bl HB)); (case side2 => exact HC1_1.out); rintro e w35 ⟨rfl, hb⟩; refine ⟨_, rfl, ?_⟩; replace HO165 := Aside0.mk (Kd.R_below (by (with_reducible repeat (first | apply Kd.R_alloc | apply Kd.R_drewN | apply Kd.R_drew)); exact (Kd.R_mono (Kd.R_mono (Kd.R_far (p := ⟨gb172, 1, none⟩) (Kd.R_far (p := ⟨gb172, 0, none⟩) (Kd.R_far (p := ⟨gb171, 1, none⟩) (Kd.R_far (p := ⟨gb171, 0, none⟩) (Sq.rt (Sq.rt HO165.out BK171) BK172) (fun _ hk => hk.1.2) (.bool t162)) (fun _ hk => hk.1.2) (.slice Ao29 t163.length co29)) (fun _ hk => hk.2) (.bool t166)) (fun _ hk => hk.2) (.slice Ao33 t167.length co33)) (fun _ h_ => h_.1)) (fun _ h_ => h_.1))) hb); replace HO169 := Aside0.mk (Kd.R_below (by (with_reducible repeat (first | apply Kd.R_alloc | apply Kd.R_drewN | apply Kd.R_drew)); exact (Kd.R_mono (Kd.R_mono (Kd.R_far (p := ⟨gb172, 1, none⟩) (Kd.R_far (p := ⟨gb172, 0, none⟩) (Kd.R_far (p := ⟨gb171, 1, none⟩) (Kd.R_far (p := ⟨gb171, 0, none⟩) (Sq.rt (Sq.rt HO169.out BK171) BK172) (fun _ hk => hk.1.2) (.bool t162)) (fun _ hk => hk.1.2) (.slice Ao29 t163.length co29)) (fun _ hk => hk.2) (.bool t166)) (fun _ hk => hk.2) (.slice Ao33 t167.length co33)) (fun _ h_ => h_.1)) (fun _ h_ => h_.1))) hb); replace BK159 := Aside0.mk (blk_below (g := gb159) (o := .cells #[.bool a0_0, .slice A0_1 l0_1.length c0_1] 39 (0, 0)) (by (with_reducible repeat (first | refine blk_drewN ?_ _ | refine blk_drew ?_ | refine blk_alloc ?_ _)); refine blk_far ?_ NB159_172.out _; (with_reducible repeat (first | refine blk_drewN ?_ _ | refine blk_drew ?_ | refine blk_alloc ?_ _)); refine blk_far ?_ NB159_172.out _; (with_reducible repeat (first | refine blk_drewN ?_ _ | refine blk_drew ?_ | refine blk_alloc ?_ _)); refine blk_far ?_ NB159_171.out _; (with_reducible repeat (first | refine blk_drewN ?_ _ | refine blk_drew ?_ | refine blk_alloc ?_ _)); refine blk_far ?_ NB159_171.out _; (with_reducible repeat (first | refine blk_drewN ?_ _ | refine blk_drew ?_ | refine blk_alloc ?_ _)); exact BK159.out) hb); replace BK160 := Aside0.mk (blk_below (g := gb160) (o := .cells #[.bool a1_0, .slice A1_1 l1_1.length c1_1] 39 (0, 0)) (by (with_reducible repeat (first | refine blk_drewN ?_ _ | refine blk_drew ?_ | refine blk_alloc ?_ _)); refine blk_far ?_ NB160_172.out _; (with_reducible repeat (first | refine blk_drewN ?_ _ | refine blk_drew ?_ | refine blk_alloc ?_ _)); refine blk_far ?_ NB160_172.out _; (with_reducible repeat (first | refine blk_drewN ?_ _ | refine blk_drew ?_ | refine blk_alloc ?_ _)); refine blk_far ?_ NB160_171.out _; (with_reducible repeat (first | refine blk_drewN ?_ _ | refine blk_drew ?_ | refine blk_alloc ?_ _)); refine blk_far ?_ NB160_171.out _; (with_reducible repeat (first | refine blk_drewN ?_ _ | refine blk_drew ?_ | refine blk_alloc ?_ _)); exact BK160.out) hb); replace HB := Sq.bs HB hb; replace BK171 := Aside0.mk (blk_below (g := gb171) (o := .cells #[.bool t162, .slice Ao29 t163.length co29] 39 (0, 0)) (by (with_reducible repeat (first | refine blk_drewN ?_ _ | refine blk_drew ?_ | refine blk_alloc ?_ _)); refine blk_far ?_ NB171_172.out _; (with_reducible repeat (first | refine blk_drewN ?_ _ | refine blk_drew ?_ | refine blk_alloc ?_ _)); refine blk_far ?_ NB171_172.out _; (with_reducible repeat (first | refine blk_drewN ?_ _ | refine blk_drew ?_ | refine blk_alloc ?_ _)); refine blk_put (cs := #[.bool t162, .slice none 0 0]) ?_ 1 _ rfl; (with_reducible repeat (first | refine blk_drewN ?_ _ | refine blk_drew ?_ | refine blk_alloc ?_ _)); refine blk_put (cs := #[.bool false, .slice none 0 0]) ?_ 0 _ rfl; (with_reducible repeat (first | refine blk_drewN ?_ _ | refine blk_drew ?_ | refine blk_alloc ?_ _)); exact BK171.out) hb); replace BK172 := Aside0.mk (blk_below (g := gb172) (o := .cells #[.bool t166, .slice Ao33 t167.length co33] 39 (0, 0)) (by (with_reducible repeat (first | refine blk_drewN ?_ _ | refine blk_drew ?_ | refine blk_alloc ?_ _)); refine blk_put (cs := #[.bool t166, .slice none 0 0]) ?_ 1 _ rfl; (with_reducible repeat (first | refine blk_drewN ?_ _ | refine blk_drew ?_ | refine blk_alloc ?_ _)); refine blk_put (cs := #[.bool false, .slice none 0 0]) ?_ 0 _ rfl; (with_reducible repeat (first | refine blk_drewN ?_ _ | refine blk_drew ?_ | refine blk_alloc ?_ _)); refine blk_far ?_ NB172_171.out _; (with_reducible repeat (first | refine blk_drewN ?_ _ | refine blk_drew ?_ | refine blk_alloc ?_ _)); refine blk_far ?_ NB172_171.out _; (with_reducible repeat (first | refine blk_drewN ?_ _ | refine blk_drew ?_ | refine blk_alloc ?_ _)); exact BK172.out) hb); (try clear hb); (try clear hb2); (try clear hk); (try clear hi); have hcz36_0 := Sq.bc BK171 0 (.bool t162); have hcz36_1 := Sq.bc BK171 1 (.slice Ao29 t163.length co29); have hfz36_0 := blk_frozen BK171.out 0; have hfz36_1 := blk_frozen BK171.out 1) | ((with_reducible refine gate_callee (f := 56) rfl ?_); refine Sq.goesG_ (some 29) rfl rfl Try.func56 (by kernel_rfl) rfl #[.agg #[.bool t162, .slice Ao29 t163.length co29], .agg #[.bool false, .slice none 0 0]] rfl (by (try simp only [List.map_toArray, List.map_cons, List.map_nil]); first | done | rfl) ?_; (refine (foliotlaw02_same.calls k t162 _ _ t163 false _ _ ([] : List Int) true _ ?side1 ?side2 ?side3 ?side4 A9.out).mono ?_); (case side1 => exact Sq.ca (Kd.R_reads' HO165.out).2.2); (case side2 => exact (Kd.R_reads' HO165.out).2.1); (case side3 => exact Kd.C_nil _ _); (case side4 => exact Nat.le_refl _); rintro e w37 ⟨rfl, hb⟩; refine ⟨_, rfl, ?_⟩; replace HO165 := Aside0.mk (Kd.R_below (Sq.al HO165) hb); replace HO169 := Aside0.mk (Kd.R_below (Sq.al HO169) hb); replace BK159 := Sq.bb BK159 hb; replace BK160 := Sq.bb BK160 hb; replace BK171 := Sq.bb BK171 hb; replace BK172 := Sq.bb BK172 hb; replace HB := Sq.bs HB hb; (try clear hb); (try clear hb2); (try clear hk); (try clear hi); have hcz38_0 := Sq.bc BK172 0 (.bool t166); have hcz38_1 := Sq.bc BK172 1 (.slice Ao33 t167.length co33); have hfz38_0 := blk_frozen BK172.out 0; have hfz38_1 := blk_frozen BK172.out 1) | ((with_reducible refine gate_callee (f := 56) rfl ?_); refine Sq.goesG_ (some 34) rfl rfl Try.func56 (by kernel_rfl) rfl #[.agg #[.bool t166, .slice Ao33 t167.length co33], .agg #[.bool false, .slice none 0 0]] rfl (by (try simp only [List.map_toArray, List.map_cons, List.map_nil]); first | done | rfl) ?_; (refine (foliotlaw02_same.calls k t166 _ _ t167 false _ _ ([] : List Int) true _ ?side1 ?side2 ?side3 ?side4 A11.out).mono ?_); (case side1 => exact Sq.ca (Kd.R_reads' HO169.out).2.2); (case side2 => exact (Kd.R_reads' HO169.out).2.1); (case side3 => exact Kd.C_nil _ _); (case side4 => exact Nat.le_refl _); rintro e w39 ⟨rfl, hb⟩; refine ⟨_, rfl, ?_⟩; replace HO165 := Aside0.mk (Kd.R_below (Sq.al HO165) hb); replace HO169 := Aside0.mk (Kd.R_below (Sq.al HO169) hb); replace BK159 := Sq.bb BK159 hb; replace BK160 := Sq.bb BK160 hb; replace BK171 := Sq.bb BK171 hb; replace BK172 := Sq.bb BK172 hb; replace HB := Sq.bs HB hb; (try clear hb); (try clear hb2); (try clear hk); (try clear hi)) | (go_at_call 57; (with_reducible refine (foliotlaw02_awake.calls  t176 _ A13.out).mono ?_); rintro e w40 ⟨rfl, hb⟩; replace HO165 := Aside0.mk (Kd.R_below (Sq.al HO165) hb); replace HO169 := Aside0.mk (Kd.R_below (Sq.al HO169) hb); replace BK159 := Sq.bb BK159 hb; replace BK160 := Sq.bb BK160 hb; replace BK171 := Sq.bb BK171 hb; replace BK172 := Sq.bb BK172 hb; replace HB := Sq.bs HB hb; (try clear hb); (try clear hb2); (try clear hk); (try clear hi)))
     go_ret
     exact ⟨by first | rfl | (simp [errW_none, errW_some] <;> rfl) | (simp [*, errW_none, errW_some] <;> rfl), Sq.bl HB⟩
    ·replace c12 := Bool.eq_false_iff.mpr c12
     subst c12
     have H1 : (none) = some r := by rw [if_neg (show ¬ (false = true) by decide)] at H; exact H
     clear H
     have H := H1
     clear H1
     exact absurd H (by simp)
   ·replace c10 := Bool.eq_false_iff.mpr c10
    subst c10
    have H1 : (none) = some r := by rw [if_neg (show ¬ (false = true) by decide)] at H; exact H
    clear H
    have H := H1
    clear H1
    exact absurd H (by simp)
  ·rw [if_neg c7] at H
   have c7b0 : (t173 == 0) = false := beq_eq_false_iff_ne.mpr c7
   have c7b1 : (t173 != 0) = true := bne_iff_ne.mpr c7
   replace H := Sq.bd H
   obtain ⟨⟨t177, t178⟩, A41, H⟩ := H
   (try dsimp -simprocs only at H)
   replace H := Sq.bd H
   obtain ⟨⟨t181, t182⟩, A42, H⟩ := H
   (try dsimp -simprocs only at H)
   have HC43 := Aside0.mk H
   clear H
   go_enter Try.func14, Try.ntmps14
   try go_wp2_with (first | ((with_reducible refine gate_dst (N := 2) rfl ?_); refine box_event ?hg (N := 2) ?hd (cs := #[.bool a0_0, .slice A0_1 l0_1.length c0_1]) (t := 39) ?hr ?_; (case hd => rfl); (case hg => rfl); (case hr => first | (go_simp; done) | (go_simp; rfl)); intro gb159 hg w44 hbox hb; have BK159 := Aside0.mk (hbox); have GW159 := Sq.gw HB hg; have GE159 := Sq.gw HB hg; replace HB := Sq.bs HB hb; clear hb hbox hg) | ((with_reducible refine gate_dst (N := 3) rfl ?_); refine box_event ?hg (N := 3) ?hd (cs := #[.bool a1_0, .slice A1_1 l1_1.length c1_1]) (t := 39) ?hr ?_; (case hd => rfl); (case hg => rfl); (case hr => first | (go_simp; done) | (go_simp; rfl)); intro gb160 hg w45 hbox hb; have BK160 := Aside0.mk (hbox); have GW160 := Sq.gw HB hg; have GE160 := Sq.gw HB hg; have NB159_160 := Sq.nl BK159 hg; have NB160_159 := Sq.ng BK159 hg; replace BK159 := Sq.bb BK159 hb; replace HB := Sq.bs HB hb; clear hb hbox hg; have hnb46 := NB159_160.out; have hnc46 := NB160_159.out; have hcz47_0 := Sq.bc BK159 0 (.bool a0_0); have hcz47_1 := Sq.bc BK159 1 (.slice A0_1 l0_1.length c0_1); have hfz47_0 := blk_frozen BK159.out 0; have hfz47_1 := blk_frozen BK159.out 1; have hcz48_0 := Sq.bc BK160 0 (.bool a1_0); have hcz48_1 := Sq.bc BK160 1 (.slice A1_1 l1_1.length c1_1); have hfz48_0 := blk_frozen BK160.out 0; have hfz48_1 := blk_frozen BK160.out 1) | ((with_reducible refine gate_callee (f := 53) rfl ?_); refine Sq.gl (some 12) Try.func53 #[.agg #[.bool a0_0, .slice A0_1 l0_1.length c0_1], .agg #[.bool a1_0, .slice A1_1 l1_1.length c1_1]] ?_; (with_reducible refine (foliotlaw02_few.calls a0_0 _ _ l0_1 a1_0 _ _ l1_1 true _ ?side1 ?side2 ?side3 ?side4 A3.out).mono ?_); (case side1 => exact Sq.ca (Kd.C_below HR0_1.out HB.out)); (case side2 => exact HC0_1.out); (case side3 => exact Sq.ca (Kd.C_below HR1_1.out HB.out)); (case side4 => exact HC1_1.out); rintro e w49 ⟨rfl, hb⟩; refine ⟨_, rfl, ?_⟩; replace BK159 := Sq.bb BK159 hb; replace BK160 := Sq.bb BK160 hb; replace HB := Sq.bs HB hb; (try clear hb); (try clear hb2); (try clear hk); (try clear hi); have hcz50_0 := Sq.bc BK159 0 (.bool a0_0); have hcz50_1 := Sq.bc BK159 1 (.slice A0_1 l0_1.length c0_1); have hfz50_0 := blk_frozen BK159.out 0; have hfz50_1 := blk_frozen BK159.out 1; have hcz51_0 := Sq.bc BK160 0 (.bool a1_0); have hcz51_1 := Sq.bc BK160 1 (.slice A1_1 l1_1.length c1_1); have hfz51_0 := blk_frozen BK160.out 0; have hfz51_1 := blk_frozen BK160.out 1) | ((with_reducible refine gate_callee (f := 54) rfl ?_); refine Sq.gl (some 17) Try.func54 #[.agg #[.bool a0_0, .slice A0_1 l0_1.length c0_1], .agg #[.bool a1_0, .slice A1_1 l1_1.length c1_1]] ?_; (with_reducible refine (integer_Div.calls a0_0 _ _ l0_1 a1_0 _ _ l1_1 t162 t163 t166 t167 t170 _ ?side1 ?side2 ?side3 ?side4 A5.out).mono ?_); (case side1 => exact Sq.ca (Kd.C_below HR0_1.out HB.out)); (case side2 => exact HC0_1.out); (case side3 => exact Sq.ca (Kd.C_below HR1_1.out HB.out)); (case side4 => exact HC1_1.out); rintro e w52 ⟨v164, v168, rfl, ho0, ho1, hb⟩; refine ⟨_, rfl, ?_⟩; have HO165 := Aside0.mk (Kd.R_lower ho0 (below_size (Sq.bl HB))); have HO169 := Aside0.mk (Kd.R_lower ho1 (below_size (Sq.bl HB))); replace BK159 := Sq.bb BK159 hb; replace BK160 := Sq.bb BK160 hb; replace HB := Sq.bs HB hb; (try clear hb); (try clear hb2); (try clear hk); (try clear hi); (try clear ho0); (try clear ho1)) | ((with_reducible refine gate_dst (N := 5) rfl ?_); refine box_event ?hg (N := 5) ?hd (cs := #[.bool false, .slice none 0 0]) (t := 39) ?hr ?_; (case hd => rfl); (case hg => rfl); (case hr => first | (go_simp; done) | (go_simp; rfl)); intro gb171 hg w53 hbox hb; replace HO165 := Aside0.mk (Kd.R_below (Sq.al HO165) hb); replace HO169 := Aside0.mk (Kd.R_below (Sq.al HO169) hb); have BK171 := Aside0.mk (hbox); have GW171 := Sq.gw HB hg; have GE171 := Sq.gw HB hg; have NB159_171 := Sq.nl BK159 hg; have NB171_159 := Sq.ng BK159 hg; have NB160_171 := Sq.nl BK160 hg; have NB171_160 := Sq.ng BK160 hg; replace BK159 := Sq.bb BK159 hb; replace BK160 := Sq.bb BK160 hb; replace HB := Sq.bs HB hb; clear hb hbox hg) | ((with_reducible refine gate_dst (N := 6) rfl ?_); refine box_event ?hg (N := 6) ?hd (cs := #[.bool false, .slice none 0 0]) (t := 39) ?hr ?_; (case hd => rfl); (case hg => rfl); (case hr => first | (go_simp; done) | (go_simp; rfl)); intro gb172 hg w54 hbox hb; replace HO165 := Aside0.mk (Kd.R_below (Sq.al HO165) hb); replace HO169 := Aside0.mk (Kd.R_below (Sq.al HO169) hb); have BK172 := Aside0.mk (hbox); have GW172 := Sq.gw HB hg; have GE172 := Sq.gw HB hg; have NB159_172 := Sq.nl BK159 hg; have NB172_159 := Sq.ng BK159 hg; have NB160_172 := Sq.nl BK160 hg; have NB172_160 := Sq.ng BK160 hg; have NB171_172 := Sq.nl BK171 hg; have NB172_171 := Sq.ng BK171 hg; replace BK159 := Sq.bb BK159 hb; replace BK160 := Sq.bb BK160 hb; replace BK171 := Sq.bb BK171 hb; replace HB := Sq.bs HB hb; clear hb hbox hg; have hnb55 := NB171_159.out; have hnc55 := NB159_171.out; have hnb56 := NB171_160.out; have hnc56 := NB160_171.out; have hnb57 := NB171_172.out; have hnc57 := NB172_171.out; have hcz58_0 := Sq.bc BK171 0 (.bool false); have hcz58_1 := Sq.bc BK171 1 (.slice none 0 0); have hfz58_0 := blk_frozen BK171.out 0; have hfz58_1 := blk_frozen BK171.out 1; obtain ⟨Ao59, co59, eo59⟩ := Kd.R_slice HO165.out; subst eo59; have hnb60 := NB172_159.out; have hnc60 := NB159_172.out; have hnb61 := NB172_160.out; have hnc61 := NB160_172.out; have hcz62_0 := Sq.bc BK172 0 (.bool false); have hcz62_1 := Sq.bc BK172 1 (.slice none 0 0); have hfz62_0 := blk_frozen BK172.out 0; have hfz62_1 := blk_frozen BK172.out 1; obtain ⟨Ao63, co63, eo63⟩ := Kd.R_slice HO169.out; subst eo63; have hcz64_0 := Sq.bc BK160 0 (.bool a1_0); have hcz64_1 := Sq.bc BK160 1 (.slice A1_1 l1_1.length c1_1); have hfz64_0 := blk_frozen BK160.out 0; have hfz64_1 := blk_frozen BK160.out 1) | ((with_reducible refine gate_callee (f := 66) rfl ?_); refine Sq.gl (some 22) Try.func66 #[.agg #[.bool a1_0, .slice A1_1 l1_1.length c1_1]] ?_; (with_reducible refine (integer_Sign.calls a1_0 _ _ l1_1 t173 _ ?side1 ?side2 A6.out).mono ?_); (case side1 => exact Kd.C_below HR1_1.out (Sq.bl HB)); (case side2 => exact HC1_1.out); rintro e w65 ⟨rfl, hb⟩; refine ⟨_, rfl, ?_⟩; replace HO165 := Aside0.mk (Kd.R_below (by (with_reducible repeat (first | apply Kd.R_alloc | apply Kd.R_drewN | apply Kd.R_drew)); exact (Kd.R_mono (Kd.R_mono (Kd.R_far (p := ⟨gb172, 1, none⟩) (Kd.R_far (p := ⟨gb172, 0, none⟩) (Kd.R_far (p := ⟨gb171, 1, none⟩) (Kd.R_far (p := ⟨gb171, 0, none⟩) (Sq.rt (Sq.rt HO165.out BK171) BK172) (fun _ hk => hk.1.2) (.bool t162)) (fun _ hk => hk.1.2) (.slice Ao59 t163.length co59)) (fun _ hk => hk.2) (.bool t166)) (fun _ hk => hk.2) (.slice Ao63 t167.length co63)) (fun _ h_ => h_.1)) (fun _ h_ => h_.1))) hb); replace HO169 := Aside0.mk (Kd.R_below (by (with_reducible repeat (first | apply Kd.R_alloc | apply Kd.R_drewN | apply Kd.R_drew)); exact (Kd.R_mono (Kd.R_mono (Kd.R_far (p := ⟨gb172, 1, none⟩) (Kd.R_far (p := ⟨gb172, 0, none⟩) (Kd.R_far (p := ⟨gb171, 1, none⟩) (Kd.R_far (p := ⟨gb171, 0, none⟩) (Sq.rt (Sq.rt HO169.out BK171) BK172) (fun _ hk => hk.1.2) (.bool t162)) (fun _ hk => hk.1.2) (.slice Ao59 t163.length co59)) (fun _ hk => hk.2) (.bool t166)) (fun _ hk => hk.2) (.slice Ao63 t167.length co63)) (fun _ h_ => h_.1)) (fun _ h_ => h_.1))) hb); replace BK159 := Aside0.mk (blk_below (g := gb159) (o := .cells #[.bool a0_0, .slice A0_1 l0_1.length c0_1] 39 (0, 0)) (by (with_reducible repeat (first | refine blk_drewN ?_ _ | refine blk_drew ?_ | refine blk_alloc ?_ _)); refine blk_far ?_ NB159_172.out _; (with_reducible repeat (first | refine blk_drewN ?_ _ | refine blk_drew ?_ | refine blk_alloc ?_ _)); refine blk_far ?_ NB159_172.out _; (with_reducible repeat (first | refine blk_drewN ?_ _ | refine blk_drew ?_ | refine blk_alloc ?_ _)); refine blk_far ?_ NB159_171.out _; (with_reducible repeat (first | refine blk_drewN ?_ _ | refine blk_drew ?_ | refine blk_alloc ?_ _)); refine blk_far ?_ NB159_171.out _; (with_reducible repeat (first | refine blk_drewN ?_ _ | refine blk_drew ?_ | refine blk_alloc ?_ _)); exact BK159.out) hb); replace BK160 := Aside0.mk (blk_below (g := gb160) (o := .cells #[.bool a1_0, .slice A1_1 l1_1.length c1_1] 39 (0, 0)) (by (with_reducible repeat (first | refine blk_drewN ?_ _ | refine blk_drew ?_ | refine blk_alloc ?_ _)); refine blk_far ?_ NB160_172.out _; (with_reducible repeat (first | refine blk_drewN ?_ _ | refine blk_drew ?_ | refine blk_alloc ?_ _)); refine blk_far ?_ NB160_172.out _; (with_reducible repeat (first | refine blk_drewN ?_ _ | refine blk_drew ?_ | refine blk_alloc ?_ _)); refine blk_far ?_ NB160_171.out _; (with_reducible repeat (first | refine blk_drewN ?_ _ | refine blk_drew ?_ | refine blk_alloc ?_ _)); refine blk_far ?_ NB160_171.out _; (with_reducible repeat (first | refine blk_drewN ?_ _ | refine blk_drew ?_ | refine blk_alloc ?_ _)); exact BK160.out) hb); replace HB := Sq.bs HB hb; replace BK171 := Aside0.mk (blk_below (g := gb171) (o := .cells #[.bool t162, .slice Ao59 t163.length co59] 39 (0, 0)) (by (with_reducible repeat (first | refine blk_drewN ?_ _ | refine blk_drew ?_ | refine blk_alloc ?_ _)); refine blk_far ?_ NB171_172.out _; (with_reducible repeat (first | refine blk_drewN ?_ _ | refine blk_drew ?_ | refine blk_alloc ?_ _)); refine blk_far ?_ NB171_172.out _; (with_reducible repeat (first | refine blk_drewN ?_ _ | refine blk_drew ?_ | refine blk_alloc ?_ _)); refine blk_put (cs := #[.bool t162, .slice none 0 0]) ?_ 1 _ rfl; (with_reducible repeat (first | refine blk_drewN ?_ _ | refine blk_drew ?_ | refine blk_alloc ?_ _)); refine blk_put (cs := #[.bool false, .slice none 0 0]) ?_ 0 _ rfl; (with_reducible repeat (first | refine blk_drewN ?_ _ | refine blk_drew ?_ | refine blk_alloc ?_ _)); exact BK171.out) hb); replace BK172 := Aside0.mk (blk_below (g := gb172) (o := .cells #[.bool t166, .slice Ao63 t167.length co63] 39 (0, 0)) (by (with_reducible repeat (first | refine blk_drewN ?_ _ | refine blk_drew ?_ | refine blk_alloc ?_ _)); refine blk_put (cs := #[.bool t166, .slice none 0 0]) ?_ 1 _ rfl; (with_reducible repeat (first | refine blk_drewN ?_ _ | refine blk_drew ?_ | refine blk_alloc ?_ _)); refine blk_put (cs := #[.bool false, .slice none 0 0]) ?_ 0 _ rfl; (with_reducible repeat (first | refine blk_drewN ?_ _ | refine blk_drew ?_ | refine blk_alloc ?_ _)); refine blk_far ?_ NB172_171.out _; (with_reducible repeat (first | refine blk_drewN ?_ _ | refine blk_drew ?_ | refine blk_alloc ?_ _)); refine blk_far ?_ NB172_171.out _; (with_reducible repeat (first | refine blk_drewN ?_ _ | refine blk_drew ?_ | refine blk_alloc ?_ _)); exact BK172.out) hb); (try clear hb); (try clear hb2); (try clear hk); (try clear hi)))
   replace HO165 := Aside0.mk (Kd.R_drew HO165.out)
   replace HO169 := Aside0.mk (Kd.R_drew HO169.out)
   replace BK159 := Aside0.mk (blk_drew BK159.out)
   replace BK160 := Aside0.mk (blk_drew BK160.out)
   replace BK171 := Aside0.mk (blk_drew BK171.out)
   replace BK172 := Aside0.mk (blk_drew BK172.out)
   replace HB := Aside0.mk (below_drew1 HB.out)
   refine start_ (n := 7) (S := fun w' => w'.cell? ⟨gb171, 0, none⟩ = some (.bool t162) ∧ w'.cell? ⟨gb171, 1, none⟩ = some (.slice Ao59 t163.length co59) ∧ w'.cell? ⟨gb160, 0, none⟩ = some (.bool a1_0) ∧ w'.cell? ⟨gb160, 1, none⟩ = some (.slice A1_1 l1_1.length c1_1) ∧ w'.cell? ⟨gb172, 0, none⟩ = some (.bool t166) ∧ w'.cell? ⟨gb172, 1, none⟩ = some (.slice Ao63 t167.length co63)) (ds := []) #[false, false, false, false, false, false, false] (by kernel_rfl) rfl rfl ⟨(blk_cell BK171.out 0).trans rfl, (blk_cell BK171.out 1).trans rfl, (blk_cell BK160.out 0).trans rfl, (blk_cell BK160.out 1).trans rfl, (blk_cell BK172.out 0).trans rfl, (blk_cell BK172.out 1).trans rfl⟩ (fun hHeld => ?_)
   generalize w65.drew = w66 at HO165 HO169 BK159 BK160 BK171 BK172 HB hHeld ⊢
   refine take_ (i := 0) (N := some 39) (v := ?_) (a' := ?_) #[true, false, false, false, false, false, false] rfl rfl (by kernel_rfl) (fun _ _ _ h => h) (Or.inl ⟨by rfl, ?_⟩) hHeld ?_ ?_
   rotate_left
   ·rintro w' ⟨s0, s1, s2, s3, s4, s5⟩
    go_simp
    with_reducible rfl
   rotate_left
   ·simp only [Act.put, List.setIfInBounds_toArray, List.set_cons_zero, List.set_cons_succ, i64_w, i32_w]
    rfl
   refine take_ (i := 1) (N := some 40) (v := ?_) (a' := ?_) #[true, true, false, false, false, false, false] rfl rfl (by kernel_rfl) (fun _ _ _ h => h) (Or.inl ⟨by rfl, ?_⟩) hHeld ?_ ?_
   rotate_left
   ·rintro w' ⟨s0, s1, s2, s3, s4, s5⟩
    go_simp
    with_reducible rfl
   rotate_left
   ·simp only [Act.put, List.setIfInBounds_toArray, List.set_cons_zero, List.set_cons_succ, i64_w, i32_w]
    rfl
   refine take_ (i := 3) (N := some 42) (v := ?_) (a' := ?_) #[true, true, false, true, false, false, false] rfl rfl (by kernel_rfl) (fun _ _ _ h => h) (Or.inl ⟨by rfl, ?_⟩) hHeld ?_ ?_
   rotate_left
   ·rintro w' ⟨s0, s1, s2, s3, s4, s5⟩
    go_simp
    with_reducible rfl
   rotate_left
   ·simp only [Act.put, List.setIfInBounds_toArray, List.set_cons_zero, List.set_cons_succ, i64_w, i32_w]
    rfl
   refine join_ (σ := Value × Value × Nat) 1 #[true, true, true, true, true, true, false] (fun s_ => [(41, .agg #[.bool t177, s_.1]), (43, .agg #[.bool t181, s_.2.1]), (8, .pointer (some ⟨s_.2.2, 0, none⟩))]) (fun s_ w' => (w'.cell? ⟨gb171, 0, none⟩ = some (.bool t162) ∧ w'.cell? ⟨gb171, 1, none⟩ = some (.slice Ao59 t163.length co59) ∧ w'.cell? ⟨gb160, 0, none⟩ = some (.bool a1_0) ∧ w'.cell? ⟨gb160, 1, none⟩ = some (.slice A1_1 l1_1.length c1_1) ∧ w'.cell? ⟨gb172, 0, none⟩ = some (.bool t166) ∧ w'.cell? ⟨gb172, 1, none⟩ = some (.slice Ao63 t167.length co63)) ∧ (Kd.R (Kd.int .u32) 107 w' w.heap.size (fun k_ => some k_ ≠ (.slice Ao63 t167.length co63 : Value).ownBlock ∧ some k_ ≠ (s_.1 : Value).ownBlock ∧ some k_ ≠ (s_.2.1 : Value).ownBlock) (.slice Ao59 t163.length co59) t163) ∧ (Kd.R (Kd.int .u32) 107 w' w.heap.size (fun k_ => some k_ ≠ (.slice Ao59 t163.length co59 : Value).ownBlock ∧ some k_ ≠ (s_.1 : Value).ownBlock ∧ some k_ ≠ (s_.2.1 : Value).ownBlock) (.slice Ao63 t167.length co63) t167) ∧ (Kd.R (Kd.int .u32) 107 w' w.heap.size (fun k_ => some k_ ≠ (.slice Ao59 t163.length co59 : Value).ownBlock ∧ some k_ ≠ (.slice Ao63 t167.length co63 : Value).ownBlock ∧ some k_ ≠ (s_.2.1 : Value).ownBlock) s_.1 t178) ∧ (Kd.R (Kd.int .u32) 107 w' w.heap.size (fun k_ => some k_ ≠ (.slice Ao59 t163.length co59 : Value).ownBlock ∧ some k_ ≠ (.slice Ao63 t167.length co63 : Value).ownBlock ∧ some k_ ≠ (s_.1 : Value).ownBlock) s_.2.1 t182) ∧ (w'.heap[gb159]? = some (.cells #[.bool a0_0, .slice A0_1 l0_1.length c0_1] 39 (0, 0))) ∧ (w'.heap[gb160]? = some (.cells #[.bool a1_0, .slice A1_1 l1_1.length c1_1] 39 (0, 0))) ∧ (w'.heap[gb171]? = some (.cells #[.bool t162, .slice Ao59 t163.length co59] 39 (0, 0))) ∧ (w'.heap[gb172]? = some (.cells #[.bool t166, .slice Ao63 t167.length co63] 39 (0, 0))) ∧ (w'.heap[s_.2.2]? = some (.cells #[.bool false, .slice none 0 0] 39 (0, 0))) ∧ (w.heap.size ≤ s_.2.2) ∧ (w.heap.size ≤ s_.2.2) ∧ (gb159 ≠ s_.2.2) ∧ (s_.2.2 ≠ gb159) ∧ (gb160 ≠ s_.2.2) ∧ (s_.2.2 ≠ gb160) ∧ (gb171 ≠ s_.2.2) ∧ (s_.2.2 ≠ gb171) ∧ (gb172 ≠ s_.2.2) ∧ (s_.2.2 ≠ gb172) ∧ (Below w.heap.size w w')) ?_ ?_
   rotate_left
   ·intro hCont
    refine two_ (i := 2) (j := 5) (Ni := some 41) (Nj := some 8) #[true, true, true, true, false, false, false] #[true, true, false, true, false, true, false] rfl rfl rfl rfl (by kernel_rfl) (by decide) (by decide) (fun K hK => ?_) (fun K hK => ?_)
    ·skip
     refine goes_ Try.func64 (by kernel_rfl) rfl #[.agg #[.bool t162, .slice Ao59 t163.length co59], .agg #[.bool a1_0, .slice A1_1 l1_1.length c1_1]] (by rfl) rfl rfl (by (try simp only [List.map_toArray, List.map_cons, List.map_nil]); first | done | rfl | (simp only [List.length_drop, List.length_take]; rfl)) ?_
     with_reducible refine (integer_Mul.calls t162 _ _ t163 a1_0 _ _ l1_1 t177 t178 _ ?side1 ?side2 ?side3 ?side4 A41.out).mono ?_
     (case side1 => exact Sq.ca (Kd.R_reads' HO165.out).2.2)
     (case side2 => exact (Kd.R_reads' HO165.out).2.1)
     (case side3 => exact Sq.ca (Kd.C_below HR1_1.out HB.out))
     (case side4 => exact HC1_1.out)
     rintro e w67 ⟨v179, rfl, ho0, hb⟩
     refine ⟨_, rfl, ?_⟩
     have HO180 := Aside0.mk (Kd.R_lower (Kd.R_new' (Kd.R_new' ho0 (Kd.R_lt (Sq.al HO165))) (Kd.R_lt (Sq.al HO169))) (below_size (Sq.bl HB)))
     replace BK159 := Sq.bb BK159 hb
     replace BK160 := Sq.bb BK160 hb
     replace BK171 := Sq.bb BK171 hb
     replace BK172 := Sq.bb BK172 hb
     replace HO165 := Aside0.mk (Kd.R_elder' (Sq.al HO165) (Kd.R_base ho0) hb)
     replace HO169 := Aside0.mk (Kd.R_elder' (Sq.al HO169) (Kd.R_base ho0) hb)
     replace HB := Sq.bs HB hb
     (try clear hb)
     (try clear hb2)
     (try clear hk)
     (try clear hi)
     (try clear ho0)
     obtain ⟨Ao68, co68, eo68⟩ := Kd.R_slice HO180.out
     (first | subst eo68 | (injection eo68 with f1_ f2_ f3_; have f4_ := f1_.symm; have f5_ := f3_.symm; clear f1_ f2_ f3_; subst f4_; subst f5_))
     refine hK.out _ _ ⟨(blk_cell BK171.out 0).trans rfl, (blk_cell BK171.out 1).trans rfl, (blk_cell BK160.out 0).trans rfl, (blk_cell BK160.out 1).trans rfl, (blk_cell BK172.out 0).trans rfl, (blk_cell BK172.out 1).trans rfl⟩ (fun hHeld => ?_)
     clear hK K
     refine norm_ (a' := ?_) ?_ ?_
     rotate_left
     ·show Act.put _ (some 41) _ = _
      simp only [Act.put, List.setIfInBounds_toArray, List.set_cons_zero, List.set_cons_succ, i64_w, i32_w]
      rfl
     refine two_ (i := 4) (j := 5) (Ni := some 43) (Nj := some 8) #[true, true, true, true, true, false, false] #[true, true, true, true, false, true, false] rfl rfl rfl rfl (by kernel_rfl) (by decide) (by decide) (fun K hK => ?_) (fun K hK => ?_)
     ·skip
      refine goes_ Try.func63 (by kernel_rfl) rfl #[.agg #[.bool t177, .slice Ao68 t178.length co68], .agg #[.bool t166, .slice Ao63 t167.length co63]] (by rfl) rfl rfl (by (try simp only [List.map_toArray, List.map_cons, List.map_nil]); first | done | rfl | (simp only [List.length_drop, List.length_take]; rfl)) ?_
      with_reducible refine (integer_Add.calls t177 _ _ t178 t166 _ _ t167 t181 t182 _ ?side1 ?side2 ?side3 ?side4 A42.out).mono ?_
      (case side1 => exact Sq.ca (Kd.R_reads' HO180.out).2.2)
      (case side2 => exact (Kd.R_reads' HO180.out).2.1)
      (case side3 => exact Sq.ca (Kd.R_reads' HO169.out).2.2)
      (case side4 => exact (Kd.R_reads' HO169.out).2.1)
      rintro e w69 ⟨v183, rfl, ho0, hb⟩
      refine ⟨_, rfl, ?_⟩
      have HO184 := Aside0.mk (Kd.R_lower (Kd.R_new' (Kd.R_new' (Kd.R_new' ho0 (Kd.R_lt (Sq.al HO165))) (Kd.R_lt (Sq.al HO169))) (Kd.R_lt (Sq.al HO180))) (below_size (Sq.bl HB)))
      replace BK159 := Sq.bb BK159 hb
      replace BK160 := Sq.bb BK160 hb
      replace BK171 := Sq.bb BK171 hb
      replace BK172 := Sq.bb BK172 hb
      replace HO165 := Aside0.mk (Kd.R_elder' (Sq.al HO165) (Kd.R_base ho0) hb)
      replace HO169 := Aside0.mk (Kd.R_elder' (Sq.al HO169) (Kd.R_base ho0) hb)
      replace HO180 := Aside0.mk (Kd.R_elder' (Sq.al HO180) (Kd.R_base ho0) hb)
      replace HB := Sq.bs HB hb
      (try clear hb)
      (try clear hb2)
      (try clear hk)
      (try clear hi)
      (try clear ho0)
      refine hK.out _ _ ⟨(blk_cell BK171.out 0).trans rfl, (blk_cell BK171.out 1).trans rfl, (blk_cell BK160.out 0).trans rfl, (blk_cell BK160.out 1).trans rfl, (blk_cell BK172.out 0).trans rfl, (blk_cell BK172.out 1).trans rfl⟩ (fun hHeld => ?_)
      clear hK K
      refine norm_ (a' := ?_) ?_ ?_
      rotate_left
      ·show Act.put _ (some 43) _ = _
       simp only [Act.put, List.setIfInBounds_toArray, List.set_cons_zero, List.set_cons_succ, i64_w, i32_w]
       rfl
      refine one_ (i := 5) (N := some 8) #[true, true, true, true, true, true, false] rfl rfl (by kernel_rfl) (by decide) (fun K hK => ?_)
      refine box_step ?hg (N := 8) ?hd (cs := #[.bool false, .slice none 0 0]) (t := 39) ?hr ?_; (case hd => rfl); (case hg => rfl); (case hr => first | (go_simp; done) | (go_simp; rfl))
      intro gb185 hg w70 hbox hb
      replace HO165 := Aside0.mk (Kd.R_below (Sq.al HO165) hb)
      replace HO169 := Aside0.mk (Kd.R_below (Sq.al HO169) hb)
      replace HO180 := Aside0.mk (Kd.R_below (Sq.al HO180) hb)
      replace HO184 := Aside0.mk (Kd.R_below (Sq.al HO184) hb)
      have BK185 := Aside0.mk (hbox)
      have GW185 := Sq.gw HB hg
      have GE185 := Sq.gw HB hg
      have NB159_185 := Sq.nl BK159 hg
      have NB185_159 := Sq.ng BK159 hg
      have NB160_185 := Sq.nl BK160 hg
      have NB185_160 := Sq.ng BK160 hg
      have NB171_185 := Sq.nl BK171 hg
      have NB185_171 := Sq.ng BK171 hg
      have NB172_185 := Sq.nl BK172 hg
      have NB185_172 := Sq.ng BK172 hg
      replace BK159 := Sq.bb BK159 hb
      replace BK160 := Sq.bb BK160 hb
      replace BK171 := Sq.bb BK171 hb
      replace BK172 := Sq.bb BK172 hb
      replace HB := Sq.bs HB hb
      clear hb hbox hg
      refine hK.out _ _ ⟨(blk_cell BK171.out 0).trans rfl, (blk_cell BK171.out 1).trans rfl, (blk_cell BK160.out 0).trans rfl, (blk_cell BK160.out 1).trans rfl, (blk_cell BK172.out 0).trans rfl, (blk_cell BK172.out 1).trans rfl⟩ (fun hHeld => ?_)
      clear hK K
      refine norm_ (a' := ?_) ?_ ?_
      rotate_left
      ·show Act.put _ (some 8) _ = _
       simp only [Act.put, List.setIfInBounds_toArray, List.set_cons_zero, List.set_cons_succ, i64_w, i32_w]
       rfl
      exact norm_ (by simp only [putAll, Act.put, List.setIfInBounds_toArray, List.set_cons_zero, List.set_cons_succ]) (hCont (.slice Ao68 t178.length co68, v183, gb185) _ ⟨hHeld, (by (with_reducible repeat (first | apply Kd.R_alloc | apply Kd.R_drewN | apply Kd.R_drew)); exact Kd.R_mono HO165.out (fun _ hk => ⟨hk.1.1, ⟨hk.1.2, hk.2⟩⟩)), (by (with_reducible repeat (first | apply Kd.R_alloc | apply Kd.R_drewN | apply Kd.R_drew)); exact Kd.R_mono HO169.out (fun _ hk => ⟨hk.1.1, ⟨hk.1.2, hk.2⟩⟩)), (by (with_reducible repeat (first | apply Kd.R_alloc | apply Kd.R_drewN | apply Kd.R_drew)); exact Kd.R_mono HO180.out (fun _ hk => ⟨hk.1.1.2, ⟨hk.1.2, hk.2⟩⟩)), (by (with_reducible repeat (first | apply Kd.R_alloc | apply Kd.R_drewN | apply Kd.R_drew)); exact Kd.R_mono HO184.out (fun _ hk => ⟨hk.1.1.2, ⟨hk.1.2, hk.2⟩⟩)), (Sq.al BK159), (Sq.al BK160), (Sq.al BK171), (Sq.al BK172), (Sq.al BK185), GW185.out, GE185.out, NB159_185.out, NB185_159.out, NB160_185.out, NB185_160.out, NB171_185.out, NB185_171.out, NB172_185.out, NB185_172.out, (Sq.bl HB)⟩)
     ·skip
      refine box_step ?hg (N := 8) ?hd (cs := #[.bool false, .slice none 0 0]) (t := 39) ?hr ?_; (case hd => rfl); (case hg => rfl); (case hr => first | (go_simp; done) | (go_simp; rfl))
      intro gb185 hg w68 hbox hb
      replace HO165 := Aside0.mk (Kd.R_below (Sq.al HO165) hb)
      replace HO169 := Aside0.mk (Kd.R_below (Sq.al HO169) hb)
      replace HO180 := Aside0.mk (Kd.R_below (Sq.al HO180) hb)
      have BK185 := Aside0.mk (hbox)
      have GW185 := Sq.gw HB hg
      have GE185 := Sq.gw HB hg
      have NB159_185 := Sq.nl BK159 hg
      have NB185_159 := Sq.ng BK159 hg
      have NB160_185 := Sq.nl BK160 hg
      have NB185_160 := Sq.ng BK160 hg
      have NB171_185 := Sq.nl BK171 hg
      have NB185_171 := Sq.ng BK171 hg
      have NB172_185 := Sq.nl BK172 hg
      have NB185_172 := Sq.ng BK172 hg
      replace BK159 := Sq.bb BK159 hb
      replace BK160 := Sq.bb BK160 hb
      replace BK171 := Sq.bb BK171 hb
      replace BK172 := Sq.bb BK172 hb
      replace HB := Sq.bs HB hb
      clear hb hbox hg
      obtain ⟨Ao69, co69, eo69⟩ := Kd.R_slice HO180.out
      (first | subst eo69 | (injection eo69 with f1_ f2_ f3_; have f4_ := f1_.symm; have f5_ := f3_.symm; clear f1_ f2_ f3_; subst f4_; subst f5_))
      refine hK.out _ _ ⟨(blk_cell BK171.out 0).trans rfl, (blk_cell BK171.out 1).trans rfl, (blk_cell BK160.out 0).trans rfl, (blk_cell BK160.out 1).trans rfl, (blk_cell BK172.out 0).trans rfl, (blk_cell BK172.out 1).trans rfl⟩ (fun hHeld => ?_)
      clear hK K
      refine norm_ (a' := ?_) ?_ ?_
      rotate_left
      ·show Act.put _ (some 8) _ = _
       simp only [Act.put, List.setIfInBounds_toArray, List.set_cons_zero, List.set_cons_succ, i64_w, i32_w]
       rfl
      refine one_ (i := 4) (N := some 43) #[true, true, true, true, true, true, false] rfl rfl (by kernel_rfl) (by decide) (fun K hK => ?_)
      refine goes_ Try.func63 (by kernel_rfl) rfl #[.agg #[.bool t177, .slice Ao69 t178.length co69], .agg #[.bool t166, .slice Ao63 t167.length co63]] (by rfl) rfl rfl (by (try simp only [List.map_toArray, List.map_cons, List.map_nil]); first | done | rfl | (simp only [List.length_drop, List.length_take]; rfl)) ?_
      with_reducible refine (integer_Add.calls t177 _ _ t178 t166 _ _ t167 t181 t182 _ ?side1 ?side2 ?side3 ?side4 A42.out).mono ?_
      (case side1 => exact Sq.ca (Kd.R_reads' HO180.out).2.2)
      (case side2 => exact (Kd.R_reads' HO180.out).2.1)
      (case side3 => exact Sq.ca (Kd.R_reads' HO169.out).2.2)
      (case side4 => exact (Kd.R_reads' HO169.out).2.1)
      rintro e w70 ⟨v183, rfl, ho0, hb⟩
      refine ⟨_, rfl, ?_⟩
      have HO184 := Aside0.mk (Kd.R_lower (Kd.R_new' (Kd.R_new' (Kd.R_new' ho0 (Kd.R_lt (Sq.al HO165))) (Kd.R_lt (Sq.al HO169))) (Kd.R_lt (Sq.al HO180))) (below_size (Sq.bl HB)))
      replace BK159 := Sq.bb BK159 hb
      replace BK160 := Sq.bb BK160 hb
      replace BK171 := Sq.bb BK171 hb
      replace BK172 := Sq.bb BK172 hb
      replace BK185 := Sq.bb BK185 hb
      replace HO165 := Aside0.mk (Kd.R_elder' (Sq.al HO165) (Kd.R_base ho0) hb)
      replace HO169 := Aside0.mk (Kd.R_elder' (Sq.al HO169) (Kd.R_base ho0) hb)
      replace HO180 := Aside0.mk (Kd.R_elder' (Sq.al HO180) (Kd.R_base ho0) hb)
      replace HB := Sq.bs HB hb
      (try clear hb)
      (try clear hb2)
      (try clear hk)
      (try clear hi)
      (try clear ho0)
      refine hK.out _ _ ⟨(blk_cell BK171.out 0).trans rfl, (blk_cell BK171.out 1).trans rfl, (blk_cell BK160.out 0).trans rfl, (blk_cell BK160.out 1).trans rfl, (blk_cell BK172.out 0).trans rfl, (blk_cell BK172.out 1).trans rfl⟩ (fun hHeld => ?_)
      clear hK K
      refine norm_ (a' := ?_) ?_ ?_
      rotate_left
      ·show Act.put _ (some 43) _ = _
       simp only [Act.put, List.setIfInBounds_toArray, List.set_cons_zero, List.set_cons_succ, i64_w, i32_w]
       rfl
      exact norm_ (by simp only [putAll, Act.put, List.setIfInBounds_toArray, List.set_cons_zero, List.set_cons_succ]) (hCont (.slice Ao69 t178.length co69, v183, gb185) _ ⟨hHeld, (by (with_reducible repeat (first | apply Kd.R_alloc | apply Kd.R_drewN | apply Kd.R_drew)); exact Kd.R_mono HO165.out (fun _ hk => ⟨hk.1.1, ⟨hk.1.2, hk.2⟩⟩)), (by (with_reducible repeat (first | apply Kd.R_alloc | apply Kd.R_drewN | apply Kd.R_drew)); exact Kd.R_mono HO169.out (fun _ hk => ⟨hk.1.1, ⟨hk.1.2, hk.2⟩⟩)), (by (with_reducible repeat (first | apply Kd.R_alloc | apply Kd.R_drewN | apply Kd.R_drew)); exact Kd.R_mono HO180.out (fun _ hk => ⟨hk.1.1.2, ⟨hk.1.2, hk.2⟩⟩)), (by (with_reducible repeat (first | apply Kd.R_alloc | apply Kd.R_drewN | apply Kd.R_drew)); exact Kd.R_mono HO184.out (fun _ hk => ⟨hk.1.1.2, ⟨hk.1.2, hk.2⟩⟩)), (Sq.al BK159), (Sq.al BK160), (Sq.al BK171), (Sq.al BK172), (Sq.al BK185), GW185.out, GE185.out, NB159_185.out, NB185_159.out, NB160_185.out, NB185_160.out, NB171_185.out, NB185_171.out, NB172_185.out, NB185_172.out, (Sq.bl HB)⟩)
    ·skip
     refine box_step ?hg (N := 8) ?hd (cs := #[.bool false, .slice none 0 0]) (t := 39) ?hr ?_; (case hd => rfl); (case hg => rfl); (case hr => first | (go_simp; done) | (go_simp; rfl))
     intro gb185 hg w67 hbox hb
     replace HO165 := Aside0.mk (Kd.R_below (Sq.al HO165) hb)
     replace HO169 := Aside0.mk (Kd.R_below (Sq.al HO169) hb)
     have BK185 := Aside0.mk (hbox)
     have GW185 := Sq.gw HB hg
     have GE185 := Sq.gw HB hg
     have NB159_185 := Sq.nl BK159 hg
     have NB185_159 := Sq.ng BK159 hg
     have NB160_185 := Sq.nl BK160 hg
     have NB185_160 := Sq.ng BK160 hg
     have NB171_185 := Sq.nl BK171 hg
     have NB185_171 := Sq.ng BK171 hg
     have NB172_185 := Sq.nl BK172 hg
     have NB185_172 := Sq.ng BK172 hg
     replace BK159 := Sq.bb BK159 hb
     replace BK160 := Sq.bb BK160 hb
     replace BK171 := Sq.bb BK171 hb
     replace BK172 := Sq.bb BK172 hb
     replace HB := Sq.bs HB hb
     clear hb hbox hg
     refine hK.out _ _ ⟨(blk_cell BK171.out 0).trans rfl, (blk_cell BK171.out 1).trans rfl, (blk_cell BK160.out 0).trans rfl, (blk_cell BK160.out 1).trans rfl, (blk_cell BK172.out 0).trans rfl, (blk_cell BK172.out 1).trans rfl⟩ (fun hHeld => ?_)
     clear hK K
     refine norm_ (a' := ?_) ?_ ?_
     rotate_left
     ·show Act.put _ (some 8) _ = _
      simp only [Act.put, List.setIfInBounds_toArray, List.set_cons_zero, List.set_cons_succ, i64_w, i32_w]
      rfl
     refine one_ (i := 2) (N := some 41) #[true, true, true, true, false, true, false] rfl rfl (by kernel_rfl) (by decide) (fun K hK => ?_)
     refine goes_ Try.func64 (by kernel_rfl) rfl #[.agg #[.bool t162, .slice Ao59 t163.length co59], .agg #[.bool a1_0, .slice A1_1 l1_1.length c1_1]] (by rfl) rfl rfl (by (try simp only [List.map_toArray, List.map_cons, List.map_nil]); first | done | rfl | (simp only [List.length_drop, List.length_take]; rfl)) ?_
     with_reducible refine (integer_Mul.calls t162 _ _ t163 a1_0 _ _ l1_1 t177 t178 _ ?side1 ?side2 ?side3 ?side4 A41.out).mono ?_
     (case side1 => exact Sq.ca (Kd.R_reads' HO165.out).2.2)
     (case side2 => exact (Kd.R_reads' HO165.out).2.1)
     (case side3 => exact Sq.ca (Kd.C_below HR1_1.out HB.out))
     (case side4 => exact HC1_1.out)
     rintro e w68 ⟨v179, rfl, ho0, hb⟩
     refine ⟨_, rfl, ?_⟩
     have HO180 := Aside0.mk (Kd.R_lower (Kd.R_new' (Kd.R_new' ho0 (Kd.R_lt (Sq.al HO165))) (Kd.R_lt (Sq.al HO169))) (below_size (Sq.bl HB)))
     replace BK159 := Sq.bb BK159 hb
     replace BK160 := Sq.bb BK160 hb
     replace BK171 := Sq.bb BK171 hb
     replace BK172 := Sq.bb BK172 hb
     replace BK185 := Sq.bb BK185 hb
     replace HO165 := Aside0.mk (Kd.R_elder' (Sq.al HO165) (Kd.R_base ho0) hb)
     replace HO169 := Aside0.mk (Kd.R_elder' (Sq.al HO169) (Kd.R_base ho0) hb)
     replace HB := Sq.bs HB hb
     (try clear hb)
     (try clear hb2)
     (try clear hk)
     (try clear hi)
     (try clear ho0)
     obtain ⟨Ao69, co69, eo69⟩ := Kd.R_slice HO180.out
     (first | subst eo69 | (injection eo69 with f1_ f2_ f3_; have f4_ := f1_.symm; have f5_ := f3_.symm; clear f1_ f2_ f3_; subst f4_; subst f5_))
     refine hK.out _ _ ⟨(blk_cell BK171.out 0).trans rfl, (blk_cell BK171.out 1).trans rfl, (blk_cell BK160.out 0).trans rfl, (blk_cell BK160.out 1).trans rfl, (blk_cell BK172.out 0).trans rfl, (blk_cell BK172.out 1).trans rfl⟩ (fun hHeld => ?_)
     clear hK K
     refine norm_ (a' := ?_) ?_ ?_
     rotate_left
     ·show Act.put _ (some 41) _ = _
      simp only [Act.put, List.setIfInBounds_toArray, List.set_cons_zero, List.set_cons_succ, i64_w, i32_w]
      rfl
     refine one_ (i := 4) (N := some 43) #[true, true, true, true, true, true, false] rfl rfl (by kernel_rfl) (by decide) (fun K hK => ?_)
     refine goes_ Try.func63 (by kernel_rfl) rfl #[.agg #[.bool t177, .slice Ao69 t178.length co69], .agg #[.bool t166, .slice Ao63 t167.length co63]] (by rfl) rfl rfl (by (try simp only [List.map_toArray, List.map_cons, List.map_nil]); first | done | rfl | (simp only [List.length_drop, List.length_take]; rfl)) ?_
     with_reducible refine (integer_Add.calls t177 _ _ t178 t166 _ _ t167 t181 t182 _ ?side1 ?side2 ?side3 ?side4 A42.out).mono ?_
     (case side1 => exact Sq.ca (Kd.R_reads' HO180.out).2.2)
     (case side2 => exact (Kd.R_reads' HO180.out).2.1)
     (case side3 => exact Sq.ca (Kd.R_reads' HO169.out).2.2)
     (case side4 => exact (Kd.R_reads' HO169.out).2.1)
     rintro e w70 ⟨v183, rfl, ho0, hb⟩
     refine ⟨_, rfl, ?_⟩
     have HO184 := Aside0.mk (Kd.R_lower (Kd.R_new' (Kd.R_new' (Kd.R_new' ho0 (Kd.R_lt (Sq.al HO165))) (Kd.R_lt (Sq.al HO169))) (Kd.R_lt (Sq.al HO180))) (below_size (Sq.bl HB)))
     replace BK159 := Sq.bb BK159 hb
     replace BK160 := Sq.bb BK160 hb
     replace BK171 := Sq.bb BK171 hb
     replace BK172 := Sq.bb BK172 hb
     replace BK185 := Sq.bb BK185 hb
     replace HO165 := Aside0.mk (Kd.R_elder' (Sq.al HO165) (Kd.R_base ho0) hb)
     replace HO169 := Aside0.mk (Kd.R_elder' (Sq.al HO169) (Kd.R_base ho0) hb)
     replace HO180 := Aside0.mk (Kd.R_elder' (Sq.al HO180) (Kd.R_base ho0) hb)
     replace HB := Sq.bs HB hb
     (try clear hb)
     (try clear hb2)
     (try clear hk)
     (try clear hi)
     (try clear ho0)
     refine hK.out _ _ ⟨(blk_cell BK171.out 0).trans rfl, (blk_cell BK171.out 1).trans rfl, (blk_cell BK160.out 0).trans rfl, (blk_cell BK160.out 1).trans rfl, (blk_cell BK172.out 0).trans rfl, (blk_cell BK172.out 1).trans rfl⟩ (fun hHeld => ?_)
     clear hK K
     refine norm_ (a' := ?_) ?_ ?_
     rotate_left
     ·show Act.put _ (some 43) _ = _
      simp only [Act.put, List.setIfInBounds_toArray, List.set_cons_zero, List.set_cons_succ, i64_w, i32_w]
      rfl
     exact norm_ (by simp only [putAll, Act.put, List.setIfInBounds_toArray, List.set_cons_zero, List.set_cons_succ]) (hCont (.slice Ao69 t178.length co69, v183, gb185) _ ⟨hHeld, (by (with_reducible repeat (first | apply Kd.R_alloc | apply Kd.R_drewN | apply Kd.R_drew)); exact Kd.R_mono HO165.out (fun _ hk => ⟨hk.1.1, ⟨hk.1.2, hk.2⟩⟩)), (by (with_reducible repeat (first | apply Kd.R_alloc | apply Kd.R_drewN | apply Kd.R_drew)); exact Kd.R_mono HO169.out (fun _ hk => ⟨hk.1.1, ⟨hk.1.2, hk.2⟩⟩)), (by (with_reducible repeat (first | apply Kd.R_alloc | apply Kd.R_drewN | apply Kd.R_drew)); exact Kd.R_mono HO180.out (fun _ hk => ⟨hk.1.1.2, ⟨hk.1.2, hk.2⟩⟩)), (by (with_reducible repeat (first | apply Kd.R_alloc | apply Kd.R_drewN | apply Kd.R_drew)); exact Kd.R_mono HO184.out (fun _ hk => ⟨hk.1.1.2, ⟨hk.1.2, hk.2⟩⟩)), (Sq.al BK159), (Sq.al BK160), (Sq.al BK171), (Sq.al BK172), (Sq.al BK185), GW185.out, GE185.out, NB159_185.out, NB185_159.out, NB160_185.out, NB185_160.out, NB171_185.out, NB185_171.out, NB172_185.out, NB185_172.out, (Sq.bl HB)⟩)
   rintro ⟨v179, v183, gb185⟩ w71 ⟨hS_, h0_, h1_, h2_, h3_, h4_, h5_, h6_, h7_, h8_, h9_, h10_, h11_, h12_, h13_, h14_, h15_, h16_, h17_, h18_, h19_⟩
   replace HO165 : Aside0 (Kd.R (Kd.int .u32) 107 w71 w.heap.size (fun k_ => some k_ ≠ (.slice Ao63 t167.length co63 : Value).ownBlock ∧ some k_ ≠ (v179 : Value).ownBlock ∧ some k_ ≠ (v183 : Value).ownBlock) (.slice Ao59 t163.length co59) t163) := ⟨h0_⟩
   replace HO169 : Aside0 (Kd.R (Kd.int .u32) 107 w71 w.heap.size (fun k_ => some k_ ≠ (.slice Ao59 t163.length co59 : Value).ownBlock ∧ some k_ ≠ (v179 : Value).ownBlock ∧ some k_ ≠ (v183 : Value).ownBlock) (.slice Ao63 t167.length co63) t167) := ⟨h1_⟩
   have HO180 : Aside0 (Kd.R (Kd.int .u32) 107 w71 w.heap.size (fun k_ => some k_ ≠ (.slice Ao59 t163.length co59 : Value).ownBlock ∧ some k_ ≠ (.slice Ao63 t167.length co63 : Value).ownBlock ∧ some k_ ≠ (v183 : Value).ownBlock) v179 t178) := ⟨h2_⟩
   have HO184 : Aside0 (Kd.R (Kd.int .u32) 107 w71 w.heap.size (fun k_ => some k_ ≠ (.slice Ao59 t163.length co59 : Value).ownBlock ∧ some k_ ≠ (.slice Ao63 t167.length co63 : Value).ownBlock ∧ some k_ ≠ (v179 : Value).ownBlock) v183 t182) := ⟨h3_⟩
   replace BK159 : Aside0 (w71.heap[gb159]? = some (.cells #[.bool a0_0, .slice A0_1 l0_1.length c0_1] 39 (0, 0))) := ⟨h4_⟩
   replace BK160 : Aside0 (w71.heap[gb160]? = some (.cells #[.bool a1_0, .slice A1_1 l1_1.length c1_1] 39 (0, 0))) := ⟨h5_⟩
   replace BK171 : Aside0 (w71.heap[gb171]? = some (.cells #[.bool t162, .slice Ao59 t163.length co59] 39 (0, 0))) := ⟨h6_⟩
   replace BK172 : Aside0 (w71.heap[gb172]? = some (.cells #[.bool t166, .slice Ao63 t167.length co63] 39 (0, 0))) := ⟨h7_⟩
   have BK185 : Aside0 (w71.heap[gb185]? = some (.cells #[.bool false, .slice none 0 0] 39 (0, 0))) := ⟨h8_⟩
   have GW185 : Aside0 (w.heap.size ≤ gb185) := ⟨h9_⟩
   have GE185 : Aside0 (w.heap.size ≤ gb185) := ⟨h10_⟩
   have NB159_185 : Aside0 (gb159 ≠ gb185) := ⟨h11_⟩
   have NB185_159 : Aside0 (gb185 ≠ gb159) := ⟨h12_⟩
   have NB160_185 : Aside0 (gb160 ≠ gb185) := ⟨h13_⟩
   have NB185_160 : Aside0 (gb185 ≠ gb160) := ⟨h14_⟩
   have NB171_185 : Aside0 (gb171 ≠ gb185) := ⟨h15_⟩
   have NB185_171 : Aside0 (gb185 ≠ gb171) := ⟨h16_⟩
   have NB172_185 : Aside0 (gb172 ≠ gb185) := ⟨h17_⟩
   have NB185_172 : Aside0 (gb185 ≠ gb172) := ⟨h18_⟩
   replace HB : Aside0 (Below w.heap.size w w71) := ⟨h19_⟩
   clear h0_ h1_ h2_ h3_ h4_ h5_ h6_ h7_ h8_ h9_ h10_ h11_ h12_ h13_ h14_ h15_ h16_ h17_ h18_ h19_
   have hHeld : w71.cell? ⟨gb171, 0, none⟩ = some (.bool t162) ∧ w71.cell? ⟨gb171, 1, none⟩ = some (.slice Ao59 t163.length co59) ∧ w71.cell? ⟨gb160, 0, none⟩ = some (.bool a1_0) ∧ w71.cell? ⟨gb160, 1, none⟩ = some (.slice A1_1 l1_1.length c1_1) ∧ w71.cell? ⟨gb172, 0, none⟩ = some (.bool t166) ∧ w71.cell? ⟨gb172, 1, none⟩ = some (.slice Ao63 t167.length co63) := hS_
   obtain ⟨Ao73, co73, eo73⟩ := Kd.R_slice HO184.out
   (first | subst eo73 | (injection eo73 with f1_ f2_ f3_; have f4_ := f1_.symm; have f5_ := f3_.symm; clear f1_ f2_ f3_; subst f4_; subst f5_))
   refine norm_ (a' := ?_) ?_ ?_
   rotate_left
   ·simp only [putAll, Act.put, List.setIfInBounds_toArray, List.set_cons_zero, List.set_cons_succ]
    rfl
   refine one_ (i := 6) (N := none) #[true, true, true, true, true, true, true] rfl rfl (by kernel_rfl) (by decide) (fun K hK => ?_)
   have hs72 : w71.cell? ⟨gb185, 0, none⟩ = some (.bool false) := (blk_cell BK185.out 0).trans rfl
   have hfs72 := blk_frozen BK185.out 0
   have hns72_0 := NB159_185.out
   have hns72_1 := NB160_185.out
   have hns72_2 := NB171_185.out
   have hns72_3 := NB172_185.out
   have hms72_0 := NB185_159.out
   have hms72_1 := NB185_160.out
   have hms72_2 := NB185_171.out
   have hms72_3 := NB185_172.out
   have hs74 : w71.cell? ⟨gb185, 1, none⟩ = some (.slice none 0 0) := (blk_cell BK185.out 1).trans rfl
   have hfs74 := blk_frozen BK185.out 1
   have hns74_0 := NB159_185.out
   have hns74_1 := NB160_185.out
   have hns74_2 := NB171_185.out
   have hns74_3 := NB172_185.out
   have hms74_0 := NB185_159.out
   have hms74_1 := NB185_160.out
   have hms74_2 := NB185_171.out
   have hms74_3 := NB185_172.out
   refine skip_ (w1 := ?_) (by rfl) rfl ?_ ?_
   rotate_left
   ·go_simp
    rfl
   refine hK.out _ _ ⟨((cell_far (p := ⟨gb185, _, none⟩) NB171_185.out _).trans (((cell_far (p := ⟨gb185, _, none⟩) NB171_185.out _).trans (hHeld.1)))), ((cell_far (p := ⟨gb185, _, none⟩) NB171_185.out _).trans (((cell_far (p := ⟨gb185, _, none⟩) NB171_185.out _).trans (hHeld.2.1)))), ((cell_far (p := ⟨gb185, _, none⟩) NB160_185.out _).trans (((cell_far (p := ⟨gb185, _, none⟩) NB160_185.out _).trans (hHeld.2.2.1)))), ((cell_far (p := ⟨gb185, _, none⟩) NB160_185.out _).trans (((cell_far (p := ⟨gb185, _, none⟩) NB160_185.out _).trans (hHeld.2.2.2.1)))), ((cell_far (p := ⟨gb185, _, none⟩) NB172_185.out _).trans (((cell_far (p := ⟨gb185, _, none⟩) NB172_185.out _).trans (hHeld.2.2.2.2.1)))), ((cell_far (p := ⟨gb185, _, none⟩) NB172_185.out _).trans (((cell_far (p := ⟨gb185, _, none⟩) NB172_185.out _).trans (hHeld.2.2.2.2.2))))⟩ (fun hHeld => ?_)
   clear hK K
   refine done_ (by kernel_rfl) ?_
   go_upto_region 7 with (fail)
   go_cut [9] (fun v9 wc => ∃ (kq : Nat) (x9_42 : Bool), v9 = .bool x9_42 ∧ Aside0 (foliotlaw02_IntegerRest.j0 kq t170 x9_42 a0_0 l0_1 a1_0 l1_1 t166 t167 t181 t182 = some r) ∧ Aside0 (kq ≤ k) ∧ Aside0 (Kd.R (Kd.int .u32) 107 wc w.heap.size (fun k_ => some k_ ≠ ((.slice Ao63 t167.length co63) : Value).ownBlock ∧ some k_ ≠ ((.slice Ao73 t182.length co73) : Value).ownBlock) (.slice Ao59 t163.length co59) t163) ∧ Aside0 (Kd.R (Kd.int .u32) 107 wc w.heap.size (fun k_ => some k_ ≠ ((.slice Ao59 t163.length co59) : Value).ownBlock ∧ some k_ ≠ ((.slice Ao73 t182.length co73) : Value).ownBlock) (.slice Ao63 t167.length co63) t167) ∧ Aside0 (Kd.R (Kd.int .u32) 107 wc w.heap.size (fun k_ => some k_ ≠ ((.slice Ao59 t163.length co59) : Value).ownBlock ∧ some k_ ≠ ((.slice Ao63 t167.length co63) : Value).ownBlock) (.slice Ao73 t182.length co73) t182) ∧ Aside0 (wc.heap[gb159]? = some (.cells #[.bool a0_0, (.slice A0_1 l0_1.length c0_1)] 39 (0, 0))) ∧ Aside0 (wc.heap[gb160]? = some (.cells #[.bool a1_0, (.slice A1_1 l1_1.length c1_1)] 39 (0, 0))) ∧ Aside0 (wc.heap[gb171]? = some (.cells #[.bool t162, (.slice Ao59 t163.length co59)] 39 (0, 0))) ∧ Aside0 (wc.heap[gb172]? = some (.cells #[.bool t166, (.slice Ao63 t167.length co63)] 39 (0, 0))) ∧ Aside0 (wc.heap[gb185]? = some (.cells #[.bool t181, (.slice Ao73 t182.length co73)] 39 (0, 0))) ∧ Aside0 (Below w.heap.size w wc))
   case first =>
    have H := HC43.out
    clear HC43
    replace H := Sq.bd H
    obtain ⟨t186, A75, H⟩ := H
    (try dsimp -simprocs only at H)
    by_cases c76 : t186 ≥ 0
    ·rw [if_pos c76] at H
     have c76b0 : decide (0 ≤ t186) = true := decide_eq_true c76
     clear c76
     (first | rw [c76b0] | (simp only [i64_w, i32_w]; rw [c76b0]) | skip)
     replace H := Sq.bd H
     obtain ⟨t187, A77, H⟩ := H
     (try dsimp -simprocs only at H)
     have H' := Aside0.mk H
     clear H
     have hnb78 := NB172_159.out
     have hnc78 := NB159_172.out
     have hnb79 := NB172_160.out
     have hnc79 := NB160_172.out
     have hnb80 := NB172_171.out
     have hnc80 := NB171_172.out
     have hnb81 := NB172_185.out
     have hnc81 := NB185_172.out
     have hcz82_0 := Sq.bc BK172 0 (.bool t166)
     have hcz82_1 := Sq.bc BK172 1 (.slice Ao63 t167.length co63)
     have hfz82_0 := blk_frozen BK172.out 0
     have hfz82_1 := blk_frozen BK172.out 1
     go_wp2_with (first | ((with_reducible refine gate_callee (f := 66) rfl ?_); refine Sq.gl (some 45) Try.func66 #[.agg #[.bool t166, .slice Ao63 t167.length co63]] ?_; (with_reducible refine (integer_Sign.calls t166 _ _ t167 t186 _ ?side1 ?side2 A75.out).mono ?_); (case side1 => refine (Kd.R_reads' (e := 107) (base := w.heap.size) (ok := fun k_ => (some k_ ≠ (.slice Ao59 t163.length co59 : Value).ownBlock ∧ (some k_ ≠ (v179 : Value).ownBlock ∧ some k_ ≠ (.slice Ao73 t182.length co73 : Value).ownBlock))) (n := t167.length) (c := co63) ?_).2.2; exact (by (with_reducible repeat (first | apply Kd.R_alloc | apply Kd.R_drewN | apply Kd.R_drew)); exact (Kd.R_mono (Kd.R_far (p := ⟨gb185, 1, none⟩) (Kd.R_far (p := ⟨gb185, 0, none⟩) (Sq.rt HO169.out BK185) (fun _ hk => hk.2) (.bool t181)) (fun _ hk => hk.2) (.slice Ao73 t182.length co73)) (fun _ h_ => h_.1)))); (case side2 => exact (Kd.R_reads' HO169.out).2.1); rintro e w83 ⟨rfl, hb⟩; refine ⟨_, rfl, ?_⟩; replace HO165 := Aside0.mk (Kd.R_below (by (with_reducible repeat (first | apply Kd.R_alloc | apply Kd.R_drewN | apply Kd.R_drew)); exact (Kd.R_mono (Kd.R_far (p := ⟨gb185, 1, none⟩) (Kd.R_far (p := ⟨gb185, 0, none⟩) (Sq.rt HO165.out BK185) (fun _ hk => hk.2) (.bool t181)) (fun _ hk => hk.2) (.slice Ao73 t182.length co73)) (fun _ h_ => h_.1))) hb); replace HO169 := Aside0.mk (Kd.R_below (by (with_reducible repeat (first | apply Kd.R_alloc | apply Kd.R_drewN | apply Kd.R_drew)); exact (Kd.R_mono (Kd.R_far (p := ⟨gb185, 1, none⟩) (Kd.R_far (p := ⟨gb185, 0, none⟩) (Sq.rt HO169.out BK185) (fun _ hk => hk.2) (.bool t181)) (fun _ hk => hk.2) (.slice Ao73 t182.length co73)) (fun _ h_ => h_.1))) hb); replace HO180 := Aside0.mk (Kd.R_below (by (with_reducible repeat (first | apply Kd.R_alloc | apply Kd.R_drewN | apply Kd.R_drew)); exact (Kd.R_mono (Kd.R_far (p := ⟨gb185, 1, none⟩) (Kd.R_far (p := ⟨gb185, 0, none⟩) (Sq.rt HO180.out BK185) (fun _ hk => hk.2) (.bool t181)) (fun _ hk => hk.2) (.slice Ao73 t182.length co73)) (fun _ h_ => h_.1))) hb); replace HO184 := Aside0.mk (Kd.R_below (by (with_reducible repeat (first | apply Kd.R_alloc | apply Kd.R_drewN | apply Kd.R_drew)); exact (Kd.R_mono (Kd.R_far (p := ⟨gb185, 1, none⟩) (Kd.R_far (p := ⟨gb185, 0, none⟩) (Sq.rt HO184.out BK185) (fun _ hk => hk.2) (.bool t181)) (fun _ hk => hk.2) (.slice Ao73 t182.length co73)) (fun _ h_ => h_.1))) hb); replace BK159 := Aside0.mk (blk_below (g := gb159) (o := .cells #[.bool a0_0, .slice A0_1 l0_1.length c0_1] 39 (0, 0)) (by (with_reducible repeat (first | refine blk_drewN ?_ _ | refine blk_drew ?_ | refine blk_alloc ?_ _)); refine blk_far ?_ NB159_185.out _; (with_reducible repeat (first | refine blk_drewN ?_ _ | refine blk_drew ?_ | refine blk_alloc ?_ _)); refine blk_far ?_ NB159_185.out _; (with_reducible repeat (first | refine blk_drewN ?_ _ | refine blk_drew ?_ | refine blk_alloc ?_ _)); exact BK159.out) hb); replace BK160 := Aside0.mk (blk_below (g := gb160) (o := .cells #[.bool a1_0, .slice A1_1 l1_1.length c1_1] 39 (0, 0)) (by (with_reducible repeat (first | refine blk_drewN ?_ _ | refine blk_drew ?_ | refine blk_alloc ?_ _)); refine blk_far ?_ NB160_185.out _; (with_reducible repeat (first | refine blk_drewN ?_ _ | refine blk_drew ?_ | refine blk_alloc ?_ _)); refine blk_far ?_ NB160_185.out _; (with_reducible repeat (first | refine blk_drewN ?_ _ | refine blk_drew ?_ | refine blk_alloc ?_ _)); exact BK160.out) hb); replace BK171 := Aside0.mk (blk_below (g := gb171) (o := .cells #[.bool t162, .slice Ao59 t163.length co59] 39 (0, 0)) (by (with_reducible repeat (first | refine blk_drewN ?_ _ | refine blk_drew ?_ | refine blk_alloc ?_ _)); refine blk_far ?_ NB171_185.out _; (with_reducible repeat (first | refine blk_drewN ?_ _ | refine blk_drew ?_ | refine blk_alloc ?_ _)); refine blk_far ?_ NB171_185.out _; (with_reducible repeat (first | refine blk_drewN ?_ _ | refine blk_drew ?_ | refine blk_alloc ?_ _)); exact BK171.out) hb); replace BK172 := Aside0.mk (blk_below (g := gb172) (o := .cells #[.bool t166, .slice Ao63 t167.length co63] 39 (0, 0)) (by (with_reducible repeat (first | refine blk_drewN ?_ _ | refine blk_drew ?_ | refine blk_alloc ?_ _)); refine blk_far ?_ NB172_185.out _; (with_reducible repeat (first | refine blk_drewN ?_ _ | refine blk_drew ?_ | refine blk_alloc ?_ _)); refine blk_far ?_ NB172_185.out _; (with_reducible repeat (first | refine blk_drewN ?_ _ | refine blk_drew ?_ | refine blk_alloc ?_ _)); exact BK172.out) hb); replace HB := Sq.bs HB hb; replace BK185 := Aside0.mk (blk_below (g := gb185) (o := .cells #[.bool t181, .slice Ao73 t182.length co73] 39 (0, 0)) (by (with_reducible repeat (first | refine blk_drewN ?_ _ | refine blk_drew ?_ | refine blk_alloc ?_ _)); refine blk_put (cs := #[.bool t181, .slice none 0 0]) ?_ 1 _ rfl; (with_reducible repeat (first | refine blk_drewN ?_ _ | refine blk_drew ?_ | refine blk_alloc ?_ _)); refine blk_put (cs := #[.bool false, .slice none 0 0]) ?_ 0 _ rfl; (with_reducible repeat (first | refine blk_drewN ?_ _ | refine blk_drew ?_ | refine blk_alloc ?_ _)); exact BK185.out) hb); (try clear hb); (try clear hb2); (try clear hk); (try clear hi); have hcz84_0 := Sq.bc BK172 0 (.bool t166); have hcz84_1 := Sq.bc BK172 1 (.slice Ao63 t167.length co63); have hfz84_0 := blk_frozen BK172.out 0; have hfz84_1 := blk_frozen BK172.out 1; have hnb85 := NB160_159.out; have hnc85 := NB159_160.out; have hnb86 := NB160_171.out; have hnc86 := NB171_160.out; have hnb87 := NB160_185.out; have hnc87 := NB185_160.out; have hcz88_0 := Sq.bc BK160 0 (.bool a1_0); have hcz88_1 := Sq.bc BK160 1 (.slice A1_1 l1_1.length c1_1); have hfz88_0 := blk_frozen BK160.out 0; have hfz88_1 := blk_frozen BK160.out 1) | (go_at_call 72; (with_reducible refine (integer_Cmp.calls t166 _ _ t167 a1_0 _ _ l1_1 t187 _ ?side1 ?side2 ?side3 ?side4 A77.out).mono ?_); (case side1 => exact Sq.ca (Kd.R_reads' HO169.out).2.2); (case side2 => exact (Kd.R_reads' HO169.out).2.1); (case side3 => exact Sq.ca (Kd.C_below HR1_1.out HB.out)); (case side4 => exact HC1_1.out); rintro e w89 ⟨rfl, hb⟩; replace HO165 := Aside0.mk (Kd.R_below (Sq.al HO165) hb); replace HO169 := Aside0.mk (Kd.R_below (Sq.al HO169) hb); replace HO180 := Aside0.mk (Kd.R_below (Sq.al HO180) hb); replace HO184 := Aside0.mk (Kd.R_below (Sq.al HO184) hb); replace BK159 := Sq.bb BK159 hb; replace BK160 := Sq.bb BK160 hb; replace BK171 := Sq.bb BK171 hb; replace BK172 := Sq.bb BK172 hb; replace BK185 := Sq.bb BK185 hb; replace HB := Sq.bs HB hb; (try clear hb); (try clear hb2); (try clear hk); (try clear hi)))
     go_meet
     case rel => exact ⟨_, (decide (t187 < 0)), (by first | rfl | (simp; done) | (simp [*]; done)), H', ⟨by first | omega | exact Nat.le_refl _⟩, ⟨by (with_reducible repeat (first | apply Kd.R_alloc | apply Kd.R_drewN | apply Kd.R_drew)); exact Kd.R_mono HO165.out (fun _ hk => ⟨hk.1, hk.2.2⟩)⟩, ⟨by (with_reducible repeat (first | apply Kd.R_alloc | apply Kd.R_drewN | apply Kd.R_drew)); exact Kd.R_mono HO169.out (fun _ hk => ⟨hk.1, hk.2.2⟩)⟩, ⟨by (with_reducible repeat (first | apply Kd.R_alloc | apply Kd.R_drewN | apply Kd.R_drew)); exact Kd.R_mono HO184.out (fun _ hk => ⟨hk.1, hk.2.1⟩)⟩, ⟨by (with_reducible repeat (first | refine blk_drewN ?_ _ | refine blk_drew ?_ | refine blk_alloc ?_ _)); exact BK159.out⟩, ⟨by (with_reducible repeat (first | refine blk_drewN ?_ _ | refine blk_drew ?_ | refine blk_alloc ?_ _)); exact BK160.out⟩, ⟨by (with_reducible repeat (first | refine blk_drewN ?_ _ | refine blk_drew ?_ | refine blk_alloc ?_ _)); exact BK171.out⟩, ⟨by (with_reducible repeat (first | refine blk_drewN ?_ _ | refine blk_drew ?_ | refine blk_alloc ?_ _)); exact BK172.out⟩, ⟨by (with_reducible repeat (first | refine blk_drewN ?_ _ | refine blk_drew ?_ | refine blk_alloc ?_ _)); exact BK185.out⟩, ⟨Sq.bl HB⟩⟩
    ·rw [if_neg c76] at H
     have c76b0 : decide (0 ≤ t186) = false := decide_eq_false c76
     clear c76
     (first | rw [c76b0] | (simp only [i64_w, i32_w]; rw [c76b0]) | skip)
     have H' := Aside0.mk H
     clear H
     have hnb90 := NB172_159.out
     have hnc90 := NB159_172.out
     have hnb91 := NB172_160.out
     have hnc91 := NB160_172.out
     have hnb92 := NB172_171.out
     have hnc92 := NB171_172.out
     have hnb93 := NB172_185.out
     have hnc93 := NB185_172.out
     have hcz94_0 := Sq.bc BK172 0 (.bool t166)
     have hcz94_1 := Sq.bc BK172 1 (.slice Ao63 t167.length co63)
     have hfz94_0 := blk_frozen BK172.out 0
     have hfz94_1 := blk_frozen BK172.out 1
     go_wp2_with (first | ((with_reducible refine gate_callee (f := 66) rfl ?_); refine Sq.gl (some 45) Try.func66 #[.agg #[.bool t166, .slice Ao63 t167.length co63]] ?_; (with_reducible refine (integer_Sign.calls t166 _ _ t167 t186 _ ?side1 ?side2 A75.out).mono ?_); (case side1 => refine (Kd.R_reads' (e := 107) (base := w.heap.size) (ok := fun k_ => (some k_ ≠ (.slice Ao59 t163.length co59 : Value).ownBlock ∧ (some k_ ≠ (v179 : Value).ownBlock ∧ some k_ ≠ (.slice Ao73 t182.length co73 : Value).ownBlock))) (n := t167.length) (c := co63) ?_).2.2; exact (by (with_reducible repeat (first | apply Kd.R_alloc | apply Kd.R_drewN | apply Kd.R_drew)); exact (Kd.R_mono (Kd.R_far (p := ⟨gb185, 1, none⟩) (Kd.R_far (p := ⟨gb185, 0, none⟩) (Sq.rt HO169.out BK185) (fun _ hk => hk.2) (.bool t181)) (fun _ hk => hk.2) (.slice Ao73 t182.length co73)) (fun _ h_ => h_.1)))); (case side2 => exact (Kd.R_reads' HO169.out).2.1); rintro e w95 ⟨rfl, hb⟩; refine ⟨_, rfl, ?_⟩; replace HO165 := Aside0.mk (Kd.R_below (by (with_reducible repeat (first | apply Kd.R_alloc | apply Kd.R_drewN | apply Kd.R_drew)); exact (Kd.R_mono (Kd.R_far (p := ⟨gb185, 1, none⟩) (Kd.R_far (p := ⟨gb185, 0, none⟩) (Sq.rt HO165.out BK185) (fun _ hk => hk.2) (.bool t181)) (fun _ hk => hk.2) (.slice Ao73 t182.length co73)) (fun _ h_ => h_.1))) hb); replace HO169 := Aside0.mk (Kd.R_below (by (with_reducible repeat (first | apply Kd.R_alloc | apply Kd.R_drewN | apply Kd.R_drew)); exact (Kd.R_mono (Kd.R_far (p := ⟨gb185, 1, none⟩) (Kd.R_far (p := ⟨gb185, 0, none⟩) (Sq.rt HO169.out BK185) (fun _ hk => hk.2) (.bool t181)) (fun _ hk => hk.2) (.slice Ao73 t182.length co73)) (fun _ h_ => h_.1))) hb); replace HO180 := Aside0.mk (Kd.R_below (by (with_reducible repeat (first | apply Kd.R_alloc | apply Kd.R_drewN | apply Kd.R_drew)); exact (Kd.R_mono (Kd.R_far (p := ⟨gb185, 1, none⟩) (Kd.R_far (p := ⟨gb185, 0, none⟩) (Sq.rt HO180.out BK185) (fun _ hk => hk.2) (.bool t181)) (fun _ hk => hk.2) (.slice Ao73 t182.length co73)) (fun _ h_ => h_.1))) hb); replace HO184 := Aside0.mk (Kd.R_below (by (with_reducible repeat (first | apply Kd.R_alloc | apply Kd.R_drewN | apply Kd.R_drew)); exact (Kd.R_mono (Kd.R_far (p := ⟨gb185, 1, none⟩) (Kd.R_far (p := ⟨gb185, 0, none⟩) (Sq.rt HO184.out BK185) (fun _ hk => hk.2) (.bool t181)) (fun _ hk => hk.2) (.slice Ao73 t182.length co73)) (fun _ h_ => h_.1))) hb); replace BK159 := Aside0.mk (blk_below (g := gb159) (o := .cells #[.bool a0_0, .slice A0_1 l0_1.length c0_1] 39 (0, 0)) (by (with_reducible repeat (first | refine blk_drewN ?_ _ | refine blk_drew ?_ | refine blk_alloc ?_ _)); refine blk_far ?_ NB159_185.out _; (with_reducible repeat (first | refine blk_drewN ?_ _ | refine blk_drew ?_ | refine blk_alloc ?_ _)); refine blk_far ?_ NB159_185.out _; (with_reducible repeat (first | refine blk_drewN ?_ _ | refine blk_drew ?_ | refine blk_alloc ?_ _)); exact BK159.out) hb); replace BK160 := Aside0.mk (blk_below (g := gb160) (o := .cells #[.bool a1_0, .slice A1_1 l1_1.length c1_1] 39 (0, 0)) (by (with_reducible repeat (first | refine blk_drewN ?_ _ | refine blk_drew ?_ | refine blk_alloc ?_ _)); refine blk_far ?_ NB160_185.out _; (with_reducible repeat (first | refine blk_drewN ?_ _ | refine blk_drew ?_ | refine blk_alloc ?_ _)); refine blk_far ?_ NB160_185.out _; (with_reducible repeat (first | refine blk_drewN ?_ _ | refine blk_drew ?_ | refine blk_alloc ?_ _)); exact BK160.out) hb); replace BK171 := Aside0.mk (blk_below (g := gb171) (o := .cells #[.bool t162, .slice Ao59 t163.length co59] 39 (0, 0)) (by (with_reducible repeat (first | refine blk_drewN ?_ _ | refine blk_drew ?_ | refine blk_alloc ?_ _)); refine blk_far ?_ NB171_185.out _; (with_reducible repeat (first | refine blk_drewN ?_ _ | refine blk_drew ?_ | refine blk_alloc ?_ _)); refine blk_far ?_ NB171_185.out _; (with_reducible repeat (first | refine blk_drewN ?_ _ | refine blk_drew ?_ | refine blk_alloc ?_ _)); exact BK171.out) hb); replace BK172 := Aside0.mk (blk_below (g := gb172) (o := .cells #[.bool t166, .slice Ao63 t167.length co63] 39 (0, 0)) (by (with_reducible repeat (first | refine blk_drewN ?_ _ | refine blk_drew ?_ | refine blk_alloc ?_ _)); refine blk_far ?_ NB172_185.out _; (with_reducible repeat (first | refine blk_drewN ?_ _ | refine blk_drew ?_ | refine blk_alloc ?_ _)); refine blk_far ?_ NB172_185.out _; (with_reducible repeat (first | refine blk_drewN ?_ _ | refine blk_drew ?_ | refine blk_alloc ?_ _)); exact BK172.out) hb); replace HB := Sq.bs HB hb; replace BK185 := Aside0.mk (blk_below (g := gb185) (o := .cells #[.bool t181, .slice Ao73 t182.length co73] 39 (0, 0)) (by (with_reducible repeat (first | refine blk_drewN ?_ _ | refine blk_drew ?_ | refine blk_alloc ?_ _)); refine blk_put (cs := #[.bool t181, .slice none 0 0]) ?_ 1 _ rfl; (with_reducible repeat (first | refine blk_drewN ?_ _ | refine blk_drew ?_ | refine blk_alloc ?_ _)); refine blk_put (cs := #[.bool false, .slice none 0 0]) ?_ 0 _ rfl; (with_reducible repeat (first | refine blk_drewN ?_ _ | refine blk_drew ?_ | refine blk_alloc ?_ _)); exact BK185.out) hb); (try clear hb); (try clear hb2); (try clear hk); (try clear hi)))
     go_meet
     case rel => exact ⟨_, (false), (by first | rfl | (simp; done) | (simp [*]; done)), H', ⟨by first | omega | exact Nat.le_refl _⟩, ⟨by (with_reducible repeat (first | apply Kd.R_alloc | apply Kd.R_drewN | apply Kd.R_drew)); exact Kd.R_mono HO165.out (fun _ hk => ⟨hk.1, hk.2.2⟩)⟩, ⟨by (with_reducible repeat (first | apply Kd.R_alloc | apply Kd.R_drewN | apply Kd.R_drew)); exact Kd.R_mono HO169.out (fun _ hk => ⟨hk.1, hk.2.2⟩)⟩, ⟨by (with_reducible repeat (first | apply Kd.R_alloc | apply Kd.R_drewN | apply Kd.R_drew)); exact Kd.R_mono HO184.out (fun _ hk => ⟨hk.1, hk.2.1⟩)⟩, ⟨by (with_reducible repeat (first | refine blk_drewN ?_ _ | refine blk_drew ?_ | refine blk_alloc ?_ _)); exact BK159.out⟩, ⟨by (with_reducible repeat (first | refine blk_drewN ?_ _ | refine blk_drew ?_ | refine blk_alloc ?_ _)); exact BK160.out⟩, ⟨by (with_reducible repeat (first | refine blk_drewN ?_ _ | refine blk_drew ?_ | refine blk_alloc ?_ _)); exact BK171.out⟩, ⟨by (with_reducible repeat (first | refine blk_drewN ?_ _ | refine blk_drew ?_ | refine blk_alloc ?_ _)); exact BK172.out⟩, ⟨by (with_reducible repeat (first | refine blk_drewN ?_ _ | refine blk_drew ?_ | refine blk_alloc ?_ _)); exact BK185.out⟩, ⟨Sq.bl HB⟩⟩
   case rest =>
    clear HC43
    try clear c1
    try clear p2
    try clear c6
    try clear c7
    try clear c8
    try clear c9
    try clear c63
    try clear c64
    try clear c66
    try clear c76
    try clear c76b0
    try clear c78
    try clear c79
    try clear c80
    try clear c81
    try clear c85
    try clear c86
    try clear c87
    try clear c90
    try clear c91
    try clear c92
    try clear c93
    try clear hcz82_0
    try clear hcz82_1
    try clear hcz84_0
    try clear hcz84_1
    try clear hcz88_0
    try clear hcz88_1
    try clear hcz94_0
    try clear hcz94_1
    try clear hfz82_0
    try clear hfz82_1
    try clear hfz84_0
    try clear hfz84_1
    try clear hfz88_0
    try clear hfz88_1
    try clear hfz94_0
    try clear hfz94_1
    obtain ⟨kq, x9_42, rfl, HA, HJ42, HO_172001, HO_173001, HO_186001, BK159, BK160, BK171, BK172, BK185, HB⟩ := hcut
    cases kq with
    | zero => exact absurd HA.out (by simp [foliotlaw02_IntegerRest.j0])
    | succ kj42 =>
     have H := HA.out
     clear HA
     simp only [foliotlaw02_IntegerRest.j0] at H
     replace H := Sq.bd H
     obtain ⟨t188, A96, H⟩ := H
     (try dsimp -simprocs only at H)
     by_cases c97 : t188 < 0
     ·rw [if_pos c97] at H
      have c97b0 : decide (t188 < 0) = true := decide_eq_true c97
      clear c97
      replace H := Sq.bd H
      obtain ⟨t189, A98, H⟩ := H
      (try dsimp -simprocs only at H)
      by_cases c99 : t189 ≤ 0
      ·rw [if_pos c99] at H
       have c99b0 : decide (t189 ≤ 0) = true := decide_eq_true c99
       clear c99
       replace H := Sq.bd H
       obtain ⟨t190, A100, H⟩ := H
       (try dsimp -simprocs only at H)
       by_cases c101 : t170 = 0
       ·rw [if_pos c101] at H
        have c101b0 : (t170 == 0) = true := beq_iff_eq.mpr c101
        have c101b1 : (t170 != 0) = false := bne_eq_false_iff_eq.mpr c101
        clear c101
        replace H := Sq.bd H
        obtain ⟨⟨t191, t192⟩, A102, H⟩ := H
        (try dsimp -simprocs only at H)
        replace H := Sq.bd H
        obtain ⟨t195, A103, H⟩ := H
        (try dsimp -simprocs only at H)
        by_cases c104 : t195 = true
        ·subst c104
         have H1 : (if t190 > 0 then ((foliotlaw02_awake.f).bind fun t196 => (some t196)) else (none)) = some r := by rw [if_pos rfl] at H; exact H
         clear H
         have H := H1
         clear H1
         by_cases c105 : t190 > 0
         ·rw [if_pos c105] at H
          have c105b0 : decide (0 < t190) = true := decide_eq_true c105
          clear c105
          replace H := Sq.bd H
          obtain ⟨t196, A106, H⟩ := H
          (try dsimp -simprocs only at H)
          obtain rfl := Option.some.inj H
          have hnb107 := NB160_159.out
          have hnc107 := NB159_160.out
          have hnb108 := NB160_171.out
          have hnc108 := NB171_160.out
          have hnb109 := NB160_172.out
          have hnc109 := NB172_160.out
          have hnb110 := NB160_185.out
          have hnc110 := NB185_160.out
          have hcz111_0 := Sq.bc BK160 0 (.bool a1_0)
          have hcz111_1 := Sq.bc BK160 1 (.slice A1_1 l1_1.length c1_1)
          have hfz111_0 := blk_frozen BK160.out 0
          have hfz111_1 := blk_frozen BK160.out 1
          try go_wp2_with (first | ((with_reducible refine gate_callee (f := 66) rfl ?_); refine Sq.gl (some 54) Try.func66 #[.agg #[.bool a1_0, .slice A1_1 l1_1.length c1_1]] ?_; (with_reducible refine (integer_Sign.calls a1_0 _ _ l1_1 t188 _ ?side1 ?side2 A96.out).mono ?_); (case side1 => exact Sq.ca (Kd.C_below HR1_1.out HB.out)); (case side2 => exact HC1_1.out); rintro e w112 ⟨rfl, hb⟩; refine ⟨_, rfl, ?_⟩; replace HO_172001 := Aside0.mk (Kd.R_below (Sq.al HO_172001) hb); replace HO_173001 := Aside0.mk (Kd.R_below (Sq.al HO_173001) hb); replace HO_186001 := Aside0.mk (Kd.R_below (Sq.al HO_186001) hb); replace BK159 := Sq.bb BK159 hb; replace BK160 := Sq.bb BK160 hb; replace BK171 := Sq.bb BK171 hb; replace BK172 := Sq.bb BK172 hb; replace BK185 := Sq.bb BK185 hb; replace HB := Sq.bs HB hb; (try clear hb); (try clear hb2); (try clear hk); (try clear hi); have hnb113 := NB172_159.out; have hnc113 := NB159_172.out; have hnb114 := NB172_171.out; have hnc114 := NB171_172.out; have hnb115 := NB172_185.out; have hnc115 := NB185_172.out; have hcz116_0 := Sq.bc BK172 0 (.bool t166); have hcz116_1 := Sq.bc BK172 1 (.slice Ao63 t167.length co63); have hfz116_0 := blk_frozen BK172.out 0; have hfz116_1 := blk_frozen BK172.out 1) | ((with_reducible refine gate_callee (f := 66) rfl ?_); refine Sq.gl (some 57) Try.func66 #[.agg #[.bool t166, .slice Ao63 t167.length co63]] ?_; (with_reducible refine (integer_Sign.calls t166 _ _ t167 t189 _ ?side1 ?side2 A98.out).mono ?_); (case side1 => exact Sq.ca (Kd.R_reads' HO_173001.out).2.2); (case side2 => exact (Kd.R_reads' HO_173001.out).2.1); rintro e w117 ⟨rfl, hb⟩; refine ⟨_, rfl, ?_⟩; replace HO_172001 := Aside0.mk (Kd.R_below (Sq.al HO_172001) hb); replace HO_173001 := Aside0.mk (Kd.R_below (Sq.al HO_173001) hb); replace HO_186001 := Aside0.mk (Kd.R_below (Sq.al HO_186001) hb); replace BK159 := Sq.bb BK159 hb; replace BK160 := Sq.bb BK160 hb; replace BK171 := Sq.bb BK171 hb; replace BK172 := Sq.bb BK172 hb; replace BK185 := Sq.bb BK185 hb; replace HB := Sq.bs HB hb; (try clear hb); (try clear hb2); (try clear hk); (try clear hi); have hcz118_0 := Sq.bc BK172 0 (.bool t166); have hcz118_1 := Sq.bc BK172 1 (.slice Ao63 t167.length co63); have hfz118_0 := blk_frozen BK172.out 0; have hfz118_1 := blk_frozen BK172.out 1; have hcz119_0 := Sq.bc BK160 0 (.bool a1_0); have hcz119_1 := Sq.bc BK160 1 (.slice A1_1 l1_1.length c1_1); have hfz119_0 := blk_frozen BK160.out 0; have hfz119_1 := blk_frozen BK160.out 1) | (go_at_call 72; (with_reducible refine (integer_Cmp.calls t166 _ _ t167 a1_0 _ _ l1_1 t190 _ ?side1 ?side2 ?side3 ?side4 A100.out).mono ?_); (case side1 => exact Sq.ca (Kd.R_reads' HO_173001.out).2.2); (case side2 => exact (Kd.R_reads' HO_173001.out).2.1); (case side3 => exact Sq.ca (Kd.C_below HR1_1.out HB.out)); (case side4 => exact HC1_1.out); rintro e w120 ⟨rfl, hb⟩; replace HO_172001 := Aside0.mk (Kd.R_below (Sq.al HO_172001) hb); replace HO_173001 := Aside0.mk (Kd.R_below (Sq.al HO_173001) hb); replace HO_186001 := Aside0.mk (Kd.R_below (Sq.al HO_186001) hb); replace BK159 := Sq.bb BK159 hb; replace BK160 := Sq.bb BK160 hb; replace BK171 := Sq.bb BK171 hb; replace BK172 := Sq.bb BK172 hb; replace BK185 := Sq.bb BK185 hb; replace HB := Sq.bs HB hb; (try clear hb); (try clear hb2); (try clear hk); (try clear hi)))
          replace HO_172001 := Aside0.mk (Kd.R_drew HO_172001.out)
          replace HO_173001 := Aside0.mk (Kd.R_drew HO_173001.out)
          replace HO_186001 := Aside0.mk (Kd.R_drew HO_186001.out)
          replace BK159 := Aside0.mk (blk_drew BK159.out)
          replace BK160 := Aside0.mk (blk_drew BK160.out)
          replace BK171 := Aside0.mk (blk_drew BK171.out)
          replace BK172 := Aside0.mk (blk_drew BK172.out)
          replace BK185 := Aside0.mk (blk_drew BK185.out)
          replace HB := Aside0.mk (below_drew1 HB.out)
          refine start_ (n := 15) (S := fun w' => w'.cell? ⟨gb185, 0, none⟩ = some (.bool t181) ∧ w'.cell? ⟨gb185, 1, none⟩ = some (.slice Ao73 t182.length co73) ∧ w'.cell? ⟨gb159, 0, none⟩ = some (.bool a0_0) ∧ w'.cell? ⟨gb159, 1, none⟩ = some (.slice A0_1 l0_1.length c0_1)) (ds := []) #[false, false, false, false, false, false, false, false, false, false, false, false, false, false, false] (by kernel_rfl) rfl rfl ⟨(blk_cell BK185.out 0).trans rfl, (blk_cell BK185.out 1).trans rfl, (blk_cell BK159.out 0).trans rfl, (blk_cell BK159.out 1).trans rfl⟩ (fun hHeld => ?_); refine with_tabW foliotlaw02_IntegerRest.tab10 foliotlaw02_IntegerRest.bits10 (fun HT_ HW_ => ?_)
          generalize w120.drew = w121 at HO_172001 HO_173001 HO_186001 BK159 BK160 BK171 BK172 BK185 HB hHeld ⊢
          refine Sq.pu (v := ?_) (a' := ?_) 0 (some 65) #[true, false, false, false, false, false, false, false, false, false, false, false, false, false, false] HT_ ?_ ?_ ?_
          rotate_left
          ·intro w'
           go_simp
           with_reducible rfl
          rotate_left
          ·simp only [Act.put, List.setIfInBounds_toArray, List.set_cons_zero, List.set_cons_succ, i64_w, i32_w]
           rfl
          refine Sq.pu (v := ?_) (a' := ?_) 1 (some 66) #[true, true, false, false, false, false, false, false, false, false, false, false, false, false, false] HT_ ?_ ?_ ?_
          rotate_left
          ·intro w'
           go_simp
           with_reducible rfl
          rotate_left
          ·simp only [Act.put, List.setIfInBounds_toArray, List.set_cons_zero, List.set_cons_succ, i64_w, i32_w]
           rfl
          refine Sq.pu (v := ?_) (a' := ?_) 2 (some 67) #[true, true, true, false, false, false, false, false, false, false, false, false, false, false, false] HT_ ?_ ?_ ?_
          rotate_left
          ·intro w'
           go_simp
           with_reducible rfl
          rotate_left
          ·simp only [Act.put, List.setIfInBounds_toArray, List.set_cons_zero, List.set_cons_succ, i64_w, i32_w]
           rfl
          refine Sq.tk (v := ?_) (a' := ?_) 3 (some 68) #[true, true, true, true, false, false, false, false, false, false, false, false, false, false, false] HT_ HW_ hHeld ?_ ?_ ?_
          rotate_left
          ·rintro w' ⟨s0, s1, s2, s3⟩
           go_simp
           with_reducible rfl
          rotate_left
          ·simp only [Act.put, List.setIfInBounds_toArray, List.set_cons_zero, List.set_cons_succ, i64_w, i32_w]
           rfl
          refine Sq.tk (v := ?_) (a' := ?_) 4 (some 69) #[true, true, true, true, true, false, false, false, false, false, false, false, false, false, false] HT_ HW_ hHeld ?_ ?_ ?_
          rotate_left
          ·rintro w' ⟨s0, s1, s2, s3⟩
           go_simp
           with_reducible rfl
          rotate_left
          ·simp only [Act.put, List.setIfInBounds_toArray, List.set_cons_zero, List.set_cons_succ, i64_w, i32_w]
           rfl
          refine one_ (i := 5) (N := some 70) #[true, true, true, true, true, true, false, false, false, false, false, false, false, false, false] rfl rfl (one_of HT_.out (by kernel_rfl)) (by decide) (fun K hK => ?_)
          refine goes_ Try.func62 (by kernel_rfl) rfl #[.agg #[.bool a0_0, .slice A0_1 l0_1.length c0_1]] (by rfl) rfl rfl (by (try simp only [List.map_toArray, List.map_cons, List.map_nil]); first | done | rfl | (simp only [List.length_drop, List.length_take]; rfl)) ?_
          with_reducible refine (integer_Norm.calls a0_0 _ _ l0_1 t191 t192 _ ?side1 ?side2 A102.out).mono ?_
          (case side1 => exact Sq.ca (Kd.C_below HR0_1.out HB.out))
          (case side2 => exact HC0_1.out)
          rintro e w122 ⟨v193, rfl, ho0, hb⟩
          refine ⟨_, rfl, ?_⟩
          have HO194 := Aside0.mk (Kd.R_lower (Kd.R_new' (Kd.R_new' (Kd.R_new' ho0 (Kd.R_lt (Sq.al HO_172001))) (Kd.R_lt (Sq.al HO_173001))) (Kd.R_lt (Sq.al HO_186001))) (below_size (Sq.bl HB)))
          replace BK159 := Sq.bb BK159 hb
          replace BK160 := Sq.bb BK160 hb
          replace BK171 := Sq.bb BK171 hb
          replace BK172 := Sq.bb BK172 hb
          replace BK185 := Sq.bb BK185 hb
          replace HO_172001 := Aside0.mk (Kd.R_elder' (Sq.al HO_172001) (Kd.R_base ho0) hb)
          replace HO_173001 := Aside0.mk (Kd.R_elder' (Sq.al HO_173001) (Kd.R_base ho0) hb)
          replace HO_186001 := Aside0.mk (Kd.R_elder' (Sq.al HO_186001) (Kd.R_base ho0) hb)
          replace HB := Sq.bs HB hb
          (try clear hb)
          (try clear hb2)
          (try clear hk)
          (try clear hi)
          (try clear ho0)
          obtain ⟨Ao123, co123, eo123⟩ := Kd.R_slice HO194.out
          (first | subst eo123 | (injection eo123 with f1_ f2_ f3_; have f4_ := f1_.symm; have f5_ := f3_.symm; clear f1_ f2_ f3_; subst f4_; subst f5_))
          refine hK.out _ _ ⟨(blk_cell BK185.out 0).trans rfl, (blk_cell BK185.out 1).trans rfl, (blk_cell BK159.out 0).trans rfl, (blk_cell BK159.out 1).trans rfl⟩ (fun hHeld => ?_)
          clear hK K
          refine norm_ (a' := ?_) ?_ ?_
          rotate_left
          ·show Act.put _ (some 70) _ = _
           simp only [Act.put, List.setIfInBounds_toArray, List.set_cons_zero, List.set_cons_succ, i64_w, i32_w]
           rfl
          refine one_ (i := 6) (N := some 71) #[true, true, true, true, true, true, true, false, false, false, false, false, false, false, false] rfl rfl (one_of HT_.out (by kernel_rfl)) (by decide) (fun K hK => ?_)
          refine goes_ Try.func56 (by kernel_rfl) rfl #[.agg #[.bool t181, .slice Ao73 t182.length co73], .agg #[.bool t191, .slice Ao123 t192.length co123]] (by rfl) rfl rfl (by (try simp only [List.map_toArray, List.map_cons, List.map_nil]); first | done | rfl | (simp only [List.length_drop, List.length_take]; rfl)) ?_
          with_reducible refine (foliotlaw02_same.calls kj42 t181 _ _ t182 t191 _ _ t192 true _ ?side1 ?side2 ?side3 ?side4 A103.out).mono ?_
          (case side1 => exact Sq.ca (Kd.R_reads' HO_186001.out).2.2)
          (case side2 => exact (Kd.R_reads' HO_186001.out).2.1)
          (case side3 => exact Sq.ca (Kd.R_reads' HO194.out).2.2)
          (case side4 => exact (Kd.R_reads' HO194.out).2.1)
          rintro e w124 ⟨rfl, hb⟩
          refine ⟨_, rfl, ?_⟩
          replace HO_172001 := Aside0.mk (Kd.R_below (Sq.al HO_172001) hb)
          replace HO_173001 := Aside0.mk (Kd.R_below (Sq.al HO_173001) hb)
          replace HO_186001 := Aside0.mk (Kd.R_below (Sq.al HO_186001) hb)
          replace HO194 := Aside0.mk (Kd.R_below (Sq.al HO194) hb)
          replace BK159 := Sq.bb BK159 hb
          replace BK160 := Sq.bb BK160 hb
          replace BK171 := Sq.bb BK171 hb
          replace BK172 := Sq.bb BK172 hb
          replace BK185 := Sq.bb BK185 hb
          replace HB := Sq.bs HB hb
          (try clear hb)
          (try clear hb2)
          (try clear hk)
          (try clear hi)
          refine hK.out _ _ ⟨(blk_cell BK185.out 0).trans rfl, (blk_cell BK185.out 1).trans rfl, (blk_cell BK159.out 0).trans rfl, (blk_cell BK159.out 1).trans rfl⟩ (fun hHeld => ?_)
          clear hK K
          refine norm_ (a' := ?_) ?_ ?_
          rotate_left
          ·show Act.put _ (some 71) _ = _
           simp only [Act.put, List.setIfInBounds_toArray, List.set_cons_zero, List.set_cons_succ, i64_w, i32_w]
           rfl
          refine Sq.pu (v := ?_) (a' := ?_) 7 (some 72) #[true, true, true, true, true, true, true, true, false, false, false, false, false, false, false] HT_ ?_ ?_ ?_
          rotate_left
          ·intro w'
           go_simp
           with_reducible rfl
          rotate_left
          ·simp only [Act.put, List.setIfInBounds_toArray, List.set_cons_zero, List.set_cons_succ, i64_w, i32_w]
           rfl
          refine Sq.pu (v := ?_) (a' := ?_) 8 (some 73) #[true, true, true, true, true, true, true, true, true, false, false, false, false, false, false] HT_ ?_ ?_ ?_
          rotate_left
          ·intro w'
           go_simp
           with_reducible rfl
          rotate_left
          ·simp only [Act.put, List.setIfInBounds_toArray, List.set_cons_zero, List.set_cons_succ, i64_w, i32_w]
           rfl
          refine Sq.pu (v := ?_) (a' := ?_) 9 (some 74) #[true, true, true, true, true, true, true, true, true, true, false, false, false, false, false] HT_ ?_ ?_ ?_
          rotate_left
          ·intro w'
           go_simp
           with_reducible rfl
          rotate_left
          ·simp only [Act.put, List.setIfInBounds_toArray, List.set_cons_zero, List.set_cons_succ, i64_w, i32_w]
           rfl
          refine Sq.pu (v := ?_) (a' := ?_) 10 (some 75) #[true, true, true, true, true, true, true, true, true, true, true, false, false, false, false] HT_ ?_ ?_ ?_
          rotate_left
          ·intro w'
           go_simp
           with_reducible rfl
          rotate_left
          ·simp only [Act.put, List.setIfInBounds_toArray, List.set_cons_zero, List.set_cons_succ, i64_w, i32_w]
           rfl
          refine Sq.pu (v := ?_) (a' := ?_) 11 (some 76) #[true, true, true, true, true, true, true, true, true, true, true, true, false, false, false] HT_ ?_ ?_ ?_
          rotate_left
          ·intro w'
           go_simp
           with_reducible rfl
          rotate_left
          ·simp only [Act.put, List.setIfInBounds_toArray, List.set_cons_zero, List.set_cons_succ, i64_w, i32_w]
           rfl
          refine one_ (i := 12) (N := some 77) #[true, true, true, true, true, true, true, true, true, true, true, true, true, false, false] rfl rfl (one_of HT_.out (by kernel_rfl)) (by decide) (fun K hK => ?_)
          refine goes_ Try.func57 (by kernel_rfl) rfl #[] (by rfl) rfl rfl (by (try simp only [List.map_toArray, List.map_cons, List.map_nil]); first | done | rfl | (simp only [List.length_drop, List.length_take]; rfl)) ?_
          with_reducible refine (foliotlaw02_awake.calls  t196 _ A106.out).mono ?_
          rintro e w125 ⟨rfl, hb⟩
          refine ⟨_, rfl, ?_⟩
          replace HO_172001 := Aside0.mk (Kd.R_below (Sq.al HO_172001) hb)
          replace HO_173001 := Aside0.mk (Kd.R_below (Sq.al HO_173001) hb)
          replace HO_186001 := Aside0.mk (Kd.R_below (Sq.al HO_186001) hb)
          replace HO194 := Aside0.mk (Kd.R_below (Sq.al HO194) hb)
          replace BK159 := Sq.bb BK159 hb
          replace BK160 := Sq.bb BK160 hb
          replace BK171 := Sq.bb BK171 hb
          replace BK172 := Sq.bb BK172 hb
          replace BK185 := Sq.bb BK185 hb
          replace HB := Sq.bs HB hb
          (try clear hb)
          (try clear hb2)
          (try clear hk)
          (try clear hi)
          refine hK.out _ _ ⟨(blk_cell BK185.out 0).trans rfl, (blk_cell BK185.out 1).trans rfl, (blk_cell BK159.out 0).trans rfl, (blk_cell BK159.out 1).trans rfl⟩ (fun hHeld => ?_)
          clear hK K
          refine norm_ (a' := ?_) ?_ ?_
          rotate_left
          ·show Act.put _ (some 77) _ = _
           simp only [Act.put, List.setIfInBounds_toArray, List.set_cons_zero, List.set_cons_succ, i64_w, i32_w]
           rfl
          refine Sq.pu (v := ?_) (a' := ?_) 13 (some 78) #[true, true, true, true, true, true, true, true, true, true, true, true, true, true, false] HT_ ?_ ?_ ?_
          rotate_left
          ·intro w'
           go_simp
           with_reducible rfl
          rotate_left
          ·simp only [Act.put, List.setIfInBounds_toArray, List.set_cons_zero, List.set_cons_succ, i64_w, i32_w]
           rfl
          refine Sq.pu (v := ?_) (a' := ?_) 14 (some 4) #[true, true, true, true, true, true, true, true, true, true, true, true, true, true, true] HT_ ?_ ?_ ?_
          rotate_left
          ·intro w'
           go_simp
           with_reducible rfl
          rotate_left
          ·simp only [Act.put, List.setIfInBounds_toArray, List.set_cons_zero, List.set_cons_succ, i64_w, i32_w]
           rfl
          refine done_ (done_of HT_.out (by kernel_rfl)) ?_
          try go_wp2
          go_ret
          exact ⟨by first | rfl | (simp [errW_none, errW_some] <;> rfl) | (simp [*, errW_none, errW_some] <;> rfl), Sq.bl HB⟩
         ·rw [if_neg c105] at H
          have c105b0 : decide (0 < t190) = false := decide_eq_false c105
          clear c105
          exact absurd H (by simp)
        ·replace c104 := Bool.eq_false_iff.mpr c104
         subst c104
         have H1 : (none) = some r := by rw [if_neg (show ¬ (false = true) by decide)] at H; exact H
         clear H
         have H := H1
         clear H1
         exact absurd H (by simp)
       ·rw [if_neg c101] at H
        have c101b0 : (t170 == 0) = false := beq_eq_false_iff_ne.mpr c101
        have c101b1 : (t170 != 0) = true := bne_iff_ne.mpr c101
        exact absurd H (by simp)
      ·rw [if_neg c99] at H
       have c99b0 : decide (t189 ≤ 0) = false := decide_eq_false c99
       clear c99
       by_cases c126 : t170 = 0
       ·rw [if_pos c126] at H
        have c126b0 : (t170 == 0) = true := beq_iff_eq.mpr c126
        have c126b1 : (t170 != 0) = false := bne_eq_false_iff_eq.mpr c126
        clear c126
        replace H := Sq.bd H
        obtain ⟨⟨t197, t198⟩, A127, H⟩ := H
        (try dsimp -simprocs only at H)
        replace H := Sq.bd H
        obtain ⟨t201, A128, H⟩ := H
        (try dsimp -simprocs only at H)
        by_cases c129 : t201 = true
        ·subst c129
         have H1 : (none) = some r := by rw [if_pos rfl] at H; exact H
         clear H
         have H := H1
         clear H1
         exact absurd H (by simp)
        ·replace c129 := Bool.eq_false_iff.mpr c129
         subst c129
         have H1 : (none) = some r := by rw [if_neg (show ¬ (false = true) by decide)] at H; exact H
         clear H
         have H := H1
         clear H1
         exact absurd H (by simp)
       ·rw [if_neg c126] at H
        have c126b0 : (t170 == 0) = false := beq_eq_false_iff_ne.mpr c126
        have c126b1 : (t170 != 0) = true := bne_iff_ne.mpr c126
        exact absurd H (by simp)
     ·rw [if_neg c97] at H
      have c97b0 : decide (t188 < 0) = false := decide_eq_false c97
      clear c97
      by_cases c130 : t170 = 0
      ·rw [if_pos c130] at H
       have c130b0 : (t170 == 0) = true := beq_iff_eq.mpr c130
       have c130b1 : (t170 != 0) = false := bne_eq_false_iff_eq.mpr c130
       clear c130
       replace H := Sq.bd H
       obtain ⟨⟨t202, t203⟩, A131, H⟩ := H
       (try dsimp -simprocs only at H)
       replace H := Sq.bd H
       obtain ⟨t206, A132, H⟩ := H
       (try dsimp -simprocs only at H)
       by_cases c133 : t206 = true
       ·subst c133
        have H1 : (if x9_42 = true then ((foliotlaw02_awake.f).bind fun t207 => (some t207)) else (none)) = some r := by rw [if_pos rfl] at H; exact H
        clear H
        have H := H1
        clear H1
        by_cases c134 : x9_42 = true
        ·subst c134
         have H1 : ((foliotlaw02_awake.f).bind fun t207 => (some t207)) = some r := by rw [if_pos rfl] at H; exact H
         clear H
         have H := H1
         clear H1
         replace H := Sq.bd H
         obtain ⟨t207, A135, H⟩ := H
         (try dsimp -simprocs only at H)
         obtain rfl := Option.some.inj H
         have hnb136 := NB160_159.out
         have hnc136 := NB159_160.out
         have hnb137 := NB160_171.out
         have hnc137 := NB171_160.out
         have hnb138 := NB160_172.out
         have hnc138 := NB172_160.out
         have hnb139 := NB160_185.out
         have hnc139 := NB185_160.out
         have hcz140_0 := Sq.bc BK160 0 (.bool a1_0)
         have hcz140_1 := Sq.bc BK160 1 (.slice A1_1 l1_1.length c1_1)
         have hfz140_0 := blk_frozen BK160.out 0
         have hfz140_1 := blk_frozen BK160.out 1
         try go_wp2_with (first | ((with_reducible refine gate_callee (f := 66) rfl ?_); refine Sq.gl (some 54) Try.func66 #[.agg #[.bool a1_0, .slice A1_1 l1_1.length c1_1]] ?_; (with_reducible refine (integer_Sign.calls a1_0 _ _ l1_1 t188 _ ?side1 ?side2 A96.out).mono ?_); (case side1 => exact Sq.ca (Kd.C_below HR1_1.out HB.out)); (case side2 => exact HC1_1.out); rintro e w141 ⟨rfl, hb⟩; refine ⟨_, rfl, ?_⟩; replace HO_172001 := Aside0.mk (Kd.R_below (Sq.al HO_172001) hb); replace HO_173001 := Aside0.mk (Kd.R_below (Sq.al HO_173001) hb); replace HO_186001 := Aside0.mk (Kd.R_below (Sq.al HO_186001) hb); replace BK159 := Sq.bb BK159 hb; replace BK160 := Sq.bb BK160 hb; replace BK171 := Sq.bb BK171 hb; replace BK172 := Sq.bb BK172 hb; replace BK185 := Sq.bb BK185 hb; replace HB := Sq.bs HB hb; (try clear hb); (try clear hb2); (try clear hk); (try clear hi)))
         replace HO_172001 := Aside0.mk (Kd.R_drew HO_172001.out)
         replace HO_173001 := Aside0.mk (Kd.R_drew HO_173001.out)
         replace HO_186001 := Aside0.mk (Kd.R_drew HO_186001.out)
         replace BK159 := Aside0.mk (blk_drew BK159.out)
         replace BK160 := Aside0.mk (blk_drew BK160.out)
         replace BK171 := Aside0.mk (blk_drew BK171.out)
         replace BK172 := Aside0.mk (blk_drew BK172.out)
         replace BK185 := Aside0.mk (blk_drew BK185.out)
         replace HB := Aside0.mk (below_drew1 HB.out)
         refine start_ (n := 15) (S := fun w' => w'.cell? ⟨gb185, 0, none⟩ = some (.bool t181) ∧ w'.cell? ⟨gb185, 1, none⟩ = some (.slice Ao73 t182.length co73) ∧ w'.cell? ⟨gb159, 0, none⟩ = some (.bool a0_0) ∧ w'.cell? ⟨gb159, 1, none⟩ = some (.slice A0_1 l0_1.length c0_1)) (ds := []) #[false, false, false, false, false, false, false, false, false, false, false, false, false, false, false] (by kernel_rfl) rfl rfl ⟨(blk_cell BK185.out 0).trans rfl, (blk_cell BK185.out 1).trans rfl, (blk_cell BK159.out 0).trans rfl, (blk_cell BK159.out 1).trans rfl⟩ (fun hHeld => ?_); refine with_tabW foliotlaw02_IntegerRest.tab10 foliotlaw02_IntegerRest.bits10 (fun HT_ HW_ => ?_)
         generalize w141.drew = w142 at HO_172001 HO_173001 HO_186001 BK159 BK160 BK171 BK172 BK185 HB hHeld ⊢
         refine Sq.pu (v := ?_) (a' := ?_) 0 (some 65) #[true, false, false, false, false, false, false, false, false, false, false, false, false, false, false] HT_ ?_ ?_ ?_
         rotate_left
         ·intro w'
          go_simp
          with_reducible rfl
         rotate_left
         ·simp only [Act.put, List.setIfInBounds_toArray, List.set_cons_zero, List.set_cons_succ, i64_w, i32_w]
          rfl
         refine Sq.pu (v := ?_) (a' := ?_) 1 (some 66) #[true, true, false, false, false, false, false, false, false, false, false, false, false, false, false] HT_ ?_ ?_ ?_
         rotate_left
         ·intro w'
          go_simp
          with_reducible rfl
         rotate_left
         ·simp only [Act.put, List.setIfInBounds_toArray, List.set_cons_zero, List.set_cons_succ, i64_w, i32_w]
          rfl
         refine Sq.pu (v := ?_) (a' := ?_) 2 (some 67) #[true, true, true, false, false, false, false, false, false, false, false, false, false, false, false] HT_ ?_ ?_ ?_
         rotate_left
         ·intro w'
          go_simp
          with_reducible rfl
         rotate_left
         ·simp only [Act.put, List.setIfInBounds_toArray, List.set_cons_zero, List.set_cons_succ, i64_w, i32_w]
          rfl
         refine Sq.tk (v := ?_) (a' := ?_) 3 (some 68) #[true, true, true, true, false, false, false, false, false, false, false, false, false, false, false] HT_ HW_ hHeld ?_ ?_ ?_
         rotate_left
         ·rintro w' ⟨s0, s1, s2, s3⟩
          go_simp
          with_reducible rfl
         rotate_left
         ·simp only [Act.put, List.setIfInBounds_toArray, List.set_cons_zero, List.set_cons_succ, i64_w, i32_w]
          rfl
         refine Sq.tk (v := ?_) (a' := ?_) 4 (some 69) #[true, true, true, true, true, false, false, false, false, false, false, false, false, false, false] HT_ HW_ hHeld ?_ ?_ ?_
         rotate_left
         ·rintro w' ⟨s0, s1, s2, s3⟩
          go_simp
          with_reducible rfl
         rotate_left
         ·simp only [Act.put, List.setIfInBounds_toArray, List.set_cons_zero, List.set_cons_succ, i64_w, i32_w]
          rfl
         refine one_ (i := 5) (N := some 70) #[true, true, true, true, true, true, false, false, false, false, false, false, false, false, false] rfl rfl (one_of HT_.out (by kernel_rfl)) (by decide) (fun K hK => ?_)
         refine goes_ Try.func62 (by kernel_rfl) rfl #[.agg #[.bool a0_0, .slice A0_1 l0_1.length c0_1]] (by rfl) rfl rfl (by (try simp only [List.map_toArray, List.map_cons, List.map_nil]); first | done | rfl | (simp only [List.length_drop, List.length_take]; rfl)) ?_
         with_reducible refine (integer_Norm.calls a0_0 _ _ l0_1 t202 t203 _ ?side1 ?side2 A131.out).mono ?_
         (case side1 => exact Sq.ca (Kd.C_below HR0_1.out HB.out))
         (case side2 => exact HC0_1.out)
         rintro e w143 ⟨v204, rfl, ho0, hb⟩
         refine ⟨_, rfl, ?_⟩
         have HO205 := Aside0.mk (Kd.R_lower (Kd.R_new' (Kd.R_new' (Kd.R_new' ho0 (Kd.R_lt (Sq.al HO_172001))) (Kd.R_lt (Sq.al HO_173001))) (Kd.R_lt (Sq.al HO_186001))) (below_size (Sq.bl HB)))
         replace BK159 := Sq.bb BK159 hb
         replace BK160 := Sq.bb BK160 hb
         replace BK171 := Sq.bb BK171 hb
         replace BK172 := Sq.bb BK172 hb
         replace BK185 := Sq.bb BK185 hb
         replace HO_172001 := Aside0.mk (Kd.R_elder' (Sq.al HO_172001) (Kd.R_base ho0) hb)
         replace HO_173001 := Aside0.mk (Kd.R_elder' (Sq.al HO_173001) (Kd.R_base ho0) hb)
         replace HO_186001 := Aside0.mk (Kd.R_elder' (Sq.al HO_186001) (Kd.R_base ho0) hb)
         replace HB := Sq.bs HB hb
         (try clear hb)
         (try clear hb2)
         (try clear hk)
         (try clear hi)
         (try clear ho0)
         obtain ⟨Ao144, co144, eo144⟩ := Kd.R_slice HO205.out
         (first | subst eo144 | (injection eo144 with f1_ f2_ f3_; have f4_ := f1_.symm; have f5_ := f3_.symm; clear f1_ f2_ f3_; subst f4_; subst f5_))
         refine hK.out _ _ ⟨(blk_cell BK185.out 0).trans rfl, (blk_cell BK185.out 1).trans rfl, (blk_cell BK159.out 0).trans rfl, (blk_cell BK159.out 1).trans rfl⟩ (fun hHeld => ?_)
         clear hK K
         refine norm_ (a' := ?_) ?_ ?_
         rotate_left
         ·show Act.put _ (some 70) _ = _
          simp only [Act.put, List.setIfInBounds_toArray, List.set_cons_zero, List.set_cons_succ, i64_w, i32_w]
          rfl
         refine one_ (i := 6) (N := some 71) #[true, true, true, true, true, true, true, false, false, false, false, false, false, false, false] rfl rfl (one_of HT_.out (by kernel_rfl)) (by decide) (fun K hK => ?_)
         refine goes_ Try.func56 (by kernel_rfl) rfl #[.agg #[.bool t181, .slice Ao73 t182.length co73], .agg #[.bool t202, .slice Ao144 t203.length co144]] (by rfl) rfl rfl (by (try simp only [List.map_toArray, List.map_cons, List.map_nil]); first | done | rfl | (simp only [List.length_drop, List.length_take]; rfl)) ?_
         with_reducible refine (foliotlaw02_same.calls kj42 t181 _ _ t182 t202 _ _ t203 true _ ?side1 ?side2 ?side3 ?side4 A132.out).mono ?_
         (case side1 => exact Sq.ca (Kd.R_reads' HO_186001.out).2.2)
         (case side2 => exact (Kd.R_reads' HO_186001.out).2.1)
         (case side3 => exact Sq.ca (Kd.R_reads' HO205.out).2.2)
         (case side4 => exact (Kd.R_reads' HO205.out).2.1)
         rintro e w145 ⟨rfl, hb⟩
         refine ⟨_, rfl, ?_⟩
         replace HO_172001 := Aside0.mk (Kd.R_below (Sq.al HO_172001) hb)
         replace HO_173001 := Aside0.mk (Kd.R_below (Sq.al HO_173001) hb)
         replace HO_186001 := Aside0.mk (Kd.R_below (Sq.al HO_186001) hb)
         replace HO205 := Aside0.mk (Kd.R_below (Sq.al HO205) hb)
         replace BK159 := Sq.bb BK159 hb
         replace BK160 := Sq.bb BK160 hb
         replace BK171 := Sq.bb BK171 hb
         replace BK172 := Sq.bb BK172 hb
         replace BK185 := Sq.bb BK185 hb
         replace HB := Sq.bs HB hb
         (try clear hb)
         (try clear hb2)
         (try clear hk)
         (try clear hi)
         refine hK.out _ _ ⟨(blk_cell BK185.out 0).trans rfl, (blk_cell BK185.out 1).trans rfl, (blk_cell BK159.out 0).trans rfl, (blk_cell BK159.out 1).trans rfl⟩ (fun hHeld => ?_)
         clear hK K
         refine norm_ (a' := ?_) ?_ ?_
         rotate_left
         ·show Act.put _ (some 71) _ = _
          simp only [Act.put, List.setIfInBounds_toArray, List.set_cons_zero, List.set_cons_succ, i64_w, i32_w]
          rfl
         refine Sq.pu (v := ?_) (a' := ?_) 7 (some 72) #[true, true, true, true, true, true, true, true, false, false, false, false, false, false, false] HT_ ?_ ?_ ?_
         rotate_left
         ·intro w'
          go_simp
          with_reducible rfl
         rotate_left
         ·simp only [Act.put, List.setIfInBounds_toArray, List.set_cons_zero, List.set_cons_succ, i64_w, i32_w]
          rfl
         refine Sq.pu (v := ?_) (a' := ?_) 8 (some 73) #[true, true, true, true, true, true, true, true, true, false, false, false, false, false, false] HT_ ?_ ?_ ?_
         rotate_left
         ·intro w'
          go_simp
          with_reducible rfl
         rotate_left
         ·simp only [Act.put, List.setIfInBounds_toArray, List.set_cons_zero, List.set_cons_succ, i64_w, i32_w]
          rfl
         refine Sq.pu (v := ?_) (a' := ?_) 9 (some 74) #[true, true, true, true, true, true, true, true, true, true, false, false, false, false, false] HT_ ?_ ?_ ?_
         rotate_left
         ·intro w'
          go_simp
          with_reducible rfl
         rotate_left
         ·simp only [Act.put, List.setIfInBounds_toArray, List.set_cons_zero, List.set_cons_succ, i64_w, i32_w]
          rfl
         refine Sq.pu (v := ?_) (a' := ?_) 10 (some 75) #[true, true, true, true, true, true, true, true, true, true, true, false, false, false, false] HT_ ?_ ?_ ?_
         rotate_left
         ·intro w'
          go_simp
          with_reducible rfl
         rotate_left
         ·simp only [Act.put, List.setIfInBounds_toArray, List.set_cons_zero, List.set_cons_succ, i64_w, i32_w]
          rfl
         refine Sq.pu (v := ?_) (a' := ?_) 11 (some 76) #[true, true, true, true, true, true, true, true, true, true, true, true, false, false, false] HT_ ?_ ?_ ?_
         rotate_left
         ·intro w'
          go_simp
          with_reducible rfl
         rotate_left
         ·simp only [Act.put, List.setIfInBounds_toArray, List.set_cons_zero, List.set_cons_succ, i64_w, i32_w]
          rfl
         refine one_ (i := 12) (N := some 77) #[true, true, true, true, true, true, true, true, true, true, true, true, true, false, false] rfl rfl (one_of HT_.out (by kernel_rfl)) (by decide) (fun K hK => ?_)
         refine goes_ Try.func57 (by kernel_rfl) rfl #[] (by rfl) rfl rfl (by (try simp only [List.map_toArray, List.map_cons, List.map_nil]); first | done | rfl | (simp only [List.length_drop, List.length_take]; rfl)) ?_
         with_reducible refine (foliotlaw02_awake.calls  t207 _ A135.out).mono ?_
         rintro e w146 ⟨rfl, hb⟩
         refine ⟨_, rfl, ?_⟩
         replace HO_172001 := Aside0.mk (Kd.R_below (Sq.al HO_172001) hb)
         replace HO_173001 := Aside0.mk (Kd.R_below (Sq.al HO_173001) hb)
         replace HO_186001 := Aside0.mk (Kd.R_below (Sq.al HO_186001) hb)
         replace HO205 := Aside0.mk (Kd.R_below (Sq.al HO205) hb)
         replace BK159 := Sq.bb BK159 hb
         replace BK160 := Sq.bb BK160 hb
         replace BK171 := Sq.bb BK171 hb
         replace BK172 := Sq.bb BK172 hb
         replace BK185 := Sq.bb BK185 hb
         replace HB := Sq.bs HB hb
         (try clear hb)
         (try clear hb2)
         (try clear hk)
         (try clear hi)
         refine hK.out _ _ ⟨(blk_cell BK185.out 0).trans rfl, (blk_cell BK185.out 1).trans rfl, (blk_cell BK159.out 0).trans rfl, (blk_cell BK159.out 1).trans rfl⟩ (fun hHeld => ?_)
         clear hK K
         refine norm_ (a' := ?_) ?_ ?_
         rotate_left
         ·show Act.put _ (some 77) _ = _
          simp only [Act.put, List.setIfInBounds_toArray, List.set_cons_zero, List.set_cons_succ, i64_w, i32_w]
          rfl
         refine Sq.pu (v := ?_) (a' := ?_) 13 (some 78) #[true, true, true, true, true, true, true, true, true, true, true, true, true, true, false] HT_ ?_ ?_ ?_
         rotate_left
         ·intro w'
          go_simp
          with_reducible rfl
         rotate_left
         ·simp only [Act.put, List.setIfInBounds_toArray, List.set_cons_zero, List.set_cons_succ, i64_w, i32_w]
          rfl
         refine Sq.pu (v := ?_) (a' := ?_) 14 (some 4) #[true, true, true, true, true, true, true, true, true, true, true, true, true, true, true] HT_ ?_ ?_ ?_
         rotate_left
         ·intro w'
          go_simp
          with_reducible rfl
         rotate_left
         ·simp only [Act.put, List.setIfInBounds_toArray, List.set_cons_zero, List.set_cons_succ, i64_w, i32_w]
          rfl
         refine done_ (done_of HT_.out (by kernel_rfl)) ?_
         try go_wp2
         go_ret
         exact ⟨by first | rfl | (simp [errW_none, errW_some] <;> rfl) | (simp [*, errW_none, errW_some] <;> rfl), Sq.bl HB⟩
        ·replace c134 := Bool.eq_false_iff.mpr c134
         subst c134
         have H1 : (none) = some r := by rw [if_neg (show ¬ (false = true) by decide)] at H; exact H
         clear H
         have H := H1
         clear H1
         exact absurd H (by simp)
       ·replace c133 := Bool.eq_false_iff.mpr c133
        subst c133
        have H1 : (none) = some r := by rw [if_neg (show ¬ (false = true) by decide)] at H; exact H
        clear H
        have H := H1
        clear H1
        exact absurd H (by simp)
      ·rw [if_neg c130] at H
       have c130b0 : (t170 == 0) = false := beq_eq_false_iff_ne.mpr c130
       have c130b1 : (t170 != 0) = true := bne_iff_ne.mpr c130
       exact absurd H (by simp)
 ·replace c4 := Bool.eq_false_iff.mpr c4
  subst c4
  have H1 : (some true) = some r := by rw [if_neg (show ¬ (false = true) by decide)] at H; exact H
  clear H
  have H := H1
  clear H1
  obtain rfl := Option.some.inj H
  go_enter Try.func14, Try.ntmps14
  go_wp2_with (first | ((with_reducible refine gate_dst (N := 2) rfl ?_); refine box_event ?hg (N := 2) ?hd (cs := #[.bool a0_0, .slice A0_1 l0_1.length c0_1]) (t := 39) ?hr ?_; (case hd => rfl); (case hg => rfl); (case hr => first | (go_simp; done) | (go_simp; rfl)); intro gb159 hg w147 hbox hb; have BK159 := Aside0.mk (hbox); have GW159 := Sq.gw HB hg; have GE159 := Sq.gw HB hg; replace HB := Sq.bs HB hb; clear hb hbox hg) | ((with_reducible refine gate_dst (N := 3) rfl ?_); refine box_event ?hg (N := 3) ?hd (cs := #[.bool a1_0, .slice A1_1 l1_1.length c1_1]) (t := 39) ?hr ?_; (case hd => rfl); (case hg => rfl); (case hr => first | (go_simp; done) | (go_simp; rfl)); intro gb160 hg w148 hbox hb; have BK160 := Aside0.mk (hbox); have GW160 := Sq.gw HB hg; have GE160 := Sq.gw HB hg; have NB159_160 := Sq.nl BK159 hg; have NB160_159 := Sq.ng BK159 hg; replace BK159 := Sq.bb BK159 hb; replace HB := Sq.bs HB hb; clear hb hbox hg; have hnb149 := NB159_160.out; have hnc149 := NB160_159.out; have hcz150_0 := Sq.bc BK159 0 (.bool a0_0); have hcz150_1 := Sq.bc BK159 1 (.slice A0_1 l0_1.length c0_1); have hfz150_0 := blk_frozen BK159.out 0; have hfz150_1 := blk_frozen BK159.out 1; have hcz151_0 := Sq.bc BK160 0 (.bool a1_0); have hcz151_1 := Sq.bc BK160 1 (.slice A1_1 l1_1.length c1_1); have hfz151_0 := blk_frozen BK160.out 0; have hfz151_1 := blk_frozen BK160.out 1) | ((with_reducible refine gate_callee (f := 53) rfl ?_); refine Sq.gl (some 12) Try.func53 #[.agg #[.bool a0_0, .slice A0_1 l0_1.length c0_1], .agg #[.bool a1_0, .slice A1_1 l1_1.length c1_1]] ?_; (with_reducible refine (foliotlaw02_few.calls a0_0 _ _ l0_1 a1_0 _ _ l1_1 false _ ?side1 ?side2 ?side3 ?side4 A3.out).mono ?_); (case side1 => exact Sq.ca (Kd.C_below HR0_1.out HB.out)); (case side2 => exact HC0_1.out); (case side3 => exact Sq.ca (Kd.C_below HR1_1.out HB.out)); (case side4 => exact HC1_1.out); rintro e w152 ⟨rfl, hb⟩; refine ⟨_, rfl, ?_⟩; replace BK159 := Sq.bb BK159 hb; replace BK160 := Sq.bb BK160 hb; replace HB := Sq.bs HB hb; (try clear hb); (try clear hb2); (try clear hk); (try clear hi)))
  go_ret
  exact ⟨by first | rfl | (simp [errW_none, errW_some] <;> rfl) | (simp [*, errW_none, errW_some] <;> rfl), Sq.bl HB⟩
end Go.Proofs.Ytaclkccgjpjdjaa.BR
