import Derived.Test.YtaclkccgjpjdjaaQaljbeemcheIx0
import Derived.Test.YtaclkccgjpjdjaaQehenpapdheIx1
import Derived.Test.YtaclkccgjpjdjaaQipcojhjkmgM
namespace Go.Proofs.Ytaclkccgjpjdjaa.I
open Go.RowKit Go.Proofs.YtaclkccgjpjdjaaW.PrintWords Go.Proofs.YtaclkccgjpjdjaaW.PrintLast Go.Proofs.YtaclkccgjpjdjaaW.PrintMore
attribute [local go_sem] max2_int min2_int max_two min_two max_three min_three max_four min_four   -- for this text's walks alone
set_option linter.unusedVariables false
set_option linter.unusedSimpArgs false
def integer_Div.j0 : Nat → List Int → List Int → Bool → Bool → List Int → Bool → List Int → Option (Bool × List Int × Bool × List Int × Int)
 | 0, _, _, _, _, _, _, _ => none
 | k + 1, x7, x8, x39, x122000, x122001, x123000, x123001 => if x39 = true then ((integer_sign_with.f (x122000 != x123000) x7).bind fun bt140 => ((integer_sign_with.f x123000 x8).bind fun bt144 => (some (bt140.1, bt140.2, bt144.1, bt144.2, 0)))) else ((nat_Sub.f x123001 x8).bind fun bt148 => ((nat_Add.f x7 (([1] : List Int))).bind fun t155 => ((integer_sign_with.f true t155).bind fun bt158 => ((integer_sign_with.f x123000 bt148.1).bind fun bt162 => (some (bt158.1, bt158.2, bt162.1, bt162.2, 0))))))
def integer_Div.f (k : Nat) (a0_0 : Bool) (l0_1 : List Int) (a1_0 : Bool) (l1_1 : List Int) : Option (Bool × List Int × Bool × List Int × Int) := (integer_Norm.f a0_0 l0_1).bind fun bt125 => ((integer_Norm.f a1_0 l1_1).bind fun bt129 => ((nat_Div.f bt125.2 bt129.2).bind fun bt133 => (if bt133.2.2 = 0 then (if (bt125.1 == bt129.1) = true then (integer_Div.j0 k bt133.1 bt133.2.1 true bt125.1 bt125.2 bt129.1 bt129.2) else (integer_Div.j0 k bt133.1 bt133.2.1 ((bt133.2.1.length : Int) == 0) bt125.1 bt125.2 bt129.1 bt129.2)) else (some (false, ([] : List Int), false, ([] : List Int), bt133.2.2)))))
def integer_Div.T6 : Bool × List (List Nat × List Nat) := (true, [([], []), ([0], [0]), ([], []), ([2], [2]), ([1, 3], [1, 3]), ([], []), ([4, 5], [4, 5]), ([], []), ([7], [7]), ([], []), ([8, 9, 6], [8, 9]), ([6, 10, 0, 1, 2, 3, 4, 5, 6], [6]), ([10, 11, 0, 1, 2, 3, 4, 5, 6, 7, 8, 9, 10, 11], [10]), ([12, 0, 1, 2, 3, 4, 5, 6, 7, 8, 9, 10, 11, 12], [])])
def integer_Div.B6 : List Nat := [0, 1, 0, 4, 15, 0, 63, 0, 128, 0, 1023, 2047, 4095, 8191]
theorem integer_Div.tab6 : rtab .any (opsOf Try.f54 6) = integer_Div.T6 := by kernel_rfl
theorem integer_Div.bits6 : waitsOk integer_Div.T6.2 integer_Div.B6 = true := by kernel_rfl
def integer_Div.T8 : Bool × List (List Nat × List Nat) := (true, [([], []), ([], []), ([0, 1], [0, 1]), ([2, 2], [2]), ([], []), ([4], [4]), ([], []), ([5, 6, 3], [5, 6]), ([3, 7, 0, 1, 2, 3], [3]), ([7, 8, 0, 1, 2, 3, 4, 5, 6, 7, 8], [7]), ([9, 0, 1, 2, 3, 4, 5, 6, 7, 8, 9], [])])
def integer_Div.B8 : List Nat := [0, 0, 3, 7, 0, 16, 0, 127, 255, 511, 1023]
theorem integer_Div.tab8 : rtab .any (opsOf Try.f54 8) = integer_Div.T8 := by kernel_rfl
theorem integer_Div.bits8 : waitsOk integer_Div.T8.2 integer_Div.B8 = true := by kernel_rfl
set_option maxHeartbeats 8000000 in
set_option maxRecDepth 100000 in
theorem integer_Div.calls (k : Nat) (a0_0 : Bool) (A0_1 : Option Addr) (c0_1 : Nat) (l0_1 : List Int) (a1_0 : Bool) (A1_1 : Option Addr) (c1_1 : Nat) (l1_1 : List Int) (r1 : Bool) (r2 : List Int) (r3 : Bool) (r4 : List Int) (r5 : Int) (w : World) (hr0_1 : Kd.C (Kd.int .u32) w A0_1 l0_1.length l0_1) (hc0_1 : l0_1.length ≤ c0_1) (hr1_1 : Kd.C (Kd.int .u32) w A1_1 l1_1.length l1_1) (hc1_1 : l1_1.length ≤ c1_1) (h : integer_Div.f k a0_0 l0_1 a1_0 l1_1 = some (r1, r2, r3, r4, r5)) :
  Calls Try.prog 54 #[.agg #[.bool a0_0, .slice A0_1 l0_1.length c0_1], .agg #[.bool a1_0, .slice A1_1 l1_1.length c1_1]] w fun e w' => ∃ v1_ v3_ : Value, e = .returned (.tuple #[.agg #[.bool r1, v1_], .agg #[.bool r3, v3_], .int .i64 r5]) ∧ Kd.R (Kd.int .u32) 107 w' w.heap.size (fun k_ => some k_ ≠ (v3_ : Value).ownBlock) v1_ r2 ∧ Kd.R (Kd.int .u32) 107 w' w.heap.size (fun k_ => some k_ ≠ (v1_ : Value).ownBlock) v3_ r4 ∧ Below w.heap.size w w' := by
 have hu39 := Try.underlying39
 have HR0_1 := Aside0.mk hr0_1
 have HC0_1 := Aside0.mk hc0_1
 clear hr0_1 hc0_1
 have HR1_1 := Aside0.mk hr1_1
 have HC1_1 := Aside0.mk hc1_1
 clear hr1_1 hc1_1
 have HB := Aside0.mk (Below.refl w.heap.size w)
 have H : ((integer_Norm.f a0_0 l0_1).bind fun bt125 => ((integer_Norm.f a1_0 l1_1).bind fun bt129 => ((nat_Div.f bt125.2 bt129.2).bind fun bt133 => (if bt133.2.2 = 0 then (if (bt125.1 == bt129.1) = true then (integer_Div.j0 k bt133.1 bt133.2.1 true bt125.1 bt125.2 bt129.1 bt129.2) else (integer_Div.j0 k bt133.1 bt133.2.1 ((bt133.2.1.length : Int) == 0) bt125.1 bt125.2 bt129.1 bt129.2)) else (some (false, ([] : List Int), false, ([] : List Int), bt133.2.2)))))) = some (r1, r2, r3, r4, r5) := h
 clear h
 replace H := Sq.bd H
 obtain ⟨⟨t125, t126⟩, A3, H⟩ := H
 (try dsimp -simprocs only at H)
 replace H := Sq.bd H
 obtain ⟨⟨t129, t130⟩, A4, H⟩ := H
 (try dsimp -simprocs only at H)
 replace H := Sq.bd H
 obtain ⟨⟨t133, t136, t139⟩, A5, H⟩ := H
 (try dsimp -simprocs only at H)
 by_cases c6 : t139 = 0
 ·rw [if_pos c6] at H
  have c6b0 : (t139 == 0) = true := beq_iff_eq.mpr c6
  have c6b1 : (t139 != 0) = false := bne_eq_false_iff_eq.mpr c6
  clear c6
  have HC7 := Aside0.mk H
  clear H
  go_enter Try.func54, Try.ntmps54
  try go_wp2_with (first | ((with_reducible refine gate_dst (N := 2) rfl ?_); (try (refine gate_guard (by rfl) ?_; dsimp only)); refine box_event ?hg (N := 2) ?hd (cs := #[.bool a0_0, .slice A0_1 l0_1.length c0_1]) (t := 39) ?hr ?_; (case hd => rfl); (case hg => rfl); (case hr => first | (go_simp; done) | (go_simp; rfl)); intro gb121 hg w8 hbox hb; have BK121 := Aside0.mk (hbox); have GW121 := Sq.gw HB hg; have GE121 := Sq.gw HB hg; replace HB := Sq.bs HB hb; clear hb hbox hg) | ((with_reducible refine gate_dst (N := 3) rfl ?_); (try (refine gate_guard (by rfl) ?_; dsimp only)); refine box_event ?hg (N := 3) ?hd (cs := #[.bool a1_0, .slice A1_1 l1_1.length c1_1]) (t := 39) ?hr ?_; (case hd => rfl); (case hg => rfl); (case hr => first | (go_simp; done) | (go_simp; rfl)); intro gb122 hg w9 hbox hb; have BK122 := Aside0.mk (hbox); have GW122 := Sq.gw HB hg; have GE122 := Sq.gw HB hg; have NB121_122 := Sq.nl BK121 hg; have NB122_121 := Sq.ng BK121 hg; replace BK121 := Sq.bb BK121 hb; replace HB := Sq.bs HB hb; clear hb hbox hg) | ((with_reducible refine gate_dst (N := 4) rfl ?_); (try (refine gate_guard (by rfl) ?_; dsimp only)); refine box_event ?hg (N := 4) ?hd (cs := #[.bool false, .slice none 0 0]) (t := 39) ?hr ?_; (case hd => rfl); (case hg => rfl); (case hr => first | (go_simp; done) | (go_simp; rfl)); intro gb123 hg w10 hbox hb; have BK123 := Aside0.mk (hbox); have GW123 := Sq.gw HB hg; have GE123 := Sq.gw HB hg; have NB121_123 := Sq.nl BK121 hg; have NB123_121 := Sq.ng BK121 hg; have NB122_123 := Sq.nl BK122 hg; have NB123_122 := Sq.ng BK122 hg; replace BK121 := Sq.bb BK121 hb; replace BK122 := Sq.bb BK122 hb; replace HB := Sq.bs HB hb; clear hb hbox hg) | ((with_reducible refine gate_dst (N := 5) rfl ?_); (try (refine gate_guard (by rfl) ?_; dsimp only)); refine box_event ?hg (N := 5) ?hd (cs := #[.bool false, .slice none 0 0]) (t := 39) ?hr ?_; (case hd => rfl); (case hg => rfl); (case hr => first | (go_simp; done) | (go_simp; rfl)); intro gb124 hg w11 hbox hb; have BK124 := Aside0.mk (hbox); have GW124 := Sq.gw HB hg; have GE124 := Sq.gw HB hg; have NB121_124 := Sq.nl BK121 hg; have NB124_121 := Sq.ng BK121 hg; have NB122_124 := Sq.nl BK122 hg; have NB124_122 := Sq.ng BK122 hg; have NB123_124 := Sq.nl BK123 hg; have NB124_123 := Sq.ng BK123 hg; replace BK121 := Sq.bb BK121 hb; replace BK122 := Sq.bb BK122 hb; replace BK123 := Sq.bb BK123 hb; replace HB := Sq.bs HB hb; clear hb hbox hg))
  replace BK121 := Aside0.mk (blk_drew BK121.out)
  replace BK122 := Aside0.mk (blk_drew BK122.out)
  replace BK123 := Aside0.mk (blk_drew BK123.out)
  replace BK124 := Aside0.mk (blk_drew BK124.out)
  replace HB := Aside0.mk (below_drew1 HB.out)
  refine start_ (n := 6) (S := fun w' => w'.cell? ⟨gb121, 0, none⟩ = some (.bool a0_0) ∧ w'.cell? ⟨gb121, 1, none⟩ = some (.slice A0_1 l0_1.length c0_1) ∧ w'.cell? ⟨gb122, 0, none⟩ = some (.bool a1_0) ∧ w'.cell? ⟨gb122, 1, none⟩ = some (.slice A1_1 l1_1.length c1_1)) (ds := [4, 5]) #[false, false, false, false, false, false] (by kernel_rfl) rfl rfl ⟨(blk_cell BK121.out 0).trans rfl, (blk_cell BK121.out 1).trans rfl, (blk_cell BK122.out 0).trans rfl, (blk_cell BK122.out 1).trans rfl⟩ (fun hHeld => ?_)
  generalize w11.drew = w12 at BK121 BK122 BK123 BK124 HB hHeld ⊢
  refine take_ (i := 0) (N := some 12) (v := ?_) (a' := ?_) #[true, false, false, false, false, false] rfl rfl (by kernel_rfl) (fun _ _ _ h => h) (Or.inl ⟨by rfl, ?_⟩) hHeld ?_ ?_
  rotate_left
  ·rintro w' ⟨s0, s1, s2, s3⟩
   go_simp
   with_reducible rfl
  rotate_left
  ·simp only [Act.put, List.setIfInBounds_toArray, List.set_cons_zero, List.set_cons_succ, i64_w, i32_w]
   rfl
  refine take_ (i := 2) (N := some 14) (v := ?_) (a' := ?_) #[true, false, true, false, false, false] rfl rfl (by kernel_rfl) (fun _ _ _ h => h) (Or.inl ⟨by rfl, ?_⟩) hHeld ?_ ?_
  rotate_left
  ·rintro w' ⟨s0, s1, s2, s3⟩
   go_simp
   with_reducible rfl
  rotate_left
  ·simp only [Act.put, List.setIfInBounds_toArray, List.set_cons_zero, List.set_cons_succ, i64_w, i32_w]
   rfl
  refine one_ (i := 1) (N := some 13) #[true, true, true, false, false, false] rfl rfl (by kernel_rfl) (by decide) (fun K hK => ?_)
  refine goes_ Try.func62 (by kernel_rfl) rfl #[.agg #[.bool a0_0, .slice A0_1 l0_1.length c0_1]] (by rfl) rfl rfl (by (try simp only [List.map_toArray, List.map_cons, List.map_nil]); first | done | rfl | (simp only [List.length_drop, List.length_take]; rfl)) ?_
  with_reducible refine (integer_Norm.calls a0_0 _ _ l0_1 t125 t126 _ ?side1 ?side2 A3.out).mono ?_
  (case side1 => exact Sq.ca (Kd.C_below HR0_1.out HB.out))
  (case side2 => exact HC0_1.out)
  rintro e w13 ⟨v127, rfl, ho0, hb⟩
  refine ⟨_, rfl, ?_⟩
  have HO128 := Aside0.mk (Kd.R_lower ho0 (below_size (Sq.bl HB)))
  replace BK121 := Sq.bb BK121 hb
  replace BK122 := Sq.bb BK122 hb
  replace BK123 := Sq.bb BK123 hb
  replace BK124 := Sq.bb BK124 hb
  replace HB := Sq.bs HB hb
  (try clear hb)
  (try clear hb2)
  (try clear hk)
  (try clear hi)
  (try clear ho0)
  refine hK.out _ _ ⟨(blk_cell BK121.out 0).trans rfl, (blk_cell BK121.out 1).trans rfl, (blk_cell BK122.out 0).trans rfl, (blk_cell BK122.out 1).trans rfl⟩ (fun hHeld => ?_)
  clear hK K
  refine norm_ (a' := ?_) ?_ ?_
  rotate_left
  ·show Act.put _ (some 13) _ = _
   simp only [Act.put, List.setIfInBounds_toArray, List.set_cons_zero, List.set_cons_succ, i64_w, i32_w]
   rfl
  refine one_ (i := 3) (N := some 15) #[true, true, true, true, false, false] rfl rfl (by kernel_rfl) (by decide) (fun K hK => ?_)
  refine goes_ Try.func62 (by kernel_rfl) rfl #[.agg #[.bool a1_0, .slice A1_1 l1_1.length c1_1]] (by rfl) rfl rfl (by (try simp only [List.map_toArray, List.map_cons, List.map_nil]); first | done | rfl | (simp only [List.length_drop, List.length_take]; rfl)) ?_
  with_reducible refine (integer_Norm.calls a1_0 _ _ l1_1 t129 t130 _ ?side1 ?side2 A4.out).mono ?_
  (case side1 => exact Sq.ca (Kd.C_below HR1_1.out HB.out))
  (case side2 => exact HC1_1.out)
  rintro e w14 ⟨v131, rfl, ho0, hb⟩
  refine ⟨_, rfl, ?_⟩
  have HO132 := Aside0.mk (Kd.R_lower (Kd.R_new' ho0 (Kd.R_lt (Sq.al HO128))) (below_size (Sq.bl HB)))
  replace BK121 := Sq.bb BK121 hb
  replace BK122 := Sq.bb BK122 hb
  replace BK123 := Sq.bb BK123 hb
  replace BK124 := Sq.bb BK124 hb
  replace HO128 := Aside0.mk (Kd.R_elder' (Sq.al HO128) (Kd.R_base ho0) hb)
  replace HB := Sq.bs HB hb
  (try clear hb)
  (try clear hb2)
  (try clear hk)
  (try clear hi)
  (try clear ho0)
  obtain ⟨Ao16, co16, eo16⟩ := Kd.R_slice HO128.out
  (first | subst eo16 | (injection eo16 with f1_ f2_ f3_; have f4_ := f1_.symm; have f5_ := f3_.symm; clear f1_ f2_ f3_; subst f4_; subst f5_))
  obtain ⟨Ao19, co19, eo19⟩ := Kd.R_slice HO132.out
  (first | subst eo19 | (injection eo19 with f1_ f2_ f3_; have f4_ := f1_.symm; have f5_ := f3_.symm; clear f1_ f2_ f3_; subst f4_; subst f5_))
  refine hK.out _ _ ⟨(blk_cell BK121.out 0).trans rfl, (blk_cell BK121.out 1).trans rfl, (blk_cell BK122.out 0).trans rfl, (blk_cell BK122.out 1).trans rfl⟩ (fun hHeld => ?_)
  clear hK K
  refine norm_ (a' := ?_) ?_ ?_
  rotate_left
  ·show Act.put _ (some 15) _ = _
   simp only [Act.put, List.setIfInBounds_toArray, List.set_cons_zero, List.set_cons_succ, i64_w, i32_w]
   rfl
  refine last_ (i := 4) (N := none) #[true, true, true, true, true, false] rfl rfl (by kernel_rfl) (by decide) (fun K hK => ?_)
  have hs15 : w14.cell? ⟨gb121, 0, none⟩ = some (.bool a0_0) := (blk_cell BK121.out 0).trans rfl
  have hfs15 := blk_frozen BK121.out 0
  have hns15_1 := NB122_121.out
  have hns15_2 := NB123_121.out
  have hns15_3 := NB124_121.out
  have hms15_1 := NB121_122.out
  have hms15_2 := NB121_123.out
  have hms15_3 := NB121_124.out
  have hs17 : w14.cell? ⟨gb121, 1, none⟩ = some (.slice A0_1 l0_1.length c0_1) := (blk_cell BK121.out 1).trans rfl
  have hfs17 := blk_frozen BK121.out 1
  have hns17_1 := NB122_121.out
  have hns17_2 := NB123_121.out
  have hns17_3 := NB124_121.out
  have hms17_1 := NB121_122.out
  have hms17_2 := NB121_123.out
  have hms17_3 := NB121_124.out
  refine skip_ (w1 := ?_) (by rfl) rfl ?_ ?_
  rotate_left
  ·go_simp
   rfl
  refine hK.out _ _ ?_
  clear hK K
  refine last_ (i := 5) (N := none) #[true, true, true, true, true, true] rfl rfl (by kernel_rfl) (by decide) (fun K hK => ?_)
  have hs18 : w14.cell? ⟨gb122, 0, none⟩ = some (.bool a1_0) := (blk_cell BK122.out 0).trans rfl
  have hfs18 := blk_frozen BK122.out 0
  have hns18_0 := NB121_122.out
  have hns18_2 := NB123_122.out
  have hns18_3 := NB124_122.out
  have hms18_0 := NB122_121.out
  have hms18_2 := NB122_123.out
  have hms18_3 := NB122_124.out
  have hs20 : w14.cell? ⟨gb122, 1, none⟩ = some (.slice A1_1 l1_1.length c1_1) := (blk_cell BK122.out 1).trans rfl
  have hfs20 := blk_frozen BK122.out 1
  have hns20_0 := NB121_122.out
  have hns20_2 := NB123_122.out
  have hns20_3 := NB124_122.out
  have hms20_0 := NB122_121.out
  have hms20_2 := NB122_123.out
  have hms20_3 := NB122_124.out
  refine skip_ (w1 := ?_) (by rfl) rfl ?_ ?_
  rotate_left
  ·go_simp
   rfl
  refine hK.out _ _ ?_
  clear hK K
  refine done_ (by kernel_rfl) ?_
  have n0_ : Aside0 (Kd.R (Kd.int .u32) 107 ((((w14.setCell ⟨gb121, 0, none⟩ (.bool t125)).setCell ⟨gb121, 1, none⟩ (.slice Ao16 t126.length co16)).setCell ⟨gb122, 0, none⟩ (.bool t129)).setCell ⟨gb122, 1, none⟩ (.slice Ao19 t130.length co19)) w.heap.size (fun k_ => some k_ ≠ (.slice Ao19 t130.length co19 : Value).ownBlock) (.slice Ao16 t126.length co16) t126) := ⟨by (with_reducible repeat (first | apply Kd.R_alloc | apply Kd.R_drewN | apply Kd.R_drew)); exact Kd.R_mono (Kd.R_far (p := ⟨gb122, 1, none⟩) (Kd.R_far (p := ⟨gb122, 0, none⟩) (Kd.R_far (p := ⟨gb121, 1, none⟩) (Kd.R_far (p := ⟨gb121, 0, none⟩) (Sq.rt (Sq.rt HO128.out BK121) BK122) (fun _ hk => hk.1.2) (.bool t125)) (fun _ hk => hk.1.2) (.slice Ao16 t126.length co16)) (fun _ hk => hk.2) (.bool t129)) (fun _ hk => hk.2) (.slice Ao19 t130.length co19)) (fun _ hk => hk.1.1.2)⟩
  have n1_ : Aside0 (Kd.R (Kd.int .u32) 107 ((((w14.setCell ⟨gb121, 0, none⟩ (.bool t125)).setCell ⟨gb121, 1, none⟩ (.slice Ao16 t126.length co16)).setCell ⟨gb122, 0, none⟩ (.bool t129)).setCell ⟨gb122, 1, none⟩ (.slice Ao19 t130.length co19)) w.heap.size (fun k_ => some k_ ≠ (.slice Ao16 t126.length co16 : Value).ownBlock) (.slice Ao19 t130.length co19) t130) := ⟨by (with_reducible repeat (first | apply Kd.R_alloc | apply Kd.R_drewN | apply Kd.R_drew)); exact Kd.R_mono (Kd.R_far (p := ⟨gb122, 1, none⟩) (Kd.R_far (p := ⟨gb122, 0, none⟩) (Kd.R_far (p := ⟨gb121, 1, none⟩) (Kd.R_far (p := ⟨gb121, 0, none⟩) (Sq.rt (Sq.rt HO132.out BK121) BK122) (fun _ hk => hk.1.2) (.bool t125)) (fun _ hk => hk.1.2) (.slice Ao16 t126.length co16)) (fun _ hk => hk.2) (.bool t129)) (fun _ hk => hk.2) (.slice Ao19 t130.length co19)) (fun _ hk => hk.1.1.2)⟩
  have n2_ : Aside0 (((((w14.setCell ⟨gb121, 0, none⟩ (.bool t125)).setCell ⟨gb121, 1, none⟩ (.slice Ao16 t126.length co16)).setCell ⟨gb122, 0, none⟩ (.bool t129)).setCell ⟨gb122, 1, none⟩ (.slice Ao19 t130.length co19)).heap[gb121]? = some (.cells #[.bool t125, .slice Ao16 t126.length co16] 39 (0, 0))) := ⟨by (with_reducible repeat (first | refine blk_drewN ?_ _ | refine blk_drew ?_ | refine blk_alloc ?_ _)); refine blk_far ?_ NB121_122.out _; (with_reducible repeat (first | refine blk_drewN ?_ _ | refine blk_drew ?_ | refine blk_alloc ?_ _)); refine blk_far ?_ NB121_122.out _; (with_reducible repeat (first | refine blk_drewN ?_ _ | refine blk_drew ?_ | refine blk_alloc ?_ _)); refine blk_put (cs := #[.bool t125, .slice A0_1 l0_1.length c0_1]) ?_ 1 _ rfl; (with_reducible repeat (first | refine blk_drewN ?_ _ | refine blk_drew ?_ | refine blk_alloc ?_ _)); refine blk_put (cs := #[.bool a0_0, .slice A0_1 l0_1.length c0_1]) ?_ 0 _ rfl; (with_reducible repeat (first | refine blk_drewN ?_ _ | refine blk_drew ?_ | refine blk_alloc ?_ _)); exact BK121.out⟩
  have n3_ : Aside0 (((((w14.setCell ⟨gb121, 0, none⟩ (.bool t125)).setCell ⟨gb121, 1, none⟩ (.slice Ao16 t126.length co16)).setCell ⟨gb122, 0, none⟩ (.bool t129)).setCell ⟨gb122, 1, none⟩ (.slice Ao19 t130.length co19)).heap[gb122]? = some (.cells #[.bool t129, .slice Ao19 t130.length co19] 39 (0, 0))) := ⟨by (with_reducible repeat (first | refine blk_drewN ?_ _ | refine blk_drew ?_ | refine blk_alloc ?_ _)); refine blk_put (cs := #[.bool t129, .slice A1_1 l1_1.length c1_1]) ?_ 1 _ rfl; (with_reducible repeat (first | refine blk_drewN ?_ _ | refine blk_drew ?_ | refine blk_alloc ?_ _)); refine blk_put (cs := #[.bool a1_0, .slice A1_1 l1_1.length c1_1]) ?_ 0 _ rfl; (with_reducible repeat (first | refine blk_drewN ?_ _ | refine blk_drew ?_ | refine blk_alloc ?_ _)); refine blk_far ?_ NB122_121.out _; (with_reducible repeat (first | refine blk_drewN ?_ _ | refine blk_drew ?_ | refine blk_alloc ?_ _)); refine blk_far ?_ NB122_121.out _; (with_reducible repeat (first | refine blk_drewN ?_ _ | refine blk_drew ?_ | refine blk_alloc ?_ _)); exact BK122.out⟩
  have n4_ : Aside0 (((((w14.setCell ⟨gb121, 0, none⟩ (.bool t125)).setCell ⟨gb121, 1, none⟩ (.slice Ao16 t126.length co16)).setCell ⟨gb122, 0, none⟩ (.bool t129)).setCell ⟨gb122, 1, none⟩ (.slice Ao19 t130.length co19)).heap[gb123]? = some (.cells #[.bool false, .slice none 0 0] 39 (0, 0))) := ⟨by (with_reducible repeat (first | refine blk_drewN ?_ _ | refine blk_drew ?_ | refine blk_alloc ?_ _)); refine blk_far ?_ NB123_122.out _; (with_reducible repeat (first | refine blk_drewN ?_ _ | refine blk_drew ?_ | refine blk_alloc ?_ _)); refine blk_far ?_ NB123_122.out _; (with_reducible repeat (first | refine blk_drewN ?_ _ | refine blk_drew ?_ | refine blk_alloc ?_ _)); refine blk_far ?_ NB123_121.out _; (with_reducible repeat (first | refine blk_drewN ?_ _ | refine blk_drew ?_ | refine blk_alloc ?_ _)); refine blk_far ?_ NB123_121.out _; (with_reducible repeat (first | refine blk_drewN ?_ _ | refine blk_drew ?_ | refine blk_alloc ?_ _)); exact BK123.out⟩
  have n5_ : Aside0 (((((w14.setCell ⟨gb121, 0, none⟩ (.bool t125)).setCell ⟨gb121, 1, none⟩ (.slice Ao16 t126.length co16)).setCell ⟨gb122, 0, none⟩ (.bool t129)).setCell ⟨gb122, 1, none⟩ (.slice Ao19 t130.length co19)).heap[gb124]? = some (.cells #[.bool false, .slice none 0 0] 39 (0, 0))) := ⟨by (with_reducible repeat (first | refine blk_drewN ?_ _ | refine blk_drew ?_ | refine blk_alloc ?_ _)); refine blk_far ?_ NB124_122.out _; (with_reducible repeat (first | refine blk_drewN ?_ _ | refine blk_drew ?_ | refine blk_alloc ?_ _)); refine blk_far ?_ NB124_122.out _; (with_reducible repeat (first | refine blk_drewN ?_ _ | refine blk_drew ?_ | refine blk_alloc ?_ _)); refine blk_far ?_ NB124_121.out _; (with_reducible repeat (first | refine blk_drewN ?_ _ | refine blk_drew ?_ | refine blk_alloc ?_ _)); refine blk_far ?_ NB124_121.out _; (with_reducible repeat (first | refine blk_drewN ?_ _ | refine blk_drew ?_ | refine blk_alloc ?_ _)); exact BK124.out⟩
  have n6_ : Aside0 (Below w.heap.size w ((((w14.setCell ⟨gb121, 0, none⟩ (.bool t125)).setCell ⟨gb121, 1, none⟩ (.slice Ao16 t126.length co16)).setCell ⟨gb122, 0, none⟩ (.bool t129)).setCell ⟨gb122, 1, none⟩ (.slice Ao19 t130.length co19))) := ⟨Sq.bl HB⟩
  (try clear HO128)
  (try clear HO132)
  (try clear BK121)
  (try clear BK122)
  (try clear BK123)
  (try clear BK124)
  (try clear HB)
  generalize ((((w14.setCell ⟨gb121, 0, none⟩ (.bool t125)).setCell ⟨gb121, 1, none⟩ (.slice Ao16 t126.length co16)).setCell ⟨gb122, 0, none⟩ (.bool t129)).setCell ⟨gb122, 1, none⟩ (.slice Ao19 t130.length co19)) = w21 at n0_ n1_ n2_ n3_ n4_ n5_ n6_ ⊢
  have HO128 := n0_
  have HO132 := n1_
  have BK121 := n2_
  have BK122 := n3_
  have BK123 := n4_
  have BK124 := n5_
  have HB := n6_
  clear n0_ n1_ n2_ n3_ n4_ n5_ n6_
  have hnb22 := NB121_122.out
  have hnc22 := NB122_121.out
  have hnb23 := NB121_123.out
  have hnc23 := NB123_121.out
  have hnb24 := NB121_124.out
  have hnc24 := NB124_121.out
  have hcz25_0 := Sq.bc BK121 0 (.bool t125)
  have hcz25_1 := Sq.bc BK121 1 (.slice Ao16 t126.length co16)
  have hfz25_0 := blk_frozen BK121.out 0
  have hfz25_1 := blk_frozen BK121.out 1
  have hnb26 := NB122_123.out
  have hnc26 := NB123_122.out
  have hnb27 := NB122_124.out
  have hnc27 := NB124_122.out
  have hcz28_0 := Sq.bc BK122 0 (.bool t129)
  have hcz28_1 := Sq.bc BK122 1 (.slice Ao19 t130.length co19)
  have hfz28_0 := blk_frozen BK122.out 0
  have hfz28_1 := blk_frozen BK122.out 1
  go_upto_region 5 with (first | ((with_reducible refine gate_callee (f := 31) rfl ?_); refine Sq.gl (some 21) Try.func31 #[.slice Ao16 t126.length co16, .slice Ao19 t130.length co19] ?_; (with_reducible refine (nat_Div.calls (fun k_ => some k_ = (.slice Ao16 t126.length co16 : Value).ownBlock) _ _ t126 (fun k_ => some k_ = (.slice Ao19 t130.length co19 : Value).ownBlock) _ _ t130 t133 t136 t139 _ ?side1 ?side2 A5.out).mono ?_); (case side1 => exact Kd.R_V (Kd.R_tight rfl (Sq.rt (Sq.rt (Sq.rt (Sq.rt (HO128.out) BK121) BK122) BK123) BK124))); (case side2 => exact Kd.R_V (Kd.R_tight rfl (Sq.rt (Sq.rt (Sq.rt (Sq.rt (HO132.out) BK121) BK122) BK123) BK124))); rintro e w29 ⟨v134, v137, rfl, ho0, ho1, hb⟩; refine ⟨_, rfl, ?_⟩; have HO135 := Aside0.mk (Kd.V_lower (Kd.V_mono (ok' := fun k_ => k_ ≠ gb121 ∧ k_ ≠ gb122 ∧ k_ ≠ gb123 ∧ k_ ≠ gb124) ho0 (fun k_ hk_ => ⟨Or.elim hk_ (fun hs_ => Or.elim hs_ (fun hs_ => ((Sq.rt (Sq.rt (Sq.rt (Sq.rt (HO128.out) BK121) BK122) BK123) BK124).1 k_ hs_.symm).1.1.1.2) (fun hs_ => ((Sq.rt (Sq.rt (Sq.rt (Sq.rt (HO132.out) BK121) BK122) BK123) BK124).1 k_ hs_.symm).1.1.1.2)) (fun hn_ => (Sq.fb BK121 k_ hn_)), Or.elim hk_ (fun hs_ => Or.elim hs_ (fun hs_ => ((Sq.rt (Sq.rt (Sq.rt (Sq.rt (HO128.out) BK121) BK122) BK123) BK124).1 k_ hs_.symm).1.1.2) (fun hs_ => ((Sq.rt (Sq.rt (Sq.rt (Sq.rt (HO132.out) BK121) BK122) BK123) BK124).1 k_ hs_.symm).1.1.2)) (fun hn_ => (Sq.fb BK122 k_ hn_)), Or.elim hk_ (fun hs_ => Or.elim hs_ (fun hs_ => ((Sq.rt (Sq.rt (Sq.rt (Sq.rt (HO128.out) BK121) BK122) BK123) BK124).1 k_ hs_.symm).1.2) (fun hs_ => ((Sq.rt (Sq.rt (Sq.rt (Sq.rt (HO132.out) BK121) BK122) BK123) BK124).1 k_ hs_.symm).1.2)) (fun hn_ => (Sq.fb BK123 k_ hn_)), Or.elim hk_ (fun hs_ => Or.elim hs_ (fun hs_ => ((Sq.rt (Sq.rt (Sq.rt (Sq.rt (HO128.out) BK121) BK122) BK123) BK124).1 k_ hs_.symm).2) (fun hs_ => ((Sq.rt (Sq.rt (Sq.rt (Sq.rt (HO132.out) BK121) BK122) BK123) BK124).1 k_ hs_.symm).2)) (fun hn_ => (Sq.fb BK124 k_ hn_))⟩)) (below_size (Sq.bl HB))); have HO138 := Aside0.mk (Kd.V_lower (Kd.V_mono (ok' := fun k_ => k_ ≠ gb121 ∧ k_ ≠ gb122 ∧ k_ ≠ gb123 ∧ k_ ≠ gb124) ho1 (fun k_ hk_ => ⟨Or.elim hk_ (fun hs_ => Or.elim hs_ (fun hs_ => ((Sq.rt (Sq.rt (Sq.rt (Sq.rt (HO128.out) BK121) BK122) BK123) BK124).1 k_ hs_.symm).1.1.1.2) (fun hs_ => ((Sq.rt (Sq.rt (Sq.rt (Sq.rt (HO132.out) BK121) BK122) BK123) BK124).1 k_ hs_.symm).1.1.1.2)) (fun hn_ => (Sq.fb BK121 k_ hn_)), Or.elim hk_ (fun hs_ => Or.elim hs_ (fun hs_ => ((Sq.rt (Sq.rt (Sq.rt (Sq.rt (HO128.out) BK121) BK122) BK123) BK124).1 k_ hs_.symm).1.1.2) (fun hs_ => ((Sq.rt (Sq.rt (Sq.rt (Sq.rt (HO132.out) BK121) BK122) BK123) BK124).1 k_ hs_.symm).1.1.2)) (fun hn_ => (Sq.fb BK122 k_ hn_)), Or.elim hk_ (fun hs_ => Or.elim hs_ (fun hs_ => ((Sq.rt (Sq.rt (Sq.rt (Sq.rt (HO128.out) BK121) BK122) BK123) BK124).1 k_ hs_.symm).1.2) (fun hs_ => ((Sq.rt (Sq.rt (Sq.rt (Sq.rt (HO132.out) BK121) BK122) BK123) BK124).1 k_ hs_.symm).1.2)) (fun hn_ => (Sq.fb BK123 k_ hn_)), Or.elim hk_ (fun hs_ => Or.elim hs_ (fun hs_ => ((Sq.rt (Sq.rt (Sq.rt (Sq.rt (HO128.out) BK121) BK122) BK123) BK124).1 k_ hs_.symm).2) (fun hs_ => ((Sq.rt (Sq.rt (Sq.rt (Sq.rt (HO132.out) BK121) BK122) BK123) BK124).1 k_ hs_.symm).2)) (fun hn_ => (Sq.fb BK124 k_ hn_))⟩)) (below_size (Sq.bl HB))); replace HO128 := Aside0.mk (Kd.R_below (Sq.al HO128) hb); replace HO132 := Aside0.mk (Kd.R_below (Sq.al HO132) hb); replace BK121 := Sq.bb BK121 hb; replace BK122 := Sq.bb BK122 hb; replace BK123 := Sq.bb BK123 hb; replace BK124 := Sq.bb BK124 hb; replace HB := Sq.bs HB hb; (try clear hb); (try clear hb2); (try clear hk); (try clear hi); (try clear ho0); (try clear ho1)))
  (try simp only [Act.put, List.setIfInBounds_toArray, List.set_cons_zero, List.set_cons_succ])
  go_cut [39] (fun v39 wc => ∃ (kq : Nat) (x39_6 : Bool), v39 = .bool x39_6 ∧ Aside0 (integer_Div.j0 kq t133 t136 x39_6 t125 t126 t129 t130 = some (r1, r2, r3, r4, r5)) ∧ Aside0 (kq ≤ k) ∧ Aside0 (Kd.V (Kd.int .u32) 107 wc w.heap.size (fun k_ => k_ ≠ gb121 ∧ k_ ≠ gb122 ∧ k_ ≠ gb123 ∧ k_ ≠ gb124) v134 t133) ∧ Aside0 (Kd.V (Kd.int .u32) 107 wc w.heap.size (fun k_ => k_ ≠ gb121 ∧ k_ ≠ gb122 ∧ k_ ≠ gb123 ∧ k_ ≠ gb124) v137 t136) ∧ Aside0 (Kd.R (Kd.int .u32) 107 wc w.heap.size (fun k_ => some k_ ≠ ((.slice Ao19 t130.length co19) : Value).ownBlock) (.slice Ao16 t126.length co16) t126) ∧ Aside0 (Kd.R (Kd.int .u32) 107 wc w.heap.size (fun k_ => some k_ ≠ ((.slice Ao16 t126.length co16) : Value).ownBlock) (.slice Ao19 t130.length co19) t130) ∧ Aside0 (wc.heap[gb121]? = some (.cells #[.bool t125, (.slice Ao16 t126.length co16)] 39 (0, 0))) ∧ Aside0 (wc.heap[gb122]? = some (.cells #[.bool t129, (.slice Ao19 t130.length co19)] 39 (0, 0))) ∧ Aside0 (wc.heap[gb123]? = some (.cells #[.bool false, (.slice none 0 0)] 39 (0, 0))) ∧ Aside0 (wc.heap[gb124]? = some (.cells #[.bool false, (.slice none 0 0)] 39 (0, 0))) ∧ Aside0 (Below w.heap.size w wc))
  case first =>
   have H := HC7.out
   clear HC7
   by_cases c30 : (t125 == t129) = true
   ·rw [if_pos c30] at H
    have c30b0 : (t125 == t129) = true := c30
    (try (have c30b1 : decide (t125 = t129) = true := by simpa using c30))
    (try (have c30b2 : (t125 == t129) = true := by simpa using c30))
    clear c30
    (first | rw [c30b0] | (simp only [i64_w, i32_w]; rw [c30b0]) | skip)
    have H' := Aside0.mk H
    clear H
    have hnb31 := NB121_122.out
    have hnc31 := NB122_121.out
    have hnb32 := NB121_123.out
    have hnc32 := NB123_121.out
    have hnb33 := NB121_124.out
    have hnc33 := NB124_121.out
    have hcz34_0 := Sq.bc BK121 0 (.bool t125)
    have hcz34_1 := Sq.bc BK121 1 (.slice Ao16 t126.length co16)
    have hfz34_0 := blk_frozen BK121.out 0
    have hfz34_1 := blk_frozen BK121.out 1
    have hnb35 := NB122_123.out
    have hnc35 := NB123_122.out
    have hnb36 := NB122_124.out
    have hnc36 := NB124_122.out
    have hcz37_0 := Sq.bc BK122 0 (.bool t129)
    have hcz37_1 := Sq.bc BK122 1 (.slice Ao19 t130.length co19)
    have hfz37_0 := blk_frozen BK122.out 0
    have hfz37_1 := blk_frozen BK122.out 1
    go_wp2
    go_meet
    case rel => exact ⟨_, (true), (by first | rfl | (simp; done) | (simp [*]; done)), H', ⟨by first | omega | exact Nat.le_refl _⟩, ⟨by (with_reducible repeat (first | apply Kd.V_alloc | apply Kd.V_drewN | apply Kd.V_drew)); exact HO135.out⟩, ⟨by (with_reducible repeat (first | apply Kd.V_alloc | apply Kd.V_drewN | apply Kd.V_drew)); exact HO138.out⟩, ⟨by (with_reducible repeat (first | apply Kd.R_alloc | apply Kd.R_drewN | apply Kd.R_drew)); exact HO128.out⟩, ⟨by (with_reducible repeat (first | apply Kd.R_alloc | apply Kd.R_drewN | apply Kd.R_drew)); exact HO132.out⟩, ⟨by (with_reducible repeat (first | refine blk_drewN ?_ _ | refine blk_drew ?_ | refine blk_alloc ?_ _)); exact BK121.out⟩, ⟨by (with_reducible repeat (first | refine blk_drewN ?_ _ | refine blk_drew ?_ | refine blk_alloc ?_ _)); exact BK122.out⟩, ⟨by (with_reducible repeat (first | refine blk_drewN ?_ _ | refine blk_drew ?_ | refine blk_alloc ?_ _)); exact BK123.out⟩, ⟨by (with_reducible repeat (first | refine blk_drewN ?_ _ | refine blk_drew ?_ | refine blk_alloc ?_ _)); exact BK124.out⟩, ⟨Sq.bl HB⟩⟩
   ·rw [if_neg c30] at H
    have c30b0 : (t125 == t129) = false := by simpa using c30
    (try (have c30b1 : decide (t125 = t129) = false := by simpa using c30))
    (try (have c30b2 : (t125 == t129) = false := by simpa using c30))
    (try (have c30b3 : ¬ (t125 = t129) := by simpa using c30))
    clear c30
    (first | rw [c30b0] | (simp only [i64_w, i32_w]; rw [c30b0]) | skip)
    have H' := Aside0.mk H
    clear H
    have hnb38 := NB121_122.out
    have hnc38 := NB122_121.out
    have hnb39 := NB121_123.out
    have hnc39 := NB123_121.out
    have hnb40 := NB121_124.out
    have hnc40 := NB124_121.out
    have hcz41_0 := Sq.bc BK121 0 (.bool t125)
    have hcz41_1 := Sq.bc BK121 1 (.slice Ao16 t126.length co16)
    have hfz41_0 := blk_frozen BK121.out 0
    have hfz41_1 := blk_frozen BK121.out 1
    have hnb42 := NB122_123.out
    have hnc42 := NB123_122.out
    have hnb43 := NB122_124.out
    have hnc43 := NB124_122.out
    have hcz44_0 := Sq.bc BK122 0 (.bool t129)
    have hcz44_1 := Sq.bc BK122 1 (.slice Ao19 t130.length co19)
    have hfz44_0 := blk_frozen BK122.out 0
    have hfz44_1 := blk_frozen BK122.out 1
    obtain ⟨Ao45, co45, eo45⟩ := Kd.V_slice HO138.out
    subst eo45
    go_wp2
    go_meet
    case rel => exact ⟨_, (((t136.length : Int) == 0)), (by first | rfl | (simp; done) | (simp [*]; done)), H', ⟨by first | omega | exact Nat.le_refl _⟩, ⟨by (with_reducible repeat (first | apply Kd.V_alloc | apply Kd.V_drewN | apply Kd.V_drew)); exact HO135.out⟩, ⟨by (with_reducible repeat (first | apply Kd.V_alloc | apply Kd.V_drewN | apply Kd.V_drew)); exact HO138.out⟩, ⟨by (with_reducible repeat (first | apply Kd.R_alloc | apply Kd.R_drewN | apply Kd.R_drew)); exact HO128.out⟩, ⟨by (with_reducible repeat (first | apply Kd.R_alloc | apply Kd.R_drewN | apply Kd.R_drew)); exact HO132.out⟩, ⟨by (with_reducible repeat (first | refine blk_drewN ?_ _ | refine blk_drew ?_ | refine blk_alloc ?_ _)); exact BK121.out⟩, ⟨by (with_reducible repeat (first | refine blk_drewN ?_ _ | refine blk_drew ?_ | refine blk_alloc ?_ _)); exact BK122.out⟩, ⟨by (with_reducible repeat (first | refine blk_drewN ?_ _ | refine blk_drew ?_ | refine blk_alloc ?_ _)); exact BK123.out⟩, ⟨by (with_reducible repeat (first | refine blk_drewN ?_ _ | refine blk_drew ?_ | refine blk_alloc ?_ _)); exact BK124.out⟩, ⟨Sq.bl HB⟩⟩
  case rest =>
   clear HC7
   try clear c1
   try clear c2
   try clear p2
   try clear c3
   try clear c4
   try clear c5
   try clear c6
   try clear c6b0
   try clear c6b1
   try clear c22
   try clear c23
   try clear c24
   try clear c26
   try clear c27
   try clear c30
   try clear c30b0
   try clear c30b1
   try clear c30b2
   try clear c31
   try clear c32
   try clear c33
   try clear c35
   try clear c36
   try clear c38
   try clear c39
   try clear c40
   try clear c42
   try clear c43
   try clear hcz25_0
   try clear hcz25_1
   try clear hcz28_0
   try clear hcz28_1
   try clear hcz34_0
   try clear hcz34_1
   try clear hcz37_0
   try clear hcz37_1
   try clear hcz41_0
   try clear hcz41_1
   try clear hcz44_0
   try clear hcz44_1
   try clear hfz25_0
   try clear hfz25_1
   try clear hfz28_0
   try clear hfz28_1
   try clear hfz34_0
   try clear hfz34_1
   try clear hfz37_0
   try clear hfz37_1
   try clear hfz41_0
   try clear hfz41_1
   try clear hfz44_0
   try clear hfz44_1
   obtain ⟨kq, x39_6, rfl, HA, HJ6, HO_7, HO_8, HO_122001, HO_123001, BK121, BK122, BK123, BK124, HB⟩ := hcut
   cases kq with
   | zero => exact absurd HA.out (by simp [integer_Div.j0])
   | succ kj6 =>
    have H := HA.out
    clear HA
    simp only [integer_Div.j0] at H
    by_cases c46 : x39_6 = true
    ·subst c46
     have H1 : ((integer_sign_with.f (t125 != t129) t133).bind fun bt140 => ((integer_sign_with.f t129 t136).bind fun bt144 => (some (bt140.1, bt140.2, bt144.1, bt144.2, 0)))) = some (r1, r2, r3, r4, r5) := by rw [if_pos rfl] at H; exact H
     clear H
     have H := H1
     clear H1
     replace H := Sq.bd H
     obtain ⟨⟨t140, t141⟩, A47, H⟩ := H
     (try dsimp -simprocs only at H)
     replace H := Sq.bd H
     obtain ⟨⟨t144, t145⟩, A48, H⟩ := H
     (try dsimp -simprocs only at H)
     simp only [Option.some.injEq, Prod.mk.injEq] at H
     obtain ⟨rfl, rfl, rfl, rfl, rfl⟩ := H
     try go_wp2
     replace HO_7 := Aside0.mk (Kd.V_drew HO_7.out)
     replace HO_8 := Aside0.mk (Kd.V_drew HO_8.out)
     replace HO_122001 := Aside0.mk (Kd.R_drew HO_122001.out)
     replace HO_123001 := Aside0.mk (Kd.R_drew HO_123001.out)
     replace BK121 := Aside0.mk (blk_drew BK121.out)
     replace BK122 := Aside0.mk (blk_drew BK122.out)
     replace BK123 := Aside0.mk (blk_drew BK123.out)
     replace BK124 := Aside0.mk (blk_drew BK124.out)
     replace HB := Aside0.mk (below_drew1 HB.out)
     obtain ⟨Ao50, co50, eo50⟩ := Kd.V_slice HO_7.out
     (first | subst eo50 | (injection eo50 with f1_ f2_ f3_; have f4_ := f1_.symm; have f5_ := f3_.symm; clear f1_ f2_ f3_; subst f4_; subst f5_))
     refine start_ (n := 14) (S := fun w' => w'.cell? ⟨gb121, 0, none⟩ = some (.bool t125) ∧ w'.cell? ⟨gb121, 1, none⟩ = some (.slice Ao16 t126.length co16) ∧ w'.cell? ⟨gb122, 0, none⟩ = some (.bool t129) ∧ w'.cell? ⟨gb122, 1, none⟩ = some (.slice Ao19 t130.length co19)) (ds := []) #[false, false, false, false, false, false, false, false, false, false, false, false, false, false] (by kernel_rfl) rfl rfl ⟨(blk_cell BK121.out 0).trans rfl, (blk_cell BK121.out 1).trans rfl, (blk_cell BK122.out 0).trans rfl, (blk_cell BK122.out 1).trans rfl⟩ (fun hHeld => ?_); refine with_tabW integer_Div.tab6 integer_Div.bits6 (fun HT_ HW_ => ?_)
     generalize wc.drew = w49 at HO_7 HO_8 HO_122001 HO_123001 BK121 BK122 BK123 BK124 HB hHeld ⊢
     refine Sq.pu (v := ?_) (a' := ?_) 0 (some 40) #[true, false, false, false, false, false, false, false, false, false, false, false, false, false] HT_ ?_ ?_ ?_
     rotate_left
     ·intro w'
      go_simp
      with_reducible rfl
     rotate_left
     ·simp only [Act.put, List.setIfInBounds_toArray, List.set_cons_zero, List.set_cons_succ, i64_w, i32_w]
      rfl
     refine Sq.pu (v := ?_) (a' := ?_) 2 (some 42) #[true, false, true, false, false, false, false, false, false, false, false, false, false, false] HT_ ?_ ?_ ?_
     rotate_left
     ·intro w'
      go_simp
      with_reducible rfl
     rotate_left
     ·simp only [Act.put, List.setIfInBounds_toArray, List.set_cons_zero, List.set_cons_succ, i64_w, i32_w]
      rfl
     refine Sq.pu (v := ?_) (a' := ?_) 5 (some 45) #[true, false, true, false, false, true, false, false, false, false, false, false, false, false] HT_ ?_ ?_ ?_
     rotate_left
     ·intro w'
      go_simp
      with_reducible rfl
     rotate_left
     ·simp only [Act.put, List.setIfInBounds_toArray, List.set_cons_zero, List.set_cons_succ, i64_w, i32_w]
      rfl
     refine Sq.pu (v := ?_) (a' := ?_) 7 (some 47) #[true, false, true, false, false, true, false, true, false, false, false, false, false, false] HT_ ?_ ?_ ?_
     rotate_left
     ·intro w'
      go_simp
      with_reducible rfl
     rotate_left
     ·simp only [Act.put, List.setIfInBounds_toArray, List.set_cons_zero, List.set_cons_succ, i64_w, i32_w]
      rfl
     refine Sq.pu (v := ?_) (a' := ?_) 9 (some 49) #[true, false, true, false, false, true, false, true, false, true, false, false, false, false] HT_ ?_ ?_ ?_
     rotate_left
     ·intro w'
      go_simp
      with_reducible rfl
     rotate_left
     ·simp only [Act.put, List.setIfInBounds_toArray, List.set_cons_zero, List.set_cons_succ, i64_w, i32_w]
      rfl
     refine Sq.tk (v := ?_) (a' := ?_) 1 (some 41) #[true, true, true, false, false, true, false, true, false, true, false, false, false, false] HT_ HW_ hHeld ?_ ?_ ?_
     rotate_left
     ·rintro w' ⟨s0, s1, s2, s3⟩
      go_simp
      with_reducible rfl
     rotate_left
     ·simp only [Act.put, List.setIfInBounds_toArray, List.set_cons_zero, List.set_cons_succ, i64_w, i32_w]
      rfl
     refine Sq.tk (v := ?_) (a' := ?_) 3 (some 43) #[true, true, true, true, false, true, false, true, false, true, false, false, false, false] HT_ HW_ hHeld ?_ ?_ ?_
     rotate_left
     ·rintro w' ⟨s0, s1, s2, s3⟩
      go_simp
      with_reducible rfl
     rotate_left
     ·simp only [Act.put, List.setIfInBounds_toArray, List.set_cons_zero, List.set_cons_succ, i64_w, i32_w]
      rfl
     refine Sq.pu (v := ?_) (a' := ?_) 4 (some 44) #[true, true, true, true, true, true, false, true, false, true, false, false, false, false] HT_ ?_ ?_ ?_
     rotate_left
     ·intro w'
      go_simp
      with_reducible rfl
     rotate_left
     ·simp only [Act.put, List.setIfInBounds_toArray, List.set_cons_zero, List.set_cons_succ, i64_w, i32_w]
      rfl
     refine Sq.tk (v := ?_) (a' := ?_) 8 (some 48) #[true, true, true, true, true, true, false, true, true, true, false, false, false, false] HT_ HW_ hHeld ?_ ?_ ?_
     rotate_left
     ·rintro w' ⟨s0, s1, s2, s3⟩
      go_simp
      with_reducible rfl
     rotate_left
     ·simp only [Act.put, List.setIfInBounds_toArray, List.set_cons_zero, List.set_cons_succ, i64_w, i32_w]
      rfl
     refine one_ (i := 6) (N := some 46) #[true, true, true, true, true, true, true, true, true, true, false, false, false, false] rfl rfl (one_of HT_.out (by kernel_rfl)) (by decide) (fun K hK => ?_)
     refine goes_ Try.func147 (by kernel_rfl) rfl #[.bool (t125 != t129), .slice Ao50 t133.length co50] (by rfl) rfl rfl (by (try simp only [List.map_toArray, List.map_cons, List.map_nil]); first | done | rfl | (simp only [List.length_drop, List.length_take]; rfl)) ?_
     with_reducible refine (integer_sign_with.calls (t125 != t129) _ _ t133 t140 t141 _ ?side1 ?side2 A47.out).mono ?_
     (case side1 => exact Sq.ca (Kd.V_reads' HO_7.out).2.2)
     (case side2 => exact (Kd.V_reads' HO_7.out).2.1)
     rintro e w51 ⟨v142, rfl, ho0, hb⟩
     refine ⟨_, rfl, ?_⟩
     replace HO_7 := Aside0.mk (Kd.V_elder' (Sq.al HO_7) (Kd.R_base ho0) hb)
     replace HO_8 := Aside0.mk (Kd.V_elder' (Sq.al HO_8) (Kd.R_base ho0) hb)
     have HO143 := Aside0.mk (Kd.R_lower (Kd.R_new' (Kd.R_new' ho0 (Kd.R_lt (Sq.al HO_122001))) (Kd.R_lt (Sq.al HO_123001))) (below_size (Sq.bl HB)))
     replace BK121 := Sq.bb BK121 hb
     replace BK122 := Sq.bb BK122 hb
     replace BK123 := Sq.bb BK123 hb
     replace BK124 := Sq.bb BK124 hb
     replace HO_122001 := Aside0.mk (Kd.R_elder' (Sq.al HO_122001) (Kd.R_base ho0) hb)
     replace HO_123001 := Aside0.mk (Kd.R_elder' (Sq.al HO_123001) (Kd.R_base ho0) hb)
     replace HB := Sq.bs HB hb
     (try clear hb)
     (try clear hb2)
     (try clear hk)
     (try clear hi)
     (try clear ho0)
     obtain ⟨Ao52, co52, eo52⟩ := Kd.V_slice HO_8.out
     (first | subst eo52 | (injection eo52 with f1_ f2_ f3_; have f4_ := f1_.symm; have f5_ := f3_.symm; clear f1_ f2_ f3_; subst f4_; subst f5_))
     refine hK.out _ _ ⟨(blk_cell BK121.out 0).trans rfl, (blk_cell BK121.out 1).trans rfl, (blk_cell BK122.out 0).trans rfl, (blk_cell BK122.out 1).trans rfl⟩ (fun hHeld => ?_)
     clear hK K
     refine norm_ (a' := ?_) ?_ ?_
     rotate_left
     ·show Act.put _ (some 46) _ = _
      simp only [Act.put, List.setIfInBounds_toArray, List.set_cons_zero, List.set_cons_succ, i64_w, i32_w]
      rfl
     refine one_ (i := 10) (N := some 50) #[true, true, true, true, true, true, true, true, true, true, true, false, false, false] rfl rfl (one_of HT_.out (by kernel_rfl)) (by decide) (fun K hK => ?_)
     refine goes_ Try.func147 (by kernel_rfl) rfl #[.bool t129, .slice Ao52 t136.length co52] (by rfl) rfl rfl (by (try simp only [List.map_toArray, List.map_cons, List.map_nil]); first | done | rfl | (simp only [List.length_drop, List.length_take]; rfl)) ?_
     with_reducible refine (integer_sign_with.calls t129 _ _ t136 t144 t145 _ ?side1 ?side2 A48.out).mono ?_
     (case side1 => exact Sq.ca (Kd.V_reads' HO_8.out).2.2)
     (case side2 => exact (Kd.V_reads' HO_8.out).2.1)
     rintro e w53 ⟨v146, rfl, ho0, hb⟩
     refine ⟨_, rfl, ?_⟩
     replace HO_7 := Aside0.mk (Kd.V_elder' (Sq.al HO_7) (Kd.R_base ho0) hb)
     replace HO_8 := Aside0.mk (Kd.V_elder' (Sq.al HO_8) (Kd.R_base ho0) hb)
     have HO147 := Aside0.mk (Kd.R_lower (Kd.R_new' (Kd.R_new' (Kd.R_new' ho0 (Kd.R_lt (Sq.al HO_122001))) (Kd.R_lt (Sq.al HO_123001))) (Kd.R_lt (Sq.al HO143))) (below_size (Sq.bl HB)))
     replace BK121 := Sq.bb BK121 hb
     replace BK122 := Sq.bb BK122 hb
     replace BK123 := Sq.bb BK123 hb
     replace BK124 := Sq.bb BK124 hb
     replace HO_122001 := Aside0.mk (Kd.R_elder' (Sq.al HO_122001) (Kd.R_base ho0) hb)
     replace HO_123001 := Aside0.mk (Kd.R_elder' (Sq.al HO_123001) (Kd.R_base ho0) hb)
     replace HO143 := Aside0.mk (Kd.R_elder' (Sq.al HO143) (Kd.R_base ho0) hb)
     replace HB := Sq.bs HB hb
     (try clear hb)
     (try clear hb2)
     (try clear hk)
     (try clear hi)
     (try clear ho0)
     obtain ⟨Ao55, co55, eo55⟩ := Kd.R_slice HO143.out
     (first | subst eo55 | (injection eo55 with f1_ f2_ f3_; have f4_ := f1_.symm; have f5_ := f3_.symm; clear f1_ f2_ f3_; subst f4_; subst f5_))
     obtain ⟨Ao58, co58, eo58⟩ := Kd.R_slice HO147.out
     (first | subst eo58 | (injection eo58 with f1_ f2_ f3_; have f4_ := f1_.symm; have f5_ := f3_.symm; clear f1_ f2_ f3_; subst f4_; subst f5_))
     refine hK.out _ _ ⟨(blk_cell BK121.out 0).trans rfl, (blk_cell BK121.out 1).trans rfl, (blk_cell BK122.out 0).trans rfl, (blk_cell BK122.out 1).trans rfl⟩ (fun hHeld => ?_)
     clear hK K
     refine norm_ (a' := ?_) ?_ ?_
     rotate_left
     ·show Act.put _ (some 50) _ = _
      simp only [Act.put, List.setIfInBounds_toArray, List.set_cons_zero, List.set_cons_succ, i64_w, i32_w]
      rfl
     refine one_ (i := 11) (N := none) #[true, true, true, true, true, true, true, true, true, true, true, true, false, false] rfl rfl (one_of HT_.out (by kernel_rfl)) (by decide) (fun K hK => ?_)
     have hs54 : w53.cell? ⟨gb123, 0, none⟩ = some (.bool false) := (blk_cell BK123.out 0).trans rfl
     have hfs54 := blk_frozen BK123.out 0
     have hns54_0 := NB121_123.out
     have hns54_1 := NB122_123.out
     have hns54_3 := NB124_123.out
     have hms54_0 := NB123_121.out
     have hms54_1 := NB123_122.out
     have hms54_3 := NB123_124.out
     have hs56 : w53.cell? ⟨gb123, 1, none⟩ = some (.slice none 0 0) := (blk_cell BK123.out 1).trans rfl
     have hfs56 := blk_frozen BK123.out 1
     have hns56_0 := NB121_123.out
     have hns56_1 := NB122_123.out
     have hns56_3 := NB124_123.out
     have hms56_0 := NB123_121.out
     have hms56_1 := NB123_122.out
     have hms56_3 := NB123_124.out
     refine skip_ (w1 := ?_) (by rfl) rfl ?_ ?_
     rotate_left
     ·go_simp
      rfl
     refine hK.out _ _ ⟨((cell_far (p := ⟨gb123, _, none⟩) NB121_123.out _).trans (((cell_far (p := ⟨gb123, _, none⟩) NB121_123.out _).trans (hHeld.1)))), ((cell_far (p := ⟨gb123, _, none⟩) NB121_123.out _).trans (((cell_far (p := ⟨gb123, _, none⟩) NB121_123.out _).trans (hHeld.2.1)))), ((cell_far (p := ⟨gb123, _, none⟩) NB122_123.out _).trans (((cell_far (p := ⟨gb123, _, none⟩) NB122_123.out _).trans (hHeld.2.2.1)))), ((cell_far (p := ⟨gb123, _, none⟩) NB122_123.out _).trans (((cell_far (p := ⟨gb123, _, none⟩) NB122_123.out _).trans (hHeld.2.2.2))))⟩ (fun hHeld => ?_)
     clear hK K
     refine one_ (i := 12) (N := none) #[true, true, true, true, true, true, true, true, true, true, true, true, true, false] rfl rfl (one_of HT_.out (by kernel_rfl)) (by decide) (fun K hK => ?_)
     have hs57 : w53.cell? ⟨gb124, 0, none⟩ = some (.bool false) := (blk_cell BK124.out 0).trans rfl
     have hfs57 := blk_frozen BK124.out 0
     have hns57_0 := NB121_124.out
     have hns57_1 := NB122_124.out
     have hns57_2 := NB123_124.out
     have hms57_0 := NB124_121.out
     have hms57_1 := NB124_122.out
     have hms57_2 := NB124_123.out
     have hs59 : w53.cell? ⟨gb124, 1, none⟩ = some (.slice none 0 0) := (blk_cell BK124.out 1).trans rfl
     have hfs59 := blk_frozen BK124.out 1
     have hns59_0 := NB121_124.out
     have hns59_1 := NB122_124.out
     have hns59_2 := NB123_124.out
     have hms59_0 := NB124_121.out
     have hms59_1 := NB124_122.out
     have hms59_2 := NB124_123.out
     refine skip_ (w1 := ?_) (by rfl) rfl ?_ ?_
     rotate_left
     ·go_simp
      rfl
     refine hK.out _ _ ⟨((cell_far (p := ⟨gb124, _, none⟩) NB121_124.out _).trans (((cell_far (p := ⟨gb124, _, none⟩) NB121_124.out _).trans (hHeld.1)))), ((cell_far (p := ⟨gb124, _, none⟩) NB121_124.out _).trans (((cell_far (p := ⟨gb124, _, none⟩) NB121_124.out _).trans (hHeld.2.1)))), ((cell_far (p := ⟨gb124, _, none⟩) NB122_124.out _).trans (((cell_far (p := ⟨gb124, _, none⟩) NB122_124.out _).trans (hHeld.2.2.1)))), ((cell_far (p := ⟨gb124, _, none⟩) NB122_124.out _).trans (((cell_far (p := ⟨gb124, _, none⟩) NB122_124.out _).trans (hHeld.2.2.2))))⟩ (fun hHeld => ?_)
     clear hK K
     refine Sq.pu (v := ?_) (a' := ?_) 13 (some 6) #[true, true, true, true, true, true, true, true, true, true, true, true, true, true] HT_ ?_ ?_ ?_
     rotate_left
     ·intro w'
      go_simp
      with_reducible rfl
     rotate_left
     ·simp only [Act.put, List.setIfInBounds_toArray, List.set_cons_zero, List.set_cons_succ, i64_w, i32_w]
      rfl
     refine done_ (done_of HT_.out (by kernel_rfl)) ?_
     try go_wp2
     refine bodyPost_ret (results_list (rs := [.cell 4 39, .cell 5 39, .tmp 6]) rfl (by simp) (.cell gb123 39 #[.bool t140, .slice Ao55 t141.length co55] (0, 0) _ rfl (by (with_reducible repeat (first | refine blk_drewN ?_ _ | refine blk_drew ?_ | refine blk_alloc ?_ _)); refine blk_far ?_ NB123_124.out _; (with_reducible repeat (first | refine blk_drewN ?_ _ | refine blk_drew ?_ | refine blk_alloc ?_ _)); refine blk_far ?_ NB123_124.out _; (with_reducible repeat (first | refine blk_drewN ?_ _ | refine blk_drew ?_ | refine blk_alloc ?_ _)); refine blk_put (cs := #[.bool t140, .slice none 0 0]) ?_ 1 _ rfl; (with_reducible repeat (first | refine blk_drewN ?_ _ | refine blk_drew ?_ | refine blk_alloc ?_ _)); refine blk_put (cs := #[.bool false, .slice none 0 0]) ?_ 0 _ rfl; (with_reducible repeat (first | refine blk_drewN ?_ _ | refine blk_drew ?_ | refine blk_alloc ?_ _)); exact BK123.out) Try.underlying39 rfl (by kernel_rfl) (.cell gb124 39 #[.bool t144, .slice Ao58 t145.length co58] (0, 0) _ rfl (by (with_reducible repeat (first | refine blk_drewN ?_ _ | refine blk_drew ?_ | refine blk_alloc ?_ _)); refine blk_put (cs := #[.bool t144, .slice none 0 0]) ?_ 1 _ rfl; (with_reducible repeat (first | refine blk_drewN ?_ _ | refine blk_drew ?_ | refine blk_alloc ?_ _)); refine blk_put (cs := #[.bool false, .slice none 0 0]) ?_ 0 _ rfl; (with_reducible repeat (first | refine blk_drewN ?_ _ | refine blk_drew ?_ | refine blk_alloc ?_ _)); refine blk_far ?_ NB124_123.out _; (with_reducible repeat (first | refine blk_drewN ?_ _ | refine blk_drew ?_ | refine blk_alloc ?_ _)); refine blk_far ?_ NB124_123.out _; (with_reducible repeat (first | refine blk_drewN ?_ _ | refine blk_drew ?_ | refine blk_alloc ?_ _)); exact BK124.out) Try.underlying39 rfl (by kernel_rfl) (.tmp .nil)))) rfl ?_
     exact ⟨_, _, by first | rfl | (simp [errW_none, errW_some] <;> rfl) | (simp [*, errW_none, errW_some] <;> rfl), by (with_reducible repeat (first | apply Kd.R_alloc | apply Kd.R_drewN | apply Kd.R_drew)); exact Kd.R_mono (Kd.R_far (p := ⟨gb124, 1, none⟩) (Kd.R_far (p := ⟨gb124, 0, none⟩) (Kd.R_far (p := ⟨gb123, 1, none⟩) (Kd.R_far (p := ⟨gb123, 0, none⟩) (Sq.rt (Sq.rt HO143.out BK123) BK124) (fun _ hk => hk.1.2) (.bool t140)) (fun _ hk => hk.1.2) (.slice Ao55 t141.length co55)) (fun _ hk => hk.2) (.bool t144)) (fun _ hk => hk.2) (.slice Ao58 t145.length co58)) (fun _ hk => hk.1.1.2), by (with_reducible repeat (first | apply Kd.R_alloc | apply Kd.R_drewN | apply Kd.R_drew)); exact Kd.R_mono (Kd.R_far (p := ⟨gb124, 1, none⟩) (Kd.R_far (p := ⟨gb124, 0, none⟩) (Kd.R_far (p := ⟨gb123, 1, none⟩) (Kd.R_far (p := ⟨gb123, 0, none⟩) (Sq.rt (Sq.rt HO147.out BK123) BK124) (fun _ hk => hk.1.2) (.bool t140)) (fun _ hk => hk.1.2) (.slice Ao55 t141.length co55)) (fun _ hk => hk.2) (.bool t144)) (fun _ hk => hk.2) (.slice Ao58 t145.length co58)) (fun _ hk => hk.1.1.2), Sq.bl HB⟩
    ·replace c46 := Bool.eq_false_iff.mpr c46
     subst c46
     have H1 : ((nat_Sub.f t130 t136).bind fun bt148 => ((nat_Add.f t133 (([1] : List Int))).bind fun t155 => ((integer_sign_with.f true t155).bind fun bt158 => ((integer_sign_with.f t129 bt148.1).bind fun bt162 => (some (bt158.1, bt158.2, bt162.1, bt162.2, 0)))))) = some (r1, r2, r3, r4, r5) := by rw [if_neg (show ¬ (false = true) by decide)] at H; exact H
     clear H
     have H := H1
     clear H1
     replace H := Sq.bd H
     obtain ⟨⟨t148, t151⟩, A60, H⟩ := H
     (try dsimp -simprocs only at H)
     obtain ⟨y152, hy152⟩ : ∃ y_ : List Int, y_ = (([1] : List Int)) := ⟨_, rfl⟩
     (first | (replace H := Sq.ny hy152 H; (try dsimp -simprocs only at H)) | rw [← hy152] at H | skip)
     have Ny152 := Aside0.mk hy152
     clear hy152
     replace H := Sq.bd H
     obtain ⟨t155, A61, H⟩ := H
     (try dsimp -simprocs only at H)
     replace H := Sq.bd H
     obtain ⟨⟨t158, t159⟩, A62, H⟩ := H
     (try dsimp -simprocs only at H)
     replace H := Sq.bd H
     obtain ⟨⟨t162, t163⟩, A63, H⟩ := H
     (try dsimp -simprocs only at H)
     simp only [Option.some.injEq, Prod.mk.injEq] at H
     obtain ⟨rfl, rfl, rfl, rfl, rfl⟩ := H
     have hnb64 := NB122_121.out
     have hnc64 := NB121_122.out
     have hnb65 := NB122_123.out
     have hnc65 := NB123_122.out
     have hnb66 := NB122_124.out
     have hnc66 := NB124_122.out
     have hcz67_0 := Sq.bc BK122 0 (.bool t129)
     have hcz67_1 := Sq.bc BK122 1 (.slice Ao19 t130.length co19)
     have hfz67_0 := blk_frozen BK122.out 0
     have hfz67_1 := blk_frozen BK122.out 1
     obtain ⟨Ao68, co68, eo68⟩ := Kd.V_slice HO_8.out
     subst eo68
     try go_wp2_with (first | ((with_reducible refine gate_callee (f := 45) rfl ?_); refine Sq.gl (some 55) Try.func45 #[.slice Ao19 t130.length co19, .slice Ao68 t136.length co68] ?_; (with_reducible refine (nat_Sub.calls (fun k_ => some k_ = (.slice Ao19 t130.length co19 : Value).ownBlock) _ _ t130 _ _ t136 t148 t151 _ ?side1 ?side2 ?side3 A60.out).mono ?_); (case side1 => exact Kd.R_V (Kd.R_tight rfl (Sq.rt (Sq.rt (Sq.rt (Sq.rt (HO_123001.out) BK121) BK122) BK123) BK124))); (case side2 => exact Sq.ca (Kd.V_reads' HO_8.out).2.2); (case side3 => exact (Kd.V_reads' HO_8.out).2.1); rintro e w69 ⟨v149, rfl, ho0, hb⟩; refine ⟨_, rfl, ?_⟩; replace HO_7 := Aside0.mk (Kd.V_below (Sq.al HO_7) hb); replace HO_8 := Aside0.mk (Kd.V_below (Sq.al HO_8) hb); have HO150 := Aside0.mk (Kd.V_lower (Kd.V_mono (ok' := fun k_ => some k_ ≠ (.slice Ao16 t126.length co16 : Value).ownBlock ∧ k_ ≠ gb121 ∧ k_ ≠ gb122 ∧ k_ ≠ gb123 ∧ k_ ≠ gb124) ho0 (fun k_ hk_ => ⟨Or.elim hk_ (fun hs_ => ((Sq.rt (Sq.rt (Sq.rt (Sq.rt (HO_123001.out) BK121) BK122) BK123) BK124).1 k_ hs_.symm).1.1.1.1) (fun hn_ => (Kd.fresh' (Kd.R_lt (Sq.al HO_122001)) k_ hn_)), Or.elim hk_ (fun hs_ => ((Sq.rt (Sq.rt (Sq.rt (Sq.rt (HO_123001.out) BK121) BK122) BK123) BK124).1 k_ hs_.symm).1.1.1.2) (fun hn_ => (Sq.fb BK121 k_ hn_)), Or.elim hk_ (fun hs_ => ((Sq.rt (Sq.rt (Sq.rt (Sq.rt (HO_123001.out) BK121) BK122) BK123) BK124).1 k_ hs_.symm).1.1.2) (fun hn_ => (Sq.fb BK122 k_ hn_)), Or.elim hk_ (fun hs_ => ((Sq.rt (Sq.rt (Sq.rt (Sq.rt (HO_123001.out) BK121) BK122) BK123) BK124).1 k_ hs_.symm).1.2) (fun hn_ => (Sq.fb BK123 k_ hn_)), Or.elim hk_ (fun hs_ => ((Sq.rt (Sq.rt (Sq.rt (Sq.rt (HO_123001.out) BK121) BK122) BK123) BK124).1 k_ hs_.symm).2) (fun hn_ => (Sq.fb BK124 k_ hn_))⟩)) (below_size (Sq.bl HB))); replace HO_122001 := Aside0.mk (Kd.R_below (Sq.al HO_122001) hb); replace HO_123001 := Aside0.mk (Kd.R_below (Sq.al HO_123001) hb); replace BK121 := Sq.bb BK121 hb; replace BK122 := Sq.bb BK122 hb; replace BK123 := Sq.bb BK123 hb; replace BK124 := Sq.bb BK124 hb; replace HB := Sq.bs HB hb; (try clear hb); (try clear hb2); (try clear hk); (try clear hi); (try clear ho0)))
     replace HO_7 := Aside0.mk (Kd.V_drew HO_7.out)
     replace HO_8 := Aside0.mk (Kd.V_drew HO_8.out)
     replace HO_122001 := Aside0.mk (Kd.R_drew HO_122001.out)
     replace HO_123001 := Aside0.mk (Kd.R_drew HO_123001.out)
     replace HO150 := Aside0.mk (Kd.V_drew HO150.out)
     replace BK121 := Aside0.mk (blk_drew BK121.out)
     replace BK122 := Aside0.mk (blk_drew BK122.out)
     replace BK123 := Aside0.mk (blk_drew BK123.out)
     replace BK124 := Aside0.mk (blk_drew BK124.out)
     replace HB := Aside0.mk (below_drew1 HB.out)
     refine start_ (n := 11) (S := fun w' => w'.cell? ⟨gb122, 0, none⟩ = some (.bool t129) ∧ w'.cell? ⟨gb122, 1, none⟩ = some (.slice Ao19 t130.length co19)) (ds := []) #[false, false, false, false, false, false, false, false, false, false, false] (by kernel_rfl) rfl rfl ⟨(blk_cell BK122.out 0).trans rfl, (blk_cell BK122.out 1).trans rfl⟩ (fun hHeld => ?_); refine with_tabW integer_Div.tab8 integer_Div.bits8 (fun HT_ HW_ => ?_)
     generalize w69.drew = w70 at HO_7 HO_8 HO_122001 HO_123001 HO150 BK121 BK122 BK123 BK124 HB hHeld ⊢
     refine Sq.pu (v := ?_) (a' := ?_) 0 (some 58) #[true, false, false, false, false, false, false, false, false, false, false] HT_ ?_ ?_ ?_
     rotate_left
     ·intro w'
      go_simp
      with_reducible rfl
     rotate_left
     ·simp only [Act.put, List.setIfInBounds_toArray, List.set_cons_zero, List.set_cons_succ, i64_w, i32_w]
      rfl
     refine Sq.pu (v := ?_) (a' := ?_) 4 (some 62) #[true, false, false, false, true, false, false, false, false, false, false] HT_ ?_ ?_ ?_
     rotate_left
     ·intro w'
      go_simp
      with_reducible rfl
     rotate_left
     ·simp only [Act.put, List.setIfInBounds_toArray, List.set_cons_zero, List.set_cons_succ, i64_w, i32_w]
      rfl
     refine Sq.pu (v := ?_) (a' := ?_) 6 (some 64) #[true, false, false, false, true, false, true, false, false, false, false] HT_ ?_ ?_ ?_
     rotate_left
     ·intro w'
      go_simp
      with_reducible rfl
     rotate_left
     ·simp only [Act.put, List.setIfInBounds_toArray, List.set_cons_zero, List.set_cons_succ, i64_w, i32_w]
      rfl
     refine Sq.tk (v := ?_) (a' := ?_) 5 (some 63) #[true, false, false, false, true, true, true, false, false, false, false] HT_ HW_ hHeld ?_ ?_ ?_
     rotate_left
     ·rintro w' ⟨s0, s1⟩
      go_simp
      with_reducible rfl
     rotate_left
     ·simp only [Act.put, List.setIfInBounds_toArray, List.set_cons_zero, List.set_cons_succ, i64_w, i32_w]
      rfl
     refine one_ (i := 1) (N := some 59) #[true, true, false, false, true, true, true, false, false, false, false] rfl rfl (one_of HT_.out (by kernel_rfl)) (by decide) (fun K hK => ?_)
     refine Kd.R_lit_step (Kd.int .u32) _ 107 ?hg (N := 59) ?hd (xs := ([1] : List Int)) (inner := [.int .u32 1]) (ok := fun _ => True) (okp := fun _ => True) ?hr ?hp (fun _ hk => hk) trivial (Below.refl _ _) (Nat.le_refl _) (by simp) ?_; (case hd => rfl); (case hg => rfl); (case hr => first | (go_simp; done) | (go_simp; rfl)); (case hp => exact (Reps.one (show Kd.M (Kd.int .u32) _ _ _ 1 [.int .u32 1] from rfl) (Reps.none _ _)))
     intro v153 w71 ho72 hb hg_ hnew_
     clear hg_ hnew_
     (first | rw [← Ny152.out] at ho72 | (simp only [Int.reduceToNat] at ho72; rw [← Ny152.out] at ho72))
     replace HO_7 := Aside0.mk (Kd.V_elder' (Sq.al HO_7) (Kd.R_base ho72) hb)
     replace HO_8 := Aside0.mk (Kd.V_elder' (Sq.al HO_8) (Kd.R_base ho72) hb)
     replace HO150 := Aside0.mk (Kd.V_elder' (Sq.al HO150) (Kd.R_base ho72) hb)
     have HO154 := Aside0.mk (Kd.R_lower (Kd.R_new' (Kd.R_new' ho72 (Kd.R_lt (Sq.al HO_122001))) (Kd.R_lt (Sq.al HO_123001))) (below_size (Sq.bl HB)))
     replace BK121 := Sq.bb BK121 hb
     replace BK122 := Sq.bb BK122 hb
     replace BK123 := Sq.bb BK123 hb
     replace BK124 := Sq.bb BK124 hb
     replace HO_122001 := Aside0.mk (Kd.R_elder' (Sq.al HO_122001) (Kd.R_base ho72) hb)
     replace HO_123001 := Aside0.mk (Kd.R_elder' (Sq.al HO_123001) (Kd.R_base ho72) hb)
     replace HB := Sq.bs HB hb
     clear hb ho72
     obtain ⟨Ao73, co73, eo73⟩ := Kd.V_slice HO_7.out
     (first | subst eo73 | (injection eo73 with f1_ f2_ f3_; have f4_ := f1_.symm; have f5_ := f3_.symm; clear f1_ f2_ f3_; subst f4_; subst f5_))
     obtain ⟨Ao74, co74, eo74⟩ := Kd.R_slice HO154.out
     (first | subst eo74 | (injection eo74 with f1_ f2_ f3_; have f4_ := f1_.symm; have f5_ := f3_.symm; clear f1_ f2_ f3_; subst f4_; subst f5_))
     refine hK.out _ _ ⟨(blk_cell BK122.out 0).trans rfl, (blk_cell BK122.out 1).trans rfl⟩ (fun hHeld => ?_)
     clear hK K
     refine norm_ (a' := ?_) ?_ ?_
     rotate_left
     ·show Act.put _ (some 59) _ = _
      simp only [Act.put, List.setIfInBounds_toArray, List.set_cons_zero, List.set_cons_succ, i64_w, i32_w]
      rfl
     refine one_ (i := 2) (N := some 60) #[true, true, true, false, true, true, true, false, false, false, false] rfl rfl (one_of HT_.out (by kernel_rfl)) (by decide) (fun K hK => ?_)
     refine goes_ Try.func42 (by kernel_rfl) rfl #[.slice Ao73 t133.length co73, .slice Ao74 y152.length co74] (by rfl) rfl rfl (by (try simp only [List.map_toArray, List.map_cons, List.map_nil]); first | done | rfl | (simp only [List.length_drop, List.length_take]; rfl)) ?_
     with_reducible refine (nat_Add.calls _ _ t133 _ _ y152 t155 _ ?side1 ?side2 ?side3 ?side4 A61.out).mono ?_
     (case side1 => exact Sq.ca (Kd.V_reads' HO_7.out).2.2)
     (case side2 => exact (Kd.V_reads' HO_7.out).2.1)
     (case side3 => exact Sq.ca (Kd.R_reads' HO154.out).2.2)
     (case side4 => exact (Kd.R_reads' HO154.out).2.1)
     rintro e w75 ⟨v156, rfl, ho0, hb⟩
     refine ⟨_, rfl, ?_⟩
     replace HO_7 := Aside0.mk (Kd.V_below (Sq.al HO_7) hb)
     replace HO_8 := Aside0.mk (Kd.V_below (Sq.al HO_8) hb)
     replace HO150 := Aside0.mk (Kd.V_below (Sq.al HO150) hb)
     have HO157 := Aside0.mk (Kd.V_lower (Kd.V_mono (ok' := fun k_ => some k_ ≠ (.slice Ao16 t126.length co16 : Value).ownBlock ∧ some k_ ≠ (.slice Ao19 t130.length co19 : Value).ownBlock ∧ some k_ ≠ (.slice Ao74 y152.length co74 : Value).ownBlock ∧ k_ ≠ gb121 ∧ k_ ≠ gb122 ∧ k_ ≠ gb123 ∧ k_ ≠ gb124) ho0 (fun k_ hk_ => ⟨(Kd.fresh' (Kd.R_lt (Sq.al HO_122001)) k_ hk_), (Kd.fresh' (Kd.R_lt (Sq.al HO_123001)) k_ hk_), (Kd.fresh' (Kd.R_lt (Sq.al HO154)) k_ hk_), (Sq.fb BK121 k_ hk_), (Sq.fb BK122 k_ hk_), (Sq.fb BK123 k_ hk_), (Sq.fb BK124 k_ hk_)⟩)) (below_size (Sq.bl HB)))
     replace HO_122001 := Aside0.mk (Kd.R_below (Sq.al HO_122001) hb)
     replace HO_123001 := Aside0.mk (Kd.R_below (Sq.al HO_123001) hb)
     replace HO154 := Aside0.mk (Kd.R_below (Sq.al HO154) hb)
     replace BK121 := Sq.bb BK121 hb
     replace BK122 := Sq.bb BK122 hb
     replace BK123 := Sq.bb BK123 hb
     replace BK124 := Sq.bb BK124 hb
     replace HB := Sq.bs HB hb
     (try clear hb)
     (try clear hb2)
     (try clear hk)
     (try clear hi)
     (try clear ho0)
     obtain ⟨Ao76, co76, eo76⟩ := Kd.V_slice HO157.out
     (first | subst eo76 | (injection eo76 with f1_ f2_ f3_; have f4_ := f1_.symm; have f5_ := f3_.symm; clear f1_ f2_ f3_; subst f4_; subst f5_))
     refine hK.out _ _ ⟨(blk_cell BK122.out 0).trans rfl, (blk_cell BK122.out 1).trans rfl⟩ (fun hHeld => ?_)
     clear hK K
     refine norm_ (a' := ?_) ?_ ?_
     rotate_left
     ·show Act.put _ (some 60) _ = _
      simp only [Act.put, List.setIfInBounds_toArray, List.set_cons_zero, List.set_cons_succ, i64_w, i32_w]
      rfl
     refine one_ (i := 3) (N := some 61) #[true, true, true, true, true, true, true, false, false, false, false] rfl rfl (one_of HT_.out (by kernel_rfl)) (by decide) (fun K hK => ?_)
     refine goes_ Try.func147 (by kernel_rfl) rfl #[.bool true, .slice Ao76 t155.length co76] (by rfl) rfl rfl (by (try simp only [List.map_toArray, List.map_cons, List.map_nil]); first | done | rfl | (simp only [List.length_drop, List.length_take]; rfl)) ?_
     with_reducible refine (integer_sign_with.calls true _ _ t155 t158 t159 _ ?side1 ?side2 A62.out).mono ?_
     (case side1 => exact Sq.ca (Kd.V_reads' HO157.out).2.2)
     (case side2 => exact (Kd.V_reads' HO157.out).2.1)
     rintro e w77 ⟨v160, rfl, ho0, hb⟩
     refine ⟨_, rfl, ?_⟩
     replace HO_7 := Aside0.mk (Kd.V_elder' (Sq.al HO_7) (Kd.R_base ho0) hb)
     replace HO_8 := Aside0.mk (Kd.V_elder' (Sq.al HO_8) (Kd.R_base ho0) hb)
     replace HO150 := Aside0.mk (Kd.V_elder' (Sq.al HO150) (Kd.R_base ho0) hb)
     replace HO157 := Aside0.mk (Kd.V_elder' (Sq.al HO157) (Kd.R_base ho0) hb)
     have HO161 := Aside0.mk (Kd.R_lower (Kd.R_new' (Kd.R_new' (Kd.R_new' ho0 (Kd.R_lt (Sq.al HO_122001))) (Kd.R_lt (Sq.al HO_123001))) (Kd.R_lt (Sq.al HO154))) (below_size (Sq.bl HB)))
     replace BK121 := Sq.bb BK121 hb
     replace BK122 := Sq.bb BK122 hb
     replace BK123 := Sq.bb BK123 hb
     replace BK124 := Sq.bb BK124 hb
     replace HO_122001 := Aside0.mk (Kd.R_elder' (Sq.al HO_122001) (Kd.R_base ho0) hb)
     replace HO_123001 := Aside0.mk (Kd.R_elder' (Sq.al HO_123001) (Kd.R_base ho0) hb)
     replace HO154 := Aside0.mk (Kd.R_elder' (Sq.al HO154) (Kd.R_base ho0) hb)
     replace HB := Sq.bs HB hb
     (try clear hb)
     (try clear hb2)
     (try clear hk)
     (try clear hi)
     (try clear ho0)
     obtain ⟨Ao78, co78, eo78⟩ := Kd.V_slice HO150.out
     (first | subst eo78 | (injection eo78 with f1_ f2_ f3_; have f4_ := f1_.symm; have f5_ := f3_.symm; clear f1_ f2_ f3_; subst f4_; subst f5_))
     refine hK.out _ _ ⟨(blk_cell BK122.out 0).trans rfl, (blk_cell BK122.out 1).trans rfl⟩ (fun hHeld => ?_)
     clear hK K
     refine norm_ (a' := ?_) ?_ ?_
     rotate_left
     ·show Act.put _ (some 61) _ = _
      simp only [Act.put, List.setIfInBounds_toArray, List.set_cons_zero, List.set_cons_succ, i64_w, i32_w]
      rfl
     refine one_ (i := 7) (N := some 65) #[true, true, true, true, true, true, true, true, false, false, false] rfl rfl (one_of HT_.out (by kernel_rfl)) (by decide) (fun K hK => ?_)
     refine goes_ Try.func147 (by kernel_rfl) rfl #[.bool t129, .slice Ao78 t148.length co78] (by rfl) rfl rfl (by (try simp only [List.map_toArray, List.map_cons, List.map_nil]); first | done | rfl | (simp only [List.length_drop, List.length_take]; rfl)) ?_
     with_reducible refine (integer_sign_with.calls t129 _ _ t148 t162 t163 _ ?side1 ?side2 A63.out).mono ?_
     (case side1 => exact Sq.ca (Kd.V_reads' HO150.out).2.2)
     (case side2 => exact (Kd.V_reads' HO150.out).2.1)
     rintro e w79 ⟨v164, rfl, ho0, hb⟩
     refine ⟨_, rfl, ?_⟩
     replace HO_7 := Aside0.mk (Kd.V_elder' (Sq.al HO_7) (Kd.R_base ho0) hb)
     replace HO_8 := Aside0.mk (Kd.V_elder' (Sq.al HO_8) (Kd.R_base ho0) hb)
     replace HO150 := Aside0.mk (Kd.V_elder' (Sq.al HO150) (Kd.R_base ho0) hb)
     replace HO157 := Aside0.mk (Kd.V_elder' (Sq.al HO157) (Kd.R_base ho0) hb)
     have HO165 := Aside0.mk (Kd.R_lower (Kd.R_new' (Kd.R_new' (Kd.R_new' (Kd.R_new' ho0 (Kd.R_lt (Sq.al HO_122001))) (Kd.R_lt (Sq.al HO_123001))) (Kd.R_lt (Sq.al HO154))) (Kd.R_lt (Sq.al HO161))) (below_size (Sq.bl HB)))
     replace BK121 := Sq.bb BK121 hb
     replace BK122 := Sq.bb BK122 hb
     replace BK123 := Sq.bb BK123 hb
     replace BK124 := Sq.bb BK124 hb
     replace HO_122001 := Aside0.mk (Kd.R_elder' (Sq.al HO_122001) (Kd.R_base ho0) hb)
     replace HO_123001 := Aside0.mk (Kd.R_elder' (Sq.al HO_123001) (Kd.R_base ho0) hb)
     replace HO154 := Aside0.mk (Kd.R_elder' (Sq.al HO154) (Kd.R_base ho0) hb)
     replace HO161 := Aside0.mk (Kd.R_elder' (Sq.al HO161) (Kd.R_base ho0) hb)
     replace HB := Sq.bs HB hb
     (try clear hb)
     (try clear hb2)
     (try clear hk)
     (try clear hi)
     (try clear ho0)
     obtain ⟨Ao81, co81, eo81⟩ := Kd.R_slice HO161.out
     (first | subst eo81 | (injection eo81 with f1_ f2_ f3_; have f4_ := f1_.symm; have f5_ := f3_.symm; clear f1_ f2_ f3_; subst f4_; subst f5_))
     obtain ⟨Ao84, co84, eo84⟩ := Kd.R_slice HO165.out
     (first | subst eo84 | (injection eo84 with f1_ f2_ f3_; have f4_ := f1_.symm; have f5_ := f3_.symm; clear f1_ f2_ f3_; subst f4_; subst f5_))
     refine hK.out _ _ ⟨(blk_cell BK122.out 0).trans rfl, (blk_cell BK122.out 1).trans rfl⟩ (fun hHeld => ?_)
     clear hK K
     refine norm_ (a' := ?_) ?_ ?_
     rotate_left
     ·show Act.put _ (some 65) _ = _
      simp only [Act.put, List.setIfInBounds_toArray, List.set_cons_zero, List.set_cons_succ, i64_w, i32_w]
      rfl
     refine one_ (i := 8) (N := none) #[true, true, true, true, true, true, true, true, true, false, false] rfl rfl (one_of HT_.out (by kernel_rfl)) (by decide) (fun K hK => ?_)
     have hs80 : w79.cell? ⟨gb123, 0, none⟩ = some (.bool false) := (blk_cell BK123.out 0).trans rfl
     have hfs80 := blk_frozen BK123.out 0
     have hns80_0 := NB121_123.out
     have hns80_1 := NB122_123.out
     have hns80_3 := NB124_123.out
     have hms80_0 := NB123_121.out
     have hms80_1 := NB123_122.out
     have hms80_3 := NB123_124.out
     have hs82 : w79.cell? ⟨gb123, 1, none⟩ = some (.slice none 0 0) := (blk_cell BK123.out 1).trans rfl
     have hfs82 := blk_frozen BK123.out 1
     have hns82_0 := NB121_123.out
     have hns82_1 := NB122_123.out
     have hns82_3 := NB124_123.out
     have hms82_0 := NB123_121.out
     have hms82_1 := NB123_122.out
     have hms82_3 := NB123_124.out
     refine skip_ (w1 := ?_) (by rfl) rfl ?_ ?_
     rotate_left
     ·go_simp
      rfl
     refine hK.out _ _ ⟨((cell_far (p := ⟨gb123, _, none⟩) NB122_123.out _).trans (((cell_far (p := ⟨gb123, _, none⟩) NB122_123.out _).trans (hHeld.1)))), ((cell_far (p := ⟨gb123, _, none⟩) NB122_123.out _).trans (((cell_far (p := ⟨gb123, _, none⟩) NB122_123.out _).trans (hHeld.2))))⟩ (fun hHeld => ?_)
     clear hK K
     refine one_ (i := 9) (N := none) #[true, true, true, true, true, true, true, true, true, true, false] rfl rfl (one_of HT_.out (by kernel_rfl)) (by decide) (fun K hK => ?_)
     have hs83 : w79.cell? ⟨gb124, 0, none⟩ = some (.bool false) := (blk_cell BK124.out 0).trans rfl
     have hfs83 := blk_frozen BK124.out 0
     have hns83_0 := NB121_124.out
     have hns83_1 := NB122_124.out
     have hns83_2 := NB123_124.out
     have hms83_0 := NB124_121.out
     have hms83_1 := NB124_122.out
     have hms83_2 := NB124_123.out
     have hs85 : w79.cell? ⟨gb124, 1, none⟩ = some (.slice none 0 0) := (blk_cell BK124.out 1).trans rfl
     have hfs85 := blk_frozen BK124.out 1
     have hns85_0 := NB121_124.out
     have hns85_1 := NB122_124.out
     have hns85_2 := NB123_124.out
     have hms85_0 := NB124_121.out
     have hms85_1 := NB124_122.out
     have hms85_2 := NB124_123.out
     refine skip_ (w1 := ?_) (by rfl) rfl ?_ ?_
     rotate_left
     ·go_simp
      rfl
     refine hK.out _ _ ⟨((cell_far (p := ⟨gb124, _, none⟩) NB122_124.out _).trans (((cell_far (p := ⟨gb124, _, none⟩) NB122_124.out _).trans (hHeld.1)))), ((cell_far (p := ⟨gb124, _, none⟩) NB122_124.out _).trans (((cell_far (p := ⟨gb124, _, none⟩) NB122_124.out _).trans (hHeld.2))))⟩ (fun hHeld => ?_)
     clear hK K
     refine Sq.pu (v := ?_) (a' := ?_) 10 (some 6) #[true, true, true, true, true, true, true, true, true, true, true] HT_ ?_ ?_ ?_
     rotate_left
     ·intro w'
      go_simp
      with_reducible rfl
     rotate_left
     ·simp only [Act.put, List.setIfInBounds_toArray, List.set_cons_zero, List.set_cons_succ, i64_w, i32_w]
      rfl
     refine done_ (done_of HT_.out (by kernel_rfl)) ?_
     try go_wp2
     refine bodyPost_ret (results_list (rs := [.cell 4 39, .cell 5 39, .tmp 6]) rfl (by simp) (.cell gb123 39 #[.bool t158, .slice Ao81 t159.length co81] (0, 0) _ rfl (by (with_reducible repeat (first | refine blk_drewN ?_ _ | refine blk_drew ?_ | refine blk_alloc ?_ _)); refine blk_far ?_ NB123_124.out _; (with_reducible repeat (first | refine blk_drewN ?_ _ | refine blk_drew ?_ | refine blk_alloc ?_ _)); refine blk_far ?_ NB123_124.out _; (with_reducible repeat (first | refine blk_drewN ?_ _ | refine blk_drew ?_ | refine blk_alloc ?_ _)); refine blk_put (cs := #[.bool t158, .slice none 0 0]) ?_ 1 _ rfl; (with_reducible repeat (first | refine blk_drewN ?_ _ | refine blk_drew ?_ | refine blk_alloc ?_ _)); refine blk_put (cs := #[.bool false, .slice none 0 0]) ?_ 0 _ rfl; (with_reducible repeat (first | refine blk_drewN ?_ _ | refine blk_drew ?_ | refine blk_alloc ?_ _)); exact BK123.out) Try.underlying39 rfl (by kernel_rfl) (.cell gb124 39 #[.bool t162, .slice Ao84 t163.length co84] (0, 0) _ rfl (by (with_reducible repeat (first | refine blk_drewN ?_ _ | refine blk_drew ?_ | refine blk_alloc ?_ _)); refine blk_put (cs := #[.bool t162, .slice none 0 0]) ?_ 1 _ rfl; (with_reducible repeat (first | refine blk_drewN ?_ _ | refine blk_drew ?_ | refine blk_alloc ?_ _)); refine blk_put (cs := #[.bool false, .slice none 0 0]) ?_ 0 _ rfl; (with_reducible repeat (first | refine blk_drewN ?_ _ | refine blk_drew ?_ | refine blk_alloc ?_ _)); refine blk_far ?_ NB124_123.out _; (with_reducible repeat (first | refine blk_drewN ?_ _ | refine blk_drew ?_ | refine blk_alloc ?_ _)); refine blk_far ?_ NB124_123.out _; (with_reducible repeat (first | refine blk_drewN ?_ _ | refine blk_drew ?_ | refine blk_alloc ?_ _)); exact BK124.out) Try.underlying39 rfl (by kernel_rfl) (.tmp .nil)))) rfl ?_
     exact ⟨_, _, by first | rfl | (simp [errW_none, errW_some] <;> rfl) | (simp [*, errW_none, errW_some] <;> rfl), by (with_reducible repeat (first | apply Kd.R_alloc | apply Kd.R_drewN | apply Kd.R_drew)); exact Kd.R_mono (Kd.R_far (p := ⟨gb124, 1, none⟩) (Kd.R_far (p := ⟨gb124, 0, none⟩) (Kd.R_far (p := ⟨gb123, 1, none⟩) (Kd.R_far (p := ⟨gb123, 0, none⟩) (Sq.rt (Sq.rt HO161.out BK123) BK124) (fun _ hk => hk.1.2) (.bool t158)) (fun _ hk => hk.1.2) (.slice Ao81 t159.length co81)) (fun _ hk => hk.2) (.bool t162)) (fun _ hk => hk.2) (.slice Ao84 t163.length co84)) (fun _ hk => hk.1.1.2), by (with_reducible repeat (first | apply Kd.R_alloc | apply Kd.R_drewN | apply Kd.R_drew)); exact Kd.R_mono (Kd.R_far (p := ⟨gb124, 1, none⟩) (Kd.R_far (p := ⟨gb124, 0, none⟩) (Kd.R_far (p := ⟨gb123, 1, none⟩) (Kd.R_far (p := ⟨gb123, 0, none⟩) (Sq.rt (Sq.rt HO165.out BK123) BK124) (fun _ hk => hk.1.2) (.bool t158)) (fun _ hk => hk.1.2) (.slice Ao81 t159.length co81)) (fun _ hk => hk.2) (.bool t162)) (fun _ hk => hk.2) (.slice Ao84 t163.length co84)) (fun _ hk => hk.1.1.2), Sq.bl HB⟩
 ·rw [if_neg c6] at H
  have c6b0 : (t139 == 0) = false := beq_eq_false_iff_ne.mpr c6
  have c6b1 : (t139 != 0) = true := bne_iff_ne.mpr c6
  simp only [Option.some.injEq, Prod.mk.injEq] at H
  obtain ⟨rfl, rfl, rfl, rfl, rfl⟩ := H
  go_enter Try.func54, Try.ntmps54
  try go_wp2_with (first | ((with_reducible refine gate_dst (N := 2) rfl ?_); (try (refine gate_guard (by rfl) ?_; dsimp only)); refine box_event ?hg (N := 2) ?hd (cs := #[.bool a0_0, .slice A0_1 l0_1.length c0_1]) (t := 39) ?hr ?_; (case hd => rfl); (case hg => rfl); (case hr => first | (go_simp; done) | (go_simp; rfl)); intro gb121 hg w86 hbox hb; have BK121 := Aside0.mk (hbox); have GW121 := Sq.gw HB hg; have GE121 := Sq.gw HB hg; replace HB := Sq.bs HB hb; clear hb hbox hg) | ((with_reducible refine gate_dst (N := 3) rfl ?_); (try (refine gate_guard (by rfl) ?_; dsimp only)); refine box_event ?hg (N := 3) ?hd (cs := #[.bool a1_0, .slice A1_1 l1_1.length c1_1]) (t := 39) ?hr ?_; (case hd => rfl); (case hg => rfl); (case hr => first | (go_simp; done) | (go_simp; rfl)); intro gb122 hg w87 hbox hb; have BK122 := Aside0.mk (hbox); have GW122 := Sq.gw HB hg; have GE122 := Sq.gw HB hg; have NB121_122 := Sq.nl BK121 hg; have NB122_121 := Sq.ng BK121 hg; replace BK121 := Sq.bb BK121 hb; replace HB := Sq.bs HB hb; clear hb hbox hg) | ((with_reducible refine gate_dst (N := 4) rfl ?_); (try (refine gate_guard (by rfl) ?_; dsimp only)); refine box_event ?hg (N := 4) ?hd (cs := #[.bool false, .slice none 0 0]) (t := 39) ?hr ?_; (case hd => rfl); (case hg => rfl); (case hr => first | (go_simp; done) | (go_simp; rfl)); intro gb123 hg w88 hbox hb; have BK123 := Aside0.mk (hbox); have GW123 := Sq.gw HB hg; have GE123 := Sq.gw HB hg; have NB121_123 := Sq.nl BK121 hg; have NB123_121 := Sq.ng BK121 hg; have NB122_123 := Sq.nl BK122 hg; have NB123_122 := Sq.ng BK122 hg; replace BK121 := Sq.bb BK121 hb; replace BK122 := Sq.bb BK122 hb; replace HB := Sq.bs HB hb; clear hb hbox hg) | ((with_reducible refine gate_dst (N := 5) rfl ?_); (try (refine gate_guard (by rfl) ?_; dsimp only)); refine box_event ?hg (N := 5) ?hd (cs := #[.bool false, .slice none 0 0]) (t := 39) ?hr ?_; (case hd => rfl); (case hg => rfl); (case hr => first | (go_simp; done) | (go_simp; rfl)); intro gb124 hg w89 hbox hb; have BK124 := Aside0.mk (hbox); have GW124 := Sq.gw HB hg; have GE124 := Sq.gw HB hg; have NB121_124 := Sq.nl BK121 hg; have NB124_121 := Sq.ng BK121 hg; have NB122_124 := Sq.nl BK122 hg; have NB124_122 := Sq.ng BK122 hg; have NB123_124 := Sq.nl BK123 hg; have NB124_123 := Sq.ng BK123 hg; replace BK121 := Sq.bb BK121 hb; replace BK122 := Sq.bb BK122 hb; replace BK123 := Sq.bb BK123 hb; replace HB := Sq.bs HB hb; clear hb hbox hg))
  replace BK121 := Aside0.mk (blk_drew BK121.out)
  replace BK122 := Aside0.mk (blk_drew BK122.out)
  replace BK123 := Aside0.mk (blk_drew BK123.out)
  replace BK124 := Aside0.mk (blk_drew BK124.out)
  replace HB := Aside0.mk (below_drew1 HB.out)
  refine start_ (n := 6) (S := fun w' => w'.cell? ⟨gb121, 0, none⟩ = some (.bool a0_0) ∧ w'.cell? ⟨gb121, 1, none⟩ = some (.slice A0_1 l0_1.length c0_1) ∧ w'.cell? ⟨gb122, 0, none⟩ = some (.bool a1_0) ∧ w'.cell? ⟨gb122, 1, none⟩ = some (.slice A1_1 l1_1.length c1_1)) (ds := [4, 5]) #[false, false, false, false, false, false] (by kernel_rfl) rfl rfl ⟨(blk_cell BK121.out 0).trans rfl, (blk_cell BK121.out 1).trans rfl, (blk_cell BK122.out 0).trans rfl, (blk_cell BK122.out 1).trans rfl⟩ (fun hHeld => ?_)
  generalize w89.drew = w90 at BK121 BK122 BK123 BK124 HB hHeld ⊢
  refine take_ (i := 0) (N := some 12) (v := ?_) (a' := ?_) #[true, false, false, false, false, false] rfl rfl (by kernel_rfl) (fun _ _ _ h => h) (Or.inl ⟨by rfl, ?_⟩) hHeld ?_ ?_
  rotate_left
  ·rintro w' ⟨s0, s1, s2, s3⟩
   go_simp
   with_reducible rfl
  rotate_left
  ·simp only [Act.put, List.setIfInBounds_toArray, List.set_cons_zero, List.set_cons_succ, i64_w, i32_w]
   rfl
  refine take_ (i := 2) (N := some 14) (v := ?_) (a' := ?_) #[true, false, true, false, false, false] rfl rfl (by kernel_rfl) (fun _ _ _ h => h) (Or.inl ⟨by rfl, ?_⟩) hHeld ?_ ?_
  rotate_left
  ·rintro w' ⟨s0, s1, s2, s3⟩
   go_simp
   with_reducible rfl
  rotate_left
  ·simp only [Act.put, List.setIfInBounds_toArray, List.set_cons_zero, List.set_cons_succ, i64_w, i32_w]
   rfl
  refine one_ (i := 1) (N := some 13) #[true, true, true, false, false, false] rfl rfl (by kernel_rfl) (by decide) (fun K hK => ?_)
  refine goes_ Try.func62 (by kernel_rfl) rfl #[.agg #[.bool a0_0, .slice A0_1 l0_1.length c0_1]] (by rfl) rfl rfl (by (try simp only [List.map_toArray, List.map_cons, List.map_nil]); first | done | rfl | (simp only [List.length_drop, List.length_take]; rfl)) ?_
  with_reducible refine (integer_Norm.calls a0_0 _ _ l0_1 t125 t126 _ ?side1 ?side2 A3.out).mono ?_
  (case side1 => exact Sq.ca (Kd.C_below HR0_1.out HB.out))
  (case side2 => exact HC0_1.out)
  rintro e w91 ⟨v127, rfl, ho0, hb⟩
  refine ⟨_, rfl, ?_⟩
  have HO128 := Aside0.mk (Kd.R_lower ho0 (below_size (Sq.bl HB)))
  replace BK121 := Sq.bb BK121 hb
  replace BK122 := Sq.bb BK122 hb
  replace BK123 := Sq.bb BK123 hb
  replace BK124 := Sq.bb BK124 hb
  replace HB := Sq.bs HB hb
  (try clear hb)
  (try clear hb2)
  (try clear hk)
  (try clear hi)
  (try clear ho0)
  refine hK.out _ _ ⟨(blk_cell BK121.out 0).trans rfl, (blk_cell BK121.out 1).trans rfl, (blk_cell BK122.out 0).trans rfl, (blk_cell BK122.out 1).trans rfl⟩ (fun hHeld => ?_)
  clear hK K
  refine norm_ (a' := ?_) ?_ ?_
  rotate_left
  ·show Act.put _ (some 13) _ = _
   simp only [Act.put, List.setIfInBounds_toArray, List.set_cons_zero, List.set_cons_succ, i64_w, i32_w]
   rfl
  refine one_ (i := 3) (N := some 15) #[true, true, true, true, false, false] rfl rfl (by kernel_rfl) (by decide) (fun K hK => ?_)
  refine goes_ Try.func62 (by kernel_rfl) rfl #[.agg #[.bool a1_0, .slice A1_1 l1_1.length c1_1]] (by rfl) rfl rfl (by (try simp only [List.map_toArray, List.map_cons, List.map_nil]); first | done | rfl | (simp only [List.length_drop, List.length_take]; rfl)) ?_
  with_reducible refine (integer_Norm.calls a1_0 _ _ l1_1 t129 t130 _ ?side1 ?side2 A4.out).mono ?_
  (case side1 => exact Sq.ca (Kd.C_below HR1_1.out HB.out))
  (case side2 => exact HC1_1.out)
  rintro e w92 ⟨v131, rfl, ho0, hb⟩
  refine ⟨_, rfl, ?_⟩
  have HO132 := Aside0.mk (Kd.R_lower (Kd.R_new' ho0 (Kd.R_lt (Sq.al HO128))) (below_size (Sq.bl HB)))
  replace BK121 := Sq.bb BK121 hb
  replace BK122 := Sq.bb BK122 hb
  replace BK123 := Sq.bb BK123 hb
  replace BK124 := Sq.bb BK124 hb
  replace HO128 := Aside0.mk (Kd.R_elder' (Sq.al HO128) (Kd.R_base ho0) hb)
  replace HB := Sq.bs HB hb
  (try clear hb)
  (try clear hb2)
  (try clear hk)
  (try clear hi)
  (try clear ho0)
  obtain ⟨Ao94, co94, eo94⟩ := Kd.R_slice HO128.out
  (first | subst eo94 | (injection eo94 with f1_ f2_ f3_; have f4_ := f1_.symm; have f5_ := f3_.symm; clear f1_ f2_ f3_; subst f4_; subst f5_))
  obtain ⟨Ao97, co97, eo97⟩ := Kd.R_slice HO132.out
  (first | subst eo97 | (injection eo97 with f1_ f2_ f3_; have f4_ := f1_.symm; have f5_ := f3_.symm; clear f1_ f2_ f3_; subst f4_; subst f5_))
  refine hK.out _ _ ⟨(blk_cell BK121.out 0).trans rfl, (blk_cell BK121.out 1).trans rfl, (blk_cell BK122.out 0).trans rfl, (blk_cell BK122.out 1).trans rfl⟩ (fun hHeld => ?_)
  clear hK K
  refine norm_ (a' := ?_) ?_ ?_
  rotate_left
  ·show Act.put _ (some 15) _ = _
   simp only [Act.put, List.setIfInBounds_toArray, List.set_cons_zero, List.set_cons_succ, i64_w, i32_w]
   rfl
  refine last_ (i := 4) (N := none) #[true, true, true, true, true, false] rfl rfl (by kernel_rfl) (by decide) (fun K hK => ?_)
  have hs93 : w92.cell? ⟨gb121, 0, none⟩ = some (.bool a0_0) := (blk_cell BK121.out 0).trans rfl
  have hfs93 := blk_frozen BK121.out 0
  have hns93_1 := NB122_121.out
  have hns93_2 := NB123_121.out
  have hns93_3 := NB124_121.out
  have hms93_1 := NB121_122.out
  have hms93_2 := NB121_123.out
  have hms93_3 := NB121_124.out
  have hs95 : w92.cell? ⟨gb121, 1, none⟩ = some (.slice A0_1 l0_1.length c0_1) := (blk_cell BK121.out 1).trans rfl
  have hfs95 := blk_frozen BK121.out 1
  have hns95_1 := NB122_121.out
  have hns95_2 := NB123_121.out
  have hns95_3 := NB124_121.out
  have hms95_1 := NB121_122.out
  have hms95_2 := NB121_123.out
  have hms95_3 := NB121_124.out
  refine skip_ (w1 := ?_) (by rfl) rfl ?_ ?_
  rotate_left
  ·go_simp
   rfl
  refine hK.out _ _ ?_
  clear hK K
  refine last_ (i := 5) (N := none) #[true, true, true, true, true, true] rfl rfl (by kernel_rfl) (by decide) (fun K hK => ?_)
  have hs96 : w92.cell? ⟨gb122, 0, none⟩ = some (.bool a1_0) := (blk_cell BK122.out 0).trans rfl
  have hfs96 := blk_frozen BK122.out 0
  have hns96_0 := NB121_122.out
  have hns96_2 := NB123_122.out
  have hns96_3 := NB124_122.out
  have hms96_0 := NB122_121.out
  have hms96_2 := NB122_123.out
  have hms96_3 := NB122_124.out
  have hs98 : w92.cell? ⟨gb122, 1, none⟩ = some (.slice A1_1 l1_1.length c1_1) := (blk_cell BK122.out 1).trans rfl
  have hfs98 := blk_frozen BK122.out 1
  have hns98_0 := NB121_122.out
  have hns98_2 := NB123_122.out
  have hns98_3 := NB124_122.out
  have hms98_0 := NB122_121.out
  have hms98_2 := NB122_123.out
  have hms98_3 := NB122_124.out
  refine skip_ (w1 := ?_) (by rfl) rfl ?_ ?_
  rotate_left
  ·go_simp
   rfl
  refine hK.out _ _ ?_
  clear hK K
  refine done_ (by kernel_rfl) ?_
  have n0_ : Aside0 (Kd.R (Kd.int .u32) 107 ((((w92.setCell ⟨gb121, 0, none⟩ (.bool t125)).setCell ⟨gb121, 1, none⟩ (.slice Ao94 t126.length co94)).setCell ⟨gb122, 0, none⟩ (.bool t129)).setCell ⟨gb122, 1, none⟩ (.slice Ao97 t130.length co97)) w.heap.size (fun k_ => some k_ ≠ (.slice Ao97 t130.length co97 : Value).ownBlock) (.slice Ao94 t126.length co94) t126) := ⟨by (with_reducible repeat (first | apply Kd.R_alloc | apply Kd.R_drewN | apply Kd.R_drew)); exact Kd.R_mono (Kd.R_far (p := ⟨gb122, 1, none⟩) (Kd.R_far (p := ⟨gb122, 0, none⟩) (Kd.R_far (p := ⟨gb121, 1, none⟩) (Kd.R_far (p := ⟨gb121, 0, none⟩) (Sq.rt (Sq.rt HO128.out BK121) BK122) (fun _ hk => hk.1.2) (.bool t125)) (fun _ hk => hk.1.2) (.slice Ao94 t126.length co94)) (fun _ hk => hk.2) (.bool t129)) (fun _ hk => hk.2) (.slice Ao97 t130.length co97)) (fun _ hk => hk.1.1.2)⟩
  have n1_ : Aside0 (Kd.R (Kd.int .u32) 107 ((((w92.setCell ⟨gb121, 0, none⟩ (.bool t125)).setCell ⟨gb121, 1, none⟩ (.slice Ao94 t126.length co94)).setCell ⟨gb122, 0, none⟩ (.bool t129)).setCell ⟨gb122, 1, none⟩ (.slice Ao97 t130.length co97)) w.heap.size (fun k_ => some k_ ≠ (.slice Ao94 t126.length co94 : Value).ownBlock) (.slice Ao97 t130.length co97) t130) := ⟨by (with_reducible repeat (first | apply Kd.R_alloc | apply Kd.R_drewN | apply Kd.R_drew)); exact Kd.R_mono (Kd.R_far (p := ⟨gb122, 1, none⟩) (Kd.R_far (p := ⟨gb122, 0, none⟩) (Kd.R_far (p := ⟨gb121, 1, none⟩) (Kd.R_far (p := ⟨gb121, 0, none⟩) (Sq.rt (Sq.rt HO132.out BK121) BK122) (fun _ hk => hk.1.2) (.bool t125)) (fun _ hk => hk.1.2) (.slice Ao94 t126.length co94)) (fun _ hk => hk.2) (.bool t129)) (fun _ hk => hk.2) (.slice Ao97 t130.length co97)) (fun _ hk => hk.1.1.2)⟩
  have n2_ : Aside0 (((((w92.setCell ⟨gb121, 0, none⟩ (.bool t125)).setCell ⟨gb121, 1, none⟩ (.slice Ao94 t126.length co94)).setCell ⟨gb122, 0, none⟩ (.bool t129)).setCell ⟨gb122, 1, none⟩ (.slice Ao97 t130.length co97)).heap[gb121]? = some (.cells #[.bool t125, .slice Ao94 t126.length co94] 39 (0, 0))) := ⟨by (with_reducible repeat (first | refine blk_drewN ?_ _ | refine blk_drew ?_ | refine blk_alloc ?_ _)); refine blk_far ?_ NB121_122.out _; (with_reducible repeat (first | refine blk_drewN ?_ _ | refine blk_drew ?_ | refine blk_alloc ?_ _)); refine blk_far ?_ NB121_122.out _; (with_reducible repeat (first | refine blk_drewN ?_ _ | refine blk_drew ?_ | refine blk_alloc ?_ _)); refine blk_put (cs := #[.bool t125, .slice A0_1 l0_1.length c0_1]) ?_ 1 _ rfl; (with_reducible repeat (first | refine blk_drewN ?_ _ | refine blk_drew ?_ | refine blk_alloc ?_ _)); refine blk_put (cs := #[.bool a0_0, .slice A0_1 l0_1.length c0_1]) ?_ 0 _ rfl; (with_reducible repeat (first | refine blk_drewN ?_ _ | refine blk_drew ?_ | refine blk_alloc ?_ _)); exact BK121.out⟩
  have n3_ : Aside0 (((((w92.setCell ⟨gb121, 0, none⟩ (.bool t125)).setCell ⟨gb121, 1, none⟩ (.slice Ao94 t126.length co94)).setCell ⟨gb122, 0, none⟩ (.bool t129)).setCell ⟨gb122, 1, none⟩ (.slice Ao97 t130.length co97)).heap[gb122]? = some (.cells #[.bool t129, .slice Ao97 t130.length co97] 39 (0, 0))) := ⟨by (with_reducible repeat (first | refine blk_drewN ?_ _ | refine blk_drew ?_ | refine blk_alloc ?_ _)); refine blk_put (cs := #[.bool t129, .slice A1_1 l1_1.length c1_1]) ?_ 1 _ rfl; (with_reducible repeat (first | refine blk_drewN ?_ _ | refine blk_drew ?_ | refine blk_alloc ?_ _)); refine blk_put (cs := #[.bool a1_0, .slice A1_1 l1_1.length c1_1]) ?_ 0 _ rfl; (with_reducible repeat (first | refine blk_drewN ?_ _ | refine blk_drew ?_ | refine blk_alloc ?_ _)); refine blk_far ?_ NB122_121.out _; (with_reducible repeat (first | refine blk_drewN ?_ _ | refine blk_drew ?_ | refine blk_alloc ?_ _)); refine blk_far ?_ NB122_121.out _; (with_reducible repeat (first | refine blk_drewN ?_ _ | refine blk_drew ?_ | refine blk_alloc ?_ _)); exact BK122.out⟩
  have n4_ : Aside0 (((((w92.setCell ⟨gb121, 0, none⟩ (.bool t125)).setCell ⟨gb121, 1, none⟩ (.slice Ao94 t126.length co94)).setCell ⟨gb122, 0, none⟩ (.bool t129)).setCell ⟨gb122, 1, none⟩ (.slice Ao97 t130.length co97)).heap[gb123]? = some (.cells #[.bool false, .slice none 0 0] 39 (0, 0))) := ⟨by (with_reducible repeat (first | refine blk_drewN ?_ _ | refine blk_drew ?_ | refine blk_alloc ?_ _)); refine blk_far ?_ NB123_122.out _; (with_reducible repeat (first | refine blk_drewN ?_ _ | refine blk_drew ?_ | refine blk_alloc ?_ _)); refine blk_far ?_ NB123_122.out _; (with_reducible repeat (first | refine blk_drewN ?_ _ | refine blk_drew ?_ | refine blk_alloc ?_ _)); refine blk_far ?_ NB123_121.out _; (with_reducible repeat (first | refine blk_drewN ?_ _ | refine blk_drew ?_ | refine blk_alloc ?_ _)); refine blk_far ?_ NB123_121.out _; (with_reducible repeat (first | refine blk_drewN ?_ _ | refine blk_drew ?_ | refine blk_alloc ?_ _)); exact BK123.out⟩
  have n5_ : Aside0 (((((w92.setCell ⟨gb121, 0, none⟩ (.bool t125)).setCell ⟨gb121, 1, none⟩ (.slice Ao94 t126.length co94)).setCell ⟨gb122, 0, none⟩ (.bool t129)).setCell ⟨gb122, 1, none⟩ (.slice Ao97 t130.length co97)).heap[gb124]? = some (.cells #[.bool false, .slice none 0 0] 39 (0, 0))) := ⟨by (with_reducible repeat (first | refine blk_drewN ?_ _ | refine blk_drew ?_ | refine blk_alloc ?_ _)); refine blk_far ?_ NB124_122.out _; (with_reducible repeat (first | refine blk_drewN ?_ _ | refine blk_drew ?_ | refine blk_alloc ?_ _)); refine blk_far ?_ NB124_122.out _; (with_reducible repeat (first | refine blk_drewN ?_ _ | refine blk_drew ?_ | refine blk_alloc ?_ _)); refine blk_far ?_ NB124_121.out _; (with_reducible repeat (first | refine blk_drewN ?_ _ | refine blk_drew ?_ | refine blk_alloc ?_ _)); refine blk_far ?_ NB124_121.out _; (with_reducible repeat (first | refine blk_drewN ?_ _ | refine blk_drew ?_ | refine blk_alloc ?_ _)); exact BK124.out⟩
  have n6_ : Aside0 (Below w.heap.size w ((((w92.setCell ⟨gb121, 0, none⟩ (.bool t125)).setCell ⟨gb121, 1, none⟩ (.slice Ao94 t126.length co94)).setCell ⟨gb122, 0, none⟩ (.bool t129)).setCell ⟨gb122, 1, none⟩ (.slice Ao97 t130.length co97))) := ⟨Sq.bl HB⟩
  (try clear HO128)
  (try clear HO132)
  (try clear BK121)
  (try clear BK122)
  (try clear BK123)
  (try clear BK124)
  (try clear HB)
  generalize ((((w92.setCell ⟨gb121, 0, none⟩ (.bool t125)).setCell ⟨gb121, 1, none⟩ (.slice Ao94 t126.length co94)).setCell ⟨gb122, 0, none⟩ (.bool t129)).setCell ⟨gb122, 1, none⟩ (.slice Ao97 t130.length co97)) = w99 at n0_ n1_ n2_ n3_ n4_ n5_ n6_ ⊢
  have HO128 := n0_
  have HO132 := n1_
  have BK121 := n2_
  have BK122 := n3_
  have BK123 := n4_
  have BK124 := n5_
  have HB := n6_
  clear n0_ n1_ n2_ n3_ n4_ n5_ n6_
  have hnb100 := NB121_122.out
  have hnc100 := NB122_121.out
  have hnb101 := NB121_123.out
  have hnc101 := NB123_121.out
  have hnb102 := NB121_124.out
  have hnc102 := NB124_121.out
  have hcz103_0 := Sq.bc BK121 0 (.bool t125)
  have hcz103_1 := Sq.bc BK121 1 (.slice Ao94 t126.length co94)
  have hfz103_0 := blk_frozen BK121.out 0
  have hfz103_1 := blk_frozen BK121.out 1
  have hnb104 := NB122_123.out
  have hnc104 := NB123_122.out
  have hnb105 := NB122_124.out
  have hnc105 := NB124_122.out
  have hcz106_0 := Sq.bc BK122 0 (.bool t129)
  have hcz106_1 := Sq.bc BK122 1 (.slice Ao97 t130.length co97)
  have hfz106_0 := blk_frozen BK122.out 0
  have hfz106_1 := blk_frozen BK122.out 1
  try go_wp2_with (first | ((with_reducible refine gate_callee (f := 31) rfl ?_); refine Sq.gl (some 21) Try.func31 #[.slice Ao94 t126.length co94, .slice Ao97 t130.length co97] ?_; (with_reducible refine (nat_Div.calls (fun k_ => some k_ = (.slice Ao94 t126.length co94 : Value).ownBlock) _ _ t126 (fun k_ => some k_ = (.slice Ao97 t130.length co97 : Value).ownBlock) _ _ t130 t133 t136 t139 _ ?side1 ?side2 A5.out).mono ?_); (case side1 => exact Kd.R_V (Kd.R_tight rfl (Sq.rt (Sq.rt (Sq.rt (Sq.rt (HO128.out) BK121) BK122) BK123) BK124))); (case side2 => exact Kd.R_V (Kd.R_tight rfl (Sq.rt (Sq.rt (Sq.rt (Sq.rt (HO132.out) BK121) BK122) BK123) BK124))); rintro e w107 ⟨v134, v137, rfl, ho0, ho1, hb⟩; refine ⟨_, rfl, ?_⟩; have HO135 := Aside0.mk (Kd.V_lower (Kd.V_mono (ok' := fun k_ => k_ ≠ gb121 ∧ k_ ≠ gb122 ∧ k_ ≠ gb123 ∧ k_ ≠ gb124) ho0 (fun k_ hk_ => ⟨Or.elim hk_ (fun hs_ => Or.elim hs_ (fun hs_ => ((Sq.rt (Sq.rt (Sq.rt (Sq.rt (HO128.out) BK121) BK122) BK123) BK124).1 k_ hs_.symm).1.1.1.2) (fun hs_ => ((Sq.rt (Sq.rt (Sq.rt (Sq.rt (HO132.out) BK121) BK122) BK123) BK124).1 k_ hs_.symm).1.1.1.2)) (fun hn_ => (Sq.fb BK121 k_ hn_)), Or.elim hk_ (fun hs_ => Or.elim hs_ (fun hs_ => ((Sq.rt (Sq.rt (Sq.rt (Sq.rt (HO128.out) BK121) BK122) BK123) BK124).1 k_ hs_.symm).1.1.2) (fun hs_ => ((Sq.rt (Sq.rt (Sq.rt (Sq.rt (HO132.out) BK121) BK122) BK123) BK124).1 k_ hs_.symm).1.1.2)) (fun hn_ => (Sq.fb BK122 k_ hn_)), Or.elim hk_ (fun hs_ => Or.elim hs_ (fun hs_ => ((Sq.rt (Sq.rt (Sq.rt (Sq.rt (HO128.out) BK121) BK122) BK123) BK124).1 k_ hs_.symm).1.2) (fun hs_ => ((Sq.rt (Sq.rt (Sq.rt (Sq.rt (HO132.out) BK121) BK122) BK123) BK124).1 k_ hs_.symm).1.2)) (fun hn_ => (Sq.fb BK123 k_ hn_)), Or.elim hk_ (fun hs_ => Or.elim hs_ (fun hs_ => ((Sq.rt (Sq.rt (Sq.rt (Sq.rt (HO128.out) BK121) BK122) BK123) BK124).1 k_ hs_.symm).2) (fun hs_ => ((Sq.rt (Sq.rt (Sq.rt (Sq.rt (HO132.out) BK121) BK122) BK123) BK124).1 k_ hs_.symm).2)) (fun hn_ => (Sq.fb BK124 k_ hn_))⟩)) (below_size (Sq.bl HB))); have HO138 := Aside0.mk (Kd.V_lower (Kd.V_mono (ok' := fun k_ => k_ ≠ gb121 ∧ k_ ≠ gb122 ∧ k_ ≠ gb123 ∧ k_ ≠ gb124) ho1 (fun k_ hk_ => ⟨Or.elim hk_ (fun hs_ => Or.elim hs_ (fun hs_ => ((Sq.rt (Sq.rt (Sq.rt (Sq.rt (HO128.out) BK121) BK122) BK123) BK124).1 k_ hs_.symm).1.1.1.2) (fun hs_ => ((Sq.rt (Sq.rt (Sq.rt (Sq.rt (HO132.out) BK121) BK122) BK123) BK124).1 k_ hs_.symm).1.1.1.2)) (fun hn_ => (Sq.fb BK121 k_ hn_)), Or.elim hk_ (fun hs_ => Or.elim hs_ (fun hs_ => ((Sq.rt (Sq.rt (Sq.rt (Sq.rt (HO128.out) BK121) BK122) BK123) BK124).1 k_ hs_.symm).1.1.2) (fun hs_ => ((Sq.rt (Sq.rt (Sq.rt (Sq.rt (HO132.out) BK121) BK122) BK123) BK124).1 k_ hs_.symm).1.1.2)) (fun hn_ => (Sq.fb BK122 k_ hn_)), Or.elim hk_ (fun hs_ => Or.elim hs_ (fun hs_ => ((Sq.rt (Sq.rt (Sq.rt (Sq.rt (HO128.out) BK121) BK122) BK123) BK124).1 k_ hs_.symm).1.2) (fun hs_ => ((Sq.rt (Sq.rt (Sq.rt (Sq.rt (HO132.out) BK121) BK122) BK123) BK124).1 k_ hs_.symm).1.2)) (fun hn_ => (Sq.fb BK123 k_ hn_)), Or.elim hk_ (fun hs_ => Or.elim hs_ (fun hs_ => ((Sq.rt (Sq.rt (Sq.rt (Sq.rt (HO128.out) BK121) BK122) BK123) BK124).1 k_ hs_.symm).2) (fun hs_ => ((Sq.rt (Sq.rt (Sq.rt (Sq.rt (HO132.out) BK121) BK122) BK123) BK124).1 k_ hs_.symm).2)) (fun hn_ => (Sq.fb BK124 k_ hn_))⟩)) (below_size (Sq.bl HB))); replace HO128 := Aside0.mk (Kd.R_below (Sq.al HO128) hb); replace HO132 := Aside0.mk (Kd.R_below (Sq.al HO132) hb); replace BK121 := Sq.bb BK121 hb; replace BK122 := Sq.bb BK122 hb; replace BK123 := Sq.bb BK123 hb; replace BK124 := Sq.bb BK124 hb; replace HB := Sq.bs HB hb; (try clear hb); (try clear hb2); (try clear hk); (try clear hi); (try clear ho0); (try clear ho1); have hnb108 := NB123_124.out; have hnc108 := NB124_123.out; have hcz109_0 := Sq.bc BK123 0 (.bool false); have hcz109_1 := Sq.bc BK123 1 (.slice none 0 0); have hfz109_0 := blk_frozen BK123.out 0; have hfz109_1 := blk_frozen BK123.out 1; have hcz110_0 := Sq.bc BK124 0 (.bool false); have hcz110_1 := Sq.bc BK124 1 (.slice none 0 0); have hfz110_0 := blk_frozen BK124.out 0; have hfz110_1 := blk_frozen BK124.out 1))
  refine bodyPost_ret (results_list (rs := [.cell 4 39, .cell 5 39, .tmp 6]) rfl (by simp) (.cell gb123 39 #[.bool false, .slice none 0 0] (0, 0) _ rfl (by (with_reducible repeat (first | refine blk_drewN ?_ _ | refine blk_drew ?_ | refine blk_alloc ?_ _)); refine blk_far ?_ NB123_124.out _; (with_reducible repeat (first | refine blk_drewN ?_ _ | refine blk_drew ?_ | refine blk_alloc ?_ _)); refine blk_far ?_ NB123_124.out _; (with_reducible repeat (first | refine blk_drewN ?_ _ | refine blk_drew ?_ | refine blk_alloc ?_ _)); refine blk_put (cs := #[.bool false, .slice none 0 0]) ?_ 1 _ rfl; (with_reducible repeat (first | refine blk_drewN ?_ _ | refine blk_drew ?_ | refine blk_alloc ?_ _)); refine blk_put (cs := #[.bool false, .slice none 0 0]) ?_ 0 _ rfl; (with_reducible repeat (first | refine blk_drewN ?_ _ | refine blk_drew ?_ | refine blk_alloc ?_ _)); exact BK123.out) Try.underlying39 rfl (by kernel_rfl) (.cell gb124 39 #[.bool false, .slice none 0 0] (0, 0) _ rfl (by (with_reducible repeat (first | refine blk_drewN ?_ _ | refine blk_drew ?_ | refine blk_alloc ?_ _)); refine blk_put (cs := #[.bool false, .slice none 0 0]) ?_ 1 _ rfl; (with_reducible repeat (first | refine blk_drewN ?_ _ | refine blk_drew ?_ | refine blk_alloc ?_ _)); refine blk_put (cs := #[.bool false, .slice none 0 0]) ?_ 0 _ rfl; (with_reducible repeat (first | refine blk_drewN ?_ _ | refine blk_drew ?_ | refine blk_alloc ?_ _)); refine blk_far ?_ NB124_123.out _; (with_reducible repeat (first | refine blk_drewN ?_ _ | refine blk_drew ?_ | refine blk_alloc ?_ _)); refine blk_far ?_ NB124_123.out _; (with_reducible repeat (first | refine blk_drewN ?_ _ | refine blk_drew ?_ | refine blk_alloc ?_ _)); exact BK124.out) Try.underlying39 rfl (by kernel_rfl) (.tmp .nil)))) rfl ?_
  exact ⟨_, _, by first | rfl | (simp [errW_none, errW_some] <;> rfl) | (simp [*, errW_none, errW_some] <;> rfl), by first | exact Kd.R_nil _ _ _ _ _ | exact Kd.N_nil _ _ _ _ _ | exact Kd.V_nil _ _ _ _ _ | exact Kd.Q_nil _ _ _ _ _ | exact Kd.S_nil _ _ _ _ _, by first | exact Kd.R_nil _ _ _ _ _ | exact Kd.N_nil _ _ _ _ _ | exact Kd.V_nil _ _ _ _ _ | exact Kd.Q_nil _ _ _ _ _ | exact Kd.S_nil _ _ _ _ _, Sq.bl HB⟩
end Go.Proofs.Ytaclkccgjpjdjaa.I
