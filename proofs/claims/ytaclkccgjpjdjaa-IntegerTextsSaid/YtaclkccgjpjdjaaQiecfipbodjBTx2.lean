import Derived.Test.YtaclkccgjpjdjaaQaglmdgpoffBTx0
import Derived.Test.YtaclkccgjpjdjaaQnmkjgihdcgBTx1
import Derived.Test.YtaclkccgjpjdjaaQgegcdpflffM
namespace Go.Proofs.Ytaclkccgjpjdjaa.BT
open Go.RowKit Go.Proofs.YtaclkccgjpjdjaaW.PrintWords Go.Proofs.YtaclkccgjpjdjaaW.PrintLast Go.Proofs.YtaclkccgjpjdjaaW.PrintMore
attribute [local go_sem] max2_int min2_int max_two min_two max_three min_three max_four min_four   -- for this text's walks alone
set_option linter.unusedVariables false
set_option linter.unusedSimpArgs false
def foliotlaw02_IntegerTexts.j0 : Nat → ByteArray → Bool → Bool → List Int → Option (Bool)
 | 0, _, _, _, _ => none
 | k + 1, x1, x19, x160000, x160001 => if x19 = true then (some true) else ((integer_Parse.f x1).bind fun bt161 => ((foliotref02_Parse.f x1).bind fun bt167 => ((integer_Print.f x160000 x160001).bind fun t173 => ((integer_Parse.f t173).bind fun bt174 => ((integer_Print.f x160000 x160001).bind fun t180 => ((foliotref02_Print.f x160000 x160001).bind fun t181 => (if t180.toList = t181.toList then ((foliotlaw02_same.f k bt161.1 bt161.2.1 bt167.1 bt167.2.1).bind fun t182 => (if t182 = true then (if bt161.2.2 = bt167.2.2 then (if bt174.2.2 = 0 then ((integer_Norm.f x160000 x160001).bind fun bt183 => ((foliotlaw02_same.f k bt174.1 bt174.2.1 bt183.1 bt183.2).bind fun t187 => (if t187 = true then ((foliotlaw02_awake.f).bind fun t188 => (some t188)) else (none)))) else (none)) else (none)) else (none))) else (none))))))))
def foliotlaw02_IntegerTexts.f (k : Nat) (a0_0 : Bool) (l0_1 : List Int) (a1 : ByteArray) : Option (Bool) := (foliotlaw02_few.f a0_0 l0_1 a0_0 l0_1).bind fun t160 => (if t160 = true then (foliotlaw02_IntegerTexts.j0 k a1 (decide ((a1.size : Int) > 400)) a0_0 l0_1) else (foliotlaw02_IntegerTexts.j0 k a1 true a0_0 l0_1))
def foliotlaw02_IntegerTexts.T6 : Bool × List (List Nat × List Nat) := (true, [([], []), ([0], [0]), ([], []), ([2, 1], [2]), ([1, 3], [1, 3]), ([4, 3], [4]), ([5], [5]), ([5], [5]), ([6, 7, 5, 5], [5, 6, 7]), ([5, 8], [5, 8]), ([9, 8], [9]), ([10], [10]), ([10], [10]), ([11, 12, 10], [10, 11, 12]), ([10, 13], [10, 13]), ([14, 10], [14]), ([15], [15]), ([16, 15], [15, 16]), ([15, 17], [15, 17]), ([18, 15], [18]), ([19], [19]), ([19], [19]), ([21, 19, 19], [19, 21]), ([20, 22, 22, 19], [19, 20, 22]), ([19, 23], [19, 23]), ([24, 23], [24]), ([25, 25], [25]), ([25, 26], [25, 26]), ([27, 26, 0, 1, 2, 3, 4, 5, 6, 7, 8, 9, 10, 11, 12, 13, 14, 15, 16, 17, 18, 19, 20, 21, 22, 23, 24, 25, 26, 27], [27])])
def foliotlaw02_IntegerTexts.B6 : List Nat := [0, 1, 0, 7, 15, 31, 63, 63, 255, 511, 1023, 2047, 2047, 8191, 16383, 32767, 65535, 131071, 262143, 524287, 1048575, 1048575, 3145727, 8388607, 16777215, 33554431, 67108863, 134217727, 268435455]
theorem foliotlaw02_IntegerTexts.tab6 : rtab .any (opsOf Try.f11 6) = foliotlaw02_IntegerTexts.T6 := by kernel_rfl
theorem foliotlaw02_IntegerTexts.bits6 : waitsOk foliotlaw02_IntegerTexts.T6.2 foliotlaw02_IntegerTexts.B6 = true := by kernel_rfl
set_option maxHeartbeats 8000000 in
set_option maxRecDepth 100000 in
theorem foliotlaw02_IntegerTexts.calls (k : Nat) (a0_0 : Bool) (A0_1 : Option Addr) (c0_1 : Nat) (l0_1 : List Int) (a1 : ByteArray) (r : Bool) (w : World) (hr0_1 : Kd.C (Kd.int .u32) w A0_1 l0_1.length l0_1) (hc0_1 : l0_1.length ≤ c0_1) (h : foliotlaw02_IntegerTexts.f k a0_0 l0_1 a1 = some r) :
  Calls Try.prog 11 #[.agg #[.bool a0_0, .slice A0_1 l0_1.length c0_1], .string a1] w fun e w' => e = .returned (.bool r) ∧ Below w.heap.size w w' := by
 have hu39 := Try.underlying39
 have HR0_1 := Aside0.mk hr0_1
 have HC0_1 := Aside0.mk hc0_1
 clear hr0_1 hc0_1
 have HB := Aside0.mk (Below.refl w.heap.size w)
 have H : ((foliotlaw02_few.f a0_0 l0_1 a0_0 l0_1).bind fun t160 => (if t160 = true then (foliotlaw02_IntegerTexts.j0 k a1 (decide ((a1.size : Int) > 400)) a0_0 l0_1) else (foliotlaw02_IntegerTexts.j0 k a1 true a0_0 l0_1))) = some r := h
 clear h
 have HC3 := Aside0.mk H
 clear H
 go_enter Try.func11, Try.ntmps11
 go_upto_region 1 with (first | ((with_reducible refine gate_dst (N := 2) rfl ?_); (try (refine gate_guard (by rfl) ?_; dsimp only)); refine box_event ?hg (N := 2) ?hd (cs := #[.bool a0_0, .slice A0_1 l0_1.length c0_1]) (t := 39) ?hr ?_; (case hd => rfl); (case hg => rfl); (case hr => first | (go_simp; done) | (go_simp; rfl)); intro gb159 hg w4 hbox hb; have BK159 := Aside0.mk (hbox); have GW159 := Sq.gw HB hg; have GE159 := Sq.gw HB hg; replace HB := Sq.bs HB hb; clear hb hbox hg))
 (try simp only [Act.put, List.setIfInBounds_toArray, List.set_cons_zero, List.set_cons_succ])
 go_cut [19] (fun v19 wc => ∃ (kq : Nat) (x19_2 : Bool), v19 = .bool x19_2 ∧ Aside0 (foliotlaw02_IntegerTexts.j0 kq a1 x19_2 a0_0 l0_1 = some r) ∧ Aside0 (kq ≤ k) ∧ Aside0 (wc.heap[gb159]? = some (.cells #[.bool a0_0, (.slice A0_1 l0_1.length c0_1)] 39 (0, 0))) ∧ Aside0 (Below w.heap.size w wc))
 case first =>
  have H := HC3.out
  clear HC3
  replace H := Sq.bd H
  obtain ⟨t160, A5, H⟩ := H
  (try dsimp -simprocs only at H)
  by_cases c6 : t160 = true
  ·subst c6
   have H1 : (foliotlaw02_IntegerTexts.j0 k a1 (decide ((a1.size : Int) > 400)) a0_0 l0_1) = some r := by rw [if_pos rfl] at H; exact H
   clear H
   have H := H1
   clear H1
   have H' := Aside0.mk H
   clear H
   have hcz7_0 := Sq.bc BK159 0 (.bool a0_0)
   have hcz7_1 := Sq.bc BK159 1 (.slice A0_1 l0_1.length c0_1)
   have hfz7_0 := blk_frozen BK159.out 0
   have hfz7_1 := blk_frozen BK159.out 1
   go_wp2_with (first | ((with_reducible refine gate_callee (f := 53) rfl ?_); refine Sq.gl (some 13) Try.func53 #[.agg #[.bool a0_0, .slice A0_1 l0_1.length c0_1], .agg #[.bool a0_0, .slice A0_1 l0_1.length c0_1]] ?_; (with_reducible refine (foliotlaw02_few.calls a0_0 _ _ l0_1 a0_0 _ _ l0_1 true _ ?side1 ?side2 ?side3 ?side4 A5.out).mono ?_); (case side1 => exact Sq.ca (Kd.C_below HR0_1.out HB.out)); (case side2 => exact HC0_1.out); (case side3 => exact Sq.ca (Kd.C_below HR0_1.out HB.out)); (case side4 => exact HC0_1.out); rintro e w8 ⟨rfl, hb⟩; refine ⟨_, rfl, ?_⟩; replace BK159 := Sq.bb BK159 hb; replace HB := Sq.bs HB hb; (try clear hb); (try clear hb2); (try clear hk); (try clear hi)))
   go_meet
   case rel => exact ⟨_, (decide ((a1.size : Int) > 400)), (by first | rfl | (simp; done) | (simp [*]; done)), H', ⟨by first | omega | exact Nat.le_refl _⟩, ⟨by (with_reducible repeat (first | refine blk_drewN ?_ _ | refine blk_drew ?_ | refine blk_alloc ?_ _)); exact BK159.out⟩, ⟨Sq.bl HB⟩⟩
  ·replace c6 := Bool.eq_false_iff.mpr c6
   subst c6
   have H1 : (foliotlaw02_IntegerTexts.j0 k a1 true a0_0 l0_1) = some r := by rw [if_neg (show ¬ (false = true) by decide)] at H; exact H
   clear H
   have H := H1
   clear H1
   have H' := Aside0.mk H
   clear H
   have hcz9_0 := Sq.bc BK159 0 (.bool a0_0)
   have hcz9_1 := Sq.bc BK159 1 (.slice A0_1 l0_1.length c0_1)
   have hfz9_0 := blk_frozen BK159.out 0
   have hfz9_1 := blk_frozen BK159.out 1
   go_wp2_with (first | ((with_reducible refine gate_callee (f := 53) rfl ?_); refine Sq.gl (some 13) Try.func53 #[.agg #[.bool a0_0, .slice A0_1 l0_1.length c0_1], .agg #[.bool a0_0, .slice A0_1 l0_1.length c0_1]] ?_; (with_reducible refine (foliotlaw02_few.calls a0_0 _ _ l0_1 a0_0 _ _ l0_1 false _ ?side1 ?side2 ?side3 ?side4 A5.out).mono ?_); (case side1 => exact Sq.ca (Kd.C_below HR0_1.out HB.out)); (case side2 => exact HC0_1.out); (case side3 => exact Sq.ca (Kd.C_below HR0_1.out HB.out)); (case side4 => exact HC0_1.out); rintro e w10 ⟨rfl, hb⟩; refine ⟨_, rfl, ?_⟩; replace BK159 := Sq.bb BK159 hb; replace HB := Sq.bs HB hb; (try clear hb); (try clear hb2); (try clear hk); (try clear hi)))
   go_meet
   case rel => exact ⟨_, (true), (by first | rfl | (simp; done) | (simp [*]; done)), H', ⟨by first | omega | exact Nat.le_refl _⟩, ⟨by (with_reducible repeat (first | refine blk_drewN ?_ _ | refine blk_drew ?_ | refine blk_alloc ?_ _)); exact BK159.out⟩, ⟨Sq.bl HB⟩⟩
 case rest =>
  clear HC3
  try clear c1
  try clear p2
  try clear c5
  try clear c6
  try clear hcz7_0
  try clear hcz7_1
  try clear hcz9_0
  try clear hcz9_1
  try clear hfz7_0
  try clear hfz7_1
  try clear hfz9_0
  try clear hfz9_1
  obtain ⟨kq, x19_2, rfl, HA, HJ2, BK159, HB⟩ := hcut
  cases kq with
  | zero => exact absurd HA.out (by simp [foliotlaw02_IntegerTexts.j0])
  | succ kj2 =>
   have H := HA.out
   clear HA
   simp only [foliotlaw02_IntegerTexts.j0] at H
   by_cases c11 : x19_2 = true
   ·subst c11
    have H1 : (some true) = some r := by rw [if_pos rfl] at H; exact H
    clear H
    have H := H1
    clear H1
    obtain rfl := Option.some.inj H
    go_wp2
    go_ret
    exact ⟨by first | rfl | (simp [errW_none, errW_some] <;> rfl) | (simp [*, errW_none, errW_some] <;> rfl), Sq.bl HB⟩
   ·replace c11 := Bool.eq_false_iff.mpr c11
    subst c11
    have H1 : ((integer_Parse.f a1).bind fun bt161 => ((foliotref02_Parse.f a1).bind fun bt167 => ((integer_Print.f a0_0 l0_1).bind fun t173 => ((integer_Parse.f t173).bind fun bt174 => ((integer_Print.f a0_0 l0_1).bind fun t180 => ((foliotref02_Print.f a0_0 l0_1).bind fun t181 => (if t180.toList = t181.toList then ((foliotlaw02_same.f kj2 bt161.1 bt161.2.1 bt167.1 bt167.2.1).bind fun t182 => (if t182 = true then (if bt161.2.2 = bt167.2.2 then (if bt174.2.2 = 0 then ((integer_Norm.f a0_0 l0_1).bind fun bt183 => ((foliotlaw02_same.f kj2 bt174.1 bt174.2.1 bt183.1 bt183.2).bind fun t187 => (if t187 = true then ((foliotlaw02_awake.f).bind fun t188 => (some t188)) else (none)))) else (none)) else (none)) else (none))) else (none)))))))) = some r := by rw [if_neg (show ¬ (false = true) by decide)] at H; exact H
    clear H
    have H := H1
    clear H1
    replace H := Sq.bd H
    obtain ⟨⟨t161, t162, t165⟩, A12, H⟩ := H
    (try dsimp -simprocs only at H)
    replace H := Sq.bd H
    obtain ⟨⟨t167, t168, t171⟩, A13, H⟩ := H
    (try dsimp -simprocs only at H)
    replace H := Sq.bd H
    obtain ⟨t173, A14, H⟩ := H
    (try dsimp -simprocs only at H)
    replace H := Sq.bd H
    obtain ⟨⟨t174, t175, t178⟩, A15, H⟩ := H
    (try dsimp -simprocs only at H)
    replace H := Sq.bd H
    obtain ⟨t180, A16, H⟩ := H
    (try dsimp -simprocs only at H)
    replace H := Sq.bd H
    obtain ⟨t181, A17, H⟩ := H
    (try dsimp -simprocs only at H)
    by_cases c18 : t180.toList = t181.toList
    ·rw [if_pos c18] at H
     have c18b0 : (t180.toList == t181.toList) = true := beq_iff_eq.mpr c18
     have c18b1 : (t180.toList != t181.toList) = false := bne_eq_false_iff_eq.mpr c18
     clear c18
     replace H := Sq.bd H
     obtain ⟨t182, A19, H⟩ := H
     (try dsimp -simprocs only at H)
     by_cases c20 : t182 = true
     ·subst c20
      have H1 : (if t165 = t171 then (if t178 = 0 then ((integer_Norm.f a0_0 l0_1).bind fun bt183 => ((foliotlaw02_same.f kj2 t174 t175 bt183.1 bt183.2).bind fun t187 => (if t187 = true then ((foliotlaw02_awake.f).bind fun t188 => (some t188)) else (none)))) else (none)) else (none)) = some r := by rw [if_pos rfl] at H; exact H
      clear H
      have H := H1
      clear H1
      by_cases c21 : t165 = t171
      ·rw [if_pos c21] at H
       have c21b0 : (t165 == t171) = true := beq_iff_eq.mpr c21
       have c21b1 : (t165 != t171) = false := bne_eq_false_iff_eq.mpr c21
       clear c21
       by_cases c22 : t178 = 0
       ·rw [if_pos c22] at H
        have c22b0 : (t178 == 0) = true := beq_iff_eq.mpr c22
        have c22b1 : (t178 != 0) = false := bne_eq_false_iff_eq.mpr c22
        clear c22
        replace H := Sq.bd H
        obtain ⟨⟨t183, t184⟩, A23, H⟩ := H
        (try dsimp -simprocs only at H)
        replace H := Sq.bd H
        obtain ⟨t187, A24, H⟩ := H
        (try dsimp -simprocs only at H)
        by_cases c25 : t187 = true
        ·subst c25
         have H1 : ((foliotlaw02_awake.f).bind fun t188 => (some t188)) = some r := by rw [if_pos rfl] at H; exact H
         clear H
         have H := H1
         clear H1
         replace H := Sq.bd H
         obtain ⟨t188, A26, H⟩ := H
         (try dsimp -simprocs only at H)
         obtain rfl := Option.some.inj H
         try go_wp2_with (first | ((with_reducible refine gate_callee (f := 58) rfl ?_); refine Sq.gl (some 22) Try.func58 #[.string a1] ?_; (with_reducible refine (integer_Parse.calls a1 t161 t162 t165 _ A12.out).mono ?_); rintro e w27 ⟨v163, rfl, ho0, hb⟩; refine ⟨_, rfl, ?_⟩; have HO164 := Aside0.mk (Kd.R_lower ho0 (below_size (Sq.bl HB))); replace BK159 := Sq.bb BK159 hb; replace HB := Sq.bs HB hb; (try clear hb); (try clear hb2); (try clear hk); (try clear hi); (try clear ho0)) | ((with_reducible refine gate_dst (N := 5) rfl ?_); (try (refine gate_guard (by rfl) ?_; dsimp only)); refine box_event ?hg (N := 5) ?hd (cs := #[.bool false, .slice none 0 0]) (t := 39) ?hr ?_; (case hd => rfl); (case hg => rfl); (case hr => first | (go_simp; done) | (go_simp; rfl)); intro gb166 hg w28 hbox hb; replace HO164 := Aside0.mk (Kd.R_below (Sq.al HO164) hb); have BK166 := Aside0.mk (hbox); have GW166 := Sq.gw HB hg; have GE166 := Sq.gw HB hg; have NB159_166 := Sq.nl BK159 hg; have NB166_159 := Sq.ng BK159 hg; replace BK159 := Sq.bb BK159 hb; replace HB := Sq.bs HB hb; clear hb hbox hg; have hnb29 := NB166_159.out; have hnc29 := NB159_166.out; have hcz30_0 := Sq.bc BK166 0 (.bool false); have hcz30_1 := Sq.bc BK166 1 (.slice none 0 0); have hfz30_0 := blk_frozen BK166.out 0; have hfz30_1 := blk_frozen BK166.out 1; obtain ⟨Ao31, co31, eo31⟩ := Kd.R_slice HO164.out; subst eo31) | ((with_reducible refine gate_callee (f := 59) rfl ?_); refine Sq.gl (some 27) Try.func59 #[.string a1] ?_; (with_reducible refine (foliotref02_Parse.calls a1 t167 t168 t171 _ A13.out).mono ?_); rintro e w32 ⟨v169, rfl, ho0, hb⟩; refine ⟨_, rfl, ?_⟩; have HO170 := Aside0.mk (Kd.R_lower (Kd.R_new' ho0 (Kd.R_lt (by (with_reducible repeat (first | apply Kd.R_alloc | apply Kd.R_drewN | apply Kd.R_drew)); exact (Kd.R_mono (Kd.R_far (p := ⟨gb166, 1, none⟩) (Kd.R_far (p := ⟨gb166, 0, none⟩) (Sq.rt HO164.out BK166) (fun _ hk => hk.2) (.bool t161)) (fun _ hk => hk.2) (.slice Ao31 t162.length co31)) (fun _ h_ => h_.1))))) (below_size (Sq.bl HB))); replace BK159 := Aside0.mk (blk_below (g := gb159) (o := .cells #[.bool a0_0, .slice A0_1 l0_1.length c0_1] 39 (0, 0)) (by (with_reducible repeat (first | refine blk_drewN ?_ _ | refine blk_drew ?_ | refine blk_alloc ?_ _)); refine blk_far ?_ NB159_166.out _; (with_reducible repeat (first | refine blk_drewN ?_ _ | refine blk_drew ?_ | refine blk_alloc ?_ _)); refine blk_far ?_ NB159_166.out _; (with_reducible repeat (first | refine blk_drewN ?_ _ | refine blk_drew ?_ | refine blk_alloc ?_ _)); exact BK159.out) hb); replace HO164 := Aside0.mk (Kd.R_elder' (by (with_reducible repeat (first | apply Kd.R_alloc | apply Kd.R_drewN | apply Kd.R_drew)); exact (Kd.R_mono (Kd.R_far (p := ⟨gb166, 1, none⟩) (Kd.R_far (p := ⟨gb166, 0, none⟩) (Sq.rt HO164.out BK166) (fun _ hk => hk.2) (.bool t161)) (fun _ hk => hk.2) (.slice Ao31 t162.length co31)) (fun _ h_ => h_.1))) (Kd.R_base ho0) hb); replace HB := Sq.bs HB hb; replace BK166 := Aside0.mk (blk_below (g := gb166) (o := .cells #[.bool t161, .slice Ao31 t162.length co31] 39 (0, 0)) (by (with_reducible repeat (first | refine blk_drewN ?_ _ | refine blk_drew ?_ | refine blk_alloc ?_ _)); refine blk_put (cs := #[.bool t161, .slice none 0 0]) ?_ 1 _ rfl; (with_reducible repeat (first | refine blk_drewN ?_ _ | refine blk_drew ?_ | refine blk_alloc ?_ _)); refine blk_put (cs := #[.bool false, .slice none 0 0]) ?_ 0 _ rfl; (with_reducible repeat (first | refine blk_drewN ?_ _ | refine blk_drew ?_ | refine blk_alloc ?_ _)); exact BK166.out) hb); (try clear hb); (try clear hb2); (try clear hk); (try clear hi); (try clear ho0)) | ((with_reducible refine gate_dst (N := 7) rfl ?_); (try (refine gate_guard (by rfl) ?_; dsimp only)); refine box_event ?hg (N := 7) ?hd (cs := #[.bool false, .slice none 0 0]) (t := 39) ?hr ?_; (case hd => rfl); (case hg => rfl); (case hr => first | (go_simp; done) | (go_simp; rfl)); intro gb172 hg w33 hbox hb; replace HO164 := Aside0.mk (Kd.R_below (Sq.al HO164) hb); replace HO170 := Aside0.mk (Kd.R_below (Sq.al HO170) hb); have BK172 := Aside0.mk (hbox); have GW172 := Sq.gw HB hg; have GE172 := Sq.gw HB hg; have NB159_172 := Sq.nl BK159 hg; have NB172_159 := Sq.ng BK159 hg; have NB166_172 := Sq.nl BK166 hg; have NB172_166 := Sq.ng BK166 hg; replace BK159 := Sq.bb BK159 hb; replace BK166 := Sq.bb BK166 hb; replace HB := Sq.bs HB hb; clear hb hbox hg; have hnb34 := NB172_159.out; have hnc34 := NB159_172.out; have hnb35 := NB172_166.out; have hnc35 := NB166_172.out; have hcz36_0 := Sq.bc BK172 0 (.bool false); have hcz36_1 := Sq.bc BK172 1 (.slice none 0 0); have hfz36_0 := blk_frozen BK172.out 0; have hfz36_1 := blk_frozen BK172.out 1; obtain ⟨Ao37, co37, eo37⟩ := Kd.R_slice HO170.out; subst eo37; have hcz38_0 := Sq.bc BK159 0 (.bool a0_0); have hcz38_1 := Sq.bc BK159 1 (.slice A0_1 l0_1.length c0_1); have hfz38_0 := blk_frozen BK159.out 0; have hfz38_1 := blk_frozen BK159.out 1) | ((with_reducible refine gate_callee (f := 60) rfl ?_); refine Sq.gl (some 32) Try.func60 #[.agg #[.bool a0_0, .slice A0_1 l0_1.length c0_1]] ?_; (with_reducible refine (integer_Print.calls a0_0 _ _ l0_1 t173 _ ?side1 ?side2 A14.out).mono ?_); (case side1 => exact Kd.C_below HR0_1.out (Sq.bl HB)); (case side2 => exact HC0_1.out); rintro e w39 ⟨rfl, hb⟩; refine ⟨_, rfl, ?_⟩; replace HO164 := Aside0.mk (Kd.R_below (by (with_reducible repeat (first | apply Kd.R_alloc | apply Kd.R_drewN | apply Kd.R_drew)); exact (Kd.R_mono (Kd.R_far (p := ⟨gb172, 1, none⟩) (Kd.R_far (p := ⟨gb172, 0, none⟩) (Sq.rt HO164.out BK172) (fun _ hk => hk.2) (.bool t167)) (fun _ hk => hk.2) (.slice Ao37 t168.length co37)) (fun _ h_ => h_.1))) hb); replace HO170 := Aside0.mk (Kd.R_below (by (with_reducible repeat (first | apply Kd.R_alloc | apply Kd.R_drewN | apply Kd.R_drew)); exact (Kd.R_mono (Kd.R_far (p := ⟨gb172, 1, none⟩) (Kd.R_far (p := ⟨gb172, 0, none⟩) (Sq.rt HO170.out BK172) (fun _ hk => hk.2) (.bool t167)) (fun _ hk => hk.2) (.slice Ao37 t168.length co37)) (fun _ h_ => h_.1))) hb); replace BK159 := Aside0.mk (blk_below (g := gb159) (o := .cells #[.bool a0_0, .slice A0_1 l0_1.length c0_1] 39 (0, 0)) (by (with_reducible repeat (first | refine blk_drewN ?_ _ | refine blk_drew ?_ | refine blk_alloc ?_ _)); refine blk_far ?_ NB159_172.out _; (with_reducible repeat (first | refine blk_drewN ?_ _ | refine blk_drew ?_ | refine blk_alloc ?_ _)); refine blk_far ?_ NB159_172.out _; (with_reducible repeat (first | refine blk_drewN ?_ _ | refine blk_drew ?_ | refine blk_alloc ?_ _)); exact BK159.out) hb); replace BK166 := Aside0.mk (blk_below (g := gb166) (o := .cells #[.bool t161, .slice Ao31 t162.length co31] 39 (0, 0)) (by (with_reducible repeat (first | refine blk_drewN ?_ _ | refine blk_drew ?_ | refine blk_alloc ?_ _)); refine blk_far ?_ NB166_172.out _; (with_reducible repeat (first | refine blk_drewN ?_ _ | refine blk_drew ?_ | refine blk_alloc ?_ _)); refine blk_far ?_ NB166_172.out _; (with_reducible repeat (first | refine blk_drewN ?_ _ | refine blk_drew ?_ | refine blk_alloc ?_ _)); exact BK166.out) hb); replace HB := Sq.bs HB hb; replace BK172 := Aside0.mk (blk_below (g := gb172) (o := .cells #[.bool t167, .slice Ao37 t168.length co37] 39 (0, 0)) (by (with_reducible repeat (first | refine blk_drewN ?_ _ | refine blk_drew ?_ | refine blk_alloc ?_ _)); refine blk_put (cs := #[.bool t167, .slice none 0 0]) ?_ 1 _ rfl; (with_reducible repeat (first | refine blk_drewN ?_ _ | refine blk_drew ?_ | refine blk_alloc ?_ _)); refine blk_put (cs := #[.bool false, .slice none 0 0]) ?_ 0 _ rfl; (with_reducible repeat (first | refine blk_drewN ?_ _ | refine blk_drew ?_ | refine blk_alloc ?_ _)); exact BK172.out) hb); (try clear hb); (try clear hb2); (try clear hk); (try clear hi)) | ((with_reducible refine gate_callee (f := 58) rfl ?_); refine Sq.gl (some 33) Try.func58 #[.string t173] ?_; (with_reducible refine (integer_Parse.calls t173 t174 t175 t178 _ A15.out).mono ?_); rintro e w40 ⟨v176, rfl, ho0, hb⟩; refine ⟨_, rfl, ?_⟩; have HO177 := Aside0.mk (Kd.R_lower (Kd.R_new' (Kd.R_new' ho0 (Kd.R_lt (Sq.al HO164))) (Kd.R_lt (Sq.al HO170))) (below_size (Sq.bl HB))); replace BK159 := Sq.bb BK159 hb; replace BK166 := Sq.bb BK166 hb; replace BK172 := Sq.bb BK172 hb; replace HO164 := Aside0.mk (Kd.R_elder' (Sq.al HO164) (Kd.R_base ho0) hb); replace HO170 := Aside0.mk (Kd.R_elder' (Sq.al HO170) (Kd.R_base ho0) hb); replace HB := Sq.bs HB hb; (try clear hb); (try clear hb2); (try clear hk); (try clear hi); (try clear ho0)) | ((with_reducible refine gate_dst (N := 9) rfl ?_); (try (refine gate_guard (by rfl) ?_; dsimp only)); refine box_event ?hg (N := 9) ?hd (cs := #[.bool false, .slice none 0 0]) (t := 39) ?hr ?_; (case hd => rfl); (case hg => rfl); (case hr => first | (go_simp; done) | (go_simp; rfl)); intro gb179 hg w41 hbox hb; replace HO164 := Aside0.mk (Kd.R_below (Sq.al HO164) hb); replace HO170 := Aside0.mk (Kd.R_below (Sq.al HO170) hb); replace HO177 := Aside0.mk (Kd.R_below (Sq.al HO177) hb); have BK179 := Aside0.mk (hbox); have GW179 := Sq.gw HB hg; have GE179 := Sq.gw HB hg; have NB159_179 := Sq.nl BK159 hg; have NB179_159 := Sq.ng BK159 hg; have NB166_179 := Sq.nl BK166 hg; have NB179_166 := Sq.ng BK166 hg; have NB172_179 := Sq.nl BK172 hg; have NB179_172 := Sq.ng BK172 hg; replace BK159 := Sq.bb BK159 hb; replace BK166 := Sq.bb BK166 hb; replace BK172 := Sq.bb BK172 hb; replace HB := Sq.bs HB hb; clear hb hbox hg; have hnb42 := NB179_159.out; have hnc42 := NB159_179.out; have hnb43 := NB179_166.out; have hnc43 := NB166_179.out; have hnb44 := NB179_172.out; have hnc44 := NB172_179.out; have hcz45_0 := Sq.bc BK179 0 (.bool false); have hcz45_1 := Sq.bc BK179 1 (.slice none 0 0); have hfz45_0 := blk_frozen BK179.out 0; have hfz45_1 := blk_frozen BK179.out 1; obtain ⟨Ao46, co46, eo46⟩ := Kd.R_slice HO177.out; subst eo46))
         have n0_ : Aside0 (Kd.R (Kd.int .u32) 107 ((w41.setCell ⟨gb179, 0, none⟩ (.bool t174)).setCell ⟨gb179, 1, none⟩ (.slice Ao46 t175.length co46)) w.heap.size (fun k_ => some k_ ≠ (.slice Ao37 t168.length co37 : Value).ownBlock ∧ some k_ ≠ (.slice Ao46 t175.length co46 : Value).ownBlock) (.slice Ao31 t162.length co31) t162) := ⟨by (with_reducible repeat (first | apply Kd.R_alloc | apply Kd.R_drewN | apply Kd.R_drew)); exact Kd.R_mono (Kd.R_far (p := ⟨gb179, 1, none⟩) (Kd.R_far (p := ⟨gb179, 0, none⟩) (Sq.rt HO164.out BK179) (fun _ hk => hk.2) (.bool t174)) (fun _ hk => hk.2) (.slice Ao46 t175.length co46)) (fun _ hk => ⟨hk.1.1.2, hk.1.2⟩)⟩
         have n1_ : Aside0 (Kd.R (Kd.int .u32) 107 ((w41.setCell ⟨gb179, 0, none⟩ (.bool t174)).setCell ⟨gb179, 1, none⟩ (.slice Ao46 t175.length co46)) w.heap.size (fun k_ => some k_ ≠ (.slice Ao31 t162.length co31 : Value).ownBlock ∧ some k_ ≠ (.slice Ao46 t175.length co46 : Value).ownBlock) (.slice Ao37 t168.length co37) t168) := ⟨by (with_reducible repeat (first | apply Kd.R_alloc | apply Kd.R_drewN | apply Kd.R_drew)); exact Kd.R_mono (Kd.R_far (p := ⟨gb179, 1, none⟩) (Kd.R_far (p := ⟨gb179, 0, none⟩) (Sq.rt HO170.out BK179) (fun _ hk => hk.2) (.bool t174)) (fun _ hk => hk.2) (.slice Ao46 t175.length co46)) (fun _ hk => ⟨hk.1.1.2, hk.1.2⟩)⟩
         have n2_ : Aside0 (Kd.R (Kd.int .u32) 107 ((w41.setCell ⟨gb179, 0, none⟩ (.bool t174)).setCell ⟨gb179, 1, none⟩ (.slice Ao46 t175.length co46)) w.heap.size (fun k_ => some k_ ≠ (.slice Ao31 t162.length co31 : Value).ownBlock ∧ some k_ ≠ (.slice Ao37 t168.length co37 : Value).ownBlock) (.slice Ao46 t175.length co46) t175) := ⟨by (with_reducible repeat (first | apply Kd.R_alloc | apply Kd.R_drewN | apply Kd.R_drew)); exact Kd.R_mono (Kd.R_far (p := ⟨gb179, 1, none⟩) (Kd.R_far (p := ⟨gb179, 0, none⟩) (Sq.rt HO177.out BK179) (fun _ hk => hk.2) (.bool t174)) (fun _ hk => hk.2) (.slice Ao46 t175.length co46)) (fun _ hk => ⟨hk.1.1.2, hk.1.2⟩)⟩
         have n3_ : Aside0 (((w41.setCell ⟨gb179, 0, none⟩ (.bool t174)).setCell ⟨gb179, 1, none⟩ (.slice Ao46 t175.length co46)).heap[gb159]? = some (.cells #[.bool a0_0, .slice A0_1 l0_1.length c0_1] 39 (0, 0))) := ⟨by (with_reducible repeat (first | refine blk_drewN ?_ _ | refine blk_drew ?_ | refine blk_alloc ?_ _)); refine blk_far ?_ NB159_179.out _; (with_reducible repeat (first | refine blk_drewN ?_ _ | refine blk_drew ?_ | refine blk_alloc ?_ _)); refine blk_far ?_ NB159_179.out _; (with_reducible repeat (first | refine blk_drewN ?_ _ | refine blk_drew ?_ | refine blk_alloc ?_ _)); exact BK159.out⟩
         have n4_ : Aside0 (((w41.setCell ⟨gb179, 0, none⟩ (.bool t174)).setCell ⟨gb179, 1, none⟩ (.slice Ao46 t175.length co46)).heap[gb166]? = some (.cells #[.bool t161, .slice Ao31 t162.length co31] 39 (0, 0))) := ⟨by (with_reducible repeat (first | refine blk_drewN ?_ _ | refine blk_drew ?_ | refine blk_alloc ?_ _)); refine blk_far ?_ NB166_179.out _; (with_reducible repeat (first | refine blk_drewN ?_ _ | refine blk_drew ?_ | refine blk_alloc ?_ _)); refine blk_far ?_ NB166_179.out _; (with_reducible repeat (first | refine blk_drewN ?_ _ | refine blk_drew ?_ | refine blk_alloc ?_ _)); exact BK166.out⟩
         have n5_ : Aside0 (((w41.setCell ⟨gb179, 0, none⟩ (.bool t174)).setCell ⟨gb179, 1, none⟩ (.slice Ao46 t175.length co46)).heap[gb172]? = some (.cells #[.bool t167, .slice Ao37 t168.length co37] 39 (0, 0))) := ⟨by (with_reducible repeat (first | refine blk_drewN ?_ _ | refine blk_drew ?_ | refine blk_alloc ?_ _)); refine blk_far ?_ NB172_179.out _; (with_reducible repeat (first | refine blk_drewN ?_ _ | refine blk_drew ?_ | refine blk_alloc ?_ _)); refine blk_far ?_ NB172_179.out _; (with_reducible repeat (first | refine blk_drewN ?_ _ | refine blk_drew ?_ | refine blk_alloc ?_ _)); exact BK172.out⟩
         have n6_ : Aside0 (((w41.setCell ⟨gb179, 0, none⟩ (.bool t174)).setCell ⟨gb179, 1, none⟩ (.slice Ao46 t175.length co46)).heap[gb179]? = some (.cells #[.bool t174, .slice Ao46 t175.length co46] 39 (0, 0))) := ⟨by (with_reducible repeat (first | refine blk_drewN ?_ _ | refine blk_drew ?_ | refine blk_alloc ?_ _)); refine blk_put (cs := #[.bool t174, .slice none 0 0]) ?_ 1 _ rfl; (with_reducible repeat (first | refine blk_drewN ?_ _ | refine blk_drew ?_ | refine blk_alloc ?_ _)); refine blk_put (cs := #[.bool false, .slice none 0 0]) ?_ 0 _ rfl; (with_reducible repeat (first | refine blk_drewN ?_ _ | refine blk_drew ?_ | refine blk_alloc ?_ _)); exact BK179.out⟩
         have n7_ : Aside0 (Below w.heap.size w ((w41.setCell ⟨gb179, 0, none⟩ (.bool t174)).setCell ⟨gb179, 1, none⟩ (.slice Ao46 t175.length co46))) := ⟨Sq.bl HB⟩
         (try clear HO164)
         (try clear HO170)
         (try clear HO177)
         (try clear BK159)
         (try clear BK166)
         (try clear BK172)
         (try clear BK179)
         (try clear HB)
         generalize ((w41.setCell ⟨gb179, 0, none⟩ (.bool t174)).setCell ⟨gb179, 1, none⟩ (.slice Ao46 t175.length co46)) = w47 at n0_ n1_ n2_ n3_ n4_ n5_ n6_ n7_ ⊢
         have HO164 := n0_
         have HO170 := n1_
         have HO177 := n2_
         have BK159 := n3_
         have BK166 := n4_
         have BK172 := n5_
         have BK179 := n6_
         have HB := n7_
         clear n0_ n1_ n2_ n3_ n4_ n5_ n6_ n7_
         replace HO164 := Aside0.mk (Kd.R_drew HO164.out)
         replace HO170 := Aside0.mk (Kd.R_drew HO170.out)
         replace HO177 := Aside0.mk (Kd.R_drew HO177.out)
         replace BK159 := Aside0.mk (blk_drew BK159.out)
         replace BK166 := Aside0.mk (blk_drew BK166.out)
         replace BK172 := Aside0.mk (blk_drew BK172.out)
         replace BK179 := Aside0.mk (blk_drew BK179.out)
         replace HB := Aside0.mk (below_drew1 HB.out)
         refine start_ (n := 29) (S := fun w' => w'.cell? ⟨gb159, 0, none⟩ = some (.bool a0_0) ∧ w'.cell? ⟨gb159, 1, none⟩ = some (.slice A0_1 l0_1.length c0_1) ∧ w'.cell? ⟨gb166, 0, none⟩ = some (.bool t161) ∧ w'.cell? ⟨gb166, 1, none⟩ = some (.slice Ao31 t162.length co31) ∧ w'.cell? ⟨gb172, 0, none⟩ = some (.bool t167) ∧ w'.cell? ⟨gb172, 1, none⟩ = some (.slice Ao37 t168.length co37) ∧ w'.cell? ⟨gb179, 0, none⟩ = some (.bool t174) ∧ w'.cell? ⟨gb179, 1, none⟩ = some (.slice Ao46 t175.length co46)) (ds := []) #[false, false, false, false, false, false, false, false, false, false, false, false, false, false, false, false, false, false, false, false, false, false, false, false, false, false, false, false, false] (by kernel_rfl) rfl rfl ⟨(blk_cell BK159.out 0).trans rfl, (blk_cell BK159.out 1).trans rfl, (blk_cell BK166.out 0).trans rfl, (blk_cell BK166.out 1).trans rfl, (blk_cell BK172.out 0).trans rfl, (blk_cell BK172.out 1).trans rfl, (blk_cell BK179.out 0).trans rfl, (blk_cell BK179.out 1).trans rfl⟩ (fun hHeld => ?_); refine with_tabW foliotlaw02_IntegerTexts.tab6 foliotlaw02_IntegerTexts.bits6 (fun HT_ HW_ => ?_)
         generalize w47.drew = w48 at HO164 HO170 HO177 BK159 BK166 BK172 BK179 HB hHeld ⊢
         refine Sq.tk (v := ?_) (a' := ?_) 0 (some 36) #[true, false, false, false, false, false, false, false, false, false, false, false, false, false, false, false, false, false, false, false, false, false, false, false, false, false, false, false, false] HT_ HW_ hHeld ?_ ?_ ?_
         rotate_left
         ·rintro w' ⟨s0, s1, s2, s3, s4, s5, s6, s7⟩
          go_simp
          with_reducible rfl
         rotate_left
         ·simp only [Act.put, List.setIfInBounds_toArray, List.set_cons_zero, List.set_cons_succ, i64_w, i32_w]
          rfl
         refine Sq.tk (v := ?_) (a' := ?_) 2 (some 38) #[true, false, true, false, false, false, false, false, false, false, false, false, false, false, false, false, false, false, false, false, false, false, false, false, false, false, false, false, false] HT_ HW_ hHeld ?_ ?_ ?_
         rotate_left
         ·rintro w' ⟨s0, s1, s2, s3, s4, s5, s6, s7⟩
          go_simp
          with_reducible rfl
         rotate_left
         ·simp only [Act.put, List.setIfInBounds_toArray, List.set_cons_zero, List.set_cons_succ, i64_w, i32_w]
          rfl
         refine one_ (i := 1) (N := some 37) #[true, true, true, false, false, false, false, false, false, false, false, false, false, false, false, false, false, false, false, false, false, false, false, false, false, false, false, false, false] rfl rfl (one_of HT_.out (by kernel_rfl)) (by decide) (fun K hK => ?_)
         refine goes_ Try.func60 (by kernel_rfl) rfl #[.agg #[.bool a0_0, .slice A0_1 l0_1.length c0_1]] (by rfl) rfl rfl (by (try simp only [List.map_toArray, List.map_cons, List.map_nil]); first | done | rfl | (simp only [List.length_drop, List.length_take]; rfl)) ?_
         with_reducible refine (integer_Print.calls a0_0 _ _ l0_1 t180 _ ?side1 ?side2 A16.out).mono ?_
         (case side1 => exact Sq.ca (Kd.C_below HR0_1.out HB.out))
         (case side2 => exact HC0_1.out)
         rintro e w49 ⟨rfl, hb⟩
         refine ⟨_, rfl, ?_⟩
         replace HO164 := Aside0.mk (Kd.R_below (Sq.al HO164) hb)
         replace HO170 := Aside0.mk (Kd.R_below (Sq.al HO170) hb)
         replace HO177 := Aside0.mk (Kd.R_below (Sq.al HO177) hb)
         replace BK159 := Sq.bb BK159 hb
         replace BK166 := Sq.bb BK166 hb
         replace BK172 := Sq.bb BK172 hb
         replace BK179 := Sq.bb BK179 hb
         replace HB := Sq.bs HB hb
         (try clear hb)
         (try clear hb2)
         (try clear hk)
         (try clear hi)
         refine hK.out _ _ ⟨(blk_cell BK159.out 0).trans rfl, (blk_cell BK159.out 1).trans rfl, (blk_cell BK166.out 0).trans rfl, (blk_cell BK166.out 1).trans rfl, (blk_cell BK172.out 0).trans rfl, (blk_cell BK172.out 1).trans rfl, (blk_cell BK179.out 0).trans rfl, (blk_cell BK179.out 1).trans rfl⟩ (fun hHeld => ?_)
         clear hK K
         refine norm_ (a' := ?_) ?_ ?_
         rotate_left
         ·show Act.put _ (some 37) _ = _
          simp only [Act.put, List.setIfInBounds_toArray, List.set_cons_zero, List.set_cons_succ, i64_w, i32_w]
          rfl
         refine one_ (i := 3) (N := some 39) #[true, true, true, true, false, false, false, false, false, false, false, false, false, false, false, false, false, false, false, false, false, false, false, false, false, false, false, false, false] rfl rfl (one_of HT_.out (by kernel_rfl)) (by decide) (fun K hK => ?_)
         refine goes_ Try.func61 (by kernel_rfl) rfl #[.agg #[.bool a0_0, .slice A0_1 l0_1.length c0_1]] (by rfl) rfl rfl (by (try simp only [List.map_toArray, List.map_cons, List.map_nil]); first | done | rfl | (simp only [List.length_drop, List.length_take]; rfl)) ?_
         with_reducible refine (foliotref02_Print.calls a0_0 _ _ l0_1 t181 _ ?side1 ?side2 A17.out).mono ?_
         (case side1 => exact Sq.ca (Kd.C_below HR0_1.out HB.out))
         (case side2 => exact HC0_1.out)
         rintro e w50 ⟨rfl, hb⟩
         refine ⟨_, rfl, ?_⟩
         replace HO164 := Aside0.mk (Kd.R_below (Sq.al HO164) hb)
         replace HO170 := Aside0.mk (Kd.R_below (Sq.al HO170) hb)
         replace HO177 := Aside0.mk (Kd.R_below (Sq.al HO177) hb)
         replace BK159 := Sq.bb BK159 hb
         replace BK166 := Sq.bb BK166 hb
         replace BK172 := Sq.bb BK172 hb
         replace BK179 := Sq.bb BK179 hb
         replace HB := Sq.bs HB hb
         (try clear hb)
         (try clear hb2)
         (try clear hk)
         (try clear hi)
         refine hK.out _ _ ⟨(blk_cell BK159.out 0).trans rfl, (blk_cell BK159.out 1).trans rfl, (blk_cell BK166.out 0).trans rfl, (blk_cell BK166.out 1).trans rfl, (blk_cell BK172.out 0).trans rfl, (blk_cell BK172.out 1).trans rfl, (blk_cell BK179.out 0).trans rfl, (blk_cell BK179.out 1).trans rfl⟩ (fun hHeld => ?_)
         clear hK K
         refine norm_ (a' := ?_) ?_ ?_
         rotate_left
         ·show Act.put _ (some 39) _ = _
          simp only [Act.put, List.setIfInBounds_toArray, List.set_cons_zero, List.set_cons_succ, i64_w, i32_w]
          rfl
         refine Sq.pu (v := ?_) (a' := ?_) 4 (some 40) #[true, true, true, true, true, false, false, false, false, false, false, false, false, false, false, false, false, false, false, false, false, false, false, false, false, false, false, false, false] HT_ ?_ ?_ ?_
         rotate_left
         ·intro w'
          go_simp
          with_reducible rfl
         rotate_left
         ·simp only [Act.put, List.setIfInBounds_toArray, List.set_cons_zero, List.set_cons_succ, i64_w, i32_w]
          rfl
         refine Sq.pu (v := ?_) (a' := ?_) 5 (some 41) #[true, true, true, true, true, true, false, false, false, false, false, false, false, false, false, false, false, false, false, false, false, false, false, false, false, false, false, false, false] HT_ ?_ ?_ ?_
         rotate_left
         ·intro w'
          go_simp
          with_reducible rfl
         rotate_left
         ·simp only [Act.put, List.setIfInBounds_toArray, List.set_cons_zero, List.set_cons_succ, i64_w, i32_w]
          rfl
         refine Sq.tk (v := ?_) (a' := ?_) 6 (some 42) #[true, true, true, true, true, true, true, false, false, false, false, false, false, false, false, false, false, false, false, false, false, false, false, false, false, false, false, false, false] HT_ HW_ hHeld ?_ ?_ ?_
         rotate_left
         ·rintro w' ⟨s0, s1, s2, s3, s4, s5, s6, s7⟩
          go_simp
          with_reducible rfl
         rotate_left
         ·simp only [Act.put, List.setIfInBounds_toArray, List.set_cons_zero, List.set_cons_succ, i64_w, i32_w]
          rfl
         refine Sq.tk (v := ?_) (a' := ?_) 7 (some 43) #[true, true, true, true, true, true, true, true, false, false, false, false, false, false, false, false, false, false, false, false, false, false, false, false, false, false, false, false, false] HT_ HW_ hHeld ?_ ?_ ?_
         rotate_left
         ·rintro w' ⟨s0, s1, s2, s3, s4, s5, s6, s7⟩
          go_simp
          with_reducible rfl
         rotate_left
         ·simp only [Act.put, List.setIfInBounds_toArray, List.set_cons_zero, List.set_cons_succ, i64_w, i32_w]
          rfl
         refine one_ (i := 8) (N := some 44) #[true, true, true, true, true, true, true, true, true, false, false, false, false, false, false, false, false, false, false, false, false, false, false, false, false, false, false, false, false] rfl rfl (one_of HT_.out (by kernel_rfl)) (by decide) (fun K hK => ?_)
         refine goes_ Try.func56 (by kernel_rfl) rfl #[.agg #[.bool t161, .slice Ao31 t162.length co31], .agg #[.bool t167, .slice Ao37 t168.length co37]] (by rfl) rfl rfl (by (try simp only [List.map_toArray, List.map_cons, List.map_nil]); first | done | rfl | (simp only [List.length_drop, List.length_take]; rfl)) ?_
         with_reducible refine (foliotlaw02_same.calls kj2 t161 _ _ t162 t167 _ _ t168 true _ ?side1 ?side2 ?side3 ?side4 A19.out).mono ?_
         (case side1 => exact Sq.ca (Kd.R_reads' HO164.out).2.2)
         (case side2 => exact (Kd.R_reads' HO164.out).2.1)
         (case side3 => exact Sq.ca (Kd.R_reads' HO170.out).2.2)
         (case side4 => exact (Kd.R_reads' HO170.out).2.1)
         rintro e w51 ⟨rfl, hb⟩
         refine ⟨_, rfl, ?_⟩
         replace HO164 := Aside0.mk (Kd.R_below (Sq.al HO164) hb)
         replace HO170 := Aside0.mk (Kd.R_below (Sq.al HO170) hb)
         replace HO177 := Aside0.mk (Kd.R_below (Sq.al HO177) hb)
         replace BK159 := Sq.bb BK159 hb
         replace BK166 := Sq.bb BK166 hb
         replace BK172 := Sq.bb BK172 hb
         replace BK179 := Sq.bb BK179 hb
         replace HB := Sq.bs HB hb
         (try clear hb)
         (try clear hb2)
         (try clear hk)
         (try clear hi)
         refine hK.out _ _ ⟨(blk_cell BK159.out 0).trans rfl, (blk_cell BK159.out 1).trans rfl, (blk_cell BK166.out 0).trans rfl, (blk_cell BK166.out 1).trans rfl, (blk_cell BK172.out 0).trans rfl, (blk_cell BK172.out 1).trans rfl, (blk_cell BK179.out 0).trans rfl, (blk_cell BK179.out 1).trans rfl⟩ (fun hHeld => ?_)
         clear hK K
         refine norm_ (a' := ?_) ?_ ?_
         rotate_left
         ·show Act.put _ (some 44) _ = _
          simp only [Act.put, List.setIfInBounds_toArray, List.set_cons_zero, List.set_cons_succ, i64_w, i32_w]
          rfl
         refine Sq.pu (v := ?_) (a' := ?_) 9 (some 45) #[true, true, true, true, true, true, true, true, true, true, false, false, false, false, false, false, false, false, false, false, false, false, false, false, false, false, false, false, false] HT_ ?_ ?_ ?_
         rotate_left
         ·intro w'
          go_simp
          with_reducible rfl
         rotate_left
         ·simp only [Act.put, List.setIfInBounds_toArray, List.set_cons_zero, List.set_cons_succ, i64_w, i32_w]
          rfl
         refine Sq.pu (v := ?_) (a' := ?_) 10 (some 46) #[true, true, true, true, true, true, true, true, true, true, true, false, false, false, false, false, false, false, false, false, false, false, false, false, false, false, false, false, false] HT_ ?_ ?_ ?_
         rotate_left
         ·intro w'
          go_simp
          with_reducible rfl
         rotate_left
         ·simp only [Act.put, List.setIfInBounds_toArray, List.set_cons_zero, List.set_cons_succ, i64_w, i32_w]
          rfl
         refine Sq.pu (v := ?_) (a' := ?_) 11 (some 47) #[true, true, true, true, true, true, true, true, true, true, true, true, false, false, false, false, false, false, false, false, false, false, false, false, false, false, false, false, false] HT_ ?_ ?_ ?_
         rotate_left
         ·intro w'
          go_simp
          with_reducible rfl
         rotate_left
         ·simp only [Act.put, List.setIfInBounds_toArray, List.set_cons_zero, List.set_cons_succ, i64_w, i32_w]
          rfl
         refine Sq.pu (v := ?_) (a' := ?_) 12 (some 48) #[true, true, true, true, true, true, true, true, true, true, true, true, true, false, false, false, false, false, false, false, false, false, false, false, false, false, false, false, false] HT_ ?_ ?_ ?_
         rotate_left
         ·intro w'
          go_simp
          with_reducible rfl
         rotate_left
         ·simp only [Act.put, List.setIfInBounds_toArray, List.set_cons_zero, List.set_cons_succ, i64_w, i32_w]
          rfl
         refine Sq.pu (v := ?_) (a' := ?_) 13 (some 49) #[true, true, true, true, true, true, true, true, true, true, true, true, true, true, false, false, false, false, false, false, false, false, false, false, false, false, false, false, false] HT_ ?_ ?_ ?_
         rotate_left
         ·intro w'
          go_simp
          with_reducible rfl
         rotate_left
         ·simp only [Act.put, List.setIfInBounds_toArray, List.set_cons_zero, List.set_cons_succ, i64_w, i32_w]
          rfl
         refine Sq.pu (v := ?_) (a' := ?_) 14 (some 50) #[true, true, true, true, true, true, true, true, true, true, true, true, true, true, true, false, false, false, false, false, false, false, false, false, false, false, false, false, false] HT_ ?_ ?_ ?_
         rotate_left
         ·intro w'
          go_simp
          with_reducible rfl
         rotate_left
         ·simp only [Act.put, List.setIfInBounds_toArray, List.set_cons_zero, List.set_cons_succ, i64_w, i32_w]
          rfl
         refine Sq.pu (v := ?_) (a' := ?_) 15 (some 51) #[true, true, true, true, true, true, true, true, true, true, true, true, true, true, true, true, false, false, false, false, false, false, false, false, false, false, false, false, false] HT_ ?_ ?_ ?_
         rotate_left
         ·intro w'
          go_simp
          with_reducible rfl
         rotate_left
         ·simp only [Act.put, List.setIfInBounds_toArray, List.set_cons_zero, List.set_cons_succ, i64_w, i32_w]
          rfl
         refine Sq.pu (v := ?_) (a' := ?_) 16 (some 52) #[true, true, true, true, true, true, true, true, true, true, true, true, true, true, true, true, true, false, false, false, false, false, false, false, false, false, false, false, false] HT_ ?_ ?_ ?_
         rotate_left
         ·intro w'
          go_simp
          with_reducible rfl
         rotate_left
         ·simp only [Act.put, List.setIfInBounds_toArray, List.set_cons_zero, List.set_cons_succ, i64_w, i32_w]
          rfl
         refine Sq.pu (v := ?_) (a' := ?_) 17 (some 53) #[true, true, true, true, true, true, true, true, true, true, true, true, true, true, true, true, true, true, false, false, false, false, false, false, false, false, false, false, false] HT_ ?_ ?_ ?_
         rotate_left
         ·intro w'
          go_simp
          with_reducible rfl
         rotate_left
         ·simp only [Act.put, List.setIfInBounds_toArray, List.set_cons_zero, List.set_cons_succ, i64_w, i32_w]
          rfl
         refine Sq.pu (v := ?_) (a' := ?_) 18 (some 54) #[true, true, true, true, true, true, true, true, true, true, true, true, true, true, true, true, true, true, true, false, false, false, false, false, false, false, false, false, false] HT_ ?_ ?_ ?_
         rotate_left
         ·intro w'
          go_simp
          with_reducible rfl
         rotate_left
         ·simp only [Act.put, List.setIfInBounds_toArray, List.set_cons_zero, List.set_cons_succ, i64_w, i32_w]
          rfl
         refine Sq.pu (v := ?_) (a' := ?_) 19 (some 55) #[true, true, true, true, true, true, true, true, true, true, true, true, true, true, true, true, true, true, true, true, false, false, false, false, false, false, false, false, false] HT_ ?_ ?_ ?_
         rotate_left
         ·intro w'
          go_simp
          with_reducible rfl
         rotate_left
         ·simp only [Act.put, List.setIfInBounds_toArray, List.set_cons_zero, List.set_cons_succ, i64_w, i32_w]
          rfl
         refine Sq.tk (v := ?_) (a' := ?_) 20 (some 56) #[true, true, true, true, true, true, true, true, true, true, true, true, true, true, true, true, true, true, true, true, true, false, false, false, false, false, false, false, false] HT_ HW_ hHeld ?_ ?_ ?_
         rotate_left
         ·rintro w' ⟨s0, s1, s2, s3, s4, s5, s6, s7⟩
          go_simp
          with_reducible rfl
         rotate_left
         ·simp only [Act.put, List.setIfInBounds_toArray, List.set_cons_zero, List.set_cons_succ, i64_w, i32_w]
          rfl
         refine Sq.tk (v := ?_) (a' := ?_) 21 (some 57) #[true, true, true, true, true, true, true, true, true, true, true, true, true, true, true, true, true, true, true, true, true, true, false, false, false, false, false, false, false] HT_ HW_ hHeld ?_ ?_ ?_
         rotate_left
         ·rintro w' ⟨s0, s1, s2, s3, s4, s5, s6, s7⟩
          go_simp
          with_reducible rfl
         rotate_left
         ·simp only [Act.put, List.setIfInBounds_toArray, List.set_cons_zero, List.set_cons_succ, i64_w, i32_w]
          rfl
         refine one_ (i := 22) (N := some 58) #[true, true, true, true, true, true, true, true, true, true, true, true, true, true, true, true, true, true, true, true, true, true, true, false, false, false, false, false, false] rfl rfl (one_of HT_.out (by kernel_rfl)) (by decide) (fun K hK => ?_)
         refine goes_ Try.func62 (by kernel_rfl) rfl #[.agg #[.bool a0_0, .slice A0_1 l0_1.length c0_1]] (by rfl) rfl rfl (by (try simp only [List.map_toArray, List.map_cons, List.map_nil]); first | done | rfl | (simp only [List.length_drop, List.length_take]; rfl)) ?_
         with_reducible refine (integer_Norm.calls a0_0 _ _ l0_1 t183 t184 _ ?side1 ?side2 A23.out).mono ?_
         (case side1 => exact Sq.ca (Kd.C_below HR0_1.out HB.out))
         (case side2 => exact HC0_1.out)
         rintro e w52 ⟨v185, rfl, ho0, hb⟩
         refine ⟨_, rfl, ?_⟩
         have HO186 := Aside0.mk (Kd.R_lower (Kd.R_new' (Kd.R_new' (Kd.R_new' ho0 (Kd.R_lt (Sq.al HO164))) (Kd.R_lt (Sq.al HO170))) (Kd.R_lt (Sq.al HO177))) (below_size (Sq.bl HB)))
         replace BK159 := Sq.bb BK159 hb
         replace BK166 := Sq.bb BK166 hb
         replace BK172 := Sq.bb BK172 hb
         replace BK179 := Sq.bb BK179 hb
         replace HO164 := Aside0.mk (Kd.R_elder' (Sq.al HO164) (Kd.R_base ho0) hb)
         replace HO170 := Aside0.mk (Kd.R_elder' (Sq.al HO170) (Kd.R_base ho0) hb)
         replace HO177 := Aside0.mk (Kd.R_elder' (Sq.al HO177) (Kd.R_base ho0) hb)
         replace HB := Sq.bs HB hb
         (try clear hb)
         (try clear hb2)
         (try clear hk)
         (try clear hi)
         (try clear ho0)
         obtain ⟨Ao53, co53, eo53⟩ := Kd.R_slice HO186.out
         (first | subst eo53 | (injection eo53 with f1_ f2_ f3_; have f4_ := f1_.symm; have f5_ := f3_.symm; clear f1_ f2_ f3_; subst f4_; subst f5_))
         refine hK.out _ _ ⟨(blk_cell BK159.out 0).trans rfl, (blk_cell BK159.out 1).trans rfl, (blk_cell BK166.out 0).trans rfl, (blk_cell BK166.out 1).trans rfl, (blk_cell BK172.out 0).trans rfl, (blk_cell BK172.out 1).trans rfl, (blk_cell BK179.out 0).trans rfl, (blk_cell BK179.out 1).trans rfl⟩ (fun hHeld => ?_)
         clear hK K
         refine norm_ (a' := ?_) ?_ ?_
         rotate_left
         ·show Act.put _ (some 58) _ = _
          simp only [Act.put, List.setIfInBounds_toArray, List.set_cons_zero, List.set_cons_succ, i64_w, i32_w]
          rfl
         refine one_ (i := 23) (N := some 59) #[true, true, true, true, true, true, true, true, true, true, true, true, true, true, true, true, true, true, true, true, true, true, true, true, false, false, false, false, false] rfl rfl (one_of HT_.out (by kernel_rfl)) (by decide) (fun K hK => ?_)
         refine goes_ Try.func56 (by kernel_rfl) rfl #[.agg #[.bool t174, .slice Ao46 t175.length co46], .agg #[.bool t183, .slice Ao53 t184.length co53]] (by rfl) rfl rfl (by (try simp only [List.map_toArray, List.map_cons, List.map_nil]); first | done | rfl | (simp only [List.length_drop, List.length_take]; rfl)) ?_
         with_reducible refine (foliotlaw02_same.calls kj2 t174 _ _ t175 t183 _ _ t184 true _ ?side1 ?side2 ?side3 ?side4 A24.out).mono ?_
         (case side1 => exact Sq.ca (Kd.R_reads' HO177.out).2.2)
         (case side2 => exact (Kd.R_reads' HO177.out).2.1)
         (case side3 => exact Sq.ca (Kd.R_reads' HO186.out).2.2)
         (case side4 => exact (Kd.R_reads' HO186.out).2.1)
         rintro e w54 ⟨rfl, hb⟩
         refine ⟨_, rfl, ?_⟩
         replace HO164 := Aside0.mk (Kd.R_below (Sq.al HO164) hb)
         replace HO170 := Aside0.mk (Kd.R_below (Sq.al HO170) hb)
         replace HO177 := Aside0.mk (Kd.R_below (Sq.al HO177) hb)
         replace HO186 := Aside0.mk (Kd.R_below (Sq.al HO186) hb)
         replace BK159 := Sq.bb BK159 hb
         replace BK166 := Sq.bb BK166 hb
         replace BK172 := Sq.bb BK172 hb
         replace BK179 := Sq.bb BK179 hb
         replace HB := Sq.bs HB hb
         (try clear hb)
         (try clear hb2)
         (try clear hk)
         (try clear hi)
         refine hK.out _ _ ⟨(blk_cell BK159.out 0).trans rfl, (blk_cell BK159.out 1).trans rfl, (blk_cell BK166.out 0).trans rfl, (blk_cell BK166.out 1).trans rfl, (blk_cell BK172.out 0).trans rfl, (blk_cell BK172.out 1).trans rfl, (blk_cell BK179.out 0).trans rfl, (blk_cell BK179.out 1).trans rfl⟩ (fun hHeld => ?_)
         clear hK K
         refine norm_ (a' := ?_) ?_ ?_
         rotate_left
         ·show Act.put _ (some 59) _ = _
          simp only [Act.put, List.setIfInBounds_toArray, List.set_cons_zero, List.set_cons_succ, i64_w, i32_w]
          rfl
         refine Sq.pu (v := ?_) (a' := ?_) 24 (some 60) #[true, true, true, true, true, true, true, true, true, true, true, true, true, true, true, true, true, true, true, true, true, true, true, true, true, false, false, false, false] HT_ ?_ ?_ ?_
         rotate_left
         ·intro w'
          go_simp
          with_reducible rfl
         rotate_left
         ·simp only [Act.put, List.setIfInBounds_toArray, List.set_cons_zero, List.set_cons_succ, i64_w, i32_w]
          rfl
         refine Sq.pu (v := ?_) (a' := ?_) 25 (some 61) #[true, true, true, true, true, true, true, true, true, true, true, true, true, true, true, true, true, true, true, true, true, true, true, true, true, true, false, false, false] HT_ ?_ ?_ ?_
         rotate_left
         ·intro w'
          go_simp
          with_reducible rfl
         rotate_left
         ·simp only [Act.put, List.setIfInBounds_toArray, List.set_cons_zero, List.set_cons_succ, i64_w, i32_w]
          rfl
         refine one_ (i := 26) (N := some 62) #[true, true, true, true, true, true, true, true, true, true, true, true, true, true, true, true, true, true, true, true, true, true, true, true, true, true, true, false, false] rfl rfl (one_of HT_.out (by kernel_rfl)) (by decide) (fun K hK => ?_)
         refine goes_ Try.func57 (by kernel_rfl) rfl #[] (by rfl) rfl rfl (by (try simp only [List.map_toArray, List.map_cons, List.map_nil]); first | done | rfl | (simp only [List.length_drop, List.length_take]; rfl)) ?_
         with_reducible refine (foliotlaw02_awake.calls  t188 _ A26.out).mono ?_
         rintro e w55 ⟨rfl, hb⟩
         refine ⟨_, rfl, ?_⟩
         replace HO164 := Aside0.mk (Kd.R_below (Sq.al HO164) hb)
         replace HO170 := Aside0.mk (Kd.R_below (Sq.al HO170) hb)
         replace HO177 := Aside0.mk (Kd.R_below (Sq.al HO177) hb)
         replace HO186 := Aside0.mk (Kd.R_below (Sq.al HO186) hb)
         replace BK159 := Sq.bb BK159 hb
         replace BK166 := Sq.bb BK166 hb
         replace BK172 := Sq.bb BK172 hb
         replace BK179 := Sq.bb BK179 hb
         replace HB := Sq.bs HB hb
         (try clear hb)
         (try clear hb2)
         (try clear hk)
         (try clear hi)
         refine hK.out _ _ ⟨(blk_cell BK159.out 0).trans rfl, (blk_cell BK159.out 1).trans rfl, (blk_cell BK166.out 0).trans rfl, (blk_cell BK166.out 1).trans rfl, (blk_cell BK172.out 0).trans rfl, (blk_cell BK172.out 1).trans rfl, (blk_cell BK179.out 0).trans rfl, (blk_cell BK179.out 1).trans rfl⟩ (fun hHeld => ?_)
         clear hK K
         refine norm_ (a' := ?_) ?_ ?_
         rotate_left
         ·show Act.put _ (some 62) _ = _
          simp only [Act.put, List.setIfInBounds_toArray, List.set_cons_zero, List.set_cons_succ, i64_w, i32_w]
          rfl
         refine Sq.pu (v := ?_) (a' := ?_) 27 (some 63) #[true, true, true, true, true, true, true, true, true, true, true, true, true, true, true, true, true, true, true, true, true, true, true, true, true, true, true, true, false] HT_ ?_ ?_ ?_
         rotate_left
         ·intro w'
          go_simp
          with_reducible rfl
         rotate_left
         ·simp only [Act.put, List.setIfInBounds_toArray, List.set_cons_zero, List.set_cons_succ, i64_w, i32_w]
          rfl
         refine Sq.pu (v := ?_) (a' := ?_) 28 (some 4) #[true, true, true, true, true, true, true, true, true, true, true, true, true, true, true, true, true, true, true, true, true, true, true, true, true, true, true, true, true] HT_ ?_ ?_ ?_
         rotate_left
         ·intro w'
          go_simp
          with_reducible rfl
         rotate_left
         ·simp only [Act.put, List.setIfInBounds_toArray, List.set_cons_zero, List.set_cons_succ, i64_w, i32_w]
          rfl
         refine done_ (done_of HT_.out (by kernel_rfl)) ?_
         try go_wp2
         go_ret
         exact ⟨by first | rfl | (simp [errW_none, errW_some] <;> rfl) | (simp [*, errW_none, errW_some] <;> rfl), Sq.bl HB⟩
        ·replace c25 := Bool.eq_false_iff.mpr c25
         subst c25
         have H1 : (none) = some r := by rw [if_neg (show ¬ (false = true) by decide)] at H; exact H
         clear H
         have H := H1
         clear H1
         exact absurd H (by simp)
       ·rw [if_neg c22] at H
        have c22b0 : (t178 == 0) = false := beq_eq_false_iff_ne.mpr c22
        have c22b1 : (t178 != 0) = true := bne_iff_ne.mpr c22
        exact absurd H (by simp)
      ·rw [if_neg c21] at H
       have c21b0 : (t165 == t171) = false := beq_eq_false_iff_ne.mpr c21
       have c21b1 : (t165 != t171) = true := bne_iff_ne.mpr c21
       exact absurd H (by simp)
     ·replace c20 := Bool.eq_false_iff.mpr c20
      subst c20
      have H1 : (none) = some r := by rw [if_neg (show ¬ (false = true) by decide)] at H; exact H
      clear H
      have H := H1
      clear H1
      exact absurd H (by simp)
    ·rw [if_neg c18] at H
     have c18b0 : (t180.toList == t181.toList) = false := beq_eq_false_iff_ne.mpr c18
     have c18b1 : (t180.toList != t181.toList) = true := bne_iff_ne.mpr c18
     exact absurd H (by simp)
end Go.Proofs.Ytaclkccgjpjdjaa.BT
