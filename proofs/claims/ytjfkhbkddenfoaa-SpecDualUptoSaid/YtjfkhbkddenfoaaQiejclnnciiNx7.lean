import Derived.Test.YtjfkhbkddenfoaaQabijmnhfacNx0
import Derived.Test.YtjfkhbkddenfoaaQgklkgdafibNx5
import Derived.Test.YtjfkhbkddenfoaaQidfgagbedhNx6
import Derived.Test.YtjfkhbkddenfoaaQcabcjaombhM
set_option linter.unusedVariables false
set_option linter.unusedSimpArgs false
namespace Go.Proofs.Ytjfkhbkddenfoaa.N
open Go.RowKit Go.Proofs.YtjfkhbkddenfoaaW.PrintWords Go.Proofs.YtjfkhbkddenfoaaW.PrintLast Go.Proofs.YtjfkhbkddenfoaaW.PrintMore
attribute [local go_sem] max2_int min2_int max_two min_two max_three min_three max_four min_four   -- for this text's walks alone
def foliotref01_div.l0 : Nat → List Bool → List Bool → List Bool → List Bool → Int → Option (List Bool × List Bool)
 | 0, _, _, _, _, _ => none
 | k + 1, x0, x1, x6, x7, x8 => if x8 ≥ 0 then (if 0 ≤ x8 then (if x8 < (x0.length : Int) then ((some (([rdOf false x0 x8] : List Bool) : List Bool)).bind fun y338 => (if y338.length + x7.length < 140737488355328 then ((foliotref01_cut.f k (y338 ++ x7)).bind fun t344 => ((foliotref01_cmp.f k t344 x1).bind fun t347 => (if t347 ≥ 0 then ((foliotref01_sub.f k t344 x1).bind fun t348 => (if x8 < (x6.length : Int) then (foliotref01_div.l0 k x0 x1 (x6.set (x8 : Int).toNat true) t348 (wrap64 (x8 - 1))) else (none))) else (foliotref01_div.l0 k x0 x1 x6 t344 (wrap64 (x8 - 1)))))) else (none))) else (none)) else (none)) else ((foliotref01_cut.f k x6).bind fun t334 => (some (t334, x7)))
def foliotref01_div.f (k : Nat) (l0 : List Bool) (l1 : List Bool) : Option (List Bool × List Bool) := if 0 ≤ (l0.length : Int) then (if ((l0.length : Int) : Int).toNat ≤ 281474976710656 then (foliotref01_div.l0 k l0 l1 (List.replicate ((l0.length : Int) : Int).toNat false) ([] : List Bool) (wrap64 ((l0.length : Int) - 1))) else (none)) else (none)
set_option maxHeartbeats 8000000 in
set_option maxRecDepth 100000 in
theorem foliotref01_div.calls (k : Nat) (A0 : Option Addr) (c0 : Nat) (l0 : List Bool) (A1 : Option Addr) (c1 : Nat) (l1 : List Bool) (r1 : List Bool) (r2 : List Bool) (w : World) (hr0 : Kd.C Kd.bool w A0 l0.length l0) (hc0 : l0.length ≤ c0) (hr1 : Kd.C Kd.bool w A1 l1.length l1) (hc1 : l1.length ≤ c1) (h : foliotref01_div.f k l0 l1 = some (r1, r2)) :
 Calls Try.prog 89 #[.slice A0 l0.length c0, .slice A1 l1.length c1] w fun e w' => ∃ v0_ v1_ : Value, e = .returned (.tuple #[v0_, v1_]) ∧ Kd.V Kd.bool 4 w' w.heap.size (fun k_ => (w.heap.size ≤ k_)) v0_ r1 ∧ Kd.V Kd.bool 4 w' w.heap.size (fun k_ => (w.heap.size ≤ k_)) v1_ r2 ∧ Below w.heap.size w w' := by
 have HR0 := Aside0.mk hr0
 have HC0 := Aside0.mk hc0
 clear hr0 hc0
 have HR1 := Aside0.mk hr1
 have HC1 := Aside0.mk hc1
 clear hr1 hc1
 have HB := Aside0.mk (Below.refl w.heap.size w)
 have H : (if 0 ≤ (l0.length : Int) then (if ((l0.length : Int) : Int).toNat ≤ 281474976710656 then (foliotref01_div.l0 k l0 l1 (List.replicate ((l0.length : Int) : Int).toNat false) ([] : List Bool) (wrap64 ((l0.length : Int) - 1))) else (none)) else (none)) = some (r1, r2) := h
 clear h
 replace H := Sq.ifs H
 obtain ⟨c3, H⟩ := H
 have c3b0 := eq_true c3
 have c3b1 : decide (0 ≤ (l0.length : Int)) = true := decide_eq_true c3
 clear c3
 replace H := Sq.ifs H
 obtain ⟨c4, H⟩ := H
 have c4b0 := eq_true c4
 have c4b1 : decide (((l0.length : Int) : Int).toNat ≤ 281474976710656) = true := decide_eq_true c4
 clear c4
 obtain ⟨y331, hy331⟩ : ∃ y_ : List Bool, y_ = (List.replicate ((l0.length : Int) : Int).toNat false) := ⟨_, rfl⟩
 (first | (replace H := Sq.ny hy331 H; (try dsimp -simprocs only at H)) | rw [← hy331] at H | skip)
 have Ny331 := Aside0.mk hy331
 clear hy331
 have H' := Aside0.mk H
 clear H
 go_enter Try.func89, Try.ntmps89
 go_wp2_with (first | ((with_reducible refine gate_dst (N := 11) rfl ?_); refine Kd.R_make Kd.bool _ 4 rfl (N := 11) rfl 32 _ _ rfl (l0.length : Int) rfl rfl Try.underlying32 (.bool false) 1 info4 rfl (by decide) (by omega) false (ok := fun _ => True) (okp := fun _ => True) rfl (fun _ hk => hk) trivial (of_decide_eq_true (by first | (with_reducible assumption) | assumption)) (Nat.le_trans (Nat.mul_le_mul_right _ (of_decide_eq_true (by first | (with_reducible assumption) | assumption) : (l0.length : Int).toNat ≤ 281474976710656)) (by omega)) (Below.refl _ _) (Nat.le_refl _) ?_; intro v332 w5 ho6 hb hg_ hnew_; clear hg_ hnew_; (first | rw [← Ny331.out] at ho6 | (simp only [Int.reduceToNat] at ho6; rw [← Ny331.out] at ho6)); have HO333 := Aside0.mk (Kd.R_lower (Kd.R_newM (M := fun k_ => (w.heap.size ≤ k_)) ho6 (below_size (Sq.bl HB)) (fun k_ h_ => h_)) (below_size (Sq.bl HB))); replace HB := Sq.bs HB hb; clear hb ho6))
 go_loopg [7, 8] k (fun kq v7 v8 w' => ∃ (x6_1 : List Bool) (x7_1 : List Bool) (x8_1 : Int), v8 = .int .i64 x8_1 ∧ Aside0 (foliotref01_div.l0 kq l0 l1 x6_1 x7_1 x8_1 = some (r1, r2)) ∧ Aside0 (kq ≤ k) ∧ Aside0 (Kd.R Kd.bool 4 w' w.heap.size (fun k_ => (w.heap.size ≤ k_)) v332 x6_1) ∧ Aside0 (Kd.V Kd.bool 4 w' w.heap.size (fun k_ => (w.heap.size ≤ k_) ∧ some k_ ≠ (v332 : Value).ownBlock) v7 x7_1) ∧ Aside0 (Below w.heap.size w w'))
 case atStart => exact ⟨(y331), (([] : List Bool)), (wrap64 ((l0.length : Int) - 1)), (by first | rfl | (simp; done) | (simp [*]; done)), H', ⟨Nat.le_refl _⟩, ⟨by (with_reducible repeat (first | apply Kd.R_alloc | apply Kd.R_drewN | apply Kd.R_drew)); exact Kd.R_mono HO333.out (fun _ hk => hk.1)⟩, ⟨(by exact Kd.V_nil _ _ _ _ _)⟩, ⟨Sq.bl HB⟩⟩
 case round =>
  clear H'
  try clear c1
  try clear p2
  try clear c3
  try clear c3b0
  try clear c3b1
  try clear c4
  try clear c4b0
  try clear c4b1
  try clear p6
  obtain ⟨x6_1, x7_1, x8_1, rfl, HA, HK1, HO_6, HO_7, HB⟩ := hrel
  cases gk with
  | zero => exact absurd HA.out (by simp [foliotref01_div.l0])
  | succ k1 =>
   have H := HA.out
   clear HA
   simp only [foliotref01_div.l0] at H
   by_cases c7 : x8_1 ≥ 0
   ·rw [if_pos c7] at H
    have c7b0 : decide (0 ≤ x8_1) = true := decide_eq_true c7
    clear c7
    replace H := Sq.ifs H
    obtain ⟨c8, H⟩ := H
    have c8b0 : decide (0 ≤ x8_1) = true := decide_eq_true c8
    clear c8
    replace H := Sq.ifs H
    obtain ⟨c9, H⟩ := H
    have c9b0 : decide (x8_1 < (l0.length : Int)) = true := decide_eq_true c9
    clear c9
    obtain ⟨y338, hy338⟩ : ∃ y_ : List Bool, y_ = (([rdOf false l0 x8_1] : List Bool)) := ⟨_, rfl⟩
    (first | (replace H := Sq.ny hy338 H; (try dsimp -simprocs only at H)) | rw [← hy338] at H | skip)
    have Ny338 := Aside0.mk hy338
    clear hy338
    replace H := Sq.ifs H
    obtain ⟨c10, H⟩ := H
    have LMc10 := Aside0.mk c10
    clear c10
    obtain ⟨y341, hy341⟩ : ∃ y_ : List Bool, y_ = (y338 ++ x7_1) := ⟨_, rfl⟩
    (first | (replace H := Sq.ny hy341 H; (try dsimp -simprocs only at H)) | rw [← hy341] at H | skip)
    have Ny341 := Aside0.mk hy341
    clear hy341
    replace H := Sq.bd H
    obtain ⟨t344, A11, H⟩ := H
    (try dsimp -simprocs only at H)
    replace H := Sq.bd H
    obtain ⟨t347, A12, H⟩ := H
    (try dsimp -simprocs only at H)
    by_cases c13 : t347 ≥ 0
    ·rw [if_pos c13] at H
     have c13b0 : decide (0 ≤ t347) = true := decide_eq_true c13
     clear c13
     replace H := Sq.bd H
     obtain ⟨t348, A14, H⟩ := H
     (try dsimp -simprocs only at H)
     replace H := Sq.ifs H
     obtain ⟨c15, H⟩ := H
     have c15b0 : decide (x8_1 < (x6_1.length : Int)) = true := decide_eq_true c15
     clear c15
     obtain ⟨y351, hy351⟩ : ∃ y_ : List Bool, y_ = (x6_1.set (x8_1 : Int).toNat true) := ⟨_, rfl⟩
     (first | (replace H := Sq.ny hy351 H; (try dsimp -simprocs only at H)) | rw [← hy351] at H | skip)
     have Ny351 := Aside0.mk hy351
     clear hy351
     have H' := Aside0.mk H
     clear H
     have p337 : 0 ≤ (x8_1 : Int) := of_decide_eq_true (by first | (with_reducible assumption) | assumption)
     have q337 : x8_1 < (l0.length : Int) := of_decide_eq_true (by first | (with_reducible assumption) | assumption)
     obtain ⟨ad337, e337, hx337_0⟩ := Kd.at_bool HR0.out x8_1 p337 q337
     cases e337
     replace hx337_0 := (HB.out.cell (World.block_lt_of_cell? w _ hx337_0)).trans hx337_0
     replace p337 := eq_true p337
     replace q337 := eq_true q337
     go_wp2_with (first | ((with_reducible refine gate_dst (N := 23) rfl ?_); refine Kd.R_lit Kd.bool _ 4 ?hg (N := 23) ?hd (xs := ([rdOf false l0 x8_1] : List Bool)) (inner := [.bool (rdOf false l0 x8_1)]) (ok := fun _ => True) (okp := fun _ => True) ?hr ?hp (fun _ hk => hk) trivial (Below.refl _ _) (Nat.le_refl _) (by simp) ?_; (case hd => rfl); (case hg => rfl); (case hr => first | (go_simp; done) | (go_simp; rfl)); (case hp => exact (Reps.one (show Kd.M Kd.bool _ _ _ (rdOf false l0 x8_1) [.bool (rdOf false l0 x8_1)] from rfl) (Reps.none _ _))); intro v339 w17 ho18 hb hg_ hnew_; clear hg_ hnew_; (first | rw [← Ny338.out] at ho18 | (simp only [Int.reduceToNat] at ho18; rw [← Ny338.out] at ho18)); replace HO_7 := Aside0.mk (Kd.V_elder' (Sq.al HO_7) (Kd.R_base ho18) hb); have HO340 := Aside0.mk (Kd.R_lower (Kd.R_new' (Kd.R_newM (M := fun k_ => (w.heap.size ≤ k_)) ho18 (below_size (Sq.bl HB)) (fun k_ h_ => h_)) (Kd.R_lt (Sq.al HO_6))) (below_size (Sq.bl HB))); replace HO_6 := Aside0.mk (Kd.R_elder' (Sq.al HO_6) (Kd.R_base ho18) hb); replace HB := Sq.bs HB hb; clear hb ho18; obtain ⟨Ao20, co20, eo20⟩ := Kd.V_slice HO_7.out; subst eo20) | ((with_reducible refine gate_builtin (b := .append) (xs := #[.tmp 23, .tmp 24]) rfl ?_); at_builtin; refine Kd.R_append_rows Kd.bool (w0 := w) w.heap.size rfl (.tmp 23) (.tmp 24) 32 4 (.bool false) 1 rfl Try.underlying32 info4 rfl (by decide) (by omega) v339 y338 x7_1 _ _ _ (fun k_ => (w.heap.size ≤ k_) ∧ some k_ ≠ (v332 : Value).ownBlock) (fun _ => False) rfl rfl ?aO ?aR (fun _ _ h => h) (fun _ h => h.elim) ?aF ?aB ?aS ?aL ?_; (case aR => exact Sq.ca (Kd.V_reads' HO_7.out).2.2); (case aB => exact (Sq.bl HB)); (case aF => exact (fun k_ hk => ⟨(Nat.le_trans (below_size (Sq.bl HB)) hk), Kd.fresh' (Kd.R_lt (Sq.al HO_6)) k_ hk⟩)); (case aO => exact (by (with_reducible repeat (first | apply Kd.R_alloc | apply Kd.R_drewN | apply Kd.R_drew)); exact Kd.R_mono HO340.out (fun _ hk => ⟨hk.1.1, hk.2⟩))); (case aS => exact (below_size (Sq.bl HB))); (case aL => have := LMc10.out; omega); intro v342 w19 ho hb hg hat; rw [← Ny341.out] at ho; replace HO_6 := Aside0.mk (Kd.R_after (ok := (fun k_ => (w.heap.size ≤ k_))) (Sq.al HO_6) hg hat); replace HO_7 := Aside0.mk (Kd.V_afterv (ok := (fun k_ => (w.heap.size ≤ k_) ∧ some k_ ≠ (v332 : Value).ownBlock)) (Sq.al HO_7) hg hat); replace HB := Aside0.mk (hb); have HO343 := Aside0.mk (ho); clear HO340; clear ho hb hg hat; obtain ⟨Ao21, co21, eo21⟩ := Kd.R_slice HO343.out; subst eo21) | ((with_reducible refine gate_callee (f := 107) rfl ?_); refine Sq.gl (some 26) Try.func107 #[.slice Ao21 y341.length co21] ?_; (with_reducible refine (foliotref01_cut.calls k1 (fun k_ => some k_ = (.slice Ao21 y341.length co21 : Value).ownBlock) _ _ y341 t344 _ ?side1 A11.out).mono ?_); (case side1 => exact Kd.R_V (Kd.R_tight rfl (HO343.out))); rintro e w22 ⟨v345, rfl, ho0, hb⟩; refine ⟨_, rfl, ?_⟩; replace HO_7 := Aside0.mk (Kd.V_below (Sq.al HO_7) hb); have HO346 := Aside0.mk (Kd.V_lower (Kd.V_mono (ok' := fun k_ => (w.heap.size ≤ k_) ∧ some k_ ≠ (v332 : Value).ownBlock) ho0 (fun k_ hk_ => ⟨Or.elim hk_ (fun hs_ => ((HO343.out).1 k_ hs_.symm).1) (fun hn_ => (Nat.le_trans (below_size (Sq.bl HB)) hn_)), Or.elim hk_ (fun hs_ => ((HO343.out).1 k_ hs_.symm).2) (fun hn_ => (Kd.fresh' (Kd.R_lt (Sq.al HO_6)) k_ hn_))⟩)) (below_size (Sq.bl HB))); replace HO_6 := Aside0.mk (Kd.R_below (Sq.al HO_6) hb); replace HO343 := Aside0.mk (Kd.R_below (Sq.al HO343) hb); replace HB := Sq.bs HB hb; (try clear hb); (try clear hb2); (try clear hk); (try clear hi); (try clear ho0); obtain ⟨Ao23, co23, eo23⟩ := Kd.V_slice HO346.out; subst eo23) | ((with_reducible refine gate_callee (f := 105) rfl ?_); refine Sq.gl (some 29) Try.func105 #[.slice Ao23 t344.length co23, .slice A1 l1.length c1] ?_; (with_reducible refine (foliotref01_cmp.calls k1 _ _ t344 _ _ l1 t347 _ ?side1 ?side2 ?side3 ?side4 A12.out).mono ?_); (case side1 => exact Sq.ca (Kd.V_reads' HO346.out).2.2); (case side2 => exact (Kd.V_reads' HO346.out).2.1); (case side3 => exact Sq.ca (Kd.C_below HR1.out HB.out)); (case side4 => exact HC1.out); rintro e w24 ⟨rfl, hb⟩; refine ⟨_, rfl, ?_⟩; replace HO_6 := Aside0.mk (Kd.R_below (Sq.al HO_6) hb); replace HO_7 := Aside0.mk (Kd.V_below (Sq.al HO_7) hb); replace HO343 := Aside0.mk (Kd.R_below (Sq.al HO343) hb); replace HO346 := Aside0.mk (Kd.V_below (Sq.al HO346) hb); replace HB := Sq.bs HB hb; (try clear hb); (try clear hb2); (try clear hk); (try clear hi)) | ((with_reducible refine gate_callee (f := 106) rfl ?_); refine Sq.gl (some 33) Try.func106 #[.slice Ao23 t344.length co23, .slice A1 l1.length c1] ?_; (with_reducible refine (foliotref01_sub.calls k1 _ _ t344 _ _ l1 t348 _ ?side1 ?side2 ?side3 ?side4 A14.out).mono ?_); (case side1 => exact Sq.ca (Kd.V_reads' HO346.out).2.2); (case side2 => exact (Kd.V_reads' HO346.out).2.1); (case side3 => exact Sq.ca (Kd.C_below HR1.out HB.out)); (case side4 => exact HC1.out); rintro e w25 ⟨v349, rfl, ho0, hb⟩; refine ⟨_, rfl, ?_⟩; replace HO_7 := Aside0.mk (Kd.V_below (Sq.al HO_7) hb); replace HO346 := Aside0.mk (Kd.V_below (Sq.al HO346) hb); have HO350 := Aside0.mk (Kd.V_lower (Kd.V_mono (ok' := fun k_ => (w.heap.size ≤ k_) ∧ some k_ ≠ (v332 : Value).ownBlock ∧ some k_ ≠ (.slice Ao21 y341.length co21 : Value).ownBlock) ho0 (fun k_ hk_ => ⟨(Nat.le_trans (below_size (Sq.bl HB)) hk_), (Kd.fresh' (Kd.R_lt (Sq.al HO_6)) k_ hk_), (Kd.fresh' (Kd.R_lt (Sq.al HO343)) k_ hk_)⟩)) (below_size (Sq.bl HB))); replace HO_6 := Aside0.mk (Kd.R_below (Sq.al HO_6) hb); replace HO343 := Aside0.mk (Kd.R_below (Sq.al HO343) hb); replace HB := Sq.bs HB hb; (try clear hb); (try clear hb2); (try clear hk); (try clear hi); (try clear ho0); have p16 : 0 ≤ (x8_1 : Int) := of_decide_eq_true (by first | (with_reducible assumption) | assumption); have q16 : (x8_1 : Int) < ((x6_1.length : Int) : Int) := of_decide_eq_true (by first | (with_reducible assumption) | assumption); obtain ⟨go16, co16, eo16, gb16, gl16, cl16, HG16⟩ := Kd.R_form HO_6.out (by omega); (first | cases eo16 | (injection eo16 with ea_ en_ ec_; (first | subst ea_ | (injection ea_ with ea_; subst ea_)); subst ec_; clear en_)); have GB16 := Aside0.mk gb16; have GG16 := Aside0.mk HG16; clear gb16 gl16 HG16; obtain ⟨hx16_0, hf16_0⟩ := Kd.R_celln false HO_6.out (x8_1 : Int) p16 q16; replace p16 := eq_true p16; replace q16 := eq_true q16; obtain ⟨hy26_, hz26_⟩ := Kd.R_celln false HO_6.out (x8_1 : Int) (of_decide_eq_true (by first | (with_reducible assumption) | assumption)) (of_decide_eq_true (by first | (with_reducible assumption) | assumption)); have HP26 := Kd.R_putg HO_6.out (x8_1 : Int) true) | ((with_reducible refine gate_store (t := 4) (p := 36) rfl ?_); refine store_event (t := 4) (p := 36) (v := ?vo_w27) (w1 := (w25.setCell ⟨go16, (x8_1 : Int).toNat, none⟩ (.bool true))) ?hg ?ho ?hn ?hr ?_; (case ho => rfl); (case hg => rfl); (case hn => rfl); (case hr => first | (go_simp; done) | (go_simp; rfl)); intro w27 hw; have hg : w25.grownBy w27 (some go16) := (by rw [hw]; exact HP26.2); have hp_ : Kd.R Kd.bool 4 w27 w.heap.size (fun k_ => (w.heap.size ≤ k_) ∧ some k_ ≠ (.slice Ao21 y341.length co21 : Value).ownBlock) (.slice (some ⟨go16, 0, none⟩) x6_1.length co16) y351 := (by rw [hw, Ny351.out]; exact HP26.1); clear HP26; replace HO_6 := Aside0.mk (hp_); replace HO_7 := Aside0.mk (Kd.V_afterv (v := (.slice (some ⟨go16, 0, none⟩) x6_1.length co16)) (v1 := (.slice (some ⟨go16, 0, none⟩) x6_1.length co16)) (ok := (fun k_ => (w.heap.size ≤ k_) ∧ some k_ ≠ (.slice Ao21 y341.length co21 : Value).ownBlock)) (by (with_reducible repeat (first | apply Kd.V_alloc | apply Kd.V_drewN | apply Kd.V_drew)); exact Kd.V_mono HO_7.out (fun _ hk => ⟨⟨hk.1.1, hk.2⟩, hk.1.2⟩)) hg (.inl rfl)); replace HO343 := Aside0.mk (Kd.R_after (v := (.slice (some ⟨go16, 0, none⟩) x6_1.length co16)) (v1 := (.slice (some ⟨go16, 0, none⟩) x6_1.length co16)) (ok := (fun k_ => (w.heap.size ≤ k_))) (Sq.al HO343) hg (.inl rfl)); replace HO346 := Aside0.mk (Kd.V_afterv (v := (.slice (some ⟨go16, 0, none⟩) x6_1.length co16)) (v1 := (.slice (some ⟨go16, 0, none⟩) x6_1.length co16)) (ok := (fun k_ => (w.heap.size ≤ k_))) (Sq.al HO346) hg (.inl rfl)); replace HO350 := Aside0.mk (Kd.V_afterv (v := (.slice (some ⟨go16, 0, none⟩) x6_1.length co16)) (v1 := (.slice (some ⟨go16, 0, none⟩) x6_1.length co16)) (ok := (fun k_ => (w.heap.size ≤ k_) ∧ some k_ ≠ (.slice Ao21 y341.length co21 : Value).ownBlock)) (by (with_reducible repeat (first | apply Kd.V_alloc | apply Kd.V_drewN | apply Kd.V_drew)); exact Kd.V_mono HO350.out (fun _ hk => ⟨⟨hk.1, hk.2.2⟩, hk.2.1⟩)) hg (.inl rfl)); replace HB := Aside0.mk ((by rw [hw]; exact below_set (HB.out) GB16.out : Below w.heap.size w w27)); clear hg hw hp_))
     go_roundg k1
     case measure => have := HK1.out; omega
     case rel => exact ⟨(y351), (t348), (wrap64 (x8_1 - 1)), (by first | rfl | (simp; done) | (simp [*]; done)), H', ⟨by have := HK1.out; omega⟩, ⟨by (with_reducible repeat (first | apply Kd.R_alloc | apply Kd.R_drewN | apply Kd.R_drew)); exact Kd.R_mono HO_6.out (fun _ hk => hk.1)⟩, ⟨by (with_reducible repeat (first | apply Kd.V_alloc | apply Kd.V_drewN | apply Kd.V_drew)); exact Kd.V_mono HO350.out (fun _ hk => ⟨hk.1.1, hk.2⟩)⟩, ⟨Sq.bl HB⟩⟩
    ·rw [if_neg c13] at H
     have c13b0 : decide (0 ≤ t347) = false := decide_eq_false c13
     clear c13
     have H' := Aside0.mk H
     clear H
     have p337 : 0 ≤ (x8_1 : Int) := of_decide_eq_true (by first | (with_reducible assumption) | assumption)
     have q337 : x8_1 < (l0.length : Int) := of_decide_eq_true (by first | (with_reducible assumption) | assumption)
     obtain ⟨ad337, e337, hx337_0⟩ := Kd.at_bool HR0.out x8_1 p337 q337
     cases e337
     replace hx337_0 := (HB.out.cell (World.block_lt_of_cell? w _ hx337_0)).trans hx337_0
     replace p337 := eq_true p337
     replace q337 := eq_true q337
     go_wp2_with (first | ((with_reducible refine gate_dst (N := 23) rfl ?_); refine Kd.R_lit Kd.bool _ 4 ?hg (N := 23) ?hd (xs := ([rdOf false l0 x8_1] : List Bool)) (inner := [.bool (rdOf false l0 x8_1)]) (ok := fun _ => True) (okp := fun _ => True) ?hr ?hp (fun _ hk => hk) trivial (Below.refl _ _) (Nat.le_refl _) (by simp) ?_; (case hd => rfl); (case hg => rfl); (case hr => first | (go_simp; done) | (go_simp; rfl)); (case hp => exact (Reps.one (show Kd.M Kd.bool _ _ _ (rdOf false l0 x8_1) [.bool (rdOf false l0 x8_1)] from rfl) (Reps.none _ _))); intro v339 w28 ho29 hb hg_ hnew_; clear hg_ hnew_; (first | rw [← Ny338.out] at ho29 | (simp only [Int.reduceToNat] at ho29; rw [← Ny338.out] at ho29)); replace HO_7 := Aside0.mk (Kd.V_elder' (Sq.al HO_7) (Kd.R_base ho29) hb); have HO340 := Aside0.mk (Kd.R_lower (Kd.R_new' (Kd.R_newM (M := fun k_ => (w.heap.size ≤ k_)) ho29 (below_size (Sq.bl HB)) (fun k_ h_ => h_)) (Kd.R_lt (Sq.al HO_6))) (below_size (Sq.bl HB))); replace HO_6 := Aside0.mk (Kd.R_elder' (Sq.al HO_6) (Kd.R_base ho29) hb); replace HB := Sq.bs HB hb; clear hb ho29; obtain ⟨Ao31, co31, eo31⟩ := Kd.V_slice HO_7.out; subst eo31) | ((with_reducible refine gate_builtin (b := .append) (xs := #[.tmp 23, .tmp 24]) rfl ?_); at_builtin; refine Kd.R_append_rows Kd.bool (w0 := w) w.heap.size rfl (.tmp 23) (.tmp 24) 32 4 (.bool false) 1 rfl Try.underlying32 info4 rfl (by decide) (by omega) v339 y338 x7_1 _ _ _ (fun k_ => (w.heap.size ≤ k_) ∧ some k_ ≠ (v332 : Value).ownBlock) (fun _ => False) rfl rfl ?aO ?aR (fun _ _ h => h) (fun _ h => h.elim) ?aF ?aB ?aS ?aL ?_; (case aR => exact Sq.ca (Kd.V_reads' HO_7.out).2.2); (case aB => exact (Sq.bl HB)); (case aF => exact (fun k_ hk => ⟨(Nat.le_trans (below_size (Sq.bl HB)) hk), Kd.fresh' (Kd.R_lt (Sq.al HO_6)) k_ hk⟩)); (case aO => exact (by (with_reducible repeat (first | apply Kd.R_alloc | apply Kd.R_drewN | apply Kd.R_drew)); exact Kd.R_mono HO340.out (fun _ hk => ⟨hk.1.1, hk.2⟩))); (case aS => exact (below_size (Sq.bl HB))); (case aL => have := LMc10.out; omega); intro v342 w30 ho hb hg hat; rw [← Ny341.out] at ho; replace HO_6 := Aside0.mk (Kd.R_after (ok := (fun k_ => (w.heap.size ≤ k_))) (Sq.al HO_6) hg hat); replace HO_7 := Aside0.mk (Kd.V_afterv (ok := (fun k_ => (w.heap.size ≤ k_) ∧ some k_ ≠ (v332 : Value).ownBlock)) (Sq.al HO_7) hg hat); replace HB := Aside0.mk (hb); have HO343 := Aside0.mk (ho); clear HO340; clear ho hb hg hat; obtain ⟨Ao32, co32, eo32⟩ := Kd.R_slice HO343.out; subst eo32) | ((with_reducible refine gate_callee (f := 107) rfl ?_); refine Sq.gl (some 26) Try.func107 #[.slice Ao32 y341.length co32] ?_; (with_reducible refine (foliotref01_cut.calls k1 (fun k_ => some k_ = (.slice Ao32 y341.length co32 : Value).ownBlock) _ _ y341 t344 _ ?side1 A11.out).mono ?_); (case side1 => exact Kd.R_V (Kd.R_tight rfl (HO343.out))); rintro e w33 ⟨v345, rfl, ho0, hb⟩; refine ⟨_, rfl, ?_⟩; replace HO_7 := Aside0.mk (Kd.V_below (Sq.al HO_7) hb); have HO346 := Aside0.mk (Kd.V_lower (Kd.V_mono (ok' := fun k_ => (w.heap.size ≤ k_) ∧ some k_ ≠ (v332 : Value).ownBlock) ho0 (fun k_ hk_ => ⟨Or.elim hk_ (fun hs_ => ((HO343.out).1 k_ hs_.symm).1) (fun hn_ => (Nat.le_trans (below_size (Sq.bl HB)) hn_)), Or.elim hk_ (fun hs_ => ((HO343.out).1 k_ hs_.symm).2) (fun hn_ => (Kd.fresh' (Kd.R_lt (Sq.al HO_6)) k_ hn_))⟩)) (below_size (Sq.bl HB))); replace HO_6 := Aside0.mk (Kd.R_below (Sq.al HO_6) hb); replace HO343 := Aside0.mk (Kd.R_below (Sq.al HO343) hb); replace HB := Sq.bs HB hb; (try clear hb); (try clear hb2); (try clear hk); (try clear hi); (try clear ho0); obtain ⟨Ao34, co34, eo34⟩ := Kd.V_slice HO346.out; subst eo34) | ((with_reducible refine gate_callee (f := 105) rfl ?_); refine Sq.gl (some 29) Try.func105 #[.slice Ao34 t344.length co34, .slice A1 l1.length c1] ?_; (with_reducible refine (foliotref01_cmp.calls k1 _ _ t344 _ _ l1 t347 _ ?side1 ?side2 ?side3 ?side4 A12.out).mono ?_); (case side1 => exact Sq.ca (Kd.V_reads' HO346.out).2.2); (case side2 => exact (Kd.V_reads' HO346.out).2.1); (case side3 => exact Sq.ca (Kd.C_below HR1.out HB.out)); (case side4 => exact HC1.out); rintro e w35 ⟨rfl, hb⟩; refine ⟨_, rfl, ?_⟩; replace HO_6 := Aside0.mk (Kd.R_below (Sq.al HO_6) hb); replace HO_7 := Aside0.mk (Kd.V_below (Sq.al HO_7) hb); replace HO343 := Aside0.mk (Kd.R_below (Sq.al HO343) hb); replace HO346 := Aside0.mk (Kd.V_below (Sq.al HO346) hb); replace HB := Sq.bs HB hb; (try clear hb); (try clear hb2); (try clear hk); (try clear hi)))
     go_roundg k1
     case measure => have := HK1.out; omega
     case rel => exact ⟨(x6_1), (t344), (wrap64 (x8_1 - 1)), (by first | rfl | (simp; done) | (simp [*]; done)), H', ⟨by have := HK1.out; omega⟩, ⟨by (with_reducible repeat (first | apply Kd.R_alloc | apply Kd.R_drewN | apply Kd.R_drew)); exact Kd.R_mono HO_6.out (fun _ hk => hk.1)⟩, ⟨by (with_reducible repeat (first | apply Kd.V_alloc | apply Kd.V_drewN | apply Kd.V_drew)); exact HO346.out⟩, ⟨Sq.bl HB⟩⟩
   ·rw [if_neg c7] at H
    have c7b0 : decide (0 ≤ x8_1) = false := decide_eq_false c7
    clear c7
    replace H := Sq.bd H
    obtain ⟨t334, A36, H⟩ := H
    (try dsimp -simprocs only at H)
    simp only [Option.some.injEq, Prod.mk.injEq] at H
    obtain ⟨rfl, rfl⟩ := H
    obtain ⟨Ao37, co37, eo37⟩ := Kd.R_slice HO_6.out
    subst eo37
    go_wp2_with (first | ((with_reducible refine gate_callee (f := 107) rfl ?_); refine Sq.gl (some 38) Try.func107 #[.slice Ao37 x6_1.length co37] ?_; (with_reducible refine (foliotref01_cut.calls k1 (fun k_ => some k_ = (.slice Ao37 x6_1.length co37 : Value).ownBlock) _ _ x6_1 t334 _ ?side1 A36.out).mono ?_); (case side1 => exact Kd.R_V (Kd.R_tight rfl (HO_6.out))); rintro e w38 ⟨v335, rfl, ho0, hb⟩; refine ⟨_, rfl, ?_⟩; replace HO_7 := Aside0.mk (Kd.V_below (Sq.al HO_7) hb); have HO336 := Aside0.mk (Kd.V_lower (Kd.V_mono (ok' := fun k_ => (w.heap.size ≤ k_)) ho0 (fun k_ hk_ => Or.elim hk_ (fun hs_ => ((HO_6.out).1 k_ hs_.symm)) (fun hn_ => (Nat.le_trans (below_size (Sq.bl HB)) hn_)))) (below_size (Sq.bl HB))); replace HO_6 := Aside0.mk (Kd.R_below (Sq.al HO_6) hb); replace HB := Sq.bs HB hb; (try clear hb); (try clear hb2); (try clear hk); (try clear hi); (try clear ho0)))
    go_ret2
    exact ⟨_, _, by first | rfl | (simp [errW_none, errW_some] <;> rfl) | (simp [*, errW_none, errW_some] <;> rfl), by (with_reducible repeat (first | apply Kd.V_alloc | apply Kd.V_drewN | apply Kd.V_drew)); exact HO336.out, by (with_reducible repeat (first | apply Kd.V_alloc | apply Kd.V_drewN | apply Kd.V_drew)); exact Kd.V_mono HO_7.out (fun _ hk => hk.1), Sq.bl HB⟩
def foliotref01_Gcd.l0 : Nat → List Bool → List Bool → Option (List Int)
 | 0, _, _ => none
 | k + 1, x5, x6 => if (x6.length : Int) > 0 then ((foliotref01_div.f k x5 x6).bind fun bt358 => (foliotref01_Gcd.l0 k x6 bt358.2)) else ((foliotref01_Limbs.f k x5).bind fun t364 => (some t364))
def foliotref01_Gcd.f (k : Nat) (l0 : List Int) (l1 : List Int) : Option (List Int) := (foliotref01_Of.f k l0).bind fun t352 => ((foliotref01_Of.f k l1).bind fun t355 => (foliotref01_Gcd.l0 k t352 t355))
set_option maxHeartbeats 8000000 in
set_option maxRecDepth 100000 in
theorem foliotref01_Gcd.calls (k : Nat) (A0 : Option Addr) (c0 : Nat) (l0 : List Int) (A1 : Option Addr) (c1 : Nat) (l1 : List Int) (r : List Int) (w : World) (hr0 : Kd.C (Kd.int .u32) w A0 l0.length l0) (hc0 : l0.length ≤ c0) (hr1 : Kd.C (Kd.int .u32) w A1 l1.length l1) (hc1 : l1.length ≤ c1) (h : foliotref01_Gcd.f k l0 l1 = some r) :
 Calls Try.prog 57 #[.slice A0 l0.length c0, .slice A1 l1.length c1] w fun e w' => ∃ v0_ : Value, e = .returned (v0_) ∧ Kd.R (Kd.int .u32) 87 w' w.heap.size (fun _ => True) v0_ r ∧ Below w.heap.size w w' := by
 have HR0 := Aside0.mk hr0
 have HC0 := Aside0.mk hc0
 clear hr0 hc0
 have HR1 := Aside0.mk hr1
 have HC1 := Aside0.mk hc1
 clear hr1 hc1
 have HB := Aside0.mk (Below.refl w.heap.size w)
 have H : ((foliotref01_Of.f k l0).bind fun t352 => ((foliotref01_Of.f k l1).bind fun t355 => (foliotref01_Gcd.l0 k t352 t355))) = some r := h
 clear h
 replace H := Sq.bd H
 obtain ⟨t352, A3, H⟩ := H
 (try dsimp -simprocs only at H)
 replace H := Sq.bd H
 obtain ⟨t355, A4, H⟩ := H
 (try dsimp -simprocs only at H)
 have H' := Aside0.mk H
 clear H
 go_enter Try.func57, Try.ntmps57
 go_wp2_with (first | ((with_reducible refine gate_callee (f := 86) rfl ?_); refine Sq.gl (some 10) Try.func86 #[.slice A0 l0.length c0] ?_; (with_reducible refine (foliotref01_Of.calls k _ _ l0 t352 _ ?side1 ?side2 A3.out).mono ?_); (case side1 => repeat (first | exact HR0.out | (with_reducible refine Kd.C_alloc ?_ _) | (with_reducible refine Kd.C_drewN ?_ _) | (with_reducible refine Kd.C_drew ?_))); (case side2 => exact HC0.out); rintro e w5 ⟨v353, rfl, ho0, hb⟩; refine ⟨_, rfl, ?_⟩; have HO354 := Aside0.mk (Kd.V_lower (Kd.V_mono (ok' := fun k_ => True) ho0 (fun k_ hk_ => trivial)) (below_size (Sq.bl HB))); replace HB := Sq.bs HB hb; (try clear hb); (try clear hb2); (try clear hk); (try clear hi); (try clear ho0)) | ((with_reducible refine gate_callee (f := 86) rfl ?_); refine Sq.gl (some 12) Try.func86 #[.slice A1 l1.length c1] ?_; (with_reducible refine (foliotref01_Of.calls k _ _ l1 t355 _ ?side1 ?side2 A4.out).mono ?_); (case side1 => exact Sq.ca (Kd.C_below HR1.out HB.out)); (case side2 => exact HC1.out); rintro e w6 ⟨v356, rfl, ho0, hb⟩; refine ⟨_, rfl, ?_⟩; replace HO354 := Aside0.mk (Kd.V_below (Sq.al HO354) hb); have HO357 := Aside0.mk (Kd.V_lower (Kd.V_mono (ok' := fun k_ => True) ho0 (fun k_ hk_ => trivial)) (below_size (Sq.bl HB))); replace HB := Sq.bs HB hb; (try clear hb); (try clear hb2); (try clear hk); (try clear hi); (try clear ho0)))
 go_loopg [5, 6] k (fun kq v5 v6 w' => ∃ (x5_1 : List Bool) (x6_1 : List Bool), Aside0 (foliotref01_Gcd.l0 kq x5_1 x6_1 = some r) ∧ Aside0 (kq ≤ k) ∧ Aside0 (Kd.V Kd.bool 4 w' w.heap.size (fun _ => True) v5 x5_1) ∧ Aside0 (Kd.V Kd.bool 4 w' w.heap.size (fun _ => True) v6 x6_1) ∧ Aside0 (Below w.heap.size w w'))
 case atStart => exact ⟨(t352), (t355), H', ⟨Nat.le_refl _⟩, ⟨by (with_reducible repeat (first | apply Kd.V_alloc | apply Kd.V_drewN | apply Kd.V_drew)); exact HO354.out⟩, ⟨by (with_reducible repeat (first | apply Kd.V_alloc | apply Kd.V_drewN | apply Kd.V_drew)); exact HO357.out⟩, ⟨Sq.bl HB⟩⟩
 case round =>
  clear H'
  try clear c1
  try clear p2
  try clear c5
  obtain ⟨x5_1, x6_1, HA, HK1, HO_5, HO_6, HB⟩ := hrel
  cases gk with
  | zero => exact absurd HA.out (by simp [foliotref01_Gcd.l0])
  | succ k1 =>
   have H := HA.out
   clear HA
   simp only [foliotref01_Gcd.l0] at H
   by_cases c7 : (x6_1.length : Int) > 0
   ·rw [if_pos c7] at H
    have c7b0 : decide (0 < (x6_1.length : Int)) = true := decide_eq_true c7
    have c7b1 : decide (0 < x6_1.length) = true := decide_eq_true (by omega)
    clear c7
    replace H := Sq.bd H
    obtain ⟨⟨t358, t361⟩, A8, H⟩ := H
    (try dsimp -simprocs only at H)
    have H' := Aside0.mk H
    clear H
    obtain ⟨Ao9, co9, eo9⟩ := Kd.V_slice HO_6.out
    subst eo9
    obtain ⟨Ao10, co10, eo10⟩ := Kd.V_slice HO_5.out
    subst eo10
    go_wp2_with (first | ((with_reducible refine gate_callee (f := 89) rfl ?_); refine Sq.gl (some 19) Try.func89 #[.slice Ao10 x5_1.length co10, .slice Ao9 x6_1.length co9] ?_; (with_reducible refine (foliotref01_div.calls k1 _ _ x5_1 _ _ x6_1 t358 t361 _ ?side1 ?side2 ?side3 ?side4 A8.out).mono ?_); (case side1 => exact Sq.ca (Kd.V_reads' HO_5.out).2.2); (case side2 => exact (Kd.V_reads' HO_5.out).2.1); (case side3 => exact Sq.ca (Kd.V_reads' HO_6.out).2.2); (case side4 => exact (Kd.V_reads' HO_6.out).2.1); rintro e w11 ⟨v359, v362, rfl, ho0, ho1, hb⟩; refine ⟨_, rfl, ?_⟩; replace HO_5 := Aside0.mk (Kd.V_below (Sq.al HO_5) hb); replace HO_6 := Aside0.mk (Kd.V_below (Sq.al HO_6) hb); have HO360 := Aside0.mk (Kd.V_lower (Kd.V_mono (ok' := fun k_ => True) ho0 (fun k_ hk_ => trivial)) (below_size (Sq.bl HB))); have HO363 := Aside0.mk (Kd.V_lower (Kd.V_mono (ok' := fun k_ => True) ho1 (fun k_ hk_ => trivial)) (below_size (Sq.bl HB))); replace HB := Sq.bs HB hb; (try clear hb); (try clear hb2); (try clear hk); (try clear hi); (try clear ho0); (try clear ho1)))
    go_roundg k1
    case measure => have := HK1.out; omega
    case rel => exact ⟨(x6_1), (t361), H', ⟨by have := HK1.out; omega⟩, ⟨by (with_reducible repeat (first | apply Kd.V_alloc | apply Kd.V_drewN | apply Kd.V_drew)); exact HO_6.out⟩, ⟨by (with_reducible repeat (first | apply Kd.V_alloc | apply Kd.V_drewN | apply Kd.V_drew)); exact HO363.out⟩, ⟨Sq.bl HB⟩⟩
   ·rw [if_neg c7] at H
    have c7b0 : decide (0 < (x6_1.length : Int)) = false := decide_eq_false c7
    have c7b1 : decide (0 < x6_1.length) = false := decide_eq_false (by omega)
    clear c7
    replace H := Sq.bd H
    obtain ⟨t364, A12, H⟩ := H
    (try dsimp -simprocs only at H)
    obtain rfl := Option.some.inj H
    obtain ⟨Ao13, co13, eo13⟩ := Kd.V_slice HO_6.out
    subst eo13
    obtain ⟨Ao14, co14, eo14⟩ := Kd.V_slice HO_5.out
    subst eo14
    go_wp2_with (first | ((with_reducible refine gate_callee (f := 88) rfl ?_); refine Sq.gl (some 25) Try.func88 #[.slice Ao14 x5_1.length co14] ?_; (with_reducible refine (foliotref01_Limbs.calls k1 _ _ x5_1 t364 _ ?side1 ?side2 A12.out).mono ?_); (case side1 => exact Sq.ca (Kd.V_reads' HO_5.out).2.2); (case side2 => exact (Kd.V_reads' HO_5.out).2.1); rintro e w15 ⟨v365, rfl, ho0, hb⟩; refine ⟨_, rfl, ?_⟩; replace HO_5 := Aside0.mk (Kd.V_elder' (Sq.al HO_5) (Kd.R_base ho0) hb); replace HO_6 := Aside0.mk (Kd.V_elder' (Sq.al HO_6) (Kd.R_base ho0) hb); have HO366 := Aside0.mk (Kd.R_lower ho0 (below_size (Sq.bl HB))); replace HB := Sq.bs HB hb; (try clear hb); (try clear hb2); (try clear hk); (try clear hi); (try clear ho0)))
    go_ret
    exact ⟨_, by first | rfl | (simp [errW_none, errW_some] <;> rfl) | (simp [*, errW_none, errW_some] <;> rfl), by (with_reducible repeat (first | apply Kd.R_alloc | apply Kd.R_drewN | apply Kd.R_drew)); exact HO366.out, Sq.bl HB⟩
def foliotref01_Div.f (k : Nat) (l0 : List Int) (l1 : List Int) : Option (List Int × List Int × Int) := (foliotref01_Of.f k l0).bind fun t367 => ((foliotref01_Of.f k l1).bind fun t370 => (if (t370.length : Int) = 0 then (some (([] : List Int), ([] : List Int), 3)) else ((foliotref01_div.f k t367 t370).bind fun bt373 => ((foliotref01_Limbs.f k bt373.1).bind fun t379 => ((foliotref01_Limbs.f k bt373.2).bind fun t382 => (some (t379, t382, 0)))))))
set_option maxHeartbeats 8000000 in
set_option maxRecDepth 100000 in
theorem foliotref01_Div.calls (k : Nat) (A0 : Option Addr) (c0 : Nat) (l0 : List Int) (A1 : Option Addr) (c1 : Nat) (l1 : List Int) (r1 : List Int) (r2 : List Int) (r3 : Int) (w : World) (hr0 : Kd.C (Kd.int .u32) w A0 l0.length l0) (hc0 : l0.length ≤ c0) (hr1 : Kd.C (Kd.int .u32) w A1 l1.length l1) (hc1 : l1.length ≤ c1) (h : foliotref01_Div.f k l0 l1 = some (r1, r2, r3)) :
 Calls Try.prog 58 #[.slice A0 l0.length c0, .slice A1 l1.length c1] w fun e w' => ∃ v0_ v1_ : Value, e = .returned (.tuple #[v0_, v1_, .int .i64 r3]) ∧ Kd.R (Kd.int .u32) 87 w' w.heap.size (fun k_ => some k_ ≠ (v1_ : Value).ownBlock) v0_ r1 ∧ Kd.R (Kd.int .u32) 87 w' w.heap.size (fun k_ => some k_ ≠ (v0_ : Value).ownBlock) v1_ r2 ∧ Below w.heap.size w w' := by
 have HR0 := Aside0.mk hr0
 have HC0 := Aside0.mk hc0
 clear hr0 hc0
 have HR1 := Aside0.mk hr1
 have HC1 := Aside0.mk hc1
 clear hr1 hc1
 have HB := Aside0.mk (Below.refl w.heap.size w)
 have H : ((foliotref01_Of.f k l0).bind fun t367 => ((foliotref01_Of.f k l1).bind fun t370 => (if (t370.length : Int) = 0 then (some (([] : List Int), ([] : List Int), 3)) else ((foliotref01_div.f k t367 t370).bind fun bt373 => ((foliotref01_Limbs.f k bt373.1).bind fun t379 => ((foliotref01_Limbs.f k bt373.2).bind fun t382 => (some (t379, t382, 0)))))))) = some (r1, r2, r3) := h
 clear h
 replace H := Sq.bd H
 obtain ⟨t367, A3, H⟩ := H
 (try dsimp -simprocs only at H)
 replace H := Sq.bd H
 obtain ⟨t370, A4, H⟩ := H
 (try dsimp -simprocs only at H)
 by_cases c5 : (t370.length : Int) = 0
 ·rw [if_pos c5] at H
  have c5b0 : ((t370.length : Int) == 0) = true := beq_iff_eq.mpr c5
  have c5b1 : ((t370.length : Int) != 0) = false := bne_eq_false_iff_eq.mpr c5
  clear c5
  simp only [Option.some.injEq, Prod.mk.injEq] at H
  obtain ⟨rfl, rfl, rfl⟩ := H
  go_enter Try.func58, Try.ntmps58
  go_wp2_with (first | ((with_reducible refine gate_callee (f := 86) rfl ?_); refine Sq.gl (some 12) Try.func86 #[.slice A0 l0.length c0] ?_; (with_reducible refine (foliotref01_Of.calls k _ _ l0 t367 _ ?side1 ?side2 A3.out).mono ?_); (case side1 => repeat (first | exact HR0.out | (with_reducible refine Kd.C_alloc ?_ _) | (with_reducible refine Kd.C_drewN ?_ _) | (with_reducible refine Kd.C_drew ?_))); (case side2 => exact HC0.out); rintro e w6 ⟨v368, rfl, ho0, hb⟩; refine ⟨_, rfl, ?_⟩; have HO369 := Aside0.mk (Kd.V_lower (Kd.V_mono (ok' := fun k_ => True) ho0 (fun k_ hk_ => trivial)) (below_size (Sq.bl HB))); replace HB := Sq.bs HB hb; (try clear hb); (try clear hb2); (try clear hk); (try clear hi); (try clear ho0)) | ((with_reducible refine gate_callee (f := 86) rfl ?_); refine Sq.gl (some 14) Try.func86 #[.slice A1 l1.length c1] ?_; (with_reducible refine (foliotref01_Of.calls k _ _ l1 t370 _ ?side1 ?side2 A4.out).mono ?_); (case side1 => exact Sq.ca (Kd.C_below HR1.out HB.out)); (case side2 => exact HC1.out); rintro e w7 ⟨v371, rfl, ho0, hb⟩; refine ⟨_, rfl, ?_⟩; replace HO369 := Aside0.mk (Kd.V_below (Sq.al HO369) hb); have HO372 := Aside0.mk (Kd.V_lower (Kd.V_mono (ok' := fun k_ => True) ho0 (fun k_ hk_ => trivial)) (below_size (Sq.bl HB))); replace HB := Sq.bs HB hb; (try clear hb); (try clear hb2); (try clear hk); (try clear hi); (try clear ho0); obtain ⟨Ao8, co8, eo8⟩ := Kd.V_slice HO372.out; subst eo8))
  go_ret3
  exact ⟨_, _, by first | rfl | (simp [errW_none, errW_some] <;> rfl) | (simp [*, errW_none, errW_some] <;> rfl), by first | exact Kd.R_nil _ _ _ _ _ | exact Kd.N_nil _ _ _ _ _ | exact Kd.V_nil _ _ _ _ _ | exact Kd.Q_nil _ _ _ _ _ | exact Kd.S_nil _ _ _ _ _, by first | exact Kd.R_nil _ _ _ _ _ | exact Kd.N_nil _ _ _ _ _ | exact Kd.V_nil _ _ _ _ _ | exact Kd.Q_nil _ _ _ _ _ | exact Kd.S_nil _ _ _ _ _, Sq.bl HB⟩
 ·rw [if_neg c5] at H
  have c5b0 : ((t370.length : Int) == 0) = false := beq_eq_false_iff_ne.mpr c5
  have c5b1 : ((t370.length : Int) != 0) = true := bne_iff_ne.mpr c5
  have c5b2 : ¬ (t370 = []) := fun h_ => c5 (by rw [h_]; rfl)
  replace H := Sq.bd H
  obtain ⟨⟨t373, t376⟩, A9, H⟩ := H
  (try dsimp -simprocs only at H)
  replace H := Sq.bd H
  obtain ⟨t379, A10, H⟩ := H
  (try dsimp -simprocs only at H)
  replace H := Sq.bd H
  obtain ⟨t382, A11, H⟩ := H
  (try dsimp -simprocs only at H)
  simp only [Option.some.injEq, Prod.mk.injEq] at H
  obtain ⟨rfl, rfl, rfl⟩ := H
  go_enter Try.func58, Try.ntmps58
  go_wp2_with (first | ((with_reducible refine gate_callee (f := 86) rfl ?_); refine Sq.gl (some 12) Try.func86 #[.slice A0 l0.length c0] ?_; (with_reducible refine (foliotref01_Of.calls k _ _ l0 t367 _ ?side1 ?side2 A3.out).mono ?_); (case side1 => repeat (first | exact HR0.out | (with_reducible refine Kd.C_alloc ?_ _) | (with_reducible refine Kd.C_drewN ?_ _) | (with_reducible refine Kd.C_drew ?_))); (case side2 => exact HC0.out); rintro e w12 ⟨v368, rfl, ho0, hb⟩; refine ⟨_, rfl, ?_⟩; have HO369 := Aside0.mk (Kd.V_lower (Kd.V_mono (ok' := fun k_ => True) ho0 (fun k_ hk_ => trivial)) (below_size (Sq.bl HB))); replace HB := Sq.bs HB hb; (try clear hb); (try clear hb2); (try clear hk); (try clear hi); (try clear ho0)) | ((with_reducible refine gate_callee (f := 86) rfl ?_); refine Sq.gl (some 14) Try.func86 #[.slice A1 l1.length c1] ?_; (with_reducible refine (foliotref01_Of.calls k _ _ l1 t370 _ ?side1 ?side2 A4.out).mono ?_); (case side1 => exact Sq.ca (Kd.C_below HR1.out HB.out)); (case side2 => exact HC1.out); rintro e w13 ⟨v371, rfl, ho0, hb⟩; refine ⟨_, rfl, ?_⟩; replace HO369 := Aside0.mk (Kd.V_below (Sq.al HO369) hb); have HO372 := Aside0.mk (Kd.V_lower (Kd.V_mono (ok' := fun k_ => True) ho0 (fun k_ hk_ => trivial)) (below_size (Sq.bl HB))); replace HB := Sq.bs HB hb; (try clear hb); (try clear hb2); (try clear hk); (try clear hi); (try clear ho0); obtain ⟨Ao14, co14, eo14⟩ := Kd.V_slice HO372.out; subst eo14; obtain ⟨Ao15, co15, eo15⟩ := Kd.V_slice HO369.out; subst eo15) | ((with_reducible refine gate_callee (f := 89) rfl ?_); refine Sq.gl (some 21) Try.func89 #[.slice Ao15 t367.length co15, .slice Ao14 t370.length co14] ?_; (with_reducible refine (foliotref01_div.calls k _ _ t367 _ _ t370 t373 t376 _ ?side1 ?side2 ?side3 ?side4 A9.out).mono ?_); (case side1 => exact Sq.ca (Kd.V_reads' HO369.out).2.2); (case side2 => exact (Kd.V_reads' HO369.out).2.1); (case side3 => exact Sq.ca (Kd.V_reads' HO372.out).2.2); (case side4 => exact (Kd.V_reads' HO372.out).2.1); rintro e w16 ⟨v374, v377, rfl, ho0, ho1, hb⟩; refine ⟨_, rfl, ?_⟩; replace HO369 := Aside0.mk (Kd.V_below (Sq.al HO369) hb); replace HO372 := Aside0.mk (Kd.V_below (Sq.al HO372) hb); have HO375 := Aside0.mk (Kd.V_lower (Kd.V_mono (ok' := fun k_ => True) ho0 (fun k_ hk_ => trivial)) (below_size (Sq.bl HB))); have HO378 := Aside0.mk (Kd.V_lower (Kd.V_mono (ok' := fun k_ => True) ho1 (fun k_ hk_ => trivial)) (below_size (Sq.bl HB))); replace HB := Sq.bs HB hb; (try clear hb); (try clear hb2); (try clear hk); (try clear hi); (try clear ho0); (try clear ho1); obtain ⟨Ao17, co17, eo17⟩ := Kd.V_slice HO375.out; subst eo17) | ((with_reducible refine gate_callee (f := 88) rfl ?_); refine Sq.gl (some 25) Try.func88 #[.slice Ao17 t373.length co17] ?_; (with_reducible refine (foliotref01_Limbs.calls k _ _ t373 t379 _ ?side1 ?side2 A10.out).mono ?_); (case side1 => exact Sq.ca (Kd.V_reads' HO375.out).2.2); (case side2 => exact (Kd.V_reads' HO375.out).2.1); rintro e w18 ⟨v380, rfl, ho0, hb⟩; refine ⟨_, rfl, ?_⟩; replace HO369 := Aside0.mk (Kd.V_elder' (Sq.al HO369) (Kd.R_base ho0) hb); replace HO372 := Aside0.mk (Kd.V_elder' (Sq.al HO372) (Kd.R_base ho0) hb); replace HO375 := Aside0.mk (Kd.V_elder' (Sq.al HO375) (Kd.R_base ho0) hb); replace HO378 := Aside0.mk (Kd.V_elder' (Sq.al HO378) (Kd.R_base ho0) hb); have HO381 := Aside0.mk (Kd.R_lower ho0 (below_size (Sq.bl HB))); replace HB := Sq.bs HB hb; (try clear hb); (try clear hb2); (try clear hk); (try clear hi); (try clear ho0); obtain ⟨Ao19, co19, eo19⟩ := Kd.V_slice HO378.out; subst eo19) | ((with_reducible refine gate_callee (f := 88) rfl ?_); refine Sq.gl (some 27) Try.func88 #[.slice Ao19 t376.length co19] ?_; (with_reducible refine (foliotref01_Limbs.calls k _ _ t376 t382 _ ?side1 ?side2 A11.out).mono ?_); (case side1 => exact Sq.ca (Kd.V_reads' HO378.out).2.2); (case side2 => exact (Kd.V_reads' HO378.out).2.1); rintro e w20 ⟨v383, rfl, ho0, hb⟩; refine ⟨_, rfl, ?_⟩; replace HO369 := Aside0.mk (Kd.V_elder' (Sq.al HO369) (Kd.R_base ho0) hb); replace HO372 := Aside0.mk (Kd.V_elder' (Sq.al HO372) (Kd.R_base ho0) hb); replace HO375 := Aside0.mk (Kd.V_elder' (Sq.al HO375) (Kd.R_base ho0) hb); replace HO378 := Aside0.mk (Kd.V_elder' (Sq.al HO378) (Kd.R_base ho0) hb); have HO384 := Aside0.mk (Kd.R_lower (Kd.R_new' ho0 (Kd.R_lt (Sq.al HO381))) (below_size (Sq.bl HB))); replace HO381 := Aside0.mk (Kd.R_elder' (Sq.al HO381) (Kd.R_base ho0) hb); replace HB := Sq.bs HB hb; (try clear hb); (try clear hb2); (try clear hk); (try clear hi); (try clear ho0)))
  go_ret3
  exact ⟨_, _, by first | rfl | (simp [errW_none, errW_some] <;> rfl) | (simp [*, errW_none, errW_some] <;> rfl), by (with_reducible repeat (first | apply Kd.R_alloc | apply Kd.R_drewN | apply Kd.R_drew)); exact Kd.R_mono HO381.out (fun _ hk => hk.2), by (with_reducible repeat (first | apply Kd.R_alloc | apply Kd.R_drewN | apply Kd.R_drew)); exact Kd.R_mono HO384.out (fun _ hk => hk.2), Sq.bl HB⟩
end Go.Proofs.Ytjfkhbkddenfoaa.N
