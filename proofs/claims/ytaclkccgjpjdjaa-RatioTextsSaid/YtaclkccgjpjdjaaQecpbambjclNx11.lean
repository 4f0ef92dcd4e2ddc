import Derived.Test.YtaclkccgjpjdjaaQemgcbmfiflNx0
import Derived.Test.YtaclkccgjpjdjaaQmkclageiacNx1
import Derived.Test.YtaclkccgjpjdjaaQjpoceikpiaNx7
import Derived.Test.YtaclkccgjpjdjaaQjcimbkdfckNx8
import Derived.Test.YtaclkccgjpjdjaaQempeaoghicNx9
import Derived.Test.YtaclkccgjpjdjaaQpbgibbbgddM
namespace Go.Proofs.Ytaclkccgjpjdjaa.N
open Go.RowKit Go.Proofs.YtaclkccgjpjdjaaW.PrintWords Go.Proofs.YtaclkccgjpjdjaaW.PrintLast Go.Proofs.YtaclkccgjpjdjaaW.PrintMore
attribute [local go_sem] max2_int min2_int max_two min_two max_three min_three max_four min_four   -- for this text's walks alone
set_option linter.unusedVariables false
set_option linter.unusedSimpArgs false
def nat_Bits.f (k : Nat) (l0 : List Int) : Option (Int) := (nat_cut.f k l0).bind fun t594 => (if (t594.length : Int) = 0 then (some 0) else (if 0 ≤ (wrap64 ((t594.length : Int) - 1)) then (if (wrap64 ((t594.length : Int) - 1)) < (t594.length : Int) then ((bits_Len32.f (rd t594 (wrap64 ((t594.length : Int) - 1)))).bind fun t598 => (some (wrap64 ((wrap64 (32 * (wrap64 ((t594.length : Int) - 1)))) + t598)))) else (none)) else (none)))
set_option maxHeartbeats 8000000 in
set_option maxRecDepth 100000 in
theorem nat_Bits.calls (k : Nat) (A0 : Option Addr) (c0 : Nat) (l0 : List Int) (r : Int) (w : World) (hr0 : Kd.C (Kd.int .u32) w A0 l0.length l0) (hc0 : l0.length ≤ c0) (h : nat_Bits.f k l0 = some r) :
  Calls Try.prog 50 #[.slice A0 l0.length c0] w fun e w' => e = .returned (.int .i64 r) ∧ Below w.heap.size w w' := by
 have HR0 := Aside0.mk hr0
 have HC0 := Aside0.mk hc0
 clear hr0 hc0
 have HB := Aside0.mk (Below.refl w.heap.size w)
 have H : ((nat_cut.f k l0).bind fun t594 => (if (t594.length : Int) = 0 then (some 0) else (if 0 ≤ (wrap64 ((t594.length : Int) - 1)) then (if (wrap64 ((t594.length : Int) - 1)) < (t594.length : Int) then ((bits_Len32.f (rd t594 (wrap64 ((t594.length : Int) - 1)))).bind fun t598 => (some (wrap64 ((wrap64 (32 * (wrap64 ((t594.length : Int) - 1)))) + t598)))) else (none)) else (none)))) = some r := h
 clear h
 replace H := Sq.bd H
 obtain ⟨t594, A2, H⟩ := H
 (try dsimp -simprocs only at H)
 by_cases c3 : (t594.length : Int) = 0
 ·rw [if_pos c3] at H
  have c3b0 : ((t594.length : Int) == 0) = true := beq_iff_eq.mpr c3
  have c3b1 : ((t594.length : Int) != 0) = false := bne_eq_false_iff_eq.mpr c3
  clear c3
  obtain rfl := Option.some.inj H
  go_enter Try.func50, Try.ntmps50
  go_wp2_with (first | ((with_reducible refine gate_callee (f := 127) rfl ?_); refine Sq.gl (some 4) Try.func127 #[.slice A0 l0.length c0] ?_; (with_reducible refine (nat_cut.calls k (fun k_ => k_ < w.heap.size) _ _ l0 t594 _ ?side1 A2.out).mono ?_); (case side1 => exact Kd.V_mk HC0.out (Kd.F_below (Kd.C_F (Kd.heap_int .u32) HR0.out) (Sq.bl HB))); rintro e w4 ⟨v595, rfl, ho0, hb⟩; refine ⟨_, rfl, ?_⟩; have HO596 := Aside0.mk (Kd.V_lower (Kd.V_mono (ok' := fun k_ => True) ho0 (fun k_ hk_ => trivial)) (below_size (Sq.bl HB))); replace HB := Sq.bs HB hb; (try clear hb); (try clear hb2); (try clear hk); (try clear hi); (try clear ho0); obtain ⟨Ao5, co5, eo5⟩ := Kd.V_slice HO596.out; subst eo5))
  go_ret
  exact ⟨by first | rfl | (simp [errW_none, errW_some] <;> rfl) | (simp [*, errW_none, errW_some] <;> rfl), Sq.bl HB⟩
 ·rw [if_neg c3] at H
  have c3b0 : ((t594.length : Int) == 0) = false := beq_eq_false_iff_ne.mpr c3
  have c3b1 : ((t594.length : Int) != 0) = true := bne_iff_ne.mpr c3
  have c3b2 : ¬ (t594 = []) := fun h_ => c3 (by rw [h_]; rfl)
  obtain ⟨ji6, hji6⟩ : ∃ j_ : Int, (wrap64 ((t594.length : Int) - 1)) = j_ := ⟨_, rfl⟩
  (first | rw [hji6] at H | simp only [hji6] at H)
  (try rw [hji6] at A2)
  have hji6w : (IntKind.i64.wrap ((t594.length : Int) - 1)) = ji6 := (i64_w _).trans hji6
  replace H := Sq.ifs H
  obtain ⟨c7, H⟩ := H
  have c7b0 : decide (0 ≤ (ji6)) = true := decide_eq_true c7
  clear c7
  replace H := Sq.ifs H
  obtain ⟨c8, H⟩ := H
  have c8b0 : decide ((ji6) < (t594.length : Int)) = true := decide_eq_true c8
  clear c8
  replace H := Sq.bd H
  obtain ⟨t598, A9, H⟩ := H
  (try dsimp -simprocs only at H)
  obtain rfl := Option.some.inj H
  go_enter Try.func50, Try.ntmps50
  go_wp2_with (first | ((with_reducible refine gate_callee (f := 127) rfl ?_); refine Sq.gl (some 4) Try.func127 #[.slice A0 l0.length c0] ?_; (with_reducible refine (nat_cut.calls k (fun k_ => k_ < w.heap.size) _ _ l0 t594 _ ?side1 A2.out).mono ?_); (case side1 => exact Kd.V_mk HC0.out (Kd.F_below (Kd.C_F (Kd.heap_int .u32) HR0.out) (Sq.bl HB))); rintro e w10 ⟨v595, rfl, ho0, hb⟩; refine ⟨_, rfl, ?_⟩; have HO596 := Aside0.mk (Kd.V_lower (Kd.V_mono (ok' := fun k_ => True) ho0 (fun k_ hk_ => trivial)) (below_size (Sq.bl HB))); replace HB := Sq.bs HB hb; (try clear hb); (try clear hb2); (try clear hk); (try clear hi); (try clear ho0); obtain ⟨Ao11, co11, eo11⟩ := Kd.V_slice HO596.out; subst eo11; have p597 : 0 ≤ ((ji6) : Int) := of_decide_eq_true (by first | (with_reducible assumption) | assumption); have q597 : (ji6) < (t594.length : Int) := of_decide_eq_true (by first | (with_reducible assumption) | assumption); obtain ⟨ad597, e597, hx597_0⟩ := Kd.at_int (Kd.V_reads' HO596.out).2.2 (ji6) p597 q597; cases e597; replace p597 := eq_true p597; replace q597 := eq_true q597) | ((with_reducible refine gate_callee (f := 146) rfl ?_); refine goesL_ (some 18) rfl rfl Try.func146 (by kernel_rfl) rfl #[.int .u32 (rd t594 (ji6))] rfl (by (try simp only [List.map_toArray, List.map_cons, List.map_nil]); first | done | (simp only [hji6]; rfl) | rfl | (simp only [List.length_drop, List.length_take]; rfl)) ?_; (with_reducible refine (bits_Len32.calls (rd t594 (ji6)) t598 _ A9.out).mono ?_); rintro e w' ⟨rfl, ⟨nd, rfl⟩⟩; refine ⟨_, rfl, ?_⟩))
  go_ret
  exact ⟨by first | rfl | (simp [errW_none, errW_some] <;> rfl) | (simp only [← hji6]; first | rfl | (simp [errW_none, errW_some] <;> rfl)) | (simp [*, errW_none, errW_some] <;> rfl), Sq.bl HB⟩
def foliotref01_div.l0 : Nat → List Bool → List Bool → List Bool → List Bool → Int → Option (List Bool × List Bool)
 | 0, _, _, _, _, _ => none
 | k + 1, x0, x1, x6, x7, x8 => if x8 ≥ 0 then (if 0 ≤ x8 then (if x8 < (x0.length : Int) then ((some (([rdOf false x0 x8] : List Bool) : List Bool)).bind fun y644 => (if y644.length + x7.length < 140737488355328 then ((foliotref01_cut.f k (y644 ++ x7)).bind fun t650 => ((foliotref01_cmp.f k t650 x1).bind fun t653 => (if t653 ≥ 0 then ((foliotref01_sub.f k t650 x1).bind fun t654 => (if x8 < (x6.length : Int) then (foliotref01_div.l0 k x0 x1 (x6.set (x8 : Int).toNat true) t654 (wrap64 (x8 - 1))) else (none))) else (foliotref01_div.l0 k x0 x1 x6 t650 (wrap64 (x8 - 1)))))) else (none))) else (none)) else (none)) else ((foliotref01_cut.f k x6).bind fun t640 => (some (t640, x7)))
def foliotref01_div.f (k : Nat) (l0 : List Bool) (l1 : List Bool) : Option (List Bool × List Bool) := if 0 ≤ (l0.length : Int) then (if ((l0.length : Int) : Int).toNat ≤ 281474976710656 then (foliotref01_div.l0 k l0 l1 (List.replicate ((l0.length : Int) : Int).toNat false) ([] : List Bool) (wrap64 ((l0.length : Int) - 1))) else (none)) else (none)
set_option maxHeartbeats 8000000 in
set_option maxRecDepth 100000 in
theorem foliotref01_div.calls (k : Nat) (A0 : Option Addr) (c0 : Nat) (l0 : List Bool) (A1 : Option Addr) (c1 : Nat) (l1 : List Bool) (r1 : List Bool) (r2 : List Bool) (w : World) (hr0 : Kd.C Kd.bool w A0 l0.length l0) (hc0 : l0.length ≤ c0) (hr1 : Kd.C Kd.bool w A1 l1.length l1) (hc1 : l1.length ≤ c1) (h : foliotref01_div.f k l0 l1 = some (r1, r2)) :
  Calls Try.prog 136 #[.slice A0 l0.length c0, .slice A1 l1.length c1] w fun e w' => ∃ v0_ v1_ : Value, e = .returned (.tuple #[v0_, v1_]) ∧ Kd.V Kd.bool 4 w' w.heap.size (fun k_ => (w.heap.size ≤ k_)) v0_ r1 ∧ Kd.V Kd.bool 4 w' w.heap.size (fun k_ => (w.heap.size ≤ k_)) v1_ r2 ∧ Below w.heap.size w w' := by
 have HR0 := Aside0.mk hr0
 have HC0 := Aside0.mk hc0
 clear hr0 hc0
 have HR1 := Aside0.mk hr1
 have HC1 := Aside0.mk hc1
 clear hr1 hc1
 have HB := Aside0.mk (Below.refl w.heap.size w)
 have H : (if 0 ≤ (l0.length : Int) then (if ((l0.length : Int) : Int).toNat ≤ 281474976710656 then (foliotref01_div.l0 k l0 l1 (List.replicate ((l0.length : Int) : Int).toNat false) ([] : List Bool) (wrap64 ((l0.length : Int) - 1))) else (none)) else (none)) = some (r1, r2) := h
 clear h
 replace H := Sq.ifs H
 obtain ⟨c3, H⟩ := H
 have c3b0 := eq_true c3
 have c3b1 : decide (0 ≤ (l0.length : Int)) = true := decide_eq_true c3
 clear c3
 replace H := Sq.ifs H
 obtain ⟨c4, H⟩ := H
 have c4b0 := eq_true c4
 have c4b1 : decide (((l0.length : Int) : Int).toNat ≤ 281474976710656) = true := decide_eq_true c4
 clear c4
 obtain ⟨y637, hy637⟩ : ∃ y_ : List Bool, y_ = (List.replicate ((l0.length : Int) : Int).toNat false) := ⟨_, rfl⟩
 (first | (replace H := Sq.ny hy637 H; (try dsimp -simprocs only at H)) | rw [← hy637] at H | skip)
 have Ny637 := Aside0.mk hy637
 clear hy637
 have H' := Aside0.mk H
 clear H
 go_enter Try.func136, Try.ntmps136
 go_wp2_with (first | ((with_reducible refine gate_dst (N := 11) rfl ?_); refine Kd.R_make Kd.bool _ 4 rfl (N := 11) rfl 63 _ _ rfl (l0.length : Int) rfl rfl Try.underlying63 (.bool false) 1 info4 rfl (by decide) (by omega) false (ok := fun _ => True) (okp := fun _ => True) rfl (fun _ hk => hk) trivial (of_decide_eq_true (by first | (with_reducible assumption) | assumption)) (Nat.le_trans (Nat.mul_le_mul_right _ (of_decide_eq_true (by first | (with_reducible assumption) | assumption) : (l0.length : Int).toNat ≤ 281474976710656)) (by omega)) (Below.refl _ _) (Nat.le_refl _) ?_; intro v638 w5 ho6 hb hg_ hnew_; clear hg_ hnew_; (first | rw [← Ny637.out] at ho6 | (simp only [Int.reduceToNat] at ho6; rw [← Ny637.out] at ho6)); have HO639 := Aside0.mk (Kd.R_lower (Kd.R_newM (M := fun k_ => (w.heap.size ≤ k_)) ho6 (below_size (Sq.bl HB)) (fun k_ h_ => h_)) (below_size (Sq.bl HB))); replace HB := Sq.bs HB hb; clear hb ho6))
 go_loopg [7, 8] k (fun kq v7 v8 w' => ∃ (x6_1 : List Bool) (x7_1 : List Bool) (x8_1 : Int), v8 = .int .i64 x8_1 ∧ Aside0 (foliotref01_div.l0 kq l0 l1 x6_1 x7_1 x8_1 = some (r1, r2)) ∧ Aside0 (kq ≤ k) ∧ Aside0 (Kd.R Kd.bool 4 w' w.heap.size (fun k_ => (w.heap.size ≤ k_)) v638 x6_1) ∧ Aside0 (Kd.V Kd.bool 4 w' w.heap.size (fun k_ => (w.heap.size ≤ k_) ∧ some k_ ≠ (v638 : Value).ownBlock) v7 x7_1) ∧ Aside0 (Below w.heap.size w w'))
 case atStart => exact ⟨(y637), (([] : List Bool)), (wrap64 ((l0.length : Int) - 1)), (by first | rfl | (simp; done) | (simp [*]; done)), H', ⟨Nat.le_refl _⟩, ⟨by (with_reducible repeat (first | apply Kd.R_alloc | apply Kd.R_drewN | apply Kd.R_drew)); exact Kd.R_mono HO639.out (fun _ hk => hk.1)⟩, ⟨(by exact Kd.V_nil _ _ _ _ _)⟩, ⟨Sq.bl HB⟩⟩
 case round =>
  clear H'
  try clear c1
  try clear p2
  try clear c3
  try clear c3b0
  try clear c3b1
  try clear c4
  try clear c4b0
  try clear c4b1
  try clear p6
  obtain ⟨x6_1, x7_1, x8_1, rfl, HA, HK1, HO_6, HO_7, HB⟩ := hrel
  cases gk with
  | zero => exact absurd HA.out (by simp [foliotref01_div.l0])
  | succ k1 =>
   have H := HA.out
   clear HA
   simp only [foliotref01_div.l0] at H
   by_cases c7 : x8_1 ≥ 0
   ·rw [if_pos c7] at H
    have c7b0 : decide (0 ≤ x8_1) = true := decide_eq_true c7
    clear c7
    replace H := Sq.ifs H
    obtain ⟨c8, H⟩ := H
    have c8b0 : decide (0 ≤ x8_1) = true := decide_eq_true c8
    clear c8
    replace H := Sq.ifs H
    obtain ⟨c9, H⟩ := H
    have c9b0 : decide (x8_1 < (l0.length : Int)) = true := decide_eq_true c9
    clear c9
    obtain ⟨y644, hy644⟩ : ∃ y_ : List Bool, y_ = (([rdOf false l0 x8_1] : List Bool)) := ⟨_, rfl⟩
    (first | (replace H := Sq.ny hy644 H; (try dsimp -simprocs only at H)) | rw [← hy644] at H | skip)
    have Ny644 := Aside0.mk hy644
    clear hy644
    replace H := Sq.ifs H
    obtain ⟨c10, H⟩ := H
    have LMc10 := Aside0.mk c10
    clear c10
    obtain ⟨y647, hy647⟩ : ∃ y_ : List Bool, y_ = (y644 ++ x7_1) := ⟨_, rfl⟩
    (first | (replace H := Sq.ny hy647 H; (try dsimp -simprocs only at H)) | rw [← hy647] at H | skip)
    have Ny647 := Aside0.mk hy647
    clear hy647
    replace H := Sq.bd H
    obtain ⟨t650, A11, H⟩ := H
    (try dsimp -simprocs only at H)
    replace H := Sq.bd H
    obtain ⟨t653, A12, H⟩ := H
    (try dsimp -simprocs only at H)
    by_cases c13 : t653 ≥ 0
    ·rw [if_pos c13] at H
     have c13b0 : decide (0 ≤ t653) = true := decide_eq_true c13
     clear c13
     replace H := Sq.bd H
     obtain ⟨t654, A14, H⟩ := H
     (try dsimp -simprocs only at H)
     replace H := Sq.ifs H
     obtain ⟨c15, H⟩ := H
     have c15b0 : decide (x8_1 < (x6_1.length : Int)) = true := decide_eq_true c15
     clear c15
     obtain ⟨y657, hy657⟩ : ∃ y_ : List Bool, y_ = (x6_1.set (x8_1 : Int).toNat true) := ⟨_, rfl⟩
     (first | (replace H := Sq.ny hy657 H; (try dsimp -simprocs only at H)) | rw [← hy657] at H | skip)
     have Ny657 := Aside0.mk hy657
     clear hy657
     have H' := Aside0.mk H
     clear H
     have p643 : 0 ≤ (x8_1 : Int) := of_decide_eq_true (by first | (with_reducible assumption) | assumption)
     have q643 : x8_1 < (l0.length : Int) := of_decide_eq_true (by first | (with_reducible assumption) | assumption)
     obtain ⟨ad643, e643, hx643_0⟩ := Kd.at_bool HR0.out x8_1 p643 q643
     cases e643
     replace hx643_0 := (HB.out.cell (World.block_lt_of_cell? w _ hx643_0)).trans hx643_0
     replace p643 := eq_true p643
     replace q643 := eq_true q643
     go_wp2_with (first | ((with_reducible refine gate_dst (N := 23) rfl ?_); refine Kd.R_lit Kd.bool _ 4 ?hg (N := 23) ?hd (xs := ([rdOf false l0 x8_1] : List Bool)) (inner := [.bool (rdOf false l0 x8_1)]) (ok := fun _ => True) (okp := fun _ => True) ?hr ?hp (fun _ hk => hk) trivial (Below.refl _ _) (Nat.le_refl _) (by simp) ?_; (case hd => rfl); (case hg => rfl); (case hr => first | (go_simp; done) | (go_simp; rfl)); (case hp => exact (Reps.one (show Kd.M Kd.bool _ _ _ (rdOf false l0 x8_1) [.bool (rdOf false l0 x8_1)] from rfl) (Reps.none _ _))); intro v645 w17 ho18 hb hg_ hnew_; clear hg_ hnew_; (first | rw [← Ny644.out] at ho18 | (simp only [Int.reduceToNat] at ho18; rw [← Ny644.out] at ho18)); replace HO_7 := Aside0.mk (Kd.V_elder' (Sq.al HO_7) (Kd.R_base ho18) hb); have HO646 := Aside0.mk (Kd.R_lower (Kd.R_new' (Kd.R_newM (M := fun k_ => (w.heap.size ≤ k_)) ho18 (below_size (Sq.bl HB)) (fun k_ h_ => h_)) (Kd.R_lt (Sq.al HO_6))) (below_size (Sq.bl HB))); replace HO_6 := Aside0.mk (Kd.R_elder' (Sq.al HO_6) (Kd.R_base ho18) hb); replace HB := Sq.bs HB hb; clear hb ho18; obtain ⟨Ao20, co20, eo20⟩ := Kd.V_slice HO_7.out; subst eo20) | ((with_reducible refine gate_builtin (b := .append) (xs := #[.tmp 23, .tmp 24]) rfl ?_); at_builtin; refine Kd.R_append_rows Kd.bool (w0 := w) w.heap.size rfl (.tmp 23) (.tmp 24) 63 4 (.bool false) 1 rfl Try.underlying63 info4 rfl (by decide) (by omega) v645 y644 x7_1 _ _ _ (fun k_ => (w.heap.size ≤ k_) ∧ some k_ ≠ (v638 : Value).ownBlock) (fun _ => False) rfl rfl ?aO ?aR (fun _ _ h => h) (fun _ h => h.elim) ?aF ?aB ?aS ?aL ?_; (case aR => exact Sq.ca (Kd.V_reads' HO_7.out).2.2); (case aB => exact (Sq.bl HB)); (case aF => exact (fun k_ hk => ⟨(Nat.le_trans (below_size (Sq.bl HB)) hk), Kd.fresh' (Kd.R_lt (Sq.al HO_6)) k_ hk⟩)); (case aO => exact (by (with_reducible repeat (first | apply Kd.R_alloc | apply Kd.R_drewN | apply Kd.R_drew)); exact Kd.R_mono HO646.out (fun _ hk => ⟨hk.1.1, hk.2⟩))); (case aS => exact (below_size (Sq.bl HB))); (case aL => have := LMc10.out; omega); intro v648 w19 ho hb hg hat; rw [← Ny647.out] at ho; replace HO_6 := Aside0.mk (Kd.R_after (ok := (fun k_ => (w.heap.size ≤ k_))) (Sq.al HO_6) hg hat); replace HO_7 := Aside0.mk (Kd.V_afterv (ok := (fun k_ => (w.heap.size ≤ k_) ∧ some k_ ≠ (v638 : Value).ownBlock)) (Sq.al HO_7) hg hat); replace HB := Aside0.mk (hb); have HO649 := Aside0.mk (ho); clear HO646; clear ho hb hg hat; obtain ⟨Ao21, co21, eo21⟩ := Kd.R_slice HO649.out; subst eo21) | ((with_reducible refine gate_callee (f := 173) rfl ?_); refine Sq.gl (some 26) Try.func173 #[.slice Ao21 y647.length co21] ?_; (with_reducible refine (foliotref01_cut.calls k1 (fun k_ => some k_ = (.slice Ao21 y647.length co21 : Value).ownBlock) _ _ y647 t650 _ ?side1 A11.out).mono ?_); (case side1 => exact Kd.R_V (Kd.R_tight rfl (HO649.out))); rintro e w22 ⟨v651, rfl, ho0, hb⟩; refine ⟨_, rfl, ?_⟩; replace HO_7 := Aside0.mk (Kd.V_below (Sq.al HO_7) hb); have HO652 := Aside0.mk (Kd.V_lower (Kd.V_mono (ok' := fun k_ => (w.heap.size ≤ k_) ∧ some k_ ≠ (v638 : Value).ownBlock) ho0 (fun k_ hk_ => ⟨Or.elim hk_ (fun hs_ => ((HO649.out).1 k_ hs_.symm).1) (fun hn_ => (Nat.le_trans (below_size (Sq.bl HB)) hn_)), Or.elim hk_ (fun hs_ => ((HO649.out).1 k_ hs_.symm).2) (fun hn_ => (Kd.fresh' (Kd.R_lt (Sq.al HO_6)) k_ hn_))⟩)) (below_size (Sq.bl HB))); replace HO_6 := Aside0.mk (Kd.R_below (Sq.al HO_6) hb); replace HO649 := Aside0.mk (Kd.R_below (Sq.al HO649) hb); replace HB := Sq.bs HB hb; (try clear hb); (try clear hb2); (try clear hk); (try clear hi); (try clear ho0); obtain ⟨Ao23, co23, eo23⟩ := Kd.V_slice HO652.out; subst eo23) | ((with_reducible refine gate_callee (f := 143) rfl ?_); refine Sq.gl (some 29) Try.func143 #[.slice Ao23 t650.length co23, .slice A1 l1.length c1] ?_; (with_reducible refine (foliotref01_cmp.calls k1 _ _ t650 _ _ l1 t653 _ ?side1 ?side2 ?side3 ?side4 A12.out).mono ?_); (case side1 => exact Sq.ca (Kd.V_reads' HO652.out).2.2); (case side2 => exact (Kd.V_reads' HO652.out).2.1); (case side3 => exact Sq.ca (Kd.C_below HR1.out HB.out)); (case side4 => exact HC1.out); rintro e w24 ⟨rfl, hb⟩; refine ⟨_, rfl, ?_⟩; replace HO_6 := Aside0.mk (Kd.R_below (Sq.al HO_6) hb); replace HO_7 := Aside0.mk (Kd.V_below (Sq.al HO_7) hb); replace HO649 := Aside0.mk (Kd.R_below (Sq.al HO649) hb); replace HO652 := Aside0.mk (Kd.V_below (Sq.al HO652) hb); replace HB := Sq.bs HB hb; (try clear hb); (try clear hb2); (try clear hk); (try clear hi)) | ((with_reducible refine gate_callee (f := 144) rfl ?_); refine Sq.gl (some 33) Try.func144 #[.slice Ao23 t650.length co23, .slice A1 l1.length c1] ?_; (with_reducible refine (foliotref01_sub.calls k1 _ _ t650 _ _ l1 t654 _ ?side1 ?side2 ?side3 ?side4 A14.out).mono ?_); (case side1 => exact Sq.ca (Kd.V_reads' HO652.out).2.2); (case side2 => exact (Kd.V_reads' HO652.out).2.1); (case side3 => exact Sq.ca (Kd.C_below HR1.out HB.out)); (case side4 => exact HC1.out); rintro e w25 ⟨v655, rfl, ho0, hb⟩; refine ⟨_, rfl, ?_⟩; replace HO_7 := Aside0.mk (Kd.V_below (Sq.al HO_7) hb); replace HO652 := Aside0.mk (Kd.V_below (Sq.al HO652) hb); have HO656 := Aside0.mk (Kd.V_lower (Kd.V_mono (ok' := fun k_ => (w.heap.size ≤ k_) ∧ some k_ ≠ (v638 : Value).ownBlock ∧ some k_ ≠ (.slice Ao21 y647.length co21 : Value).ownBlock) ho0 (fun k_ hk_ => ⟨(Nat.le_trans (below_size (Sq.bl HB)) hk_), (Kd.fresh' (Kd.R_lt (Sq.al HO_6)) k_ hk_), (Kd.fresh' (Kd.R_lt (Sq.al HO649)) k_ hk_)⟩)) (below_size (Sq.bl HB))); replace HO_6 := Aside0.mk (Kd.R_below (Sq.al HO_6) hb); replace HO649 := Aside0.mk (Kd.R_below (Sq.al HO649) hb); replace HB := Sq.bs HB hb; (try clear hb); (try clear hb2); (try clear hk); (try clear hi); (try clear ho0); have p16 : 0 ≤ (x8_1 : Int) := of_decide_eq_true (by first | (with_reducible assumption) | assumption); have q16 : (x8_1 : Int) < ((x6_1.length : Int) : Int) := of_decide_eq_true (by first | (with_reducible assumption) | assumption); obtain ⟨go16, co16, eo16, gb16, gl16, cl16, HG16⟩ := Kd.R_form HO_6.out (by omega); (first | cases eo16 | (injection eo16 with ea_ en_ ec_; (first | subst ea_ | (injection ea_ with ea_; subst ea_)); subst ec_; clear en_)); have GB16 := Aside0.mk gb16; have GG16 := Aside0.mk HG16; clear gb16 gl16 HG16; obtain ⟨hx16_0, hf16_0⟩ := Kd.R_celln false HO_6.out (x8_1 : Int) p16 q16; replace p16 := eq_true p16; replace q16 := eq_true q16; obtain ⟨hy26_, hz26_⟩ := Kd.R_celln false HO_6.out (x8_1 : Int) (of_decide_eq_true (by first | (with_reducible assumption) | assumption)) (of_decide_eq_true (by first | (with_reducible assumption) | assumption)); have HP26 := Kd.R_putg HO_6.out (x8_1 : Int) true) | ((with_reducible refine gate_store (t := 4) (p := 36) rfl ?_); refine store_event (t := 4) (p := 36) (v := ?vo_w27) (w1 := (w25.setCell ⟨go16, (x8_1 : Int).toNat, none⟩ (.bool true))) ?hg ?ho ?hn ?hr ?_; (case ho => rfl); (case hg => rfl); (case hn => rfl); (case hr => first | (go_simp; done) | (go_simp; rfl)); intro w27 hw; have hg : w25.grownBy w27 (some go16) := (by rw [hw]; exact HP26.2); have hp_ : Kd.R Kd.bool 4 w27 w.heap.size (fun k_ => (w.heap.size ≤ k_) ∧ some k_ ≠ (.slice Ao21 y647.length co21 : Value).ownBlock) (.slice (some ⟨go16, 0, none⟩) x6_1.length co16) y657 := (by rw [hw, Ny657.out]; exact HP26.1); clear HP26; replace HO_6 := Aside0.mk (hp_); replace HO_7 := Aside0.mk (Kd.V_afterv (v := (.slice (some ⟨go16, 0, none⟩) x6_1.length co16)) (v1 := (.slice (some ⟨go16, 0, none⟩) x6_1.length co16)) (ok := (fun k_ => (w.heap.size ≤ k_) ∧ some k_ ≠ (.slice Ao21 y647.length co21 : Value).ownBlock)) (by (with_reducible repeat (first | apply Kd.V_alloc | apply Kd.V_drewN | apply Kd.V_drew)); exact Kd.V_mono HO_7.out (fun _ hk => ⟨⟨hk.1.1, hk.2⟩, hk.1.2⟩)) hg (.inl rfl)); replace HO649 := Aside0.mk (Kd.R_after (v := (.slice (some ⟨go16, 0, none⟩) x6_1.length co16)) (v1 := (.slice (some ⟨go16, 0, none⟩) x6_1.length co16)) (ok := (fun k_ => (w.heap.size ≤ k_))) (Sq.al HO649) hg (.inl rfl)); replace HO652 := Aside0.mk (Kd.V_afterv (v := (.slice (some ⟨go16, 0, none⟩) x6_1.length co16)) (v1 := (.slice (some ⟨go16, 0, none⟩) x6_1.length co16)) (ok := (fun k_ => (w.heap.size ≤ k_))) (Sq.al HO652) hg (.inl rfl)); replace HO656 := Aside0.mk (Kd.V_afterv (v := (.slice (some ⟨go16, 0, none⟩) x6_1.length co16)) (v1 := (.slice (some ⟨go16, 0, none⟩) x6_1.length co16)) (ok := (fun k_ => (w.heap.size ≤ k_) ∧ some k_ ≠ (.slice Ao21 y647.length co21 : Value).ownBlock)) (by (with_reducible repeat (first | apply Kd.V_alloc | apply Kd.V_drewN | apply Kd.V_drew)); exact Kd.V_mono HO656.out (fun _ hk => ⟨⟨hk.1, hk.2.2⟩, hk.2.1⟩)) hg (.inl rfl)); replace HB := Aside0.mk ((by rw [hw]; exact below_set (HB.out) GB16.out : Below w.heap.size w w27)); clear hg hw hp_))
     go_roundg k1
     case measure => have := HK1.out; omega
     case rel => exact ⟨(y657), (t654), (wrap64 (x8_1 - 1)), (by first | rfl | (simp; done) | (simp [*]; done)), H', ⟨by have := HK1.out; omega⟩, ⟨by (with_reducible repeat (first | apply Kd.R_alloc | apply Kd.R_drewN | apply Kd.R_drew)); exact Kd.R_mono HO_6.out (fun _ hk => hk.1)⟩, ⟨by (with_reducible repeat (first | apply Kd.V_alloc | apply Kd.V_drewN | apply Kd.V_drew)); exact Kd.V_mono HO656.out (fun _ hk => ⟨hk.1.1, hk.2⟩)⟩, ⟨Sq.bl HB⟩⟩
    ·rw [if_neg c13] at H
     have c13b0 : decide (0 ≤ t653) = false := decide_eq_false c13
     clear c13
     have H' := Aside0.mk H
     clear H
     have p643 : 0 ≤ (x8_1 : Int) := of_decide_eq_true (by first | (with_reducible assumption) | assumption)
     have q643 : x8_1 < (l0.length : Int) := of_decide_eq_true (by first | (with_reducible assumption) | assumption)
     obtain ⟨ad643, e643, hx643_0⟩ := Kd.at_bool HR0.out x8_1 p643 q643
     cases e643
     replace hx643_0 := (HB.out.cell (World.block_lt_of_cell? w _ hx643_0)).trans hx643_0
     replace p643 := eq_true p643
     replace q643 := eq_true q643
     go_wp2_with (first | ((with_reducible refine gate_dst (N := 23) rfl ?_); refine Kd.R_lit Kd.bool _ 4 ?hg (N := 23) ?hd (xs := ([rdOf false l0 x8_1] : List Bool)) (inner := [.bool (rdOf false l0 x8_1)]) (ok := fun _ => True) (okp := fun _ => True) ?hr ?hp (fun _ hk => hk) trivial (Below.refl _ _) (Nat.le_refl _) (by simp) ?_; (case hd => rfl); (case hg => rfl); (case hr => first | (go_simp; done) | (go_simp; rfl)); (case hp => exact (Reps.one (show Kd.M Kd.bool _ _ _ (rdOf false l0 x8_1) [.bool (rdOf false l0 x8_1)] from rfl) (Reps.none _ _))); intro v645 w28 ho29 hb hg_ hnew_; clear hg_ hnew_; (first | rw [← Ny644.out] at ho29 | (simp only [Int.reduceToNat] at ho29; rw [← Ny644.out] at ho29)); replace HO_7 := Aside0.mk (Kd.V_elder' (Sq.al HO_7) (Kd.R_base ho29) hb); have HO646 := Aside0.mk (Kd.R_lower (Kd.R_new' (Kd.R_newM (M := fun k_ => (w.heap.size ≤ k_)) ho29 (below_size (Sq.bl HB)) (fun k_ h_ => h_)) (Kd.R_lt (Sq.al HO_6))) (below_size (Sq.bl HB))); replace HO_6 := Aside0.mk (Kd.R_elder' (Sq.al HO_6) (Kd.R_base ho29) hb); replace HB := Sq.bs HB hb; clear hb ho29; obtain ⟨Ao31, co31, eo31⟩ := Kd.V_slice HO_7.out; subst eo31) | ((with_reducible refine gate_builtin (b := .append) (xs := #[.tmp 23, .tmp 24]) rfl ?_); at_builtin; refine Kd.R_append_rows Kd.bool (w0 := w) w.heap.size rfl (.tmp 23) (.tmp 24) 63 4 (.bool false) 1 rfl Try.underlying63 info4 rfl (by decide) (by omega) v645 y644 x7_1 _ _ _ (fun k_ => (w.heap.size ≤ k_) ∧ some k_ ≠ (v638 : Value).ownBlock) (fun _ => False) rfl rfl ?aO ?aR (fun _ _ h => h) (fun _ h => h.elim) ?aF ?aB ?aS ?aL ?_; (case aR => exact Sq.ca (Kd.V_reads' HO_7.out).2.2); (case aB => exact (Sq.bl HB)); (case aF => exact (fun k_ hk => ⟨(Nat.le_trans (below_size (Sq.bl HB)) hk), Kd.fresh' (Kd.R_lt (Sq.al HO_6)) k_ hk⟩)); (case aO => exact (by (with_reducible repeat (first | apply Kd.R_alloc | apply Kd.R_drewN | apply Kd.R_drew)); exact Kd.R_mono HO646.out (fun _ hk => ⟨hk.1.1, hk.2⟩))); (case aS => exact (below_size (Sq.bl HB))); (case aL => have := LMc10.out; omega); intro v648 w30 ho hb hg hat; rw [← Ny647.out] at ho; replace HO_6 := Aside0.mk (Kd.R_after (ok := (fun k_ => (w.heap.size ≤ k_))) (Sq.al HO_6) hg hat); replace HO_7 := Aside0.mk (Kd.V_afterv (ok := (fun k_ => (w.heap.size ≤ k_) ∧ some k_ ≠ (v638 : Value).ownBlock)) (Sq.al HO_7) hg hat); replace HB := Aside0.mk (hb); have HO649 := Aside0.mk (ho); clear HO646; clear ho hb hg hat; obtain ⟨Ao32, co32, eo32⟩ := Kd.R_slice HO649.out; subst eo32) | ((with_reducible refine gate_callee (f := 173) rfl ?_); refine Sq.gl (some 26) Try.func173 #[.slice Ao32 y647.length co32] ?_; (with_reducible refine (foliotref01_cut.calls k1 (fun k_ => some k_ = (.slice Ao32 y647.length co32 : Value).ownBlock) _ _ y647 t650 _ ?side1 A11.out).mono ?_); (case side1 => exact Kd.R_V (Kd.R_tight rfl (HO649.out))); rintro e w33 ⟨v651, rfl, ho0, hb⟩; refine ⟨_, rfl, ?_⟩; replace HO_7 := Aside0.mk (Kd.V_below (Sq.al HO_7) hb); have HO652 := Aside0.mk (Kd.V_lower (Kd.V_mono (ok' := fun k_ => (w.heap.size ≤ k_) ∧ some k_ ≠ (v638 : Value).ownBlock) ho0 (fun k_ hk_ => ⟨Or.elim hk_ (fun hs_ => ((HO649.out).1 k_ hs_.symm).1) (fun hn_ => (Nat.le_trans (below_size (Sq.bl HB)) hn_)), Or.elim hk_ (fun hs_ => ((HO649.out).1 k_ hs_.symm).2) (fun hn_ => (Kd.fresh' (Kd.R_lt (Sq.al HO_6)) k_ hn_))⟩)) (below_size (Sq.bl HB))); replace HO_6 := Aside0.mk (Kd.R_below (Sq.al HO_6) hb); replace HO649 := Aside0.mk (Kd.R_below (Sq.al HO649) hb); replace HB := Sq.bs HB hb; (try clear hb); (try clear hb2); (try clear hk); (try clear hi); (try clear ho0); obtain ⟨Ao34, co34, eo34⟩ := Kd.V_slice HO652.out; subst eo34) | ((with_reducible refine gate_callee (f := 143) rfl ?_); refine Sq.gl (some 29) Try.func143 #[.slice Ao34 t650.length co34, .slice A1 l1.length c1] ?_; (with_reducible refine (foliotref01_cmp.calls k1 _ _ t650 _ _ l1 t653 _ ?side1 ?side2 ?side3 ?side4 A12.out).mono ?_); (case side1 => exact Sq.ca (Kd.V_reads' HO652.out).2.2); (case side2 => exact (Kd.V_reads' HO652.out).2.1); (case side3 => exact Sq.ca (Kd.C_below HR1.out HB.out)); (case side4 => exact HC1.out); rintro e w35 ⟨rfl, hb⟩; refine ⟨_, rfl, ?_⟩; replace HO_6 := Aside0.mk (Kd.R_below (Sq.al HO_6) hb); replace HO_7 := Aside0.mk (Kd.V_below (Sq.al HO_7) hb); replace HO649 := Aside0.mk (Kd.R_below (Sq.al HO649) hb); replace HO652 := Aside0.mk (Kd.V_below (Sq.al HO652) hb); replace HB := Sq.bs HB hb; (try clear hb); (try clear hb2); (try clear hk); (try clear hi)))
     go_roundg k1
     case measure => have := HK1.out; omega
     case rel => exact ⟨(x6_1), (t650), (wrap64 (x8_1 - 1)), (by first | rfl | (simp; done) | (simp [*]; done)), H', ⟨by have := HK1.out; omega⟩, ⟨by (with_reducible repeat (first | apply Kd.R_alloc | apply Kd.R_drewN | apply Kd.R_drew)); exact Kd.R_mono HO_6.out (fun _ hk => hk.1)⟩, ⟨by (with_reducible repeat (first | apply Kd.V_alloc | apply Kd.V_drewN | apply Kd.V_drew)); exact HO652.out⟩, ⟨Sq.bl HB⟩⟩
   ·rw [if_neg c7] at H
    have c7b0 : decide (0 ≤ x8_1) = false := decide_eq_false c7
    clear c7
    replace H := Sq.bd H
    obtain ⟨t640, A36, H⟩ := H
    (try dsimp -simprocs only at H)
    simp only [Option.some.injEq, Prod.mk.injEq] at H
    obtain ⟨rfl, rfl⟩ := H
    obtain ⟨Ao37, co37, eo37⟩ := Kd.R_slice HO_6.out
    subst eo37
    go_wp2_with (first | ((with_reducible refine gate_callee (f := 173) rfl ?_); refine Sq.gl (some 38) Try.func173 #[.slice Ao37 x6_1.length co37] ?_; (with_reducible refine (foliotref01_cut.calls k1 (fun k_ => some k_ = (.slice Ao37 x6_1.length co37 : Value).ownBlock) _ _ x6_1 t640 _ ?side1 A36.out).mono ?_); (case side1 => exact Kd.R_V (Kd.R_tight rfl (HO_6.out))); rintro e w38 ⟨v641, rfl, ho0, hb⟩; refine ⟨_, rfl, ?_⟩; replace HO_7 := Aside0.mk (Kd.V_below (Sq.al HO_7) hb); have HO642 := Aside0.mk (Kd.V_lower (Kd.V_mono (ok' := fun k_ => (w.heap.size ≤ k_)) ho0 (fun k_ hk_ => Or.elim hk_ (fun hs_ => ((HO_6.out).1 k_ hs_.symm)) (fun hn_ => (Nat.le_trans (below_size (Sq.bl HB)) hn_)))) (below_size (Sq.bl HB))); replace HO_6 := Aside0.mk (Kd.R_below (Sq.al HO_6) hb); replace HB := Sq.bs HB hb; (try clear hb); (try clear hb2); (try clear hk); (try clear hi); (try clear ho0)))
    go_ret2
    exact ⟨_, _, by first | rfl | (simp [errW_none, errW_some] <;> rfl) | (simp [*, errW_none, errW_some] <;> rfl), by (with_reducible repeat (first | apply Kd.V_alloc | apply Kd.V_drewN | apply Kd.V_drew)); exact HO642.out, by (with_reducible repeat (first | apply Kd.V_alloc | apply Kd.V_drewN | apply Kd.V_drew)); exact Kd.V_mono HO_7.out (fun _ hk => hk.1), Sq.bl HB⟩
def foliotref01_Div.f (k : Nat) (l0 : List Int) (l1 : List Int) : Option (List Int × List Int × Int) := (foliotref01_Of.f k l0).bind fun t658 => ((foliotref01_Of.f k l1).bind fun t661 => (if (t661.length : Int) = 0 then (some (([] : List Int), ([] : List Int), 3)) else ((foliotref01_div.f k t658 t661).bind fun bt664 => ((foliotref01_Limbs.f k bt664.1).bind fun t670 => ((foliotref01_Limbs.f k bt664.2).bind fun t673 => (some (t670, t673, 0)))))))
set_option maxHeartbeats 8000000 in
set_option maxRecDepth 100000 in
theorem foliotref01_Div.calls (k : Nat) (A0 : Option Addr) (c0 : Nat) (l0 : List Int) (A1 : Option Addr) (c1 : Nat) (l1 : List Int) (r1 : List Int) (r2 : List Int) (r3 : Int) (w : World) (hr0 : Kd.C (Kd.int .u32) w A0 l0.length l0) (hc0 : l0.length ≤ c0) (hr1 : Kd.C (Kd.int .u32) w A1 l1.length l1) (hc1 : l1.length ≤ c1) (h : foliotref01_Div.f k l0 l1 = some (r1, r2, r3)) :
  Calls Try.prog 32 #[.slice A0 l0.length c0, .slice A1 l1.length c1] w fun e w' => ∃ v0_ v1_ : Value, e = .returned (.tuple #[v0_, v1_, .int .i64 r3]) ∧ Kd.R (Kd.int .u32) 107 w' w.heap.size (fun k_ => some k_ ≠ (v1_ : Value).ownBlock) v0_ r1 ∧ Kd.R (Kd.int .u32) 107 w' w.heap.size (fun k_ => some k_ ≠ (v0_ : Value).ownBlock) v1_ r2 ∧ Below w.heap.size w w' := by
 have HR0 := Aside0.mk hr0
 have HC0 := Aside0.mk hc0
 clear hr0 hc0
 have HR1 := Aside0.mk hr1
 have HC1 := Aside0.mk hc1
 clear hr1 hc1
 have HB := Aside0.mk (Below.refl w.heap.size w)
 have H : ((foliotref01_Of.f k l0).bind fun t658 => ((foliotref01_Of.f k l1).bind fun t661 => (if (t661.length : Int) = 0 then (some (([] : List Int), ([] : List Int), 3)) else ((foliotref01_div.f k t658 t661).bind fun bt664 => ((foliotref01_Limbs.f k bt664.1).bind fun t670 => ((foliotref01_Limbs.f k bt664.2).bind fun t673 => (some (t670, t673, 0)))))))) = some (r1, r2, r3) := h
 clear h
 replace H := Sq.bd H
 obtain ⟨t658, A3, H⟩ := H
 (try dsimp -simprocs only at H)
 replace H := Sq.bd H
 obtain ⟨t661, A4, H⟩ := H
 (try dsimp -simprocs only at H)
 by_cases c5 : (t661.length : Int) = 0
 ·rw [if_pos c5] at H
  have c5b0 : ((t661.length : Int) == 0) = true := beq_iff_eq.mpr c5
  have c5b1 : ((t661.length : Int) != 0) = false := bne_eq_false_iff_eq.mpr c5
  clear c5
  simp only [Option.some.injEq, Prod.mk.injEq] at H
  obtain ⟨rfl, rfl, rfl⟩ := H
  go_enter Try.func32, Try.ntmps32
  go_wp2_with (first | ((with_reducible refine gate_callee (f := 135) rfl ?_); refine Sq.gl (some 12) Try.func135 #[.slice A0 l0.length c0] ?_; (with_reducible refine (foliotref01_Of.calls k _ _ l0 t658 _ ?side1 ?side2 A3.out).mono ?_); (case side1 => repeat (first | exact HR0.out | (with_reducible refine Kd.C_alloc ?_ _) | (with_reducible refine Kd.C_drewN ?_ _) | (with_reducible refine Kd.C_drew ?_))); (case side2 => exact HC0.out); rintro e w6 ⟨v659, rfl, ho0, hb⟩; refine ⟨_, rfl, ?_⟩; have HO660 := Aside0.mk (Kd.V_lower (Kd.V_mono (ok' := fun k_ => True) ho0 (fun k_ hk_ => trivial)) (below_size (Sq.bl HB))); replace HB := Sq.bs HB hb; (try clear hb); (try clear hb2); (try clear hk); (try clear hi); (try clear ho0)) | ((with_reducible refine gate_callee (f := 135) rfl ?_); refine Sq.gl (some 14) Try.func135 #[.slice A1 l1.length c1] ?_; (with_reducible refine (foliotref01_Of.calls k _ _ l1 t661 _ ?side1 ?side2 A4.out).mono ?_); (case side1 => exact Sq.ca (Kd.C_below HR1.out HB.out)); (case side2 => exact HC1.out); rintro e w7 ⟨v662, rfl, ho0, hb⟩; refine ⟨_, rfl, ?_⟩; replace HO660 := Aside0.mk (Kd.V_below (Sq.al HO660) hb); have HO663 := Aside0.mk (Kd.V_lower (Kd.V_mono (ok' := fun k_ => True) ho0 (fun k_ hk_ => trivial)) (below_size (Sq.bl HB))); replace HB := Sq.bs HB hb; (try clear hb); (try clear hb2); (try clear hk); (try clear hi); (try clear ho0); obtain ⟨Ao8, co8, eo8⟩ := Kd.V_slice HO663.out; subst eo8))
  go_ret3
  exact ⟨_, _, by first | rfl | (simp [errW_none, errW_some] <;> rfl) | (simp [*, errW_none, errW_some] <;> rfl), by first | exact Kd.R_nil _ _ _ _ _ | exact Kd.N_nil _ _ _ _ _ | exact Kd.V_nil _ _ _ _ _ | exact Kd.Q_nil _ _ _ _ _ | exact Kd.S_nil _ _ _ _ _, by first | exact Kd.R_nil _ _ _ _ _ | exact Kd.N_nil _ _ _ _ _ | exact Kd.V_nil _ _ _ _ _ | exact Kd.Q_nil _ _ _ _ _ | exact Kd.S_nil _ _ _ _ _, Sq.bl HB⟩
 ·rw [if_neg c5] at H
  have c5b0 : ((t661.length : Int) == 0) = false := beq_eq_false_iff_ne.mpr c5
  have c5b1 : ((t661.length : Int) != 0) = true := bne_iff_ne.mpr c5
  have c5b2 : ¬ (t661 = []) := fun h_ => c5 (by rw [h_]; rfl)
  replace H := Sq.bd H
  obtain ⟨⟨t664, t667⟩, A9, H⟩ := H
  (try dsimp -simprocs only at H)
  replace H := Sq.bd H
  obtain ⟨t670, A10, H⟩ := H
  (try dsimp -simprocs only at H)
  replace H := Sq.bd H
  obtain ⟨t673, A11, H⟩ := H
  (try dsimp -simprocs only at H)
  simp only [Option.some.injEq, Prod.mk.injEq] at H
  obtain ⟨rfl, rfl, rfl⟩ := H
  go_enter Try.func32, Try.ntmps32
  go_wp2_with (first | ((with_reducible refine gate_callee (f := 135) rfl ?_); refine Sq.gl (some 12) Try.func135 #[.slice A0 l0.length c0] ?_; (with_reducible refine (foliotref01_Of.calls k _ _ l0 t658 _ ?side1 ?side2 A3.out).mono ?_); (case side1 => repeat (first | exact HR0.out | (with_reducible refine Kd.C_alloc ?_ _) | (with_reducible refine Kd.C_drewN ?_ _) | (with_reducible refine Kd.C_drew ?_))); (case side2 => exact HC0.out); rintro e w12 ⟨v659, rfl, ho0, hb⟩; refine ⟨_, rfl, ?_⟩; have HO660 := Aside0.mk (Kd.V_lower (Kd.V_mono (ok' := fun k_ => True) ho0 (fun k_ hk_ => trivial)) (below_size (Sq.bl HB))); replace HB := Sq.bs HB hb; (try clear hb); (try clear hb2); (try clear hk); (try clear hi); (try clear ho0)) | ((with_reducible refine gate_callee (f := 135) rfl ?_); refine Sq.gl (some 14) Try.func135 #[.slice A1 l1.length c1] ?_; (with_reducible refine (foliotref01_Of.calls k _ _ l1 t661 _ ?side1 ?side2 A4.out).mono ?_); (case side1 => exact Sq.ca (Kd.C_below HR1.out HB.out)); (case side2 => exact HC1.out); rintro e w13 ⟨v662, rfl, ho0, hb⟩; refine ⟨_, rfl, ?_⟩; replace HO660 := Aside0.mk (Kd.V_below (Sq.al HO660) hb); have HO663 := Aside0.mk (Kd.V_lower (Kd.V_mono (ok' := fun k_ => True) ho0 (fun k_ hk_ => trivial)) (below_size (Sq.bl HB))); replace HB := Sq.bs HB hb; (try clear hb); (try clear hb2); (try clear hk); (try clear hi); (try clear ho0); obtain ⟨Ao14, co14, eo14⟩ := Kd.V_slice HO663.out; subst eo14; obtain ⟨Ao15, co15, eo15⟩ := Kd.V_slice HO660.out; subst eo15) | ((with_reducible refine gate_callee (f := 136) rfl ?_); refine Sq.gl (some 21) Try.func136 #[.slice Ao15 t658.length co15, .slice Ao14 t661.length co14] ?_; (with_reducible refine (foliotref01_div.calls k _ _ t658 _ _ t661 t664 t667 _ ?side1 ?side2 ?side3 ?side4 A9.out).mono ?_); (case side1 => exact Sq.ca (Kd.V_reads' HO660.out).2.2); (case side2 => exact (Kd.V_reads' HO660.out).2.1); (case side3 => exact Sq.ca (Kd.V_reads' HO663.out).2.2); (case side4 => exact (Kd.V_reads' HO663.out).2.1); rintro e w16 ⟨v665, v668, rfl, ho0, ho1, hb⟩; refine ⟨_, rfl, ?_⟩; replace HO660 := Aside0.mk (Kd.V_below (Sq.al HO660) hb); replace HO663 := Aside0.mk (Kd.V_below (Sq.al HO663) hb); have HO666 := Aside0.mk (Kd.V_lower (Kd.V_mono (ok' := fun k_ => True) ho0 (fun k_ hk_ => trivial)) (below_size (Sq.bl HB))); have HO669 := Aside0.mk (Kd.V_lower (Kd.V_mono (ok' := fun k_ => True) ho1 (fun k_ hk_ => trivial)) (below_size (Sq.bl HB))); replace HB := Sq.bs HB hb; (try clear hb); (try clear hb2); (try clear hk); (try clear hi); (try clear ho0); (try clear ho1); obtain ⟨Ao17, co17, eo17⟩ := Kd.V_slice HO666.out; subst eo17) | ((with_reducible refine gate_callee (f := 137) rfl ?_); refine Sq.gl (some 25) Try.func137 #[.slice Ao17 t664.length co17] ?_; (with_reducible refine (foliotref01_Limbs.calls k _ _ t664 t670 _ ?side1 ?side2 A10.out).mono ?_); (case side1 => exact Sq.ca (Kd.V_reads' HO666.out).2.2); (case side2 => exact (Kd.V_reads' HO666.out).2.1); rintro e w18 ⟨v671, rfl, ho0, hb⟩; refine ⟨_, rfl, ?_⟩; replace HO660 := Aside0.mk (Kd.V_elder' (Sq.al HO660) (Kd.R_base ho0) hb); replace HO663 := Aside0.mk (Kd.V_elder' (Sq.al HO663) (Kd.R_base ho0) hb); replace HO666 := Aside0.mk (Kd.V_elder' (Sq.al HO666) (Kd.R_base ho0) hb); replace HO669 := Aside0.mk (Kd.V_elder' (Sq.al HO669) (Kd.R_base ho0) hb); have HO672 := Aside0.mk (Kd.R_lower ho0 (below_size (Sq.bl HB))); replace HB := Sq.bs HB hb; (try clear hb); (try clear hb2); (try clear hk); (try clear hi); (try clear ho0); obtain ⟨Ao19, co19, eo19⟩ := Kd.V_slice HO669.out; subst eo19) | ((with_reducible refine gate_callee (f := 137) rfl ?_); refine Sq.gl (some 27) Try.func137 #[.slice Ao19 t667.length co19] ?_; (with_reducible refine (foliotref01_Limbs.calls k _ _ t667 t673 _ ?side1 ?side2 A11.out).mono ?_); (case side1 => exact Sq.ca (Kd.V_reads' HO669.out).2.2); (case side2 => exact (Kd.V_reads' HO669.out).2.1); rintro e w20 ⟨v674, rfl, ho0, hb⟩; refine ⟨_, rfl, ?_⟩; replace HO660 := Aside0.mk (Kd.V_elder' (Sq.al HO660) (Kd.R_base ho0) hb); replace HO663 := Aside0.mk (Kd.V_elder' (Sq.al HO663) (Kd.R_base ho0) hb); replace HO666 := Aside0.mk (Kd.V_elder' (Sq.al HO666) (Kd.R_base ho0) hb); replace HO669 := Aside0.mk (Kd.V_elder' (Sq.al HO669) (Kd.R_base ho0) hb); have HO675 := Aside0.mk (Kd.R_lower (Kd.R_new' ho0 (Kd.R_lt (Sq.al HO672))) (below_size (Sq.bl HB))); replace HO672 := Aside0.mk (Kd.R_elder' (Sq.al HO672) (Kd.R_base ho0) hb); replace HB := Sq.bs HB hb; (try clear hb); (try clear hb2); (try clear hk); (try clear hi); (try clear ho0)))
  go_ret3
  exact ⟨_, _, by first | rfl | (simp [errW_none, errW_some] <;> rfl) | (simp [*, errW_none, errW_some] <;> rfl), by (with_reducible repeat (first | apply Kd.R_alloc | apply Kd.R_drewN | apply Kd.R_drew)); exact Kd.R_mono HO672.out (fun _ hk => hk.2), by (with_reducible repeat (first | apply Kd.R_alloc | apply Kd.R_drewN | apply Kd.R_drew)); exact Kd.R_mono HO675.out (fun _ hk => hk.2), Sq.bl HB⟩
def foliotref01_Gcd.l0 : Nat → List Bool → List Bool → Option (List Int)
 | 0, _, _ => none
 | k + 1, x5, x6 => if (x6.length : Int) > 0 then ((foliotref01_div.f k x5 x6).bind fun bt682 => (foliotref01_Gcd.l0 k x6 bt682.2)) else ((foliotref01_Limbs.f k x5).bind fun t688 => (some t688))
def foliotref01_Gcd.f (k : Nat) (l0 : List Int) (l1 : List Int) : Option (List Int) := (foliotref01_Of.f k l0).bind fun t676 => ((foliotref01_Of.f k l1).bind fun t679 => (foliotref01_Gcd.l0 k t676 t679))
set_option maxHeartbeats 8000000 in
set_option maxRecDepth 100000 in
theorem foliotref01_Gcd.calls (k : Nat) (A0 : Option Addr) (c0 : Nat) (l0 : List Int) (A1 : Option Addr) (c1 : Nat) (l1 : List Int) (r : List Int) (w : World) (hr0 : Kd.C (Kd.int .u32) w A0 l0.length l0) (hc0 : l0.length ≤ c0) (hr1 : Kd.C (Kd.int .u32) w A1 l1.length l1) (hc1 : l1.length ≤ c1) (h : foliotref01_Gcd.f k l0 l1 = some r) :
  Calls Try.prog 35 #[.slice A0 l0.length c0, .slice A1 l1.length c1] w fun e w' => ∃ v0_ : Value, e = .returned (v0_) ∧ Kd.R (Kd.int .u32) 107 w' w.heap.size (fun _ => True) v0_ r ∧ Below w.heap.size w w' := by
 have HR0 := Aside0.mk hr0
 have HC0 := Aside0.mk hc0
 clear hr0 hc0
 have HR1 := Aside0.mk hr1
 have HC1 := Aside0.mk hc1
 clear hr1 hc1
 have HB := Aside0.mk (Below.refl w.heap.size w)
 have H : ((foliotref01_Of.f k l0).bind fun t676 => ((foliotref01_Of.f k l1).bind fun t679 => (foliotref01_Gcd.l0 k t676 t679))) = some r := h
 clear h
 replace H := Sq.bd H
 obtain ⟨t676, A3, H⟩ := H
 (try dsimp -simprocs only at H)
 replace H := Sq.bd H
 obtain ⟨t679, A4, H⟩ := H
 (try dsimp -simprocs only at H)
 have H' := Aside0.mk H
 clear H
 go_enter Try.func35, Try.ntmps35
 go_wp2_with (first | ((with_reducible refine gate_callee (f := 135) rfl ?_); refine Sq.gl (some 10) Try.func135 #[.slice A0 l0.length c0] ?_; (with_reducible refine (foliotref01_Of.calls k _ _ l0 t676 _ ?side1 ?side2 A3.out).mono ?_); (case side1 => repeat (first | exact HR0.out | (with_reducible refine Kd.C_alloc ?_ _) | (with_reducible refine Kd.C_drewN ?_ _) | (with_reducible refine Kd.C_drew ?_))); (case side2 => exact HC0.out); rintro e w5 ⟨v677, rfl, ho0, hb⟩; refine ⟨_, rfl, ?_⟩; have HO678 := Aside0.mk (Kd.V_lower (Kd.V_mono (ok' := fun k_ => True) ho0 (fun k_ hk_ => trivial)) (below_size (Sq.bl HB))); replace HB := Sq.bs HB hb; (try clear hb); (try clear hb2); (try clear hk); (try clear hi); (try clear ho0)) | ((with_reducible refine gate_callee (f := 135) rfl ?_); refine Sq.gl (some 12) Try.func135 #[.slice A1 l1.length c1] ?_; (with_reducible refine (foliotref01_Of.calls k _ _ l1 t679 _ ?side1 ?side2 A4.out).mono ?_); (case side1 => exact Sq.ca (Kd.C_below HR1.out HB.out)); (case side2 => exact HC1.out); rintro e w6 ⟨v680, rfl, ho0, hb⟩; refine ⟨_, rfl, ?_⟩; replace HO678 := Aside0.mk (Kd.V_below (Sq.al HO678) hb); have HO681 := Aside0.mk (Kd.V_lower (Kd.V_mono (ok' := fun k_ => True) ho0 (fun k_ hk_ => trivial)) (below_size (Sq.bl HB))); replace HB := Sq.bs HB hb; (try clear hb); (try clear hb2); (try clear hk); (try clear hi); (try clear ho0)))
 go_loopg [5, 6] k (fun kq v5 v6 w' => ∃ (x5_1 : List Bool) (x6_1 : List Bool), Aside0 (foliotref01_Gcd.l0 kq x5_1 x6_1 = some r) ∧ Aside0 (kq ≤ k) ∧ Aside0 (Kd.V Kd.bool 4 w' w.heap.size (fun _ => True) v5 x5_1) ∧ Aside0 (Kd.V Kd.bool 4 w' w.heap.size (fun _ => True) v6 x6_1) ∧ Aside0 (Below w.heap.size w w'))
 case atStart => exact ⟨(t676), (t679), H', ⟨Nat.le_refl _⟩, ⟨by (with_reducible repeat (first | apply Kd.V_alloc | apply Kd.V_drewN | apply Kd.V_drew)); exact HO678.out⟩, ⟨by (with_reducible repeat (first | apply Kd.V_alloc | apply Kd.V_drewN | apply Kd.V_drew)); exact HO681.out⟩, ⟨Sq.bl HB⟩⟩
 case round =>
  clear H'
  try clear c1
  try clear p2
  try clear c3
  obtain ⟨x5_1, x6_1, HA, HK1, HO_5, HO_6, HB⟩ := hrel
  cases gk with
  | zero => exact absurd HA.out (by simp [foliotref01_Gcd.l0])
  | succ k1 =>
   have H := HA.out
   clear HA
   simp only [foliotref01_Gcd.l0] at H
   by_cases c7 : (x6_1.length : Int) > 0
   ·rw [if_pos c7] at H
    have c7b0 : decide (0 < (x6_1.length : Int)) = true := decide_eq_true c7
    have c7b1 : decide (0 < x6_1.length) = true := decide_eq_true (by omega)
    clear c7
    replace H := Sq.bd H
    obtain ⟨⟨t682, t685⟩, A8, H⟩ := H
    (try dsimp -simprocs only at H)
    have H' := Aside0.mk H
    clear H
    obtain ⟨Ao9, co9, eo9⟩ := Kd.V_slice HO_6.out
    subst eo9
    obtain ⟨Ao10, co10, eo10⟩ := Kd.V_slice HO_5.out
    subst eo10
    go_wp2_with (first | ((with_reducible refine gate_callee (f := 136) rfl ?_); refine Sq.gl (some 19) Try.func136 #[.slice Ao10 x5_1.length co10, .slice Ao9 x6_1.length co9] ?_; (with_reducible refine (foliotref01_div.calls k1 _ _ x5_1 _ _ x6_1 t682 t685 _ ?side1 ?side2 ?side3 ?side4 A8.out).mono ?_); (case side1 => exact Sq.ca (Kd.V_reads' HO_5.out).2.2); (case side2 => exact (Kd.V_reads' HO_5.out).2.1); (case side3 => exact Sq.ca (Kd.V_reads' HO_6.out).2.2); (case side4 => exact (Kd.V_reads' HO_6.out).2.1); rintro e w11 ⟨v683, v686, rfl, ho0, ho1, hb⟩; refine ⟨_, rfl, ?_⟩; replace HO_5 := Aside0.mk (Kd.V_below (Sq.al HO_5) hb); replace HO_6 := Aside0.mk (Kd.V_below (Sq.al HO_6) hb); have HO684 := Aside0.mk (Kd.V_lower (Kd.V_mono (ok' := fun k_ => True) ho0 (fun k_ hk_ => trivial)) (below_size (Sq.bl HB))); have HO687 := Aside0.mk (Kd.V_lower (Kd.V_mono (ok' := fun k_ => True) ho1 (fun k_ hk_ => trivial)) (below_size (Sq.bl HB))); replace HB := Sq.bs HB hb; (try clear hb); (try clear hb2); (try clear hk); (try clear hi); (try clear ho0); (try clear ho1)))
    go_roundg k1
    case measure => have := HK1.out; omega
    case rel => exact ⟨(x6_1), (t685), H', ⟨by have := HK1.out; omega⟩, ⟨by (with_reducible repeat (first | apply Kd.V_alloc | apply Kd.V_drewN | apply Kd.V_drew)); exact HO_6.out⟩, ⟨by (with_reducible repeat (first | apply Kd.V_alloc | apply Kd.V_drewN | apply Kd.V_drew)); exact HO687.out⟩, ⟨Sq.bl HB⟩⟩
   ·rw [if_neg c7] at H
    have c7b0 : decide (0 < (x6_1.length : Int)) = false := decide_eq_false c7
    have c7b1 : decide (0 < x6_1.length) = false := decide_eq_false (by omega)
    clear c7
    replace H := Sq.bd H
    obtain ⟨t688, A12, H⟩ := H
    (try dsimp -simprocs only at H)
    obtain rfl := Option.some.inj H
    obtain ⟨Ao13, co13, eo13⟩ := Kd.V_slice HO_6.out
    subst eo13
    obtain ⟨Ao14, co14, eo14⟩ := Kd.V_slice HO_5.out
    subst eo14
    go_wp2_with (first | ((with_reducible refine gate_callee (f := 137) rfl ?_); refine Sq.gl (some 25) Try.func137 #[.slice Ao14 x5_1.length co14] ?_; (with_reducible refine (foliotref01_Limbs.calls k1 _ _ x5_1 t688 _ ?side1 ?side2 A12.out).mono ?_); (case side1 => exact Sq.ca (Kd.V_reads' HO_5.out).2.2); (case side2 => exact (Kd.V_reads' HO_5.out).2.1); rintro e w15 ⟨v689, rfl, ho0, hb⟩; refine ⟨_, rfl, ?_⟩; replace HO_5 := Aside0.mk (Kd.V_elder' (Sq.al HO_5) (Kd.R_base ho0) hb); replace HO_6 := Aside0.mk (Kd.V_elder' (Sq.al HO_6) (Kd.R_base ho0) hb); have HO690 := Aside0.mk (Kd.R_lower ho0 (below_size (Sq.bl HB))); replace HB := Sq.bs HB hb; (try clear hb); (try clear hb2); (try clear hk); (try clear hi); (try clear ho0)))
    go_ret
    exact ⟨_, by first | rfl | (simp [errW_none, errW_some] <;> rfl) | (simp [*, errW_none, errW_some] <;> rfl), by (with_reducible repeat (first | apply Kd.R_alloc | apply Kd.R_drewN | apply Kd.R_drew)); exact HO690.out, Sq.bl HB⟩
end Go.Proofs.Ytaclkccgjpjdjaa.N
