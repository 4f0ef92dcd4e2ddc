import Derived.Test.YtaclkccgjpjdjaaQemgcbmfiflNx0
import Derived.Test.YtaclkccgjpjdjaaQjpoceikpiaNx7
import Derived.Test.YtaclkccgjpjdjaaQpbgibbbgddM
namespace Go.Proofs.Ytaclkccgjpjdjaa.N
open Go.RowKit Go.Proofs.YtaclkccgjpjdjaaW.PrintWords Go.Proofs.YtaclkccgjpjdjaaW.PrintLast Go.Proofs.YtaclkccgjpjdjaaW.PrintMore
attribute [local go_sem] max2_int min2_int max_two min_two max_three min_three max_four min_four   -- for this text's walks alone
set_option linter.unusedVariables false
set_option linter.unusedSimpArgs false
mutual
def foliotref01_Of.l0 : Nat → List Int → List Bool → Int → Option (List Bool)
 | 0, _, _, _ => none
 | k + 1, x0, x3, x4 => if x4 < (x0.length : Int) then (foliotref01_Of.l1 k x0 x3 x4 0) else ((foliotref01_cut.f k x3).bind fun t443 => (some t443))
def foliotref01_Of.l1 : Nat → List Int → List Bool → Int → Int → Option (List Bool)
 | 0, _, _, _, _ => none
 | k + 1, x0, x3, x4, x5 => if x5 < 32 then (if 0 ≤ x4 then (if x4 < (x0.length : Int) then (if 0 ≤ x5 then (if x3.length < 140737488355328 then (foliotref01_Of.l1 k x0 (x3 ++ [((Go.bits .and .u32 (shr .u32 (rd x0 x4) x5) 1) == 1)]) x4 (wrap64 (x5 + 1))) else (none)) else (none)) else (none)) else (none)) else (foliotref01_Of.l0 k x0 x3 (wrap64 (x4 + 1)))
end
def foliotref01_Of.f (k : Nat) (l0 : List Int) : Option (List Bool) := foliotref01_Of.l0 k l0 ([] : List Bool) 0
set_option maxHeartbeats 8000000 in
set_option maxRecDepth 100000 in
theorem foliotref01_Of.calls (k : Nat) (A0 : Option Addr) (c0 : Nat) (l0 : List Int) (r : List Bool) (w : World) (hr0 : Kd.C (Kd.int .u32) w A0 l0.length l0) (hc0 : l0.length ≤ c0) (h : foliotref01_Of.f k l0 = some r) :
  Calls Try.prog 135 #[.slice A0 l0.length c0] w fun e w' => ∃ v0_ : Value, e = .returned (v0_) ∧ Kd.V Kd.bool 4 w' w.heap.size (fun k_ => (w.heap.size ≤ k_)) v0_ r ∧ Below w.heap.size w w' := by
 have HR0 := Aside0.mk hr0
 have HC0 := Aside0.mk hc0
 clear hr0 hc0
 have HB := Aside0.mk (Below.refl w.heap.size w)
 have H : (foliotref01_Of.l0 k l0 ([] : List Bool) 0) = some r := h
 clear h
 have H' := Aside0.mk H
 clear H
 go_enter Try.func135, Try.ntmps135
 go_wp2
 go_loopg [3, 4] k (fun kq v3 v4 w' => ∃ (x3_1 : List Bool) (x4_1 : Int), v4 = .int .i64 x4_1 ∧ Aside0 (foliotref01_Of.l0 kq l0 x3_1 x4_1 = some r) ∧ Aside0 (kq ≤ k) ∧ Aside0 (Kd.R Kd.bool 4 w' w.heap.size (fun k_ => (w.heap.size ≤ k_)) v3 x3_1) ∧ Aside0 (Below w.heap.size w w'))
 case atStart => exact ⟨(([] : List Bool)), (0), (by first | rfl | (simp; done) | (simp [*]; done)), H', ⟨Nat.le_refl _⟩, ⟨by first | exact Kd.R_nil _ _ _ _ _ | exact Kd.N_nil _ _ _ _ _ | exact Kd.V_nil _ _ _ _ _ | exact Kd.Q_nil _ _ _ _ _ | exact Kd.S_nil _ _ _ _ _⟩, ⟨Sq.bl HB⟩⟩
 case round =>
  clear H'
  try clear c1
  obtain ⟨x3_1, x4_1, rfl, HA, HK1, HO_3, HB⟩ := hrel
  cases gk with
  | zero => exact absurd HA.out (by simp [foliotref01_Of.l0])
  | succ k1 =>
   have H := HA.out
   clear HA
   simp only [foliotref01_Of.l0] at H
   by_cases c2 : x4_1 < (l0.length : Int)
   ·rw [if_pos c2] at H
    have c2b0 : decide (x4_1 < (l0.length : Int)) = true := decide_eq_true c2
    clear c2
    have H' := Aside0.mk H
    clear H
    go_wp2
    go_loopg [3, 5] k1 (fun kq v3 v5 w' => ∃ (x3_2 : List Bool) (x5_2 : Int), v5 = .int .i64 x5_2 ∧ Aside0 (foliotref01_Of.l1 kq l0 x3_2 x4_1 x5_2 = some r) ∧ Aside0 (kq ≤ k1) ∧ Aside0 (Kd.R Kd.bool 4 w' w.heap.size (fun k_ => (w.heap.size ≤ k_)) v3 x3_2) ∧ Aside0 (Below w.heap.size w w'))
    case atStart => exact ⟨(x3_1), (0), (by first | rfl | (simp; done) | (simp [*]; done)), H', ⟨Nat.le_refl _⟩, ⟨by (with_reducible repeat (first | apply Kd.R_alloc | apply Kd.R_drewN | apply Kd.R_drew)); exact HO_3.out⟩, ⟨Sq.bl HB⟩⟩
    case round =>
     clear H'
     try clear c1
     try clear c2
     try clear c2b0
     try clear p2
     obtain ⟨x3_2, x5_2, rfl, HA, HK2, HO_3, HB⟩ := hrel
     cases gk with
     | zero => exact absurd HA.out (by simp [foliotref01_Of.l1])
     | succ k2 =>
      have H := HA.out
      clear HA
      simp only [foliotref01_Of.l1] at H
      by_cases c3 : x5_2 < 32
      ·rw [if_pos c3] at H
       have c3b0 : decide (x5_2 < 32) = true := decide_eq_true c3
       clear c3
       replace H := Sq.ifs H
       obtain ⟨c4, H⟩ := H
       have c4b0 : decide (0 ≤ x4_1) = true := decide_eq_true c4
       clear c4
       replace H := Sq.ifs H
       obtain ⟨c5, H⟩ := H
       have c5b0 : decide (x4_1 < (l0.length : Int)) = true := decide_eq_true c5
       clear c5
       replace H := Sq.ifs H
       obtain ⟨c6, H⟩ := H
       have c6b0 := eq_true c6
       have c6b1 : decide (0 ≤ x5_2) = true := decide_eq_true c6
       clear c6
       obtain ⟨ji7, hji7⟩ : ∃ j_ : Int, (shr .u32 (rd l0 x4_1) x5_2) = j_ := ⟨_, rfl⟩
       (first | rw [hji7] at H | simp only [hji7] at H)
       have hji7_ : ((rd l0 x4_1) / 2 ^ min x5_2.toNat 32) = ji7 := hji7
       have hji7z : x5_2 ≤ 32 → ((rd l0 x4_1) / 2 ^ x5_2.toNat) = ji7 := shr_small hji7
       replace H := Sq.ifs H
       obtain ⟨c8, H⟩ := H
       have LMc8 := Aside0.mk c8
       clear c8
       obtain ⟨y447, hy447⟩ : ∃ y_ : List Bool, y_ = (x3_2 ++ [((Go.bits .and .u32 (ji7) 1) == 1)]) := ⟨_, rfl⟩
       (first | (replace H := Sq.ny hy447 H; (try dsimp -simprocs only at H)) | rw [← hy447] at H | skip)
       have Ny447 := Aside0.mk hy447
       clear hy447
       have H' := Aside0.mk H
       clear H
       have p446 : 0 ≤ (x4_1 : Int) := of_decide_eq_true (by first | (with_reducible assumption) | assumption)
       have q446 : x4_1 < (l0.length : Int) := of_decide_eq_true (by first | (with_reducible assumption) | assumption)
       obtain ⟨ad446, e446, hx446_0⟩ := Kd.at_int HR0.out x4_1 p446 q446
       cases e446
       replace hx446_0 := (HB.out.cell (World.block_lt_of_cell? w _ hx446_0)).trans hx446_0
       replace p446 := eq_true p446
       replace q446 := eq_true q446
       go_wp2_with (first | ((with_reducible refine gate_builtin (b := .append) (xs := #[.tmp 16, .tmp 25]) rfl ?_); at_builtin; refine Kd.R_append Kd.bool (w0 := w) w.heap.size rfl (.tmp 16) (.tmp 25) 63 4 (.bool false) 1 rfl Try.underlying63 info4 rfl (by decide) (by omega) u3 x3_2 ((Go.bits .and .u32 (ji7) 1) == 1) [.bool ((Go.bits .and .u32 (ji7) 1) == 1)] (fun k_ => (w.heap.size ≤ k_)) (fun _ => False) rfl rfl ?aP (fun _ hk => hk.elim) ?aF ?aO ?aB ?aS ?aL ?_; (case aP => exact rfl); (case aB => exact (Sq.bl HB)); (case aF => exact (fun k_ hk => (Nat.le_trans (below_size (Sq.bl HB)) hk))); (case aO => exact (Sq.al HO_3)); (case aS => exact (below_size (Sq.bl HB))); (case aL => have := LMc8.out; omega); intro v448 w9 ho hb hg hat; rw [← Ny447.out] at ho; replace HB := Aside0.mk (hb); have HO449 := Aside0.mk (ho); clear HO_3; clear ho hb hg hat))
       go_roundg k2
       case measure => have := HK1.out; have := HK2.out; omega
       case rel => exact ⟨(y447), (wrap64 (x5_2 + 1)), (by first | rfl | (simp; done) | (simp [*]; done)), H', ⟨by have := HK1.out; have := HK2.out; omega⟩, ⟨by (with_reducible repeat (first | apply Kd.R_alloc | apply Kd.R_drewN | apply Kd.R_drew)); exact HO449.out⟩, ⟨Sq.bl HB⟩⟩
      ·rw [if_neg c3] at H
       have c3b0 : decide (x5_2 < 32) = false := decide_eq_false c3
       clear c3
       have H' := Aside0.mk H
       clear H
       go_wp2
       go_roundg k2
       case measure => have := HK1.out; have := HK2.out; omega
       case rel => exact ⟨(x3_2), (wrap64 (x4_1 + 1)), (by first | rfl | (simp; done) | (simp [*]; done)), H', ⟨by have := HK1.out; have := HK2.out; omega⟩, ⟨by (with_reducible repeat (first | apply Kd.R_alloc | apply Kd.R_drewN | apply Kd.R_drew)); exact HO_3.out⟩, ⟨Sq.bl HB⟩⟩
   ·rw [if_neg c2] at H
    have c2b0 : decide (x4_1 < (l0.length : Int)) = false := decide_eq_false c2
    clear c2
    replace H := Sq.bd H
    obtain ⟨t443, A10, H⟩ := H
    (try dsimp -simprocs only at H)
    obtain rfl := Option.some.inj H
    obtain ⟨Ao11, co11, eo11⟩ := Kd.R_slice HO_3.out
    subst eo11
    go_wp2_with (first | ((with_reducible refine gate_callee (f := 173) rfl ?_); refine Sq.gl (some 28) Try.func173 #[.slice Ao11 x3_1.length co11] ?_; (with_reducible refine (foliotref01_cut.calls k1 (fun k_ => some k_ = (.slice Ao11 x3_1.length co11 : Value).ownBlock) _ _ x3_1 t443 _ ?side1 A10.out).mono ?_); (case side1 => exact Kd.R_V (Kd.R_tight rfl (HO_3.out))); rintro e w12 ⟨v444, rfl, ho0, hb⟩; refine ⟨_, rfl, ?_⟩; have HO445 := Aside0.mk (Kd.V_lower (Kd.V_mono (ok' := fun k_ => (w.heap.size ≤ k_)) ho0 (fun k_ hk_ => Or.elim hk_ (fun hs_ => ((HO_3.out).1 k_ hs_.symm)) (fun hn_ => (Nat.le_trans (below_size (Sq.bl HB)) hn_)))) (below_size (Sq.bl HB))); replace HO_3 := Aside0.mk (Kd.R_below (Sq.al HO_3) hb); replace HB := Sq.bs HB hb; (try clear hb); (try clear hb2); (try clear hk); (try clear hi); (try clear ho0)))
    go_ret
    exact ⟨_, by first | rfl | (simp [errW_none, errW_some] <;> rfl) | (simp [*, errW_none, errW_some] <;> rfl), by (with_reducible repeat (first | apply Kd.V_alloc | apply Kd.V_drewN | apply Kd.V_drew)); exact HO445.out, Sq.bl HB⟩
mutual
def foliotref01_Limbs.l0 : Nat → List Bool → List Int → Int → Option (List Int)
 | 0, _, _, _ => none
 | k + 1, x0, x3, x4 => if x4 < (x0.length : Int) then (foliotref01_Limbs.l1 k x0 x3 x4 0 0) else (some x3)
def foliotref01_Limbs.l1 : Nat → List Bool → List Int → Int → Int → Int → Option (List Int)
 | 0, _, _, _, _, _ => none
 | k + 1, x0, x3, x4, x5, x6 => if x6 < 32 then (foliotref01_Limbs.j2 k x0 x3 x4 x5 x6 (decide ((wrap64 (x4 + x6)) < (x0.length : Int)))) else (foliotref01_Limbs.j2 k x0 x3 x4 x5 x6 false)
def foliotref01_Limbs.j2 : Nat → List Bool → List Int → Int → Int → Int → Bool → Option (List Int)
 | 0, _, _, _, _, _, _ => none
 | k + 1, x0, x3, x4, x5, x6, x24 => if x24 = true then (if 0 ≤ (wrap64 (x4 + x6)) then (if (wrap64 (x4 + x6)) < (x0.length : Int) then (if rdOf false x0 (wrap64 (x4 + x6)) = true then (if 0 ≤ x6 then (foliotref01_Limbs.l1 k x0 x3 x4 (Go.bits .or .u32 x5 (shl .u32 1 x6)) (wrap64 (x6 + 1))) else (none)) else (foliotref01_Limbs.l1 k x0 x3 x4 x5 (wrap64 (x6 + 1)))) else (none)) else (none)) else (if x3.length < 35184372088832 then (foliotref01_Limbs.l0 k x0 (x3 ++ [x5]) (wrap64 (x4 + 32))) else (none))
end
def foliotref01_Limbs.f (k : Nat) (l0 : List Bool) : Option (List Int) := (foliotref01_cut.f k l0).bind fun t450 => (foliotref01_Limbs.l0 k t450 ([] : List Int) 0)
set_option maxHeartbeats 8000000 in
set_option maxRecDepth 100000 in
theorem foliotref01_Limbs.calls (k : Nat) (A0 : Option Addr) (c0 : Nat) (l0 : List Bool) (r : List Int) (w : World) (hr0 : Kd.C Kd.bool w A0 l0.length l0) (hc0 : l0.length ≤ c0) (h : foliotref01_Limbs.f k l0 = some r) :
  Calls Try.prog 137 #[.slice A0 l0.length c0] w fun e w' => ∃ v0_ : Value, e = .returned (v0_) ∧ Kd.R (Kd.int .u32) 107 w' w.heap.size (fun _ => True) v0_ r ∧ Below w.heap.size w w' := by
 have HR0 := Aside0.mk hr0
 have HC0 := Aside0.mk hc0
 clear hr0 hc0
 have HB := Aside0.mk (Below.refl w.heap.size w)
 have H : ((foliotref01_cut.f k l0).bind fun t450 => (foliotref01_Limbs.l0 k t450 ([] : List Int) 0)) = some r := h
 clear h
 replace H := Sq.bd H
 obtain ⟨t450, A2, H⟩ := H
 (try dsimp -simprocs only at H)
 have H' := Aside0.mk H
 clear H
 go_enter Try.func137, Try.ntmps137
 go_wp2_with (first | ((with_reducible refine gate_callee (f := 173) rfl ?_); refine Sq.gl (some 8) Try.func173 #[.slice A0 l0.length c0] ?_; (with_reducible refine (foliotref01_cut.calls k (fun k_ => k_ < w.heap.size) _ _ l0 t450 _ ?side1 A2.out).mono ?_); (case side1 => exact Kd.V_mk HC0.out (Kd.F_below (Kd.C_F Kd.heap_bool HR0.out) (Sq.bl HB))); rintro e w3 ⟨v451, rfl, ho0, hb⟩; refine ⟨_, rfl, ?_⟩; have HO452 := Aside0.mk (Kd.V_lower (Kd.V_mono (ok' := fun k_ => True) ho0 (fun k_ hk_ => trivial)) (below_size (Sq.bl HB))); replace HB := Sq.bs HB hb; (try clear hb); (try clear hb2); (try clear hk); (try clear hi); (try clear ho0)))
 go_loopg [3, 4] k (fun kq v3 v4 w' => ∃ (x3_1 : List Int) (x4_1 : Int), v4 = .int .i64 x4_1 ∧ Aside0 (foliotref01_Limbs.l0 kq t450 x3_1 x4_1 = some r) ∧ Aside0 (kq ≤ k) ∧ Aside0 (Kd.V Kd.bool 4 w' w.heap.size (fun k_ => some k_ ≠ (v3 : Value).ownBlock) v451 t450) ∧ Aside0 (Kd.R (Kd.int .u32) 107 w' w.heap.size (fun _ => True) v3 x3_1) ∧ Aside0 (Below w.heap.size w w'))
 case atStart => exact ⟨(([] : List Int)), (0), (by first | rfl | (simp; done) | (simp [*]; done)), H', ⟨Nat.le_refl _⟩, ⟨by (with_reducible repeat (first | apply Kd.V_alloc | apply Kd.V_drewN | apply Kd.V_drew)); exact Kd.V_mono HO452.out (fun _ hk => (by simp [Value.ownBlock]))⟩, ⟨by first | exact Kd.R_nil _ _ _ _ _ | exact Kd.N_nil _ _ _ _ _ | exact Kd.V_nil _ _ _ _ _ | exact Kd.Q_nil _ _ _ _ _ | exact Kd.S_nil _ _ _ _ _⟩, ⟨Sq.bl HB⟩⟩
 case round =>
  clear H'
  try clear c1
  try clear p2
  obtain ⟨x3_1, x4_1, rfl, HA, HK1, HO_0, HO_3, HB⟩ := hrel
  cases gk with
  | zero => exact absurd HA.out (by simp [foliotref01_Limbs.l0])
  | succ k1 =>
   have H := HA.out
   clear HA
   simp only [foliotref01_Limbs.l0] at H
   by_cases c4 : x4_1 < (t450.length : Int)
   ·rw [if_pos c4] at H
    have c4b0 : decide (x4_1 < (t450.length : Int)) = true := decide_eq_true c4
    clear c4
    have H' := Aside0.mk H
    clear H
    obtain ⟨Ao5, co5, eo5⟩ := Kd.V_slice HO_0.out
    subst eo5
    go_wp2
    go_loopg [5, 6] k1 (fun kq v5 v6 w' => ∃ (x5_2 : Int) (x6_2 : Int), v5 = .int .u32 x5_2 ∧ v6 = .int .i64 x6_2 ∧ Aside0 (foliotref01_Limbs.l1 kq t450 x3_1 x4_1 x5_2 x6_2 = some r) ∧ Aside0 (kq ≤ k1) ∧ Aside0 (Kd.V Kd.bool 4 w' w.heap.size (fun k_ => some k_ ≠ (u3 : Value).ownBlock) (.slice Ao5 t450.length co5) t450) ∧ Aside0 (Kd.R (Kd.int .u32) 107 w' w.heap.size (fun _ => True) u3 x3_1) ∧ Aside0 (Below w.heap.size w w'))
    case atStart => exact ⟨(0), (0), (by first | rfl | (simp; done) | (simp [*]; done)), (by first | rfl | (simp; done) | (simp [*]; done)), H', ⟨Nat.le_refl _⟩, ⟨by (with_reducible repeat (first | apply Kd.V_alloc | apply Kd.V_drewN | apply Kd.V_drew)); exact HO_0.out⟩, ⟨by (with_reducible repeat (first | apply Kd.R_alloc | apply Kd.R_drewN | apply Kd.R_drew)); exact HO_3.out⟩, ⟨Sq.bl HB⟩⟩
    case round =>
     clear H'
     try clear c1
     try clear p2
     try clear c4
     try clear c4b0
     try clear p2
     obtain ⟨x5_2, x6_2, rfl, rfl, HA, HK2, HO_0, HO_3, HB⟩ := hrel
     cases gk with
     | zero => exact absurd HA.out (by simp [foliotref01_Limbs.l1])
     | succ k2 =>
      have H := HA.out
      clear HA
      simp only [foliotref01_Limbs.l1] at H
      have HC6 := Aside0.mk H
      clear H
      go_upto_region 8 with (fail)
      go_cut [24] (fun v24 wc => ∃ (kq : Nat) (x24_5 : Bool), v24 = .bool x24_5 ∧ Aside0 (foliotref01_Limbs.j2 kq t450 x3_1 x4_1 x5_2 x6_2 x24_5 = some r) ∧ Aside0 (kq ≤ k2) ∧ Aside0 (Kd.V Kd.bool 4 wc w.heap.size (fun k_ => some k_ ≠ (u3 : Value).ownBlock) (.slice Ao5 t450.length co5) t450) ∧ Aside0 (Kd.R (Kd.int .u32) 107 wc w.heap.size (fun _ => True) u3 x3_1) ∧ Aside0 (Below w.heap.size w wc))
      case first =>
       have H := HC6.out
       clear HC6
       by_cases c7 : x6_2 < 32
       ·rw [if_pos c7] at H
        have c7b0 : decide (x6_2 < 32) = true := decide_eq_true c7
        clear c7
        (first | rw [c7b0] | (simp only [i64_w, i32_w]; rw [c7b0]) | skip)
        have H' := Aside0.mk H
        clear H
        go_wp2
        go_meet
        case rel => exact ⟨_, (decide ((wrap64 (x4_1 + x6_2)) < (t450.length : Int))), (by first | rfl | (simp; done) | (simp [*]; done)), H', ⟨by have := HK1.out; have := HK2.out; first | omega | exact Nat.le_refl _⟩, ⟨by (with_reducible repeat (first | apply Kd.V_alloc | apply Kd.V_drewN | apply Kd.V_drew)); exact HO_0.out⟩, ⟨by (with_reducible repeat (first | apply Kd.R_alloc | apply Kd.R_drewN | apply Kd.R_drew)); exact HO_3.out⟩, ⟨Sq.bl HB⟩⟩
       ·rw [if_neg c7] at H
        have c7b0 : decide (x6_2 < 32) = false := decide_eq_false c7
        clear c7
        (first | rw [c7b0] | (simp only [i64_w, i32_w]; rw [c7b0]) | skip)
        have H' := Aside0.mk H
        clear H
        go_wp2
        go_meet
        case rel => exact ⟨_, (false), (by first | rfl | (simp; done) | (simp [*]; done)), H', ⟨by have := HK1.out; have := HK2.out; first | omega | exact Nat.le_refl _⟩, ⟨by (with_reducible repeat (first | apply Kd.V_alloc | apply Kd.V_drewN | apply Kd.V_drew)); exact HO_0.out⟩, ⟨by (with_reducible repeat (first | apply Kd.R_alloc | apply Kd.R_drewN | apply Kd.R_drew)); exact HO_3.out⟩, ⟨Sq.bl HB⟩⟩
      case rest =>
       clear HC6
       try clear c1
       try clear p2
       try clear c4
       try clear c4b0
       try clear p6
       try clear c7
       try clear c7b0
       try clear p2
       obtain ⟨kq, x24_5, rfl, HA, HJ5, HO_0, HO_3, HB⟩ := hcut
       cases kq with
       | zero => exact absurd HA.out (by simp [foliotref01_Limbs.j2])
       | succ kj5 =>
        have H := HA.out
        clear HA
        simp only [foliotref01_Limbs.j2] at H
        by_cases c8 : x24_5 = true
        ·subst c8
         have H1 : (if 0 ≤ (wrap64 (x4_1 + x6_2)) then (if (wrap64 (x4_1 + x6_2)) < (t450.length : Int) then (if rdOf false t450 (wrap64 (x4_1 + x6_2)) = true then (if 0 ≤ x6_2 then (foliotref01_Limbs.l1 kj5 t450 x3_1 x4_1 (Go.bits .or .u32 x5_2 (shl .u32 1 x6_2)) (wrap64 (x6_2 + 1))) else (none)) else (foliotref01_Limbs.l1 kj5 t450 x3_1 x4_1 x5_2 (wrap64 (x6_2 + 1)))) else (none)) else (none)) = some r := by rw [if_pos rfl] at H; exact H
         clear H
         have H := H1
         clear H1
         obtain ⟨ji9, hji9⟩ : ∃ j_ : Int, (wrap64 (x4_1 + x6_2)) = j_ := ⟨_, rfl⟩
         (first | rw [hji9] at H | simp only [hji9] at H)
         have hji9w : (IntKind.i64.wrap (x4_1 + x6_2)) = ji9 := (i64_w _).trans hji9
         replace H := Sq.ifs H
         obtain ⟨c10, H⟩ := H
         have c10b0 : decide (0 ≤ (ji9)) = true := decide_eq_true c10
         clear c10
         replace H := Sq.ifs H
         obtain ⟨c11, H⟩ := H
         have c11b0 : decide ((ji9) < (t450.length : Int)) = true := decide_eq_true c11
         clear c11
         obtain ⟨bq12, hbq12⟩ : ∃ b_ : Bool, b_ = (rdOf false t450 (ji9)) := ⟨_, rfl⟩
         replace H : (if bq12 = true then (if 0 ≤ x6_2 then (foliotref01_Limbs.l1 kj5 t450 x3_1 x4_1 (Go.bits .or .u32 x5_2 (shl .u32 1 x6_2)) (wrap64 (x6_2 + 1))) else (none)) else (foliotref01_Limbs.l1 kj5 t450 x3_1 x4_1 x5_2 (wrap64 (x6_2 + 1)))) = some r := by rw [← hbq12] at H; exact H
         have Nbq12 := Aside0.mk hbq12
         clear hbq12
         by_cases c13 : bq12 = true
         ·subst c13
          have H1 : (if 0 ≤ x6_2 then (foliotref01_Limbs.l1 kj5 t450 x3_1 x4_1 (Go.bits .or .u32 x5_2 (shl .u32 1 x6_2)) (wrap64 (x6_2 + 1))) else (none)) = some r := by rw [if_pos rfl] at H; exact H
          clear H
          have H := H1
          clear H1
          replace H := Sq.ifs H
          obtain ⟨c14, H⟩ := H
          have c14b0 := eq_true c14
          have c14b1 : decide (0 ≤ x6_2) = true := decide_eq_true c14
          clear c14
          obtain ⟨ji15, hji15⟩ : ∃ j_ : Int, (shl .u32 1 x6_2) = j_ := ⟨_, rfl⟩
          (first | rw [hji15] at H | simp only [hji15] at H)
          have hji15_ : (IntKind.u32.wrap (1 * 2 ^ min x6_2.toNat 32)) = ji15 := hji15
          have hji15z : x6_2 ≤ 32 → (IntKind.u32.wrap (1 * 2 ^ x6_2.toNat)) = ji15 := shl_small hji15
          have hji15u : (IntKind.u32.wrap (2 ^ min x6_2.toNat 32)) = ji15 := by have h_ := hji15_; rw [Int.one_mul] at h_; exact h_
          have hji15v : x6_2 ≤ 32 → (IntKind.u32.wrap (2 ^ x6_2.toNat)) = ji15 := fun hle_ => by have h_ := hji15z hle_; rw [Int.one_mul] at h_; exact h_
          have H' := Aside0.mk H
          clear H
          have p453 : 0 ≤ ((ji9) : Int) := of_decide_eq_true (by first | (with_reducible assumption) | assumption)
          have q453 : (ji9) < (t450.length : Int) := of_decide_eq_true (by first | (with_reducible assumption) | assumption)
          obtain ⟨ad453, e453, hx453_0⟩ := Kd.at_bool (Kd.V_reads' HO_0.out).2.2 (ji9) p453 q453
          (try rw [← Nbq12.out] at hx453_0)
          cases e453
          replace p453 := eq_true p453
          replace q453 := eq_true q453
          go_wp2
          go_roundg kj5
          case measure => have := HK1.out; have := HK2.out; have := HJ5.out; omega
          case rel => exact ⟨(Go.bits .or .u32 x5_2 (ji15)), (wrap64 (x6_2 + 1)), (by first | rfl | (simp; done) | (simp only [← hji15] <;> (first | rfl | simp)) | (simp [*]; done)), (by first | rfl | (simp; done) | (simp [*]; done)), H', ⟨by have := HK1.out; have := HK2.out; have := HJ5.out; omega⟩, ⟨by (with_reducible repeat (first | apply Kd.V_alloc | apply Kd.V_drewN | apply Kd.V_drew)); exact HO_0.out⟩, ⟨by (with_reducible repeat (first | apply Kd.R_alloc | apply Kd.R_drewN | apply Kd.R_drew)); exact HO_3.out⟩, ⟨Sq.bl HB⟩⟩
         ·replace c13 := Bool.eq_false_iff.mpr c13
          subst c13
          have H1 : (foliotref01_Limbs.l1 kj5 t450 x3_1 x4_1 x5_2 (wrap64 (x6_2 + 1))) = some r := by rw [if_neg (show ¬ (false = true) by decide)] at H; exact H
          clear H
          have H := H1
          clear H1
          have H' := Aside0.mk H
          clear H
          have p453 : 0 ≤ ((ji9) : Int) := of_decide_eq_true (by first | (with_reducible assumption) | assumption)
          have q453 : (ji9) < (t450.length : Int) := of_decide_eq_true (by first | (with_reducible assumption) | assumption)
          obtain ⟨ad453, e453, hx453_0⟩ := Kd.at_bool (Kd.V_reads' HO_0.out).2.2 (ji9) p453 q453
          (try rw [← Nbq12.out] at hx453_0)
          cases e453
          replace p453 := eq_true p453
          replace q453 := eq_true q453
          go_wp2
          go_roundg kj5
          case measure => have := HK1.out; have := HK2.out; have := HJ5.out; omega
          case rel => exact ⟨(x5_2), (wrap64 (x6_2 + 1)), (by first | rfl | (simp; done) | (simp [*]; done)), (by first | rfl | (simp; done) | (simp [*]; done)), H', ⟨by have := HK1.out; have := HK2.out; have := HJ5.out; omega⟩, ⟨by (with_reducible repeat (first | apply Kd.V_alloc | apply Kd.V_drewN | apply Kd.V_drew)); exact HO_0.out⟩, ⟨by (with_reducible repeat (first | apply Kd.R_alloc | apply Kd.R_drewN | apply Kd.R_drew)); exact HO_3.out⟩, ⟨Sq.bl HB⟩⟩
        ·replace c8 := Bool.eq_false_iff.mpr c8
         subst c8
         have H1 : (if x3_1.length < 35184372088832 then (foliotref01_Limbs.l0 kj5 t450 (x3_1 ++ [x5_2]) (wrap64 (x4_1 + 32))) else (none)) = some r := by rw [if_neg (show ¬ (false = true) by decide)] at H; exact H
         clear H
         have H := H1
         clear H1
         replace H := Sq.ifs H
         obtain ⟨c16, H⟩ := H
         have LMc16 := Aside0.mk c16
         clear c16
         obtain ⟨y454, hy454⟩ : ∃ y_ : List Int, y_ = (x3_1 ++ [x5_2]) := ⟨_, rfl⟩
         (first | (replace H := Sq.ny hy454 H; (try dsimp -simprocs only at H)) | rw [← hy454] at H | skip)
         have Ny454 := Aside0.mk hy454
         clear hy454
         have H' := Aside0.mk H
         clear H
         go_wp2_with (first | ((with_reducible refine gate_builtin (b := .append) (xs := #[.tmp 37, .tmp 39]) rfl ?_); (try (refine gate_guard (by rfl) ?_; dsimp only)); at_builtin; refine Kd.R_append (Kd.int .u32) (w0 := w) w.heap.size rfl (.tmp 37) (.tmp 39) 22 107 (.int .u32 0) 4 rfl Try.underlying22 info107 rfl (by decide) (by omega) u3 x3_1 x5_2 [.int .u32 x5_2] (fun _ => True) (fun _ => False) rfl rfl ?aP (fun _ hk => hk.elim) ?aF ?aO ?aB ?aS ?aL ?_; (case aP => exact rfl); (case aB => exact (Sq.bl HB)); (case aF => exact (fun _ _ => trivial)); (case aO => exact (Sq.al HO_3)); (case aS => exact (below_size (Sq.bl HB))); (case aL => have := LMc16.out; omega); intro v455 w17 ho hb hg hat; rw [← Ny454.out] at ho; replace HO_0 := Aside0.mk (Kd.V_afterv (ok := (fun _ => True)) (by (with_reducible repeat (first | apply Kd.V_alloc | apply Kd.V_drewN | apply Kd.V_drew)); exact Kd.V_mono HO_0.out (fun _ hk => ⟨trivial, hk⟩)) hg hat); replace HB := Aside0.mk (hb); have HO456 := Aside0.mk (ho); clear HO_3; clear ho hb hg hat))
         go_roundg kj5
         case measure => have := HK1.out; have := HK2.out; have := HJ5.out; omega
         case rel => exact ⟨(y454), (wrap64 (x4_1 + 32)), (by first | rfl | (simp; done) | (simp [*]; done)), H', ⟨by have := HK1.out; have := HK2.out; have := HJ5.out; omega⟩, ⟨by (with_reducible repeat (first | apply Kd.V_alloc | apply Kd.V_drewN | apply Kd.V_drew)); exact Kd.V_mono HO_0.out (fun _ hk => hk.2)⟩, ⟨by (with_reducible repeat (first | apply Kd.R_alloc | apply Kd.R_drewN | apply Kd.R_drew)); exact HO456.out⟩, ⟨Sq.bl HB⟩⟩
   ·rw [if_neg c4] at H
    have c4b0 : decide (x4_1 < (t450.length : Int)) = false := decide_eq_false c4
    clear c4
    obtain rfl := Option.some.inj H
    obtain ⟨Ao18, co18, eo18⟩ := Kd.V_slice HO_0.out
    subst eo18
    go_wp2
    go_ret
    exact ⟨_, by first | rfl | (simp [errW_none, errW_some] <;> rfl) | (simp [*, errW_none, errW_some] <;> rfl), by (with_reducible repeat (first | apply Kd.R_alloc | apply Kd.R_drewN | apply Kd.R_drew)); exact HO_3.out, Sq.bl HB⟩
def foliotref01_at.f (l0 : List Bool) (a1 : Int) : Option (Bool) := if a1 < (l0.length : Int) then (if 0 ≤ a1 then (some (rdOf false l0 a1)) else (none)) else (some false)
set_option maxHeartbeats 8000000 in
set_option maxRecDepth 100000 in
theorem foliotref01_at.calls (A0 : Option Addr) (c0 : Nat) (l0 : List Bool) (a1 : Int) (r : Bool) (w : World) (hr0 : Kd.C Kd.bool w A0 l0.length l0) (hc0 : l0.length ≤ c0) (h : foliotref01_at.f l0 a1 = some r) :
  Calls Try.prog 175 #[.slice A0 l0.length c0, .int .i64 a1] w fun e w' => e = .returned (.bool r) ∧ Drawn0 w w' := by
 have HR0 := Aside0.mk hr0
 have HC0 := Aside0.mk hc0
 clear hr0 hc0
 have H : (if a1 < (l0.length : Int) then (if 0 ≤ a1 then (some (rdOf false l0 a1)) else (none)) else (some false)) = some r := h
 clear h
 by_cases c3 : a1 < (l0.length : Int)
 ·rw [if_pos c3] at H
  have c3b0 : decide (a1 < (l0.length : Int)) = true := decide_eq_true c3
  clear c3
  replace H := Sq.ifs H
  obtain ⟨c4, H⟩ := H
  have c4b0 : decide (0 ≤ a1) = true := decide_eq_true c4
  clear c4
  obtain rfl := Option.some.inj H
  have p457 : 0 ≤ (a1 : Int) := of_decide_eq_true (by first | (with_reducible assumption) | assumption)
  have q457 : a1 < (l0.length : Int) := of_decide_eq_true (by first | (with_reducible assumption) | assumption)
  obtain ⟨ad457, e457, hx457_0⟩ := Kd.at_bool HR0.out a1 p457 q457
  cases e457
  replace p457 := eq_true p457
  replace q457 := eq_true q457
  go_enter Try.func175, Try.ntmps175
  go_wp2
  go_ret
  exact ⟨by first | rfl | (simp; done) | (simp [*]; done), by repeat (first | exact Drawn0.refl _ | apply Drawn0.step)⟩
 ·rw [if_neg c3] at H
  have c3b0 : decide (a1 < (l0.length : Int)) = false := decide_eq_false c3
  clear c3
  obtain rfl := Option.some.inj H
  go_enter Try.func175, Try.ntmps175
  go_wp2
  go_ret
  exact ⟨by first | rfl | (simp; done) | (simp [*]; done), by repeat (first | exact Drawn0.refl _ | apply Drawn0.step)⟩
def foliotref01_cmp.l0 : Nat → List Bool → List Bool → Int → Option (Int)
 | 0, _, _, _ => none
 | k + 1, x0, x1, x5 => if x5 ≥ 0 then ((foliotref01_at.f x0 x5).bind fun t458 => ((foliotref01_at.f x1 x5).bind fun t459 => (if (t458 != t459) = true then ((foliotref01_at.f x0 x5).bind fun t460 => (if t460 = true then (some 1) else (some (-1)))) else (foliotref01_cmp.l0 k x0 x1 (wrap64 (x5 - 1)))))) else (some 0)
def foliotref01_cmp.f (k : Nat) (l0 : List Bool) (l1 : List Bool) : Option (Int) := foliotref01_cmp.l0 k l0 l1 (wrap64 ((mx (l0.length : Int) (l1.length : Int)) - 1))
set_option maxHeartbeats 8000000 in
set_option maxRecDepth 100000 in
theorem foliotref01_cmp.calls (k : Nat) (A0 : Option Addr) (c0 : Nat) (l0 : List Bool) (A1 : Option Addr) (c1 : Nat) (l1 : List Bool) (r : Int) (w : World) (hr0 : Kd.C Kd.bool w A0 l0.length l0) (hc0 : l0.length ≤ c0) (hr1 : Kd.C Kd.bool w A1 l1.length l1) (hc1 : l1.length ≤ c1) (h : foliotref01_cmp.f k l0 l1 = some r) :
  Calls Try.prog 143 #[.slice A0 l0.length c0, .slice A1 l1.length c1] w fun e w' => e = .returned (.int .i64 r) ∧ Below w.heap.size w w' := by
 have HR0 := Aside0.mk hr0
 have HC0 := Aside0.mk hc0
 clear hr0 hc0
 have HR1 := Aside0.mk hr1
 have HC1 := Aside0.mk hc1
 clear hr1 hc1
 have HB := Aside0.mk (Below.refl w.heap.size w)
 have H : (foliotref01_cmp.l0 k l0 l1 (wrap64 ((mx (l0.length : Int) (l1.length : Int)) - 1))) = some r := h
 clear h
 obtain ⟨ji3, hji3⟩ : ∃ j_ : Int, (mx (l0.length : Int) (l1.length : Int)) = j_ := ⟨_, rfl⟩
 (first | rw [hji3] at H | simp only [hji3] at H)
 (try (have hji3l : 0 ≤ ji3 := by (rw [← hji3]; unfold mx; (repeat' split) <;> omega)))
 (try (have hji3m : 0 ≤ ji3 := by omega))
 have hji3_ : (if (l0.length : Int) < (l1.length : Int) then (l1.length : Int) else (l0.length : Int)) = ji3 := hji3
 have hji3n : (if l0.length < l1.length then (l1.length : Int) else (l0.length : Int)) = ji3 := by rw [← hji3_]; split <;> split <;> omega
 have hji3d : decide (l0.length < l1.length) = decide ((l0.length : Int) < (l1.length : Int)) := by rw [decide_eq_decide]; omega
 have H' := Aside0.mk H
 clear H
 go_enter Try.func143, Try.ntmps143
 go_wp2
 go_loopg [5] k (fun kq v5 w' => ∃ (x5_1 : Int), v5 = .int .i64 x5_1 ∧ Aside0 (foliotref01_cmp.l0 kq l0 l1 x5_1 = some r) ∧ Aside0 (kq ≤ k) ∧ Aside0 (Below w.heap.size w w'))
 case atStart => exact ⟨(wrap64 ((ji3) - 1)), (by first | rfl | (simp; done) | (simp only [← hji3] <;> (first | rfl | simp)) | (simp [*]; done)), H', ⟨Nat.le_refl _⟩, ⟨Sq.bl HB⟩⟩
 case round =>
  clear H'
  try clear c1
  try clear p2
  obtain ⟨x5_1, rfl, HA, HK1, HB⟩ := hrel
  cases gk with
  | zero => exact absurd HA.out (by simp [foliotref01_cmp.l0])
  | succ k1 =>
   have H := HA.out
   clear HA
   simp only [foliotref01_cmp.l0] at H
   by_cases c4 : x5_1 ≥ 0
   ·rw [if_pos c4] at H
    have c4b0 : decide (0 ≤ x5_1) = true := decide_eq_true c4
    clear c4
    replace H := Sq.bd H
    obtain ⟨t458, A5, H⟩ := H
    (try dsimp -simprocs only at H)
    replace H := Sq.bd H
    obtain ⟨t459, A6, H⟩ := H
    (try dsimp -simprocs only at H)
    by_cases c7 : (t458 != t459) = true
    ·rw [if_pos c7] at H
     have c7b0 : (t458 != t459) = true := c7
     (try (have c7b1 : decide (t458 = t459) = false := by simpa using c7))
     (try (have c7b2 : (t458 == t459) = false := by simpa using c7))
     (try (have c7b3 : ¬ (t458 = t459) := by simpa using c7))
     clear c7
     replace H := Sq.bd H
     obtain ⟨t460, A8, H⟩ := H
     (try dsimp -simprocs only at H)
     by_cases c9 : t460 = true
     ·subst c9
      have H1 : (some 1) = some r := by rw [if_pos rfl] at H; exact H
      clear H
      have H := H1
      clear H1
      obtain rfl := Option.some.inj H
      go_wp2_with (first | ((with_reducible refine gate_callee (f := 175) rfl ?_); refine Sq.gl (some 18) Try.func175 #[.slice A0 l0.length c0, .int .i64 x5_1] ?_; (with_reducible refine (foliotref01_at.calls _ _ l0 x5_1 t458 _ ?side1 ?side2 A5.out).mono ?_); (case side1 => exact Sq.ca (Kd.C_below HR0.out HB.out)); (case side2 => exact HC0.out); rintro e w' ⟨rfl, ⟨nd, rfl⟩⟩; refine ⟨_, rfl, ?_⟩) | ((with_reducible refine gate_callee (f := 175) rfl ?_); refine Sq.gl (some 21) Try.func175 #[.slice A1 l1.length c1, .int .i64 x5_1] ?_; (with_reducible refine (foliotref01_at.calls _ _ l1 x5_1 t459 _ ?side1 ?side2 A6.out).mono ?_); (case side1 => repeat (first | exact (Kd.C_below HR1.out (Sq.bl HB)) | (with_reducible refine Kd.C_alloc ?_ _) | (with_reducible refine Kd.C_drewN ?_ _) | (with_reducible refine Kd.C_drew ?_))); (case side2 => exact HC1.out); rintro e w' ⟨rfl, ⟨nd, rfl⟩⟩; refine ⟨_, rfl, ?_⟩) | ((with_reducible refine gate_callee (f := 175) rfl ?_); refine Sq.gl (some 25) Try.func175 #[.slice A0 l0.length c0, .int .i64 x5_1] ?_; (with_reducible refine (foliotref01_at.calls _ _ l0 x5_1 true _ ?side1 ?side2 A8.out).mono ?_); (case side1 => repeat (first | exact (Kd.C_below HR0.out (Sq.bl HB)) | (with_reducible refine Kd.C_alloc ?_ _) | (with_reducible refine Kd.C_drewN ?_ _) | (with_reducible refine Kd.C_drew ?_))); (case side2 => exact HC0.out); rintro e w' ⟨rfl, ⟨nd, rfl⟩⟩; refine ⟨_, rfl, ?_⟩))
      go_ret
      exact ⟨by first | rfl | (simp [errW_none, errW_some] <;> rfl) | (simp only [← hji3]; first | rfl | (simp [errW_none, errW_some] <;> rfl)) | (simp [*, errW_none, errW_some] <;> rfl), Sq.bl HB⟩
     ·replace c9 := Bool.eq_false_iff.mpr c9
      subst c9
      have H1 : (some (-1)) = some r := by rw [if_neg (show ¬ (false = true) by decide)] at H; exact H
      clear H
      have H := H1
      clear H1
      obtain rfl := Option.some.inj H
      go_wp2_with (first | ((with_reducible refine gate_callee (f := 175) rfl ?_); refine Sq.gl (some 18) Try.func175 #[.slice A0 l0.length c0, .int .i64 x5_1] ?_; (with_reducible refine (foliotref01_at.calls _ _ l0 x5_1 t458 _ ?side1 ?side2 A5.out).mono ?_); (case side1 => exact Sq.ca (Kd.C_below HR0.out HB.out)); (case side2 => exact HC0.out); rintro e w' ⟨rfl, ⟨nd, rfl⟩⟩; refine ⟨_, rfl, ?_⟩) | ((with_reducible refine gate_callee (f := 175) rfl ?_); refine Sq.gl (some 21) Try.func175 #[.slice A1 l1.length c1, .int .i64 x5_1] ?_; (with_reducible refine (foliotref01_at.calls _ _ l1 x5_1 t459 _ ?side1 ?side2 A6.out).mono ?_); (case side1 => repeat (first | exact (Kd.C_below HR1.out (Sq.bl HB)) | (with_reducible refine Kd.C_alloc ?_ _) | (with_reducible refine Kd.C_drewN ?_ _) | (with_reducible refine Kd.C_drew ?_))); (case side2 => exact HC1.out); rintro e w' ⟨rfl, ⟨nd, rfl⟩⟩; refine ⟨_, rfl, ?_⟩) | ((with_reducible refine gate_callee (f := 175) rfl ?_); refine Sq.gl (some 25) Try.func175 #[.slice A0 l0.length c0, .int .i64 x5_1] ?_; (with_reducible refine (foliotref01_at.calls _ _ l0 x5_1 false _ ?side1 ?side2 A8.out).mono ?_); (case side1 => repeat (first | exact (Kd.C_below HR0.out (Sq.bl HB)) | (with_reducible refine Kd.C_alloc ?_ _) | (with_reducible refine Kd.C_drewN ?_ _) | (with_reducible refine Kd.C_drew ?_))); (case side2 => exact HC0.out); rintro e w' ⟨rfl, ⟨nd, rfl⟩⟩; refine ⟨_, rfl, ?_⟩))
      go_ret
      exact ⟨by first | rfl | (simp [errW_none, errW_some] <;> rfl) | (simp only [← hji3]; first | rfl | (simp [errW_none, errW_some] <;> rfl)) | (simp [*, errW_none, errW_some] <;> rfl), Sq.bl HB⟩
    ·rw [if_neg c7] at H
     have c7b0 : (t458 != t459) = false := by simpa using c7
     (try (have c7b1 : decide (t458 = t459) = true := by simpa using c7))
     (try (have c7b2 : (t458 == t459) = true := by simpa using c7))
     clear c7
     have H' := Aside0.mk H
     clear H
     go_wp2_with (first | ((with_reducible refine gate_callee (f := 175) rfl ?_); refine Sq.gl (some 18) Try.func175 #[.slice A0 l0.length c0, .int .i64 x5_1] ?_; (with_reducible refine (foliotref01_at.calls _ _ l0 x5_1 t458 _ ?side1 ?side2 A5.out).mono ?_); (case side1 => exact Sq.ca (Kd.C_below HR0.out HB.out)); (case side2 => exact HC0.out); rintro e w' ⟨rfl, ⟨nd, rfl⟩⟩; refine ⟨_, rfl, ?_⟩) | ((with_reducible refine gate_callee (f := 175) rfl ?_); refine Sq.gl (some 21) Try.func175 #[.slice A1 l1.length c1, .int .i64 x5_1] ?_; (with_reducible refine (foliotref01_at.calls _ _ l1 x5_1 t459 _ ?side1 ?side2 A6.out).mono ?_); (case side1 => repeat (first | exact (Kd.C_below HR1.out (Sq.bl HB)) | (with_reducible refine Kd.C_alloc ?_ _) | (with_reducible refine Kd.C_drewN ?_ _) | (with_reducible refine Kd.C_drew ?_))); (case side2 => exact HC1.out); rintro e w' ⟨rfl, ⟨nd, rfl⟩⟩; refine ⟨_, rfl, ?_⟩))
     go_roundg k1
     case measure => have := HK1.out; omega
     case rel => exact ⟨(wrap64 (x5_1 - 1)), (by first | rfl | (simp; done) | (simp [*]; done)), H', ⟨by have := HK1.out; omega⟩, ⟨Sq.bl HB⟩⟩
   ·rw [if_neg c4] at H
    have c4b0 : decide (0 ≤ x5_1) = false := decide_eq_false c4
    clear c4
    obtain rfl := Option.some.inj H
    go_wp2
    go_ret
    exact ⟨by first | rfl | (simp [errW_none, errW_some] <;> rfl) | (simp only [← hji3]; first | rfl | (simp [errW_none, errW_some] <;> rfl)) | (simp [*, errW_none, errW_some] <;> rfl), Sq.bl HB⟩
end Go.Proofs.Ytaclkccgjpjdjaa.N
