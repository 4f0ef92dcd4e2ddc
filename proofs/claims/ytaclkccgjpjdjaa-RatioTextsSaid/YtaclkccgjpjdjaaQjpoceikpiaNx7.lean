import Derived.Test.YtaclkccgjpjdjaaQemgcbmfiflNx0
import Derived.Test.YtaclkccgjpjdjaaQmkclageiacNx1
import Derived.Test.YtaclkccgjpjdjaaQeijobmoeelNx5
import Derived.Test.YtaclkccgjpjdjaaQdahjklfgkpNx6
import Derived.Test.YtaclkccgjpjdjaaQpbgibbbgddM
namespace Go.Proofs.Ytaclkccgjpjdjaa.N
open Go.RowKit Go.Proofs.YtaclkccgjpjdjaaW.PrintWords Go.Proofs.YtaclkccgjpjdjaaW.PrintLast Go.Proofs.YtaclkccgjpjdjaaW.PrintMore
attribute [local go_sem] max2_int min2_int max_two min_two max_three min_three max_four min_four   -- for this text's walks alone
set_option linter.unusedVariables false
set_option linter.unusedSimpArgs false
mutual
def nat_Print.l0 : Nat → List Int → List Int → Option (ByteArray)
 | 0, _, _ => none
 | k + 1, x0, x3 => if (x0.length : Int) > 0 then ((nat_small.f k x0 1000000000).bind fun bt292 => (nat_Print.l1 k x3 bt292.1 bt292.2 0)) else (if (x3.length : Int) = 0 then (some (⟨#[48]⟩ : ByteArray)) else ((slices_Reverse_byte_byte.f k x3).bind fun t291 => (some (strOfNums t291))))
def nat_Print.l1 : Nat → List Int → List Int → Int → Int → Option (ByteArray)
 | 0, _, _, _, _ => none
 | k + 1, x3, x4, x5, x6 => if x6 < 9 then (if (x4.length : Int) > 0 then (if x3.length < 140737488355328 then (nat_Print.l1 k (x3 ++ [(48 + (Int.tmod x5 10)) % 256]) x4 ((Int.tdiv x5 10) % 4294967296) (wrap64 (x6 + 1))) else (none)) else (if x5 > 0 then (if x3.length < 140737488355328 then (nat_Print.l1 k (x3 ++ [(48 + (Int.tmod x5 10)) % 256]) x4 ((Int.tdiv x5 10) % 4294967296) (wrap64 (x6 + 1))) else (none)) else (nat_Print.l0 k x4 x3))) else (nat_Print.l0 k x4 x3)
end
def nat_Print.f (k : Nat) (l0 : List Int) : Option (ByteArray) := (nat_Trim.f k l0).bind fun t288 => (nat_Print.l0 k t288 ([] : List Int))
set_option maxHeartbeats 8000000 in
set_option maxRecDepth 100000 in
theorem nat_Print.calls (k : Nat) (A0 : Option Addr) (c0 : Nat) (l0 : List Int) (r : ByteArray) (w : World) (hr0 : Kd.C (Kd.int .u32) w A0 l0.length l0) (hc0 : l0.length ≤ c0) (h : nat_Print.f k l0 = some r) :
  Calls Try.prog 39 #[.slice A0 l0.length c0] w fun e w' => e = .returned (.string r) ∧ Below w.heap.size w w' := by
 have HR0 := Aside0.mk hr0
 have HC0 := Aside0.mk hc0
 clear hr0 hc0
 have HB := Aside0.mk (Below.refl w.heap.size w)
 have H : ((nat_Trim.f k l0).bind fun t288 => (nat_Print.l0 k t288 ([] : List Int))) = some r := h
 clear h
 replace H := Sq.bd H
 obtain ⟨t288, A2, H⟩ := H
 (try dsimp -simprocs only at H)
 have H' := Aside0.mk H
 clear H
 go_enter Try.func39, Try.ntmps39
 go_wp2_with (first | ((with_reducible refine gate_callee (f := 41) rfl ?_); refine Sq.gl (some 8) Try.func41 #[.slice A0 l0.length c0] ?_; (with_reducible refine (nat_Trim.calls k _ _ l0 t288 _ ?side1 ?side2 A2.out).mono ?_); (case side1 => repeat (first | exact HR0.out | (with_reducible refine Kd.C_alloc ?_ _) | (with_reducible refine Kd.C_drewN ?_ _) | (with_reducible refine Kd.C_drew ?_))); (case side2 => exact HC0.out); rintro e w3 ⟨v289, rfl, ho0, hb⟩; refine ⟨_, rfl, ?_⟩; have HO290 := Aside0.mk (Kd.R_lower ho0 (below_size (Sq.bl HB))); replace HB := Sq.bs HB hb; (try clear hb); (try clear hb2); (try clear hk); (try clear hi); (try clear ho0)))
 go_loopg [0, 3] k (fun kq v0 v3 w' => ∃ (x0_1 : List Int) (x3_1 : List Int), Aside0 (nat_Print.l0 kq x0_1 x3_1 = some r) ∧ Aside0 (kq ≤ k) ∧ Aside0 (Kd.V (Kd.int .u32) 107 w' w.heap.size (fun k_ => some k_ ≠ (v3 : Value).ownBlock) v0 x0_1) ∧ Aside0 (Kd.R (Kd.int .u8) 5 w' w.heap.size (fun _ => True) v3 x3_1) ∧ Aside0 (Below w.heap.size w w'))
 case atStart => exact ⟨(t288), (([] : List Int)), H', ⟨Nat.le_refl _⟩, ⟨Kd.R_V (by (with_reducible repeat (first | apply Kd.R_alloc | apply Kd.R_drewN | apply Kd.R_drew)); exact Kd.R_mono HO290.out (fun _ hk => (by simp [Value.ownBlock])))⟩, ⟨by first | exact Kd.R_nil _ _ _ _ _ | exact Kd.N_nil _ _ _ _ _ | exact Kd.V_nil _ _ _ _ _ | exact Kd.Q_nil _ _ _ _ _ | exact Kd.S_nil _ _ _ _ _⟩, ⟨Sq.bl HB⟩⟩
 case round =>
  clear H'
  try clear p2
  try clear c3
  obtain ⟨x0_1, x3_1, HA, HK1, HO_0, HO_3, HB⟩ := hrel
  cases gk with
  | zero => exact absurd HA.out (by simp [nat_Print.l0])
  | succ k1 =>
   have H := HA.out
   clear HA
   simp only [nat_Print.l0] at H
   by_cases c4 : (x0_1.length : Int) > 0
   ·rw [if_pos c4] at H
    have c4b0 : decide (0 < (x0_1.length : Int)) = true := decide_eq_true c4
    have c4b1 : decide (0 < x0_1.length) = true := decide_eq_true (by omega)
    clear c4
    replace H := Sq.bd H
    obtain ⟨⟨t292, t295⟩, A5, H⟩ := H
    (try dsimp -simprocs only at H)
    have H' := Aside0.mk H
    clear H
    obtain ⟨Ao6, co6, eo6⟩ := Kd.V_slice HO_0.out
    subst eo6
    go_wp2_with (first | ((with_reducible refine gate_callee (f := 129) rfl ?_); refine Sq.gl (some 14) Try.func129 #[.slice Ao6 x0_1.length co6, .int .u32 1000000000] ?_; (with_reducible refine (nat_small.calls k1 _ _ x0_1 1000000000 t292 t295 _ ?side1 ?side2 A5.out).mono ?_); (case side1 => exact Sq.ca (Kd.V_reads' HO_0.out).2.2); (case side2 => exact (Kd.V_reads' HO_0.out).2.1); rintro e w7 ⟨v293, rfl, ho0, hb⟩; refine ⟨_, rfl, ?_⟩; replace HO_0 := Aside0.mk (Kd.V_below (Sq.al HO_0) hb); have HO294 := Aside0.mk (Kd.V_lower (Kd.V_mono (ok' := fun k_ => some k_ ≠ (u3 : Value).ownBlock) ho0 (fun k_ hk_ => (Kd.fresh' (Kd.R_lt (Sq.al HO_3)) k_ hk_))) (below_size (Sq.bl HB))); replace HO_3 := Aside0.mk (Kd.R_below (Sq.al HO_3) hb); replace HB := Sq.bs HB hb; (try clear hb); (try clear hb2); (try clear hk); (try clear hi); (try clear ho0)))
    go_loopg [3, 5, 6] k1 (fun kq v3 v5 v6 w' => ∃ (x3_2 : List Int) (x5_2 : Int) (x6_2 : Int), v5 = .int .u32 x5_2 ∧ v6 = .int .i64 x6_2 ∧ Aside0 (nat_Print.l1 kq x3_2 t292 x5_2 x6_2 = some r) ∧ Aside0 (kq ≤ k1) ∧ Aside0 (Kd.R (Kd.int .u8) 5 w' w.heap.size (fun _ => True) v3 x3_2) ∧ Aside0 (Kd.V (Kd.int .u32) 107 w' w.heap.size (fun k_ => some k_ ≠ (v3 : Value).ownBlock) v293 t292) ∧ Aside0 (Below w.heap.size w w'))
    case atStart => exact ⟨(x3_1), (t295), (0), (by first | rfl | (simp; done) | (simp [*]; done)), (by first | rfl | (simp; done) | (simp [*]; done)), H', ⟨Nat.le_refl _⟩, ⟨by (with_reducible repeat (first | apply Kd.R_alloc | apply Kd.R_drewN | apply Kd.R_drew)); exact HO_3.out⟩, ⟨by (with_reducible repeat (first | apply Kd.V_alloc | apply Kd.V_drewN | apply Kd.V_drew)); exact HO294.out⟩, ⟨Sq.bl HB⟩⟩
    case round =>
     clear H'
     try clear c1
     try clear p2
     try clear c3
     try clear c4
     try clear c4b0
     try clear c4b1
     try clear p2
     obtain ⟨x3_2, x5_2, x6_2, rfl, rfl, HA, HK2, HO_3, HO_4, HB⟩ := hrel
     cases gk with
     | zero => exact absurd HA.out (by simp [nat_Print.l1])
     | succ k2 =>
      have H := HA.out
      clear HA
      simp only [nat_Print.l1] at H
      by_cases c8 : x6_2 < 9
      ·rw [if_pos c8] at H
       have c8b0 : decide (x6_2 < 9) = true := decide_eq_true c8
       clear c8
       by_cases c9 : (t292.length : Int) > 0
       ·rw [if_pos c9] at H
        have c9b0 : decide (0 < (t292.length : Int)) = true := decide_eq_true c9
        have c9b1 : decide (0 < t292.length) = true := decide_eq_true (by omega)
        clear c9
        replace H := Sq.ifs H
        obtain ⟨c10, H⟩ := H
        have LMc10 := Aside0.mk c10
        clear c10
        obtain ⟨y296, hy296⟩ : ∃ y_ : List Int, y_ = (x3_2 ++ [(48 + (Int.tmod x5_2 10)) % 256]) := ⟨_, rfl⟩
        (first | (replace H := Sq.ny hy296 H; (try dsimp -simprocs only at H)) | rw [← hy296] at H | skip)
        have Ny296 := Aside0.mk hy296
        clear hy296
        have H' := Aside0.mk H
        clear H
        obtain ⟨Ao11, co11, eo11⟩ := Kd.V_slice HO_4.out
        subst eo11
        go_wp2_with (first | ((with_reducible refine gate_builtin (b := .append) (xs := #[.tmp 30, .tmp 35]) rfl ?_); (try (refine gate_guard (by rfl) ?_; dsimp only)); at_builtin; refine Kd.R_append (Kd.int .u8) (w0 := w) w.heap.size rfl (.tmp 30) (.tmp 35) 123 5 (.int .u8 0) 1 rfl Try.underlying123 info5 rfl (by decide) (by omega) u3 x3_2 ((48 + (Int.tmod x5_2 10)) % 256) [.int .u8 ((48 + (Int.tmod x5_2 10)) % 256)] (fun _ => True) (fun _ => False) rfl rfl ?aP (fun _ hk => hk.elim) ?aF ?aO ?aB ?aS ?aL ?_; (case aP => exact rfl); (case aB => exact (Sq.bl HB)); (case aF => exact (fun _ _ => trivial)); (case aO => exact (Sq.al HO_3)); (case aS => exact (below_size (Sq.bl HB))); (case aL => have := LMc10.out; omega); intro v297 w12 ho hb hg hat; rw [← Ny296.out] at ho; replace HO_4 := Aside0.mk (Kd.V_afterv (ok := (fun _ => True)) (by (with_reducible repeat (first | apply Kd.V_alloc | apply Kd.V_drewN | apply Kd.V_drew)); exact Kd.V_mono HO_4.out (fun _ hk => ⟨trivial, hk⟩)) hg hat); replace HB := Aside0.mk (hb); have HO298 := Aside0.mk (ho); clear HO_3; clear ho hb hg hat))
        go_roundg k2
        case measure => have := HK1.out; have := HK2.out; omega
        case rel => exact ⟨(y296), ((Int.tdiv x5_2 10) % 4294967296), (wrap64 (x6_2 + 1)), (by first | rfl | (simp; done) | (simp [*]; done)), (by first | rfl | (simp; done) | (simp [*]; done)), H', ⟨by have := HK1.out; have := HK2.out; omega⟩, ⟨by (with_reducible repeat (first | apply Kd.R_alloc | apply Kd.R_drewN | apply Kd.R_drew)); exact HO298.out⟩, ⟨by (with_reducible repeat (first | apply Kd.V_alloc | apply Kd.V_drewN | apply Kd.V_drew)); exact Kd.V_mono HO_4.out (fun _ hk => hk.2)⟩, ⟨Sq.bl HB⟩⟩
       ·rw [if_neg c9] at H
        have c9b0 : decide (0 < (t292.length : Int)) = false := decide_eq_false c9
        have c9b1 : decide (0 < t292.length) = false := decide_eq_false (by omega)
        clear c9
        by_cases c13 : x5_2 > 0
        ·rw [if_pos c13] at H
         have c13b0 : decide (0 < x5_2) = true := decide_eq_true c13
         clear c13
         replace H := Sq.ifs H
         obtain ⟨c14, H⟩ := H
         have LMc14 := Aside0.mk c14
         clear c14
         obtain ⟨y299, hy299⟩ : ∃ y_ : List Int, y_ = (x3_2 ++ [(48 + (Int.tmod x5_2 10)) % 256]) := ⟨_, rfl⟩
         (first | (replace H := Sq.ny hy299 H; (try dsimp -simprocs only at H)) | rw [← hy299] at H | skip)
         have Ny299 := Aside0.mk hy299
         clear hy299
         have H' := Aside0.mk H
         clear H
         obtain ⟨Ao15, co15, eo15⟩ := Kd.V_slice HO_4.out
         subst eo15
         go_wp2_with (first | ((with_reducible refine gate_builtin (b := .append) (xs := #[.tmp 30, .tmp 35]) rfl ?_); (try (refine gate_guard (by rfl) ?_; dsimp only)); at_builtin; refine Kd.R_append (Kd.int .u8) (w0 := w) w.heap.size rfl (.tmp 30) (.tmp 35) 123 5 (.int .u8 0) 1 rfl Try.underlying123 info5 rfl (by decide) (by omega) u3 x3_2 ((48 + (Int.tmod x5_2 10)) % 256) [.int .u8 ((48 + (Int.tmod x5_2 10)) % 256)] (fun _ => True) (fun _ => False) rfl rfl ?aP (fun _ hk => hk.elim) ?aF ?aO ?aB ?aS ?aL ?_; (case aP => exact rfl); (case aB => exact (Sq.bl HB)); (case aF => exact (fun _ _ => trivial)); (case aO => exact (Sq.al HO_3)); (case aS => exact (below_size (Sq.bl HB))); (case aL => have := LMc14.out; omega); intro v300 w16 ho hb hg hat; rw [← Ny299.out] at ho; replace HO_4 := Aside0.mk (Kd.V_afterv (ok := (fun _ => True)) (by (with_reducible repeat (first | apply Kd.V_alloc | apply Kd.V_drewN | apply Kd.V_drew)); exact Kd.V_mono HO_4.out (fun _ hk => ⟨trivial, hk⟩)) hg hat); replace HB := Aside0.mk (hb); have HO301 := Aside0.mk (ho); clear HO_3; clear ho hb hg hat))
         go_roundg k2
         case measure => have := HK1.out; have := HK2.out; omega
         case rel => exact ⟨(y299), ((Int.tdiv x5_2 10) % 4294967296), (wrap64 (x6_2 + 1)), (by first | rfl | (simp; done) | (simp [*]; done)), (by first | rfl | (simp; done) | (simp [*]; done)), H', ⟨by have := HK1.out; have := HK2.out; omega⟩, ⟨by (with_reducible repeat (first | apply Kd.R_alloc | apply Kd.R_drewN | apply Kd.R_drew)); exact HO301.out⟩, ⟨by (with_reducible repeat (first | apply Kd.V_alloc | apply Kd.V_drewN | apply Kd.V_drew)); exact Kd.V_mono HO_4.out (fun _ hk => hk.2)⟩, ⟨Sq.bl HB⟩⟩
        ·rw [if_neg c13] at H
         have c13b0 : decide (0 < x5_2) = false := decide_eq_false c13
         clear c13
         have H' := Aside0.mk H
         clear H
         obtain ⟨Ao17, co17, eo17⟩ := Kd.V_slice HO_4.out
         subst eo17
         go_wp2
         go_roundg k2
         case measure => have := HK1.out; have := HK2.out; omega
         case rel => exact ⟨(t292), (x3_2), H', ⟨by have := HK1.out; have := HK2.out; omega⟩, ⟨by (with_reducible repeat (first | apply Kd.V_alloc | apply Kd.V_drewN | apply Kd.V_drew)); exact HO_4.out⟩, ⟨by (with_reducible repeat (first | apply Kd.R_alloc | apply Kd.R_drewN | apply Kd.R_drew)); exact HO_3.out⟩, ⟨Sq.bl HB⟩⟩
      ·rw [if_neg c8] at H
       have c8b0 : decide (x6_2 < 9) = false := decide_eq_false c8
       clear c8
       have H' := Aside0.mk H
       clear H
       go_wp2
       go_roundg k2
       case measure => have := HK1.out; have := HK2.out; omega
       case rel => exact ⟨(t292), (x3_2), H', ⟨by have := HK1.out; have := HK2.out; omega⟩, ⟨by (with_reducible repeat (first | apply Kd.V_alloc | apply Kd.V_drewN | apply Kd.V_drew)); exact HO_4.out⟩, ⟨by (with_reducible repeat (first | apply Kd.R_alloc | apply Kd.R_drewN | apply Kd.R_drew)); exact HO_3.out⟩, ⟨Sq.bl HB⟩⟩
   ·rw [if_neg c4] at H
    have c4b0 : decide (0 < (x0_1.length : Int)) = false := decide_eq_false c4
    have c4b1 : decide (0 < x0_1.length) = false := decide_eq_false (by omega)
    clear c4
    by_cases c18 : (x3_1.length : Int) = 0
    ·rw [if_pos c18] at H
     have c18b0 : ((x3_1.length : Int) == 0) = true := beq_iff_eq.mpr c18
     have c18b1 : ((x3_1.length : Int) != 0) = false := bne_eq_false_iff_eq.mpr c18
     clear c18
     obtain rfl := Option.some.inj H
     obtain ⟨Ao19, co19, eo19⟩ := Kd.V_slice HO_0.out
     subst eo19
     obtain ⟨Ao20, co20, eo20⟩ := Kd.R_slice HO_3.out
     subst eo20
     go_wp2
     go_ret
     exact ⟨by first | rfl | (simp [errW_none, errW_some] <;> rfl) | (simp [*, errW_none, errW_some] <;> rfl), Sq.bl HB⟩
    ·rw [if_neg c18] at H
     have c18b0 : ((x3_1.length : Int) == 0) = false := beq_eq_false_iff_ne.mpr c18
     have c18b1 : ((x3_1.length : Int) != 0) = true := bne_iff_ne.mpr c18
     have c18b2 : ¬ (x3_1 = []) := fun h_ => c18 (by rw [h_]; rfl)
     replace H := Sq.bd H
     obtain ⟨t291, A21, H⟩ := H
     (try dsimp -simprocs only at H)
     obtain rfl := Option.some.inj H
     obtain ⟨Ao22, co22, eo22⟩ := Kd.V_slice HO_0.out
     subst eo22
     obtain ⟨Ao23, co23, eo23⟩ := Kd.R_slice HO_3.out
     subst eo23
     go_wp2_with (first | ((with_reducible refine gate_callee (f := 141) rfl ?_); refine Sq.gl (some 44) Try.func141 #[.slice Ao23 x3_1.length co23] ?_; (with_reducible refine (slices_Reverse_byte_byte.calls k1 (fun k_ => some k_ = (.slice Ao23 x3_1.length co23 : Value).ownBlock) (.slice Ao23 x3_1.length co23) x3_1 t291 w _ ?side1 ?side2 A21.out).mono ?_); (case side1 => repeat (first | (with_reducible first | exact HB.out | apply below_alloc | apply pw_below_drewN | apply below_drew1) | exact HB.out)); (case side2 => exact Kd.R_tight rfl HO_3.out); rintro e w24 ⟨rfl, hy0, hb, hkp⟩; refine ⟨_, rfl, ?_⟩; replace HO_0 := Aside0.mk (Kd.V_mono (ok' := fun k_ => some k_ ≠ (.slice Ao23 x3_1.length co23 : Value).ownBlock) (Kd.V_keptB (HO_0.out) hkp (fun k_ hk_ hs_ => (hk_) hs_)) (fun k_ hk_ => hk_.1)); replace HO_3 := Aside0.mk (Kd.R_reok rfl hy0 (fun k_ e_ => HO_3.out.1 k_ e_)); replace HB := Aside0.mk (hb); (try clear hb); (try clear hkp); (try clear hy0); have hcv25 := own_string (P := Try.prog) Try.underlying123 Try.underlying5 Try.underlying9 (Kd.own_of_R HO_3.out)))
     go_ret
     exact ⟨by first | rfl | (simp [errW_none, errW_some] <;> rfl) | (simp [*, errW_none, errW_some] <;> rfl), Sq.bl HB⟩
def nat_Sub.l0 : Nat → List Int → List Int → Int → Int → Int → Option (List Int × Int)
 | 0, _, _, _, _, _ => none
 | k + 1, x1, x6, x7, x19, x20 => if x20 < x19 then (if 0 ≤ x20 then (if x20 < (x6.length : Int) then (if x20 < (x1.length : Int) then (if (IntKind.u64.wrap (rd x6 x20)) < (IntKind.u64.wrap ((IntKind.u64.wrap (x7)) + (IntKind.u64.wrap (rd x1 x20)))) then (nat_Sub.l0 k x1 (x6.set (x20 : Int).toNat ((IntKind.u64.wrap ((IntKind.u64.wrap (rd x6 x20)) - (IntKind.u64.wrap ((IntKind.u64.wrap (x7)) + (IntKind.u64.wrap (rd x1 x20)))))) % 4294967296)) 1 x19 (wrap64 (x20 + 1))) else (nat_Sub.l0 k x1 (x6.set (x20 : Int).toNat ((IntKind.u64.wrap ((IntKind.u64.wrap (rd x6 x20)) - (IntKind.u64.wrap ((IntKind.u64.wrap (x7)) + (IntKind.u64.wrap (rd x1 x20)))))) % 4294967296)) 0 x19 (wrap64 (x20 + 1)))) else (if (IntKind.u64.wrap (rd x6 x20)) < (IntKind.u64.wrap (x7)) then (nat_Sub.l0 k x1 (x6.set (x20 : Int).toNat ((IntKind.u64.wrap ((IntKind.u64.wrap (rd x6 x20)) - (IntKind.u64.wrap (x7)))) % 4294967296)) 1 x19 (wrap64 (x20 + 1))) else (nat_Sub.l0 k x1 (x6.set (x20 : Int).toNat ((IntKind.u64.wrap ((IntKind.u64.wrap (rd x6 x20)) - (IntKind.u64.wrap (x7)))) % 4294967296)) 0 x19 (wrap64 (x20 + 1))))) else (none)) else (none)) else ((nat_cut.f k x6).bind fun t376 => (some (t376, 0)))
def nat_Sub.f (k : Nat) (l0 : List Int) (l1 : List Int) : Option (List Int × Int) := (nat_Cmp.f k l0 l1).bind fun t369 => (if t369 < 0 then (some (([] : List Int), 1)) else ((nat_cut.f k l0).bind fun t370 => ((slices_Clone_uint32_uint32.f t370).bind fun t373 => (nat_Sub.l0 k l1 t373 0 (t373.length : Int) 0))))
set_option maxHeartbeats 8000000 in
set_option maxRecDepth 100000 in
theorem nat_Sub.calls (k : Nat) (P0_ : Nat → Prop) (A0 : Option Addr) (c0 : Nat) (l0 : List Int) (A1 : Option Addr) (c1 : Nat) (l1 : List Int) (r1 : List Int) (r2 : Int) (w : World) (hs0 : Kd.V (Kd.int .u32) 107 w w.heap.size (fun k_ => P0_ k_) (.slice A0 l0.length c0) l0) (hr1 : Kd.C (Kd.int .u32) w A1 l1.length l1) (hc1 : l1.length ≤ c1) (h : nat_Sub.f k l0 l1 = some (r1, r2)) :
  Calls Try.prog 45 #[.slice A0 l0.length c0, .slice A1 l1.length c1] w fun e w' => ∃ v0_ : Value, e = .returned (.tuple #[v0_, .int .i64 r2]) ∧ Kd.V (Kd.int .u32) 107 w' w.heap.size (fun k_ => (P0_ k_ ∨ w.heap.size ≤ k_)) v0_ r1 ∧ Below w.heap.size w w' := by
 have HO0 := Aside0.mk (show Kd.V (Kd.int .u32) 107 w w.heap.size (fun k_ => (P0_ k_ ∨ w.heap.size ≤ k_)) (.slice A0 l0.length c0) l0 from Kd.V_mono hs0 (fun k_ hk => .inl hk))
 have HR1 := Aside0.mk hr1
 have HC1 := Aside0.mk hc1
 clear hr1 hc1
 have HB := Aside0.mk (Below.refl w.heap.size w)
 have H : ((nat_Cmp.f k l0 l1).bind fun t369 => (if t369 < 0 then (some (([] : List Int), 1)) else ((nat_cut.f k l0).bind fun t370 => ((slices_Clone_uint32_uint32.f t370).bind fun t373 => (nat_Sub.l0 k l1 t373 0 (t373.length : Int) 0))))) = some (r1, r2) := h
 clear h
 replace H := Sq.bd H
 obtain ⟨t369, A3, H⟩ := H
 (try dsimp -simprocs only at H)
 by_cases c4 : t369 < 0
 ·rw [if_pos c4] at H
  have c4b0 : decide (t369 < 0) = true := decide_eq_true c4
  clear c4
  simp only [Option.some.injEq, Prod.mk.injEq] at H
  obtain ⟨rfl, rfl⟩ := H
  go_enter Try.func45, Try.ntmps45
  go_wp2_with (first | ((with_reducible refine gate_callee (f := 44) rfl ?_); refine Sq.gl (some 13) Try.func44 #[.slice A0 l0.length c0, .slice A1 l1.length c1] ?_; (with_reducible refine (nat_Cmp.calls k _ _ l0 _ _ l1 t369 _ ?side1 ?side2 ?side3 ?side4 A3.out).mono ?_); (case side1 => exact Sq.ca (Kd.V_reads' HO0.out).2.2); (case side2 => exact (Kd.V_reads' HO0.out).2.1); (case side3 => repeat (first | exact HR1.out | (with_reducible refine Kd.C_alloc ?_ _) | (with_reducible refine Kd.C_drewN ?_ _) | (with_reducible refine Kd.C_drew ?_))); (case side4 => exact HC1.out); rintro e w5 ⟨rfl, hb⟩; refine ⟨_, rfl, ?_⟩; replace HO0 := Aside0.mk (Kd.V_below (Sq.al HO0) hb); replace HB := Sq.bs HB hb; (try clear hb); (try clear hb2); (try clear hk); (try clear hi)))
  go_ret2
  exact ⟨_, by first | rfl | (simp [errW_none, errW_some] <;> rfl) | (simp [*, errW_none, errW_some] <;> rfl), (by exact Kd.V_nil _ _ _ _ _), Sq.bl HB⟩
 ·rw [if_neg c4] at H
  have c4b0 : decide (t369 < 0) = false := decide_eq_false c4
  clear c4
  replace H := Sq.bd H
  obtain ⟨t370, A6, H⟩ := H
  (try dsimp -simprocs only at H)
  replace H := Sq.bd H
  obtain ⟨t373, A7, H⟩ := H
  (try dsimp -simprocs only at H)
  have H' := Aside0.mk H
  clear H
  go_enter Try.func45, Try.ntmps45
  go_wp2_with (first | ((with_reducible refine gate_callee (f := 44) rfl ?_); refine Sq.gl (some 13) Try.func44 #[.slice A0 l0.length c0, .slice A1 l1.length c1] ?_; (with_reducible refine (nat_Cmp.calls k _ _ l0 _ _ l1 t369 _ ?side1 ?side2 ?side3 ?side4 A3.out).mono ?_); (case side1 => exact Sq.ca (Kd.V_reads' HO0.out).2.2); (case side2 => exact (Kd.V_reads' HO0.out).2.1); (case side3 => repeat (first | exact HR1.out | (with_reducible refine Kd.C_alloc ?_ _) | (with_reducible refine Kd.C_drewN ?_ _) | (with_reducible refine Kd.C_drew ?_))); (case side4 => exact HC1.out); rintro e w8 ⟨rfl, hb⟩; refine ⟨_, rfl, ?_⟩; replace HO0 := Aside0.mk (Kd.V_below (Sq.al HO0) hb); replace HB := Sq.bs HB hb; (try clear hb); (try clear hb2); (try clear hk); (try clear hi)) | ((with_reducible refine gate_callee (f := 127) rfl ?_); refine Sq.gl (some 16) Try.func127 #[.slice A0 l0.length c0] ?_; (with_reducible refine (nat_cut.calls k (fun k_ => (P0_ k_ ∨ w.heap.size ≤ k_)) _ _ l0 t370 _ ?side1 A6.out).mono ?_); (case side1 => exact HO0.out); rintro e w9 ⟨v371, rfl, ho0, hb⟩; refine ⟨_, rfl, ?_⟩; replace HO0 := Aside0.mk (Kd.V_below (Sq.al HO0) hb); have HO372 := Aside0.mk (Kd.V_lower (Kd.V_mono (ok' := fun k_ => (P0_ k_ ∨ w.heap.size ≤ k_)) ho0 (fun k_ hk_ => Or.elim hk_ (fun hs_ => hs_) (fun hn_ => (.inr (Nat.le_trans (below_size (Sq.bl HB)) hn_))))) (below_size (Sq.bl HB))); replace HB := Sq.bs HB hb; (try clear hb); (try clear hb2); (try clear hk); (try clear hi); (try clear ho0); obtain ⟨Ao10, co10, eo10⟩ := Kd.V_slice HO372.out; subst eo10) | ((with_reducible refine gate_callee (f := 128) rfl ?_); refine Sq.gl (some 17) Try.func128 #[.slice Ao10 t370.length co10] ?_; (with_reducible refine (slices_Clone_uint32_uint32.calls _ _ t370 t373 _ ?side1 ?side2 A7.out).mono ?_); (case side1 => exact Sq.ca (Kd.V_reads' HO372.out).2.2); (case side2 => exact (Kd.V_reads' HO372.out).2.1); rintro e w11 ⟨v374, rfl, ho0, hb⟩; refine ⟨_, rfl, ?_⟩; replace HO0 := Aside0.mk (Kd.V_elder' (Sq.al HO0) (Kd.R_base ho0) hb); replace HO372 := Aside0.mk (Kd.V_elder' (Sq.al HO372) (Kd.R_base ho0) hb); have HO375 := Aside0.mk (Kd.R_lower (Kd.R_newM (M := fun k_ => (w.heap.size ≤ k_)) ho0 (below_size (Sq.bl HB)) (fun k_ h_ => h_)) (below_size (Sq.bl HB))); replace HB := Sq.bs HB hb; (try clear hb); (try clear hb2); (try clear hk); (try clear hi); (try clear ho0); obtain ⟨Ao12, co12, eo12⟩ := Kd.R_slice HO375.out; subst eo12))
  go_loopg [7, 20] k (fun kq v7 v20 w' => ∃ (x6_1 : List Int) (x7_1 : Int) (x20_1 : Int), v7 = .int .u32 x7_1 ∧ v20 = .int .i64 x20_1 ∧ Aside0 (nat_Sub.l0 kq l1 x6_1 x7_1 (t373.length : Int) x20_1 = some (r1, r2)) ∧ Aside0 (kq ≤ k) ∧ Aside0 (Kd.R (Kd.int .u32) 107 w' w.heap.size (fun k_ => (w.heap.size ≤ k_)) (.slice Ao12 t373.length co12) x6_1) ∧ Aside0 (Below w.heap.size w w'))
  case atStart => exact ⟨(t373), (0), (0), (by first | rfl | (simp; done) | (simp [*]; done)), (by first | rfl | (simp; done) | (simp [*]; done)), H', ⟨Nat.le_refl _⟩, ⟨by (with_reducible repeat (first | apply Kd.R_alloc | apply Kd.R_drewN | apply Kd.R_drew)); exact Kd.R_mono HO375.out (fun _ hk => hk.1)⟩, ⟨Sq.bl HB⟩⟩
  case round =>
   clear H'
   try clear c1
   try clear p2
   try clear c4
   try clear c4b0
   try clear c12
   obtain ⟨x6_1, x7_1, x20_1, rfl, rfl, HA, HK1, HO_6, HB⟩ := hrel
   have hl6_1 := (Kd.R_reads' HO_6.out).1
   rw [hl6_1] at HO_6
   (try simp only [hl6_1])
   cases gk with
   | zero => exact absurd HA.out (by simp [nat_Sub.l0])
   | succ k1 =>
    have H := HA.out
    clear HA
    simp only [nat_Sub.l0] at H
    by_cases c13 : x20_1 < (t373.length : Int)
    ·rw [if_pos c13] at H
     have c13b0 : decide (x20_1 < (t373.length : Int)) = true := decide_eq_true c13
     clear c13
     replace H := Sq.ifs H
     obtain ⟨c14, H⟩ := H
     have c14b0 : decide (0 ≤ x20_1) = true := decide_eq_true c14
     clear c14
     replace H := Sq.ifs H
     obtain ⟨c15, H⟩ := H
     have c15b0 : decide (x20_1 < (x6_1.length : Int)) = true := decide_eq_true c15
     clear c15
     by_cases c16 : x20_1 < (l1.length : Int)
     ·rw [if_pos c16] at H
      have c16b0 : decide (x20_1 < (l1.length : Int)) = true := decide_eq_true c16
      clear c16
      by_cases c17 : (IntKind.u64.wrap (rd x6_1 x20_1)) < (IntKind.u64.wrap ((IntKind.u64.wrap (x7_1)) + (IntKind.u64.wrap (rd l1 x20_1))))
      ·rw [if_pos c17] at H
       have c17b0 : decide ((IntKind.u64.wrap (rd x6_1 x20_1)) < (IntKind.u64.wrap ((IntKind.u64.wrap (x7_1)) + (IntKind.u64.wrap (rd l1 x20_1))))) = true := decide_eq_true c17
       clear c17
       obtain ⟨y381, hy381⟩ : ∃ y_ : List Int, y_ = (x6_1.set (x20_1 : Int).toNat ((IntKind.u64.wrap ((IntKind.u64.wrap (rd x6_1 x20_1)) - (IntKind.u64.wrap ((IntKind.u64.wrap (x7_1)) + (IntKind.u64.wrap (rd l1 x20_1)))))) % 4294967296)) := ⟨_, rfl⟩
       (first | (replace H := Sq.ny hy381 H; (try dsimp -simprocs only at H)) | rw [← hy381] at H | skip)
       have Ny381 := Aside0.mk hy381
       clear hy381
       have H' := Aside0.mk H
       clear H
       have p379 : 0 ≤ (x20_1 : Int) := of_decide_eq_true (by first | (with_reducible assumption) | assumption)
       have q379 : x20_1 < (x6_1.length : Int) := of_decide_eq_true (by first | (with_reducible assumption) | assumption)
       obtain ⟨ad379, e379, hx379_0⟩ := Kd.at_int (Kd.R_reads' HO_6.out).2.2 x20_1 p379 q379
       cases e379
       replace p379 := eq_true p379
       replace q379 := eq_true q379
       have p380 : 0 ≤ (x20_1 : Int) := of_decide_eq_true (by first | (with_reducible assumption) | assumption)
       have q380 : x20_1 < (l1.length : Int) := of_decide_eq_true (by first | (with_reducible assumption) | assumption)
       obtain ⟨ad380, e380, hx380_0⟩ := Kd.at_int HR1.out x20_1 p380 q380
       cases e380
       replace hx380_0 := (HB.out.cell (World.block_lt_of_cell? w _ hx380_0)).trans hx380_0
       replace p380 := eq_true p380
       replace q380 := eq_true q380
       have p18 : 0 ≤ (x20_1 : Int) := of_decide_eq_true (by first | (with_reducible assumption) | assumption)
       have q18 : (x20_1 : Int) < ((x6_1.length : Int) : Int) := of_decide_eq_true (by first | (with_reducible assumption) | assumption)
       obtain ⟨go18, co18, eo18, gb18, gl18, cl18, HG18⟩ := Kd.R_form HO_6.out (by omega)
       (first | cases eo18 | (injection eo18 with ea_ en_ ec_; (first | subst ea_ | (injection ea_ with ea_; subst ea_)); subst ec_; clear en_))
       have GB18 := Aside0.mk gb18
       have GG18 := Aside0.mk HG18
       clear gb18 gl18 HG18
       (first | simp only [add_plain] at hx379_0 | skip)
       obtain ⟨hx18_0, hf18_0⟩ := Kd.R_celln 0 HO_6.out (x20_1 : Int) p18 q18
       replace p18 := eq_true p18
       replace q18 := eq_true q18
       have HP19 := Kd.R_putg HO_6.out (x20_1 : Int) ((IntKind.u64.wrap ((IntKind.u64.wrap (rd x6_1 x20_1)) - (IntKind.u64.wrap ((IntKind.u64.wrap (x7_1)) + (IntKind.u64.wrap (rd l1 x20_1)))))) % 4294967296)
       go_wp2_with (first | ((with_reducible refine gate_store (t := 107) (p := 49) rfl ?_); refine store_event (t := 107) (p := 49) (v := ?vo_w20) (w1 := (wr.setCell ⟨go18, (x20_1 : Int).toNat, none⟩ (.int .u32 ((IntKind.u64.wrap ((IntKind.u64.wrap (rd x6_1 x20_1)) - (IntKind.u64.wrap ((IntKind.u64.wrap (x7_1)) + (IntKind.u64.wrap (rd l1 x20_1)))))) % 4294967296)))) ?hg ?ho ?hn ?hr ?_; (case ho => rfl); (case hg => rfl); (case hn => rfl); (case hr => first | (go_simp; done) | (go_simp; rfl)); intro w20 hw; have hg : wr.grownBy w20 (some go18) := (by rw [hw]; exact HP19.2); have hp_ : Kd.R (Kd.int .u32) 107 w20 w.heap.size (fun k_ => (w.heap.size ≤ k_)) (.slice (some ⟨go18, 0, none⟩) x6_1.length co12) y381 := (by rw [hw, Ny381.out]; exact HP19.1); clear HP19; replace HO_6 := Aside0.mk (hp_); replace HB := Aside0.mk ((by rw [hw]; exact below_set (HB.out) GB18.out : Below w.heap.size w w20)); clear hg hw hp_))
       (try simp only [← hl6_1])
       go_roundg k1
       case measure => have := HK1.out; omega
       case rel => exact ⟨(y381), (1), (wrap64 (x20_1 + 1)), (by first | rfl | (simp; done) | (simp [*]; done)), (by first | rfl | (simp; done) | (simp [*]; done)), H', ⟨by have := HK1.out; omega⟩, ⟨by (try simp only [hl6_1]); (with_reducible repeat (first | apply Kd.R_alloc | apply Kd.R_drewN | apply Kd.R_drew)); exact HO_6.out⟩, ⟨Sq.bl HB⟩⟩
      ·rw [if_neg c17] at H
       have c17b0 : decide ((IntKind.u64.wrap (rd x6_1 x20_1)) < (IntKind.u64.wrap ((IntKind.u64.wrap (x7_1)) + (IntKind.u64.wrap (rd l1 x20_1))))) = false := decide_eq_false c17
       clear c17
       obtain ⟨y382, hy382⟩ : ∃ y_ : List Int, y_ = (x6_1.set (x20_1 : Int).toNat ((IntKind.u64.wrap ((IntKind.u64.wrap (rd x6_1 x20_1)) - (IntKind.u64.wrap ((IntKind.u64.wrap (x7_1)) + (IntKind.u64.wrap (rd l1 x20_1)))))) % 4294967296)) := ⟨_, rfl⟩
       (first | (replace H := Sq.ny hy382 H; (try dsimp -simprocs only at H)) | rw [← hy382] at H | skip)
       have Ny382 := Aside0.mk hy382
       clear hy382
       have H' := Aside0.mk H
       clear H
       have p379 : 0 ≤ (x20_1 : Int) := of_decide_eq_true (by first | (with_reducible assumption) | assumption)
       have q379 : x20_1 < (x6_1.length : Int) := of_decide_eq_true (by first | (with_reducible assumption) | assumption)
       obtain ⟨ad379, e379, hx379_0⟩ := Kd.at_int (Kd.R_reads' HO_6.out).2.2 x20_1 p379 q379
       cases e379
       replace p379 := eq_true p379
       replace q379 := eq_true q379
       have p380 : 0 ≤ (x20_1 : Int) := of_decide_eq_true (by first | (with_reducible assumption) | assumption)
       have q380 : x20_1 < (l1.length : Int) := of_decide_eq_true (by first | (with_reducible assumption) | assumption)
       obtain ⟨ad380, e380, hx380_0⟩ := Kd.at_int HR1.out x20_1 p380 q380
       cases e380
       replace hx380_0 := (HB.out.cell (World.block_lt_of_cell? w _ hx380_0)).trans hx380_0
       replace p380 := eq_true p380
       replace q380 := eq_true q380
       have p21 : 0 ≤ (x20_1 : Int) := of_decide_eq_true (by first | (with_reducible assumption) | assumption)
       have q21 : (x20_1 : Int) < ((x6_1.length : Int) : Int) := of_decide_eq_true (by first | (with_reducible assumption) | assumption)
       obtain ⟨go21, co21, eo21, gb21, gl21, cl21, HG21⟩ := Kd.R_form HO_6.out (by omega)
       (first | cases eo21 | (injection eo21 with ea_ en_ ec_; (first | subst ea_ | (injection ea_ with ea_; subst ea_)); subst ec_; clear en_))
       have GB21 := Aside0.mk gb21
       have GG21 := Aside0.mk HG21
       clear gb21 gl21 HG21
       (first | simp only [add_plain] at hx379_0 | skip)
       obtain ⟨hx21_0, hf21_0⟩ := Kd.R_celln 0 HO_6.out (x20_1 : Int) p21 q21
       replace p21 := eq_true p21
       replace q21 := eq_true q21
       have HP22 := Kd.R_putg HO_6.out (x20_1 : Int) ((IntKind.u64.wrap ((IntKind.u64.wrap (rd x6_1 x20_1)) - (IntKind.u64.wrap ((IntKind.u64.wrap (x7_1)) + (IntKind.u64.wrap (rd l1 x20_1)))))) % 4294967296)
       go_wp2_with (first | ((with_reducible refine gate_store (t := 107) (p := 49) rfl ?_); refine store_event (t := 107) (p := 49) (v := ?vo_w23) (w1 := (wr.setCell ⟨go21, (x20_1 : Int).toNat, none⟩ (.int .u32 ((IntKind.u64.wrap ((IntKind.u64.wrap (rd x6_1 x20_1)) - (IntKind.u64.wrap ((IntKind.u64.wrap (x7_1)) + (IntKind.u64.wrap (rd l1 x20_1)))))) % 4294967296)))) ?hg ?ho ?hn ?hr ?_; (case ho => rfl); (case hg => rfl); (case hn => rfl); (case hr => first | (go_simp; done) | (go_simp; rfl)); intro w23 hw; have hg : wr.grownBy w23 (some go21) := (by rw [hw]; exact HP22.2); have hp_ : Kd.R (Kd.int .u32) 107 w23 w.heap.size (fun k_ => (w.heap.size ≤ k_)) (.slice (some ⟨go21, 0, none⟩) x6_1.length co12) y382 := (by rw [hw, Ny382.out]; exact HP22.1); clear HP22; replace HO_6 := Aside0.mk (hp_); replace HB := Aside0.mk ((by rw [hw]; exact below_set (HB.out) GB21.out : Below w.heap.size w w23)); clear hg hw hp_))
       (try simp only [← hl6_1])
       go_roundg k1
       case measure => have := HK1.out; omega
       case rel => exact ⟨(y382), (0), (wrap64 (x20_1 + 1)), (by first | rfl | (simp; done) | (simp [*]; done)), (by first | rfl | (simp; done) | (simp [*]; done)), H', ⟨by have := HK1.out; omega⟩, ⟨by (try simp only [hl6_1]); (with_reducible repeat (first | apply Kd.R_alloc | apply Kd.R_drewN | apply Kd.R_drew)); exact HO_6.out⟩, ⟨Sq.bl HB⟩⟩
     ·rw [if_neg c16] at H
      have c16b0 : decide (x20_1 < (l1.length : Int)) = false := decide_eq_false c16
      clear c16
      by_cases c24 : (IntKind.u64.wrap (rd x6_1 x20_1)) < (IntKind.u64.wrap (x7_1))
      ·rw [if_pos c24] at H
       have c24b0 : decide ((IntKind.u64.wrap (rd x6_1 x20_1)) < (IntKind.u64.wrap (x7_1))) = true := decide_eq_true c24
       clear c24
       obtain ⟨y383, hy383⟩ : ∃ y_ : List Int, y_ = (x6_1.set (x20_1 : Int).toNat ((IntKind.u64.wrap ((IntKind.u64.wrap (rd x6_1 x20_1)) - (IntKind.u64.wrap (x7_1)))) % 4294967296)) := ⟨_, rfl⟩
       (first | (replace H := Sq.ny hy383 H; (try dsimp -simprocs only at H)) | rw [← hy383] at H | skip)
       have Ny383 := Aside0.mk hy383
       clear hy383
       have H' := Aside0.mk H
       clear H
       have p379 : 0 ≤ (x20_1 : Int) := of_decide_eq_true (by first | (with_reducible assumption) | assumption)
       have q379 : x20_1 < (x6_1.length : Int) := of_decide_eq_true (by first | (with_reducible assumption) | assumption)
       obtain ⟨ad379, e379, hx379_0⟩ := Kd.at_int (Kd.R_reads' HO_6.out).2.2 x20_1 p379 q379
       cases e379
       replace p379 := eq_true p379
       replace q379 := eq_true q379
       have p25 : 0 ≤ (x20_1 : Int) := of_decide_eq_true (by first | (with_reducible assumption) | assumption)
       have q25 : (x20_1 : Int) < ((x6_1.length : Int) : Int) := of_decide_eq_true (by first | (with_reducible assumption) | assumption)
       obtain ⟨go25, co25, eo25, gb25, gl25, cl25, HG25⟩ := Kd.R_form HO_6.out (by omega)
       (first | cases eo25 | (injection eo25 with ea_ en_ ec_; (first | subst ea_ | (injection ea_ with ea_; subst ea_)); subst ec_; clear en_))
       have GB25 := Aside0.mk gb25
       have GG25 := Aside0.mk HG25
       clear gb25 gl25 HG25
       (first | simp only [add_plain] at hx379_0 | skip)
       obtain ⟨hx25_0, hf25_0⟩ := Kd.R_celln 0 HO_6.out (x20_1 : Int) p25 q25
       replace p25 := eq_true p25
       replace q25 := eq_true q25
       have HP26 := Kd.R_putg HO_6.out (x20_1 : Int) ((IntKind.u64.wrap ((IntKind.u64.wrap (rd x6_1 x20_1)) - (IntKind.u64.wrap (x7_1)))) % 4294967296)
       go_wp2_with (first | ((with_reducible refine gate_store (t := 107) (p := 49) rfl ?_); refine store_event (t := 107) (p := 49) (v := ?vo_w27) (w1 := (wr.setCell ⟨go25, (x20_1 : Int).toNat, none⟩ (.int .u32 ((IntKind.u64.wrap ((IntKind.u64.wrap (rd x6_1 x20_1)) - (IntKind.u64.wrap (x7_1)))) % 4294967296)))) ?hg ?ho ?hn ?hr ?_; (case ho => rfl); (case hg => rfl); (case hn => rfl); (case hr => first | (go_simp; done) | (go_simp; rfl)); intro w27 hw; have hg : wr.grownBy w27 (some go25) := (by rw [hw]; exact HP26.2); have hp_ : Kd.R (Kd.int .u32) 107 w27 w.heap.size (fun k_ => (w.heap.size ≤ k_)) (.slice (some ⟨go25, 0, none⟩) x6_1.length co12) y383 := (by rw [hw, Ny383.out]; exact HP26.1); clear HP26; replace HO_6 := Aside0.mk (hp_); replace HB := Aside0.mk ((by rw [hw]; exact below_set (HB.out) GB25.out : Below w.heap.size w w27)); clear hg hw hp_))
       (try simp only [← hl6_1])
       go_roundg k1
       case measure => have := HK1.out; omega
       case rel => exact ⟨(y383), (1), (wrap64 (x20_1 + 1)), (by first | rfl | (simp; done) | (simp [*]; done)), (by first | rfl | (simp; done) | (simp [*]; done)), H', ⟨by have := HK1.out; omega⟩, ⟨by (try simp only [hl6_1]); (with_reducible repeat (first | apply Kd.R_alloc | apply Kd.R_drewN | apply Kd.R_drew)); exact HO_6.out⟩, ⟨Sq.bl HB⟩⟩
      ·rw [if_neg c24] at H
       have c24b0 : decide ((IntKind.u64.wrap (rd x6_1 x20_1)) < (IntKind.u64.wrap (x7_1))) = false := decide_eq_false c24
       clear c24
       obtain ⟨y384, hy384⟩ : ∃ y_ : List Int, y_ = (x6_1.set (x20_1 : Int).toNat ((IntKind.u64.wrap ((IntKind.u64.wrap (rd x6_1 x20_1)) - (IntKind.u64.wrap (x7_1)))) % 4294967296)) := ⟨_, rfl⟩
       (first | (replace H := Sq.ny hy384 H; (try dsimp -simprocs only at H)) | rw [← hy384] at H | skip)
       have Ny384 := Aside0.mk hy384
       clear hy384
       have H' := Aside0.mk H
       clear H
       have p379 : 0 ≤ (x20_1 : Int) := of_decide_eq_true (by first | (with_reducible assumption) | assumption)
       have q379 : x20_1 < (x6_1.length : Int) := of_decide_eq_true (by first | (with_reducible assumption) | assumption)
       obtain ⟨ad379, e379, hx379_0⟩ := Kd.at_int (Kd.R_reads' HO_6.out).2.2 x20_1 p379 q379
       cases e379
       replace p379 := eq_true p379
       replace q379 := eq_true q379
       have p28 : 0 ≤ (x20_1 : Int) := of_decide_eq_true (by first | (with_reducible assumption) | assumption)
       have q28 : (x20_1 : Int) < ((x6_1.length : Int) : Int) := of_decide_eq_true (by first | (with_reducible assumption) | assumption)
       obtain ⟨go28, co28, eo28, gb28, gl28, cl28, HG28⟩ := Kd.R_form HO_6.out (by omega)
       (first | cases eo28 | (injection eo28 with ea_ en_ ec_; (first | subst ea_ | (injection ea_ with ea_; subst ea_)); subst ec_; clear en_))
       have GB28 := Aside0.mk gb28
       have GG28 := Aside0.mk HG28
       clear gb28 gl28 HG28
       (first | simp only [add_plain] at hx379_0 | skip)
       obtain ⟨hx28_0, hf28_0⟩ := Kd.R_celln 0 HO_6.out (x20_1 : Int) p28 q28
       replace p28 := eq_true p28
       replace q28 := eq_true q28
       have HP29 := Kd.R_putg HO_6.out (x20_1 : Int) ((IntKind.u64.wrap ((IntKind.u64.wrap (rd x6_1 x20_1)) - (IntKind.u64.wrap (x7_1)))) % 4294967296)
       go_wp2_with (first | ((with_reducible refine gate_store (t := 107) (p := 49) rfl ?_); refine store_event (t := 107) (p := 49) (v := ?vo_w30) (w1 := (wr.setCell ⟨go28, (x20_1 : Int).toNat, none⟩ (.int .u32 ((IntKind.u64.wrap ((IntKind.u64.wrap (rd x6_1 x20_1)) - (IntKind.u64.wrap (x7_1)))) % 4294967296)))) ?hg ?ho ?hn ?hr ?_; (case ho => rfl); (case hg => rfl); (case hn => rfl); (case hr => first | (go_simp; done) | (go_simp; rfl)); intro w30 hw; have hg : wr.grownBy w30 (some go28) := (by rw [hw]; exact HP29.2); have hp_ : Kd.R (Kd.int .u32) 107 w30 w.heap.size (fun k_ => (w.heap.size ≤ k_)) (.slice (some ⟨go28, 0, none⟩) x6_1.length co12) y384 := (by rw [hw, Ny384.out]; exact HP29.1); clear HP29; replace HO_6 := Aside0.mk (hp_); replace HB := Aside0.mk ((by rw [hw]; exact below_set (HB.out) GB28.out : Below w.heap.size w w30)); clear hg hw hp_))
       (try simp only [← hl6_1])
       go_roundg k1
       case measure => have := HK1.out; omega
       case rel => exact ⟨(y384), (0), (wrap64 (x20_1 + 1)), (by first | rfl | (simp; done) | (simp [*]; done)), (by first | rfl | (simp; done) | (simp [*]; done)), H', ⟨by have := HK1.out; omega⟩, ⟨by (try simp only [hl6_1]); (with_reducible repeat (first | apply Kd.R_alloc | apply Kd.R_drewN | apply Kd.R_drew)); exact HO_6.out⟩, ⟨Sq.bl HB⟩⟩
    ·rw [if_neg c13] at H
     have c13b0 : decide (x20_1 < (t373.length : Int)) = false := decide_eq_false c13
     clear c13
     replace H := Sq.bd H
     obtain ⟨t376, A31, H⟩ := H
     (try dsimp -simprocs only at H)
     simp only [Option.some.injEq, Prod.mk.injEq] at H
     obtain ⟨rfl, rfl⟩ := H
     (try simp only [hl6_1] at c13b0)
     go_wp2_with (first | ((with_reducible refine gate_callee (f := 127) rfl ?_); refine Sq.gl (some 52) Try.func127 #[.slice Ao12 x6_1.length co12] ?_; (with_reducible refine (nat_cut.calls k1 (fun k_ => some k_ = (.slice Ao12 x6_1.length co12 : Value).ownBlock) _ _ x6_1 t376 _ ?side1 A31.out).mono ?_); (case side1 => exact Kd.R_V (Kd.R_tight rfl (HO_6.out))); rintro e w32 ⟨v377, rfl, ho0, hb⟩; refine ⟨_, rfl, ?_⟩; have HO378 := Aside0.mk (Kd.V_lower (Kd.V_mono (ok' := fun k_ => (P0_ k_ ∨ w.heap.size ≤ k_)) ho0 (fun k_ hk_ => Or.elim hk_ (fun hs_ => (.inr (((HO_6.out).1 k_ hs_.symm)))) (fun hn_ => (.inr (Nat.le_trans (below_size (Sq.bl HB)) hn_))))) (below_size (Sq.bl HB))); replace HO_6 := Aside0.mk (Kd.R_below (Sq.al HO_6) hb); replace HB := Sq.bs HB hb; (try clear hb); (try clear hb2); (try clear hk); (try clear hi); (try clear ho0)))
     go_ret2
     exact ⟨_, by first | rfl | (simp [errW_none, errW_some] <;> rfl) | (simp [*, errW_none, errW_some] <;> rfl), by (with_reducible repeat (first | apply Kd.V_alloc | apply Kd.V_drewN | apply Kd.V_drew)); exact HO378.out, Sq.bl HB⟩
def foliotref01_cut.l0 : Nat → List Bool → Int → Option (List Bool)
 | 0, _, _ => none
 | k + 1, x0, x3 => if x3 > 0 then (if 0 ≤ (wrap64 (x3 - 1)) then (if (wrap64 (x3 - 1)) < (x0.length : Int) then (if (rdOf false x0 (wrap64 (x3 - 1)) = true) then (if 0 ≤ x3 then (if x3 ≤ (x0.length : Int) then (some (x0.take (x3 : Int).toNat)) else (none)) else (none)) else (foliotref01_cut.l0 k x0 (wrap64 (x3 - 1)))) else (none)) else (none)) else (if 0 ≤ x3 then (if x3 ≤ (x0.length : Int) then (some (x0.take (x3 : Int).toNat)) else (none)) else (none))
def foliotref01_cut.f (k : Nat) (l0 : List Bool) : Option (List Bool) := foliotref01_cut.l0 k l0 (l0.length : Int)
set_option maxHeartbeats 8000000 in
set_option maxRecDepth 100000 in
theorem foliotref01_cut.calls (k : Nat) (P0_ : Nat → Prop) (A0 : Option Addr) (c0 : Nat) (l0 : List Bool) (r : List Bool) (w : World) (hs0 : Kd.V Kd.bool 4 w w.heap.size (fun k_ => P0_ k_) (.slice A0 l0.length c0) l0) (h : foliotref01_cut.f k l0 = some r) :
  Calls Try.prog 173 #[.slice A0 l0.length c0] w fun e w' => ∃ v0_ : Value, e = .returned (v0_) ∧ Kd.V Kd.bool 4 w' w.heap.size (fun k_ => (P0_ k_ ∨ w.heap.size ≤ k_)) v0_ r ∧ Below w.heap.size w w' := by
 have HO0 := Aside0.mk (show Kd.V Kd.bool 4 w w.heap.size (fun k_ => (P0_ k_ ∨ w.heap.size ≤ k_)) (.slice A0 l0.length c0) l0 from Kd.V_mono hs0 (fun k_ hk => .inl hk))
 have HB := Aside0.mk (Below.refl w.heap.size w)
 have H : (foliotref01_cut.l0 k l0 (l0.length : Int)) = some r := h
 clear h
 have H' := Aside0.mk H
 clear H
 go_enter Try.func173, Try.ntmps173
 go_wp2
 go_loopg [3] k (fun kq v3 w' => ∃ (x3_1 : Int), v3 = .int .i64 x3_1 ∧ Aside0 (foliotref01_cut.l0 kq l0 x3_1 = some r) ∧ Aside0 (kq ≤ k) ∧ Aside0 (Kd.V Kd.bool 4 w' w.heap.size (fun k_ => (P0_ k_ ∨ w.heap.size ≤ k_)) (.slice A0 l0.length c0) l0) ∧ Aside0 (Below w.heap.size w w'))
 case atStart => exact ⟨((l0.length : Int)), (by first | rfl | (simp; done) | (simp [*]; done)), H', ⟨Nat.le_refl _⟩, ⟨by (with_reducible repeat (first | apply Kd.V_alloc | apply Kd.V_drewN | apply Kd.V_drew)); exact HO0.out⟩, ⟨Sq.bl HB⟩⟩
 case round =>
  clear H'
  try clear c1
  obtain ⟨x3_1, rfl, HA, HK1, HO_0, HB⟩ := hrel
  cases gk with
  | zero => exact absurd HA.out (by simp [foliotref01_cut.l0])
  | succ k1 =>
   have H := HA.out
   clear HA
   simp only [foliotref01_cut.l0] at H
   by_cases c2 : x3_1 > 0
   ·rw [if_pos c2] at H
    have c2b0 : decide (0 < x3_1) = true := decide_eq_true c2
    clear c2
    obtain ⟨ji3, hji3⟩ : ∃ j_ : Int, (wrap64 (x3_1 - 1)) = j_ := ⟨_, rfl⟩
    (first | rw [hji3] at H | simp only [hji3] at H)
    have hji3w : (IntKind.i64.wrap (x3_1 - 1)) = ji3 := (i64_w _).trans hji3
    replace H := Sq.ifs H
    obtain ⟨c4, H⟩ := H
    have c4b0 : decide (0 ≤ (ji3)) = true := decide_eq_true c4
    clear c4
    replace H := Sq.ifs H
    obtain ⟨c5, H⟩ := H
    have c5b0 : decide ((ji3) < (l0.length : Int)) = true := decide_eq_true c5
    clear c5
    obtain ⟨bq6, hbq6⟩ : ∃ b_ : Bool, b_ = (rdOf false l0 (ji3)) := ⟨_, rfl⟩
    replace H : (if (bq6 = true) then (if 0 ≤ x3_1 then (if x3_1 ≤ (l0.length : Int) then (some (l0.take (x3_1 : Int).toNat)) else (none)) else (none)) else (foliotref01_cut.l0 k1 l0 ji3)) = some r := by rw [← hbq6] at H; exact H
    have Nbq6 := Aside0.mk hbq6
    clear hbq6
    by_cases c7 : (bq6 = true)
    ·subst c7
     have H1 : (if 0 ≤ x3_1 then (if x3_1 ≤ (l0.length : Int) then (some (l0.take (x3_1 : Int).toNat)) else (none)) else (none)) = some r := by rw [if_pos rfl] at H; exact H
     clear H
     have H := H1
     clear H1
     replace H := Sq.ifs H
     obtain ⟨c8, H⟩ := H
     have c8b0 := eq_true c8
     have c8b1 : decide (0 ≤ x3_1) = true := decide_eq_true c8
     clear c8
     replace H := Sq.ifs H
     obtain ⟨c9, H⟩ := H
     have c9b0 := eq_true c9
     have c9b1 : decide (x3_1 ≤ (l0.length : Int)) = true := decide_eq_true c9
     clear c9
     obtain ⟨y433, hy433⟩ : ∃ y_ : List Bool, y_ = (l0.take (x3_1 : Int).toNat) := ⟨_, rfl⟩
     (first | (replace H := Sq.ny hy433 H; (try dsimp -simprocs only at H)) | rw [← hy433] at H | skip)
     have Ny433 := Aside0.mk hy433
     clear hy433
     obtain rfl := Option.some.inj H
     have p432 : 0 ≤ ((ji3) : Int) := of_decide_eq_true (by first | (with_reducible assumption) | assumption)
     have q432 : (ji3) < (l0.length : Int) := of_decide_eq_true (by first | (with_reducible assumption) | assumption)
     obtain ⟨ad432, e432, hx432_0⟩ := Kd.at_bool (Kd.V_reads' HO_0.out).2.2 (ji3) p432 q432
     (try rw [← Nbq6.out] at hx432_0)
     cases e432
     replace p432 := eq_true p432
     replace q432 := eq_true q432
     have q10 : (x3_1 : Int) ≤ ((l0.length : Int) : Int) := of_decide_eq_true (by first | (with_reducible assumption) | assumption)
     obtain ⟨i010, hi010, _, hsz10, _⟩ := info_parts info4
     have hroom10 : l0.length ≤ c0 := (Kd.V_reads' HO_0.out).2.1
     have hC10 : Kd.F Kd.bool _ _ (some ad432) l0.length l0 := (Kd.V_at (base := w.heap.size) HO_0.out).2.2
     have hcut10 := cut_to (P := Try.prog) 63 4 .i64 Try.underlying63 hi010 (some ad432) l0.length c0 x3_1 (of_decide_eq_true (by first | (with_reducible assumption) | assumption)) q10 hroom10
     have hr10 := Kd.F_take (m := (x3_1 : Int).toNat) hC10 (by omega)
     have hy10 : y433.length = (x3_1 : Int).toNat := (by rw [Ny433.out, List.length_take]; omega)
     rw [← Ny433.out] at hr10
     rw [← hy10] at hcut10
     have HO437 := Aside0.mk (show Kd.V Kd.bool 4 _ w.heap.size _ (.slice (some ad432) y433.length c0) y433 from Kd.V_mk (by omega) hr10)
     have HC437 := Aside0.mk (show y433.length ≤ c0 from by omega)
     clear hr10 hC10 hroom10 hi010 hsz10
     have KY10 := Aside0.mk hy10
     clear hy10
     replace q10 := eq_true q10
     go_wp2
     go_ret
     exact ⟨_, by first | rfl | (simp [errW_none, errW_some] <;> rfl) | (simp only [← hji3]; first | rfl | (simp [errW_none, errW_some] <;> rfl)) | (simp [*, errW_none, errW_some] <;> rfl), by (with_reducible repeat (first | apply Kd.V_alloc | apply Kd.V_drewN | apply Kd.V_drew)); exact HO437.out, Sq.bl HB⟩
    ·replace c7 := Bool.eq_false_iff.mpr c7
     subst c7
     have H1 : (foliotref01_cut.l0 k1 l0 ji3) = some r := by rw [if_neg (show ¬ (false = true) by decide)] at H; exact H
     clear H
     have H := H1
     clear H1
     have H' := Aside0.mk H
     clear H
     have p432 : 0 ≤ ((ji3) : Int) := of_decide_eq_true (by first | (with_reducible assumption) | assumption)
     have q432 : (ji3) < (l0.length : Int) := of_decide_eq_true (by first | (with_reducible assumption) | assumption)
     obtain ⟨ad432, e432, hx432_0⟩ := Kd.at_bool (Kd.V_reads' HO_0.out).2.2 (ji3) p432 q432
     (try rw [← Nbq6.out] at hx432_0)
     cases e432
     replace p432 := eq_true p432
     replace q432 := eq_true q432
     go_wp2
     go_roundg k1
     case measure => have := HK1.out; omega
     case rel => exact ⟨(ji3), (by first | rfl | (simp; done) | (simp only [← hji3] <;> (first | rfl | simp)) | (simp [*]; done)), H', ⟨by have := HK1.out; omega⟩, ⟨by (with_reducible repeat (first | apply Kd.V_alloc | apply Kd.V_drewN | apply Kd.V_drew)); exact HO_0.out⟩, ⟨Sq.bl HB⟩⟩
   ·rw [if_neg c2] at H
    have c2b0 : decide (0 < x3_1) = false := decide_eq_false c2
    clear c2
    replace H := Sq.ifs H
    obtain ⟨c11, H⟩ := H
    have c11b0 := eq_true c11
    have c11b1 : decide (0 ≤ x3_1) = true := decide_eq_true c11
    clear c11
    replace H := Sq.ifs H
    obtain ⟨c12, H⟩ := H
    have c12b0 := eq_true c12
    have c12b1 : decide (x3_1 ≤ (l0.length : Int)) = true := decide_eq_true c12
    clear c12
    obtain ⟨y438, hy438⟩ : ∃ y_ : List Bool, y_ = (l0.take (x3_1 : Int).toNat) := ⟨_, rfl⟩
    (first | (replace H := Sq.ny hy438 H; (try dsimp -simprocs only at H)) | rw [← hy438] at H | skip)
    have Ny438 := Aside0.mk hy438
    clear hy438
    obtain rfl := Option.some.inj H
    have q13 : (x3_1 : Int) ≤ ((l0.length : Int) : Int) := of_decide_eq_true (by first | (with_reducible assumption) | assumption)
    obtain ⟨i013, hi013, _, hsz13, _⟩ := info_parts info4
    have hroom13 : l0.length ≤ c0 := (Kd.V_reads' HO_0.out).2.1
    have hC13 : Kd.F Kd.bool _ _ A0 l0.length l0 := (Kd.V_at (base := w.heap.size) HO_0.out).2.2
    have hcut13 := cut_to (P := Try.prog) 63 4 .i64 Try.underlying63 hi013 A0 l0.length c0 x3_1 (of_decide_eq_true (by first | (with_reducible assumption) | assumption)) q13 hroom13
    have hr13 := Kd.F_take (m := (x3_1 : Int).toNat) hC13 (by omega)
    have hy13 : y438.length = (x3_1 : Int).toNat := (by rw [Ny438.out, List.length_take]; omega)
    rw [← Ny438.out] at hr13
    rw [← hy13] at hcut13
    have HO442 := Aside0.mk (show Kd.V Kd.bool 4 _ w.heap.size _ (.slice A0 y438.length c0) y438 from Kd.V_mk (by omega) hr13)
    have HC442 := Aside0.mk (show y438.length ≤ c0 from by omega)
    clear hr13 hC13 hroom13 hi013 hsz13
    have KY13 := Aside0.mk hy13
    clear hy13
    replace q13 := eq_true q13
    go_wp2
    go_ret
    exact ⟨_, by first | rfl | (simp [errW_none, errW_some] <;> rfl) | (simp [*, errW_none, errW_some] <;> rfl), by (with_reducible repeat (first | apply Kd.V_alloc | apply Kd.V_drewN | apply Kd.V_drew)); exact HO442.out, Sq.bl HB⟩
end Go.Proofs.Ytaclkccgjpjdjaa.N
