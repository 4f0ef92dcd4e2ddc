import Derived.Test.YtjfkhbkddenfoaaQmhdjabaigpNx0
import Derived.Test.YtjfkhbkddenfoaaQpfgookmfekNx5
import Derived.Test.YtjfkhbkddenfoaaQemcbhdnholNx7
import Derived.Test.YtjfkhbkddenfoaaQihkflimlalM
set_option linter.unusedVariables false
set_option linter.unusedSimpArgs false
namespace Go.Proofs.Ytjfkhbkddenfoaa.N
open Go.RowKit Go.Proofs.YtjfkhbkddenfoaaW.PrintWords Go.Proofs.YtjfkhbkddenfoaaW.PrintLast Go.Proofs.YtjfkhbkddenfoaaW.PrintMore
attribute [local go_sem] max2_int min2_int max_two min_two max_three min_three max_four min_four   -- for this text's walks alone
mutual
def foliotref01_Print.l0 : Nat → Int → ByteArray → Option (ByteArray)
 | 0, _, _ => none
 | k + 1, x3, x5 => if x5.toList = ([] : List UInt8) then ((some (([(IntKind.u64.wrap (48 + (Int.tmod x3 10))) % 256] : List Int) : List Int)).bind fun y511 => (if (strOfNums y511).size + x5.size ≤ 9223372036854775807 then (foliotref01_Print.l0 k (IntKind.u64.wrap (Int.tdiv x3 10)) ((strOfNums y511) ++ x5)) else (none))) else (if x3 > 0 then ((some (([(IntKind.u64.wrap (48 + (Int.tmod x3 10))) % 256] : List Int) : List Int)).bind fun y514 => (if (strOfNums y514).size + x5.size ≤ 9223372036854775807 then (foliotref01_Print.l0 k (IntKind.u64.wrap (Int.tdiv x3 10)) ((strOfNums y514) ++ x5)) else (none))) else (some x5))
def foliotref01_Print.l1 : Nat → List Bool → List Bool → ByteArray → Option (ByteArray)
 | 0, _, _, _ => none
 | k + 1, x6, x7, x8 => if x8.toList = ([] : List UInt8) then (foliotref01_Print.j2 k x6 x7 x8 true) else (foliotref01_Print.j2 k x6 x7 x8 (decide ((x6.length : Int) > 0)))
def foliotref01_Print.j2 : Nat → List Bool → List Bool → ByteArray → Bool → Option (ByteArray)
 | 0, _, _, _, _ => none
 | k + 1, x6, x7, x8, x46 => if x46 = true then ((foliotref01_div.f k x6 x7).bind fun bt526 => (foliotref01_Print.l2 k x7 x8 bt526.1 bt526.2 0 (wrap64 ((bt526.2.length : Int) - 1)))) else (some x8)
def foliotref01_Print.l2 : Nat → List Bool → ByteArray → List Bool → List Bool → Int → Int → Option (ByteArray)
 | 0, _, _, _, _, _, _ => none
 | k + 1, x7, x8, x9, x10, x11, x12 => if x12 ≥ 0 then (if 0 ≤ x12 then (if x12 < (x10.length : Int) then (if rdOf false x10 x12 = true then (foliotref01_Print.l2 k x7 x8 x9 x10 (wrap64 ((wrap64 (2 * x11)) + 1)) (wrap64 (x12 - 1))) else (foliotref01_Print.l2 k x7 x8 x9 x10 (wrap64 (2 * x11)) (wrap64 (x12 - 1)))) else (none)) else (none)) else ((some (([(wrap64 (48 + x11)) % 256] : List Int) : List Int)).bind fun y533 => (if (strOfNums y533).size + x8.size ≤ 9223372036854775807 then (foliotref01_Print.l1 k x9 x7 ((strOfNums y533) ++ x8)) else (none)))
end
def foliotref01_Print.f (k : Nat) (l0 : List Int) : Option (ByteArray) := (foliotref01_short.f l0).bind fun bt509 => (if bt509.2 = true then (foliotref01_Print.l0 k bt509.1 (⟨#[]⟩ : ByteArray)) else ((foliotref01_Of.f k l0).bind fun t517 => ((foliotref01_Of.f k (([10] : List Int))).bind fun t523 => (foliotref01_Print.l1 k t517 t523 (⟨#[]⟩ : ByteArray)))))
set_option maxHeartbeats 8000000 in
set_option maxRecDepth 100000 in
theorem foliotref01_Print.calls (k : Nat) (A0 : Option Addr) (c0 : Nat) (l0 : List Int) (r : ByteArray) (w : World) (hr0 : Kd.C (Kd.int .u32) w A0 l0.length l0) (hc0 : l0.length ≤ c0) (h : foliotref01_Print.f k l0 = some r) :
  Calls Try.prog 80 #[.slice A0 l0.length c0] w fun e w' => e = .returned (.string r) ∧ Below w.heap.size w w' := by
 have HR0 := Aside0.mk hr0
 have HC0 := Aside0.mk hc0
 clear hr0 hc0
 have HB := Aside0.mk (Below.refl w.heap.size w)
 have H : ((foliotref01_short.f l0).bind fun bt509 => (if bt509.2 = true then (foliotref01_Print.l0 k bt509.1 (⟨#[]⟩ : ByteArray)) else ((foliotref01_Of.f k l0).bind fun t517 => ((foliotref01_Of.f k (([10] : List Int))).bind fun t523 => (foliotref01_Print.l1 k t517 t523 (⟨#[]⟩ : ByteArray)))))) = some r := h
 clear h
 replace H := Sq.bd H
 obtain ⟨⟨t509, t510⟩, A2, H⟩ := H
 (try dsimp -simprocs only at H)
 by_cases c3 : t510 = true
 ·subst c3
  have H1 : (foliotref01_Print.l0 k t509 (⟨#[]⟩ : ByteArray)) = some r := by rw [if_pos rfl] at H; exact H
  clear H
  have H := H1
  clear H1
  have H' := Aside0.mk H
  clear H
  go_enter Try.func80, Try.ntmps80
  go_wp2_with (first | ((with_reducible refine gate_callee (f := 84) rfl ?_); refine Sq.gl (some 15) Try.func84 #[.slice A0 l0.length c0] ?_; (with_reducible refine (foliotref01_short.calls _ _ l0 t509 true _ ?side1 ?side2 A2.out).mono ?_); (case side1 => repeat (first | exact HR0.out | (with_reducible refine Kd.C_alloc ?_ _) | (with_reducible refine Kd.C_drewN ?_ _) | (with_reducible refine Kd.C_drew ?_))); (case side2 => exact HC0.out); rintro e w' ⟨rfl, ⟨nd, rfl⟩⟩; refine ⟨_, rfl, ?_⟩))
  go_loopg [3, 5] k (fun kq v3 v5 w' => ∃ (x3_1 : Int) (x5_1 : ByteArray), v3 = .int .u64 x3_1 ∧ v5 = .string x5_1 ∧ Aside0 (foliotref01_Print.l0 kq x3_1 x5_1 = some r) ∧ Aside0 (kq ≤ k) ∧ Aside0 (Below w.heap.size w w'))
  case atStart => exact ⟨(t509), ((⟨#[]⟩ : ByteArray)), (by first | rfl | (simp; done) | (simp [*]; done)), (by first | rfl | (simp; done) | (simp [*]; done)), H', ⟨Nat.le_refl _⟩, ⟨Sq.bl HB⟩⟩
  case round =>
   clear H'
   try clear p2
   try clear c3
   obtain ⟨x3_1, x5_1, rfl, rfl, HA, HK1, HB⟩ := hrel
   cases gk with
   | zero => exact absurd HA.out (by simp [foliotref01_Print.l0])
   | succ k1 =>
    have H := HA.out
    clear HA
    simp only [foliotref01_Print.l0] at H
    by_cases c4 : x5_1.toList = ([] : List UInt8)
    ·rw [if_pos c4] at H
     have c4b0 : (x5_1.toList == ([] : List UInt8)) = true := beq_iff_eq.mpr c4
     have c4b1 : (x5_1.toList != ([] : List UInt8)) = false := bne_eq_false_iff_eq.mpr c4
     clear c4
     obtain ⟨y511, hy511⟩ : ∃ y_ : List Int, y_ = (([(IntKind.u64.wrap (48 + (Int.tmod x3_1 10))) % 256] : List Int)) := ⟨_, rfl⟩
     (first | (replace H := Sq.ny hy511 H; (try dsimp -simprocs only at H)) | rw [← hy511] at H | skip)
     have Ny511 := Aside0.mk hy511
     clear hy511
     replace H := Sq.ifs H
     obtain ⟨c5, H⟩ := H
     have c5b0 := eq_true c5
     have c5b1 : decide ((strOfNums y511).size + x5_1.size ≤ 9223372036854775807) = true := decide_eq_true c5
     try have c5b2 : (9223372036854775807 < (strOfNums y511).size + x5_1.size) = False := eq_false (Nat.not_lt.2 c5)
     have H' := Aside0.mk H
     clear H
     go_wp2_with (first | ((with_reducible refine gate_dst (N := 29) rfl ?_); (try (refine gate_guard (by rfl) ?_; dsimp only)); refine Kd.R_lit (Kd.int .u8) _ 5 ?hg (N := 29) ?hd (xs := ([(IntKind.u64.wrap (48 + (Int.tmod x3_1 10))) % 256] : List Int)) (inner := [.int .u8 ((IntKind.u64.wrap (48 + (Int.tmod x3_1 10))) % 256)]) (ok := fun _ => True) (okp := fun _ => True) ?hr ?hp (fun _ hk => hk) trivial (Below.refl _ _) (Nat.le_refl _) (by simp) ?_; (case hd => rfl); (case hg => rfl); (case hr => first | (go_simp; done) | (go_simp; rfl)); (case hp => exact (Reps.one (show Kd.M (Kd.int .u8) _ _ _ ((IntKind.u64.wrap (48 + (Int.tmod x3_1 10))) % 256) [.int .u8 ((IntKind.u64.wrap (48 + (Int.tmod x3_1 10))) % 256)] from rfl) (Reps.none _ _))); intro v512 w6 ho7 hb hg_ hnew_; clear hg_ hnew_; (first | rw [← Ny511.out] at ho7 | (simp only [Int.reduceToNat] at ho7; rw [← Ny511.out] at ho7)); have HO513 := Aside0.mk (Kd.R_lower ho7 (below_size (Sq.bl HB))); replace HB := Sq.bs HB hb; clear hb ho7; have hcv8 := own_string (P := Try.prog) Try.underlying127 Try.underlying5 Try.underlying9 (Kd.own_of_R HO513.out)))
     go_roundg k1
     case measure => have := HK1.out; omega
     case rel => exact ⟨(IntKind.u64.wrap (Int.tdiv x3_1 10)), ((strOfNums y511) ++ x5_1), (by first | rfl | (simp; done) | (simp [*]; done)), (by first | rfl | (simp; done) | (simp [*]; done)), H', ⟨by have := HK1.out; omega⟩, ⟨Sq.bl HB⟩⟩
    ·rw [if_neg c4] at H
     have c4b0 : (x5_1.toList == ([] : List UInt8)) = false := beq_eq_false_iff_ne.mpr c4
     have c4b1 : (x5_1.toList != ([] : List UInt8)) = true := bne_iff_ne.mpr c4
     by_cases c9 : x3_1 > 0
     ·rw [if_pos c9] at H
      have c9b0 : decide (0 < x3_1) = true := decide_eq_true c9
      clear c9
      obtain ⟨y514, hy514⟩ : ∃ y_ : List Int, y_ = (([(IntKind.u64.wrap (48 + (Int.tmod x3_1 10))) % 256] : List Int)) := ⟨_, rfl⟩
      (first | (replace H := Sq.ny hy514 H; (try dsimp -simprocs only at H)) | rw [← hy514] at H | skip)
      have Ny514 := Aside0.mk hy514
      clear hy514
      replace H := Sq.ifs H
      obtain ⟨c10, H⟩ := H
      have c10b0 := eq_true c10
      have c10b1 : decide ((strOfNums y514).size + x5_1.size ≤ 9223372036854775807) = true := decide_eq_true c10
      try have c10b2 : (9223372036854775807 < (strOfNums y514).size + x5_1.size) = False := eq_false (Nat.not_lt.2 c10)
      have H' := Aside0.mk H
      clear H
      go_wp2_with (first | ((with_reducible refine gate_dst (N := 29) rfl ?_); (try (refine gate_guard (by rfl) ?_; dsimp only)); refine Kd.R_lit (Kd.int .u8) _ 5 ?hg (N := 29) ?hd (xs := ([(IntKind.u64.wrap (48 + (Int.tmod x3_1 10))) % 256] : List Int)) (inner := [.int .u8 ((IntKind.u64.wrap (48 + (Int.tmod x3_1 10))) % 256)]) (ok := fun _ => True) (okp := fun _ => True) ?hr ?hp (fun _ hk => hk) trivial (Below.refl _ _) (Nat.le_refl _) (by simp) ?_; (case hd => rfl); (case hg => rfl); (case hr => first | (go_simp; done) | (go_simp; rfl)); (case hp => exact (Reps.one (show Kd.M (Kd.int .u8) _ _ _ ((IntKind.u64.wrap (48 + (Int.tmod x3_1 10))) % 256) [.int .u8 ((IntKind.u64.wrap (48 + (Int.tmod x3_1 10))) % 256)] from rfl) (Reps.none _ _))); intro v515 w11 ho12 hb hg_ hnew_; clear hg_ hnew_; (first | rw [← Ny514.out] at ho12 | (simp only [Int.reduceToNat] at ho12; rw [← Ny514.out] at ho12)); have HO516 := Aside0.mk (Kd.R_lower ho12 (below_size (Sq.bl HB))); replace HB := Sq.bs HB hb; clear hb ho12; have hcv13 := own_string (P := Try.prog) Try.underlying127 Try.underlying5 Try.underlying9 (Kd.own_of_R HO516.out)))
      go_roundg k1
      case measure => have := HK1.out; omega
      case rel => exact ⟨(IntKind.u64.wrap (Int.tdiv x3_1 10)), ((strOfNums y514) ++ x5_1), (by first | rfl | (simp; done) | (simp [*]; done)), (by first | rfl | (simp; done) | (simp [*]; done)), H', ⟨by have := HK1.out; omega⟩, ⟨Sq.bl HB⟩⟩
     ·rw [if_neg c9] at H
      have c9b0 : decide (0 < x3_1) = false := decide_eq_false c9
      clear c9
      obtain rfl := Option.some.inj H
      go_wp2
      go_ret
      exact ⟨by first | rfl | (simp [errW_none, errW_some] <;> rfl) | (simp [*, errW_none, errW_some] <;> rfl), Sq.bl HB⟩
 ·replace c3 := Bool.eq_false_iff.mpr c3
  subst c3
  have H1 : ((foliotref01_Of.f k l0).bind fun t517 => ((foliotref01_Of.f k (([10] : List Int))).bind fun t523 => (foliotref01_Print.l1 k t517 t523 (⟨#[]⟩ : ByteArray)))) = some r := by rw [if_neg (show ¬ (false = true) by decide)] at H; exact H
  clear H
  have H := H1
  clear H1
  replace H := Sq.bd H
  obtain ⟨t517, A14, H⟩ := H
  (try dsimp -simprocs only at H)
  obtain ⟨y520, hy520⟩ : ∃ y_ : List Int, y_ = (([10] : List Int)) := ⟨_, rfl⟩
  (first | (replace H := Sq.ny hy520 H; (try dsimp -simprocs only at H)) | rw [← hy520] at H | skip)
  have Ny520 := Aside0.mk hy520
  clear hy520
  replace H := Sq.bd H
  obtain ⟨t523, A15, H⟩ := H
  (try dsimp -simprocs only at H)
  have H' := Aside0.mk H
  clear H
  go_enter Try.func80, Try.ntmps80
  go_wp2_with (first | ((with_reducible refine gate_callee (f := 84) rfl ?_); refine Sq.gl (some 15) Try.func84 #[.slice A0 l0.length c0] ?_; (with_reducible refine (foliotref01_short.calls _ _ l0 t509 false _ ?side1 ?side2 A2.out).mono ?_); (case side1 => repeat (first | exact HR0.out | (with_reducible refine Kd.C_alloc ?_ _) | (with_reducible refine Kd.C_drewN ?_ _) | (with_reducible refine Kd.C_drew ?_))); (case side2 => exact HC0.out); rintro e w' ⟨rfl, ⟨nd, rfl⟩⟩; refine ⟨_, rfl, ?_⟩) | ((with_reducible refine gate_callee (f := 86) rfl ?_); refine Sq.gl (some 37) Try.func86 #[.slice A0 l0.length c0] ?_; (with_reducible refine (foliotref01_Of.calls k _ _ l0 t517 _ ?side1 ?side2 A14.out).mono ?_); (case side1 => repeat (first | exact HR0.out | (with_reducible refine Kd.C_alloc ?_ _) | (with_reducible refine Kd.C_drewN ?_ _) | (with_reducible refine Kd.C_drew ?_))); (case side2 => exact HC0.out); rintro e w16 ⟨v518, rfl, ho0, hb⟩; refine ⟨_, rfl, ?_⟩; have HO519 := Aside0.mk (Kd.V_lower (Kd.V_mono (ok' := fun k_ => True) ho0 (fun k_ hk_ => trivial)) (below_size (Sq.bl HB))); replace HB := Sq.bs HB hb; (try clear hb); (try clear hb2); (try clear hk); (try clear hi); (try clear ho0)) | ((with_reducible refine gate_dst (N := 38) rfl ?_); (try (refine gate_guard (by rfl) ?_; dsimp only)); refine Kd.R_lit (Kd.int .u32) _ 87 ?hg (N := 38) ?hd (xs := ([10] : List Int)) (inner := [.int .u32 10]) (ok := fun _ => True) (okp := fun _ => True) ?hr ?hp (fun _ hk => hk) trivial (Below.refl _ _) (Nat.le_refl _) (by simp) ?_; (case hd => rfl); (case hg => rfl); (case hr => first | (go_simp; done) | (go_simp; rfl)); (case hp => exact (Reps.one (show Kd.M (Kd.int .u32) _ _ _ 10 [.int .u32 10] from rfl) (Reps.none _ _))); intro v521 w17 ho18 hb hg_ hnew_; clear hg_ hnew_; (first | rw [← Ny520.out] at ho18 | (simp only [Int.reduceToNat] at ho18; rw [← Ny520.out] at ho18)); replace HO519 := Aside0.mk (Kd.V_elder' (Sq.al HO519) (Kd.R_base ho18) hb); have HO522 := Aside0.mk (Kd.R_lower ho18 (below_size (Sq.bl HB))); replace HB := Sq.bs HB hb; clear hb ho18; obtain ⟨Ao19, co19, eo19⟩ := Kd.R_slice HO522.out; subst eo19) | ((with_reducible refine gate_callee (f := 86) rfl ?_); refine Sq.gl (some 39) Try.func86 #[.slice Ao19 y520.length co19] ?_; (with_reducible refine (foliotref01_Of.calls k _ _ y520 t523 _ ?side1 ?side2 A15.out).mono ?_); (case side1 => exact Sq.ca (Kd.R_reads' HO522.out).2.2); (case side2 => exact (Kd.R_reads' HO522.out).2.1); rintro e w20 ⟨v524, rfl, ho0, hb⟩; refine ⟨_, rfl, ?_⟩; replace HO519 := Aside0.mk (Kd.V_below (Sq.al HO519) hb); have HO525 := Aside0.mk (Kd.V_lower (Kd.V_mono (ok' := fun k_ => some k_ ≠ (.slice Ao19 y520.length co19 : Value).ownBlock) ho0 (fun k_ hk_ => (Kd.fresh' (Kd.R_lt (Sq.al HO522)) k_ hk_))) (below_size (Sq.bl HB))); replace HO522 := Aside0.mk (Kd.R_below (Sq.al HO522) hb); replace HB := Sq.bs HB hb; (try clear hb); (try clear hb2); (try clear hk); (try clear hi); (try clear ho0)))
  go_loopg [6, 8] k (fun kq v6 v8 w' => ∃ (x6_1 : List Bool) (x8_1 : ByteArray), v8 = .string x8_1 ∧ Aside0 (foliotref01_Print.l1 kq x6_1 t523 x8_1 = some r) ∧ Aside0 (kq ≤ k) ∧ Aside0 (Kd.V Kd.bool 4 w' w.heap.size (fun _ => True) v6 x6_1) ∧ Aside0 (Kd.V Kd.bool 4 w' w.heap.size (fun _ => True) v524 t523) ∧ Aside0 (Below w.heap.size w w'))
  case atStart => exact ⟨(t517), ((⟨#[]⟩ : ByteArray)), (by first | rfl | (simp; done) | (simp [*]; done)), H', ⟨Nat.le_refl _⟩, ⟨by (with_reducible repeat (first | apply Kd.V_alloc | apply Kd.V_drewN | apply Kd.V_drew)); exact Kd.V_mono HO519.out (fun _ hk => trivial)⟩, ⟨by (with_reducible repeat (first | apply Kd.V_alloc | apply Kd.V_drewN | apply Kd.V_drew)); exact Kd.V_mono HO525.out (fun _ hk => trivial)⟩, ⟨Sq.bl HB⟩⟩
  case round =>
   clear H'
   try clear c1
   try clear hcv1
   try clear p2
   try clear c3
   try clear c4
   try clear c4b0
   try clear c4b1
   try clear c5
   try clear c5b0
   try clear c5b1
   try clear c5b2
   try clear c8
   try clear hcv8
   try clear c9
   try clear c9b0
   try clear c10
   try clear c10b0
   try clear c10b1
   try clear c10b2
   try clear hcv13
   try clear p2
   obtain ⟨x6_1, x8_1, rfl, HA, HK1, HO_6, HO_7, HB⟩ := hrel
   cases gk with
   | zero => exact absurd HA.out (by simp [foliotref01_Print.l1])
   | succ k1 =>
    have H := HA.out
    clear HA
    simp only [foliotref01_Print.l1] at H
    have HC21 := Aside0.mk H
    clear H
    go_upto_region 11 with (fail)
    go_cut [46] (fun v46 wc => ∃ (kq : Nat) (x46_20 : Bool), v46 = .bool x46_20 ∧ Aside0 (foliotref01_Print.j2 kq x6_1 t523 x8_1 x46_20 = some r) ∧ Aside0 (kq ≤ k1) ∧ Aside0 (Kd.V Kd.bool 4 wc w.heap.size (fun _ => True) u6 x6_1) ∧ Aside0 (Kd.V Kd.bool 4 wc w.heap.size (fun _ => True) v524 t523) ∧ Aside0 (Below w.heap.size w wc))
    case first =>
     have H := HC21.out
     clear HC21
     by_cases c22 : x8_1.toList = ([] : List UInt8)
     ·rw [if_pos c22] at H
      have c22b0 : (x8_1.toList == ([] : List UInt8)) = true := beq_iff_eq.mpr c22
      have c22b1 : (x8_1.toList != ([] : List UInt8)) = false := bne_eq_false_iff_eq.mpr c22
      clear c22
      (first | rw [c22b0] | (simp only [i64_w, i32_w]; rw [c22b0]) | skip)
      have H' := Aside0.mk H
      clear H
      go_wp2
      go_meet
      case rel => exact ⟨_, (true), (by first | rfl | (simp; done) | (simp [*]; done)), H', ⟨by have := HK1.out; first | omega | exact Nat.le_refl _⟩, ⟨by (with_reducible repeat (first | apply Kd.V_alloc | apply Kd.V_drewN | apply Kd.V_drew)); exact HO_6.out⟩, ⟨by (with_reducible repeat (first | apply Kd.V_alloc | apply Kd.V_drewN | apply Kd.V_drew)); exact HO_7.out⟩, ⟨Sq.bl HB⟩⟩
     ·rw [if_neg c22] at H
      have c22b0 : (x8_1.toList == ([] : List UInt8)) = false := beq_eq_false_iff_ne.mpr c22
      have c22b1 : (x8_1.toList != ([] : List UInt8)) = true := bne_iff_ne.mpr c22
      (first | rw [c22b0] | (simp only [i64_w, i32_w]; rw [c22b0]) | skip)
      have H' := Aside0.mk H
      clear H
      obtain ⟨Ao23, co23, eo23⟩ := Kd.V_slice HO_6.out
      subst eo23
      go_wp2
      go_meet
      case rel => exact ⟨_, (decide ((x6_1.length : Int) > 0)), (by first | rfl | (simp; done) | (simp [*]; done)), H', ⟨by have := HK1.out; first | omega | exact Nat.le_refl _⟩, ⟨by (with_reducible repeat (first | apply Kd.V_alloc | apply Kd.V_drewN | apply Kd.V_drew)); exact HO_6.out⟩, ⟨by (with_reducible repeat (first | apply Kd.V_alloc | apply Kd.V_drewN | apply Kd.V_drew)); exact HO_7.out⟩, ⟨Sq.bl HB⟩⟩
    case rest =>
     clear HC21
     try clear c1
     try clear hcv1
     try clear c2
     try clear p2
     try clear c3
     try clear c4
     try clear c4b0
     try clear c4b1
     try clear c5
     try clear c5b0
     try clear c5b1
     try clear c5b2
     try clear c8
     try clear hcv8
     try clear c9
     try clear c9b0
     try clear c10
     try clear c10b0
     try clear c10b1
     try clear c10b2
     try clear hcv13
     try clear c22
     try clear c22b0
     try clear c22b1
     try clear p2
     obtain ⟨kq, x46_20, rfl, HA, HJ20, HO_6, HO_7, HB⟩ := hcut
     cases kq with
     | zero => exact absurd HA.out (by simp [foliotref01_Print.j2])
     | succ kj20 =>
      have H := HA.out
      clear HA
      simp only [foliotref01_Print.j2] at H
      by_cases c24 : x46_20 = true
      ·subst c24
       have H1 : ((foliotref01_div.f kj20 x6_1 t523).bind fun bt526 => (foliotref01_Print.l2 kj20 t523 x8_1 bt526.1 bt526.2 0 (wrap64 ((bt526.2.length : Int) - 1)))) = some r := by rw [if_pos rfl] at H; exact H
       clear H
       have H := H1
       clear H1
       replace H := Sq.bd H
       obtain ⟨⟨t526, t529⟩, A25, H⟩ := H
       (try dsimp -simprocs only at H)
       have H' := Aside0.mk H
       clear H
       obtain ⟨Ao26, co26, eo26⟩ := Kd.V_slice HO_6.out
       subst eo26
       obtain ⟨Ao27, co27, eo27⟩ := Kd.V_slice HO_7.out
       subst eo27
       go_wp2_with (first | ((with_reducible refine gate_callee (f := 89) rfl ?_); refine Sq.gl (some 50) Try.func89 #[.slice Ao26 x6_1.length co26, .slice Ao27 t523.length co27] ?_; (with_reducible refine (foliotref01_div.calls kj20 _ _ x6_1 _ _ t523 t526 t529 _ ?side1 ?side2 ?side3 ?side4 A25.out).mono ?_); (case side1 => exact Sq.ca (Kd.V_reads' HO_6.out).2.2); (case side2 => exact (Kd.V_reads' HO_6.out).2.1); (case side3 => exact Sq.ca (Kd.V_reads' HO_7.out).2.2); (case side4 => exact (Kd.V_reads' HO_7.out).2.1); rintro e w28 ⟨v527, v530, rfl, ho0, ho1, hb⟩; refine ⟨_, rfl, ?_⟩; replace HO_6 := Aside0.mk (Kd.V_below (Sq.al HO_6) hb); replace HO_7 := Aside0.mk (Kd.V_below (Sq.al HO_7) hb); have HO528 := Aside0.mk (Kd.V_lower (Kd.V_mono (ok' := fun k_ => True) ho0 (fun k_ hk_ => trivial)) (below_size (Sq.bl HB))); have HO531 := Aside0.mk (Kd.V_lower (Kd.V_mono (ok' := fun k_ => True) ho1 (fun k_ hk_ => trivial)) (below_size (Sq.bl HB))); replace HB := Sq.bs HB hb; (try clear hb); (try clear hb2); (try clear hk); (try clear hi); (try clear ho0); (try clear ho1); obtain ⟨Ao29, co29, eo29⟩ := Kd.V_slice HO531.out; subst eo29))
       go_loopg [11, 12] kj20 (fun kq v11 v12 w' => ∃ (x11_3 : Int) (x12_3 : Int), v11 = .int .i64 x11_3 ∧ v12 = .int .i64 x12_3 ∧ Aside0 (foliotref01_Print.l2 kq t523 x8_1 t526 t529 x11_3 x12_3 = some r) ∧ Aside0 (kq ≤ kj20) ∧ Aside0 (Kd.V Kd.bool 4 w' w.heap.size (fun _ => True) (.slice Ao27 t523.length co27) t523) ∧ Aside0 (Kd.V Kd.bool 4 w' w.heap.size (fun _ => True) v527 t526) ∧ Aside0 (Kd.V Kd.bool 4 w' w.heap.size (fun _ => True) (.slice Ao29 t529.length co29) t529) ∧ Aside0 (Below w.heap.size w w'))
       case atStart => exact ⟨(0), (wrap64 ((t529.length : Int) - 1)), (by first | rfl | (simp; done) | (simp [*]; done)), (by first | rfl | (simp; done) | (simp [*]; done)), H', ⟨Nat.le_refl _⟩, ⟨by (with_reducible repeat (first | apply Kd.V_alloc | apply Kd.V_drewN | apply Kd.V_drew)); exact HO_7.out⟩, ⟨by (with_reducible repeat (first | apply Kd.V_alloc | apply Kd.V_drewN | apply Kd.V_drew)); exact HO528.out⟩, ⟨by (with_reducible repeat (first | apply Kd.V_alloc | apply Kd.V_drewN | apply Kd.V_drew)); exact HO531.out⟩, ⟨Sq.bl HB⟩⟩
       case round =>
        clear H'
        try clear c1
        try clear hcv1
        try clear c2
        try clear p2
        try clear c3
        try clear c4
        try clear c4b0
        try clear c4b1
        try clear c5
        try clear c5b0
        try clear c5b1
        try clear c5b2
        try clear p6
        try clear c8
        try clear hcv8
        try clear c9
        try clear c9b0
        try clear c10
        try clear c10b0
        try clear c10b1
        try clear c10b2
        try clear hcv13
        try clear c22
        try clear c22b0
        try clear c22b1
        try clear c24
        try clear p2
        obtain ⟨x11_3, x12_3, rfl, rfl, HA, HK3, HO_7, HO_9, HO_10, HB⟩ := hrel
        cases gk with
        | zero => exact absurd HA.out (by simp [foliotref01_Print.l2])
        | succ k3 =>
         have H := HA.out
         clear HA
         simp only [foliotref01_Print.l2] at H
         by_cases c30 : x12_3 ≥ 0
         ·rw [if_pos c30] at H
          have c30b0 : decide (0 ≤ x12_3) = true := decide_eq_true c30
          clear c30
          replace H := Sq.ifs H
          obtain ⟨c31, H⟩ := H
          have c31b0 : decide (0 ≤ x12_3) = true := decide_eq_true c31
          clear c31
          replace H := Sq.ifs H
          obtain ⟨c32, H⟩ := H
          have c32b0 : decide (x12_3 < (t529.length : Int)) = true := decide_eq_true c32
          clear c32
          obtain ⟨bq33, hbq33⟩ : ∃ b_ : Bool, b_ = (rdOf false t529 x12_3) := ⟨_, rfl⟩
          replace H : (if bq33 = true then (foliotref01_Print.l2 k3 t523 x8_1 t526 t529 (wrap64 ((wrap64 (2 * x11_3)) + 1)) (wrap64 (x12_3 - 1))) else (foliotref01_Print.l2 k3 t523 x8_1 t526 t529 (wrap64 (2 * x11_3)) (wrap64 (x12_3 - 1)))) = some r := by rw [← hbq33] at H; exact H
          have Nbq33 := Aside0.mk hbq33
          clear hbq33
          by_cases c34 : bq33 = true
          ·subst c34
           have H1 : (foliotref01_Print.l2 k3 t523 x8_1 t526 t529 (wrap64 ((wrap64 (2 * x11_3)) + 1)) (wrap64 (x12_3 - 1))) = some r := by rw [if_pos rfl] at H; exact H
           clear H
           have H := H1
           clear H1
           have H' := Aside0.mk H
           clear H
           have p532 : 0 ≤ (x12_3 : Int) := of_decide_eq_true (by first | (with_reducible assumption) | assumption)
           have q532 : x12_3 < (t529.length : Int) := of_decide_eq_true (by first | (with_reducible assumption) | assumption)
           obtain ⟨ad532, e532, hx532_0⟩ := Kd.at_bool (Kd.V_reads' HO_10.out).2.2 x12_3 p532 q532
           (try rw [← Nbq33.out] at hx532_0)
           cases e532
           replace p532 := eq_true p532
           replace q532 := eq_true q532
           go_wp2
           go_roundg k3
           case measure => have := HK1.out; have := HJ20.out; have := HK3.out; omega
           case rel => exact ⟨(wrap64 ((wrap64 (2 * x11_3)) + 1)), (wrap64 (x12_3 - 1)), (by first | rfl | (simp; done) | (simp [*]; done)), (by first | rfl | (simp; done) | (simp [*]; done)), H', ⟨by have := HK1.out; have := HJ20.out; have := HK3.out; omega⟩, ⟨by (with_reducible repeat (first | apply Kd.V_alloc | apply Kd.V_drewN | apply Kd.V_drew)); exact HO_7.out⟩, ⟨by (with_reducible repeat (first | apply Kd.V_alloc | apply Kd.V_drewN | apply Kd.V_drew)); exact HO_9.out⟩, ⟨by (with_reducible repeat (first | apply Kd.V_alloc | apply Kd.V_drewN | apply Kd.V_drew)); exact HO_10.out⟩, ⟨Sq.bl HB⟩⟩
          ·replace c34 := Bool.eq_false_iff.mpr c34
           subst c34
           have H1 : (foliotref01_Print.l2 k3 t523 x8_1 t526 t529 (wrap64 (2 * x11_3)) (wrap64 (x12_3 - 1))) = some r := by rw [if_neg (show ¬ (false = true) by decide)] at H; exact H
           clear H
           have H := H1
           clear H1
           have H' := Aside0.mk H
           clear H
           have p532 : 0 ≤ (x12_3 : Int) := of_decide_eq_true (by first | (with_reducible assumption) | assumption)
           have q532 : x12_3 < (t529.length : Int) := of_decide_eq_true (by first | (with_reducible assumption) | assumption)
           obtain ⟨ad532, e532, hx532_0⟩ := Kd.at_bool (Kd.V_reads' HO_10.out).2.2 x12_3 p532 q532
           (try rw [← Nbq33.out] at hx532_0)
           cases e532
           replace p532 := eq_true p532
           replace q532 := eq_true q532
           go_wp2
           go_roundg k3
           case measure => have := HK1.out; have := HJ20.out; have := HK3.out; omega
           case rel => exact ⟨(wrap64 (2 * x11_3)), (wrap64 (x12_3 - 1)), (by first | rfl | (simp; done) | (simp [*]; done)), (by first | rfl | (simp; done) | (simp [*]; done)), H', ⟨by have := HK1.out; have := HJ20.out; have := HK3.out; omega⟩, ⟨by (with_reducible repeat (first | apply Kd.V_alloc | apply Kd.V_drewN | apply Kd.V_drew)); exact HO_7.out⟩, ⟨by (with_reducible repeat (first | apply Kd.V_alloc | apply Kd.V_drewN | apply Kd.V_drew)); exact HO_9.out⟩, ⟨by (with_reducible repeat (first | apply Kd.V_alloc | apply Kd.V_drewN | apply Kd.V_drew)); exact HO_10.out⟩, ⟨Sq.bl HB⟩⟩
         ·rw [if_neg c30] at H
          have c30b0 : decide (0 ≤ x12_3) = false := decide_eq_false c30
          clear c30
          obtain ⟨y533, hy533⟩ : ∃ y_ : List Int, y_ = (([(wrap64 (48 + x11_3)) % 256] : List Int)) := ⟨_, rfl⟩
          (first | (replace H := Sq.ny hy533 H; (try dsimp -simprocs only at H)) | rw [← hy533] at H | skip)
          have Ny533 := Aside0.mk hy533
          clear hy533
          replace H := Sq.ifs H
          obtain ⟨c35, H⟩ := H
          have c35b0 := eq_true c35
          have c35b1 : decide ((strOfNums y533).size + x8_1.size ≤ 9223372036854775807) = true := decide_eq_true c35
          try have c35b2 : (9223372036854775807 < (strOfNums y533).size + x8_1.size) = False := eq_false (Nat.not_lt.2 c35)
          have H' := Aside0.mk H
          clear H
          go_wp2_with (first | ((with_reducible refine gate_dst (N := 71) rfl ?_); (try (refine gate_guard (by rfl) ?_; dsimp only)); refine Kd.R_lit (Kd.int .u8) _ 5 ?hg (N := 71) ?hd (xs := ([(wrap64 (48 + x11_3)) % 256] : List Int)) (inner := [.int .u8 ((wrap64 (48 + x11_3)) % 256)]) (ok := fun _ => True) (okp := fun _ => True) ?hr ?hp (fun _ hk => hk) trivial (Below.refl _ _) (Nat.le_refl _) (by simp) ?_; (case hd => rfl); (case hg => rfl); (case hr => first | (go_simp; done) | (go_simp; rfl)); (case hp => exact (Reps.one (show Kd.M (Kd.int .u8) _ _ _ ((wrap64 (48 + x11_3)) % 256) [.int .u8 ((wrap64 (48 + x11_3)) % 256)] from rfl) (Reps.none _ _))); intro v534 w36 ho37 hb hg_ hnew_; clear hg_ hnew_; (first | rw [← Ny533.out] at ho37 | (simp only [Int.reduceToNat] at ho37; rw [← Ny533.out] at ho37)); replace HO_7 := Aside0.mk (Kd.V_elder' (Sq.al HO_7) (Kd.R_base ho37) hb); replace HO_9 := Aside0.mk (Kd.V_elder' (Sq.al HO_9) (Kd.R_base ho37) hb); replace HO_10 := Aside0.mk (Kd.V_elder' (Sq.al HO_10) (Kd.R_base ho37) hb); have HO535 := Aside0.mk (Kd.R_lower ho37 (below_size (Sq.bl HB))); replace HB := Sq.bs HB hb; clear hb ho37; have hcv38 := own_string (P := Try.prog) Try.underlying127 Try.underlying5 Try.underlying9 (Kd.own_of_R HO535.out)))
          go_roundg k3
          case measure => have := HK1.out; have := HJ20.out; have := HK3.out; omega
          case rel => exact ⟨(t526), ((strOfNums y533) ++ x8_1), (by first | rfl | (simp; done) | (simp [*]; done)), H', ⟨by have := HK1.out; have := HJ20.out; have := HK3.out; omega⟩, ⟨by (with_reducible repeat (first | apply Kd.V_alloc | apply Kd.V_drewN | apply Kd.V_drew)); exact Kd.V_mono HO_9.out (fun _ hk => trivial)⟩, ⟨by (with_reducible repeat (first | apply Kd.V_alloc | apply Kd.V_drewN | apply Kd.V_drew)); exact Kd.V_mono HO_7.out (fun _ hk => trivial)⟩, ⟨Sq.bl HB⟩⟩
      ·replace c24 := Bool.eq_false_iff.mpr c24
       subst c24
       have H1 : (some x8_1) = some r := by rw [if_neg (show ¬ (false = true) by decide)] at H; exact H
       clear H
       have H := H1
       clear H1
       obtain rfl := Option.some.inj H
       go_wp2
       go_ret
       exact ⟨by first | rfl | (simp [errW_none, errW_some] <;> rfl) | (simp [*, errW_none, errW_some] <;> rfl), Sq.bl HB⟩
end Go.Proofs.Ytjfkhbkddenfoaa.N
