import Derived.Test.YtjfkhbkddenfoaaQmhdjabaigpNx0
import Derived.Test.YtjfkhbkddenfoaaQpfgookmfekNx5
import Derived.Test.YtjfkhbkddenfoaaQcfiefdingdNx6
import Derived.Test.YtjfkhbkddenfoaaQemcbhdnholNx7
import Derived.Test.YtjfkhbkddenfoaaQihkflimlalM
set_option linter.unusedVariables false
set_option linter.unusedSimpArgs false
namespace Go.Proofs.Ytjfkhbkddenfoaa.N
open Go.RowKit Go.Proofs.YtjfkhbkddenfoaaW.PrintWords Go.Proofs.YtjfkhbkddenfoaaW.PrintLast Go.Proofs.YtjfkhbkddenfoaaW.PrintMore
attribute [local go_sem] max2_int min2_int max_two min_two max_three min_three max_four min_four   -- for this text's walks alone
mutual
def foliotref01_Mul.j0 : Nat → List Int → List Int → Int → Int → Bool → Option (List Int)
 | 0, _, _, _, _, _ => none
 | k + 1, x0, x1, x5, x7, x26 => if x26 = true then ((foliotref01_limbs.f k (IntKind.u64.wrap (x5 * x7))).bind fun t413 => (some t413)) else ((foliotref01_Of.f k x0).bind fun t416 => ((foliotref01_Of.f k x1).bind fun t419 => (foliotref01_Mul.l0 k t416 t419 ([] : List Bool) (wrap64 ((t419.length : Int) - 1)))))
def foliotref01_Mul.l0 : Nat → List Bool → List Bool → List Bool → Int → Option (List Int)
 | 0, _, _, _, _ => none
 | k + 1, x9, x10, x11, x12 => if x12 ≥ 0 then ((some (([false] : List Bool) : List Bool)).bind fun y422 => (if y422.length + x11.length < 140737488355328 then ((some (y422 ++ x11 : List Bool)).bind fun y425 => (if 0 ≤ x12 then (if x12 < (x10.length : Int) then (if rdOf false x10 x12 = true then ((foliotref01_add.f k y425 x9).bind fun t429 => (foliotref01_Mul.l0 k x9 x10 t429 (wrap64 (x12 - 1)))) else (foliotref01_Mul.l0 k x9 x10 y425 (wrap64 (x12 - 1)))) else (none)) else (none))) else (none))) else ((foliotref01_Limbs.f k x11).bind fun t432 => (some t432))
end
def foliotref01_Mul.f (k : Nat) (l0 : List Int) (l1 : List Int) : Option (List Int) := (foliotref01_short.f l0).bind fun bt409 => ((foliotref01_short.f l1).bind fun bt411 => (if bt409.2 = true then (foliotref01_Mul.j0 k l0 l1 bt409.1 bt411.1 bt411.2) else (foliotref01_Mul.j0 k l0 l1 bt409.1 bt411.1 false)))
set_option maxHeartbeats 8000000 in
set_option maxRecDepth 100000 in
theorem foliotref01_Mul.calls (k : Nat) (A0 : Option Addr) (c0 : Nat) (l0 : List Int) (A1 : Option Addr) (c1 : Nat) (l1 : List Int) (r : List Int) (w : World) (hr0 : Kd.C (Kd.int .u32) w A0 l0.length l0) (hc0 : l0.length ≤ c0) (hr1 : Kd.C (Kd.int .u32) w A1 l1.length l1) (hc1 : l1.length ≤ c1) (h : foliotref01_Mul.f k l0 l1 = some r) :
  Calls Try.prog 54 #[.slice A0 l0.length c0, .slice A1 l1.length c1] w fun e w' => ∃ v0_ : Value, e = .returned (v0_) ∧ Kd.R (Kd.int .u32) 87 w' w.heap.size (fun _ => True) v0_ r ∧ Below w.heap.size w w' := by
 have HR0 := Aside0.mk hr0
 have HC0 := Aside0.mk hc0
 clear hr0 hc0
 have HR1 := Aside0.mk hr1
 have HC1 := Aside0.mk hc1
 clear hr1 hc1
 have HB := Aside0.mk (Below.refl w.heap.size w)
 have H : ((foliotref01_short.f l0).bind fun bt409 => ((foliotref01_short.f l1).bind fun bt411 => (if bt409.2 = true then (foliotref01_Mul.j0 k l0 l1 bt409.1 bt411.1 bt411.2) else (foliotref01_Mul.j0 k l0 l1 bt409.1 bt411.1 false)))) = some r := h
 clear h
 replace H := Sq.bd H
 obtain ⟨⟨t409, t410⟩, A3, H⟩ := H
 (try dsimp -simprocs only at H)
 replace H := Sq.bd H
 obtain ⟨⟨t411, t412⟩, A4, H⟩ := H
 (try dsimp -simprocs only at H)
 have HC5 := Aside0.mk H
 clear H
 go_enter Try.func54, Try.ntmps54
 go_upto_region 3 with (first | ((with_reducible refine gate_callee (f := 84) rfl ?_); refine Sq.gl (some 15) Try.func84 #[.slice A0 l0.length c0] ?_; (with_reducible refine (foliotref01_short.calls _ _ l0 t409 t410 _ ?side1 ?side2 A3.out).mono ?_); (case side1 => repeat (first | exact HR0.out | (with_reducible refine Kd.C_alloc ?_ _) | (with_reducible refine Kd.C_drewN ?_ _) | (with_reducible refine Kd.C_drew ?_))); (case side2 => exact HC0.out); rintro e w' ⟨rfl, ⟨nd, rfl⟩⟩; refine ⟨_, rfl, ?_⟩) | ((with_reducible refine gate_callee (f := 84) rfl ?_); refine Sq.gl (some 20) Try.func84 #[.slice A1 l1.length c1] ?_; (with_reducible refine (foliotref01_short.calls _ _ l1 t411 t412 _ ?side1 ?side2 A4.out).mono ?_); (case side1 => repeat (first | exact HR1.out | (with_reducible refine Kd.C_alloc ?_ _) | (with_reducible refine Kd.C_drewN ?_ _) | (with_reducible refine Kd.C_drew ?_))); (case side2 => exact HC1.out); rintro e w' ⟨rfl, ⟨nd, rfl⟩⟩; refine ⟨_, rfl, ?_⟩))
 (try simp only [Act.put, List.setIfInBounds_toArray, List.set_cons_zero, List.set_cons_succ])
 go_cut [26] (fun v26 wc => ∃ (kq : Nat) (x26_4 : Bool), v26 = .bool x26_4 ∧ Aside0 (foliotref01_Mul.j0 kq l0 l1 t409 t411 x26_4 = some r) ∧ Aside0 (kq ≤ k) ∧ Aside0 (Below w.heap.size w wc))
 case first =>
  have H := HC5.out
  clear HC5
  by_cases c6 : t410 = true
  ·subst c6
   have H1 : (foliotref01_Mul.j0 k l0 l1 t409 t411 t412) = some r := by rw [if_pos rfl] at H; exact H
   clear H
   have H := H1
   clear H1
   have H' := Aside0.mk H
   clear H
   go_wp2
   go_meet
   case rel => exact ⟨_, (t412), (by first | rfl | (simp; done) | (simp [*]; done)), H', ⟨by first | omega | exact Nat.le_refl _⟩, ⟨Sq.bl HB⟩⟩
  ·replace c6 := Bool.eq_false_iff.mpr c6
   subst c6
   have H1 : (foliotref01_Mul.j0 k l0 l1 t409 t411 false) = some r := by rw [if_neg (show ¬ (false = true) by decide)] at H; exact H
   clear H
   have H := H1
   clear H1
   have H' := Aside0.mk H
   clear H
   go_wp2
   go_meet
   case rel => exact ⟨_, (false), (by first | rfl | (simp; done) | (simp [*]; done)), H', ⟨by first | omega | exact Nat.le_refl _⟩, ⟨Sq.bl HB⟩⟩
 case rest =>
  clear HC5
  try clear c1
  try clear p2
  try clear c5
  try clear c6
  obtain ⟨kq, x26_4, rfl, HA, HJ4, HB⟩ := hcut
  cases kq with
  | zero => exact absurd HA.out (by simp [foliotref01_Mul.j0])
  | succ kj4 =>
   have H := HA.out
   clear HA
   simp only [foliotref01_Mul.j0] at H
   by_cases c7 : x26_4 = true
   ·subst c7
    have H1 : ((foliotref01_limbs.f kj4 (IntKind.u64.wrap (t409 * t411))).bind fun t413 => (some t413)) = some r := by rw [if_pos rfl] at H; exact H
    clear H
    have H := H1
    clear H1
    replace H := Sq.bd H
    obtain ⟨t413, A8, H⟩ := H
    (try dsimp -simprocs only at H)
    obtain rfl := Option.some.inj H
    go_wp2_with (first | ((with_reducible refine gate_callee (f := 85) rfl ?_); refine Sq.gl (some 30) Try.func85 #[.int .u64 (IntKind.u64.wrap (t409 * t411))] ?_; (with_reducible refine (foliotref01_limbs.calls kj4 (IntKind.u64.wrap (t409 * t411)) t413 _ A8.out).mono ?_); rintro e w9 ⟨v414, rfl, ho0, hb⟩; refine ⟨_, rfl, ?_⟩; have HO415 := Aside0.mk (Kd.R_lower ho0 (below_size (Sq.bl HB))); replace HB := Sq.bs HB hb; (try clear hb); (try clear hb2); (try clear hk); (try clear hi); (try clear ho0)))
    go_ret
    exact ⟨_, by first | rfl | (simp [errW_none, errW_some] <;> rfl) | (simp [*, errW_none, errW_some] <;> rfl), by (with_reducible repeat (first | apply Kd.R_alloc | apply Kd.R_drewN | apply Kd.R_drew)); exact HO415.out, Sq.bl HB⟩
   ·replace c7 := Bool.eq_false_iff.mpr c7
    subst c7
    have H1 : ((foliotref01_Of.f kj4 l0).bind fun t416 => ((foliotref01_Of.f kj4 l1).bind fun t419 => (foliotref01_Mul.l0 kj4 t416 t419 ([] : List Bool) (wrap64 ((t419.length : Int) - 1))))) = some r := by rw [if_neg (show ¬ (false = true) by decide)] at H; exact H
    clear H
    have H := H1
    clear H1
    replace H := Sq.bd H
    obtain ⟨t416, A10, H⟩ := H
    (try dsimp -simprocs only at H)
    replace H := Sq.bd H
    obtain ⟨t419, A11, H⟩ := H
    (try dsimp -simprocs only at H)
    have H' := Aside0.mk H
    clear H
    go_wp2_with (first | ((with_reducible refine gate_callee (f := 86) rfl ?_); refine Sq.gl (some 32) Try.func86 #[.slice A0 l0.length c0] ?_; (with_reducible refine (foliotref01_Of.calls kj4 _ _ l0 t416 _ ?side1 ?side2 A10.out).mono ?_); (case side1 => exact Sq.ca (Kd.C_below HR0.out HB.out)); (case side2 => exact HC0.out); rintro e w12 ⟨v417, rfl, ho0, hb⟩; refine ⟨_, rfl, ?_⟩; have HO418 := Aside0.mk (Kd.V_lower (Kd.V_mono (ok' := fun k_ => True) ho0 (fun k_ hk_ => trivial)) (below_size (Sq.bl HB))); replace HB := Sq.bs HB hb; (try clear hb); (try clear hb2); (try clear hk); (try clear hi); (try clear ho0)) | ((with_reducible refine gate_callee (f := 86) rfl ?_); refine Sq.gl (some 34) Try.func86 #[.slice A1 l1.length c1] ?_; (with_reducible refine (foliotref01_Of.calls kj4 _ _ l1 t419 _ ?side1 ?side2 A11.out).mono ?_); (case side1 => exact Sq.ca (Kd.C_below HR1.out HB.out)); (case side2 => exact HC1.out); rintro e w13 ⟨v420, rfl, ho0, hb⟩; refine ⟨_, rfl, ?_⟩; replace HO418 := Aside0.mk (Kd.V_below (Sq.al HO418) hb); have HO421 := Aside0.mk (Kd.V_lower (Kd.V_mono (ok' := fun k_ => True) ho0 (fun k_ hk_ => trivial)) (below_size (Sq.bl HB))); replace HB := Sq.bs HB hb; (try clear hb); (try clear hb2); (try clear hk); (try clear hi); (try clear ho0); obtain ⟨Ao14, co14, eo14⟩ := Kd.V_slice HO421.out; subst eo14))
    go_loopg [11, 12] kj4 (fun kq v11 v12 w' => ∃ (x11_2 : List Bool) (x12_2 : Int), v12 = .int .i64 x12_2 ∧ Aside0 (foliotref01_Mul.l0 kq t416 t419 x11_2 x12_2 = some r) ∧ Aside0 (kq ≤ kj4) ∧ Aside0 (Kd.V Kd.bool 4 w' w.heap.size (fun _ => True) v417 t416) ∧ Aside0 (Kd.V Kd.bool 4 w' w.heap.size (fun _ => True) (.slice Ao14 t419.length co14) t419) ∧ Aside0 (Kd.V Kd.bool 4 w' w.heap.size (fun _ => True) v11 x11_2) ∧ Aside0 (Below w.heap.size w w'))
    case atStart => exact ⟨(([] : List Bool)), (wrap64 ((t419.length : Int) - 1)), (by first | rfl | (simp; done) | (simp [*]; done)), H', ⟨Nat.le_refl _⟩, ⟨by (with_reducible repeat (first | apply Kd.V_alloc | apply Kd.V_drewN | apply Kd.V_drew)); exact HO418.out⟩, ⟨by (with_reducible repeat (first | apply Kd.V_alloc | apply Kd.V_drewN | apply Kd.V_drew)); exact HO421.out⟩, ⟨(by exact Kd.V_nil _ _ _ _ _)⟩, ⟨Sq.bl HB⟩⟩
    case round =>
     clear H'
     try clear c1
     try clear p2
     try clear c5
     try clear c6
     try clear p6
     try clear c7
     try clear c8
     try clear p2
     obtain ⟨x11_2, x12_2, rfl, HA, HK2, HO_9, HO_10, HO_11, HB⟩ := hrel
     cases gk with
     | zero => exact absurd HA.out (by simp [foliotref01_Mul.l0])
     | succ k2 =>
      have H := HA.out
      clear HA
      simp only [foliotref01_Mul.l0] at H
      by_cases c15 : x12_2 ≥ 0
      ·rw [if_pos c15] at H
       have c15b0 : decide (0 ≤ x12_2) = true := decide_eq_true c15
       clear c15
       obtain ⟨y422, hy422⟩ : ∃ y_ : List Bool, y_ = (([false] : List Bool)) := ⟨_, rfl⟩
       (first | (replace H := Sq.ny hy422 H; (try dsimp -simprocs only at H)) | rw [← hy422] at H | skip)
       have Ny422 := Aside0.mk hy422
       clear hy422
       replace H := Sq.ifs H
       obtain ⟨c16, H⟩ := H
       have LMc16 := Aside0.mk c16
       clear c16
       obtain ⟨y425, hy425⟩ : ∃ y_ : List Bool, y_ = (y422 ++ x11_2) := ⟨_, rfl⟩
       (first | (replace H := Sq.ny hy425 H; (try dsimp -simprocs only at H)) | rw [← hy425] at H | skip)
       have Ny425 := Aside0.mk hy425
       clear hy425
       replace H := Sq.ifs H
       obtain ⟨c17, H⟩ := H
       have c17b0 : decide (0 ≤ x12_2) = true := decide_eq_true c17
       clear c17
       replace H := Sq.ifs H
       obtain ⟨c18, H⟩ := H
       have c18b0 : decide (x12_2 < (t419.length : Int)) = true := decide_eq_true c18
       clear c18
       obtain ⟨bq19, hbq19⟩ : ∃ b_ : Bool, b_ = (rdOf false t419 x12_2) := ⟨_, rfl⟩
       replace H : (if bq19 = true then ((foliotref01_add.f k2 y425 t416).bind fun t429 => (foliotref01_Mul.l0 k2 t416 t419 t429 (wrap64 (x12_2 - 1)))) else (foliotref01_Mul.l0 k2 t416 t419 y425 (wrap64 (x12_2 - 1)))) = some r := by rw [← hbq19] at H; exact H
       have Nbq19 := Aside0.mk hbq19
       clear hbq19
       by_cases c20 : bq19 = true
       ·subst c20
        have H1 : ((foliotref01_add.f k2 y425 t416).bind fun t429 => (foliotref01_Mul.l0 k2 t416 t419 t429 (wrap64 (x12_2 - 1)))) = some r := by rw [if_pos rfl] at H; exact H
        clear H
        have H := H1
        clear H1
        replace H := Sq.bd H
        obtain ⟨t429, A21, H⟩ := H
        (try dsimp -simprocs only at H)
        have H' := Aside0.mk H
        clear H
        go_wp2_with (first | ((with_reducible refine gate_dst (N := 42) rfl ?_); refine Kd.R_lit Kd.bool _ 4 ?hg (N := 42) ?hd (xs := ([false] : List Bool)) (inner := [.bool false]) (ok := fun _ => True) (okp := fun _ => True) ?hr ?hp (fun _ hk => hk) trivial (Below.refl _ _) (Nat.le_refl _) (by simp) ?_; (case hd => rfl); (case hg => rfl); (case hr => first | (go_simp; done) | (go_simp; rfl)); (case hp => exact (Reps.one (show Kd.M Kd.bool _ _ _ false [.bool false] from rfl) (Reps.none _ _))); intro v423 w22 ho23 hb hg_ hnew_; clear hg_ hnew_; (first | rw [← Ny422.out] at ho23 | (simp only [Int.reduceToNat] at ho23; rw [← Ny422.out] at ho23)); replace HO_9 := Aside0.mk (Kd.V_elder' (Sq.al HO_9) (Kd.R_base ho23) hb); replace HO_10 := Aside0.mk (Kd.V_elder' (Sq.al HO_10) (Kd.R_base ho23) hb); replace HO_11 := Aside0.mk (Kd.V_elder' (Sq.al HO_11) (Kd.R_base ho23) hb); have HO424 := Aside0.mk (Kd.R_lower ho23 (below_size (Sq.bl HB))); replace HB := Sq.bs HB hb; clear hb ho23; obtain ⟨Ao25, co25, eo25⟩ := Kd.V_slice HO_11.out; subst eo25) | ((with_reducible refine gate_builtin (b := .append) (xs := #[.tmp 42, .tmp 43]) rfl ?_); at_builtin; refine Kd.R_append_rows Kd.bool (w0 := w) w.heap.size rfl (.tmp 42) (.tmp 43) 32 4 (.bool false) 1 rfl Try.underlying32 info4 rfl (by decide) (by omega) v423 y422 x11_2 _ _ _ (fun _ => True) (fun _ => False) rfl rfl ?aO ?aR (fun _ _ h => h) (fun _ h => h.elim) ?aF ?aB ?aS ?aL ?_; (case aR => exact Sq.ca (Kd.V_reads' HO_11.out).2.2); (case aB => exact (Sq.bl HB)); (case aF => exact (fun _ _ => trivial)); (case aO => exact (Sq.al HO424)); (case aS => exact (below_size (Sq.bl HB))); (case aL => have := LMc16.out; omega); intro v426 w24 ho hb hg hat; rw [← Ny425.out] at ho; replace HO_9 := Aside0.mk (Kd.V_afterv (ok := (fun _ => True)) (Sq.al HO_9) hg hat); replace HO_10 := Aside0.mk (Kd.V_afterv (ok := (fun _ => True)) (Sq.al HO_10) hg hat); replace HO_11 := Aside0.mk (Kd.V_afterv (ok := (fun _ => True)) (Sq.al HO_11) hg hat); replace HB := Aside0.mk (hb); have HO427 := Aside0.mk (ho); clear HO424; clear ho hb hg hat; have p428 : 0 ≤ (x12_2 : Int) := of_decide_eq_true (by first | (with_reducible assumption) | assumption); have q428 : x12_2 < (t419.length : Int) := of_decide_eq_true (by first | (with_reducible assumption) | assumption); obtain ⟨ad428, e428, hx428_0⟩ := Kd.at_bool (Kd.V_reads' HO_10.out).2.2 x12_2 p428 q428; (try rw [← Nbq19.out] at hx428_0); cases e428; replace p428 := eq_true p428; replace q428 := eq_true q428; obtain ⟨Ao26, co26, eo26⟩ := Kd.R_slice HO427.out; subst eo26; obtain ⟨Ao27, co27, eo27⟩ := Kd.V_slice HO_9.out; subst eo27) | ((with_reducible refine gate_callee (f := 87) rfl ?_); refine Sq.gl (some 51) Try.func87 #[.slice Ao26 y425.length co26, .slice Ao27 t416.length co27] ?_; (with_reducible refine (foliotref01_add.calls k2 _ _ y425 _ _ t416 t429 _ ?side1 ?side2 ?side3 ?side4 A21.out).mono ?_); (case side1 => exact Sq.ca (Kd.R_reads' HO427.out).2.2); (case side2 => exact (Kd.R_reads' HO427.out).2.1); (case side3 => exact Sq.ca (Kd.V_reads' HO_9.out).2.2); (case side4 => exact (Kd.V_reads' HO_9.out).2.1); rintro e w28 ⟨v430, rfl, ho0, hb⟩; refine ⟨_, rfl, ?_⟩; replace HO_9 := Aside0.mk (Kd.V_below (Sq.al HO_9) hb); replace HO_10 := Aside0.mk (Kd.V_below (Sq.al HO_10) hb); replace HO_11 := Aside0.mk (Kd.V_below (Sq.al HO_11) hb); have HO431 := Aside0.mk (Kd.V_lower (Kd.V_mono (ok' := fun k_ => some k_ ≠ (.slice Ao26 y425.length co26 : Value).ownBlock) ho0 (fun k_ hk_ => (Kd.fresh' (Kd.R_lt (Sq.al HO427)) k_ hk_))) (below_size (Sq.bl HB))); replace HO427 := Aside0.mk (Kd.R_below (Sq.al HO427) hb); replace HB := Sq.bs HB hb; (try clear hb); (try clear hb2); (try clear hk); (try clear hi); (try clear ho0)))
        go_roundg k2
        case measure => have := HJ4.out; have := HK2.out; omega
        case rel => exact ⟨(t429), (wrap64 (x12_2 - 1)), (by first | rfl | (simp; done) | (simp [*]; done)), H', ⟨by have := HJ4.out; have := HK2.out; omega⟩, ⟨by (with_reducible repeat (first | apply Kd.V_alloc | apply Kd.V_drewN | apply Kd.V_drew)); exact Kd.V_mono HO_9.out (fun _ hk => trivial)⟩, ⟨by (with_reducible repeat (first | apply Kd.V_alloc | apply Kd.V_drewN | apply Kd.V_drew)); exact Kd.V_mono HO_10.out (fun _ hk => trivial)⟩, ⟨by (with_reducible repeat (first | apply Kd.V_alloc | apply Kd.V_drewN | apply Kd.V_drew)); exact Kd.V_mono HO431.out (fun _ hk => trivial)⟩, ⟨Sq.bl HB⟩⟩
       ·replace c20 := Bool.eq_false_iff.mpr c20
        subst c20
        have H1 : (foliotref01_Mul.l0 k2 t416 t419 y425 (wrap64 (x12_2 - 1))) = some r := by rw [if_neg (show ¬ (false = true) by decide)] at H; exact H
        clear H
        have H := H1
        clear H1
        have H' := Aside0.mk H
        clear H
        go_wp2_with (first | ((with_reducible refine gate_dst (N := 42) rfl ?_); refine Kd.R_lit Kd.bool _ 4 ?hg (N := 42) ?hd (xs := ([false] : List Bool)) (inner := [.bool false]) (ok := fun _ => True) (okp := fun _ => True) ?hr ?hp (fun _ hk => hk) trivial (Below.refl _ _) (Nat.le_refl _) (by simp) ?_; (case hd => rfl); (case hg => rfl); (case hr => first | (go_simp; done) | (go_simp; rfl)); (case hp => exact (Reps.one (show Kd.M Kd.bool _ _ _ false [.bool false] from rfl) (Reps.none _ _))); intro v423 w29 ho30 hb hg_ hnew_; clear hg_ hnew_; (first | rw [← Ny422.out] at ho30 | (simp only [Int.reduceToNat] at ho30; rw [← Ny422.out] at ho30)); replace HO_9 := Aside0.mk (Kd.V_elder' (Sq.al HO_9) (Kd.R_base ho30) hb); replace HO_10 := Aside0.mk (Kd.V_elder' (Sq.al HO_10) (Kd.R_base ho30) hb); replace HO_11 := Aside0.mk (Kd.V_elder' (Sq.al HO_11) (Kd.R_base ho30) hb); have HO424 := Aside0.mk (Kd.R_lower ho30 (below_size (Sq.bl HB))); replace HB := Sq.bs HB hb; clear hb ho30; obtain ⟨Ao32, co32, eo32⟩ := Kd.V_slice HO_11.out; subst eo32) | ((with_reducible refine gate_builtin (b := .append) (xs := #[.tmp 42, .tmp 43]) rfl ?_); at_builtin; refine Kd.R_append_rows Kd.bool (w0 := w) w.heap.size rfl (.tmp 42) (.tmp 43) 32 4 (.bool false) 1 rfl Try.underlying32 info4 rfl (by decide) (by omega) v423 y422 x11_2 _ _ _ (fun _ => True) (fun _ => False) rfl rfl ?aO ?aR (fun _ _ h => h) (fun _ h => h.elim) ?aF ?aB ?aS ?aL ?_; (case aR => exact Sq.ca (Kd.V_reads' HO_11.out).2.2); (case aB => exact (Sq.bl HB)); (case aF => exact (fun _ _ => trivial)); (case aO => exact (Sq.al HO424)); (case aS => exact (below_size (Sq.bl HB))); (case aL => have := LMc16.out; omega); intro v426 w31 ho hb hg hat; rw [← Ny425.out] at ho; replace HO_9 := Aside0.mk (Kd.V_afterv (ok := (fun _ => True)) (Sq.al HO_9) hg hat); replace HO_10 := Aside0.mk (Kd.V_afterv (ok := (fun _ => True)) (Sq.al HO_10) hg hat); replace HO_11 := Aside0.mk (Kd.V_afterv (ok := (fun _ => True)) (Sq.al HO_11) hg hat); replace HB := Aside0.mk (hb); have HO427 := Aside0.mk (ho); clear HO424; clear ho hb hg hat; have p428 : 0 ≤ (x12_2 : Int) := of_decide_eq_true (by first | (with_reducible assumption) | assumption); have q428 : x12_2 < (t419.length : Int) := of_decide_eq_true (by first | (with_reducible assumption) | assumption); obtain ⟨ad428, e428, hx428_0⟩ := Kd.at_bool (Kd.V_reads' HO_10.out).2.2 x12_2 p428 q428; (try rw [← Nbq19.out] at hx428_0); cases e428; replace p428 := eq_true p428; replace q428 := eq_true q428))
        go_roundg k2
        case measure => have := HJ4.out; have := HK2.out; omega
        case rel => exact ⟨(y425), (wrap64 (x12_2 - 1)), (by first | rfl | (simp; done) | (simp [*]; done)), H', ⟨by have := HJ4.out; have := HK2.out; omega⟩, ⟨by (with_reducible repeat (first | apply Kd.V_alloc | apply Kd.V_drewN | apply Kd.V_drew)); exact Kd.V_mono HO_9.out (fun _ hk => trivial)⟩, ⟨by (with_reducible repeat (first | apply Kd.V_alloc | apply Kd.V_drewN | apply Kd.V_drew)); exact Kd.V_mono HO_10.out (fun _ hk => trivial)⟩, ⟨Kd.R_V (Sq.al HO427)⟩, ⟨Sq.bl HB⟩⟩
      ·rw [if_neg c15] at H
       have c15b0 : decide (0 ≤ x12_2) = false := decide_eq_false c15
       clear c15
       replace H := Sq.bd H
       obtain ⟨t432, A33, H⟩ := H
       (try dsimp -simprocs only at H)
       obtain rfl := Option.some.inj H
       obtain ⟨Ao34, co34, eo34⟩ := Kd.V_slice HO_11.out
       subst eo34
       go_wp2_with (first | ((with_reducible refine gate_callee (f := 88) rfl ?_); refine Sq.gl (some 53) Try.func88 #[.slice Ao34 x11_2.length co34] ?_; (with_reducible refine (foliotref01_Limbs.calls k2 _ _ x11_2 t432 _ ?side1 ?side2 A33.out).mono ?_); (case side1 => exact Sq.ca (Kd.V_reads' HO_11.out).2.2); (case side2 => exact (Kd.V_reads' HO_11.out).2.1); rintro e w35 ⟨v433, rfl, ho0, hb⟩; refine ⟨_, rfl, ?_⟩; replace HO_9 := Aside0.mk (Kd.V_elder' (Sq.al HO_9) (Kd.R_base ho0) hb); replace HO_10 := Aside0.mk (Kd.V_elder' (Sq.al HO_10) (Kd.R_base ho0) hb); replace HO_11 := Aside0.mk (Kd.V_elder' (Sq.al HO_11) (Kd.R_base ho0) hb); have HO434 := Aside0.mk (Kd.R_lower ho0 (below_size (Sq.bl HB))); replace HB := Sq.bs HB hb; (try clear hb); (try clear hb2); (try clear hk); (try clear hi); (try clear ho0)))
       go_ret
       exact ⟨_, by first | rfl | (simp [errW_none, errW_some] <;> rfl) | (simp [*, errW_none, errW_some] <;> rfl), by (with_reducible repeat (first | apply Kd.R_alloc | apply Kd.R_drewN | apply Kd.R_drew)); exact HO434.out, Sq.bl HB⟩
def foliotref01_Add.j0 : Nat → List Int → List Int → Int → Int → Bool → Option (List Int)
 | 0, _, _, _, _, _ => none
 | k + 1, x0, x1, x5, x7, x22 => if x22 = true then ((foliotref01_limbs.f k (IntKind.u64.wrap (x5 + x7))).bind fun t439 => (some t439)) else ((foliotref01_Of.f k x0).bind fun t442 => ((foliotref01_Of.f k x1).bind fun t445 => ((foliotref01_add.f k t442 t445).bind fun t448 => ((foliotref01_Limbs.f k t448).bind fun t451 => (some t451)))))
def foliotref01_Add.f (k : Nat) (l0 : List Int) (l1 : List Int) : Option (List Int) := (foliotref01_short.f l0).bind fun bt435 => ((foliotref01_short.f l1).bind fun bt437 => (if bt435.2 = true then (foliotref01_Add.j0 k l0 l1 bt435.1 bt437.1 bt437.2) else (foliotref01_Add.j0 k l0 l1 bt435.1 bt437.1 false)))
set_option maxHeartbeats 8000000 in
set_option maxRecDepth 100000 in
theorem foliotref01_Add.calls (k : Nat) (A0 : Option Addr) (c0 : Nat) (l0 : List Int) (A1 : Option Addr) (c1 : Nat) (l1 : List Int) (r : List Int) (w : World) (hr0 : Kd.C (Kd.int .u32) w A0 l0.length l0) (hc0 : l0.length ≤ c0) (hr1 : Kd.C (Kd.int .u32) w A1 l1.length l1) (hc1 : l1.length ≤ c1) (h : foliotref01_Add.f k l0 l1 = some r) :
  Calls Try.prog 81 #[.slice A0 l0.length c0, .slice A1 l1.length c1] w fun e w' => ∃ v0_ : Value, e = .returned (v0_) ∧ Kd.R (Kd.int .u32) 87 w' w.heap.size (fun _ => True) v0_ r ∧ Below w.heap.size w w' := by
 have HR0 := Aside0.mk hr0
 have HC0 := Aside0.mk hc0
 clear hr0 hc0
 have HR1 := Aside0.mk hr1
 have HC1 := Aside0.mk hc1
 clear hr1 hc1
 have HB := Aside0.mk (Below.refl w.heap.size w)
 have H : ((foliotref01_short.f l0).bind fun bt435 => ((foliotref01_short.f l1).bind fun bt437 => (if bt435.2 = true then (foliotref01_Add.j0 k l0 l1 bt435.1 bt437.1 bt437.2) else (foliotref01_Add.j0 k l0 l1 bt435.1 bt437.1 false)))) = some r := h
 clear h
 replace H := Sq.bd H
 obtain ⟨⟨t435, t436⟩, A3, H⟩ := H
 (try dsimp -simprocs only at H)
 replace H := Sq.bd H
 obtain ⟨⟨t437, t438⟩, A4, H⟩ := H
 (try dsimp -simprocs only at H)
 have HC5 := Aside0.mk H
 clear H
 go_enter Try.func81, Try.ntmps81
 go_upto_region 3 with (first | ((with_reducible refine gate_callee (f := 84) rfl ?_); refine Sq.gl (some 11) Try.func84 #[.slice A0 l0.length c0] ?_; (with_reducible refine (foliotref01_short.calls _ _ l0 t435 t436 _ ?side1 ?side2 A3.out).mono ?_); (case side1 => repeat (first | exact HR0.out | (with_reducible refine Kd.C_alloc ?_ _) | (with_reducible refine Kd.C_drewN ?_ _) | (with_reducible refine Kd.C_drew ?_))); (case side2 => exact HC0.out); rintro e w' ⟨rfl, ⟨nd, rfl⟩⟩; refine ⟨_, rfl, ?_⟩) | ((with_reducible refine gate_callee (f := 84) rfl ?_); refine Sq.gl (some 16) Try.func84 #[.slice A1 l1.length c1] ?_; (with_reducible refine (foliotref01_short.calls _ _ l1 t437 t438 _ ?side1 ?side2 A4.out).mono ?_); (case side1 => repeat (first | exact HR1.out | (with_reducible refine Kd.C_alloc ?_ _) | (with_reducible refine Kd.C_drewN ?_ _) | (with_reducible refine Kd.C_drew ?_))); (case side2 => exact HC1.out); rintro e w' ⟨rfl, ⟨nd, rfl⟩⟩; refine ⟨_, rfl, ?_⟩))
 (try simp only [Act.put, List.setIfInBounds_toArray, List.set_cons_zero, List.set_cons_succ])
 go_cut [22] (fun v22 wc => ∃ (kq : Nat) (x22_4 : Bool), v22 = .bool x22_4 ∧ Aside0 (foliotref01_Add.j0 kq l0 l1 t435 t437 x22_4 = some r) ∧ Aside0 (kq ≤ k) ∧ Aside0 (Below w.heap.size w wc))
 case first =>
  have H := HC5.out
  clear HC5
  by_cases c6 : t436 = true
  ·subst c6
   have H1 : (foliotref01_Add.j0 k l0 l1 t435 t437 t438) = some r := by rw [if_pos rfl] at H; exact H
   clear H
   have H := H1
   clear H1
   have H' := Aside0.mk H
   clear H
   go_wp2
   go_meet
   case rel => exact ⟨_, (t438), (by first | rfl | (simp; done) | (simp [*]; done)), H', ⟨by first | omega | exact Nat.le_refl _⟩, ⟨Sq.bl HB⟩⟩
  ·replace c6 := Bool.eq_false_iff.mpr c6
   subst c6
   have H1 : (foliotref01_Add.j0 k l0 l1 t435 t437 false) = some r := by rw [if_neg (show ¬ (false = true) by decide)] at H; exact H
   clear H
   have H := H1
   clear H1
   have H' := Aside0.mk H
   clear H
   go_wp2
   go_meet
   case rel => exact ⟨_, (false), (by first | rfl | (simp; done) | (simp [*]; done)), H', ⟨by first | omega | exact Nat.le_refl _⟩, ⟨Sq.bl HB⟩⟩
 case rest =>
  clear HC5
  try clear c1
  try clear p2
  try clear c6
  obtain ⟨kq, x22_4, rfl, HA, HJ4, HB⟩ := hcut
  cases kq with
  | zero => exact absurd HA.out (by simp [foliotref01_Add.j0])
  | succ kj4 =>
   have H := HA.out
   clear HA
   simp only [foliotref01_Add.j0] at H
   by_cases c7 : x22_4 = true
   ·subst c7
    have H1 : ((foliotref01_limbs.f kj4 (IntKind.u64.wrap (t435 + t437))).bind fun t439 => (some t439)) = some r := by rw [if_pos rfl] at H; exact H
    clear H
    have H := H1
    clear H1
    replace H := Sq.bd H
    obtain ⟨t439, A8, H⟩ := H
    (try dsimp -simprocs only at H)
    obtain rfl := Option.some.inj H
    go_wp2_with (first | ((with_reducible refine gate_callee (f := 85) rfl ?_); refine Sq.gl (some 26) Try.func85 #[.int .u64 (IntKind.u64.wrap (t435 + t437))] ?_; (with_reducible refine (foliotref01_limbs.calls kj4 (IntKind.u64.wrap (t435 + t437)) t439 _ A8.out).mono ?_); rintro e w9 ⟨v440, rfl, ho0, hb⟩; refine ⟨_, rfl, ?_⟩; have HO441 := Aside0.mk (Kd.R_lower ho0 (below_size (Sq.bl HB))); replace HB := Sq.bs HB hb; (try clear hb); (try clear hb2); (try clear hk); (try clear hi); (try clear ho0)))
    go_ret
    exact ⟨_, by first | rfl | (simp [errW_none, errW_some] <;> rfl) | (simp [*, errW_none, errW_some] <;> rfl), by (with_reducible repeat (first | apply Kd.R_alloc | apply Kd.R_drewN | apply Kd.R_drew)); exact HO441.out, Sq.bl HB⟩
   ·replace c7 := Bool.eq_false_iff.mpr c7
    subst c7
    have H1 : ((foliotref01_Of.f kj4 l0).bind fun t442 => ((foliotref01_Of.f kj4 l1).bind fun t445 => ((foliotref01_add.f kj4 t442 t445).bind fun t448 => ((foliotref01_Limbs.f kj4 t448).bind fun t451 => (some t451))))) = some r := by rw [if_neg (show ¬ (false = true) by decide)] at H; exact H
    clear H
    have H := H1
    clear H1
    replace H := Sq.bd H
    obtain ⟨t442, A10, H⟩ := H
    (try dsimp -simprocs only at H)
    replace H := Sq.bd H
    obtain ⟨t445, A11, H⟩ := H
    (try dsimp -simprocs only at H)
    replace H := Sq.bd H
    obtain ⟨t448, A12, H⟩ := H
    (try dsimp -simprocs only at H)
    replace H := Sq.bd H
    obtain ⟨t451, A13, H⟩ := H
    (try dsimp -simprocs only at H)
    obtain rfl := Option.some.inj H
    go_wp2_with (first | ((with_reducible refine gate_callee (f := 86) rfl ?_); refine Sq.gl (some 28) Try.func86 #[.slice A0 l0.length c0] ?_; (with_reducible refine (foliotref01_Of.calls kj4 _ _ l0 t442 _ ?side1 ?side2 A10.out).mono ?_); (case side1 => exact Sq.ca (Kd.C_below HR0.out HB.out)); (case side2 => exact HC0.out); rintro e w14 ⟨v443, rfl, ho0, hb⟩; refine ⟨_, rfl, ?_⟩; have HO444 := Aside0.mk (Kd.V_lower (Kd.V_mono (ok' := fun k_ => True) ho0 (fun k_ hk_ => trivial)) (below_size (Sq.bl HB))); replace HB := Sq.bs HB hb; (try clear hb); (try clear hb2); (try clear hk); (try clear hi); (try clear ho0)) | ((with_reducible refine gate_callee (f := 86) rfl ?_); refine Sq.gl (some 30) Try.func86 #[.slice A1 l1.length c1] ?_; (with_reducible refine (foliotref01_Of.calls kj4 _ _ l1 t445 _ ?side1 ?side2 A11.out).mono ?_); (case side1 => exact Sq.ca (Kd.C_below HR1.out HB.out)); (case side2 => exact HC1.out); rintro e w15 ⟨v446, rfl, ho0, hb⟩; refine ⟨_, rfl, ?_⟩; replace HO444 := Aside0.mk (Kd.V_below (Sq.al HO444) hb); have HO447 := Aside0.mk (Kd.V_lower (Kd.V_mono (ok' := fun k_ => True) ho0 (fun k_ hk_ => trivial)) (below_size (Sq.bl HB))); replace HB := Sq.bs HB hb; (try clear hb); (try clear hb2); (try clear hk); (try clear hi); (try clear ho0); obtain ⟨Ao16, co16, eo16⟩ := Kd.V_slice HO444.out; subst eo16; obtain ⟨Ao17, co17, eo17⟩ := Kd.V_slice HO447.out; subst eo17) | ((with_reducible refine gate_callee (f := 87) rfl ?_); refine Sq.gl (some 31) Try.func87 #[.slice Ao16 t442.length co16, .slice Ao17 t445.length co17] ?_; (with_reducible refine (foliotref01_add.calls kj4 _ _ t442 _ _ t445 t448 _ ?side1 ?side2 ?side3 ?side4 A12.out).mono ?_); (case side1 => exact Sq.ca (Kd.V_reads' HO444.out).2.2); (case side2 => exact (Kd.V_reads' HO444.out).2.1); (case side3 => exact Sq.ca (Kd.V_reads' HO447.out).2.2); (case side4 => exact (Kd.V_reads' HO447.out).2.1); rintro e w18 ⟨v449, rfl, ho0, hb⟩; refine ⟨_, rfl, ?_⟩; replace HO444 := Aside0.mk (Kd.V_below (Sq.al HO444) hb); replace HO447 := Aside0.mk (Kd.V_below (Sq.al HO447) hb); have HO450 := Aside0.mk (Kd.V_lower (Kd.V_mono (ok' := fun k_ => True) ho0 (fun k_ hk_ => trivial)) (below_size (Sq.bl HB))); replace HB := Sq.bs HB hb; (try clear hb); (try clear hb2); (try clear hk); (try clear hi); (try clear ho0); obtain ⟨Ao19, co19, eo19⟩ := Kd.V_slice HO450.out; subst eo19) | ((with_reducible refine gate_callee (f := 88) rfl ?_); refine Sq.gl (some 32) Try.func88 #[.slice Ao19 t448.length co19] ?_; (with_reducible refine (foliotref01_Limbs.calls kj4 _ _ t448 t451 _ ?side1 ?side2 A13.out).mono ?_); (case side1 => exact Sq.ca (Kd.V_reads' HO450.out).2.2); (case side2 => exact (Kd.V_reads' HO450.out).2.1); rintro e w20 ⟨v452, rfl, ho0, hb⟩; refine ⟨_, rfl, ?_⟩; replace HO444 := Aside0.mk (Kd.V_elder' (Sq.al HO444) (Kd.R_base ho0) hb); replace HO447 := Aside0.mk (Kd.V_elder' (Sq.al HO447) (Kd.R_base ho0) hb); replace HO450 := Aside0.mk (Kd.V_elder' (Sq.al HO450) (Kd.R_base ho0) hb); have HO453 := Aside0.mk (Kd.R_lower ho0 (below_size (Sq.bl HB))); replace HB := Sq.bs HB hb; (try clear hb); (try clear hb2); (try clear hk); (try clear hi); (try clear ho0)))
    go_ret
    exact ⟨_, by first | rfl | (simp [errW_none, errW_some] <;> rfl) | (simp [*, errW_none, errW_some] <;> rfl), by (with_reducible repeat (first | apply Kd.R_alloc | apply Kd.R_drewN | apply Kd.R_drew)); exact HO453.out, Sq.bl HB⟩
def foliotref01_Cmp.f (k : Nat) (l0 : List Int) (l1 : List Int) : Option (Int) := (foliotref01_Of.f k l0).bind fun t454 => ((foliotref01_Of.f k l1).bind fun t457 => ((foliotref01_cmp.f k t454 t457).bind fun t460 => (some t460)))
set_option maxHeartbeats 8000000 in
set_option maxRecDepth 100000 in
theorem foliotref01_Cmp.calls (k : Nat) (A0 : Option Addr) (c0 : Nat) (l0 : List Int) (A1 : Option Addr) (c1 : Nat) (l1 : List Int) (r : Int) (w : World) (hr0 : Kd.C (Kd.int .u32) w A0 l0.length l0) (hc0 : l0.length ≤ c0) (hr1 : Kd.C (Kd.int .u32) w A1 l1.length l1) (hc1 : l1.length ≤ c1) (h : foliotref01_Cmp.f k l0 l1 = some r) :
  Calls Try.prog 82 #[.slice A0 l0.length c0, .slice A1 l1.length c1] w fun e w' => e = .returned (.int .i64 r) ∧ Below w.heap.size w w' := by
 have HR0 := Aside0.mk hr0
 have HC0 := Aside0.mk hc0
 clear hr0 hc0
 have HR1 := Aside0.mk hr1
 have HC1 := Aside0.mk hc1
 clear hr1 hc1
 have HB := Aside0.mk (Below.refl w.heap.size w)
 have H : ((foliotref01_Of.f k l0).bind fun t454 => ((foliotref01_Of.f k l1).bind fun t457 => ((foliotref01_cmp.f k t454 t457).bind fun t460 => (some t460)))) = some r := h
 clear h
 replace H := Sq.bd H
 obtain ⟨t454, A3, H⟩ := H
 (try dsimp -simprocs only at H)
 replace H := Sq.bd H
 obtain ⟨t457, A4, H⟩ := H
 (try dsimp -simprocs only at H)
 replace H := Sq.bd H
 obtain ⟨t460, A5, H⟩ := H
 (try dsimp -simprocs only at H)
 obtain rfl := Option.some.inj H
 go_enter Try.func82, Try.ntmps82
 go_wp2_with (first | ((with_reducible refine gate_callee (f := 86) rfl ?_); refine Sq.gl (some 6) Try.func86 #[.slice A0 l0.length c0] ?_; (with_reducible refine (foliotref01_Of.calls k _ _ l0 t454 _ ?side1 ?side2 A3.out).mono ?_); (case side1 => repeat (first | exact HR0.out | (with_reducible refine Kd.C_alloc ?_ _) | (with_reducible refine Kd.C_drewN ?_ _) | (with_reducible refine Kd.C_drew ?_))); (case side2 => exact HC0.out); rintro e w6 ⟨v455, rfl, ho0, hb⟩; refine ⟨_, rfl, ?_⟩; have HO456 := Aside0.mk (Kd.V_lower (Kd.V_mono (ok' := fun k_ => True) ho0 (fun k_ hk_ => trivial)) (below_size (Sq.bl HB))); replace HB := Sq.bs HB hb; (try clear hb); (try clear hb2); (try clear hk); (try clear hi); (try clear ho0)) | ((with_reducible refine gate_callee (f := 86) rfl ?_); refine Sq.gl (some 8) Try.func86 #[.slice A1 l1.length c1] ?_; (with_reducible refine (foliotref01_Of.calls k _ _ l1 t457 _ ?side1 ?side2 A4.out).mono ?_); (case side1 => exact Sq.ca (Kd.C_below HR1.out HB.out)); (case side2 => exact HC1.out); rintro e w7 ⟨v458, rfl, ho0, hb⟩; refine ⟨_, rfl, ?_⟩; replace HO456 := Aside0.mk (Kd.V_below (Sq.al HO456) hb); have HO459 := Aside0.mk (Kd.V_lower (Kd.V_mono (ok' := fun k_ => True) ho0 (fun k_ hk_ => trivial)) (below_size (Sq.bl HB))); replace HB := Sq.bs HB hb; (try clear hb); (try clear hb2); (try clear hk); (try clear hi); (try clear ho0); obtain ⟨Ao8, co8, eo8⟩ := Kd.V_slice HO456.out; subst eo8; obtain ⟨Ao9, co9, eo9⟩ := Kd.V_slice HO459.out; subst eo9) | ((with_reducible refine gate_callee (f := 105) rfl ?_); refine Sq.gl (some 9) Try.func105 #[.slice Ao8 t454.length co8, .slice Ao9 t457.length co9] ?_; (with_reducible refine (foliotref01_cmp.calls k _ _ t454 _ _ t457 t460 _ ?side1 ?side2 ?side3 ?side4 A5.out).mono ?_); (case side1 => exact Sq.ca (Kd.V_reads' HO456.out).2.2); (case side2 => exact (Kd.V_reads' HO456.out).2.1); (case side3 => exact Sq.ca (Kd.V_reads' HO459.out).2.2); (case side4 => exact (Kd.V_reads' HO459.out).2.1); rintro e w10 ⟨rfl, hb⟩; refine ⟨_, rfl, ?_⟩; replace HO456 := Aside0.mk (Kd.V_below (Sq.al HO456) hb); replace HO459 := Aside0.mk (Kd.V_below (Sq.al HO459) hb); replace HB := Sq.bs HB hb; (try clear hb); (try clear hb2); (try clear hk); (try clear hi)))
 go_ret
 exact ⟨by first | rfl | (simp [errW_none, errW_some] <;> rfl) | (simp [*, errW_none, errW_some] <;> rfl), Sq.bl HB⟩
def foliotref01_Sub.f (k : Nat) (l0 : List Int) (l1 : List Int) : Option (List Int × Int) := (foliotref01_Of.f k l0).bind fun t461 => ((foliotref01_Of.f k l1).bind fun t464 => ((foliotref01_cmp.f k t461 t464).bind fun t467 => (if t467 < 0 then (some (([] : List Int), 1)) else ((foliotref01_sub.f k t461 t464).bind fun t468 => ((foliotref01_Limbs.f k t468).bind fun t471 => (some (t471, 0)))))))
set_option maxHeartbeats 8000000 in
set_option maxRecDepth 100000 in
theorem foliotref01_Sub.calls (k : Nat) (A0 : Option Addr) (c0 : Nat) (l0 : List Int) (A1 : Option Addr) (c1 : Nat) (l1 : List Int) (r1 : List Int) (r2 : Int) (w : World) (hr0 : Kd.C (Kd.int .u32) w A0 l0.length l0) (hc0 : l0.length ≤ c0) (hr1 : Kd.C (Kd.int .u32) w A1 l1.length l1) (hc1 : l1.length ≤ c1) (h : foliotref01_Sub.f k l0 l1 = some (r1, r2)) :
  Calls Try.prog 83 #[.slice A0 l0.length c0, .slice A1 l1.length c1] w fun e w' => ∃ v0_ : Value, e = .returned (.tuple #[v0_, .int .i64 r2]) ∧ Kd.R (Kd.int .u32) 87 w' w.heap.size (fun _ => True) v0_ r1 ∧ Below w.heap.size w w' := by
 have HR0 := Aside0.mk hr0
 have HC0 := Aside0.mk hc0
 clear hr0 hc0
 have HR1 := Aside0.mk hr1
 have HC1 := Aside0.mk hc1
 clear hr1 hc1
 have HB := Aside0.mk (Below.refl w.heap.size w)
 have H : ((foliotref01_Of.f k l0).bind fun t461 => ((foliotref01_Of.f k l1).bind fun t464 => ((foliotref01_cmp.f k t461 t464).bind fun t467 => (if t467 < 0 then (some (([] : List Int), 1)) else ((foliotref01_sub.f k t461 t464).bind fun t468 => ((foliotref01_Limbs.f k t468).bind fun t471 => (some (t471, 0)))))))) = some (r1, r2) := h
 clear h
 replace H := Sq.bd H
 obtain ⟨t461, A3, H⟩ := H
 (try dsimp -simprocs only at H)
 replace H := Sq.bd H
 obtain ⟨t464, A4, H⟩ := H
 (try dsimp -simprocs only at H)
 replace H := Sq.bd H
 obtain ⟨t467, A5, H⟩ := H
 (try dsimp -simprocs only at H)
 by_cases c6 : t467 < 0
 ·rw [if_pos c6] at H
  have c6b0 : decide (t467 < 0) = true := decide_eq_true c6
  clear c6
  simp only [Option.some.injEq, Prod.mk.injEq] at H
  obtain ⟨rfl, rfl⟩ := H
  go_enter Try.func83, Try.ntmps83
  go_wp2_with (first | ((with_reducible refine gate_callee (f := 86) rfl ?_); refine Sq.gl (some 9) Try.func86 #[.slice A0 l0.length c0] ?_; (with_reducible refine (foliotref01_Of.calls k _ _ l0 t461 _ ?side1 ?side2 A3.out).mono ?_); (case side1 => repeat (first | exact HR0.out | (with_reducible refine Kd.C_alloc ?_ _) | (with_reducible refine Kd.C_drewN ?_ _) | (with_reducible refine Kd.C_drew ?_))); (case side2 => exact HC0.out); rintro e w7 ⟨v462, rfl, ho0, hb⟩; refine ⟨_, rfl, ?_⟩; have HO463 := Aside0.mk (Kd.V_lower (Kd.V_mono (ok' := fun k_ => True) ho0 (fun k_ hk_ => trivial)) (below_size (Sq.bl HB))); replace HB := Sq.bs HB hb; (try clear hb); (try clear hb2); (try clear hk); (try clear hi); (try clear ho0)) | ((with_reducible refine gate_callee (f := 86) rfl ?_); refine Sq.gl (some 11) Try.func86 #[.slice A1 l1.length c1] ?_; (with_reducible refine (foliotref01_Of.calls k _ _ l1 t464 _ ?side1 ?side2 A4.out).mono ?_); (case side1 => exact Sq.ca (Kd.C_below HR1.out HB.out)); (case side2 => exact HC1.out); rintro e w8 ⟨v465, rfl, ho0, hb⟩; refine ⟨_, rfl, ?_⟩; replace HO463 := Aside0.mk (Kd.V_below (Sq.al HO463) hb); have HO466 := Aside0.mk (Kd.V_lower (Kd.V_mono (ok' := fun k_ => True) ho0 (fun k_ hk_ => trivial)) (below_size (Sq.bl HB))); replace HB := Sq.bs HB hb; (try clear hb); (try clear hb2); (try clear hk); (try clear hi); (try clear ho0); obtain ⟨Ao9, co9, eo9⟩ := Kd.V_slice HO463.out; subst eo9; obtain ⟨Ao10, co10, eo10⟩ := Kd.V_slice HO466.out; subst eo10) | ((with_reducible refine gate_callee (f := 105) rfl ?_); refine Sq.gl (some 14) Try.func105 #[.slice Ao9 t461.length co9, .slice Ao10 t464.length co10] ?_; (with_reducible refine (foliotref01_cmp.calls k _ _ t461 _ _ t464 t467 _ ?side1 ?side2 ?side3 ?side4 A5.out).mono ?_); (case side1 => exact Sq.ca (Kd.V_reads' HO463.out).2.2); (case side2 => exact (Kd.V_reads' HO463.out).2.1); (case side3 => exact Sq.ca (Kd.V_reads' HO466.out).2.2); (case side4 => exact (Kd.V_reads' HO466.out).2.1); rintro e w11 ⟨rfl, hb⟩; refine ⟨_, rfl, ?_⟩; replace HO463 := Aside0.mk (Kd.V_below (Sq.al HO463) hb); replace HO466 := Aside0.mk (Kd.V_below (Sq.al HO466) hb); replace HB := Sq.bs HB hb; (try clear hb); (try clear hb2); (try clear hk); (try clear hi)))
  go_ret2
  exact ⟨_, by first | rfl | (simp [errW_none, errW_some] <;> rfl) | (simp [*, errW_none, errW_some] <;> rfl), by first | exact Kd.R_nil _ _ _ _ _ | exact Kd.N_nil _ _ _ _ _ | exact Kd.V_nil _ _ _ _ _ | exact Kd.Q_nil _ _ _ _ _ | exact Kd.S_nil _ _ _ _ _, Sq.bl HB⟩
 ·rw [if_neg c6] at H
  have c6b0 : decide (t467 < 0) = false := decide_eq_false c6
  clear c6
  replace H := Sq.bd H
  obtain ⟨t468, A12, H⟩ := H
  (try dsimp -simprocs only at H)
  replace H := Sq.bd H
  obtain ⟨t471, A13, H⟩ := H
  (try dsimp -simprocs only at H)
  simp only [Option.some.injEq, Prod.mk.injEq] at H
  obtain ⟨rfl, rfl⟩ := H
  go_enter Try.func83, Try.ntmps83
  go_wp2_with (first | ((with_reducible refine gate_callee (f := 86) rfl ?_); refine Sq.gl (some 9) Try.func86 #[.slice A0 l0.length c0] ?_; (with_reducible refine (foliotref01_Of.calls k _ _ l0 t461 _ ?side1 ?side2 A3.out).mono ?_); (case side1 => repeat (first | exact HR0.out | (with_reducible refine Kd.C_alloc ?_ _) | (with_reducible refine Kd.C_drewN ?_ _) | (with_reducible refine Kd.C_drew ?_))); (case side2 => exact HC0.out); rintro e w14 ⟨v462, rfl, ho0, hb⟩; refine ⟨_, rfl, ?_⟩; have HO463 := Aside0.mk (Kd.V_lower (Kd.V_mono (ok' := fun k_ => True) ho0 (fun k_ hk_ => trivial)) (below_size (Sq.bl HB))); replace HB := Sq.bs HB hb; (try clear hb); (try clear hb2); (try clear hk); (try clear hi); (try clear ho0)) | ((with_reducible refine gate_callee (f := 86) rfl ?_); refine Sq.gl (some 11) Try.func86 #[.slice A1 l1.length c1] ?_; (with_reducible refine (foliotref01_Of.calls k _ _ l1 t464 _ ?side1 ?side2 A4.out).mono ?_); (case side1 => exact Sq.ca (Kd.C_below HR1.out HB.out)); (case side2 => exact HC1.out); rintro e w15 ⟨v465, rfl, ho0, hb⟩; refine ⟨_, rfl, ?_⟩; replace HO463 := Aside0.mk (Kd.V_below (Sq.al HO463) hb); have HO466 := Aside0.mk (Kd.V_lower (Kd.V_mono (ok' := fun k_ => True) ho0 (fun k_ hk_ => trivial)) (below_size (Sq.bl HB))); replace HB := Sq.bs HB hb; (try clear hb); (try clear hb2); (try clear hk); (try clear hi); (try clear ho0); obtain ⟨Ao16, co16, eo16⟩ := Kd.V_slice HO463.out; subst eo16; obtain ⟨Ao17, co17, eo17⟩ := Kd.V_slice HO466.out; subst eo17) | ((with_reducible refine gate_callee (f := 105) rfl ?_); refine Sq.gl (some 14) Try.func105 #[.slice Ao16 t461.length co16, .slice Ao17 t464.length co17] ?_; (with_reducible refine (foliotref01_cmp.calls k _ _ t461 _ _ t464 t467 _ ?side1 ?side2 ?side3 ?side4 A5.out).mono ?_); (case side1 => exact Sq.ca (Kd.V_reads' HO463.out).2.2); (case side2 => exact (Kd.V_reads' HO463.out).2.1); (case side3 => exact Sq.ca (Kd.V_reads' HO466.out).2.2); (case side4 => exact (Kd.V_reads' HO466.out).2.1); rintro e w18 ⟨rfl, hb⟩; refine ⟨_, rfl, ?_⟩; replace HO463 := Aside0.mk (Kd.V_below (Sq.al HO463) hb); replace HO466 := Aside0.mk (Kd.V_below (Sq.al HO466) hb); replace HB := Sq.bs HB hb; (try clear hb); (try clear hb2); (try clear hk); (try clear hi)) | ((with_reducible refine gate_callee (f := 106) rfl ?_); refine Sq.gl (some 18) Try.func106 #[.slice Ao16 t461.length co16, .slice Ao17 t464.length co17] ?_; (with_reducible refine (foliotref01_sub.calls k _ _ t461 _ _ t464 t468 _ ?side1 ?side2 ?side3 ?side4 A12.out).mono ?_); (case side1 => exact Sq.ca (Kd.V_reads' HO463.out).2.2); (case side2 => exact (Kd.V_reads' HO463.out).2.1); (case side3 => exact Sq.ca (Kd.V_reads' HO466.out).2.2); (case side4 => exact (Kd.V_reads' HO466.out).2.1); rintro e w19 ⟨v469, rfl, ho0, hb⟩; refine ⟨_, rfl, ?_⟩; replace HO463 := Aside0.mk (Kd.V_below (Sq.al HO463) hb); replace HO466 := Aside0.mk (Kd.V_below (Sq.al HO466) hb); have HO470 := Aside0.mk (Kd.V_lower (Kd.V_mono (ok' := fun k_ => True) ho0 (fun k_ hk_ => trivial)) (below_size (Sq.bl HB))); replace HB := Sq.bs HB hb; (try clear hb); (try clear hb2); (try clear hk); (try clear hi); (try clear ho0); obtain ⟨Ao20, co20, eo20⟩ := Kd.V_slice HO470.out; subst eo20) | ((with_reducible refine gate_callee (f := 88) rfl ?_); refine Sq.gl (some 19) Try.func88 #[.slice Ao20 t468.length co20] ?_; (with_reducible refine (foliotref01_Limbs.calls k _ _ t468 t471 _ ?side1 ?side2 A13.out).mono ?_); (case side1 => exact Sq.ca (Kd.V_reads' HO470.out).2.2); (case side2 => exact (Kd.V_reads' HO470.out).2.1); rintro e w21 ⟨v472, rfl, ho0, hb⟩; refine ⟨_, rfl, ?_⟩; replace HO463 := Aside0.mk (Kd.V_elder' (Sq.al HO463) (Kd.R_base ho0) hb); replace HO466 := Aside0.mk (Kd.V_elder' (Sq.al HO466) (Kd.R_base ho0) hb); replace HO470 := Aside0.mk (Kd.V_elder' (Sq.al HO470) (Kd.R_base ho0) hb); have HO473 := Aside0.mk (Kd.R_lower ho0 (below_size (Sq.bl HB))); replace HB := Sq.bs HB hb; (try clear hb); (try clear hb2); (try clear hk); (try clear hi); (try clear ho0)))
  go_ret2
  exact ⟨_, by first | rfl | (simp [errW_none, errW_some] <;> rfl) | (simp [*, errW_none, errW_some] <;> rfl), by (with_reducible repeat (first | apply Kd.R_alloc | apply Kd.R_drewN | apply Kd.R_drew)); exact HO473.out, Sq.bl HB⟩
end Go.Proofs.Ytjfkhbkddenfoaa.N
