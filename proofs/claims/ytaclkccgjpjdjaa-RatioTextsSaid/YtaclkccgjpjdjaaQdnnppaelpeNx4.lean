import Derived.Test.YtaclkccgjpjdjaaQemgcbmfiflNx0
import Derived.Test.YtaclkccgjpjdjaaQmkclageiacNx1
import Derived.Test.YtaclkccgjpjdjaaQfpegpdhaonNx2
import Derived.Test.YtaclkccgjpjdjaaQmejlhjgepfNx3
import Derived.Test.YtaclkccgjpjdjaaQpbgibbbgddM
namespace Go.Proofs.Ytaclkccgjpjdjaa.N
open Go.RowKit Go.Proofs.YtaclkccgjpjdjaaW.PrintWords Go.Proofs.YtaclkccgjpjdjaaW.PrintLast Go.Proofs.YtaclkccgjpjdjaaW.PrintMore
attribute [local go_sem] max2_int min2_int max_two min_two max_three min_three max_four min_four   -- for this text's walks alone
set_option linter.unusedVariables false
set_option linter.unusedSimpArgs false
def nat_Div.l0 : Nat → List Int → Int → List Int → List Int → List Int → Int → Option (List Int × List Int × Int)
 | 0, _, _, _, _, _, _ => none
 | k + 1, x1, x9, x10, x11, x12, x13 => if x13 ≥ 0 then ((nat_guess.f k x10 x11 x13).bind fun t209 => ((nat_take.f k x10 x11 x13 t209).bind fun bt210 => (if 0 ≤ x13 then (if x13 < (x12.length : Int) then (nat_Div.l0 k x1 x9 bt210.2 x11 (x12.set (x13 : Int).toNat bt210.1) (wrap64 (x13 - 1))) else (none)) else (none)))) else ((nat_cut.f k x12).bind fun t213 => (if 0 ≤ (x1.length : Int) then (if (x1.length : Int) ≤ (x10.length : Int) then ((nat_right.f k (x10.take ((x1.length : Int) : Int).toNat) x9).bind fun t220 => (some (t213, t220, 0))) else (none)) else (none)))
def nat_Div.f (k : Nat) (l0 : List Int) (l1 : List Int) : Option (List Int × List Int × Int) := (nat_cut.f k l0).bind fun t173 => ((nat_cut.f k l1).bind fun t176 => (if (t176.length : Int) = 0 then (some (([] : List Int), ([] : List Int), 3)) else ((nat_Cmp.f k t173 t176).bind fun t179 => (if t179 < 0 then ((slices_Clone_uint32_uint32.f t173).bind fun t180 => (some (([] : List Int), t180, 0))) else (if (t176.length : Int) = 1 then (if 0 < (t176.length : Int) then ((nat_small.f k t173 (rd t176 0)).bind fun bt184 => ((nat_cut.f k (([bt184.2] : List Int))).bind fun t191 => (some (bt184.1, t191, 0)))) else (none)) else (if 0 ≤ (wrap64 ((t176.length : Int) - 1)) then (if (wrap64 ((t176.length : Int) - 1)) < (t176.length : Int) then ((bits_LeadingZeros32.f (rd t176 (wrap64 ((t176.length : Int) - 1)))).bind fun t195 => ((nat_left.f k t173 t195).bind fun t196 => ((nat_left.f k t176 t195).bind fun t199 => (if 0 ≤ (t176.length : Int) then (if (t176.length : Int) ≤ (t199.length : Int) then (if 0 ≤ (wrap64 ((wrap64 ((t173.length : Int) - (t176.length : Int))) + 1)) then (if (wrap64 ((wrap64 ((t173.length : Int) - (t176.length : Int))) + 1) : Int).toNat ≤ 70368744177664 then ((some (List.replicate (wrap64 ((wrap64 ((t173.length : Int) - (t176.length : Int))) + 1) : Int).toNat 0 : List Int)).bind fun y206 => (nat_Div.l0 k t176 t195 t196 (t199.take ((t176.length : Int) : Int).toNat) y206 (wrap64 ((y206.length : Int) - 1)))) else (none)) else (none)) else (none)) else (none))))) else (none)) else (none)))))))
def nat_Div.T10 : Bool × List (List Nat × List Nat) := (true, [([], []), ([], []), ([0, 1], [0, 1]), ([], []), ([], []), ([3, 4, 2], [3, 4]), ([], []), ([6], [6]), ([5, 7], [5, 7]), ([2, 5, 0, 1, 2], [2]), ([8, 9, 0, 1, 2, 3, 4, 5, 6, 7, 8, 9], [8])])
def nat_Div.B10 : List Nat := [0, 0, 3, 0, 0, 31, 0, 64, 255, 63, 1023]
theorem nat_Div.tab10 : rtab .any (opsOf Try.f31 10) = nat_Div.T10 := by kernel_rfl
theorem nat_Div.bits10 : waitsOk nat_Div.T10.2 nat_Div.B10 = true := by kernel_rfl
def nat_Div.T16 : Bool × List (List Nat × List Nat) := (true, [([], []), ([0], [0]), ([], []), ([], []), ([3], [3]), ([2, 4], [2, 4]), ([], []), ([5, 6, 1], [5, 6]), ([1, 7, 0, 1], [1]), ([7, 8, 0, 1, 2, 3, 4, 5, 6, 7, 8], [7]), ([9, 0, 1, 2, 3, 4, 5, 6, 7, 8, 9], [])])
def nat_Div.B16 : List Nat := [0, 1, 0, 0, 8, 28, 0, 127, 255, 511, 1023]
theorem nat_Div.tab16 : rtab .any (opsOf Try.f31 16) = nat_Div.T16 := by kernel_rfl
theorem nat_Div.bits16 : waitsOk nat_Div.T16.2 nat_Div.B16 = true := by kernel_rfl
set_option maxHeartbeats 8000000 in
set_option maxRecDepth 100000 in
theorem nat_Div.calls (k : Nat) (P0_ : Nat → Prop) (A0 : Option Addr) (c0 : Nat) (l0 : List Int) (P1_ : Nat → Prop) (A1 : Option Addr) (c1 : Nat) (l1 : List Int) (r1 : List Int) (r2 : List Int) (r3 : Int) (w : World) (hs0 : Kd.V (Kd.int .u32) 107 w w.heap.size (fun k_ => P0_ k_) (.slice A0 l0.length c0) l0) (hs1 : Kd.V (Kd.int .u32) 107 w w.heap.size (fun k_ => P1_ k_) (.slice A1 l1.length c1) l1) (h : nat_Div.f k l0 l1 = some (r1, r2, r3)) :
  Calls Try.prog 31 #[.slice A0 l0.length c0, .slice A1 l1.length c1] w fun e w' => ∃ v0_ v1_ : Value, e = .returned (.tuple #[v0_, v1_, .int .i64 r3]) ∧ Kd.V (Kd.int .u32) 107 w' w.heap.size (fun k_ => ((P0_ k_ ∨ P1_ k_) ∨ w.heap.size ≤ k_)) v0_ r1 ∧ Kd.V (Kd.int .u32) 107 w' w.heap.size (fun k_ => ((P0_ k_ ∨ P1_ k_) ∨ w.heap.size ≤ k_)) v1_ r2 ∧ Below w.heap.size w w' := by
 have HO0 := Aside0.mk (show Kd.V (Kd.int .u32) 107 w w.heap.size (fun k_ => ((P0_ k_ ∨ P1_ k_) ∨ w.heap.size ≤ k_)) (.slice A0 l0.length c0) l0 from Kd.V_mono hs0 (fun k_ hk => .inl (.inl hk)))
 have HO1 := Aside0.mk (show Kd.V (Kd.int .u32) 107 w w.heap.size (fun k_ => ((P0_ k_ ∨ P1_ k_) ∨ w.heap.size ≤ k_)) (.slice A1 l1.length c1) l1 from Kd.V_mono hs1 (fun k_ hk => .inl (.inr hk)))
 have HB := Aside0.mk (Below.refl w.heap.size w)
 have H : ((nat_cut.f k l0).bind fun t173 => ((nat_cut.f k l1).bind fun t176 => (if (t176.length : Int) = 0 then (some (([] : List Int), ([] : List Int), 3)) else ((nat_Cmp.f k t173 t176).bind fun t179 => (if t179 < 0 then ((slices_Clone_uint32_uint32.f t173).bind fun t180 => (some (([] : List Int), t180, 0))) else (if (t176.length : Int) = 1 then (if 0 < (t176.length : Int) then ((nat_small.f k t173 (rd t176 0)).bind fun bt184 => ((nat_cut.f k (([bt184.2] : List Int))).bind fun t191 => (some (bt184.1, t191, 0)))) else (none)) else (if 0 ≤ (wrap64 ((t176.length : Int) - 1)) then (if (wrap64 ((t176.length : Int) - 1)) < (t176.length : Int) then ((bits_LeadingZeros32.f (rd t176 (wrap64 ((t176.length : Int) - 1)))).bind fun t195 => ((nat_left.f k t173 t195).bind fun t196 => ((nat_left.f k t176 t195).bind fun t199 => (if 0 ≤ (t176.length : Int) then (if (t176.length : Int) ≤ (t199.length : Int) then (if 0 ≤ (wrap64 ((wrap64 ((t173.length : Int) - (t176.length : Int))) + 1)) then (if (wrap64 ((wrap64 ((t173.length : Int) - (t176.length : Int))) + 1) : Int).toNat ≤ 70368744177664 then ((some (List.replicate (wrap64 ((wrap64 ((t173.length : Int) - (t176.length : Int))) + 1) : Int).toNat 0 : List Int)).bind fun y206 => (nat_Div.l0 k t176 t195 t196 (t199.take ((t176.length : Int) : Int).toNat) y206 (wrap64 ((y206.length : Int) - 1)))) else (none)) else (none)) else (none)) else (none))))) else (none)) else (none)))))))) = some (r1, r2, r3) := h
 clear h
 replace H := Sq.bd H
 obtain ⟨t173, A3, H⟩ := H
 (try dsimp -simprocs only at H)
 replace H := Sq.bd H
 obtain ⟨t176, A4, H⟩ := H
 (try dsimp -simprocs only at H)
 by_cases c5 : (t176.length : Int) = 0
 ·rw [if_pos c5] at H
  have c5b0 : ((t176.length : Int) == 0) = true := beq_iff_eq.mpr c5
  have c5b1 : ((t176.length : Int) != 0) = false := bne_eq_false_iff_eq.mpr c5
  clear c5
  simp only [Option.some.injEq, Prod.mk.injEq] at H
  obtain ⟨rfl, rfl, rfl⟩ := H
  go_enter Try.func31, Try.ntmps31
  go_wp2_with (first | ((with_reducible refine gate_callee (f := 127) rfl ?_); refine Sq.gl (some 15) Try.func127 #[.slice A0 l0.length c0] ?_; (with_reducible refine (nat_cut.calls k (fun k_ => ((P0_ k_ ∨ P1_ k_) ∨ w.heap.size ≤ k_)) _ _ l0 t173 _ ?side1 A3.out).mono ?_); (case side1 => exact HO0.out); rintro e w6 ⟨v174, rfl, ho0, hb⟩; refine ⟨_, rfl, ?_⟩; replace HO0 := Aside0.mk (Kd.V_below (Sq.al HO0) hb); replace HO1 := Aside0.mk (Kd.V_below (Sq.al HO1) hb); have HO175 := Aside0.mk (Kd.V_lower (Kd.V_mono (ok' := fun k_ => ((P0_ k_ ∨ P1_ k_) ∨ w.heap.size ≤ k_)) ho0 (fun k_ hk_ => Or.elim hk_ (fun hs_ => hs_) (fun hn_ => (.inr (Nat.le_trans (below_size (Sq.bl HB)) hn_))))) (below_size (Sq.bl HB))); replace HB := Sq.bs HB hb; (try clear hb); (try clear hb2); (try clear hk); (try clear hi); (try clear ho0)) | ((with_reducible refine gate_callee (f := 127) rfl ?_); refine Sq.gl (some 17) Try.func127 #[.slice A1 l1.length c1] ?_; (with_reducible refine (nat_cut.calls k (fun k_ => ((P0_ k_ ∨ P1_ k_) ∨ w.heap.size ≤ k_)) _ _ l1 t176 _ ?side1 A4.out).mono ?_); (case side1 => exact HO1.out); rintro e w7 ⟨v177, rfl, ho0, hb⟩; refine ⟨_, rfl, ?_⟩; replace HO0 := Aside0.mk (Kd.V_below (Sq.al HO0) hb); replace HO1 := Aside0.mk (Kd.V_below (Sq.al HO1) hb); replace HO175 := Aside0.mk (Kd.V_below (Sq.al HO175) hb); have HO178 := Aside0.mk (Kd.V_lower (Kd.V_mono (ok' := fun k_ => ((P0_ k_ ∨ P1_ k_) ∨ w.heap.size ≤ k_)) ho0 (fun k_ hk_ => Or.elim hk_ (fun hs_ => hs_) (fun hn_ => (.inr (Nat.le_trans (below_size (Sq.bl HB)) hn_))))) (below_size (Sq.bl HB))); replace HB := Sq.bs HB hb; (try clear hb); (try clear hb2); (try clear hk); (try clear hi); (try clear ho0); obtain ⟨Ao8, co8, eo8⟩ := Kd.V_slice HO178.out; subst eo8))
  go_ret3
  exact ⟨_, _, by first | rfl | (simp [errW_none, errW_some] <;> rfl) | (simp [*, errW_none, errW_some] <;> rfl), (by exact Kd.V_nil _ _ _ _ _), (by exact Kd.V_nil _ _ _ _ _), Sq.bl HB⟩
 ·rw [if_neg c5] at H
  have c5b0 : ((t176.length : Int) == 0) = false := beq_eq_false_iff_ne.mpr c5
  have c5b1 : ((t176.length : Int) != 0) = true := bne_iff_ne.mpr c5
  have c5b2 : ¬ (t176 = []) := fun h_ => c5 (by rw [h_]; rfl)
  replace H := Sq.bd H
  obtain ⟨t179, A9, H⟩ := H
  (try dsimp -simprocs only at H)
  by_cases c10 : t179 < 0
  ·rw [if_pos c10] at H
   have c10b0 : decide (t179 < 0) = true := decide_eq_true c10
   clear c10
   replace H := Sq.bd H
   obtain ⟨t180, A11, H⟩ := H
   (try dsimp -simprocs only at H)
   simp only [Option.some.injEq, Prod.mk.injEq] at H
   obtain ⟨rfl, rfl, rfl⟩ := H
   go_enter Try.func31, Try.ntmps31
   go_wp2_with (first | ((with_reducible refine gate_callee (f := 127) rfl ?_); refine Sq.gl (some 15) Try.func127 #[.slice A0 l0.length c0] ?_; (with_reducible refine (nat_cut.calls k (fun k_ => ((P0_ k_ ∨ P1_ k_) ∨ w.heap.size ≤ k_)) _ _ l0 t173 _ ?side1 A3.out).mono ?_); (case side1 => exact HO0.out); rintro e w12 ⟨v174, rfl, ho0, hb⟩; refine ⟨_, rfl, ?_⟩; replace HO0 := Aside0.mk (Kd.V_below (Sq.al HO0) hb); replace HO1 := Aside0.mk (Kd.V_below (Sq.al HO1) hb); have HO175 := Aside0.mk (Kd.V_lower (Kd.V_mono (ok' := fun k_ => ((P0_ k_ ∨ P1_ k_) ∨ w.heap.size ≤ k_)) ho0 (fun k_ hk_ => Or.elim hk_ (fun hs_ => hs_) (fun hn_ => (.inr (Nat.le_trans (below_size (Sq.bl HB)) hn_))))) (below_size (Sq.bl HB))); replace HB := Sq.bs HB hb; (try clear hb); (try clear hb2); (try clear hk); (try clear hi); (try clear ho0)) | ((with_reducible refine gate_callee (f := 127) rfl ?_); refine Sq.gl (some 17) Try.func127 #[.slice A1 l1.length c1] ?_; (with_reducible refine (nat_cut.calls k (fun k_ => ((P0_ k_ ∨ P1_ k_) ∨ w.heap.size ≤ k_)) _ _ l1 t176 _ ?side1 A4.out).mono ?_); (case side1 => exact HO1.out); rintro e w13 ⟨v177, rfl, ho0, hb⟩; refine ⟨_, rfl, ?_⟩; replace HO0 := Aside0.mk (Kd.V_below (Sq.al HO0) hb); replace HO1 := Aside0.mk (Kd.V_below (Sq.al HO1) hb); replace HO175 := Aside0.mk (Kd.V_below (Sq.al HO175) hb); have HO178 := Aside0.mk (Kd.V_lower (Kd.V_mono (ok' := fun k_ => ((P0_ k_ ∨ P1_ k_) ∨ w.heap.size ≤ k_)) ho0 (fun k_ hk_ => Or.elim hk_ (fun hs_ => hs_) (fun hn_ => (.inr (Nat.le_trans (below_size (Sq.bl HB)) hn_))))) (below_size (Sq.bl HB))); replace HB := Sq.bs HB hb; (try clear hb); (try clear hb2); (try clear hk); (try clear hi); (try clear ho0); obtain ⟨Ao14, co14, eo14⟩ := Kd.V_slice HO178.out; subst eo14; obtain ⟨Ao15, co15, eo15⟩ := Kd.V_slice HO175.out; subst eo15) | ((with_reducible refine gate_callee (f := 44) rfl ?_); refine Sq.gl (some 25) Try.func44 #[.slice Ao15 t173.length co15, .slice Ao14 t176.length co14] ?_; (with_reducible refine (nat_Cmp.calls k _ _ t173 _ _ t176 t179 _ ?side1 ?side2 ?side3 ?side4 A9.out).mono ?_); (case side1 => exact Sq.ca (Kd.V_reads' HO175.out).2.2); (case side2 => exact (Kd.V_reads' HO175.out).2.1); (case side3 => exact Sq.ca (Kd.V_reads' HO178.out).2.2); (case side4 => exact (Kd.V_reads' HO178.out).2.1); rintro e w16 ⟨rfl, hb⟩; refine ⟨_, rfl, ?_⟩; replace HO0 := Aside0.mk (Kd.V_below (Sq.al HO0) hb); replace HO1 := Aside0.mk (Kd.V_below (Sq.al HO1) hb); replace HO175 := Aside0.mk (Kd.V_below (Sq.al HO175) hb); replace HO178 := Aside0.mk (Kd.V_below (Sq.al HO178) hb); replace HB := Sq.bs HB hb; (try clear hb); (try clear hb2); (try clear hk); (try clear hi)) | ((with_reducible refine gate_callee (f := 128) rfl ?_); refine Sq.gl (some 28) Try.func128 #[.slice Ao15 t173.length co15] ?_; (with_reducible refine (slices_Clone_uint32_uint32.calls _ _ t173 t180 _ ?side1 ?side2 A11.out).mono ?_); (case side1 => exact Sq.ca (Kd.V_reads' HO175.out).2.2); (case side2 => exact (Kd.V_reads' HO175.out).2.1); rintro e w17 ⟨v181, rfl, ho0, hb⟩; refine ⟨_, rfl, ?_⟩; replace HO0 := Aside0.mk (Kd.V_elder' (Sq.al HO0) (Kd.R_base ho0) hb); replace HO1 := Aside0.mk (Kd.V_elder' (Sq.al HO1) (Kd.R_base ho0) hb); replace HO175 := Aside0.mk (Kd.V_elder' (Sq.al HO175) (Kd.R_base ho0) hb); replace HO178 := Aside0.mk (Kd.V_elder' (Sq.al HO178) (Kd.R_base ho0) hb); have HO182 := Aside0.mk (Kd.R_lower (Kd.R_newM (M := fun k_ => (w.heap.size ≤ k_)) ho0 (below_size (Sq.bl HB)) (fun k_ h_ => h_)) (below_size (Sq.bl HB))); replace HB := Sq.bs HB hb; (try clear hb); (try clear hb2); (try clear hk); (try clear hi); (try clear ho0)))
   go_ret3
   exact ⟨_, _, by first | rfl | (simp [errW_none, errW_some] <;> rfl) | (simp [*, errW_none, errW_some] <;> rfl), (by exact Kd.V_nil _ _ _ _ _), Kd.V_mono (Kd.R_V (by (with_reducible repeat (first | apply Kd.R_alloc | apply Kd.R_drewN | apply Kd.R_drew)); exact Kd.R_mono HO182.out (fun _ hk => hk.1))) (fun k_ hk => by first | exact ⟨(.inr (hk.1)), hk.2⟩ | exact (.inr (hk))), Sq.bl HB⟩
  ·rw [if_neg c10] at H
   have c10b0 : decide (t179 < 0) = false := decide_eq_false c10
   clear c10
   by_cases c18 : (t176.length : Int) = 1
   ·rw [if_pos c18] at H
    have c18b0 : ((t176.length : Int) == 1) = true := beq_iff_eq.mpr c18
    have c18b1 : ((t176.length : Int) != 1) = false := bne_eq_false_iff_eq.mpr c18
    clear c18
    replace H := Sq.ifs H
    obtain ⟨c19, H⟩ := H
    have c19b0 : decide (0 < (t176.length : Int)) = true := decide_eq_true c19
    have c19b1 : decide (0 < t176.length) = true := decide_eq_true (by omega)
    clear c19
    replace H := Sq.bd H
    obtain ⟨⟨t184, t187⟩, A20, H⟩ := H
    (try dsimp -simprocs only at H)
    obtain ⟨y188, hy188⟩ : ∃ y_ : List Int, y_ = (([t187] : List Int)) := ⟨_, rfl⟩
    (first | (replace H := Sq.ny hy188 H; (try dsimp -simprocs only at H)) | rw [← hy188] at H | skip)
    have Ny188 := Aside0.mk hy188
    clear hy188
    replace H := Sq.bd H
    obtain ⟨t191, A21, H⟩ := H
    (try dsimp -simprocs only at H)
    simp only [Option.some.injEq, Prod.mk.injEq] at H
    obtain ⟨rfl, rfl, rfl⟩ := H
    go_enter Try.func31, Try.ntmps31
    go_wp2_with (first | ((with_reducible refine gate_callee (f := 127) rfl ?_); refine Sq.gl (some 15) Try.func127 #[.slice A0 l0.length c0] ?_; (with_reducible refine (nat_cut.calls k (fun k_ => ((P0_ k_ ∨ P1_ k_) ∨ w.heap.size ≤ k_)) _ _ l0 t173 _ ?side1 A3.out).mono ?_); (case side1 => exact HO0.out); rintro e w22 ⟨v174, rfl, ho0, hb⟩; refine ⟨_, rfl, ?_⟩; replace HO0 := Aside0.mk (Kd.V_below (Sq.al HO0) hb); replace HO1 := Aside0.mk (Kd.V_below (Sq.al HO1) hb); have HO175 := Aside0.mk (Kd.V_lower (Kd.V_mono (ok' := fun k_ => ((P0_ k_ ∨ P1_ k_) ∨ w.heap.size ≤ k_)) ho0 (fun k_ hk_ => Or.elim hk_ (fun hs_ => hs_) (fun hn_ => (.inr (Nat.le_trans (below_size (Sq.bl HB)) hn_))))) (below_size (Sq.bl HB))); replace HB := Sq.bs HB hb; (try clear hb); (try clear hb2); (try clear hk); (try clear hi); (try clear ho0)) | ((with_reducible refine gate_callee (f := 127) rfl ?_); refine Sq.gl (some 17) Try.func127 #[.slice A1 l1.length c1] ?_; (with_reducible refine (nat_cut.calls k (fun k_ => ((P0_ k_ ∨ P1_ k_) ∨ w.heap.size ≤ k_)) _ _ l1 t176 _ ?side1 A4.out).mono ?_); (case side1 => exact HO1.out); rintro e w23 ⟨v177, rfl, ho0, hb⟩; refine ⟨_, rfl, ?_⟩; replace HO0 := Aside0.mk (Kd.V_below (Sq.al HO0) hb); replace HO1 := Aside0.mk (Kd.V_below (Sq.al HO1) hb); replace HO175 := Aside0.mk (Kd.V_below (Sq.al HO175) hb); have HO178 := Aside0.mk (Kd.V_lower (Kd.V_mono (ok' := fun k_ => ((P0_ k_ ∨ P1_ k_) ∨ w.heap.size ≤ k_)) ho0 (fun k_ hk_ => Or.elim hk_ (fun hs_ => hs_) (fun hn_ => (.inr (Nat.le_trans (below_size (Sq.bl HB)) hn_))))) (below_size (Sq.bl HB))); replace HB := Sq.bs HB hb; (try clear hb); (try clear hb2); (try clear hk); (try clear hi); (try clear ho0); obtain ⟨Ao24, co24, eo24⟩ := Kd.V_slice HO178.out; subst eo24; obtain ⟨Ao25, co25, eo25⟩ := Kd.V_slice HO175.out; subst eo25) | ((with_reducible refine gate_callee (f := 44) rfl ?_); refine Sq.gl (some 25) Try.func44 #[.slice Ao25 t173.length co25, .slice Ao24 t176.length co24] ?_; (with_reducible refine (nat_Cmp.calls k _ _ t173 _ _ t176 t179 _ ?side1 ?side2 ?side3 ?side4 A9.out).mono ?_); (case side1 => exact Sq.ca (Kd.V_reads' HO175.out).2.2); (case side2 => exact (Kd.V_reads' HO175.out).2.1); (case side3 => exact Sq.ca (Kd.V_reads' HO178.out).2.2); (case side4 => exact (Kd.V_reads' HO178.out).2.1); rintro e w26 ⟨rfl, hb⟩; refine ⟨_, rfl, ?_⟩; replace HO0 := Aside0.mk (Kd.V_below (Sq.al HO0) hb); replace HO1 := Aside0.mk (Kd.V_below (Sq.al HO1) hb); replace HO175 := Aside0.mk (Kd.V_below (Sq.al HO175) hb); replace HO178 := Aside0.mk (Kd.V_below (Sq.al HO178) hb); replace HB := Sq.bs HB hb; (try clear hb); (try clear hb2); (try clear hk); (try clear hi); have p183 : 0 ≤ (0 : Int) := (by omega); have q183 : 0 < (t176.length : Int) := of_decide_eq_true (by first | (with_reducible assumption) | assumption); obtain ⟨ad183, e183, hx183_0⟩ := Kd.at_int (Kd.V_reads' HO178.out).2.2 0 p183 q183; cases e183; have qi183 : (0 < t176.length) = True := eq_true (by omega); (try rw [show ((0 : Int)).toNat = 0 from rfl] at hx183_0); (try rw [Addr.add_zero'] at hx183_0); replace p183 := eq_true p183; replace q183 := eq_true q183) | ((with_reducible refine gate_callee (f := 129) rfl ?_); refine Sq.gl (some 38) Try.func129 #[.slice Ao25 t173.length co25, .int .u32 (rd t176 0)] ?_; (with_reducible refine (nat_small.calls k _ _ t173 (rd t176 0) t184 t187 _ ?side1 ?side2 A20.out).mono ?_); (case side1 => exact Sq.ca (Kd.V_reads' HO175.out).2.2); (case side2 => exact (Kd.V_reads' HO175.out).2.1); rintro e w27 ⟨v185, rfl, ho0, hb⟩; refine ⟨_, rfl, ?_⟩; replace HO0 := Aside0.mk (Kd.V_below (Sq.al HO0) hb); replace HO1 := Aside0.mk (Kd.V_below (Sq.al HO1) hb); replace HO175 := Aside0.mk (Kd.V_below (Sq.al HO175) hb); replace HO178 := Aside0.mk (Kd.V_below (Sq.al HO178) hb); have HO186 := Aside0.mk (Kd.V_lower (Kd.V_mono (ok' := fun k_ => ((P0_ k_ ∨ P1_ k_) ∨ w.heap.size ≤ k_)) ho0 (fun k_ hk_ => (.inr (Nat.le_trans (below_size (Sq.bl HB)) hk_)))) (below_size (Sq.bl HB))); replace HB := Sq.bs HB hb; (try clear hb); (try clear hb2); (try clear hk); (try clear hi); (try clear ho0)) | ((with_reducible refine gate_dst (N := 43) rfl ?_); refine Kd.R_lit (Kd.int .u32) _ 107 ?hg (N := 43) ?hd (xs := ([t187] : List Int)) (inner := [.int .u32 t187]) (ok := fun _ => True) (okp := fun _ => True) ?hr ?hp (fun _ hk => hk) trivial (Below.refl _ _) (Nat.le_refl _) (by simp) ?_; (case hd => rfl); (case hg => rfl); (case hr => first | (go_simp; done) | (go_simp; rfl)); (case hp => exact (Reps.one (show Kd.M (Kd.int .u32) _ _ _ t187 [.int .u32 t187] from rfl) (Reps.none _ _))); intro v189 w28 ho29 hb hg_ hnew_; clear hg_ hnew_; (first | rw [← Ny188.out] at ho29 | (simp only [Int.reduceToNat] at ho29; rw [← Ny188.out] at ho29)); replace HO0 := Aside0.mk (Kd.V_elder' (Sq.al HO0) (Kd.R_base ho29) hb); replace HO1 := Aside0.mk (Kd.V_elder' (Sq.al HO1) (Kd.R_base ho29) hb); replace HO175 := Aside0.mk (Kd.V_elder' (Sq.al HO175) (Kd.R_base ho29) hb); replace HO178 := Aside0.mk (Kd.V_elder' (Sq.al HO178) (Kd.R_base ho29) hb); replace HO186 := Aside0.mk (Kd.V_elder' (Sq.al HO186) (Kd.R_base ho29) hb); have HO190 := Aside0.mk (Kd.R_lower (Kd.R_newM (M := fun k_ => (w.heap.size ≤ k_)) ho29 (below_size (Sq.bl HB)) (fun k_ h_ => h_)) (below_size (Sq.bl HB))); replace HB := Sq.bs HB hb; clear hb ho29; obtain ⟨Ao30, co30, eo30⟩ := Kd.R_slice HO190.out; subst eo30) | ((with_reducible refine gate_callee (f := 127) rfl ?_); refine Sq.gl (some 44) Try.func127 #[.slice Ao30 y188.length co30] ?_; (with_reducible refine (nat_cut.calls k (fun k_ => some k_ = (.slice Ao30 y188.length co30 : Value).ownBlock) _ _ y188 t191 _ ?side1 A21.out).mono ?_); (case side1 => exact Kd.R_V (Kd.R_tight rfl (HO190.out))); rintro e w31 ⟨v192, rfl, ho0, hb⟩; refine ⟨_, rfl, ?_⟩; replace HO0 := Aside0.mk (Kd.V_below (Sq.al HO0) hb); replace HO1 := Aside0.mk (Kd.V_below (Sq.al HO1) hb); replace HO175 := Aside0.mk (Kd.V_below (Sq.al HO175) hb); replace HO178 := Aside0.mk (Kd.V_below (Sq.al HO178) hb); replace HO186 := Aside0.mk (Kd.V_below (Sq.al HO186) hb); have HO193 := Aside0.mk (Kd.V_lower (Kd.V_mono (ok' := fun k_ => ((P0_ k_ ∨ P1_ k_) ∨ w.heap.size ≤ k_)) ho0 (fun k_ hk_ => Or.elim hk_ (fun hs_ => (.inr (((HO190.out).1 k_ hs_.symm).1))) (fun hn_ => (.inr (Nat.le_trans (below_size (Sq.bl HB)) hn_))))) (below_size (Sq.bl HB))); replace HO190 := Aside0.mk (Kd.R_below (Sq.al HO190) hb); replace HB := Sq.bs HB hb; (try clear hb); (try clear hb2); (try clear hk); (try clear hi); (try clear ho0)))
    go_ret3
    exact ⟨_, _, by first | rfl | (simp [errW_none, errW_some] <;> rfl) | (simp [*, errW_none, errW_some] <;> rfl), by (with_reducible repeat (first | apply Kd.V_alloc | apply Kd.V_drewN | apply Kd.V_drew)); exact Kd.V_mono HO186.out (fun _ hk => hk.1), by (with_reducible repeat (first | apply Kd.V_alloc | apply Kd.V_drewN | apply Kd.V_drew)); exact HO193.out, Sq.bl HB⟩
   ·rw [if_neg c18] at H
    have c18b0 : ((t176.length : Int) == 1) = false := beq_eq_false_iff_ne.mpr c18
    have c18b1 : ((t176.length : Int) != 1) = true := bne_iff_ne.mpr c18
    obtain ⟨ji32, hji32⟩ : ∃ j_ : Int, (wrap64 ((t176.length : Int) - 1)) = j_ := ⟨_, rfl⟩
    (first | rw [hji32] at H | simp only [hji32] at H)
    (try rw [hji32] at A3)
    (try rw [hji32] at A4)
    (try rw [hji32] at A9)
    have hji32w : (IntKind.i64.wrap ((t176.length : Int) - 1)) = ji32 := (i64_w _).trans hji32
    replace H := Sq.ifs H
    obtain ⟨c33, H⟩ := H
    have c33b0 : decide (0 ≤ (ji32)) = true := decide_eq_true c33
    clear c33
    replace H := Sq.ifs H
    obtain ⟨c34, H⟩ := H
    have c34b0 : decide ((ji32) < (t176.length : Int)) = true := decide_eq_true c34
    clear c34
    replace H := Sq.bd H
    obtain ⟨t195, A35, H⟩ := H
    (try dsimp -simprocs only at H)
    replace H := Sq.bd H
    obtain ⟨t196, A36, H⟩ := H
    (try dsimp -simprocs only at H)
    replace H := Sq.bd H
    obtain ⟨t199, A37, H⟩ := H
    (try dsimp -simprocs only at H)
    replace H := Sq.ifs H
    obtain ⟨c38, H⟩ := H
    have c38b0 := eq_true c38
    have c38b1 : decide (0 ≤ (t176.length : Int)) = true := decide_eq_true c38
    clear c38
    replace H := Sq.ifs H
    obtain ⟨c39, H⟩ := H
    have c39b0 := eq_true c39
    have c39b1 : decide ((t176.length : Int) ≤ (t199.length : Int)) = true := decide_eq_true c39
    clear c39
    obtain ⟨y202, hy202⟩ : ∃ y_ : List Int, y_ = (t199.take ((t176.length : Int) : Int).toNat) := ⟨_, rfl⟩
    (first | (replace H := Sq.ny hy202 H; (try dsimp -simprocs only at H)) | rw [← hy202] at H | skip)
    have Ny202 := Aside0.mk hy202
    clear hy202
    obtain ⟨ji40, hji40⟩ : ∃ j_ : Int, (wrap64 ((wrap64 ((t173.length : Int) - (t176.length : Int))) + 1)) = j_ := ⟨_, rfl⟩
    (first | rw [hji40] at H | simp only [hji40] at H)
    (try rw [hji40] at A3)
    (try rw [hji40] at A4)
    (try rw [hji40] at A9)
    (try rw [hji40] at A35)
    (try rw [hji40] at A36)
    (try rw [hji40] at A37)
    have hji40w : (IntKind.i64.wrap ((wrap64 ((t173.length : Int) - (t176.length : Int))) + 1)) = ji40 := (i64_w _).trans hji40
    replace H := Sq.ifs H
    obtain ⟨c41, H⟩ := H
    have c41b0 := eq_true c41
    have c41b1 : decide (0 ≤ (ji40)) = true := decide_eq_true c41
    clear c41
    replace H := Sq.ifs H
    obtain ⟨c42, H⟩ := H
    have c42b0 := eq_true c42
    have c42b1 : decide ((ji40 : Int).toNat ≤ 70368744177664) = true := decide_eq_true c42
    clear c42
    obtain ⟨y206, hy206⟩ : ∃ y_ : List Int, y_ = (List.replicate (ji40 : Int).toNat 0) := ⟨_, rfl⟩
    (first | (replace H := Sq.ny hy206 H; (try dsimp -simprocs only at H)) | rw [← hy206] at H | skip)
    have Ny206 := Aside0.mk hy206
    clear hy206
    have H' := Aside0.mk H
    clear H
    go_enter Try.func31, Try.ntmps31
    try go_wp2_with (first | ((with_reducible refine gate_callee (f := 127) rfl ?_); refine Sq.gl (some 15) Try.func127 #[.slice A0 l0.length c0] ?_; (with_reducible refine (nat_cut.calls k (fun k_ => ((P0_ k_ ∨ P1_ k_) ∨ w.heap.size ≤ k_)) _ _ l0 t173 _ ?side1 A3.out).mono ?_); (case side1 => exact HO0.out); rintro e w43 ⟨v174, rfl, ho0, hb⟩; refine ⟨_, rfl, ?_⟩; replace HO0 := Aside0.mk (Kd.V_below (Sq.al HO0) hb); replace HO1 := Aside0.mk (Kd.V_below (Sq.al HO1) hb); have HO175 := Aside0.mk (Kd.V_lower (Kd.V_mono (ok' := fun k_ => ((P0_ k_ ∨ P1_ k_) ∨ w.heap.size ≤ k_)) ho0 (fun k_ hk_ => Or.elim hk_ (fun hs_ => hs_) (fun hn_ => (.inr (Nat.le_trans (below_size (Sq.bl HB)) hn_))))) (below_size (Sq.bl HB))); replace HB := Sq.bs HB hb; (try clear hb); (try clear hb2); (try clear hk); (try clear hi); (try clear ho0)) | ((with_reducible refine gate_callee (f := 127) rfl ?_); refine Sq.gl (some 17) Try.func127 #[.slice A1 l1.length c1] ?_; (with_reducible refine (nat_cut.calls k (fun k_ => ((P0_ k_ ∨ P1_ k_) ∨ w.heap.size ≤ k_)) _ _ l1 t176 _ ?side1 A4.out).mono ?_); (case side1 => exact HO1.out); rintro e w44 ⟨v177, rfl, ho0, hb⟩; refine ⟨_, rfl, ?_⟩; replace HO0 := Aside0.mk (Kd.V_below (Sq.al HO0) hb); replace HO1 := Aside0.mk (Kd.V_below (Sq.al HO1) hb); replace HO175 := Aside0.mk (Kd.V_below (Sq.al HO175) hb); have HO178 := Aside0.mk (Kd.V_lower (Kd.V_mono (ok' := fun k_ => ((P0_ k_ ∨ P1_ k_) ∨ w.heap.size ≤ k_)) ho0 (fun k_ hk_ => Or.elim hk_ (fun hs_ => hs_) (fun hn_ => (.inr (Nat.le_trans (below_size (Sq.bl HB)) hn_))))) (below_size (Sq.bl HB))); replace HB := Sq.bs HB hb; (try clear hb); (try clear hb2); (try clear hk); (try clear hi); (try clear ho0); obtain ⟨Ao45, co45, eo45⟩ := Kd.V_slice HO178.out; subst eo45; obtain ⟨Ao46, co46, eo46⟩ := Kd.V_slice HO175.out; subst eo46) | ((with_reducible refine gate_callee (f := 44) rfl ?_); refine Sq.gl (some 25) Try.func44 #[.slice Ao46 t173.length co46, .slice Ao45 t176.length co45] ?_; (with_reducible refine (nat_Cmp.calls k _ _ t173 _ _ t176 t179 _ ?side1 ?side2 ?side3 ?side4 A9.out).mono ?_); (case side1 => exact Sq.ca (Kd.V_reads' HO175.out).2.2); (case side2 => exact (Kd.V_reads' HO175.out).2.1); (case side3 => exact Sq.ca (Kd.V_reads' HO178.out).2.2); (case side4 => exact (Kd.V_reads' HO178.out).2.1); rintro e w47 ⟨rfl, hb⟩; refine ⟨_, rfl, ?_⟩; replace HO0 := Aside0.mk (Kd.V_below (Sq.al HO0) hb); replace HO1 := Aside0.mk (Kd.V_below (Sq.al HO1) hb); replace HO175 := Aside0.mk (Kd.V_below (Sq.al HO175) hb); replace HO178 := Aside0.mk (Kd.V_below (Sq.al HO178) hb); replace HB := Sq.bs HB hb; (try clear hb); (try clear hb2); (try clear hk); (try clear hi); have p194 : 0 ≤ ((ji32) : Int) := of_decide_eq_true (by first | (with_reducible assumption) | assumption); have q194 : (ji32) < (t176.length : Int) := of_decide_eq_true (by first | (with_reducible assumption) | assumption); obtain ⟨ad194, e194, hx194_0⟩ := Kd.at_int (Kd.V_reads' HO178.out).2.2 (ji32) p194 q194; cases e194; replace p194 := eq_true p194; replace q194 := eq_true q194) | ((with_reducible refine gate_callee (f := 130) rfl ?_); refine goesL_ (some 51) rfl rfl Try.func130 (by kernel_rfl) rfl #[.int .u32 (rd t176 (ji32))] rfl (by (try simp only [List.map_toArray, List.map_cons, List.map_nil]); first | done | (simp only [hji32]; rfl) | rfl | (simp only [List.length_drop, List.length_take]; rfl)) ?_; (with_reducible refine (bits_LeadingZeros32.calls (rd t176 (ji32)) t195 _ A35.out).mono ?_); rintro e w' ⟨rfl, ⟨nd, rfl⟩⟩; refine ⟨_, rfl, ?_⟩))
    (try (rw [drewN_self w47]; generalize hq_ : World.drewN w47 _ = w47; replace HO0 : Aside0 (Kd.V (Kd.int .u32) 107 w47 w.heap.size (fun k_ => ((P0_ k_ ∨ P1_ k_) ∨ w.heap.size ≤ k_)) (.slice A0 l0.length c0) l0) := ⟨by rw [← hq_]; exact (Sq.al HO0)⟩; replace HO1 : Aside0 (Kd.V (Kd.int .u32) 107 w47 w.heap.size (fun k_ => ((P0_ k_ ∨ P1_ k_) ∨ w.heap.size ≤ k_)) (.slice A1 l1.length c1) l1) := ⟨by rw [← hq_]; exact (Sq.al HO1)⟩; replace HO175 : Aside0 (Kd.V (Kd.int .u32) 107 w47 w.heap.size (fun k_ => ((P0_ k_ ∨ P1_ k_) ∨ w.heap.size ≤ k_)) (.slice Ao46 t173.length co46) t173) := ⟨by rw [← hq_]; exact (Sq.al HO175)⟩; replace HO178 : Aside0 (Kd.V (Kd.int .u32) 107 w47 w.heap.size (fun k_ => ((P0_ k_ ∨ P1_ k_) ∨ w.heap.size ≤ k_)) (.slice (some ad194) t176.length co45) t176) := ⟨by rw [← hq_]; exact (Sq.al HO178)⟩; replace HB : Aside0 (Below w.heap.size w w47) := ⟨by rw [← hq_]; exact (Sq.bl HB)⟩; clear hq_))
    replace HO0 := Aside0.mk (Kd.V_drew HO0.out)
    replace HO1 := Aside0.mk (Kd.V_drew HO1.out)
    replace HO175 := Aside0.mk (Kd.V_drew HO175.out)
    replace HO178 := Aside0.mk (Kd.V_drew HO178.out)
    replace HB := Aside0.mk (below_drew1 HB.out)
    refine start_ (n := 11) (S := fun w' => True) (ds := []) #[false, false, false, false, false, false, false, false, false, false, false] (by kernel_rfl) rfl rfl trivial (fun hHeld => ?_); refine with_tabW nat_Div.tab10 nat_Div.bits10 (fun HT_ HW_ => ?_)
    generalize w47.drew = w48 at HO0 HO1 HO175 HO178 HB hHeld ⊢
    refine Sq.pu (v := ?_) (a' := ?_) 0 (some 52) #[true, false, false, false, false, false, false, false, false, false, false] HT_ ?_ ?_ ?_
    rotate_left
    ·intro w'
     go_simp
     with_reducible rfl
    rotate_left
    ·simp only [Act.put, List.setIfInBounds_toArray, List.set_cons_zero, List.set_cons_succ, i64_w, i32_w]
     rfl
    refine Sq.pu (v := ?_) (a' := ?_) 1 (some 53) #[true, true, false, false, false, false, false, false, false, false, false] HT_ ?_ ?_ ?_
    rotate_left
    ·intro w'
     go_simp
     with_reducible rfl
    rotate_left
    ·simp only [Act.put, List.setIfInBounds_toArray, List.set_cons_zero, List.set_cons_succ, i64_w, i32_w]
     rfl
    refine Sq.pu (v := ?_) (a' := ?_) 3 (some 55) #[true, true, false, true, false, false, false, false, false, false, false] HT_ ?_ ?_ ?_
    rotate_left
    ·intro w'
     go_simp
     with_reducible rfl
    rotate_left
    ·simp only [Act.put, List.setIfInBounds_toArray, List.set_cons_zero, List.set_cons_succ, i64_w, i32_w]
     rfl
    refine Sq.pu (v := ?_) (a' := ?_) 4 (some 56) #[true, true, false, true, true, false, false, false, false, false, false] HT_ ?_ ?_ ?_
    rotate_left
    ·intro w'
     go_simp
     with_reducible rfl
    rotate_left
    ·simp only [Act.put, List.setIfInBounds_toArray, List.set_cons_zero, List.set_cons_succ, i64_w, i32_w]
     rfl
    refine Sq.pu (v := ?_) (a' := ?_) 6 (some 58) #[true, true, false, true, true, false, true, false, false, false, false] HT_ ?_ ?_ ?_
    rotate_left
    ·intro w'
     go_simp
     with_reducible rfl
    rotate_left
    ·simp only [Act.put, List.setIfInBounds_toArray, List.set_cons_zero, List.set_cons_succ, i64_w, i32_w]
     rfl
    refine Sq.pu (v := ?_) (a' := ?_) 7 (some 59) #[true, true, false, true, true, false, true, true, false, false, false] HT_ ?_ ?_ ?_
    rotate_left
    ·intro w'
     go_simp
     with_reducible rfl
    rotate_left
    ·simp only [Act.put, List.setIfInBounds_toArray, List.set_cons_zero, List.set_cons_succ, i64_w, i32_w]
     rfl
    refine one_ (i := 2) (N := some 54) #[true, true, true, true, true, false, true, true, false, false, false] rfl rfl (one_of HT_.out (by kernel_rfl)) (by decide) (fun K hK => ?_)
    refine goes_ Try.func131 (by kernel_rfl) rfl #[.slice Ao46 t173.length co46, .int .i64 t195] (by rfl) rfl rfl (by (try simp only [List.map_toArray, List.map_cons, List.map_nil]); first | done | rfl | (simp only [List.length_drop, List.length_take]; rfl)) ?_
    with_reducible refine (nat_left.calls k _ _ t173 t195 t196 _ ?side1 ?side2 A36.out).mono ?_
    (case side1 => exact Sq.ca (Kd.V_reads' HO175.out).2.2)
    (case side2 => exact (Kd.V_reads' HO175.out).2.1)
    rintro e w49 ⟨v197, rfl, ho0, hb⟩
    refine ⟨_, rfl, ?_⟩
    replace HO0 := Aside0.mk (Kd.V_elder' (Sq.al HO0) (Kd.R_base ho0) hb)
    replace HO1 := Aside0.mk (Kd.V_elder' (Sq.al HO1) (Kd.R_base ho0) hb)
    replace HO175 := Aside0.mk (Kd.V_elder' (Sq.al HO175) (Kd.R_base ho0) hb)
    replace HO178 := Aside0.mk (Kd.V_elder' (Sq.al HO178) (Kd.R_base ho0) hb)
    have HO198 := Aside0.mk (Kd.R_lower (Kd.R_newM (M := fun k_ => (w.heap.size ≤ k_)) ho0 (below_size (Sq.bl HB)) (fun k_ h_ => h_)) (below_size (Sq.bl HB)))
    replace HB := Sq.bs HB hb
    (try clear hb)
    (try clear hb2)
    (try clear hk)
    (try clear hi)
    (try clear ho0)
    refine hK.out _ _ trivial (fun hHeld => ?_)
    clear hK K
    refine norm_ (a' := ?_) ?_ ?_
    rotate_left
    ·show Act.put _ (some 54) _ = _
     simp only [Act.put, List.setIfInBounds_toArray, List.set_cons_zero, List.set_cons_succ, i64_w, i32_w]
     rfl
    refine one_ (i := 5) (N := some 57) #[true, true, true, true, true, true, true, true, false, false, false] rfl rfl (one_of HT_.out (by kernel_rfl)) (by decide) (fun K hK => ?_)
    refine goes_ Try.func131 (by kernel_rfl) rfl #[.slice (some ad194) t176.length co45, .int .i64 t195] (by rfl) rfl rfl (by (try simp only [List.map_toArray, List.map_cons, List.map_nil]); first | done | rfl | (simp only [List.length_drop, List.length_take]; rfl)) ?_
    with_reducible refine (nat_left.calls k _ _ t176 t195 t199 _ ?side1 ?side2 A37.out).mono ?_
    (case side1 => exact Sq.ca (Kd.V_reads' HO178.out).2.2)
    (case side2 => exact (Kd.V_reads' HO178.out).2.1)
    rintro e w50 ⟨v200, rfl, ho0, hb⟩
    refine ⟨_, rfl, ?_⟩
    replace HO0 := Aside0.mk (Kd.V_elder' (Sq.al HO0) (Kd.R_base ho0) hb)
    replace HO1 := Aside0.mk (Kd.V_elder' (Sq.al HO1) (Kd.R_base ho0) hb)
    replace HO175 := Aside0.mk (Kd.V_elder' (Sq.al HO175) (Kd.R_base ho0) hb)
    replace HO178 := Aside0.mk (Kd.V_elder' (Sq.al HO178) (Kd.R_base ho0) hb)
    have HO201 := Aside0.mk (Kd.R_lower (Kd.R_new' (Kd.R_newM (M := fun k_ => (w.heap.size ≤ k_)) ho0 (below_size (Sq.bl HB)) (fun k_ h_ => h_)) (Kd.R_lt (Sq.al HO198))) (below_size (Sq.bl HB)))
    replace HO198 := Aside0.mk (Kd.R_elder' (Sq.al HO198) (Kd.R_base ho0) hb)
    replace HB := Sq.bs HB hb
    (try clear hb)
    (try clear hb2)
    (try clear hk)
    (try clear hi)
    (try clear ho0)
    obtain ⟨Ao52, co52, eo52⟩ := Kd.R_slice HO201.out
    (first | subst eo52 | (injection eo52 with f1_ f2_ f3_; have f4_ := f1_.symm; have f5_ := f3_.symm; clear f1_ f2_ f3_; subst f4_; subst f5_))
    have q51 : ((t176.length : Int) : Int) ≤ ((t199.length : Int) : Int) := of_decide_eq_true (by first | (with_reducible assumption) | assumption)
    obtain ⟨i051, hi051, _, hsz51, _⟩ := info_parts info107
    have hroom51 : t199.length ≤ co52 := (Kd.R_reads' HO201.out).2.1
    have hC51 : Kd.C (Kd.int .u32) _ Ao52 t199.length t199 := (Kd.R_reads' HO201.out).2.2
    have hcut51 := cut_to (P := Try.prog) 22 107 .i64 Try.underlying22 hi051 Ao52 t199.length co52 (t176.length : Int) (of_decide_eq_true (by first | (with_reducible assumption) | assumption)) q51 hroom51
    have hr51 := Kd.C_take (m := ((t176.length : Int) : Int).toNat) hC51 (by omega)
    have hy51 : y202.length = ((t176.length : Int) : Int).toNat := (by rw [Ny202.out, List.length_take]; omega)
    rw [← Ny202.out] at hr51
    rw [← hy51] at hcut51
    have HR205 := Aside0.mk hr51
    have HC205 := Aside0.mk (show y202.length ≤ co52 from by omega)
    clear hr51 hC51 hroom51 hi051 hsz51
    have KY51 := Aside0.mk hy51
    clear hy51
    have KL51 := Aside0.mk (show ((t176.length : Int) : Int).toNat ≤ t199.length from by omega)
    replace q51 := eq_true q51
    refine hK.out _ _ trivial (fun hHeld => ?_)
    clear hK K
    refine norm_ (a' := ?_) ?_ ?_
    rotate_left
    ·show Act.put _ (some 57) _ = _
     simp only [Act.put, List.setIfInBounds_toArray, List.set_cons_zero, List.set_cons_succ, i64_w, i32_w]
     rfl
    refine Sq.pu (v := ?_) (a' := ?_) 8 (some 60) #[true, true, true, true, true, true, true, true, true, false, false] HT_ ?_ ?_ ?_
    rotate_left
    ·intro w'
     go_simp
     with_reducible rfl
    rotate_left
    ·simp only [Act.put, List.setIfInBounds_toArray, List.set_cons_zero, List.set_cons_succ, i64_w, i32_w]
     rfl
    refine Sq.pu (v := ?_) (a' := ?_) 9 (some 10) #[true, true, true, true, true, true, true, true, true, true, false] HT_ ?_ ?_ ?_
    rotate_left
    ·intro w'
     go_simp
     with_reducible rfl
    rotate_left
    ·simp only [Act.put, List.setIfInBounds_toArray, List.set_cons_zero, List.set_cons_succ, i64_w, i32_w]
     rfl
    refine Sq.pu (v := ?_) (a' := ?_) 10 (some 11) #[true, true, true, true, true, true, true, true, true, true, true] HT_ ?_ ?_ ?_
    rotate_left
    ·intro w'
     go_simp
     with_reducible rfl
    rotate_left
    ·simp only [Act.put, List.setIfInBounds_toArray, List.set_cons_zero, List.set_cons_succ, i64_w, i32_w]
     rfl
    refine done_ (done_of HT_.out (by kernel_rfl)) ?_
    try go_wp2_with (first | ((with_reducible refine gate_dst (N := 67) rfl ?_); refine Kd.R_make (Kd.int .u32) _ 107 rfl (N := 67) rfl 22 _ _ rfl ji40 rfl rfl Try.underlying22 (.int .u32 0) 4 info107 rfl (by decide) (by omega) 0 (ok := fun _ => True) (okp := fun _ => True) rfl (fun _ hk => hk) trivial (of_decide_eq_true (by first | (with_reducible assumption) | assumption)) (Nat.le_trans (Nat.mul_le_mul_right _ (of_decide_eq_true (by first | (with_reducible assumption) | assumption) : ji40.toNat ≤ 70368744177664)) (by omega)) (Below.refl _ _) (Nat.le_refl _) ?_; intro v207 w53 ho54 hb hg_ hnew_; clear hg_ hnew_; (first | rw [← Ny206.out] at ho54 | (simp only [Int.reduceToNat] at ho54; rw [← Ny206.out] at ho54)); replace HO0 := Aside0.mk (Kd.V_elder' (Sq.al HO0) (Kd.R_base ho54) hb); replace HO1 := Aside0.mk (Kd.V_elder' (Sq.al HO1) (Kd.R_base ho54) hb); replace HO175 := Aside0.mk (Kd.V_elder' (Sq.al HO175) (Kd.R_base ho54) hb); replace HO178 := Aside0.mk (Kd.V_elder' (Sq.al HO178) (Kd.R_base ho54) hb); have HO208 := Aside0.mk (Kd.R_lower (Kd.R_new' (Kd.R_new' (Kd.R_newM (M := fun k_ => (w.heap.size ≤ k_)) ho54 (below_size (Sq.bl HB)) (fun k_ h_ => h_)) (Kd.R_lt (Sq.al HO198))) (Kd.R_lt (Sq.al HO201))) (below_size (Sq.bl HB))); replace HR205 := Aside0.mk (Kd.C_below (by repeat (first | (with_reducible exact HR205.out) | (with_reducible refine Kd.C_alloc ?_ _) | (with_reducible refine Kd.C_drewN ?_ _) | (with_reducible refine Kd.C_drew ?_) | exact HR205.out)) hb); replace HO198 := Aside0.mk (Kd.R_elder' (Sq.al HO198) (Kd.R_base ho54) hb); replace HO201 := Aside0.mk (Kd.R_elder' (Sq.al HO201) (Kd.R_base ho54) hb); replace HB := Sq.bs HB hb; clear hb ho54; obtain ⟨Ao55, co55, eo55⟩ := Kd.R_slice HO208.out; subst eo55))
    have HT := Aside0.mk (show Kd.R (Kd.int .u32) 107 _ _ _ (.slice Ao52 y202.length co52) y202 from by have h_ := Kd.R_take (m := ((t176.length : Int) : Int).toNat) HO201.out KL51.out; rw [← Ny202.out, ← KY51.out] at h_; exact h_)
    go_loopg [13] k (fun kq v13 w' => ∃ (x10_1 : List Int) (x12_1 : List Int) (x13_1 : Int), v13 = .int .i64 x13_1 ∧ Aside0 (nat_Div.l0 kq t176 t195 x10_1 y202 x12_1 x13_1 = some (r1, r2, r3)) ∧ Aside0 (kq ≤ k) ∧ Aside0 (Kd.V (Kd.int .u32) 107 w' w.heap.size (fun k_ => ((P0_ k_ ∨ P1_ k_) ∨ w.heap.size ≤ k_) ∧ some k_ ≠ (v197 : Value).ownBlock ∧ some k_ ≠ ((.slice Ao55 y206.length co55) : Value).ownBlock) (.slice (some ad194) t176.length co45) t176) ∧ Aside0 (Kd.V (Kd.int .u32) 107 w' w.heap.size (fun k_ => ((P0_ k_ ∨ P1_ k_) ∨ w.heap.size ≤ k_) ∧ some k_ ≠ (v197 : Value).ownBlock ∧ some k_ ≠ ((.slice Ao55 y206.length co55) : Value).ownBlock) (.slice Ao52 y202.length co52) y202) ∧ Aside0 (Kd.R (Kd.int .u32) 107 w' w.heap.size (fun k_ => (w.heap.size ≤ k_) ∧ some k_ ≠ ((.slice Ao55 y206.length co55) : Value).ownBlock) v197 x10_1) ∧ Aside0 (Kd.R (Kd.int .u32) 107 w' w.heap.size (fun k_ => (w.heap.size ≤ k_) ∧ some k_ ≠ (v197 : Value).ownBlock) (.slice Ao55 y206.length co55) x12_1) ∧ Aside0 (Below w.heap.size w w'))
    case atStart => exact ⟨(t196), (y206), (wrap64 ((y206.length : Int) - 1)), (by first | rfl | (simp; done) | (simp [*]; done)), H', ⟨Nat.le_refl _⟩, ⟨by (with_reducible repeat (first | apply Kd.V_alloc | apply Kd.V_drewN | apply Kd.V_drew)); exact Kd.V_mono HO178.out (fun _ hk => ⟨hk.1.1.1, ⟨hk.1.1.2, hk.2⟩⟩)⟩, ⟨Kd.V_mono (Kd.R_V (base' := w.heap.size) HT.out) (fun k_ hk => ⟨.inr hk.1.1.1, hk.1.2, hk.2⟩)⟩, ⟨by (with_reducible repeat (first | apply Kd.R_alloc | apply Kd.R_drewN | apply Kd.R_drew)); exact Kd.R_mono HO198.out (fun _ hk => ⟨hk.1.1.1, hk.2⟩)⟩, ⟨by (with_reducible repeat (first | apply Kd.R_alloc | apply Kd.R_drewN | apply Kd.R_drew)); exact Kd.R_mono HO208.out (fun _ hk => ⟨hk.1.1.1, hk.1.2⟩)⟩, ⟨Sq.bl HB⟩⟩
    case round =>
     clear H'
     try clear c1
     try clear p1
     try clear q1
     try clear hx1
     try clear qi1
     try clear p2
     try clear c3
     try clear c4
     try clear c5
     try clear c5b0
     try clear c5b1
     try clear c5b2
     try clear q5
     try clear p6
     try clear c10
     try clear c10b0
     try clear c12
     try clear c13
     try clear c18
     try clear c18b0
     try clear c18b1
     try clear p18
     try clear q18
     try clear hx18
     try clear qi18
     try clear c19
     try clear c19b0
     try clear c19b1
     try clear p19
     try clear q19
     try clear hx19
     try clear c31
     try clear c33
     try clear c33b0
     try clear c34
     try clear c34b0
     try clear c38
     try clear c38b0
     try clear c38b1
     try clear c39
     try clear c39b0
     try clear c39b1
     try clear c41
     try clear c41b0
     try clear c41b1
     try clear c42
     try clear c42b0
     try clear c42b1
     try clear c44
     try clear q51
     try clear hx183_0
     try clear hx194_0
     try clear p183
     try clear p194
     try clear q183
     try clear q194
     try clear q51
     obtain ⟨x10_1, x12_1, x13_1, rfl, HA, HK1, HO_1, HX, HO_10, HO_12, HB⟩ := hrel
     have hl12_1 := (Kd.R_reads' HO_12.out).1
     rw [hl12_1] at HO_12
     (try simp only [hl12_1])
     (try simp only [hl12_1] at HO_1)
     (try simp only [hl12_1] at HX)
     (try simp only [hl12_1] at HO_10)
     cases gk with
     | zero => exact absurd HA.out (by simp [nat_Div.l0])
     | succ k1 =>
      have H := HA.out
      clear HA
      simp only [nat_Div.l0] at H
      by_cases c56 : x13_1 ≥ 0
      ·rw [if_pos c56] at H
       have c56b0 : decide (0 ≤ x13_1) = true := decide_eq_true c56
       clear c56
       replace H := Sq.bd H
       obtain ⟨t209, A57, H⟩ := H
       (try dsimp -simprocs only at H)
       replace H := Sq.bd H
       obtain ⟨⟨t210, t211⟩, A58, H⟩ := H
       (try dsimp -simprocs only at H)
       replace H := Sq.ifs H
       obtain ⟨c59, H⟩ := H
       have c59b0 : decide (0 ≤ x13_1) = true := decide_eq_true c59
       clear c59
       replace H := Sq.ifs H
       obtain ⟨c60, H⟩ := H
       have c60b0 : decide (x13_1 < (x12_1.length : Int)) = true := decide_eq_true c60
       clear c60
       obtain ⟨y212, hy212⟩ : ∃ y_ : List Int, y_ = (x12_1.set (x13_1 : Int).toNat t210) := ⟨_, rfl⟩
       (first | (replace H := Sq.ny hy212 H; (try dsimp -simprocs only at H)) | rw [← hy212] at H | skip)
       have Ny212 := Aside0.mk hy212
       clear hy212
       have H' := Aside0.mk H
       clear H
       obtain ⟨Ao62, co62, eo62⟩ := Kd.R_slice HO_10.out
       subst eo62
       go_wp2_with (first | ((with_reducible refine gate_callee (f := 133) rfl ?_); refine Sq.gl (some 83) Try.func133 #[.slice Ao62 x10_1.length co62, (.slice Ao52 y202.length co52), .int .i64 x13_1] ?_; (with_reducible refine (nat_guess.calls k1 _ _ x10_1 _ _ y202 x13_1 t209 _ ?side1 ?side2 ?side3 ?side4 A57.out).mono ?_); (case side1 => exact Sq.ca (Kd.R_reads' HO_10.out).2.2); (case side2 => exact (Kd.R_reads' HO_10.out).2.1); (case side3 => exact Sq.ca (Kd.V_reads' HX.out).2.2); (case side4 => exact HC205.out); rintro e w' ⟨rfl, ⟨nd, rfl⟩⟩; refine ⟨_, rfl, ?_⟩; (try (rw [drewN_self wr]; generalize hq_ : World.drewN wr _ = wr; have n0_ : Aside0 (Kd.V (Kd.int .u32) 107 wr w.heap.size (fun k_ => ((P0_ k_ ∨ P1_ k_) ∨ w.heap.size ≤ k_) ∧ some k_ ≠ (.slice Ao62 x10_1.length co62 : Value).ownBlock ∧ some k_ ≠ (.slice Ao55 x12_1.length co55 : Value).ownBlock) (.slice (some ad194) t176.length co45) t176) := ⟨by rw [← hq_]; exact (Sq.al HO_1)⟩; have nX_ : Aside0 (Kd.V (Kd.int .u32) 107 wr w.heap.size (fun k_ => ((P0_ k_ ∨ P1_ k_) ∨ w.heap.size ≤ k_) ∧ some k_ ≠ (.slice Ao62 x10_1.length co62 : Value).ownBlock ∧ some k_ ≠ (.slice Ao55 x12_1.length co55 : Value).ownBlock) (.slice Ao52 y202.length co52) y202) := ⟨by rw [← hq_]; exact (Sq.al HX)⟩; have n1_ : Aside0 (Kd.R (Kd.int .u32) 107 wr w.heap.size (fun k_ => (w.heap.size ≤ k_) ∧ some k_ ≠ (.slice Ao55 x12_1.length co55 : Value).ownBlock) (.slice Ao62 x10_1.length co62) x10_1) := ⟨by rw [← hq_]; exact (Sq.al HO_10)⟩; have n2_ : Aside0 (Kd.R (Kd.int .u32) 107 wr w.heap.size (fun k_ => (w.heap.size ≤ k_) ∧ some k_ ≠ (.slice Ao62 x10_1.length co62 : Value).ownBlock) (.slice Ao55 x12_1.length co55) x12_1) := ⟨by rw [← hq_]; exact (Sq.al HO_12)⟩; have n3_ : Aside0 (Below w.heap.size w wr) := ⟨by rw [← hq_]; exact (Sq.bl HB)⟩; clear HO_1 HO_10 HO_12 HB hq_; have HO_1 := n0_; clear HX; have HX := nX_; clear nX_; have HO_10 := n1_; have HO_12 := n2_; have HB := n3_; clear n0_ n1_ n2_ n3_))) | ((with_reducible refine gate_callee (f := 132) rfl ?_); refine Sq.gl (some 84) Try.func132 #[.slice Ao62 x10_1.length co62, (.slice Ao52 y202.length co52), .int .i64 x13_1, .int .u64 t209] ?_; (with_reducible refine (nat_take.calls k1 (fun k_ => some k_ = (.slice Ao62 x10_1.length co62 : Value).ownBlock) (.slice Ao62 x10_1.length co62) x10_1 _ _ y202 x13_1 t209 t210 t211 w _ ?side1 ?side2 ?side3 ?side4 A58.out).mono ?_); (case side1 => repeat (first | (with_reducible first | exact HB.out | apply below_alloc | apply pw_below_drewN | apply below_drew1) | exact HB.out)); (case side2 => exact Kd.R_tight rfl HO_10.out); (case side3 => exact Kd.C_kept_ownV HX.out (fun k_ hk_ hs_ => (hk_.2.1) hs_)); (case side4 => exact HC205.out); rintro e w63 ⟨rfl, hy0, hb, hkp⟩; refine ⟨_, rfl, ?_⟩; have n0_ := Aside0.mk (Kd.V_mono (ok' := fun k_ => ((P0_ k_ ∨ P1_ k_) ∨ w.heap.size ≤ k_) ∧ some k_ ≠ (.slice Ao62 x10_1.length co62 : Value).ownBlock ∧ some k_ ≠ (.slice Ao55 x12_1.length co55 : Value).ownBlock) (Kd.V_keptB (HO_1.out) hkp (fun k_ hk_ hs_ => (hk_.2.1) hs_)) (fun k_ hk_ => ⟨hk_.1.1, hk_.1.2.1, hk_.1.2.2⟩)); have nX_ := Aside0.mk (Kd.V_mono (ok' := fun k_ => ((P0_ k_ ∨ P1_ k_) ∨ w.heap.size ≤ k_) ∧ some k_ ≠ (.slice Ao62 x10_1.length co62 : Value).ownBlock ∧ some k_ ≠ (.slice Ao55 x12_1.length co55 : Value).ownBlock) (Kd.V_keptB (HX.out) hkp (fun k_ hk_ hs_ => (hk_.2.1) hs_)) (fun k_ hk_ => ⟨hk_.1.1, hk_.1.2.1, hk_.1.2.2⟩)); have n1_ := Aside0.mk (Kd.R_reok rfl hy0 (fun k_ e_ => HO_10.out.1 k_ e_)); have n2_ := Aside0.mk (Kd.R_mono (ok' := fun k_ => (w.heap.size ≤ k_) ∧ some k_ ≠ (.slice Ao62 x10_1.length co62 : Value).ownBlock) (Kd.R_keptB (HO_12.out) hkp (fun k_ hk_ hs_ => (hk_.2) hs_)) (fun k_ hk_ => ⟨hk_.1.1, hk_.1.2⟩)); have n3_ := Aside0.mk (hb); clear HO_1; clear HO_10; clear HO_12; clear HB; have HO_1 := n0_; clear HX; have HX := nX_; clear nX_; have HO_10 := n1_; have HO_12 := n2_; have HB := n3_; clear n0_ n1_ n2_ n3_; (try clear hb); (try clear hkp); (try clear hy0); have p61 : 0 ≤ (x13_1 : Int) := of_decide_eq_true (by first | (with_reducible assumption) | assumption); have q61 : (x13_1 : Int) < ((x12_1.length : Int) : Int) := of_decide_eq_true (by first | (with_reducible assumption) | assumption); obtain ⟨go61, co61, eo61, gb61, gl61, cl61, HG61⟩ := Kd.R_form HO_12.out (by omega); (first | cases eo61 | (injection eo61 with ea_ en_ ec_; (first | subst ea_ | (injection ea_ with ea_; subst ea_)); subst ec_; clear en_)); have GB61 := Aside0.mk gb61; have GG61 := Aside0.mk HG61; clear gb61 gl61 HG61; obtain ⟨hx61_0, hf61_0⟩ := Kd.R_celln 0 HO_12.out (x13_1 : Int) p61 q61; replace p61 := eq_true p61; replace q61 := eq_true q61; obtain ⟨hy64_, hz64_⟩ := Kd.R_celln 0 HO_12.out (x13_1 : Int) (of_decide_eq_true (by first | (with_reducible assumption) | assumption)) (of_decide_eq_true (by first | (with_reducible assumption) | assumption)); have HP64 := Kd.R_putg HO_12.out (x13_1 : Int) t210) | ((with_reducible refine gate_store (t := 107) (p := 85) rfl ?_); refine store_event (t := 107) (p := 85) (v := ?vo_w65) (w1 := (w63.setCell ⟨go61, (x13_1 : Int).toNat, none⟩ (.int .u32 t210))) ?hg ?ho ?hn ?hr ?_; (case ho => rfl); (case hg => rfl); (case hn => rfl); (case hr => first | (go_simp; done) | (go_simp; rfl)); intro w65 hw; have hg : w63.grownBy w65 (some go61) := (by rw [hw]; exact HP64.2); have hp_ : Kd.R (Kd.int .u32) 107 w65 w.heap.size (fun k_ => (w.heap.size ≤ k_) ∧ some k_ ≠ (.slice Ao62 x10_1.length co62 : Value).ownBlock) (.slice (some ⟨go61, 0, none⟩) x12_1.length co55) y212 := (by rw [hw, Ny212.out]; exact HP64.1); clear HP64; have n0_ := Aside0.mk (Kd.V_afterv (v := (.slice (some ⟨go61, 0, none⟩) x12_1.length co55)) (v1 := (.slice (some ⟨go61, 0, none⟩) x12_1.length co55)) (ok := (fun k_ => ((P0_ k_ ∨ P1_ k_) ∨ w.heap.size ≤ k_) ∧ some k_ ≠ (.slice Ao62 x10_1.length co62 : Value).ownBlock)) (by (with_reducible repeat (first | apply Kd.V_alloc | apply Kd.V_drewN | apply Kd.V_drew)); exact Kd.V_mono HO_1.out (fun _ hk => ⟨⟨hk.1, hk.2.1⟩, hk.2.2⟩)) hg (.inl rfl)); have nX_ := Aside0.mk (Kd.V_afterv (v := (.slice (some ⟨go61, 0, none⟩) x12_1.length co55)) (v1 := (.slice (some ⟨go61, 0, none⟩) x12_1.length co55)) (ok := (fun k_ => ((P0_ k_ ∨ P1_ k_) ∨ w.heap.size ≤ k_) ∧ some k_ ≠ (.slice Ao62 x10_1.length co62 : Value).ownBlock)) (by (with_reducible repeat (first | apply Kd.V_alloc | apply Kd.V_drewN | apply Kd.V_drew)); exact Kd.V_mono HX.out (fun _ hk => ⟨⟨hk.1, hk.2.1⟩, hk.2.2⟩)) hg (.inl rfl)); have n1_ := Aside0.mk (Kd.R_after (v := (.slice (some ⟨go61, 0, none⟩) x12_1.length co55)) (v1 := (.slice (some ⟨go61, 0, none⟩) x12_1.length co55)) (ok := (fun k_ => (w.heap.size ≤ k_))) (Sq.al HO_10) hg (.inl rfl)); have n2_ := Aside0.mk (hp_); have n3_ := Aside0.mk ((by rw [hw]; exact below_set (HB.out) GB61.out : Below w.heap.size w w65)); clear HO_1; clear HO_10; clear HO_12; clear HB; have HO_1 := n0_; clear HX; have HX := nX_; clear nX_; have HO_10 := n1_; have HO_12 := n2_; have HB := n3_; clear n0_ n1_ n2_ n3_; clear hg hw hp_))
       (try simp only [← hl12_1])
       go_roundg k1
       case measure => have := HK1.out; omega
       case rel => exact ⟨(t211), (y212), (wrap64 (x13_1 - 1)), (by first | rfl | (simp; done) | (simp [*]; done)), H', ⟨by have := HK1.out; omega⟩, ⟨by (try simp only [hl12_1]); (with_reducible repeat (first | apply Kd.V_alloc | apply Kd.V_drewN | apply Kd.V_drew)); exact Kd.V_mono HO_1.out (fun _ hk => ⟨hk.1.1, ⟨hk.1.2, hk.2⟩⟩)⟩, ⟨by (try simp only [hl12_1]); (with_reducible repeat (first | apply Kd.V_alloc | apply Kd.V_drewN | apply Kd.V_drew)); exact Kd.V_mono HX.out (fun _ hk => ⟨hk.1.1, ⟨hk.1.2, hk.2⟩⟩)⟩, ⟨by (try simp only [hl12_1]); (with_reducible repeat (first | apply Kd.R_alloc | apply Kd.R_drewN | apply Kd.R_drew)); exact HO_10.out⟩, ⟨by (try simp only [hl12_1]); (with_reducible repeat (first | apply Kd.R_alloc | apply Kd.R_drewN | apply Kd.R_drew)); exact HO_12.out⟩, ⟨Sq.bl HB⟩⟩
      ·rw [if_neg c56] at H
       have c56b0 : decide (0 ≤ x13_1) = false := decide_eq_false c56
       clear c56
       replace H := Sq.bd H
       obtain ⟨t213, A66, H⟩ := H
       (try dsimp -simprocs only at H)
       replace H := Sq.ifs H
       obtain ⟨c67, H⟩ := H
       have c67b0 := eq_true c67
       have c67b1 : decide (0 ≤ (t176.length : Int)) = true := decide_eq_true c67
       clear c67
       replace H := Sq.ifs H
       obtain ⟨c68, H⟩ := H
       have c68b0 := eq_true c68
       have c68b1 : decide ((t176.length : Int) ≤ (x10_1.length : Int)) = true := decide_eq_true c68
       clear c68
       obtain ⟨y216, hy216⟩ : ∃ y_ : List Int, y_ = (x10_1.take ((t176.length : Int) : Int).toNat) := ⟨_, rfl⟩
       (first | (replace H := Sq.ny hy216 H; (try dsimp -simprocs only at H)) | rw [← hy216] at H | skip)
       have Ny216 := Aside0.mk hy216
       clear hy216
       replace H := Sq.bd H
       obtain ⟨t220, A69, H⟩ := H
       (try dsimp -simprocs only at H)
       simp only [Option.some.injEq, Prod.mk.injEq] at H
       obtain ⟨rfl, rfl, rfl⟩ := H
       try go_wp2
       replace HO_1 := Aside0.mk (Kd.V_drew HO_1.out)
       replace HO_10 := Aside0.mk (Kd.R_drew HO_10.out)
       replace HO_12 := Aside0.mk (Kd.R_drew HO_12.out)
       replace HB := Aside0.mk (below_drew1 HB.out)
       obtain ⟨Ao72, co72, eo72⟩ := Kd.R_slice HO_10.out
       (first | subst eo72 | (injection eo72 with f1_ f2_ f3_; have f4_ := f1_.symm; have f5_ := f3_.symm; clear f1_ f2_ f3_; subst f4_; subst f5_))
       have q71 : ((t176.length : Int) : Int) ≤ ((x10_1.length : Int) : Int) := of_decide_eq_true (by first | (with_reducible assumption) | assumption)
       obtain ⟨i071, hi071, _, hsz71, _⟩ := info_parts info107
       have hroom71 : x10_1.length ≤ co72 := (Kd.R_reads' HO_10.out).2.1
       have hC71 : Kd.C (Kd.int .u32) _ Ao72 x10_1.length x10_1 := (Kd.R_reads' HO_10.out).2.2
       have hcut71 := cut_to (P := Try.prog) 22 107 .i64 Try.underlying22 hi071 Ao72 x10_1.length co72 (t176.length : Int) (of_decide_eq_true (by first | (with_reducible assumption) | assumption)) q71 hroom71
       have hr71 := Kd.C_take (m := ((t176.length : Int) : Int).toNat) hC71 (by omega)
       have hy71 : y216.length = ((t176.length : Int) : Int).toNat := (by rw [Ny216.out, List.length_take]; omega)
       rw [← Ny216.out] at hr71
       rw [← hy71] at hcut71
       have HR219 := Aside0.mk hr71
       have HC219 := Aside0.mk (show y216.length ≤ co72 from by omega)
       clear hr71 hC71 hroom71 hi071 hsz71
       have KY71 := Aside0.mk hy71
       clear hy71
       have KL71 := Aside0.mk (show ((t176.length : Int) : Int).toNat ≤ x10_1.length from by omega)
       replace q71 := eq_true q71
       refine start_ (n := 11) (S := fun w' => True) (ds := []) #[false, false, false, false, false, false, false, false, false, false, false] (by kernel_rfl) rfl rfl trivial (fun hHeld => ?_); refine with_tabW nat_Div.tab16 nat_Div.bits16 (fun HT_ HW_ => ?_)
       generalize wr.drew = w70 at HO_1 HO_10 HO_12 HB HR219 hHeld ⊢
       refine Sq.pu (v := ?_) (a' := ?_) 0 (some 86) #[true, false, false, false, false, false, false, false, false, false, false] HT_ ?_ ?_ ?_
       rotate_left
       ·intro w'
        go_simp
        with_reducible rfl
       rotate_left
       ·simp only [Act.put, List.setIfInBounds_toArray, List.set_cons_zero, List.set_cons_succ, i64_w, i32_w]
        rfl
       refine Sq.pu (v := ?_) (a' := ?_) 2 (some 88) #[true, false, true, false, false, false, false, false, false, false, false] HT_ ?_ ?_ ?_
       rotate_left
       ·intro w'
        go_simp
        with_reducible rfl
       rotate_left
       ·simp only [Act.put, List.setIfInBounds_toArray, List.set_cons_zero, List.set_cons_succ, i64_w, i32_w]
        rfl
       refine Sq.pu (v := ?_) (a' := ?_) 3 (some 89) #[true, false, true, true, false, false, false, false, false, false, false] HT_ ?_ ?_ ?_
       rotate_left
       ·intro w'
        go_simp
        with_reducible rfl
       rotate_left
       ·simp only [Act.put, List.setIfInBounds_toArray, List.set_cons_zero, List.set_cons_succ, i64_w, i32_w]
        rfl
       refine Sq.pu (v := ?_) (a' := ?_) 4 (some 90) #[true, false, true, true, true, false, false, false, false, false, false] HT_ ?_ ?_ ?_
       rotate_left
       ·intro w'
        go_simp
        with_reducible rfl
       rotate_left
       ·simp only [Act.put, List.setIfInBounds_toArray, List.set_cons_zero, List.set_cons_succ, i64_w, i32_w]
        rfl
       refine Sq.pu (v := ?_) (a' := ?_) 5 (some 91) #[true, false, true, true, true, true, false, false, false, false, false] HT_ ?_ ?_ ?_
       rotate_left
       ·intro w'
        go_simp
        with_reducible rfl
       rotate_left
       ·simp only [Act.put, List.setIfInBounds_toArray, List.set_cons_zero, List.set_cons_succ, i64_w, i32_w]
        rfl
       refine Sq.pu (v := ?_) (a' := ?_) 6 (some 92) #[true, false, true, true, true, true, true, false, false, false, false] HT_ ?_ ?_ ?_
       rotate_left
       ·intro w'
        go_simp
        with_reducible rfl
       rotate_left
       ·simp only [Act.put, List.setIfInBounds_toArray, List.set_cons_zero, List.set_cons_succ, i64_w, i32_w]
        rfl
       refine one_ (i := 1) (N := some 87) #[true, true, true, true, true, true, true, false, false, false, false] rfl rfl (one_of HT_.out (by kernel_rfl)) (by decide) (fun K hK => ?_)
       refine goes_ Try.func127 (by kernel_rfl) rfl #[.slice Ao55 x12_1.length co55] (by rfl) rfl rfl (by (try simp only [List.map_toArray, List.map_cons, List.map_nil]); first | done | rfl | (simp only [List.length_drop, List.length_take]; rfl)) ?_
       with_reducible refine (nat_cut.calls k1 (fun k_ => some k_ = (.slice Ao55 x12_1.length co55 : Value).ownBlock) _ _ x12_1 t213 _ ?side1 A66.out).mono ?_
       (case side1 => exact Kd.R_V (Kd.R_tight rfl (HO_12.out)))
       rintro e w73 ⟨v214, rfl, ho0, hb⟩
       refine ⟨_, rfl, ?_⟩
       replace HO_1 := Aside0.mk (Kd.V_below (Sq.al HO_1) hb)
       have HO215 := Aside0.mk (Kd.V_lower (Kd.V_mono (ok' := fun k_ => ((P0_ k_ ∨ P1_ k_) ∨ w.heap.size ≤ k_) ∧ some k_ ≠ (.slice Ao72 x10_1.length co72 : Value).ownBlock) ho0 (fun k_ hk_ => ⟨Or.elim hk_ (fun hs_ => (.inr (((HO_12.out).1 k_ hs_.symm).1))) (fun hn_ => (.inr (Nat.le_trans (below_size (Sq.bl HB)) hn_))), Or.elim hk_ (fun hs_ => ((HO_12.out).1 k_ hs_.symm).2) (fun hn_ => (Kd.fresh' (Kd.R_lt (Sq.al HO_10)) k_ hn_))⟩)) (below_size (Sq.bl HB)))
       replace HR219 := Aside0.mk (Kd.C_below (by repeat (first | (with_reducible exact HR219.out) | (with_reducible refine Kd.C_alloc ?_ _) | (with_reducible refine Kd.C_drewN ?_ _) | (with_reducible refine Kd.C_drew ?_) | exact HR219.out)) hb)
       replace HO_10 := Aside0.mk (Kd.R_below (Sq.al HO_10) hb)
       replace HO_12 := Aside0.mk (Kd.R_below (Sq.al HO_12) hb)
       replace HB := Sq.bs HB hb
       (try clear hb)
       (try clear hb2)
       (try clear hk)
       (try clear hi)
       (try clear ho0)
       refine hK.out _ _ trivial (fun hHeld => ?_)
       clear hK K
       refine norm_ (a' := ?_) ?_ ?_
       rotate_left
       ·show Act.put _ (some 87) _ = _
        simp only [Act.put, List.setIfInBounds_toArray, List.set_cons_zero, List.set_cons_succ, i64_w, i32_w]
        rfl
       refine one_ (i := 7) (N := some 93) #[true, true, true, true, true, true, true, true, false, false, false] rfl rfl (one_of HT_.out (by kernel_rfl)) (by decide) (fun K hK => ?_)
       refine goes_ Try.func134 (by kernel_rfl) rfl #[.slice Ao72 y216.length co72, .int .i64 t195] (by rfl) rfl rfl (by (try simp only [List.map_toArray, List.map_cons, List.map_nil]); first | done | rfl | (simp only [List.length_drop, List.length_take]; rfl)) ?_
       with_reducible refine (nat_right.calls k1 _ _ y216 t195 t220 _ ?side1 ?side2 A69.out).mono ?_
       (case side1 => repeat (first | exact (by repeat (first | (with_reducible exact HR219.out) | (with_reducible refine Kd.C_alloc ?_ _) | (with_reducible refine Kd.C_drewN ?_ _) | (with_reducible refine Kd.C_drew ?_) | exact HR219.out)) | (with_reducible refine Kd.C_alloc ?_ _) | (with_reducible refine Kd.C_drewN ?_ _) | (with_reducible refine Kd.C_drew ?_)))
       (case side2 => exact HC219.out)
       rintro e w74 ⟨v221, rfl, ho0, hb⟩
       refine ⟨_, rfl, ?_⟩
       replace HO_1 := Aside0.mk (Kd.V_below (Sq.al HO_1) hb)
       replace HO215 := Aside0.mk (Kd.V_below (Sq.al HO215) hb)
       have HO222 := Aside0.mk (Kd.V_lower (Kd.V_mono (ok' := fun k_ => ((P0_ k_ ∨ P1_ k_) ∨ w.heap.size ≤ k_) ∧ some k_ ≠ (.slice Ao72 x10_1.length co72 : Value).ownBlock ∧ some k_ ≠ (.slice Ao55 x12_1.length co55 : Value).ownBlock) ho0 (fun k_ hk_ => ⟨(.inr (Nat.le_trans (below_size (Sq.bl HB)) hk_)), (Kd.fresh' (Kd.R_lt (Sq.al HO_10)) k_ hk_), (Kd.fresh' (Kd.R_lt (Sq.al HO_12)) k_ hk_)⟩)) (below_size (Sq.bl HB)))
       replace HR219 := Aside0.mk (Kd.C_below (by repeat (first | (with_reducible exact HR219.out) | (with_reducible refine Kd.C_alloc ?_ _) | (with_reducible refine Kd.C_drewN ?_ _) | (with_reducible refine Kd.C_drew ?_) | exact HR219.out)) hb)
       replace HO_10 := Aside0.mk (Kd.R_below (Sq.al HO_10) hb)
       replace HO_12 := Aside0.mk (Kd.R_below (Sq.al HO_12) hb)
       replace HB := Sq.bs HB hb
       (try clear hb)
       (try clear hb2)
       (try clear hk)
       (try clear hi)
       (try clear ho0)
       refine hK.out _ _ trivial (fun hHeld => ?_)
       clear hK K
       refine norm_ (a' := ?_) ?_ ?_
       rotate_left
       ·show Act.put _ (some 93) _ = _
        simp only [Act.put, List.setIfInBounds_toArray, List.set_cons_zero, List.set_cons_succ, i64_w, i32_w]
        rfl
       refine Sq.pu (v := ?_) (a' := ?_) 8 (some 4) #[true, true, true, true, true, true, true, true, true, false, false] HT_ ?_ ?_ ?_
       rotate_left
       ·intro w'
        go_simp
        with_reducible rfl
       rotate_left
       ·simp only [Act.put, List.setIfInBounds_toArray, List.set_cons_zero, List.set_cons_succ, i64_w, i32_w]
        rfl
       refine Sq.pu (v := ?_) (a' := ?_) 9 (some 5) #[true, true, true, true, true, true, true, true, true, true, false] HT_ ?_ ?_ ?_
       rotate_left
       ·intro w'
        go_simp
        with_reducible rfl
       rotate_left
       ·simp only [Act.put, List.setIfInBounds_toArray, List.set_cons_zero, List.set_cons_succ, i64_w, i32_w]
        rfl
       refine Sq.pu (v := ?_) (a' := ?_) 10 (some 6) #[true, true, true, true, true, true, true, true, true, true, true] HT_ ?_ ?_ ?_
       rotate_left
       ·intro w'
        go_simp
        with_reducible rfl
       rotate_left
       ·simp only [Act.put, List.setIfInBounds_toArray, List.set_cons_zero, List.set_cons_succ, i64_w, i32_w]
        rfl
       refine done_ (done_of HT_.out (by kernel_rfl)) ?_
       try go_wp2
       go_ret3
       exact ⟨_, _, by first | rfl | (simp [errW_none, errW_some] <;> rfl) | (simp only [← hji32, ← hji40]; first | rfl | (simp [errW_none, errW_some] <;> rfl)) | (simp [*, errW_none, errW_some] <;> rfl), by (with_reducible repeat (first | apply Kd.V_alloc | apply Kd.V_drewN | apply Kd.V_drew)); exact Kd.V_mono HO215.out (fun _ hk => hk.1), by (with_reducible repeat (first | apply Kd.V_alloc | apply Kd.V_drewN | apply Kd.V_drew)); exact Kd.V_mono HO222.out (fun _ hk => hk.1), Sq.bl HB⟩
end Go.Proofs.Ytaclkccgjpjdjaa.N
