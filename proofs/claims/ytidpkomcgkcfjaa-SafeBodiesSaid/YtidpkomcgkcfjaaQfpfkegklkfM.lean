import Derived.Test.YtidpkomcgkcfjaaQcgjelnmlpkM
import Derived.Laws.Strings
section
/- Object code: the laws about bodies and about a cut. Printed by a program of this session. No condition. -/
namespace Go.Proofs.Ytidpkomcgkcfjaa.Ev
open Go Go.RowKit Go.Proofs.YtidpkomcgkcfjaaW.PrintWords Go.Proofs.YtidpkomcgkcfjaaW.PrintLast Go.Proofs.Ytidpkomcgkcfjaa
set_option linter.unusedVariables false
set_option linter.unusedSimpArgs false
def bz (b : ByteArray) : Int := ((b[0]?.getD 0).toNat : Int)
theorem byte0 {b : ByteArray} (h : 0 < b.size) : (0 : Int) ≤ 0 ∧ ∃ c : UInt8, b[(0 : Int).toNat]? = some c ∧ bz b = (c.toNat : Int) := by
  have e : b[(0 : Int).toNat]? = some b[0] := getElem?_pos b 0 h
  refine ⟨by omega, b[0], e, ?_⟩
  have e' : b[0]? = some b[0] := getElem?_pos b 0 h
  unfold bz
  rw [e']; rfl
def sBodies0_S (c : Cod)  (i : Int) : St := ⟨sparse 94 [(1, .g (.one (.ptr 0 0))), (3, .g (num i))], [some (false, [.v (.int .i64 c.ins), .v (.int .i64 c.outs), .v (.int .i64 c.slots), .v (.int .i64 c.crosses), .v (.int .i64 c.lines), vals' c.mems, vals' c.conts, inss c.step, inss c.deriv, inss c.cross])], 0⟩
def sBodies0_X (c : Cod)  : St := ⟨sparse 94 [(1, .g (.one (.ptr 0 0)))], [some (false, [.v (.int .i64 c.ins), .v (.int .i64 c.outs), .v (.int .i64 c.slots), .v (.int .i64 c.crosses), .v (.int .i64 c.lines), vals' c.mems, vals' c.conts, inss c.step, inss c.deriv, inss c.cross])], 0⟩
def sBodies0_Y (c : Cod) (o : Bool) : St := ⟨sparse 94 [(2, .g (truth o))], [], 0⟩
def sBodies0 (c : Cod) : Nat → Nat → Sum Unit Bool
  | 0, i => .inl ()
  | d + 1, i => bif is ((gx c.step i).op) (⟨#[115, 108, 111, 112, 101]⟩ : ByteArray) then (.inr false) else (bif is ((gx c.step i).op) (⟨#[97, 115, 107]⟩ : ByteArray) then (.inr false) else (if (((gx c.step i).op).size : Int) > (1 : Int) then (if (bz ((gx c.step i).op)) = (108 : Int) then (bif is ((gx c.step i).op) (⟨#[108, 105, 116]⟩ : ByteArray) then (sBodies0 c d (i + 1) ) else (.inr false)) else (sBodies0 c d (i + 1) )) else (sBodies0 c d (i + 1) )))
theorem sBodies0_rounds (c : Cod) (hs : Small c) : ∀ (d i : Nat) , i + d = c.step.length → (∀ o, sBodies0 c d i  = .inl o → Rounds Try.prog (lp Try.f5 0) (sBodies0_S c  i) (.exit 0) (sBodies0_X c )) ∧ (∀ o, sBodies0 c d i  = .inr o → Rounds Try.prog (lp Try.f5 0) (sBodies0_S c  i) .ret (sBodies0_Y c o))
  | 0, i, hi => by
    have hge : ¬ (i : Int) < (c.step.length : Int) := by omega
    refine ⟨fun o h => ?_, fun o h => by cases h⟩
    cases h
    exact Rounds.out (at_m [] _ _ [ends (decide_eq_false hge)] [] none_ (by kernel_rfl)) (by simp)
  | d + 1, i, hi => by
    have hlt : (i : Int) < (c.step.length : Int) := by omega
    have ih := sBodies0_rounds c hs d
    have hb := hs.step
    have hd := hs.deriv
    have hc := hs.cross
    unfold sBodies0
    rcases bc (is ((gx c.step i).op) (⟨#[115, 108, 111, 112, 101]⟩ : ByteArray)) with f0 | f0
    · rw [bif_t f0]
      refine ⟨fun o h => by (cases h), fun o h => ?_⟩
      cases h
      exact Rounds.out (at_m [] .ret (sBodies0_Y c false) [ends (decide_eq_true hlt), elem (ins_ad (by omega : i < c.step.length)), ends f0, ends (rfl : true = true), ends (rfl : true = true)] [] none_ (by kernel_rfl)) (by simp)
    · rcases bc (is ((gx c.step i).op) (⟨#[97, 115, 107]⟩ : ByteArray)) with f1 | f1
      · rw [bif_f f0, bif_t f1]
        refine ⟨fun o h => by (cases h), fun o h => ?_⟩
        cases h
        exact Rounds.out (at_m [] .ret (sBodies0_Y c false) [ends (decide_eq_true hlt), elem (ins_ad (by omega : i < c.step.length)), ends f0, ends f1, ends (rfl : true = true)] [] none_ (by kernel_rfl)) (by simp)
      · by_cases f2 : (((gx c.step i).op).size : Int) > (1 : Int)
        · by_cases f3 : (bz ((gx c.step i).op)) = (108 : Int)
          · rcases bc (is ((gx c.step i).op) (⟨#[108, 105, 116]⟩ : ByteArray)) with f4 | f4
            · rw [bif_f f0, bif_f f1, if_pos f2, if_pos f3, bif_t f4]
              have step := at_m [] (c := (lp Try.f5 0)) (p := (sBodies0_S c  i)) .normal (sBodies0_S c  (IntKind.i64.wrap ((i : Int) + (1 : Int)))) [ends (decide_eq_true hlt), elem (ins_ad (by omega : i < c.step.length)), ends f0, ends f1, ends (decide_eq_true f2), byte (b := (gx c.step i).op) (n := 0) (byte0 (by omega)), ends (eq_t f3), ends (nt f4)] [] none_ (by kernel_rfl)
              rw [next i (by omega)] at step
              exact ⟨fun o h => ((ih (i + 1)  (by omega)).1 o h).step' step, fun o h => ((ih (i + 1)  (by omega)).2 o h).step' step⟩
            · rw [bif_f f0, bif_f f1, if_pos f2, if_pos f3, bif_f f4]
              refine ⟨fun o h => by (cases h), fun o h => ?_⟩
              cases h
              exact Rounds.out (at_m [] .ret (sBodies0_Y c false) [ends (decide_eq_true hlt), elem (ins_ad (by omega : i < c.step.length)), ends f0, ends f1, ends (decide_eq_true f2), byte (b := (gx c.step i).op) (n := 0) (byte0 (by omega)), ends (eq_t f3), ends (nf f4)] [] none_ (by kernel_rfl)) (by simp)
          · rw [bif_f f0, bif_f f1, if_pos f2, if_neg f3]
            have step := at_m [] (c := (lp Try.f5 0)) (p := (sBodies0_S c  i)) .normal (sBodies0_S c  (IntKind.i64.wrap ((i : Int) + (1 : Int)))) [ends (decide_eq_true hlt), elem (ins_ad (by omega : i < c.step.length)), ends f0, ends f1, ends (decide_eq_true f2), byte (b := (gx c.step i).op) (n := 0) (byte0 (by omega)), ends (eq_f f3), ends (rfl : false = false)] [] none_ (by kernel_rfl)
            rw [next i (by omega)] at step
            exact ⟨fun o h => ((ih (i + 1)  (by omega)).1 o h).step' step, fun o h => ((ih (i + 1)  (by omega)).2 o h).step' step⟩
        · rw [bif_f f0, bif_f f1, if_neg f2]
          have step := at_m [] (c := (lp Try.f5 0)) (p := (sBodies0_S c  i)) .normal (sBodies0_S c  (IntKind.i64.wrap ((i : Int) + (1 : Int)))) [ends (decide_eq_true hlt), elem (ins_ad (by omega : i < c.step.length)), ends f0, ends f1, ends (decide_eq_false f2), ends (rfl : false = false), ends (rfl : false = false)] [] none_ (by kernel_rfl)
          rw [next i (by omega)] at step
          exact ⟨fun o h => ((ih (i + 1)  (by omega)).1 o h).step' step, fun o h => ((ih (i + 1)  (by omega)).2 o h).step' step⟩
def sBodies1_S (c : Cod)  (i : Int) : St := ⟨sparse 94 [(1, .g (.one (.ptr 0 0))), (5, .g (num i))], [some (false, [.v (.int .i64 c.ins), .v (.int .i64 c.outs), .v (.int .i64 c.slots), .v (.int .i64 c.crosses), .v (.int .i64 c.lines), vals' c.mems, vals' c.conts, inss c.step, inss c.deriv, inss c.cross])], 0⟩
def sBodies1_X (c : Cod)  : St := ⟨sparse 94 [(1, .g (.one (.ptr 0 0)))], [some (false, [.v (.int .i64 c.ins), .v (.int .i64 c.outs), .v (.int .i64 c.slots), .v (.int .i64 c.crosses), .v (.int .i64 c.lines), vals' c.mems, vals' c.conts, inss c.step, inss c.deriv, inss c.cross])], 0⟩
def sBodies1_Y (c : Cod) (o : Bool) : St := ⟨sparse 94 [(2, .g (truth o))], [], 0⟩
def sBodies1 (c : Cod) : Nat → Nat → Sum Unit Bool
  | 0, i => .inl ()
  | d + 1, i => bif is ((gx c.deriv i).op) (⟨#[115, 108, 111, 112, 101]⟩ : ByteArray) then (sBodies1 c d (i + 1) ) else (.inr false)
theorem sBodies1_rounds (c : Cod) (hs : Small c) : ∀ (d i : Nat) , i + d = c.deriv.length → (∀ o, sBodies1 c d i  = .inl o → Rounds Try.prog (lp Try.f5 1) (sBodies1_S c  i) (.exit 2) (sBodies1_X c )) ∧ (∀ o, sBodies1 c d i  = .inr o → Rounds Try.prog (lp Try.f5 1) (sBodies1_S c  i) .ret (sBodies1_Y c o))
  | 0, i, hi => by
    have hge : ¬ (i : Int) < (c.deriv.length : Int) := by omega
    refine ⟨fun o h => ?_, fun o h => by cases h⟩
    cases h
    exact Rounds.out (at_m [] _ _ [ends (decide_eq_false hge)] [] none_ (by kernel_rfl)) (by simp)
  | d + 1, i, hi => by
    have hlt : (i : Int) < (c.deriv.length : Int) := by omega
    have ih := sBodies1_rounds c hs d
    have hb := hs.step
    have hd := hs.deriv
    have hc := hs.cross
    unfold sBodies1
    rcases bc (is ((gx c.deriv i).op) (⟨#[115, 108, 111, 112, 101]⟩ : ByteArray)) with f0 | f0
    · rw [bif_t f0]
      have step := at_m [] (c := (lp Try.f5 1)) (p := (sBodies1_S c  i)) .normal (sBodies1_S c  (IntKind.i64.wrap ((i : Int) + (1 : Int)))) [ends (decide_eq_true hlt), elem (ins_ad (by omega : i < c.deriv.length)), ends (nt f0)] [] none_ (by kernel_rfl)
      rw [next i (by omega)] at step
      exact ⟨fun o h => ((ih (i + 1)  (by omega)).1 o h).step' step, fun o h => ((ih (i + 1)  (by omega)).2 o h).step' step⟩
    · rw [bif_f f0]
      refine ⟨fun o h => by (cases h), fun o h => ?_⟩
      cases h
      exact Rounds.out (at_m [] .ret (sBodies1_Y c false) [ends (decide_eq_true hlt), elem (ins_ad (by omega : i < c.deriv.length)), ends (nf f0)] [] none_ (by kernel_rfl)) (by simp)
def sBodies2_S (c : Cod)  (i : Int) : St := ⟨sparse 94 [(1, .g (.one (.ptr 0 0))), (6, .g (num i))], [some (false, [.v (.int .i64 c.ins), .v (.int .i64 c.outs), .v (.int .i64 c.slots), .v (.int .i64 c.crosses), .v (.int .i64 c.lines), vals' c.mems, vals' c.conts, inss c.step, inss c.deriv, inss c.cross])], 0⟩
def sBodies2_X (c : Cod)  : St := ⟨sparse 94 [(1, .g (.one (.ptr 0 0)))], [some (false, [.v (.int .i64 c.ins), .v (.int .i64 c.outs), .v (.int .i64 c.slots), .v (.int .i64 c.crosses), .v (.int .i64 c.lines), vals' c.mems, vals' c.conts, inss c.step, inss c.deriv, inss c.cross])], 0⟩
def sBodies2_Y (c : Cod) (o : Bool) : St := ⟨sparse 94 [(2, .g (truth o))], [], 0⟩
def sBodies2 (c : Cod) : Nat → Nat → Sum Unit Bool
  | 0, i => .inl ()
  | d + 1, i => bif is ((gx c.cross i).op) (⟨#[97, 115, 107]⟩ : ByteArray) then (sBodies2 c d (i + 1) ) else (if (((gx c.cross i).op).size : Int) < (2 : Int) then (.inr false) else (if (bz ((gx c.cross i).op)) = (108 : Int) then (bif is ((gx c.cross i).op) (⟨#[108, 105, 116]⟩ : ByteArray) then (.inr false) else (sBodies2 c d (i + 1) )) else (.inr false)))
theorem sBodies2_rounds (c : Cod) (hs : Small c) : ∀ (d i : Nat) , i + d = c.cross.length → (∀ o, sBodies2 c d i  = .inl o → Rounds Try.prog (lp Try.f5 2) (sBodies2_S c  i) (.exit 4) (sBodies2_X c )) ∧ (∀ o, sBodies2 c d i  = .inr o → Rounds Try.prog (lp Try.f5 2) (sBodies2_S c  i) .ret (sBodies2_Y c o))
  | 0, i, hi => by
    have hge : ¬ (i : Int) < (c.cross.length : Int) := by omega
    refine ⟨fun o h => ?_, fun o h => by cases h⟩
    cases h
    exact Rounds.out (at_m [] _ _ [ends (decide_eq_false hge)] [] none_ (by kernel_rfl)) (by simp)
  | d + 1, i, hi => by
    have hlt : (i : Int) < (c.cross.length : Int) := by omega
    have ih := sBodies2_rounds c hs d
    have hb := hs.step
    have hd := hs.deriv
    have hc := hs.cross
    unfold sBodies2
    rcases bc (is ((gx c.cross i).op) (⟨#[97, 115, 107]⟩ : ByteArray)) with f0 | f0
    · rw [bif_t f0]
      have step := at_m [] (c := (lp Try.f5 2)) (p := (sBodies2_S c  i)) .normal (sBodies2_S c  (IntKind.i64.wrap ((i : Int) + (1 : Int)))) [ends (decide_eq_true hlt), elem (ins_ad (by omega : i < c.cross.length)), ends (nt f0), ends (rfl : false = false)] [] none_ (by kernel_rfl)
      rw [next i (by omega)] at step
      exact ⟨fun o h => ((ih (i + 1)  (by omega)).1 o h).step' step, fun o h => ((ih (i + 1)  (by omega)).2 o h).step' step⟩
    · by_cases f1 : (((gx c.cross i).op).size : Int) < (2 : Int)
      · rw [bif_f f0, if_pos f1]
        refine ⟨fun o h => by (cases h), fun o h => ?_⟩
        cases h
        exact Rounds.out (at_m [] .ret (sBodies2_Y c false) [ends (decide_eq_true hlt), elem (ins_ad (by omega : i < c.cross.length)), ends (nf f0), ends (decide_eq_true f1), ends (rfl : true = true), ends (rfl : true = true)] [] none_ (by kernel_rfl)) (by simp)
      · by_cases f2 : (bz ((gx c.cross i).op)) = (108 : Int)
        · rcases bc (is ((gx c.cross i).op) (⟨#[108, 105, 116]⟩ : ByteArray)) with f3 | f3
          · rw [bif_f f0, if_neg f1, if_pos f2, bif_t f3]
            refine ⟨fun o h => by (cases h), fun o h => ?_⟩
            cases h
            exact Rounds.out (at_m [] .ret (sBodies2_Y c false) [ends (decide_eq_true hlt), elem (ins_ad (by omega : i < c.cross.length)), ends (nf f0), ends (decide_eq_false f1), byte (b := (gx c.cross i).op) (n := 0) (byte0 (by omega)), ends (ne_f f2), ends f3] [] none_ (by kernel_rfl)) (by simp)
          · rw [bif_f f0, if_neg f1, if_pos f2, bif_f f3]
            have step := at_m [] (c := (lp Try.f5 2)) (p := (sBodies2_S c  i)) .normal (sBodies2_S c  (IntKind.i64.wrap ((i : Int) + (1 : Int)))) [ends (decide_eq_true hlt), elem (ins_ad (by omega : i < c.cross.length)), ends (nf f0), ends (decide_eq_false f1), byte (b := (gx c.cross i).op) (n := 0) (byte0 (by omega)), ends (ne_f f2), ends f3] [] none_ (by kernel_rfl)
            rw [next i (by omega)] at step
            exact ⟨fun o h => ((ih (i + 1)  (by omega)).1 o h).step' step, fun o h => ((ih (i + 1)  (by omega)).2 o h).step' step⟩
        · rw [bif_f f0, if_neg f1, if_neg f2]
          refine ⟨fun o h => by (cases h), fun o h => ?_⟩
          cases h
          exact Rounds.out (at_m [] .ret (sBodies2_Y c false) [ends (decide_eq_true hlt), elem (ins_ad (by omega : i < c.cross.length)), ends (nf f0), ends (decide_eq_false f1), byte (b := (gx c.cross i).op) (n := 0) (byte0 (by omega)), ends (ne_t f2), ends (rfl : true = true)] [] none_ (by kernel_rfl)) (by simp)
def safeBodies (c : Cod) : Bool := bif few c then (bif rightF c then ((match sBodies0 c c.step.length 0 with | .inl of2 => (match sBodies1 c c.deriv.length 0 with | .inl of3 => (match sBodies2 c c.cross.length 0 with | .inl of4 => true | .inr of4 => of4) | .inr of3 => of3) | .inr of2 => of2)) else (true)) else (true)
theorem safeBodies_con (c : Cod)  : ConF Try.prog 5 [.agg (c.c)] (.g (truth (safeBodies c))) := by
  unfold safeBodies
  rcases bc (few c) with f0 | f0
  · rcases bc (rightF c) with f1 | f1
    · rcases sc (sBodies0 c c.step.length 0) with ⟨of2, f2⟩ | ⟨of2, f2⟩
      · rcases sc (sBodies1 c c.deriv.length 0) with ⟨of3, f3⟩ | ⟨of3, f3⟩
        · rcases sc (sBodies2 c c.cross.length 0) with ⟨of4, f4⟩ | ⟨of4, f4⟩
          · rw [bif_t f0, bif_t f1]
            simp only [f2]
            simp only [f3]
            simp only [f4]
            exact byF (.g (truth true)) Try.func5 rfl [gives (few_con c), ends (nt f0), gives (right_con c (few_small f0)), ends (nt f1), goes ((sBodies0_rounds c (few_small f0) c.step.length 0 (by omega)).1 _ f2).loop, goes ((sBodies1_rounds c (few_small f0) c.deriv.length 0 (by omega)).1 _ f3).loop, goes ((sBodies2_rounds c (few_small f0) c.cross.length 0 (by omega)).1 _ f4).loop, gives awake_con] (by kernel_rfl)
          · rw [bif_t f0, bif_t f1]
            simp only [f2]
            simp only [f3]
            simp only [f4]
            exact byF (.g (truth of4)) Try.func5 rfl [gives (few_con c), ends (nt f0), gives (right_con c (few_small f0)), ends (nt f1), goes ((sBodies0_rounds c (few_small f0) c.step.length 0 (by omega)).1 _ f2).loop, goes ((sBodies1_rounds c (few_small f0) c.deriv.length 0 (by omega)).1 _ f3).loop, goes ((sBodies2_rounds c (few_small f0) c.cross.length 0 (by omega)).2 _ f4).loop] (by kernel_rfl)
        · rw [bif_t f0, bif_t f1]
          simp only [f2]
          simp only [f3]
          exact byF (.g (truth of3)) Try.func5 rfl [gives (few_con c), ends (nt f0), gives (right_con c (few_small f0)), ends (nt f1), goes ((sBodies0_rounds c (few_small f0) c.step.length 0 (by omega)).1 _ f2).loop, goes ((sBodies1_rounds c (few_small f0) c.deriv.length 0 (by omega)).2 _ f3).loop] (by kernel_rfl)
      · rw [bif_t f0, bif_t f1]
        simp only [f2]
        exact byF (.g (truth of2)) Try.func5 rfl [gives (few_con c), ends (nt f0), gives (right_con c (few_small f0)), ends (nt f1), goes ((sBodies0_rounds c (few_small f0) c.step.length 0 (by omega)).2 _ f2).loop] (by kernel_rfl)
    · rw [bif_t f0, bif_f f1]
      exact byF (.g (truth true)) Try.func5 rfl [gives (few_con c), ends (nt f0), gives (right_con c (few_small f0)), ends (nf f1), gives awake_con] (by kernel_rfl)
  · rw [bif_f f0]
    exact byF (.g (truth true)) Try.func5 rfl [gives (few_con c), ends (nf f0), ends (rfl : true = true), gives awake_con] (by kernel_rfl)
def cutC (c : Cod) (k : Nat) : Cod := ⟨c.ins, c.outs, c.slots, c.crosses, c.lines, c.mems, c.conts, c.step.take k, [], []⟩
theorem cut_at {n : Int} {k : Nat} (h0 : ¬ (k : Int) = 0) (h1 : k ≤ 60) : 0 ≤ (IntKind.i64.wrap ((n.tmod (k : Int)) + (k : Int))).tmod (k : Int) ∧ (IntKind.i64.wrap ((n.tmod (k : Int)) + (k : Int))).tmod (k : Int) ≤ (k : Int) := by
  have a : -(k : Int) < n.tmod k ∧ n.tmod k < k := by
    have h2 := Int.natAbs_tmod n (k : Int)
    have h3 : n.natAbs % (k : Int).natAbs < (k : Int).natAbs := Nat.mod_lt _ (by omega)
    omega
  rw [wr (by omega) (by omega)]
  have b := Int.tmod_nonneg (k : Int) (show 0 ≤ n.tmod k + k by omega)
  have d := Int.tmod_lt_of_pos (n.tmod k + k) (show (0 : Int) < k by omega)
  omega
def safeCut (c : Cod) (n : Int) : Bool := bif few c then (bif rightF c then (if (c.step.length : Int) = (0 : Int) then (true) else (bif rightF (cutC c (((IntKind.i64.wrap ((n.tmod (c.step.length : Int)) + (c.step.length : Int))).tmod (c.step.length : Int))).toNat) then (true) else (false))) else (true)) else (true)
end Go.Proofs.Ytidpkomcgkcfjaa.Ev
end
section
/- Object code: what may run has instructions of its own in each body, and may be cut: the laws. Pure, but for the last lines. -/
namespace Go.Proofs.Ytidpkomcgkcfjaa.Ev
open Go Go.RowKit Go.Proofs.Ytidpkomcgkcfjaa
set_option linter.unusedVariables false
set_option linter.unusedSimpArgs false
theorem is_same {op a : ByteArray} (h : is op a = true) : op = a := by
  unfold is at h
  have := eq_of_beq h
  rw [ByteArray.toList_eq, ByteArray.toList_eq] at this
  cases op; cases a
  congr 1
  exact Array.toList_inj.1 this
def GA : List ByteArray := G0 ++ G1 ++ G2 ++ G3 ++ G4
theorem any_is {l : List ByteArray} {op : ByteArray} (h : l.any (is op) = true) : op ∈ l := by
  obtain ⟨a, ha, h⟩ := List.any_eq_true.1 h
  exact is_same h ▸ ha
theorem cls_mem {op : ByteArray} (h : cls op ≠ 5) : op ∈ GA := by
  unfold cls at h
  unfold GA
  split at h
  · rename_i e; simp [any_is e]
  · split at h
    · rename_i e; simp [any_is e]
    · split at h
      · rename_i e; simp [any_is e]
      · split at h
        · rename_i e; simp [any_is e]
        · split at h
          · rename_i e; simp [any_is e]
          · exact absurd rfl h
def GS : List ByteArray := [(⟨#[105, 110]⟩ : ByteArray), (⟨#[109, 101, 109]⟩ : ByteArray), (⟨#[107, 101, 101, 112]⟩ : ByteArray), (⟨#[99, 111, 110, 116]⟩ : ByteArray), (⟨#[115, 116, 97, 116, 101]⟩ : ByteArray), (⟨#[102, 108, 97, 103]⟩ : ByteArray), (⟨#[111, 117, 116]⟩ : ByteArray), (⟨#[97, 103, 97, 105, 110]⟩ : ByteArray)] ++ GA
theorem place_mem {c : Cod} {op : ByteArray} {k : Int} (h : placeF c op k (decide (cls op ≠ 5)) = true) : op ∈ GS := by
  unfold placeF at h
  unfold GS
  rw [List.mem_append]
  split at h
  · rename_i e; exact .inl (by rw [is_same e]; simp)
  · split at h
    · rename_i e
      rcases Bool.or_eq_true_iff.1 e with e | e <;> exact .inl (by rw [is_same e]; simp)
    · split at h
      · rename_i e
        rcases Bool.or_eq_true_iff.1 e with e | e <;> exact .inl (by rw [is_same e]; simp)
      · split at h
        · rename_i e; exact .inl (by rw [is_same e]; simp)
        · split at h
          · rename_i e; exact .inl (by rw [is_same e]; simp)
          · split at h
            · rename_i e; exact .inl (by rw [is_same e]; simp)
            · exact .inr (cls_mem (of_decide_eq_true h))
def okS (op : ByteArray) : Bool := !is op (⟨#[115, 108, 111, 112, 101]⟩ : ByteArray) && !is op (⟨#[97, 115, 107]⟩ : ByteArray) && (!(bz op == 108) || is op (⟨#[108, 105, 116]⟩ : ByteArray))
theorem okS_all : GS.all okS = true := by kernel_rfl
def GC : List ByteArray := [(⟨#[108, 118, 97, 114]⟩ : ByteArray), (⟨#[108, 99, 111, 110, 116]⟩ : ByteArray), (⟨#[108, 110, 101, 103]⟩ : ByteArray), (⟨#[108, 42]⟩ : ByteArray), (⟨#[108, 43]⟩ : ByteArray), (⟨#[108, 45]⟩ : ByteArray), (⟨#[108, 47]⟩ : ByteArray), (⟨#[108, 115, 101, 108]⟩ : ByteArray), (⟨#[97, 115, 107]⟩ : ByteArray)]
theorem asks_mem {c : Cod} {op : ByteArray} {k : Int} (h : (asksF c op k).2.2 = true) : op ∈ GC := by
  unfold asksF at h
  unfold GC
  split at h
  · rename_i e; rw [is_same e]; simp
  · split at h
    · rename_i e; rw [is_same e]; simp
    · split at h
      · rename_i e; rw [is_same e]; simp
      · split at h
        · rename_i e; rw [is_same e]; simp
        · split at h
          · rename_i e
            rcases Bool.or_eq_true_iff.1 e with e | e
            · rcases Bool.or_eq_true_iff.1 e with e | e <;> (rw [is_same e]; simp)
            · rw [is_same e]; simp
          · split at h
            · rename_i e; rw [is_same e]; simp
            · split at h
              · rename_i e; rw [is_same e]; simp
              · cases h
def okC (op : ByteArray) : Bool := is op (⟨#[97, 115, 107]⟩ : ByteArray) || (decide ((op.size : Int) ≥ 2) && (bz op == 108) && !is op (⟨#[108, 105, 116]⟩ : ByteArray))
theorem okC_all : GC.all okC = true := by kernel_rfl
theorem run_each {F : Body} {p : Ins → Prop} (h : ∀ sl ln x, (F sl ln x).1 = true → p x) : ∀ (l : List Ins) (s : List Bool × List Bool), (bodyRun F l s).isSome = true → ∀ x ∈ l, p x
  | [], s, _, x, hx => by cases hx
  | y :: l, s, hs, x, hx => by
    unfold bodyRun at hs
    cases hy : (F s.1 s.2 y).1 with
    | false => rw [hy] at hs; cases hs
    | true =>
      rw [hy] at hs
      rcases List.mem_cons.1 hx with rfl | hx
      · exact h _ _ _ hy
      · exact run_each h l _ hs x hx
theorem right_runs {c : Cod} (h : rightF c = true) : ([c.ins, c.outs, c.slots, c.crosses, c.lines].any (badP 65537)) = false ∧ (∃ s, bodyRun (Fstep c) c.step (List.replicate c.slots.toNat false, List.replicate c.lines.toNat false) = some s ∧ ∃ s', bodyRun (Fderiv c) c.deriv s = some s' ∧ (bodyRun (Fcross c) c.cross s').isSome = true) := by
  unfold rightF runAll at h
  rw [Bool.and_eq_true] at h
  refine ⟨by simpa using h.1, ?_⟩
  have h2 := h.2
  split at h2
  · cases h2
  · rename_i s hs
    split at h2
    · cases h2
    · rename_i s' hs'
      exact ⟨s, hs, s', hs', h2⟩
theorem stepF_place {c : Cod} {sl : List Bool} {x : Ins} (h : (stepF c sl x).1 = true) : placeF c x.op x.k (decide (cls x.op ≠ 5)) = true := by
  have : stepOk c sl x = true := by
    unfold stepF at h
    split at h
    · rename_i e
      exact (Bool.and_eq_true_iff.1 e).2
    · exact h
  unfold stepOk at this
  simp only [Bool.and_eq_true] at this
  exact this.1.1.1.1.2
theorem crossF_asks {c : Cod} {sl ln : List Bool} {x : Ins} (h : (crossF c sl ln x).1 = true) : (asksF c x.op x.k).2.2 = true := by
  rw [crossF_1] at h
  simp only [Bool.and_eq_true] at h
  exact h.1.1.1.1.1
theorem sBodies0_inl {c : Cod} (h : ∀ x ∈ c.step, okS x.op = true) : ∀ (d i : Nat), i + d = c.step.length → sBodies0 c d i = .inl ()
  | 0, i, _ => rfl
  | d + 1, i, hi => by
    have ih := sBodies0_inl h d (i + 1) (by omega)
    have hx := h _ (gx_mem (show i < c.step.length by omega))
    unfold okS at hx
    simp only [Bool.and_eq_true, Bool.or_eq_true, Bool.not_eq_true'] at hx
    unfold sBodies0
    rw [hx.1.1, hx.1.2]
    simp only [cond_false]
    split
    · split
      · rename_i e
        rcases hx.2 with h2 | h2
        · rw [beq_iff_eq.2 e] at h2; cases h2
        · rw [h2]; exact ih
      · exact ih
    · exact ih
theorem sBodies1_inl {c : Cod} (h : ∀ x ∈ c.deriv, is x.op (⟨#[115, 108, 111, 112, 101]⟩ : ByteArray) = true) : ∀ (d i : Nat), i + d = c.deriv.length → sBodies1 c d i = .inl ()
  | 0, i, _ => rfl
  | d + 1, i, hi => by
    have ih := sBodies1_inl h d (i + 1) (by omega)
    have hx := h _ (gx_mem (show i < c.deriv.length by omega))
    unfold sBodies1
    rw [hx]
    exact ih
theorem sBodies2_inl {c : Cod} (h : ∀ x ∈ c.cross, okC x.op = true) : ∀ (d i : Nat), i + d = c.cross.length → sBodies2 c d i = .inl ()
  | 0, i, _ => rfl
  | d + 1, i, hi => by
    have ih := sBodies2_inl h d (i + 1) (by omega)
    have hx := h _ (gx_mem (show i < c.cross.length by omega))
    unfold okC at hx
    unfold sBodies2
    cases ha : is (gx c.cross i).op (⟨#[97, 115, 107]⟩ : ByteArray) with
    | true => exact ih
    | false =>
      rw [ha] at hx
      simp only [Bool.false_or, Bool.and_eq_true, Bool.not_eq_true', decide_eq_true_iff, beq_iff_eq] at hx
      simp only [cond_false]
      rw [if_neg (by omega), if_pos hx.1.2, hx.2]
      exact ih
theorem safeBodies_true (c : Cod) : safeBodies c = true := by
  unfold safeBodies
  rcases bc (few c) with h | h
  · rw [bif_t h]
    rcases bc (rightF c) with h2 | h2
    · rw [bif_t h2]
      obtain ⟨_, s, h3, s', h4, h5⟩ := right_runs h2
      have a0 : ∀ x ∈ c.step, okS x.op = true := run_each (F := Fstep c) (fun sl ln x hx => List.all_eq_true.1 okS_all _ (place_mem (stepF_place hx))) c.step _ (by rw [h3]; rfl)
      have a1 : ∀ x ∈ c.deriv, is x.op (⟨#[115, 108, 111, 112, 101]⟩ : ByteArray) = true := run_each (F := Fderiv c) (fun sl ln x hx => by
        have hx : derivF c sl x = true := hx
        unfold derivF at hx
        simp only [Bool.and_eq_true] at hx
        exact hx.2.1.1.1.1) c.deriv _ (by rw [h4]; rfl)
      have a2 : ∀ x ∈ c.cross, okC x.op = true := run_each (F := Fcross c) (fun sl ln x hx => List.all_eq_true.1 okC_all _ (asks_mem (crossF_asks (show (crossF c sl ln x).1 = true from hx)))) c.cross _ h5
      rw [sBodies0_inl a0 _ _ (by omega), sBodies1_inl a1 _ _ (by omega), sBodies2_inl a2 _ _ (by omega)]
    · rw [bif_f h2]
  · rw [bif_f h]
theorem safeBodies_holds (c : Cod) : ConF Try.prog 5 [.agg c.c] (.g (truth true)) := (safeBodies_con c).to (by rw [safeBodies_true])
end Go.Proofs.Ytidpkomcgkcfjaa.Ev
end
