import Derived.Test.YtidpkomcgkcfjaaQhfnmhjnbocM
import Derived.Laws.Strings
section
/- Object code: the laws about bodies and about a cut. Printed by a program of this session. No condition. -/
namespace Go.Proofs.Ytidpkomcgkcfjaa.Ev
open Go Go.RowKit Go.Proofs.YtidpkomcgkcfjaaW.PrintWords Go.Proofs.YtidpkomcgkcfjaaW.PrintLast Go.Proofs.Ytidpkomcgkcfjaa
set_option linter.unusedVariables false
set_option linter.unusedSimpArgs false
def bz (b : ByteArray) : Int := ((b[0]?.getD 0).toNat : Int)
theorem ins_cut {l : List Ins} {s : Int} (h0 : 0 ≤ s) (h1 : s ≤ l.length) : (0 : Int) ≤ 0 ∧ (0 : Int) ≤ s ∧ s ≤ (l.length : Int) ∧ s - 0 = ((l.take s.toNat).length : Int) ∧ ((l.take s.toNat).map Ins.c) = ((l.map Ins.c).drop (0 : Int).toNat).take (l.take s.toNat).length := by
  refine ⟨by omega, h0, h1, by rw [List.length_take]; omega, ?_⟩
  show _ = ((l.map Ins.c).drop 0).take _
  rw [List.drop_zero, List.length_take, List.map_take, Nat.min_eq_left (by omega)]
def AC.wk : AC → AC → Prop
  | .v (.slice none 0 0), .row _ 0 [] => True
  | a, b => a = b
theorem TC.wk {ok : Nat → Prop} {w : World} {k : Nat} {u : Value} (h : TC [] ok w (.v (.slice none 0 0)) u) : TC [] ok w (.row k 0 []) u := by
  have := TC.v_eq h
  subst this
  exact foot_mk fun W' _ => Rd.nil k none 0
theorem TL.wk {ok : Nat → Prop} {w : World} {xs ys : List AC} {us : List Value} (h : TL [] ok w ys us) (hl : xs.length = ys.length) (hw : ∀ (j : Nat) a b, xs[j]? = some a → ys[j]? = some b → a = b ∨ (b = .v (.slice none 0 0) ∧ ∃ k, a = .row k 0 [])) : TL [] ok w xs us := by
  refine ⟨h.1.trans hl.symm, fun j a u ha hu => ?_⟩
  have hj : j < ys.length := by rw [← hl]; exact (List.getElem?_eq_some_iff.1 ha).1
  have hb : ys[j]? = some ys[j] := List.getElem?_eq_getElem hj
  have ht := h.2 j _ u hb hu
  rcases hw j a _ ha hb with e | ⟨e, k, e2⟩
  · rw [e]; exact ht
  · rw [e] at ht; rw [e2]; exact ht.wk
theorem Con.wk {P : Program} {f : FuncId} {xs ys : List AC} {r : AV} (h : Con P f [.agg xs] r) (hl : xs.length = ys.length) (hw : ∀ (j : Nat) a b, xs[j]? = some a → ys[j]? = some b → a = b ∨ (b = .v (.slice none 0 0) ∧ ∃ k, a = .row k 0 [])) : Con P f [.agg ys] r := by
  have key : ∀ {ok : Nat → Prop} {us : Array Value} {w : World}, TA ok w [.agg ys] us → TA ok w [.agg xs] us := fun {ok us w} hA => ⟨hA.1, fun j x u hx hu => by
    match j with
    | 0 =>
      cases hx
      obtain ⟨vs, rfl, hT⟩ := hA.2 0 _ u rfl hu
      exact ⟨vs, rfl, hT.wk hl hw⟩
    | j + 1 => cases hx⟩
  rcases h with h | h
  · exact .inl ⟨h.1, fun ok us w hA => h.2 ok us w (key hA)⟩
  · exact .inr fun ok us w hA => h ok us w (key hA)
def sBodies0 (c : Cod) : Nat → Nat → Sum Unit Bool
  | 0, i => .inl ()
  | d + 1, i => bif is ((gx c.step i).op) (⟨#[115, 108, 111, 112, 101]⟩ : ByteArray) then (.inr false) else (bif is ((gx c.step i).op) (⟨#[97, 115, 107]⟩ : ByteArray) then (.inr false) else (if (((gx c.step i).op).size : Int) > (1 : Int) then (if (bz ((gx c.step i).op)) = (108 : Int) then (bif is ((gx c.step i).op) (⟨#[108, 105, 116]⟩ : ByteArray) then (sBodies0 c d (i + 1) ) else (.inr false)) else (sBodies0 c d (i + 1) )) else (sBodies0 c d (i + 1) )))
def sBodies1 (c : Cod) : Nat → Nat → Sum Unit Bool
  | 0, i => .inl ()
  | d + 1, i => bif is ((gx c.deriv i).op) (⟨#[115, 108, 111, 112, 101]⟩ : ByteArray) then (sBodies1 c d (i + 1) ) else (.inr false)
def sBodies2 (c : Cod) : Nat → Nat → Sum Unit Bool
  | 0, i => .inl ()
  | d + 1, i => bif is ((gx c.cross i).op) (⟨#[97, 115, 107]⟩ : ByteArray) then (sBodies2 c d (i + 1) ) else (if (((gx c.cross i).op).size : Int) < (2 : Int) then (.inr false) else (if (bz ((gx c.cross i).op)) = (108 : Int) then (bif is ((gx c.cross i).op) (⟨#[108, 105, 116]⟩ : ByteArray) then (.inr false) else (sBodies2 c d (i + 1) )) else (.inr false)))
def safeBodies (c : Cod) : Bool := bif few c then (bif rightF c then ((match sBodies0 c c.step.length 0 with | .inl of2 => (match sBodies1 c c.deriv.length 0 with | .inl of3 => (match sBodies2 c c.cross.length 0 with | .inl of4 => true | .inr of4 => of4) | .inr of3 => of3) | .inr of2 => of2)) else (true)) else (true)
def cutC (c : Cod) (k : Nat) : Cod := ⟨c.ins, c.outs, c.slots, c.crosses, c.lines, c.mems, c.conts, c.step.take k, [], []⟩
theorem cut_small {c : Cod} (h : Small c) (k : Nat) : Small (cutC c k) := ⟨by
  show (c.step.take k).length < _
  rw [List.length_take]
  have := h.step
  omega, by show (0 : Nat) < _; omega, by show (0 : Nat) < _; omega, fun x hx => by
  rcases hx with hx | hx | hx
  · exact h.args x (.inl (List.mem_of_mem_take hx))
  · cases hx
  · cases hx⟩
theorem cut_con (c : Cod) (k : Nat) (hs : Small c) : Con Try.prog 9 [.agg [.v (.int .i64 c.ins), .v (.int .i64 c.outs), .v (.int .i64 c.slots), .v (.int .i64 c.crosses), .v (.int .i64 c.lines), vals' c.mems, vals' c.conts, inss (c.step.take k), .v (.slice none 0 0), .v (.slice none 0 0)]] (.g (truth (rightF (cutC c k)))) :=
  (right_con (cutC c k) (cut_small hs k)).wk rfl (fun j a b ha hb => by
    match j with
    | 0 => cases ha; cases hb; exact .inl rfl
    | 1 => cases ha; cases hb; exact .inl rfl
    | 2 => cases ha; cases hb; exact .inl rfl
    | 3 => cases ha; cases hb; exact .inl rfl
    | 4 => cases ha; cases hb; exact .inl rfl
    | 5 => cases ha; cases hb; exact .inl rfl
    | 6 => cases ha; cases hb; exact .inl rfl
    | 7 => cases ha; cases hb; exact .inl rfl
    | 8 => cases ha; cases hb; exact .inr ⟨rfl, 11, rfl⟩
    | 9 => cases ha; cases hb; exact .inr ⟨rfl, 11, rfl⟩
    | j + 10 => cases ha)
theorem cut_at {n : Int} {k : Nat} (h0 : ¬ (k : Int) = 0) (h1 : k ≤ 60) : 0 ≤ (IntKind.i64.wrap ((n.tmod (k : Int)) + (k : Int))).tmod (k : Int) ∧ (IntKind.i64.wrap ((n.tmod (k : Int)) + (k : Int))).tmod (k : Int) ≤ (k : Int) := by
  have a : -(k : Int) < n.tmod k ∧ n.tmod k < k := by
    have h2 := Int.natAbs_tmod n (k : Int)
    have h3 : n.natAbs % (k : Int).natAbs < (k : Int).natAbs := Nat.mod_lt _ (by omega)
    omega
  rw [wr (by omega) (by omega)]
  have b := Int.tmod_nonneg (k : Int) (show 0 ≤ n.tmod k + k by omega)
  have d := Int.tmod_lt_of_pos (n.tmod k + k) (show (0 : Int) < k by omega)
  omega
theorem few_step {c : Cod} (h : few c = true) : c.step.length ≤ 60 := (bodyFew_of (few_of h).1).1
def safeCut (c : Cod) (n : Int) : Bool := bif few c then (bif rightF c then (if (c.step.length : Int) = (0 : Int) then (true) else (bif rightF (cutC c (((IntKind.i64.wrap ((n.tmod (c.step.length : Int)) + (c.step.length : Int))).tmod (c.step.length : Int))).toNat) then (true) else (false))) else (true)) else (true)
theorem safeCut_con (c : Cod) (n : Int)  : ConF Try.prog 7 [.agg (c.c), num n] (.g (truth (safeCut c n))) := by
  unfold safeCut
  rcases bc (few c) with f0 | f0
  · rcases bc (rightF c) with f1 | f1
    · by_cases f2 : (c.step.length : Int) = (0 : Int)
      · rw [bif_t f0, bif_t f1, if_pos f2]
        exact byF (.g (truth true)) Try.func7 rfl [gives (few_con c), ends (nt f0), gives (right_con c (few_small f0)), ends (nt f1), ends (eq_t f2), gives awake_con] (by kernel_rfl)
      · rcases bc (rightF (cutC c (((IntKind.i64.wrap ((n.tmod (c.step.length : Int)) + (c.step.length : Int))).tmod (c.step.length : Int))).toNat)) with f3 | f3
        · rw [bif_t f0, bif_t f1, if_neg f2, bif_t f3]
          exact byF (.g (truth true)) Try.func7 rfl [gives (few_con c), ends (nt f0), gives (right_con c (few_small f0)), ends (nt f1), ends (eq_f f2), fact (by omega : (c.step.length : Int) ≠ 0), fact (by omega : (c.step.length : Int) ≠ 0), parts' (ins_cut (cut_at (n := n) f2 (few_step f0)).1 (cut_at (n := n) f2 (few_step f0)).2), gives (cut_con c (((IntKind.i64.wrap ((n.tmod (c.step.length : Int)) + (c.step.length : Int))).tmod (c.step.length : Int))).toNat (few_small f0)), ends f3, gives awake_con] (by kernel_rfl)
        · rw [bif_t f0, bif_t f1, if_neg f2, bif_f f3]
          exact byF (.g (truth false)) Try.func7 rfl [gives (few_con c), ends (nt f0), gives (right_con c (few_small f0)), ends (nt f1), ends (eq_f f2), fact (by omega : (c.step.length : Int) ≠ 0), fact (by omega : (c.step.length : Int) ≠ 0), parts' (ins_cut (cut_at (n := n) f2 (few_step f0)).1 (cut_at (n := n) f2 (few_step f0)).2), gives (cut_con c (((IntKind.i64.wrap ((n.tmod (c.step.length : Int)) + (c.step.length : Int))).tmod (c.step.length : Int))).toNat (few_small f0)), ends f3] (by kernel_rfl)
    · rw [bif_t f0, bif_f f1]
      exact byF (.g (truth true)) Try.func7 rfl [gives (few_con c), ends (nt f0), gives (right_con c (few_small f0)), ends (nf f1), ends (rfl : true = true), gives awake_con] (by kernel_rfl)
  · rw [bif_f f0]
    exact byF (.g (truth true)) Try.func7 rfl [gives (few_con c), ends (nf f0), ends (rfl : true = true), ends (rfl : true = true), gives awake_con] (by kernel_rfl)
end Go.Proofs.Ytidpkomcgkcfjaa.Ev
end
section
/- Object code: what may run has instructions of its own in each body, and may be cut: the laws. Pure, but for the last lines. -/
namespace Go.Proofs.Ytidpkomcgkcfjaa.Ev
open Go Go.RowKit Go.Proofs.Ytidpkomcgkcfjaa
set_option linter.unusedVariables false
set_option linter.unusedSimpArgs false
theorem run_take {F : Body} : ∀ (l : List Ins) (s : List Bool × List Bool) (k : Nat), (bodyRun F l s).isSome = true → (bodyRun F (l.take k) s).isSome = true
  | [], s, k, h => by rw [List.take_nil]; exact h
  | y :: l, s, 0, h => rfl
  | y :: l, s, k + 1, h => by
    rw [List.take_succ_cons]
    unfold bodyRun at h ⊢
    cases hy : (F s.1 s.2 y).1 with
    | false => rw [hy] at h; cases h
    | true => rw [hy] at h; exact run_take l _ k h
theorem right_runs {c : Cod} (h : rightF c = true) : ([c.ins, c.outs, c.slots, c.crosses, c.lines].any (badP 65537)) = false ∧ (∃ s, bodyRun (Fstep c) c.step (List.replicate c.slots.toNat false, List.replicate c.lines.toNat false) = some s ∧ ∃ s', bodyRun (Fderiv c) c.deriv s = some s' ∧ (bodyRun (Fcross c) c.cross s').isSome = true) := by
  unfold rightF runAll at h
  rw [Bool.and_eq_true] at h
  refine ⟨by simpa using h.1, ?_⟩
  have h2 := h.2
  split at h2
  · cases h2
  · rename_i s hs
    split at h2
    · cases h2
    · rename_i s' hs'
      exact ⟨s, hs, s', hs', h2⟩
theorem cut_right {c : Cod} (h : rightF c = true) (k : Nat) : rightF (cutC c k) = true := by
  obtain ⟨h1, s, h2, _⟩ := right_runs h
  have h3 : (bodyRun (Fstep (cutC c k)) (c.step.take k) (List.replicate c.slots.toNat false, List.replicate c.lines.toNat false)).isSome = true := run_take (F := Fstep c) c.step _ k (by rw [h2]; rfl)
  unfold rightF runAll
  show (!([c.ins, c.outs, c.slots, c.crosses, c.lines].any (badP 65537)) && _) = true
  rw [h1]
  show (match bodyRun (Fstep (cutC c k)) (c.step.take k) (List.replicate c.slots.toNat false, List.replicate c.lines.toNat false) with
  | none => false
  | some s => _) = true
  obtain ⟨s, hs⟩ := Option.isSome_iff_exists.1 h3
  rw [hs]
  rfl
theorem safeCut_true (c : Cod) (n : Int) : safeCut c n = true := by
  unfold safeCut
  rcases bc (few c) with h | h
  · rw [bif_t h]
    rcases bc (rightF c) with h2 | h2
    · rw [bif_t h2]
      split
      · rfl
      · rw [cut_right h2]; rfl
    · rw [bif_f h2]
  · rw [bif_f h]
theorem safeCut_holds (c : Cod) (n : Int) : ConF Try.prog 7 [.agg c.c, num n] (.g (truth true)) := (safeCut_con c n).to (by rw [safeCut_true])
end Go.Proofs.Ytidpkomcgkcfjaa.Ev
end
