import Derived.Test.YtjfkhbkddenfoaaQgcdcaopcijM
import Derived.Test.YtjfkhbkddenfoaaQnidlabefboM
import Derived.Deep.Slices
import Derived.Deep.Fields
import Derived.ChangeSame
import Derived.ChangeArms
import Derived.DataReads
set_option linter.unusedVariables false
set_option linter.unusedSimpArgs false
namespace Go.Proofs.Ytjfkhbkddenfoaa.Ev
open Go Go.RowKit Go.Proofs.YtjfkhbkddenfoaaW.PrintWords Go.Proofs.YtjfkhbkddenfoaaW.PrintMore Go.Proofs.YtjfkhbkddenfoaaW.PrintLast Go.Proofs.Ytjfkhbkddenfoaa Go.Proofs.Ytjfkhbkddenfoaa.Nt Go.Proofs.Ytjfkhbkddenfoaa.Zi
section
theorem wb_at {ws : List Bool} {i : Nat} (h : i < ws.length) : (0 : Int) ≤ (i : Int) ∧ (ws.map fun b => [AC.v (.bool b)])[(i : Int).toNat]? = some [AC.v (.bool ws[i])] := ⟨by omega, by simp [h]⟩
theorem ne_self (b : Bool) : (b != b) = false := by cases b <;> rfl
theorem same_t {x : Rat} {k : Nat} (hx : short k x) (hk : k ≤ 2000) : Con Try.prog 16 [ra x, ra x] (.g (truth true)) := (same3 (y := x) hx hk).to (by rw [decide_eq_true rfl])
def rC (r : R3) : List AC := [.v (.bool r.1), limbs r.2.1, limbs r.2.2]
def ST (l : List Lin) (r : R3) (ws : List Bool) (i : Int) : St := ⟨sparse 120 [(0, .g (.one (lins l))), (3, .g (.one (.ptr 0 0))), (9, .g (.one (bools ws))), (10, .g (.one (bools ws))), (11, .g (num i))], [some (false, rC r)], 0⟩
theorem tells_loop (l : List Lin) (hb : l.length ≤ 100000) (hl : ∀ x ∈ l, x.four) (r : R3) (hr : r.four) (ws : List Bool) (hw : ws.length = l.length) : ∀ (d i : Nat), i + d = l.length →
    Rounds Try.prog (lp Try.f3 0) (ST l r ws i) (.exit 0) (ST l r ws l.length)
  | 0, i, h => by
    have : i = l.length := by omega
    subst this
    exact Rounds.out (at_ _ _ [ends (show decide ((l.length : Int) < (l.length : Int)) = false by simp)] (by kernel_rfl)) (by simp)
  | d + 1, i, h => by
    have hi : i < l.length := by omega
    have hlt : decide ((i : Int) < (l.length : Int)) = true := by rw [decide_eq_true_iff]; omega
    have hx := hl _ (List.getElem_mem hi)
    have hel := lin_at hi
    have hwl := wb_at (ws := ws) (i := i) (by omega)
    have ih := tells_loop l hb hl r hr ws hw d (i + 1) (by omega)
    have P := passes_con l[i] hx.ok
    have SP := spasses_con l[i] hx.ok
    have A := at_con l[i] hx.ok r hr.ok (short_up hr.sh (by decide))
    have SA := sat_con l[i] hx.ok r hr.ok (short_up hr.sh (by decide))
    have E := same_t (short_at hx.ok (short_up hr.sh (by decide))) (by decide)
    have nx : IntKind.i64.wrap ((i : Int) + 1) = ((i + 1 : Nat) : Int) := by rw [wr (by omega) (by omega)]; omega
    have hsh := fun t => pass_eight (t := t) hx
    cases hp : passF l[i] with
    | none =>
      rw [hp] at P SP
      have step := at_ (c := lp Try.f3 0) (p := ST l r ws i) .normal (ST l r ws (IntKind.i64.wrap ((i : Int) + 1))) [ends hlt, elem hel, gives P, elem hel, gives SP, elem hwl, elem hwl, ends (ne_self ws[i]), ends (rfl : (false != false) = false), ends (rfl : false = false), ends (rfl : false = false), elem hel, gives A, elem hel, gives SA, gives E, ends (rfl : (!true) = false)] (by kernel_rfl)
      rw [nx] at step
      exact ih.step' step
    | some t =>
      rw [hp] at P SP
      have E2 := same_t (hsh t hp) (by decide)
      have step := at_ (c := lp Try.f3 0) (p := ST l r ws i) .normal (ST l r ws (IntKind.i64.wrap ((i : Int) + 1))) [ends hlt, elem hel, gives P, elem hel, gives SP, elem hwl, elem hwl, ends (ne_self ws[i]), ends (rfl : (true != true) = false), ends (rfl : true = true), gives E2, ends (rfl : (!true) = false), elem hel, gives A, elem hel, gives SA, gives E, ends (rfl : (!true) = false)] (by kernel_rfl)
      rw [nx] at step
      exact ih.step' step
theorem fewF_four {l : List Lin} (hl : ∀ x ∈ l, x.lim) (h : fewF l = true) : l.length ≤ 20 ∧ ∀ x ∈ l, x.four := by
  unfold fewF at h
  simp only [Bool.and_eq_true, Bool.not_eq_true', decide_eq_false_iff_not, List.all_eq_true] at h
  exact ⟨by omega, fun x hx => fewL_four (hl x hx) (h.2 x hx)⟩
theorem SolveTells (l : List Lin) (hl : ∀ x ∈ l, x.lim) (r : R3) (h1 : lim r.2.1) (h2 : lim r.2.2) : ConF Try.prog 3 [.one (lins l), rat r.1 r.2.1 r.2.2] (.g (truth true)) := by
  have F := fewLines l
  have L := long_con r
  cases hf : fewF l with
  | false =>
    rw [hf] at F
    exact byF _ Try.func3 rfl [gives F, ends (rfl : (!false) = true), ends (rfl : true = true)] (by kernel_rfl)
  | true =>
    rw [hf] at F
    cases hg : longF r with
    | true =>
      rw [hg] at L
      exact byF _ Try.func3 rfl [gives F, ends (rfl : (!true) = false), gives L, ends (rfl : true = true)] (by kernel_rfl)
    | false =>
      rw [hg] at L
      have hr := r3_four h1 h2 hg
      obtain ⟨hb, hl4⟩ := fewF_four hl hf
      have ok := fun x hx => (hl4 x hx).ok
      have N := next_con l (by omega) ok
      have SN := snext_con l (by omega) ok
      have P := passed_con l (by omega) ok r hr.ok (short_up hr.sh (by decide))
      have SP := spassed_con l (by omega) ok r hr.ok (short_up hr.sh (by decide))
      have G := tells_loop l (by omega) hl4 r hr (l.map (wentF r.q)) (by simp) l.length 0 (by omega)
      have fs := first_spec l none
      generalize l.map (wentF r.q) = ws at *
      cases ho : l.foldl better none with
      | none =>
        rw [ho] at N SN
        exact byF _ Try.func3 rfl [gives F, ends (rfl : (!true) = false), gives L, ends (rfl : false = false), gives N, gives SN, gives P, gives SP, ends (rfl : (false != false) = false), ends (rfl : false = false), ends (rfl : false = false), ends (ne_f rfl : ((ws.length : Int) != (ws.length : Int)) = false), goes G.loop, gives awakeS] (by kernel_rfl)
      | some t =>
        rw [ho] at N SN
        have ht : short 8 t := by
          rcases fs.2.2 t ho with h | ⟨x, hx, h⟩
          · cases h
          · exact pass_eight (hl4 x hx) h
        have E := same_t ht (by decide)
        exact byF _ Try.func3 rfl [gives F, ends (rfl : (!true) = false), gives L, ends (rfl : false = false), gives N, gives SN, gives P, gives SP, ends (rfl : (true != true) = false), ends (rfl : true = true), gives E, ends (rfl : (!true) = false), ends (ne_f rfl : ((ws.length : Int) != (ws.length : Int)) = false), goes G.loop, gives awakeS] (by kernel_rfl)
end
section
theorem is_r {r : R3} (h : r.ok) : Is (rat r.1 r.2.1 r.2.2) r.q := ⟨_, _, _, rfl, h.1, h.2, rfl⟩
section
variable {A B : AG} {x y : Rat} (ha : Is A x) (hb : Is B y)
include ha
theorem hSign : Con Try.prog 22 [A] (.g (num (sgn x.num))) := by obtain ⟨b, l, d, rfl, h1, h2, rfl⟩ := ha; exact rSign b l d h1 h2
theorem hNorm : Con Try.prog 25 [A] (.g (ra x)) := by obtain ⟨b, l, d, rfl, h1, h2, rfl⟩ := ha; exact rNorm b l d (few_up h1 (by decide)) (few_up h2 (by decide))
include hb
theorem hCmp : Con Try.prog 23 [A, B] (.g (num (cmpR x y))) := by obtain ⟨b, l, d, rfl, h1, h2, rfl⟩ := ha; obtain ⟨c, m, e, rfl, h3, h4, rfl⟩ := hb; exact rCmp b l d c m e h1 h2 h3 h4
theorem hAdd : Con Try.prog 24 [A, B] (.g (ra (x + y))) := by obtain ⟨b, l, d, rfl, h1, h2, rfl⟩ := ha; obtain ⟨c, m, e, rfl, h3, h4, rfl⟩ := hb; exact rAdd b l d c m e h1 h2 h3 h4
end
theorem at_r3 (x : Lin) (h : x.ok) {t : Rat} (ht : short 600 t) : Con Try.prog 19 [.agg x.c, ra t] (.g (ra (atR x t))) := by
  have := at_con x h (r3 t) (r3_ok ht (by decide)) (by rw [r3_q]; exact ht)
  rw [r3_q] at this
  exact this
theorem fewOne (x : Lin) (hx : x.lim) : Con Try.prog 10 [.one (lins [x])] (.g (truth (fewL x))) := (fewLines [x]).to (by unfold fewF; simp)
theorem SolveExact (x : Lin) (hx : x.lim) (r : R3) (h1 : lim r.2.1) (h2 : lim r.2.2) : ConF Try.prog 4 [.agg x.c, rat r.1 r.2.1 r.2.2] (.g (truth true)) := by
  have F := fewOne x hx
  have L := long_con r
  cases hf : fewL x with
  | false =>
    rw [hf] at F
    exact byF _ Try.func4 rfl [gives F, ends (rfl : (!false) = true), ends (rfl : true = true)] (by kernel_rfl)
  | true =>
    rw [hf] at F
    cases hg : longF r with
    | true =>
      rw [hg] at L
      exact byF _ Try.func4 rfl [gives F, ends (rfl : (!true) = false), gives L, ends (rfl : true = true)] (by kernel_rfl)
    | false =>
      rw [hg] at L
      have hr := r3_four h1 h2 hg
      have h4 := fewL_four hx hf
      have P := passes_con x h4.ok
      have SV := hSign (is_v h4.ok)
      have SB := hSign (is_r hr.ok)
      have AB := at_con x h4.ok r hr.ok (short_up hr.sh (by decide))
      have SA := hSign (is_ra (short_at h4.ok (short_up hr.sh (by decide))) (by decide))
      cases hp : passF x with
      | none =>
        rw [hp] at P
        have hn := pass_none.1 hp
        obtain ⟨on, v, s⟩ := x
        cases on with
        | false => exact byF _ Try.func4 rfl [gives F, ends (rfl : (!true) = false), gives L, ends (rfl : false = false), gives P, ends (rfl : (!false) = true), ends (rfl : (!false) = true), ends (rfl : true = true), ends (rfl : true = true), gives awakeS] (by kernel_rfl)
        | true =>
          by_cases hv : sgn v.q.num ≥ 0
          · exact byF _ Try.func4 rfl [gives F, ends (rfl : (!true) = false), gives L, ends (rfl : false = false), gives P, ends (rfl : (!false) = true), ends (rfl : (!true) = false), gives SV, ends (decide_eq_true hv), ends (rfl : true = true), gives awakeS] (by kernel_rfl)
          · by_cases hb : sgn r.q.num < 0
            · exact byF _ Try.func4 rfl [gives F, ends (rfl : (!true) = false), gives L, ends (rfl : false = false), gives P, ends (rfl : (!false) = true), ends (rfl : (!true) = false), gives SV, ends (decide_eq_false hv), gives SB, ends (decide_eq_true hb), gives awakeS] (by kernel_rfl)
            · have key : decide (sgn (atR ⟨true, v, s⟩ r.q).num < 0) = true := by
                rw [decide_eq_true_iff, sgn_lt, at_on rfl]
                have hV : v.q < 0 := Rat.not_le.1 (fun h => hv (sgn_ge.2 (Rat.not_lt.2 h)))
                exact line_stay hV (fun hS => hn ⟨⟨rfl, hV⟩, hS⟩) (fun h => hb (sgn_lt.2 h))
              exact byF _ Try.func4 rfl [gives F, ends (rfl : (!true) = false), gives L, ends (rfl : false = false), gives P, ends (rfl : (!false) = true), ends (rfl : (!true) = false), gives SV, ends (decide_eq_false hv), gives SB, ends (decide_eq_false hb), gives AB, gives SA, ends key, gives awakeS] (by kernel_rfl)
      | some t =>
        rw [hp] at P
        have ht := pass_eight h4 hp
        obtain ⟨⟨hon, hV⟩, hS, et⟩ := pass_iff.1 hp
        have AT := at_r3 x h4.ok (short_up ht (by decide))
        have SAT := hSign (is_ra (short_at h4.ok (short_up ht (by decide))) (by decide))
        have C := hCmp (is_r hr.ok) (is_ra ht (by decide))
        have ST' := hSign (is_ra ht (by decide))
        have k1 : decide (sgn t.num > 0) = true := decide_eq_true (sgn_gt.2 (et ▸ line_pos hV hS))
        have k2 : (sgn (atR x t).num == 0) = true := by
          rw [beq_iff_eq, sgn_eq, at_on hon, et]
          exact line_zero hS
        have k3 : (decide (sgn (atR x r.q).num < 0) == decide (cmpR r.q t < 0)) = true := by
          rw [beq_iff_eq, decide_eq_decide, sgn_lt, cmp_lt, at_on hon, et]
          exact line_lt hS
        exact byF _ Try.func4 rfl [gives F, ends (rfl : (!true) = false), gives L, ends (rfl : false = false), gives P, ends (rfl : (!true) = false), gives AT, gives SAT, gives C, gives ST', ends k1, ends k2, gives AB, gives SA, ends k3, gives awakeS] (by kernel_rfl)
def later (x : Lin) (t : Rat) : Lin := ⟨x.on, r3 (atR x t), x.s⟩
theorem later_ok {x : Lin} (h : x.four) {t : Rat} (ht : short 4 t) : (later x t).ok ∧ short 13 (atR x t) := by
  have hs : short 13 (atR x t) := by
    unfold atR
    split
    · exact short_up (short_add h.v.sh (short_mul h.s.sh ht)) (by decide)
    · exact short_int (z := 0) (by decide) (by decide)
  exact ⟨⟨r3_ok hs (by decide), h.s.ok, by show short 600 (r3 (atR x t)).q; rw [r3_q]; exact short_up hs (by decide), short_up h.s.sh (by decide)⟩, hs⟩
theorem later_q (x : Lin) (t : Rat) : (later x t).v.q = atR x t := r3_q _
theorem SolveTwice (x : Lin) (hx : x.lim) (r : R3) (h1 : lim r.2.1) (h2 : lim r.2.2) : ConF Try.prog 6 [.agg x.c, rat r.1 r.2.1 r.2.2] (.g (truth true)) := by
  have F := fewOne x hx
  have L := long_con r
  cases hf : fewL x with
  | false =>
    rw [hf] at F
    exact byF _ Try.func6 rfl [gives F, ends (rfl : (!false) = true), ends (rfl : true = true), ends (rfl : true = true)] (by kernel_rfl)
  | true =>
    rw [hf] at F
    cases hg : longF r with
    | true =>
      rw [hg] at L
      exact byF _ Try.func6 rfl [gives F, ends (rfl : (!true) = false), gives L, ends (rfl : true = true), ends (rfl : true = true)] (by kernel_rfl)
    | false =>
      rw [hg] at L
      have hr := r3_four h1 h2 hg
      have h4 := fewL_four hx hf
      have SB := hSign (is_r hr.ok)
      by_cases hb : sgn r.q.num < 0
      · exact byF _ Try.func6 rfl [gives F, ends (rfl : (!true) = false), gives L, ends (rfl : false = false), gives SB, ends (decide_eq_true hb)] (by kernel_rfl)
      · have hb0 : ¬ r.q < 0 := fun h => hb (sgn_lt.2 h)
        have P := passes_con x h4.ok
        have AB := at_con x h4.ok r hr.ok (short_up hr.sh (by decide))
        obtain ⟨lok, lsh⟩ := later_ok h4 hr.sh
        have P2 := passes_con (later x r.q) lok
        have none2 : (∀ t, passF x = some t → ¬ r.q < t) → passF (later x r.q) = none := fun h => pass_none.2 (by
          rw [later_q]
          rintro ⟨⟨hon, hV⟩, hS⟩
          have hon : x.on = true := hon
          have hS : 0 < x.s.q := hS
          rw [at_on hon] at hV
          have hlt := (line_lt hS).1 hV
          by_cases hv : x.v.q < 0
          · exact h _ (pass_iff.2 ⟨⟨hon, hv⟩, hS, rfl⟩) hlt
          · have h3 := (line_mono (V := x.v.q) hS (a := r.q) (b := 0)).1 (by rw [Rat.mul_zero, Rat.add_zero]; exact Rat.not_le.1 (fun h9 => absurd hV (Rat.not_lt.2 (Rat.le_trans (Rat.not_lt.1 hv) h9))))
            exact hb0 h3)
        cases hp : passF x with
        | none =>
          rw [hp] at P
          rw [none2 (fun t h => by rw [hp] at h; cases h)] at P2
          exact byF _ Try.func6 rfl [gives F, ends (rfl : (!true) = false), gives L, ends (rfl : false = false), gives SB, ends (decide_eq_false hb), gives P, gives AB, gives P2, ends (rfl : (!false) = true), ends (rfl : true = true), ends (rfl : (!false) = true), gives awakeS] (by kernel_rfl)
        | some t =>
          rw [hp] at P
          have ht := pass_eight h4 hp
          have C := hCmp (is_r hr.ok) (is_ra ht (by decide))
          by_cases hc : cmpR r.q t ≥ 0
          · rw [none2 (fun u h => by rw [hp] at h; cases h; exact cmp_ge.1 hc)] at P2
            exact byF _ Try.func6 rfl [gives F, ends (rfl : (!true) = false), gives L, ends (rfl : false = false), gives SB, ends (decide_eq_false hb), gives P, gives AB, gives P2, ends (rfl : (!true) = false), gives C, ends (decide_eq_true hc), ends (rfl : (!false) = true), gives awakeS] (by kernel_rfl)
          · obtain ⟨⟨hon, hV⟩, hS, et⟩ := pass_iff.1 hp
            have hlt : r.q < t := Rat.not_le.1 (fun h => hc (cmp_ge.2 (Rat.not_lt.2 h)))
            have p2 : passF (later x r.q) = some (-(atR x r.q) / x.s.q) := pass_iff.2 ⟨⟨hon, by rw [later_q, at_on hon]; exact (line_lt hS).2 (et ▸ hlt)⟩, hS, by rw [later_q]; rfl⟩
            rw [p2] at P2
            have us : short 17 (-(atR x r.q) / x.s.q) := short_div (short_neg lsh) h4.s.sh (by decide)
            have S := hAdd (is_ra us (by decide)) (is_r hr.ok)
            have eu : -(atR x r.q) / x.s.q + r.q = t := by rw [at_on hon, et]; exact line_later hS r.q
            rw [eu] at S
            have NT := hNorm (is_ra ht (by decide))
            have E := same_t ht (by decide)
            exact byF _ Try.func6 rfl [gives F, ends (rfl : (!true) = false), gives L, ends (rfl : false = false), gives SB, ends (decide_eq_false hb), gives P, gives AB, gives P2, ends (rfl : (!true) = false), gives C, ends (decide_eq_false hc), ends (rfl : true = true), gives S, gives NT, gives E, ends (rfl : true = true), gives awakeS] (by kernel_rfl)
end
section
def SF (l : List Lin) (o : Option Rat) (b : Bool) (i : Int) : St := ⟨sparse 103 [(0, .g (.one (lins l))), (3, .g (.one (.ptr 0 0))), (4, .g (truth o.isSome)), (5, .g (truth b)), (6, .g (num i))], [some (false, bestC o)], 0⟩
theorem first_loop (l : List Lin) (hb : l.length ≤ 100000) (hl : ∀ x ∈ l, x.four) (o : Option Rat) (ho : ∀ t, o = some t → short 8 t) (hs : ∀ x ∈ l, ∀ u, passF x = some u → ∃ t, o = some t ∧ ¬ u < t) : ∀ (d i : Nat) (b : Bool), i + d = l.length →
    Rounds Try.prog (lp Try.f5 0) (SF l o b i) (.exit 0) (SF l o (b || (l.drop i).any fun x => (passF x).isSome) l.length)
  | 0, i, b, h => by
    have : i = l.length := by omega
    subst this
    rw [List.drop_eq_nil_of_le (Nat.le_refl _), List.any_nil, Bool.or_false]
    cases o <;> exact Rounds.out (at_ _ _ [ends (show decide ((l.length : Int) < (l.length : Int)) = false by simp)] (by kernel_rfl)) (by simp)
  | d + 1, i, b, h => by
    have hi : i < l.length := by omega
    have hlt : decide ((i : Int) < (l.length : Int)) = true := by rw [decide_eq_true_iff]; omega
    have hx := hl _ (List.getElem_mem hi)
    have hel := lin_at hi
    have ih := first_loop l hb hl o ho hs d (i + 1) (b || (passF l[i]).isSome) (by omega)
    rw [List.drop_eq_getElem_cons hi, List.any_cons, ← Bool.or_assoc]
    have P := passes_con l[i] hx.ok
    have nx : IntKind.i64.wrap ((i : Int) + 1) = ((i + 1 : Nat) : Int) := by rw [wr (by omega) (by omega)]; omega
    have hs' := hs _ (List.getElem_mem hi)
    have hsh := fun t => pass_eight (t := t) hx
    cases hp : passF l[i] with
    | none =>
      rw [hp] at P ih
      have step : CodeCon Try.prog (lp Try.f5 0) (SF l o b i) .normal (SF l o (b || false) (IntKind.i64.wrap ((i : Int) + 1))) := by
        cases b with
        | false => cases o <;> exact at_ .normal _ [ends hlt, elem hel, gives P, ends (rfl : false = false), ends (rfl : false = false), ends (rfl : false = false)] (by kernel_rfl)
        | true => cases o <;> exact at_ .normal _ [ends hlt, elem hel, gives P, ends (rfl : false = false), ends (rfl : false = false), ends (rfl : true = true)] (by kernel_rfl)
      rw [nx] at step
      exact ih.step' step
    | some u =>
      rw [hp] at P ih
      obtain ⟨t, rfl, hut⟩ := hs' u hp
      have C := hCmp (is_ra (hsh u hp) (by decide)) (is_ra (ho t rfl) (by decide))
      have hc : decide (cmpR u t < 0) = false := decide_eq_false (fun h => hut (cmp_lt.1 h))
      have step : CodeCon Try.prog (lp Try.f5 0) (SF l (some t) b i) .normal (SF l (some t) (b || true) (IntKind.i64.wrap ((i : Int) + 1))) := by
        cases b with
        | false => exact at_ .normal _ [ends hlt, elem hel, gives P, ends (rfl : true = true), ends (rfl : (!true) = false), gives C, ends hc, ends (rfl : false = false)] (by kernel_rfl)
        | true => exact at_ .normal _ [ends hlt, elem hel, gives P, ends (rfl : true = true), ends (rfl : (!true) = false), gives C, ends hc, ends (rfl : true = true)] (by kernel_rfl)
      rw [nx] at step
      exact ih.step' step
def SG (l : List Lin) (t : Rat) (ws : List Bool) (b : Bool) (i : Int) : St := ⟨sparse 103 [(0, .g (.one (lins l))), (3, .g (.one (.ptr 0 0))), (9, .g (.one (bools ws))), (10, .g (truth b)), (11, .g (num i))], [some (false, bestC (some t))], 0⟩
theorem second_loop (l : List Lin) (hb : l.length ≤ 100000) (hl : ∀ x ∈ l, x.four) (t : Rat) (ht : short 8 t) (hz : ∀ x ∈ l, wentF t x = true → atR x t = 0) (ws : List Bool) (hw : ws = l.map (wentF t)) : ∀ (d i : Nat) (b : Bool), i + d = l.length →
    Rounds Try.prog (lp Try.f5 1) (SG l t ws b i) (.exit 2) (SG l t ws (b || (l.drop i).any (wentF t)) l.length)
  | 0, i, b, h => by
    have : i = l.length := by omega
    subst this
    rw [List.drop_eq_nil_of_le (Nat.le_refl _), List.any_nil, Bool.or_false]
    exact Rounds.out (at_ _ _ [ends (show decide ((l.length : Int) < (l.length : Int)) = false by simp), ends (rfl : false = false)] (by kernel_rfl)) (by simp)
  | d + 1, i, b, h => by
    have hi : i < l.length := by omega
    have hlt : decide ((i : Int) < (l.length : Int)) = true := by rw [decide_eq_true_iff]; omega
    have hwl : ws.length = l.length := by rw [hw]; simp
    have hlt2 : decide ((i : Int) < (ws.length : Int)) = true := by rw [decide_eq_true_iff]; omega
    have hx := hl _ (List.getElem_mem hi)
    have hel := lin_at hi
    have ih := second_loop l hb hl t ht hz ws hw d (i + 1) (b || wentF t l[i]) (by omega)
    rw [List.drop_eq_getElem_cons hi, List.any_cons, ← Bool.or_assoc]
    have hwe := wb_at (ws := ws) (i := i) (by omega)
    have ew : ws[i]'(by omega) = wentF t l[i] := by subst hw; simp
    rw [ew] at hwe
    have A := at_r3 l[i] hx.ok (short_up ht (by decide))
    have S := hSign (is_ra (short_at hx.ok (short_up ht (by decide))) (by decide))
    have hz' := hz _ (List.getElem_mem hi)
    have nx : IntKind.i64.wrap ((i : Int) + 1) = ((i + 1 : Nat) : Int) := by rw [wr (by omega) (by omega)]; omega
    cases hwt : wentF t l[i] with
    | false =>
      rw [hwt] at hwe ih
      have step : CodeCon Try.prog (lp Try.f5 1) (SG l t ws b i) .normal (SG l t ws (b || false) (IntKind.i64.wrap ((i : Int) + 1))) := by
        cases b with
        | false => exact at_ .normal _ [ends hlt, ends hlt2, ends (rfl : false = false), elem hwe, elem hwe, ends (rfl : false = false), ends (rfl : false = false)] (by kernel_rfl)
        | true => exact at_ .normal _ [ends hlt, ends hlt2, ends (rfl : true = true), elem hwe, ends (rfl : false = false), ends (rfl : false = false)] (by kernel_rfl)
      rw [nx] at step
      exact ih.step' step
    | true =>
      rw [hwt] at hwe ih
      have e0 : (sgn (atR l[i] t).num != 0) = false := ne_f (sgn_eq.2 (hz' hwt))
      have step : CodeCon Try.prog (lp Try.f5 1) (SG l t ws b i) .normal (SG l t ws (b || true) (IntKind.i64.wrap ((i : Int) + 1))) := by
        cases b with
        | false => exact at_ .normal _ [ends hlt, ends hlt2, ends (rfl : false = false), elem hwe, elem hwe, ends (rfl : true = true), elem hel, gives A, gives S, ends e0] (by kernel_rfl)
        | true => exact at_ .normal _ [ends hlt, ends hlt2, ends (rfl : true = true), elem hwe, ends (rfl : true = true), elem hel, gives A, gives S, ends e0] (by kernel_rfl)
      rw [nx] at step
      exact ih.step' step
theorem SolveFirst (l : List Lin) (hl : ∀ x ∈ l, x.lim) : ConF Try.prog 5 [.one (lins l)] (.g (truth true)) := by
  have F := fewLines l
  cases hf : fewF l with
  | false =>
    rw [hf] at F
    exact byF _ Try.func5 rfl [gives F, ends (rfl : (!false) = true)] (by kernel_rfl)
  | true =>
    rw [hf] at F
    obtain ⟨hb, hl4⟩ := fewF_four hl hf
    have ok := fun x hx => (hl4 x hx).ok
    have N := next_con l (by omega) ok
    obtain ⟨_, fs2, fs3⟩ := first_spec l none
    have ho : ∀ t, l.foldl better none = some t → short 8 t := fun t h => by
      rcases fs3 t h with h | ⟨x, hx, h⟩
      · cases h
      · exact pass_eight (hl4 x hx) h
    have G := first_loop l (by omega) hl4 (l.foldl better none) ho fs2 l.length 0 false (by omega)
    rw [List.drop_zero, Bool.false_or] at G
    generalize hfo : l.foldl better none = o at *
    cases o with
    | none =>
      have hn : (l.any fun x => (passF x).isSome) = false := by
        rw [List.any_eq_false]
        intro x hx h
        cases hp : passF x with
        | none => rw [hp] at h; cases h
        | some u => obtain ⟨t, h2, _⟩ := fs2 x hx u hp; cases h2
      rw [hn] at G
      exact byF _ Try.func5 rfl [gives F, ends (rfl : (!true) = false), gives N, goes G.loop, ends (rfl : (!false) = true), ends (rfl : (!false) = true), gives awakeS] (by kernel_rfl)
    | some t =>
      have ht := ho t rfl
      obtain ⟨x, hx, hpx⟩ : ∃ x ∈ l, passF x = some t := (fs3 t rfl).elim (fun h => by cases h) id
      obtain ⟨⟨hon, hV⟩, hS, et⟩ := pass_iff.1 hpx
      have h0 : 0 < t := et ▸ line_pos hV hS
      have z : ∀ y ∈ l, wentF t y = true → atR y t = 0 := fun y hy hwt => by
        obtain ⟨⟨yon, yV⟩, yz⟩ := went_iff.1 hwt
        rw [at_on yon] at yz ⊢
        have yS : 0 < y.s.q := Classical.byContradiction (fun h => yz (line_stay yV h (Rat.not_lt.2 (Rat.le_of_lt h0))))
        have hy2 := pass_iff.2 ⟨⟨yon, yV⟩, yS, rfl⟩
        obtain ⟨t', e', hnt⟩ := fs2 y hy _ hy2
        cases e'
        have hnt2 : ¬ t < -y.v.q / y.s.q := fun h => yz ((line_lt yS).2 h)
        have e : t = -y.v.q / y.s.q := Rat.le_antisymm (Rat.not_lt.1 hnt) (Rat.not_lt.1 hnt2)
        rw [e]
        exact line_zero yS
      have P : Con Try.prog 14 [.one (lins l), ra t] (.g (.one (bools (l.map (wentF t))))) := by
        have := passed_con l (by omega) ok (r3 t) (r3_ok ht (by decide)) (by rw [r3_q]; exact short_up ht (by decide))
        rw [r3_q] at this
        exact this
      have G2 := second_loop l (by omega) hl4 t ht z (l.map (wentF t)) rfl l.length 0 false (by omega)
      have hany : (l.any (wentF t)) = true := by
        rw [List.any_eq_true]
        refine ⟨x, hx, went_iff.2 ⟨⟨hon, hV⟩, ?_⟩⟩
        rw [at_on hon, et, line_zero hS]
        exact Rat.lt_irrefl
      rw [List.drop_zero, Bool.false_or, hany] at G2
      have hlen : (((l.map (wentF t)).length : Nat) : Int) = (l.length : Int) := by simp
      generalize l.map (wentF t) = ws at *
      generalize (l.any fun x => (passF x).isSome) = sm at *
      exact byF _ Try.func5 rfl [gives F, ends (rfl : (!true) = false), gives N, goes G.loop, ends (rfl : (!true) = false), gives P, goes G2.loop, ends (eq_t hlen), ends (rfl : true = true), gives awakeS] (by kernel_rfl)
end
end Go.Proofs.Ytjfkhbkddenfoaa.Ev
namespace Go.Proofs.Ytjfkhbkddenfoaa.Ev
open Go Go.RowKit Go.ChangeShapes Go.WideShapes Go.Deep Go.Proofs.YtjfkhbkddenfoaaW.PrintWords Go.Proofs.YtjfkhbkddenfoaaW.PrintLast
section
def szs (L : Lays) (t : Nat) : Nat := match lay L t with
  | some y => y.size
  | none => 0
def tight (L : Lays) : Nat → List (Nat × Nat) → Option Nat
  | n, [] => some n
  | n, (o, t) :: r => bif Nat.beq o n && (lay L t).isSome then tight L (n + szs L t) r else none
def tights (L : Lays) : Bool := L.all fun p => match p.2.kind with
  | .st fl => (match tight L 0 fl with
    | some n => Nat.beq n p.2.size
    | none => false)
  | .sl e => (lay L e).isSome && Nat.blt 0 (szs L e)
  | .sc => false
  | _ => true
inductive Shp (L : Lays) : Nat → List AC → Prop
  | bool {t : Nat} {sz : Nat} {z : List AC} (b : Bool) : lay L t = some ⟨sz, z, .bool⟩ → Shp L t [.v (.bool b)]
  | int {t : Nat} {sz : Nat} {z : List AC} {k : IntKind} (x : Int) : lay L t = some ⟨sz, z, .int k⟩ → (Lit.int k x).wf = true → Shp L t [.v (.int k x)]
  | str {t : Nat} {sz : Nat} {z : List AC} (x : ByteArray) : lay L t = some ⟨sz, z, .str⟩ → x.size ≤ maxLen → Shp L t [.v (.string x)]
  | st {t : Nat} {sz : Nat} {z : List AC} {fl : List (Nat × Nat)} (ps : List (List AC)) : lay L t = some ⟨sz, z, .st fl⟩ → ps.length = fl.length → (∀ (j : Nat) p o u, ps[j]? = some p → fl[j]? = some (o, u) → Shp L u p) → Shp L t ps.flatten
  | sl {t : Nat} {sz : Nat} {z : List AC} {e : Nat} (es : List (List AC)) : lay L t = some ⟨sz, z, .sl e⟩ → es.length ≤ maxLen → (∀ c ∈ es, Shp L e c) → Shp L t [.row (szs L e) es.length es]
theorem Shp.of_bool {L : Lays} {t sz : Nat} {z : List AC} {cs : List AC} (h : Shp L t cs) (hl : lay L t = some ⟨sz, z, .bool⟩) : ∃ b, cs = [.v (.bool b)] := by
  cases h with
  | bool b _ => exact ⟨b, rfl⟩
  | _ => simp_all
theorem Shp.of_int {L : Lays} {t sz : Nat} {z : List AC} {k : IntKind} {cs : List AC} (h : Shp L t cs) (hl : lay L t = some ⟨sz, z, .int k⟩) : ∃ x, cs = [.v (.int k x)] ∧ (Lit.int k x).wf = true := by
  cases h with
  | int x h1 h2 => rw [hl] at h1; cases h1; exact ⟨x, rfl, h2⟩
  | _ => simp_all
theorem Shp.of_st {L : Lays} {t sz : Nat} {z : List AC} {fl : List (Nat × Nat)} {cs : List AC} (h : Shp L t cs) (hl : lay L t = some ⟨sz, z, .st fl⟩) : ∃ ps : List (List AC), cs = ps.flatten ∧ ps.length = fl.length ∧ ∀ (j : Nat) p o u, ps[j]? = some p → fl[j]? = some (o, u) → Shp L u p := by
  cases h with
  | st ps h1 h2 h3 => rw [hl] at h1; cases h1; exact ⟨ps, rfl, h2, h3⟩
  | _ => simp_all
theorem Shp.of_sl {L : Lays} {t sz : Nat} {z : List AC} {e : Nat} {cs : List AC} (h : Shp L t cs) (hl : lay L t = some ⟨sz, z, .sl e⟩) : ∃ es : List (List AC), cs = [.row (szs L e) es.length es] ∧ es.length ≤ maxLen ∧ ∀ c ∈ es, Shp L e c := by
  cases h with
  | sl es h1 h2 h3 => rw [hl] at h1; cases h1; exact ⟨es, rfl, h2, h3⟩
  | _ => simp_all
section
variable {H : Type} {enc : TypeId × Value → H} {P : Program} {L : Lays} {W : World} {base : Nat} {spare : Nat → Bool} {held : Bool}
theorem cells_lay (hL : LaysOk P L) {t : Nat} {y : Lay} (h : lay L t = some y) : P.cellsOf t = y.size := by
  obtain ⟨i, hi, hs, _⟩ := (hL t y h).info
  unfold Program.cellsOf
  rw [hi]
  exact hs
theorem choose_list {α : Type} {p : Nat → α → Prop} : ∀ n : Nat, (∀ i, i < n → ∃ x, p i x) → ∃ l : List α, l.length = n ∧ ∀ (i : Nat) x, l[i]? = some x → p i x
  | 0, _ => ⟨[], rfl, fun i x h => by cases h⟩
  | n + 1, h => by
    obtain ⟨l, h1, h2⟩ := choose_list n (fun i hi => h i (by omega))
    obtain ⟨x, hx⟩ := h n (by omega)
    refine ⟨l ++ [x], by simp [h1], fun i y hy => ?_⟩
    by_cases hi : i < l.length
    · rw [List.getElem?_append_left hi] at hy; exact h2 i y hy
    · rw [List.getElem?_append_right (by omega)] at hy
      have : i = n := by
        have := (List.getElem?_eq_some_iff.1 hy).1
        simp at this
        omega
      subst this
      simp [h1] at hy
      exact hy ▸ hx
theorem tight_at : ∀ {fl : List (Nat × Nat)} {n m : Nat}, tight L n fl = some m → n ≤ m ∧ ∀ (j : Nat) o u, fl[j]? = some (o, u) → ∃ y, lay L u = some y ∧ n ≤ o ∧ o + y.size ≤ m
  | [], n, m, h => by cases h; exact ⟨Nat.le_refl _, fun j o u h => by cases h⟩
  | (o, t) :: r, n, m, h => by
    unfold tight at h
    cases hb : (Nat.beq o n && (lay L t).isSome) with
    | false => rw [hb] at h; cases h
    | true =>
      rw [hb] at h
      rw [Bool.and_eq_true] at hb
      have e := Nat.eq_of_beq_eq_true hb.1
      subst e
      obtain ⟨y, hy⟩ := Option.isSome_iff_exists.1 hb.2
      have hs : szs L t = y.size := by unfold szs; rw [hy]
      obtain ⟨h1, h2⟩ := tight_at (by simpa using h)
      rw [hs] at h1 h2
      refine ⟨by omega, fun j o' u hj => ?_⟩
      cases j with
      | zero => cases hj; exact ⟨y, hy, Nat.le_refl _, h1⟩
      | succ j =>
        obtain ⟨y', h3, h4, h5⟩ := h2 j o' u (by simpa using hj)
        exact ⟨y', h3, by omega, h5⟩
theorem parts_at {ok : Nat → Prop} {us : List Value} : ∀ {fl : List (Nat × Nat)} {n m : Nat} {ps : List (List AC)}, tight L n fl = some m → m ≤ us.length → ps.length = fl.length →
    (∀ (j : Nat) p o u, ps[j]? = some p → fl[j]? = some (o, u) → TL [] ok W p ((us.drop o).take (szs L u))) → TL [] ok W ps.flatten ((us.drop n).take (m - n))
  | [], n, m, ps, h, hm, hl, hT => by
    cases h
    have : ps = [] := List.eq_nil_of_length_eq_zero hl
    subst this
    simp only [Nat.sub_self, List.take_zero, List.flatten_nil]
    exact ⟨rfl, fun j c u hc => by cases hc⟩
  | (o, t) :: r, n, m, [], h, hm, hl, hT => by simp at hl
  | (o, t) :: r, n, m, p :: ps, h, hm, hl, hT => by
    have h0 := h
    unfold tight at h
    cases hb : (Nat.beq o n && (lay L t).isSome) with
    | false => rw [hb] at h; cases h
    | true =>
      rw [hb] at h
      rw [Bool.and_eq_true] at hb
      have e := Nat.eq_of_beq_eq_true hb.1
      subst e
      have h1 := hT 0 p o t rfl rfl
      have h2 := parts_at (ps := ps) (by simpa using h) hm (by simpa using hl) (fun j p o u hp hf => hT (j + 1) p o u (by simpa using hp) (by simpa using hf))
      have h3 := (tight_at (by simpa using h : tight L (o + szs L t) r = some m)).1
      have h4 := h1.append h2
      rw [List.flatten_cons]
      have e2 : (us.drop o).take (m - o) = (us.drop o).take (szs L t) ++ ((us.drop (o + szs L t)).take (m - (o + szs L t))) := by
        rw [show m - o = szs L t + (m - (o + szs L t)) by omega, List.take_add, List.drop_drop]
      rw [e2]
      exact h4
theorem lays_mem {t : Nat} {y : Lay} (h : lay L t = some y) : (t, y) ∈ L := lay_mem h
theorem trod_lt_cell {b : Addr} {n : Nat} {cs : List Value} (h : W.cells? base b n = some cs) {j : Nat} (hj : j < n) : b.block < W.heap.size := by
  obtain ⟨_, hl, hat⟩ := World.cells?_some h
  have := hat j hj
  rw [List.getElem?_eq_getElem (by omega)] at this
  rw [← add_block b j]
  unfold World.cell? at this
  split at this
  · rename_i heq
    exact (Array.getElem?_eq_some_iff.1 heq).1
  · cases this
theorem TL.of {ok : Nat → Prop} {c : AC} {u : Value} (h : TC [] ok W c u) : TL [] ok W [c] [u] := ⟨rfl, fun j a b ha hb => by
  cases j with
  | zero => cases ha; cases hb; exact h
  | succ j => cases ha⟩
theorem Shp.plain {t : Nat} {cs : List AC} (h : Shp L t cs) : ∀ c ∈ cs, c.noptr = true := by
  induction h with
  | bool b _ => intro c hc; rw [List.mem_singleton.1 hc]; rfl
  | int x _ _ => intro c hc; rw [List.mem_singleton.1 hc]; rfl
  | str x _ _ => intro c hc; rw [List.mem_singleton.1 hc]; rfl
  | @st t sz z fl ps hl hn _ ih =>
    intro c hc
    obtain ⟨p, hp, hcp⟩ := List.mem_flatten.1 hc
    obtain ⟨j, hj, he⟩ := List.mem_iff_getElem.1 hp
    exact ih j p _ _ (he ▸ List.getElem?_eq_getElem hj) (List.getElem?_eq_getElem (show j < fl.length by omega)) c hcp
  | sl es _ _ _ _ => intro c hc; rw [List.mem_singleton.1 hc]; rfl
theorem row_told {k len cap : Nat} {a : Addr} {qs : List (List AC × List Value)} (hl : qs.length = len) (hc : len ≤ cap) (hm : cap ≤ maxLen) (hk : 0 < k) (h : ∀ (i : Nat) q, qs[i]? = some q → W.cells? base (a.add (i * k)) k = some q.2 ∧ TL [] (fun b => b < W.heap.size) W q.1 q.2 ∧ ∀ c ∈ q.1, c.noptr = true) :
    TC [] (fun b => b < W.heap.size) W (.row k len (qs.map Prod.fst)) (.slice (some a) len cap) := by
  show Foot (fun W => Rd W _ _) W _
  refine foot_mk fun W' hW' => ?_
  have at_ : ∀ (i : Nat) us, (qs.map Prod.snd)[i]? = some us → us.length = k ∧ ∀ (j : Nat) u, us[j]? = some u → W'.cell? (a.add (i * k + j)) = some u := fun i us hus => by
    rw [List.getElem?_map, Option.map_eq_some_iff] at hus
    obtain ⟨q, hq, rfl⟩ := hus
    obtain ⟨h1, h2, _⟩ := h i q hq
    obtain ⟨_, h3, h4⟩ := World.cells?_some h1
    refine ⟨h3, fun j u hu => ?_⟩
    have hj : j < k := by rw [← h3]; exact (List.getElem?_eq_some_iff.1 hu).1
    have h5 := (h4 j hj).trans hu
    rw [add_add] at h5
    rw [← h5]
    refine cell_block (hW' _ ?_ ?_)
    all_goals
      rw [add_block]
      have := trod_lt_cell h1 hk
      rw [add_block] at this
      exact this
  refine Rd.row k len _ a cap (qs.map Prod.snd) (by simp [hl]) hc (Nat.le_trans (Nat.le_trans hc hm) (by decide)) (by simp [hl]) at_ (fun i cs hcs => ?_) (fun i cs us j c u hcs hus hc hu => ?_)
  · have hq : ∃ q, qs[i]? = some q ∧ q.1 = cs := by
      rw [List.getElem?_map, Option.map_eq_some_iff] at hcs
      exact hcs
    obtain ⟨q, hq, rfl⟩ := hq
    have h1 := (at_ i q.2 (by rw [List.getElem?_map, hq]; rfl)).1
    have h2 := (h i q hq).2.1.1
    omega
  · rw [List.getElem?_map, Option.map_eq_some_iff] at hcs hus
    obtain ⟨q, hq, rfl⟩ := hcs
    obtain ⟨q', hq', rfl⟩ := hus
    rw [hq] at hq'
    cases hq'
    have h9 := (h i q hq).2.1.2 j c u hc hu
    exact h9.rd ((h i q hq).2.2 c (List.mem_of_getElem? hc)) (fun b hb hlt => hW' b hb hlt)
theorem trod_told (hL : LaysOk P L) (ht : tights L = true) : ∀ (fuel : Nat) {t : Nat} {y : Lay} {us : List Value} {x : DataW H × List MemPlace}, lay L t = some y → DataW.trod enc P W base spare held fuel t us = some x →
    ∃ cs, Shp L t cs ∧ TL [] (fun k => k < W.heap.size) W cs us
  | 0, t, y, us, x, hy, h => by simp [DataW.trod] at h
  | n + 1, t, y, us, x, hy, h => by
    have lit : ∀ {v : Value}, v.oneCell' = true → TL [] (fun k => k < W.heap.size) W [.v v] [v] := fun {v} hv => TL.of (TC.of_v hv)
    obtain ⟨d, hd, hk⟩ := (hL t y hy).under
    have htt := List.all_eq_true.1 ht (t, y) (lays_mem hy)
    obtain ⟨sz, z, kd⟩ := y
    cases kd with
    | sc => cases htt
    | bool =>
      cases hk
      obtain ⟨b, rfl, _⟩ := DataW.trod_bool hd h
      exact ⟨_, .bool b hy, lit rfl⟩
    | int k =>
      cases hk
      obtain ⟨b, rfl, _, hw⟩ := DataW.trod_int hd h
      exact ⟨_, .int b hy hw, lit rfl⟩
    | str =>
      cases hk
      obtain ⟨b, rfl, _, hw⟩ := DataW.trod_string hd h
      exact ⟨_, .str b hy hw, lit rfl⟩
    | st fl =>
      obtain ⟨fs, rfl, hfl⟩ := hk
      obtain ⟨xs, m, hm, _, hlen, hxl, hf⟩ := DataW.trod_struct hd h
      cases hm
      have htt : (match tight L 0 fl with
        | some n => Nat.beq n sz
        | none => false) = true := htt
      cases hti : tight L 0 fl with
      | none => rw [hti] at htt; cases htt
      | some sz' =>
        rw [hti] at htt
        have e : sz' = sz := Nat.eq_of_beq_eq_true htt
        subst e
        have hcs : us.length = sz' := hlen.trans (cells_lay hL hy)
        have hfs : fl.length = fs.size := by rw [← hfl]; simp
        have each : ∀ j, j < fl.length → ∃ p : List AC, ∀ o u, fl[j]? = some (o, u) → Shp L u p ∧ TL [] (fun k => k < W.heap.size) W p ((us.drop o).take (szs L u)) := fun j hj => by
          have hfj : j < fs.size := by omega
          have e1 : fl[j]? = some (fs[j].offset, fs[j].type) := by
            rw [← hfl, List.getElem?_map]
            have : fs.toList[j]? = some fs[j] := by simp [hfj]
            rw [this]; rfl
          obtain ⟨y', hy', _, _⟩ := (tight_at hti).2 j _ _ e1
          have h1 := hf j fs[j] (Array.getElem?_eq_getElem hfj)
          have h2 : xs[j]? = some xs[j] := List.getElem?_eq_getElem (by omega)
          rw [h2] at h1
          obtain ⟨p, hp1, hp2⟩ := trod_told hL ht n hy' h1
          refine ⟨p, fun o u hou => ?_⟩
          rw [e1] at hou
          cases hou
          refine ⟨hp1, ?_⟩
          rw [cells_lay hL hy'] at hp2
          unfold szs
          rw [hy']
          exact hp2
        obtain ⟨ps, hps, hp⟩ := choose_list fl.length each
        refine ⟨ps.flatten, .st ps hy hps (fun j p o u hpj hfj => (hp j p hpj o u hfj).1), ?_⟩
        have := parts_at (W := W) (ok := fun k => k < W.heap.size) (us := us) hti (by omega) hps (fun j p o u hpj hfj => (hp j p hpj o u hfj).2)
        rw [List.drop_zero, Nat.sub_zero, List.take_of_length_le (by omega)] at this
        exact this
    | sl e =>
      cases hk
      have htt : ((lay L e).isSome && Nat.blt 0 (szs L e)) = true := htt
      rw [Bool.and_eq_true] at htt
      obtain ⟨ye, hye⟩ := Option.isSome_iff_exists.1 htt.1
      have hpos := of_decide_eq_true ((show decide (0 < szs L e) = Nat.blt 0 (szs L e) by rw [Bool.eq_iff_iff, decide_eq_true_iff, Nat.blt_eq]).trans htt.2)
      have hsz : szs L e = ye.size := by unfold szs; rw [hye]
      have hce : P.cellsOf e = szs L e := (cells_lay hL hye).trans hsz.symm
      rcases DataW.trod_slice hd h with ⟨rfl, _⟩ | ⟨a, len, cap, el, rest, m, hm, rfl, _, hb, hlc, hcm, hel, hi, _, _⟩
      · exact ⟨_, .sl [] hy (Nat.zero_le _) (fun c hc => by cases hc), TL.of (foot_mk fun W' _ => Rd.nil _ none 0 : Foot (fun W => Rd W (.row _ 0 []) (.slice none 0 0)) W _)⟩
      · cases hm
        rw [hce] at hi
        have each : ∀ i, i < len → ∃ q : List AC × List Value, (W.cells? base (a.add (i * szs L e)) (szs L e) = some q.2 ∧ TL [] (fun k => k < W.heap.size) W q.1 q.2 ∧ ∀ c ∈ q.1, c.noptr = true) ∧ Shp L e q.1 := fun i hlt => by
          have h1 := hi i hlt
          rw [List.getElem?_eq_getElem (by omega)] at h1
          obtain ⟨us, h2, h3⟩ := Option.bind_eq_some_iff.1 h1
          obtain ⟨cs, h4, h5⟩ := trod_told hL ht n hye h3
          exact ⟨(cs, us), ⟨h2, h5, h4.plain⟩, h4⟩
        obtain ⟨qs, hql, hq⟩ := choose_list len each
        have hr := row_told (W := W) (base := base) (a := a) hql hlc hcm hpos (fun i q hiq => (hq i q hiq).1)
        refine ⟨[.row (szs L e) (qs.map Prod.fst).length (qs.map Prod.fst)], .sl _ hy (by rw [List.length_map]; omega) (fun c hc => ?_), TL.of (by rw [List.length_map, hql]; exact hr)⟩
        obtain ⟨q, hqm, rfl⟩ := List.mem_map.1 hc
        obtain ⟨i, hi2, he⟩ := List.mem_iff_getElem.1 hqm
        exact (hq i q (he ▸ List.getElem?_eq_getElem hi2)).2
end
end
end Go.Proofs.Ytjfkhbkddenfoaa.Ev
namespace Go.Proofs.Ytjfkhbkddenfoaa.Ev
open Go Go.RowKit Go.ChangeShapes Go.WideShapes Go.Proofs.YtjfkhbkddenfoaaW.PrintWords Go.Proofs.YtjfkhbkddenfoaaW.PrintLast Go.Proofs.Ytjfkhbkddenfoaa Go.Proofs.Ytjfkhbkddenfoaa.Nt
section
def LR : Lays := [(4, ⟨1, [.v (.bool false)], .bool⟩),
  (87, ⟨1, [.v (.int .u32 0)], .int .u32⟩),
  (23, ⟨1, [.row 1 0 []], .sl 87⟩),
  (25, ⟨2, [.v (.bool false), .row 1 0 []], .st [(0, 4), (1, 23)]⟩),
  (27, ⟨3, [.v (.bool false), .row 1 0 [], .row 1 0 []], .st [(0, 25), (2, 23)]⟩),
  (37, ⟨7, [.v (.bool false), .v (.bool false), .row 1 0 [], .row 1 0 [], .v (.bool false), .row 1 0 [], .row 1 0 []], .st [(0, 4), (1, 27), (4, 27)]⟩),
  (22, ⟨1, [.row 7 0 []], .sl 37⟩)]
theorem LR_ok : LaysOk Try.prog LR := lays_ok (by kernel_rfl) (by kernel_rfl)
theorem LR_tight : tights LR = true := by kernel_rfl
theorem map_of {α : Type} {p : List AC → Prop} {f : α → List AC} {q : α → Prop} (h : ∀ c, p c → ∃ x, c = f x ∧ q x) : ∀ es : List (List AC), (∀ c ∈ es, p c) → ∃ l : List α, es = l.map f ∧ ∀ x ∈ l, q x
  | [], _ => ⟨[], rfl, fun x hx => by cases hx⟩
  | c :: es, hp => by
    obtain ⟨x, rfl, hx⟩ := h c (hp c (List.mem_cons_self ..))
    obtain ⟨l, rfl, hl⟩ := map_of h es (fun c hc => hp c (List.mem_cons_of_mem _ hc))
    exact ⟨x :: l, rfl, fun y hy => by
      rcases List.mem_cons.1 hy with rfl | hy
      · exact hx
      · exact hl y hy⟩
theorem u32_wf {x : Int} (h : (Lit.int .u32 x).wf = true) : 0 ≤ x ∧ x < 4294967296 := by
  simp only [Lit.wf, Bool.and_eq_true, decide_eq_true_eq] at h
  have h1 : IntKind.u32.min = 0 := rfl
  have h2 : IntKind.u32.max = 4294967295 := rfl
  omega
theorem shp_u32 {cs : List AC} (h : Shp LR 87 cs) : ∃ x, cs = [.v (.int .u32 x)] ∧ 0 ≤ x ∧ x < 4294967296 := by
  obtain ⟨x, h, hw⟩ := h.of_int rfl
  exact ⟨x, h, u32_wf hw⟩
theorem shp_bool {cs : List AC} (h : Shp LR 4 cs) : ∃ x, cs = [.v (.bool x)] := h.of_bool rfl
theorem shp_limbs {cs : List AC} (h : Shp LR 23 cs) : ∃ l, cs = [limbs l] ∧ lim l := by
  obtain ⟨es, rfl, _, he⟩ := h.of_sl rfl
  obtain ⟨l, rfl, hl⟩ := map_of (fun c hc => shp_u32 hc) es he
  exact ⟨l, by unfold limbs; rw [List.length_map]; rfl, hl⟩
theorem shp_Int {cs : List AC} (h : Shp LR 25 cs) : ∃ b l, cs = [.v (.bool b), limbs l] ∧ lim l := by
  obtain ⟨ps, rfl, hl, h⟩ := h.of_st rfl
  match ps, hl with
  | [p0, p1], _ =>
    obtain ⟨b, rfl⟩ := shp_bool (h 0 _ _ _ rfl rfl)
    obtain ⟨l, rfl, hl⟩ := shp_limbs (h 1 _ _ _ rfl rfl)
    exact ⟨b, l, rfl, hl⟩
theorem shp_Rat {cs : List AC} (h : Shp LR 27 cs) : ∃ r : R3, cs = rC r ∧ lim r.2.1 ∧ lim r.2.2 := by
  obtain ⟨ps, rfl, hl, h⟩ := h.of_st rfl
  match ps, hl with
  | [p0, p1], _ =>
    obtain ⟨b, l, rfl, hl⟩ := shp_Int (h 0 _ _ _ rfl rfl)
    obtain ⟨m, rfl, hm⟩ := shp_limbs (h 1 _ _ _ rfl rfl)
    exact ⟨(b, l, m), rfl, hl, hm⟩
theorem shp_Line {cs : List AC} (h : Shp LR 37 cs) : ∃ x : Lin, cs = x.c ∧ x.lim := by
  obtain ⟨ps, rfl, hl, h⟩ := h.of_st rfl
  match ps, hl with
  | [p0, p1, p2], _ =>
    obtain ⟨b, rfl⟩ := shp_bool (h 0 _ _ _ rfl rfl)
    obtain ⟨v, rfl, hv⟩ := shp_Rat (h 1 _ _ _ rfl rfl)
    obtain ⟨s, rfl, hs⟩ := shp_Rat (h 2 _ _ _ rfl rfl)
    exact ⟨⟨b, v, s⟩, rfl, hv, hs⟩
section
variable {H : Type} {enc : TypeId × Value → H} {W : World} {base : Nat} {spare : Nat → Bool} {held : Bool} {r : Reach} {b0 : Nat}
set_option maxRecDepth 100000 in
theorem rat_told {v : Value} {d : DataW H} {p : List MemPlace} (hv : Value.okWide Try.prog W r b0 27 v) (h : DataW.Trod enc Try.prog W base spare held 27 v d p) :
    ∃ c : R3, TG [] (fun k => k < W.heap.size) W (rat c.1 c.2.1 c.2.2) v ∧ lim c.2.1 ∧ lim c.2.2 := by
  obtain ⟨cs, rfl, hcs⟩ := okWide_struct Try.underlying27 hv
  obtain ⟨fuel, hf⟩ := h
  obtain ⟨ac, hs, hT⟩ := trod_told LR_ok LR_tight fuel (t := 27) rfl hf
  obtain ⟨c, rfl, h1, h2⟩ := shp_Rat hs
  exact ⟨c, ⟨cs, rfl, hT⟩, h1, h2⟩
set_option maxRecDepth 100000 in
theorem line_told {v : Value} {d : DataW H} {p : List MemPlace} (hv : Value.okWide Try.prog W r b0 37 v) (h : DataW.Trod enc Try.prog W base spare held 37 v d p) :
    ∃ c : Lin, TG [] (fun k => k < W.heap.size) W (.agg c.c) v ∧ c.lim := by
  obtain ⟨cs, rfl, hcs⟩ := okWide_struct Try.underlying37 hv
  obtain ⟨fuel, hf⟩ := h
  obtain ⟨ac, hs, hT⟩ := trod_told LR_ok LR_tight fuel (t := 37) rfl hf
  obtain ⟨c, rfl, h1⟩ := shp_Line hs
  exact ⟨c, ⟨cs, rfl, hT⟩, h1⟩
end
theorem args1 {ok : Nat → Prop} {w : World} {x : AG} {u : Value} (h : TG [] ok w x u) : TA ok w [x] #[u] := ⟨rfl, fun j a b ha hb => by
  match j with
  | 0 => cases ha; simp at hb; subst hb; exact h
  | j + 1 => simp at ha⟩
theorem args_cons {ok : Nat → Prop} {w : World} {x : AG} {u : Value} {xs : List AG} {us : Array Value} (h : TG [] ok w x u) (hs : TA ok w xs us) : TA ok w (x :: xs) (#[u] ++ us) := TB.append (args1 h) hs
theorem solveExact_holds (c0 : Lin) (h0 : c0.lim) (c1 : R3) (h1 : lim c1.2.1 ∧ lim c1.2.2) : ConF Try.prog 4 [.agg c0.c, rat c1.1 c1.2.1 c1.2.2] (.g (truth true)) := SolveExact c0 h0 c1 h1.1 h1.2
end
end Go.Proofs.Ytjfkhbkddenfoaa.Ev
