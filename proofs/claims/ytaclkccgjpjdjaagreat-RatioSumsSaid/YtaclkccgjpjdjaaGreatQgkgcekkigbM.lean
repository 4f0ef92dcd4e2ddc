import Derived.Test.YtaclkccgjpjdjaaGreatQghfjcnmnjjM
import Derived.Lib.SmallJoins
import Derived.WalkKit
import Derived.ProofKit
import Derived.OpenShut
import Derived.SizedLaws
import Derived.ChangeSlices
import Derived.Test.YtaclkccgjpjdjaaGreatQgfcnglnngnM
section
/- The laws of numbers: what they all lean on. -/
namespace Go.Proofs.YtaclkccgjpjdjaaGreat.Ev
open Go Go.RowKit Go.Proofs.YtaclkccgjpjdjaaGreatW.PrintWords Go.Proofs.YtaclkccgjpjdjaaGreatW.PrintMore Go.Proofs.YtaclkccgjpjdjaaGreatW.PrintLast Go.Proofs.YtaclkccgjpjdjaaGreat Go.Proofs.YtaclkccgjpjdjaaGreat.Nt Go.Proofs.YtaclkccgjpjdjaaGreat.Zi
set_option linter.unusedVariables false
set_option linter.unusedSimpArgs false
def Is (A : AG) (x : Rat) : Prop := ∃ b l d, A = rat b l d ∧ few 2000 l ∧ few 2000 d ∧ rv b l d = x
section
variable {A B : AG} {x y : Rat} (ha : Is A x) (hb : Is B y)
include ha
theorem gWhole : Con Tryz.prog 74 [A] (.g (truth (decide (x.den = 1)))) := by obtain ⟨b, l, d, rfl, h1, h2, rfl⟩ := ha; exact qWhole b l d h1 h2
theorem gFloor : Con Tryz.prog 73 [A] (.g (zi x.floor)) := by obtain ⟨b, l, d, rfl, h1, h2, rfl⟩ := ha; exact qFloor b l d h1 h2
theorem gPrint : Con Tryz.prog 71 [A] (.g (text' (printR x))) := by obtain ⟨b, l, d, rfl, h1, h2, rfl⟩ := ha; exact qPrint b l d h1 h2
include hb
end
theorem same_ra {x y : Rat} {k : Nat} (hx : short k x) (hk : k ≤ 2000) : Con Tryz.prog 23 [ra x, ra y] (.g (truth (decide (x = y)))) := by
  have h1 := hx.1
  have h2 := hx.2
  have S := rSame (ofZ x.num).1 (ofZ x.num).2 (ofN x.den) (ofZ y.num).1 (ofZ y.num).2 (ofN y.den) (by show (ofN x.num.natAbs).length < _; omega) (by omega)
  have e : (decide ((ofZ x.num).1 = (ofZ y.num).1 ∧ (ofZ x.num).2 = (ofZ y.num).2) && decide (ofN x.den = ofN y.den)) = decide (x = y) := by
    rw [Bool.eq_iff_iff]
    simp only [Bool.and_eq_true, decide_eq_true_eq]
    constructor
    · rintro ⟨⟨h1, h2⟩, h3⟩
      have e1 : x.num = y.num := by rw [← zval_ofZ x.num, h1, h2, zval_ofZ]
      exact Rat.ext e1 (ofN_inj h3)
    · intro h; subst h; exact ⟨⟨rfl, rfl⟩, rfl⟩
  rw [e] at S
  exact by_ _ Tryz.func23 rfl [gives S] (by kernel_rfl)
def sA : ByteArray := ⟨#[45, 49, 46, 53, 48]⟩
def sB : ByteArray := ⟨#[54, 47, 52]⟩
def sC : ByteArray := ⟨#[49, 47, 48]⟩
theorem isA : Is (rat true [3] [2]) (mkRat (-3) 2) := ⟨_, _, _, rfl, ⟨by intro x hx; simp at hx; subst hx; decide, by decide⟩, ⟨by intro x hx; simp at hx; subst hx; decide, by decide⟩, rfl⟩
theorem isB : Is (rat false [3] [2]) (mkRat 3 2) := ⟨_, _, _, rfl, ⟨by intro x hx; simp at hx; subst hx; decide, by decide⟩, ⟨by intro x hx; simp at hx; subst hx; decide, by decide⟩, rfl⟩
theorem parseA : Con Tryz.prog 70 [text' sA] (.tup [rat true [3] [2], num 0]) := (qParse sA (by decide)).to (by kernel_rfl)
theorem parseB : Con Tryz.prog 70 [text' sB] (.tup [rat false [3] [2], num 0]) := (qParse sB (by decide)).to (by kernel_rfl)
theorem parseC : Con Tryz.prog 70 [text' sC] (.tup [rat false [] [], num 4]) := (qParse sC (by decide)).to (by kernel_rfl)
theorem printA : Con Tryz.prog 71 [rat true [3] [2]] (.g (text' ⟨#[45, 51, 47, 50]⟩)) := (gPrint isA).to (by kernel_rfl)
theorem printB : Con Tryz.prog 71 [rat false [3] [2]] (.g (text' ⟨#[51, 47, 50]⟩)) := (gPrint isB).to (by kernel_rfl)
theorem floorA : Con Tryz.prog 73 [rat true [3] [2]] (.g (int true [2])) := (gFloor isA).to (by kernel_rfl)
theorem floorP : Con Tryz.prog 72 [int true [2]] (.g (text' ⟨#[45, 50]⟩)) := (jPrint true [2] ⟨by intro x hx; simp at hx; subst hx; decide, by decide⟩).to (by kernel_rfl)
theorem wholeA : Con Tryz.prog 74 [rat true [3] [2]] (.g (truth false)) := (gWhole isA).to (by kernel_rfl)
theorem eqS (s : ByteArray) : (s.toList == s.toList) = true := by simp
theorem awake : Con Tryz.prog 35 [] (.g (truth true)) :=
  by_ _ Tryz.func35 rfl [gives parseA, gives parseB, gives parseC, ends (rfl : ((0 : Int) == 0) = true), ends (rfl : ((0 : Int) == 0) = true), ends (rfl : ((4 : Int) == 4) = true), gives printA, ends (eqS ⟨#[45, 51, 47, 50]⟩), gives printB, ends (eqS ⟨#[51, 47, 50]⟩), gives floorA, gives floorP, ends (eqS ⟨#[45, 50]⟩), gives wholeA] (by kernel_rfl)
def cells (r : Bool × List Int × List Int) : List AC := [.v (.bool r.1), limbs r.2.1, limbs r.2.2]
def rows (rs : List (Bool × List Int × List Int)) : AC := .row 3 rs.length (rs.map cells)
def four (r : Bool × List Int × List Int) : Bool := decide (r.2.1.length ≤ 4) && decide (r.2.2.length ≤ 4)
def S102 (rs : List (Bool × List Int × List Int)) (i : Int) : St := ⟨sparse 27 [(0, .g (.one (rows rs))), (2, .g (truth false)), (3, .g (num i))], []⟩
theorem row_at' {rs : List (Bool × List Int × List Int)} {i : Nat} (h : i < rs.length) : (0 : Int) ≤ (i : Int) ∧ (rs.map cells)[(i : Int).toNat]? = some [.v (.bool rs[i].1), limbs rs[i].2.1, limbs rs[i].2.2] := ⟨by omega, by simp [h, cells]⟩
theorem few_loop (rs : List (Bool × List Int × List Int)) (hb : rs.length < 4000000000000000000) : ∀ (d i : Nat), i + d = rs.length →
    ((rs.drop i).all four = true → Rounds Tryz.prog (lp Tryz.f20 0) (S102 rs i) (.exit 0) (S102 rs rs.length)) ∧ ((rs.drop i).all four = false → Rounds Tryz.prog (lp Tryz.f20 0) (S102 rs i) .ret ⟨sparse 27 [(2, .g (truth false))], []⟩)
  | 0, i, h => by
    have : i = rs.length := by omega
    subst this
    refine ⟨fun _ => Rounds.out (at_ _ _ [ends (show decide ((rs.length : Int) < (rs.length : Int)) = false by simp)] (by kernel_rfl)) (by simp), fun h => ?_⟩
    rw [List.drop_eq_nil_of_le (Nat.le_refl _)] at h
    cases h
  | d + 1, i, h => by
    have h1 : i < rs.length := by omega
    have ih := few_loop rs hb d (i + 1) (by omega)
    have hlt : decide ((i : Int) < (rs.length : Int)) = true := by rw [decide_eq_true_iff]; omega
    rw [List.drop_eq_getElem_cons h1, List.all_cons]
    by_cases e1 : rs[i].2.1.length ≤ 4
    · have b1 : decide (((rs[i].2.1.length : Nat) : Int) > 4) = false := by rw [decide_eq_false_iff_not]; omega
      by_cases e2 : rs[i].2.2.length ≤ 4
      · have b2 : decide (((rs[i].2.2.length : Nat) : Int) > 4) = false := by rw [decide_eq_false_iff_not]; omega
        have step := at_ (c := lp Tryz.f20 0) (p := S102 rs i) .normal (S102 rs (IntKind.i64.wrap ((i : Int) + 1))) [ends hlt, elem (row_at' h1), ends b1, elem (row_at' h1), ends b2] (by kernel_rfl)
        rw [show IntKind.i64.wrap ((i : Int) + 1) = ((i + 1 : Nat) : Int) by rw [wr (by omega) (by omega)]; omega] at step
        rw [show four rs[i] = true by unfold four; rw [decide_eq_true e1, decide_eq_true e2]; rfl, Bool.true_and]
        exact ⟨fun hd => (ih.1 hd).step' step, fun hd => (ih.2 hd).step' step⟩
      · have b2 : decide (((rs[i].2.2.length : Nat) : Int) > 4) = true := by rw [decide_eq_true_iff]; omega
        rw [show four rs[i] = false by unfold four; rw [decide_eq_true e1, decide_eq_false e2]; rfl, Bool.false_and]
        exact ⟨fun hd => (by cases hd), fun _ => Rounds.out (at_ _ _ [ends hlt, elem (row_at' h1), ends b1, elem (row_at' h1), ends b2] (by kernel_rfl)) (by simp)⟩
    · have b1 : decide (((rs[i].2.1.length : Nat) : Int) > 4) = true := by rw [decide_eq_true_iff]; omega
      rw [show four rs[i] = false by unfold four; rw [decide_eq_false e1]; rfl, Bool.false_and]
      exact ⟨fun hd => (by cases hd), fun _ => Rounds.out (at_ _ _ [ends hlt, elem (row_at' h1), ends b1, ends (rfl : true = true)] (by kernel_rfl)) (by simp)⟩
theorem gFew (rs : List (Bool × List Int × List Int)) (hb : rs.length < 4000000000000000000) : Con Tryz.prog 20 [.one (rows rs)] (.g (truth (rs.all four))) := by
  have h := few_loop rs hb rs.length 0 (by omega)
  rw [List.drop_zero] at h
  cases e : rs.all four with
  | true => exact by_ _ Tryz.func20 rfl [goes (h.1 e).loop] (by kernel_rfl)
  | false => exact by_ _ Tryz.func20 rfl [goes (h.2 e).loop] (by kernel_rfl)
theorem four_short {r : Bool × List Int × List Int} (h : four r = true) (hl : lim r.2.1) (hd : lim r.2.2) : Is (rat r.1 r.2.1 r.2.2) (rv r.1 r.2.1 r.2.2) ∧ short 4 (rv r.1 r.2.1 r.2.2) := by
  unfold four at h
  simp only [Bool.and_eq_true, decide_eq_true_eq] at h
  exact ⟨⟨_, _, _, rfl, ⟨hl, by omega⟩, ⟨hd, by omega⟩, rfl⟩, short_rv ⟨hl, h.1⟩ ⟨hd, h.2⟩ (by decide)⟩
theorem ConF.holds {f : FuncId} {xs : List AG} (h : ConF Tryz.prog f xs (.g (truth true))) {ok : Nat → Prop} {us : Array Value} {w : World} (hA : TA ok w xs us) : Calls Tryz.prog f us w fun e w' => e = .returned (.bool true) ∧ Below w.heap.size w w' := by
  refine (h.2 ok us w hA).mono ?_
  rintro e w' ⟨u, rfl, hT, hb⟩
  have := TC.v_eq (show TC [] _ w' (.v (.bool true)) u from hT)
  exact ⟨by rw [this], hb⟩
theorem byF {f : FuncId} {fn : Func} {c : Code} {xs : List AG} (r : AV) (hf : Tryz.prog.funcs[f]? = some fn) (hb : fn.body = some c) (pf : List (Prf Tryz.prog)) (h : evF LL DD fn c xs (Prf.ans pf) = some (r, [], Prf.dem pf)) (hname : (fn.name == "runtime.NumGoroutine") = false := by kernel_rfl) : ConF Tryz.prog f xs r :=
  conF_of LL_ok DD_ok pf hf hname hb h
end Go.Proofs.YtaclkccgjpjdjaaGreat.Ev
end
section
/- RatioField and RatioOrder, as the executor tells them. -/
namespace Go.Proofs.YtaclkccgjpjdjaaGreat.Ev
open Go Go.RowKit Go.Proofs.YtaclkccgjpjdjaaGreatW.PrintWords Go.Proofs.YtaclkccgjpjdjaaGreatW.PrintMore Go.Proofs.YtaclkccgjpjdjaaGreatW.PrintLast Go.Proofs.YtaclkccgjpjdjaaGreat Go.Proofs.YtaclkccgjpjdjaaGreat.Nt Go.Proofs.YtaclkccgjpjdjaaGreat.Zi
set_option linter.unusedVariables false
set_option linter.unusedSimpArgs false
theorem sameT {x y : Rat} {k : Nat} (e : x = y) (hx : short k x) (hk : k ≤ 2000) : Con Tryz.prog 23 [ra x, ra y] (.g (truth true)) := (same_ra (y := y) hx hk).to (by rw [decide_eq_true e])
section
variable (b0 : Bool) (l0 d0 : List Int) (b1 : Bool) (l1 d1 : List Int) (b2 : Bool) (l2 d2 : List Int)
end
end Go.Proofs.YtaclkccgjpjdjaaGreat.Ev
end
section
/- The law RatioSums. -/
namespace Go.Proofs.YtaclkccgjpjdjaaGreat.Ev
open Go Go.RowKit Go.Proofs.YtaclkccgjpjdjaaGreatW.PrintWords Go.Proofs.YtaclkccgjpjdjaaGreatW.PrintMore Go.Proofs.YtaclkccgjpjdjaaGreatW.PrintLast Go.Proofs.YtaclkccgjpjdjaaGreat Go.Proofs.YtaclkccgjpjdjaaGreat.Nt Go.Proofs.YtaclkccgjpjdjaaGreat.Zi
set_option linter.unusedVariables false
set_option linter.unusedSimpArgs false
section
variable (b : Bool) (l d : List Int) (c : Bool) (m e : List Int)
theorem gFew2 (f : Bool) (h : [(b, l, d), (c, m, e)].all four = f) : Con Tryz.prog 20 [.one (rows [(b, l, d), (c, m, e)])] (.g (truth f)) := (gFew _ (by simp)).to (by rw [h])
theorem RatioSums (hl : lim l) (hd : lim d) (hm : lim m) (he : lim e) : ConF Tryz.prog 6 [rat b l d, rat c m e] (.g (truth true)) := by
  cases hf : [(b, l, d), (c, m, e)].all four with
  | false => exact byF _ Tryz.func6 rfl [gives (gFew2 _ _ _ _ _ _ _ hf), ends (rfl : (!false) = true)] (by kernel_rfl)
  | true =>
    have F := gFew2 _ _ _ _ _ _ _ hf
    simp only [List.all_cons, List.all_nil, Bool.and_eq_true, Bool.and_true] at hf
    have hfl : few 2000 l ∧ few 2000 d ∧ few 2000 m ∧ few 2000 e := by
      unfold four at hf
      simp only [Bool.and_eq_true, decide_eq_true_eq] at hf
      exact ⟨⟨hl, by omega⟩, ⟨hd, by omega⟩, ⟨hm, by omega⟩, ⟨he, by omega⟩⟩
    obtain ⟨f1, f2, f3, f4⟩ := hfl
    have sx := (four_short hf.1 hl hd).2
    have sy := (four_short hf.2 hm he).2
    simp only at sx sy
    have D1 := qDiv b l d c m e f1 f2 f3 f4
    have D2 := rDiv b l d c m e f1 f2 f3 f4
    have N1 := qNorm b l d f1 f2
    have N2 := rNorm b l d (few_up f1 (by decide)) (few_up f2 (by decide))
    have A1 := qAdd b l d c m e f1 f2 f3 f4
    have A2 := rAdd b l d c m e f1 f2 f3 f4
    have S1 := qSub b l d c m e f1 f2 f3 f4
    have S2 := rSub b l d c m e f1 f2 f3 f4
    have M1 := qMul b l d c m e f1 f2 f3 f4
    have M2 := rMul b l d c m e f1 f2 f3 f4
    have G1 := qNeg b l d f1 f2
    have G2 := rNeg b l d f1 f2
    have C1 := qCmp b l d c m e f1 f2 f3 f4
    have C2 := rCmp b l d c m e f1 f2 f3 f4
    generalize rv b l d = x at *
    generalize rv c m e = y at *
    have t1 := sameT (rfl : x = x) sx (by decide)
    have t2 := sameT (rfl : x + y = x + y) (short_add sx sy) (by decide)
    have t3 := sameT (rfl : x - y = x - y) (short_sub sx sy) (by decide)
    have t4 := sameT (rfl : x * y = x * y) (short_mul sx sy) (by decide)
    have t5 := sameT (rfl : -x = -x) (short_neg sx) (by decide)
    have ec : (cmpR x y == cmpR x y) = true := by simp
    unfold divR at D1 D2
    by_cases h : y = 0
    · rw [if_pos h] at D1 D2
      have t6 : Con Tryz.prog 23 [rat false [] [], rat false [] []] (.g (truth true)) := by_ _ Tryz.func23 rfl [gives ((rSame false [] [] false [] [] (by decide) (by decide)).to (rfl : _ = AV.g (truth true)))] (by kernel_rfl)
      exact byF _ Tryz.func6 rfl [gives F, ends (rfl : (!true) = false), gives D1, gives D2, gives N1, gives N2, gives t1, ends (rfl : true = true), gives A1, gives A2, gives t2, ends (rfl : true = true), gives S1, gives S2, gives t3, ends (rfl : true = true),
        gives M1, gives M2, gives t4, ends (rfl : true = true), gives G1, gives G2, gives t5, ends (rfl : true = true), gives t6, ends (rfl : true = true), ends (rfl : ((3 : Int) == 3) = true), gives C1, gives C2, ends ec, gives awake] (by kernel_rfl)
    · rw [if_neg h] at D1 D2
      have t6 := sameT (rfl : x / y = x / y) (short_div sx sy (by decide)) (by decide)
      exact byF _ Tryz.func6 rfl [gives F, ends (rfl : (!true) = false), gives D1, gives D2, gives N1, gives N2, gives t1, ends (rfl : true = true), gives A1, gives A2, gives t2, ends (rfl : true = true), gives S1, gives S2, gives t3, ends (rfl : true = true),
        gives M1, gives M2, gives t4, ends (rfl : true = true), gives G1, gives G2, gives t5, ends (rfl : true = true), gives t6, ends (rfl : true = true), ends (rfl : ((0 : Int) == 0) = true), gives C1, gives C2, ends ec, gives awake] (by kernel_rfl)
end
end Go.Proofs.YtaclkccgjpjdjaaGreat.Ev
end
section
/- What is handed to a law, as the executor tells it. -/
namespace Go.Proofs.YtaclkccgjpjdjaaGreat.Ev
open Go Go.RowKit Go.Proofs.YtaclkccgjpjdjaaGreatW.PrintWords Go.Proofs.YtaclkccgjpjdjaaGreatW.PrintMore Go.Proofs.YtaclkccgjpjdjaaGreatW.PrintLast Go.Proofs.YtaclkccgjpjdjaaGreat Go.Proofs.YtaclkccgjpjdjaaGreat.Nt Go.Proofs.YtaclkccgjpjdjaaGreat.Zi
open Go.ChangeShapes Go.WideShapes Go.Deep Go.Joins
set_option linter.unusedVariables false
set_option linter.unusedSimpArgs false
theorem lim_wf {l : List Int} (h : ∀ x ∈ l, (Lit.int .u32 x).wf = true) : lim l := fun x hx => by
  have := h x hx
  simp only [Lit.wf, Bool.and_eq_true, decide_eq_true_eq] at this
  have h1 : IntKind.u32.min = 0 := rfl
  have h2 : IntKind.u32.max = 4294967295 := rfl
  omega
section
variable {H : Type} {enc : TypeId × Value → H} {W : World} {base b0 n : Nat} {r : Reach} {held : Bool}
theorem limbs_told {v : Value} {y : DataW H × List MemPlace} (h : DataW.trod enc Tryz.prog W base (fun _ => true) held n 22 [v] = some y) : ∃ l, TC [] (fun k => k < W.heap.size) W (limbs l) v ∧ lim l := by
  rcases open_ints Tryz.underlying22 Tryz.underlying89 (by kernel_rfl) h with ⟨hcs, _⟩ | ⟨x, l, c, zs, hcs, _, hl, hm, hz, _, hcell, hwz⟩
  · cases hcs
    exact ⟨[], (foot_mk fun W' _ => Rd.nil 1 none 0 : Foot (fun W => Rd W (limbs []) (.slice none 0 0)) W _), fun x hx => by cases hx⟩
  · cases hcs
    obtain ⟨m, rfl, hr0, hm0, hw0, hc0⟩ := ReadsInt.ofRowC (k := .u32) (w := W) (a := some x) (len := l) (cap := c) (zs := zs) (.inr ⟨x, rfl, hl, hm, by simpa using hz, hcell, hwz⟩)
    have hC : Kd.C (Kd.int .u32) W (some x) m.length m := Kd.C_of_reads (d := (0 : Int)) (h1 := fun _ => rfl) hr0
    exact ⟨m, lim_out hc0 (Kd.C_F (Kd.heap_int .u32) hC), lim_wf hw0⟩
set_option maxRecDepth 100000 in
theorem int_cells {c0 c1 : Value} {y : DataW H × List MemPlace} (h : DataW.trod enc Tryz.prog W base (fun _ => true) held n 24 [c0, c1] = some y) :
    ∃ b l, c0 = .bool b ∧ TC [] (fun k => k < W.heap.size) W (limbs l) c1 ∧ lim l := by
  obtain ⟨y0, y1, m, _, _, h0, h1⟩ := trod_struct2 Tryz.underlying24 h
  have k_b : Tryz.prog.cellsOf 4 = 1 := by kernel_rfl
  have k_l : Tryz.prog.cellsOf 22 = 1 := by kernel_rfl
  simp only [k_b, k_l] at h0 h1
  obtain ⟨b, e0, _, _⟩ := DataW.trod_bool Tryz.underlying4 h0
  cases e0
  obtain ⟨l, hT, hl⟩ := limbs_told h1
  exact ⟨b, l, rfl, hT, hl⟩
set_option maxRecDepth 100000 in
theorem rat_told {v : Value} {d : DataW H} {p : List MemPlace} (hv : Value.okWide Tryz.prog W r b0 26 v) (h : DataW.Trod enc Tryz.prog W base (fun _ => true) held 26 v d p) :
    ∃ b l m, TG [] (fun k => k < W.heap.size) W (rat b l m) v ∧ lim l ∧ lim m := by
  have hsz : Tryz.prog.cellsOf 26 = 3 := by kernel_rfl
  obtain ⟨cs, rfl, hcs⟩ := okWide_struct Tryz.underlying26 hv
  obtain ⟨c0, c1, c2, rfl⟩ := array3 (hcs.trans hsz)
  obtain ⟨fuel, hf⟩ := h
  obtain ⟨y0, y1, m, _, _, h0, h1⟩ := trod_struct2 Tryz.underlying26 hf
  have k_i : Tryz.prog.cellsOf 24 = 2 := by kernel_rfl
  have k_l : Tryz.prog.cellsOf 22 = 1 := by kernel_rfl
  simp only [k_i, k_l] at h0 h1
  obtain ⟨b, l, rfl, hT, hl⟩ := int_cells (c0 := c0) (c1 := c1) (by simpa [Value.cells] using h0)
  obtain ⟨l', hT', hl'⟩ := limbs_told (v := c2) (by simpa [Value.cells] using h1)
  refine ⟨b, l, l', ⟨_, rfl, rfl, fun j c u hc hu => ?_⟩, hl, hl'⟩
  match j with
  | 0 => cases hc; cases hu; exact TC.of_v rfl
  | 1 => cases hc; cases hu; exact hT
  | 2 => cases hc; cases hu; exact hT'
  | j + 3 => simp at hu
theorem args1 {ok : Nat → Prop} {w : World} {x : AG} {u : Value} (h : TG [] ok w x u) : TA ok w [x] #[u] := ⟨rfl, fun j a b ha hb => by
  match j with
  | 0 => cases ha; simp at hb; subst hb; exact h
  | j + 1 => simp at ha⟩
theorem args_cons {ok : Nat → Prop} {w : World} {x : AG} {u : Value} {xs : List AG} {us : Array Value} (h : TG [] ok w x u) (hs : TA ok w xs us) : TA ok w (x :: xs) (#[u] ++ us) := (args1 h).append hs
end
end Go.Proofs.YtaclkccgjpjdjaaGreat.Ev
end
