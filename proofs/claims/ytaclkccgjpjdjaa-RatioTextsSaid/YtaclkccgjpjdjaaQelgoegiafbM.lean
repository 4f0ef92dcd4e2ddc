import Derived.Test.YtaclkccgjpjdjaaQfhbmgddpcdM
import Derived.Lib.SmallJoins
import Derived.WalkKit
import Derived.ProofKit
import Derived.OpenShut
import Derived.SizedLaws
import Derived.ChangeSlices
import Derived.Test.YtaclkccgjpjdjaaQpbgibbbgddM
section
/- Rational numbers: the reference's texts; and the law RatioTexts. -/
namespace Go.Proofs.Ytaclkccgjpjdjaa.Ev
open Go Go.RowKit Go.Proofs.YtaclkccgjpjdjaaW.PrintWords Go.Proofs.YtaclkccgjpjdjaaW.PrintMore Go.Proofs.YtaclkccgjpjdjaaW.PrintLast Go.Proofs.Ytaclkccgjpjdjaa Go.Proofs.Ytaclkccgjpjdjaa.Nt Go.Proofs.Ytaclkccgjpjdjaa.Zi
set_option linter.unusedVariables false
set_option linter.unusedSimpArgs false
section
variable (b : Bool) (l d : List Int)
theorem rWhole (hl : few 2000 l) (hd : few 2000 d) : Con Try.prog 120 [rat b l d] (.g (truth (decide ((rv b l d).den = 1)))) := by
  have N1 := rNorm b l d (few_up hl (by decide)) (few_up hd (by decide))
  have hx := short_rv (b := b) hl hd (by decide)
  generalize rv b l d = x at *
  have S := jSame (ofN x.den) [1] (by have := hx.2; omega)
  rw [show decide (ofN x.den = [1]) = decide (x.den = 1) by
    rw [decide_eq_decide]
    exact ⟨fun h => ofN_inj (h.trans one1.symm), fun h => by rw [h, one1]⟩] at S
  exact by_ _ Try.func120 rfl [gives N1, gives S] (by kernel_rfl)
theorem rPrint (hl : few 2000 l) (hd : few 2000 d) : Con Try.prog 106 [rat b l d] (.g (text' (printR (rv b l d)))) := by
  have N1 := rNorm b l d (few_up hl (by decide)) (few_up hd (by decide))
  have hx := short_rv (b := b) hl hd (by decide)
  generalize rv b l d = x at *
  have W := rWhole (ofZ x.num).1 (ofZ x.num).2 (ofN x.den) hx.num hx.den
  rw [rv_told] at W
  have P := jPrint (ofZ x.num).1 (ofZ x.num).2 (sN hx)
  rw [zval_ofZ] at P
  have h1 := printZ_size x.num
  have h2 := text_size x.den
  have h3 := hx.1
  have h4 := hx.2
  unfold printR
  by_cases h : x.den = 1
  · rw [if_pos h]
    exact by_ _ Try.func106 rfl [gives N1, gives W, ends (decide_eq_true h), gives P] (by kernel_rfl)
  · rw [if_neg h]
    have T := foliotref01_Print.con (ofN x.den) _ (if_pos (rf (sD hx)))
    rw [val_ofN] at T
    have hm : IntKind.i64.max = 9223372036854775807 := rfl
    have h47 : (⟨#[47]⟩ : ByteArray).size = 1 := rfl
    exact by_ _ Try.func106 rfl [gives N1, gives W, ends (decide_eq_false h), gives P, fact (show (((printZ x.num).size + (⟨#[47]⟩ : ByteArray).size : Nat) : Int) ≤ IntKind.i64.max by rw [hm, h47]; omega), gives T,
      fact (show (((printZ x.num ++ (⟨#[47]⟩ : ByteArray)).size + (text x.den).size : Nat) : Int) ≤ IntKind.i64.max by rw [hm, ByteArray.size_append, h47]; omega)] (by kernel_rfl)
end
theorem rOf {n : Int} (h0 : -9223372036854775808 ≤ n) (h1 : n < 9223372036854775808) : Con Try.prog 109 [num n] (.g (ra (n : Rat))) := by
  have e : ra (n : Rat) = rat (decide (n < 0)) (ofN n.natAbs) [1] := by unfold ra; rw [Rat.num_intCast, Rat.den_intCast, one1]; rfl
  rw [e]
  by_cases h : n < 0
  · exact by_ _ Try.func109 rfl [ends (decide_eq_true h), gives (rLimbs (X := IntKind.u64.wrap (0 - IntKind.u64.wrap n)) (by rw [Int.zero_sub]; exact u64n h0 h) (by omega))] (by kernel_rfl)
  · exact by_ _ Try.func109 rfl [ends (decide_eq_false h), gives (rLimbs (X := IntKind.u64.wrap n) (n := n.natAbs) (by rw [u64 (by omega) (by omega)]; omega) (by omega))] (by kernel_rfl)
def S169 (s : ByteArray) (c : Int) (i : Int) : St := ⟨sparse 18 [(0, .g (text' s)), (1, .g (.one (.v (.int .u8 c)))), (4, .g (num 0)), (5, .g (num i))], []⟩
theorem find_some {s : ByteArray} {c : UInt8} {i : Nat} (hi : i < s.size) (h : s[i] = c) (hb : ∀ j, (hj : j < i) → s[j]'(by omega) ≠ c) : firstIdx s c = (i : Int) := by
  unfold firstIdx
  have : (List.range s.size).find? (fun i => s[i]! == c) = some i := by
    rw [List.find?_range_eq_some]
    refine ⟨by rw [getElem!_pos s i hi, h]; simp, by rw [List.mem_range]; exact hi, fun j hj => ?_⟩
    rw [getElem!_pos s j (by omega)]
    simpa using hb j hj
  rw [this]
theorem find_none {s : ByteArray} {c : UInt8} (hb : ∀ j, (hj : j < s.size) → s[j] ≠ c) : firstIdx s c = -1 := by
  unfold firstIdx
  have : (List.range s.size).find? (fun i => s[i]! == c) = none := by
    rw [List.find?_eq_none]
    intro j hj
    rw [List.mem_range] at hj
    rw [getElem!_pos s j hj]
    simpa using hb j hj
  rw [this]
theorem find_loop (s : ByteArray) (c : UInt8) (hs : s.size < 4000000000000000000) : ∀ (d i : Nat), i + d = s.size → (∀ j, (hj : j < i) → (hs : j < s.size) → s[j] ≠ c) →
    (firstIdx s c = -1 ∧ Rounds Try.prog (lp Try.f169 0) (S169 s c.toNat i) (.exit 0) (S169 s c.toNat s.size)) ∨ ∃ k : Nat, firstIdx s c = (k : Int) ∧ Rounds Try.prog (lp Try.f169 0) (S169 s c.toNat i) .ret ⟨sparse 18 [(4, .g (num (k : Int)))], []⟩
  | 0, i, h, hb => by
    have : i = s.size := by omega
    subst this
    exact .inl ⟨find_none (fun j hj => hb j hj hj), Rounds.out (at_ _ _ [ends (show decide ((s.size : Int) < (s.size : Int)) = false by simp)] (by kernel_rfl)) (by simp)⟩
  | d + 1, i, h, hb => by
    have hi : i < s.size := by omega
    have hlt : decide ((i : Int) < (s.size : Int)) = true := by rw [decide_eq_true_iff]; omega
    have B : (0 : Int) ≤ (i : Int) ∧ ∃ u : UInt8, s[(i : Int).toNat]? = some u ∧ ((s[i].toNat : Nat) : Int) = (u.toNat : Int) := ⟨by omega, s[i], by simp [hi], rfl⟩
    by_cases e : s[i] = c
    · refine .inr ⟨i, find_some hi e (fun j hj => hb j hj (by omega)), Rounds.out (at_ _ _ [ends hlt, byte (b := s) (n := (i : Int)) (z := ((s[i].toNat : Nat) : Int)) B, ends (show (((s[i].toNat : Nat) : Int) == ((c.toNat : Nat) : Int)) = true by rw [e]; simp)] (by kernel_rfl)) (by simp)⟩
    · have step := at_ (c := lp Try.f169 0) (p := S169 s c.toNat i) .normal (S169 s c.toNat (IntKind.i64.wrap ((i : Int) + 1))) [ends hlt, byte (b := s) (n := (i : Int)) (z := ((s[i].toNat : Nat) : Int)) B, ends (show (((s[i].toNat : Nat) : Int) == ((c.toNat : Nat) : Int)) = false by
        rw [beq_eq_false_iff_ne]; intro h2; exact e (UInt8.toNat_inj.1 (by omega)))] (by kernel_rfl)
      rw [show IntKind.i64.wrap ((i : Int) + 1) = ((i + 1 : Nat) : Int) by rw [wr (by omega) (by omega)]; omega] at step
      rcases find_loop s c hs d (i + 1) (by omega) (fun j hj hjs => by
        by_cases h2 : j = i
        · subst h2; exact e
        · exact hb j (by omega) hjs) with ⟨h1, h2⟩ | ⟨k, h1, h2⟩
      · exact .inl ⟨h1, h2.step' step⟩
      · exact .inr ⟨k, h1, h2.step' step⟩
theorem rFind (s : ByteArray) (c : UInt8) (hs : s.size < 4000000000000000000) : Con Try.prog 169 [text' s, .one (.v (.int .u8 ((c.toNat : Nat) : Int)))] (.g (num (firstIdx s c))) := by
  rcases find_loop s c hs s.size 0 (by omega) (fun j hj => by omega) with ⟨h1, h2⟩ | ⟨k, h1, h2⟩
  · rw [h1]
    exact by_ _ Try.func169 rfl [goes h2.loop] (by kernel_rfl)
  · rw [h1]
    exact by_ _ Try.func169 rfl [goes h2.loop] (by kernel_rfl)
def worse (e f : Int) : Int := if e = 4 ∨ f = 4 then 4 else if e ≠ 0 then e else f
theorem rWorse (e f : Int) : Con Try.prog 170 [num e, num f] (.g (num (worse e f))) := by
  unfold worse
  by_cases e4 : e = 4
  · rw [if_pos (.inl e4)]
    exact by_ _ Try.func170 rfl [ends (show (e == 4) = true by simpa using e4), ends (rfl : true = true)] (by kernel_rfl)
  · by_cases f4 : f = 4
    · rw [if_pos (.inr f4)]
      exact by_ _ Try.func170 rfl [ends (show (e == 4) = false by simpa using e4), ends (show (f == 4) = true by simpa using f4)] (by kernel_rfl)
    · rw [if_neg (by omega)]
      by_cases e0 : e = 0
      · rw [if_neg (by omega)]
        exact by_ _ Try.func170 rfl [ends (show (e == 4) = false by simpa using e4), ends (show (f == 4) = false by simpa using f4), ends (show (e != 0) = false by simpa using e0)] (by kernel_rfl)
      · rw [if_pos e0]
        exact by_ _ Try.func170 rfl [ends (show (e == 4) = false by simpa using e4), ends (show (f == 4) = false by simpa using f4), ends (show (e != 0) = true by simpa using e0)] (by kernel_rfl)
theorem bt_at {s : ByteArray} (h : 0 < s.size) : (0 : Int) ≤ 0 ∧ ∃ u : UInt8, s[(0 : Int).toNat]? = some u ∧ bt s 0 = (u.toNat : Int) := ⟨by omega, s[0], by simp [h], by unfold bt; rw [dif_pos (by simpa using h)]; rfl⟩
theorem minus_bt {s : ByteArray} (h : 0 < s.size) : (bt s 0 == 45) = minus s := by unfold minus; rw [decide_eq_true h, Bool.true_and]
theorem jParse (s : ByteArray) (h : s.size ≤ 140737488351232) : Con Try.prog 59 [text' s] (parseT s) := by
  have hs : (if minus s then s.extract 1 s.size else s).size ≤ 140737488351232 := by
    split
    · rw [ByteArray.size_extract]; omega
    · exact h
  have hf := parsed_fits (if minus s then s.extract 1 s.size else s)
  have N := foliotref01_Parse.con (if minus s then s.extract 1 s.size else s) _ _ (if_pos hs)
  unfold parseT parseZ
  by_cases h0 : 0 < s.size
  · have t0 : decide ((s.size : Int) > 0) = true := by rw [decide_eq_true_iff]; omega
    have eb := minus_bt h0
    cases hm : minus s with
    | true =>
      rw [hm] at N hf eb
      simp only [if_true] at N hf ⊢
      have C : (0 : Int) ≤ 1 ∧ (1 : Int) ≤ (s.size : Int) ∧ (s.size : Int) ≤ s.size ∧ s.extract 1 s.size = s.extract (1 : Int).toNat (s.size : Int).toNat := ⟨by omega, by omega, by omega, rfl⟩
      generalize s.extract 1 s.size = t at *
      generalize parsed t = r at *
      by_cases hr : r.2 = 0
      · rw [if_pos hr]
        refine (by_ (.tup [zi (zval (bt s 0 == 45) r.1), num 0]) Try.func59 rfl [ends t0, byte (b := s) (n := 0) (z := bt s 0) (bt_at h0), ends eb, part (b := s) (l := 1) (h := (s.size : Int)) (z := t) C, gives N, ends (show (r.2 != 0) = false by rw [hr]; rfl), gives (jNorm (bt s 0 == 45) r.1 ⟨hf.1, by have := hf.2; omega⟩)] (by kernel_rfl)).to ?_
        rw [eb]; rfl
      · rw [if_neg hr]
        exact by_ _ Try.func59 rfl [ends t0, byte (b := s) (n := 0) (z := bt s 0) (bt_at h0), ends eb, part (b := s) (l := 1) (h := (s.size : Int)) (z := t) C, gives N, ends (show (r.2 != 0) = true by simpa using hr)] (by kernel_rfl)
    | false =>
      rw [hm] at N hf eb
      simp only [Bool.false_eq_true, if_false] at N hf ⊢
      generalize parsed s = r at *
      by_cases hr : r.2 = 0
      · rw [if_pos hr]
        refine (by_ (.tup [zi (zval (bt s 0 == 45) r.1), num 0]) Try.func59 rfl [ends t0, byte (b := s) (n := 0) (z := bt s 0) (bt_at h0), ends eb, gives N, ends (show (r.2 != 0) = false by rw [hr]; rfl), gives (jNorm (bt s 0 == 45) r.1 ⟨hf.1, by have := hf.2; omega⟩)] (by kernel_rfl)).to ?_
        rw [eb]; rfl
      · rw [if_neg hr]
        exact by_ _ Try.func59 rfl [ends t0, byte (b := s) (n := 0) (z := bt s 0) (bt_at h0), ends eb, gives N, ends (show (r.2 != 0) = true by simpa using hr)] (by kernel_rfl)
  · have t0 : decide ((s.size : Int) > 0) = false := by rw [decide_eq_false_iff_not]; omega
    have hm : minus s = false := by unfold minus; rw [decide_eq_false h0, Bool.false_and]
    rw [hm] at N hf ⊢
    simp only [Bool.false_eq_true, if_false] at N hf ⊢
    generalize parsed s = r at *
    by_cases hr : r.2 = 0
    · rw [if_pos hr]
      exact by_ _ Try.func59 rfl [ends t0, ends (rfl : false = false), gives N, ends (show (r.2 != 0) = false by rw [hr]; rfl), gives (jNorm false r.1 ⟨hf.1, by have := hf.2; omega⟩)] (by kernel_rfl)
    · rw [if_neg hr]
      exact by_ _ Try.func59 rfl [ends t0, ends (rfl : false = false), gives N, ends (show (r.2 != 0) = true by simpa using hr)] (by kernel_rfl)
theorem parsed_err (s : ByteArray) : (parsed s).2 = 0 ∨ (parsed s).2 = 2 ∨ (parsed s).2 = 4 := by
  unfold parsed
  split
  · exact .inr (.inr rfl)
  · split
    · exact .inr (.inl rfl)
    · exact .inl rfl
theorem parseZ_err (s : ByteArray) : (parseZ s).2.2 = 0 ∨ (parseZ s).2.2 = 2 ∨ (parseZ s).2.2 = 4 := by
  have key : ∀ (b : Bool) (r : List Int × Int), r.2 = 0 ∨ r.2 = 2 ∨ r.2 = 4 → (if r.2 = 0 then ((ofZ (zval b r.1)).1, (ofZ (zval b r.1)).2, (0 : Int)) else (false, [], r.2)).2.2 = 0 ∨ (if r.2 = 0 then ((ofZ (zval b r.1)).1, (ofZ (zval b r.1)).2, (0 : Int)) else (false, [], r.2)).2.2 = 2 ∨ (if r.2 = 0 then ((ofZ (zval b r.1)).1, (ofZ (zval b r.1)).2, (0 : Int)) else (false, [], r.2)).2.2 = 4 := fun b r h => by
    by_cases hr : r.2 = 0
    · rw [if_pos hr]; exact .inl rfl
    · rw [if_neg hr]; exact h
  exact key (minus s) _ (parsed_err _)
theorem worse_zero {e f : Int} : worse e f = 0 ↔ e = 0 ∧ f = 0 := by
  unfold worse
  split
  · omega
  · split <;> omega
theorem worse_err {e f : Int} (he : e = 0 ∨ e = 2 ∨ e = 4) (hf : f = 0 ∨ f = 2 ∨ f = 4) : worse e f = if e = 4 ∨ f = 4 then 4 else if e ≠ 0 ∨ f ≠ 0 then 2 else 0 := by
  unfold worse
  rcases he with rfl | rfl | rfl <;> rcases hf with rfl | rfl | rfl <;> rfl
def S104 (s : ByteArray) (b : Bool) (m l : List Int) (i : Int) (X : List Int) : St :=
  ⟨sparse 122 [(0, .g (text' s)), (2, .g (.one (.ptr 0 0))), (13, .g (.one (.ptr 1 0))), (15, .g (.one (limbs l))), (18, .g (.one (limbs X))), (19, .g (num i))], [[.v (.bool false), .row 1 0 [], .row 1 0 []], [.v (.bool b), limbs m]]⟩
theorem rdec_loop (s : ByteArray) (b : Bool) (m l : List Int) (q : Nat) (hk : s.size - q ≤ 10000) (hs : s.size ≤ 140737488351232) : ∀ (d j : Nat), q + j + d = s.size → Rounds Try.prog (lp Try.f104 0) (S104 s b m l ((q + j : Nat) : Int) (ofN (10 ^ j))) (.exit 0) (S104 s b m l s.size (ofN (10 ^ (s.size - q))))
  | 0, j, h => by
    have e : q + j = s.size := by omega
    have e2 : s.size - q = j := by omega
    rw [e, e2]
    exact Rounds.out (at_ _ _ [ends (show decide ((s.size : Int) < (s.size : Int)) = false by simp)] (by kernel_rfl)) (by simp)
  | d + 1, j, h => by
    have hp := pow_len j
    have M := foliotref01_Mul.con (ofN (10 ^ j)) [10] _ (if_pos ⟨⟨lim_ofN _, by omega⟩, rf (few_ofN (n := 10) (by decide))⟩)
    rw [val_ofN, ten, ← Nat.pow_succ] at M
    have step := at_ (c := lp Try.f104 0) (p := S104 s b m l ((q + j : Nat) : Int) (ofN (10 ^ j))) .normal (S104 s b m l (IntKind.i64.wrap (((q + j : Nat) : Int) + 1)) (ofN (10 ^ (j + 1)))) [ends (show decide (((q + j : Nat) : Int) < (s.size : Int)) = true by rw [decide_eq_true_iff]; omega), gives M] (by kernel_rfl)
    rw [show IntKind.i64.wrap (((q + j : Nat) : Int) + 1) = ((q + (j + 1) : Nat) : Int) by rw [wr (by omega) (by omega)]; omega] at step
    exact (rdec_loop s b m l q hk hs d (j + 1) (by omega)).step' step
theorem rParse (s : ByteArray) (hs : s.size ≤ 140737488351232) : Con Try.prog 104 [text' s] (qparse s) := by
  have F1 := rFind s 47 (by omega)
  have F2 := rFind s 46 (by omega)
  have i1 := idx_lt s 47
  have i2 := idx_lt s 46
  unfold qparse cutS
  generalize firstIdx s 47 = i at *
  generalize firstIdx s 46 = p at *
  by_cases h1 : 0 ≤ i
  · rw [if_pos h1]
    simp only [if_true]
    have w : IntKind.i64.wrap (i + 1) = i + 1 := wr (by omega) (by omega)
    have c1 : (0 : Int) ≤ 0 ∧ 0 ≤ i ∧ i ≤ s.size ∧ s.extract 0 i.toNat = s.extract (0 : Int).toNat i.toNat := ⟨by omega, h1, by omega, rfl⟩
    have c2 : (0 : Int) ≤ IntKind.i64.wrap (i + 1) ∧ IntKind.i64.wrap (i + 1) ≤ (s.size : Int) ∧ (s.size : Int) ≤ s.size ∧ s.extract (i.toNat + 1) s.size = s.extract (IntKind.i64.wrap (i + 1)).toNat (s.size : Int).toNat := ⟨by rw [w]; omega, by rw [w]; omega, by omega, by rw [w]; congr 1; omega⟩
    have z1 : (s.extract 0 i.toNat).size ≤ s.size := by rw [ByteArray.size_extract]; omega
    have z2 : (s.extract (i.toNat + 1) s.size).size ≤ s.size := by rw [ByteArray.size_extract]; omega
    generalize s.extract 0 i.toNat = t at *
    generalize s.extract (i.toNat + 1) s.size = u at *
    have P := jParse t (by omega)
    have N := foliotref01_Parse.con u _ _ (if_pos (by omega))
    have f1 := parseZ_few t
    have g1 := parsed_fits u
    have v1 := @parsed_val u
    have e1 := parseZ_err t
    have e2 := parsed_err u
    unfold parseT at P
    generalize parseZ t = n at *
    generalize parsed u = d at *
    have W := rWorse n.2.2 d.2
    have we := worse_err e1 e2
    have wz := @worse_zero n.2.2 d.2
    generalize worse n.2.2 d.2 = x at *
    unfold quotT
    by_cases hx : x = 0
    · obtain ⟨hn, hd⟩ := wz.1 hx
      rw [if_neg (by omega), if_neg (by omega)]
      have bx : (x == 0) = true := by simpa using hx
      by_cases hl : d.1.length = 0
      · rw [if_pos hl]
        exact by_ _ Try.func104 rfl [gives F1, gives F2, ends (decide_eq_true h1), part c1, gives P, part c2, gives N, gives W, ends bx, ends (show (((d.1.length : Nat) : Int) == 0) = true by rw [beq_iff_eq]; omega), ends (rfl : ((4 : Int) != 0) = true)] (by kernel_rfl)
      · rw [if_neg hl]
        have K := rNorm n.1 n.2.1 d.1 (few_up f1 (by decide)) ⟨g1.1, by omega⟩
        exact by_ _ Try.func104 rfl [gives F1, gives F2, ends (decide_eq_true h1), part c1, gives P, part c2, gives N, gives W, ends bx, ends (show (((d.1.length : Nat) : Int) == 0) = false by rw [beq_eq_false_iff_ne]; omega), ends (show (x != 0) = false by simpa using hx), gives K] (by kernel_rfl)
    · have bx : (x == 0) = false := by simpa using hx
      have cx : (x != 0) = true := by simpa using hx
      have e : failT x = (if n.2.2 = 4 ∨ d.2 = 4 then failT 4 else if n.2.2 ≠ 0 ∨ d.2 ≠ 0 then failT 2 else if d.1.length = 0 then failT 4 else .tup [ra (mkRat (zval n.1 n.2.1) (val d.1)), num 0]) := by
        rw [we]
        by_cases a1 : n.2.2 = 4 ∨ d.2 = 4
        · rw [if_pos a1, if_pos a1]
        · rw [if_neg a1, if_neg a1]
          have a2 : n.2.2 ≠ 0 ∨ d.2 ≠ 0 := by omega
          rw [if_pos a2, if_pos a2]
      rw [← e]
      exact by_ _ Try.func104 rfl [gives F1, gives F2, ends (decide_eq_true h1), part c1, gives P, part c2, gives N, gives W, ends bx, ends (rfl : false = false), ends cx] (by kernel_rfl)
  · rw [if_neg h1]
    simp only [Bool.false_eq_true, if_false]
    by_cases h2 : 0 ≤ p
    · rw [if_pos h2]
      simp only [if_true]
      have w : IntKind.i64.wrap (p + 1) = p + 1 := wr (by omega) (by omega)
      have hpos : 0 < s.size := by omega
      have c1 : (0 : Int) ≤ 0 ∧ 0 ≤ p ∧ p ≤ s.size ∧ s.extract 0 p.toNat = s.extract (0 : Int).toNat p.toNat := ⟨by omega, h2, by omega, rfl⟩
      have c2 : (0 : Int) ≤ IntKind.i64.wrap (p + 1) ∧ IntKind.i64.wrap (p + 1) ≤ (s.size : Int) ∧ (s.size : Int) ≤ s.size ∧ s.extract (p.toNat + 1) s.size = s.extract (IntKind.i64.wrap (p + 1)).toNat (s.size : Int).toNat := ⟨by rw [w]; omega, by rw [w]; omega, by omega, by rw [w]; congr 1; omega⟩
      have z1 : (s.extract 0 p.toNat).size ≤ s.size := by rw [ByteArray.size_extract]; omega
      have z2 : (s.extract (p.toNat + 1) s.size).size = s.size - (p.toNat + 1) := by rw [ByteArray.size_extract]; omega
      generalize s.extract 0 p.toNat = t at *
      generalize s.extract (p.toNat + 1) s.size = u at *
      have P := jParse t (by omega)
      have N := foliotref01_Parse.con u _ _ (if_pos (by omega))
      have f1 := parseZ_few t
      have g1 := parsed_fits u
      have y1 := @parsed_size u
      have e1 := parseZ_err t
      have e2 := parsed_err u
      unfold parseT at P
      generalize parseZ t = n at *
      generalize parsed u = d at *
      have W := rWorse n.2.2 d.2
      have we := worse_err e1 e2
      have wz := @worse_zero n.2.2 d.2
      generalize worse n.2.2 d.2 = x at *
      unfold decT
      by_cases hx : x = 0
      · obtain ⟨hn, hd⟩ := wz.1 hx
        have hu := y1 hd
        rw [if_neg (by omega), if_neg (by omega)]
        have L := (rdec_loop s n.1 n.2.1 d.1 (p.toNat + 1) (by omega) hs (s.size - (p.toNat + 1)) 0 (by omega)).loop
        rw [← z2] at L
        have L' : CodeCon Try.prog (.loop (lp Try.f104 0)) (S104 s n.1 n.2.1 d.1 (IntKind.i64.wrap (p + 1)) [1]) (.exit 0) (S104 s n.1 n.2.1 d.1 s.size (ofN (10 ^ u.size))) := by
          rw [show IntKind.i64.wrap (p + 1) = ((p.toNat + 1 + 0 : Nat) : Int) by rw [w]; omega]
          exact L
        have hp := pow_len u.size
        have hm' : (ofN (val n.2.1)).length ≤ 300 := Nat.le_trans (len_val_le f1.1) f1.2
        have hl' : (ofN (val d.1)).length ≤ 300 := Nat.le_trans (len_val_le g1.1) g1.2
        have M := foliotref01_Mul.con n.2.1 (ofN (10 ^ u.size)) _ (if_pos ⟨rf (few_up f1 (by decide)), ⟨lim_ofN _, by omega⟩⟩)
        have h9 := len_mul (val n.2.1) (10 ^ u.size)
        rw [val_ofN] at M
        have A := foliotref01_Add.con (ofN (val n.2.1 * 10 ^ u.size)) d.1 _ (if_pos ⟨⟨lim_ofN _, by omega⟩, ⟨g1.1, by omega⟩⟩)
        have h8 := len_add (val n.2.1 * 10 ^ u.size) (val d.1)
        rw [val_ofN] at A
        have K := rNorm (bt s 0 == 45) (ofN (val n.2.1 * 10 ^ u.size + val d.1)) (ofN (10 ^ u.size)) ⟨lim_ofN _, by omega⟩ ⟨lim_ofN _, by omega⟩
        unfold rv at K
        rw [val_ofN] at K
        rw [← minus_bt hpos]
        exact by_ _ Try.func104 rfl [gives F1, gives F2, ends (decide_eq_false h1), ends (show decide (p < 0) = false by rw [decide_eq_false_iff_not]; omega), part c1, gives P, part c2, gives N, gives W, ends (show (x != 0) = false by simpa using hx), goes L', gives M, gives A, byte (b := s) (n := 0) (z := bt s 0) (bt_at hpos), gives K] (by kernel_rfl)
      · have cx : (x != 0) = true := by simpa using hx
        have e : failT x = (if n.2.2 = 4 ∨ d.2 = 4 then failT 4 else if n.2.2 ≠ 0 ∨ d.2 ≠ 0 then failT 2 else .tup [ra (mkRat (zval (minus s) (ofN (val n.2.1 * 10 ^ u.size + val d.1))) (10 ^ u.size)), num 0]) := by
          rw [we]
          by_cases a1 : n.2.2 = 4 ∨ d.2 = 4
          · rw [if_pos a1, if_pos a1]
          · rw [if_neg a1, if_neg a1]
            have a2 : n.2.2 ≠ 0 ∨ d.2 ≠ 0 := by omega
            rw [if_pos a2, if_pos a2]
        rw [← e]
        exact by_ _ Try.func104 rfl [gives F1, gives F2, ends (decide_eq_false h1), ends (show decide (p < 0) = false by rw [decide_eq_false_iff_not]; omega), part c1, gives P, part c2, gives N, gives W, ends cx] (by kernel_rfl)
    · rw [if_neg h2]
      simp only [Bool.false_eq_true, if_false]
      have P := jParse s (by omega)
      unfold parseT at P
      generalize parseZ s = n at *
      unfold intT
      by_cases e0 : n.2.2 = 0
      · rw [if_neg (by omega)]
        exact by_ _ Try.func104 rfl [gives F1, gives F2, ends (decide_eq_false h1), ends (show decide (p < 0) = true by rw [decide_eq_true_iff]; omega), gives P, ends (show (n.2.2 != 0) = false by simpa using e0)] (by kernel_rfl)
      · rw [if_pos e0]
        exact by_ _ Try.func104 rfl [gives F1, gives F2, ends (decide_eq_false h1), ends (show decide (p < 0) = true by rw [decide_eq_true_iff]; omega), gives P, ends (show (n.2.2 != 0) = true by simpa using e0)] (by kernel_rfl)
theorem same_rat (b : Bool) (l d : List Int) (h1 : l.length < 4000000000000000000) (h2 : d.length < 4000000000000000000) : Con Try.prog 107 [rat b l d, rat b l d] (.g (truth true)) :=
  by_ _ Try.func107 rfl [gives ((rSame b l d b l d h1 h2).to (by rw [decide_eq_true ⟨rfl, rfl⟩, decide_eq_true rfl]; rfl : _ = AV.g (truth true)))] (by kernel_rfl)
theorem gFew1 (b : Bool) (l d : List Int) (f : Bool) (h : [(b, l, d)].all four = f) : Con Try.prog 102 [.one (rows [(b, l, d)])] (.g (truth f)) := (gFew _ (by simp)).to (by rw [h])
theorem mk_lens (z : Int) (D k : Nat) (hz : (ofN z.natAbs).length ≤ k) (hD : (ofN D).length ≤ k) (hk : 1 ≤ k) : (ofZ (mkRat z D).num).2.length ≤ k ∧ (ofN (mkRat z D).den).length ≤ k := by
  by_cases h : D = 0
  · subst h
    rw [Rat.mkRat_zero]
    exact ⟨Nat.zero_le _, hk⟩
  · exact short_mk h hz hD
theorem qparse_two (s : ByteArray) : ∃ b l d e, qparse s = .tup [rat b l d, num e] ∧ l.length ≤ 100000 ∧ d.length ≤ 100000 := by
  have fail : ∀ e : Int, ∃ b l d e', failT e = .tup [rat b l d, num e'] ∧ l.length ≤ 100000 ∧ d.length ≤ 100000 := fun e => ⟨false, [], [], e, rfl, Nat.zero_le _, Nat.zero_le _⟩
  have mk : ∀ (z : Int) (D : Nat), (ofN z.natAbs).length ≤ 100000 → (ofN D).length ≤ 100000 → ∃ b l d e', AV.tup [ra (mkRat z D), num 0] = .tup [rat b l d, num e'] ∧ l.length ≤ 100000 ∧ d.length ≤ 100000 := fun z D h1 h2 =>
    ⟨_, _, _, 0, rfl, (mk_lens z D _ h1 h2 (by decide)).1, (mk_lens z D _ h1 h2 (by decide)).2⟩
  unfold qparse
  split
  · have f := parseZ_few (cutS s 47).1
    have g := parsed_fits (cutS s 47).2.1
    generalize parseZ (cutS s 47).1 = n at *
    generalize parsed (cutS s 47).2.1 = d at *
    unfold quotT
    split
    · exact fail _
    · split
      · exact fail _
      · split
        · exact fail _
        · exact mk _ _ (Nat.le_trans (few_zval f) (by decide)) (by have := len_val_le g.1; have := g.2; omega)
  · split
    · have f := parseZ_few (cutS s 46).1
      have g := parsed_fits (cutS s 46).2.1
      have y := @parsed_size (cutS s 46).2.1
      generalize parseZ (cutS s 46).1 = n at *
      generalize hu : (cutS s 46).2.1 = u at *
      generalize parsed u = d at *
      unfold decT
      split
      · exact fail _
      · split
        · exact fail _
        · rename_i h1 h2
          have hs := y (by omega)
          have hp := pow_len u.size
          have hm' : (ofN (val n.2.1)).length ≤ 300 := Nat.le_trans (len_val_le f.1) f.2
          have hl' : (ofN (val d.1)).length ≤ 300 := Nat.le_trans (len_val_le g.1) g.2
          have h9 := len_mul (val n.2.1) (10 ^ u.size)
          have h8 := len_add (val n.2.1 * 10 ^ u.size) (val d.1)
          exact mk _ _ (by rw [abs_zval, val_ofN]; omega) (by omega)
    · have f := parseZ_few (cutS s 46).1
      generalize parseZ (cutS s 46).1 = n at *
      unfold intT
      split
      · exact fail _
      · exact ⟨_, _, _, 0, rfl, Nat.le_trans f.2 (by decide), by decide⟩
theorem RatioTexts (b : Bool) (l d : List Int) (s : ByteArray) (n : Int) (hl : lim l) (hd : lim d) (hs : s.size ≤ 140737488351232) (hn : (Lit.int .i64 n).wf = true) : ConF Try.prog 24 [rat b l d, text' s, num n] (.g (truth true)) := by
  have hn' : -9223372036854775808 ≤ n ∧ n < 9223372036854775808 := by
    simp only [Lit.wf, Bool.and_eq_true, decide_eq_true_eq] at hn
    have h1 : IntKind.i64.min = -9223372036854775808 := rfl
    have h2 : IntKind.i64.max = 9223372036854775807 := rfl
    omega
  cases hf : [(b, l, d)].all four with
  | false => exact byF _ Try.func24 rfl [gives (gFew1 _ _ _ _ hf), ends (rfl : (!false) = true), ends (rfl : true = true)] (by kernel_rfl)
  | true =>
    have F := gFew1 _ _ _ _ hf
    simp only [List.all_cons, List.all_nil, Bool.and_eq_true, Bool.and_true] at hf
    have hfl : few 2000 l := ⟨hl, by unfold four at hf; simp only [Bool.and_eq_true, decide_eq_true_eq] at hf; omega⟩
    have hfd : few 2000 d := ⟨hd, by unfold four at hf; simp only [Bool.and_eq_true, decide_eq_true_eq] at hf; omega⟩
    by_cases h200 : s.size ≤ 200
    · have P1 := qParse s hs
      have P2 := rParse s hs
      obtain ⟨b', l', d', e, he, k1, k2⟩ := qparse_two s
      rw [he] at P1 P2
      have R1 := qPrint b l d hfl hfd
      have R2 := rPrint b l d hfl hfd
      have O1 := qOf hn'.1 hn'.2
      have O2 := rOf hn'.1 hn'.2
      have sn : short 3 (n : Rat) := short_int (by
        have h9 : n.natAbs < 18446744073709551616 := by omega
        have := len_mono (show n.natAbs ≤ 18446744073709551616 by omega)
        exact Nat.le_trans this (by decide)) (by decide)
      have T := sameT (rfl : (n : Rat) = n) sn (by decide)
      exact byF _ Try.func24 rfl [gives F, ends (rfl : (!true) = false), ends (show decide ((s.size : Int) > 200) = false by rw [decide_eq_false_iff_not]; omega), gives P1, gives P2, gives R1, gives R2, ends (eqS (printR (rv b l d))), gives (same_rat b' l' d' (by omega) (by omega)), ends (rfl : true = true),
        ends (show (e == e) = true by simp), gives O1, gives O2, gives T, ends (rfl : true = true), gives awake] (by kernel_rfl)
    · exact byF _ Try.func24 rfl [gives F, ends (rfl : (!true) = false), ends (show decide ((s.size : Int) > 200) = true by rw [decide_eq_true_iff]; omega)] (by kernel_rfl)
end Go.Proofs.Ytaclkccgjpjdjaa.Ev
end
section
/- What is handed to a law, as the executor tells it. -/
namespace Go.Proofs.Ytaclkccgjpjdjaa.Ev
open Go Go.RowKit Go.Proofs.YtaclkccgjpjdjaaW.PrintWords Go.Proofs.YtaclkccgjpjdjaaW.PrintMore Go.Proofs.YtaclkccgjpjdjaaW.PrintLast Go.Proofs.Ytaclkccgjpjdjaa Go.Proofs.Ytaclkccgjpjdjaa.Nt Go.Proofs.Ytaclkccgjpjdjaa.Zi
open Go.ChangeShapes Go.WideShapes Go.Deep Go.Joins
set_option linter.unusedVariables false
set_option linter.unusedSimpArgs false
theorem lim_wf {l : List Int} (h : ∀ x ∈ l, (Lit.int .u32 x).wf = true) : lim l := fun x hx => by
  have := h x hx
  simp only [Lit.wf, Bool.and_eq_true, decide_eq_true_eq] at this
  have h1 : IntKind.u32.min = 0 := rfl
  have h2 : IntKind.u32.max = 4294967295 := rfl
  omega
section
variable {H : Type} {enc : TypeId × Value → H} {W : World} {base b0 n : Nat} {r : Reach} {held : Bool}
theorem limbs_told {v : Value} {y : DataW H × List MemPlace} (h : DataW.trod enc Try.prog W base (fun _ => true) held n 22 [v] = some y) : ∃ l, TC [] (fun k => k < W.heap.size) W (limbs l) v ∧ lim l := by
  rcases open_ints Try.underlying22 Try.underlying107 (by kernel_rfl) h with ⟨hcs, _⟩ | ⟨x, l, c, zs, hcs, _, hl, hm, hz, _, hcell, hwz⟩
  · cases hcs
    exact ⟨[], (foot_mk fun W' _ => Rd.nil 1 none 0 : Foot (fun W => Rd W (limbs []) (.slice none 0 0)) W _), fun x hx => by cases hx⟩
  · cases hcs
    obtain ⟨m, rfl, hr0, hm0, hw0, hc0⟩ := ReadsInt.ofRowC (k := .u32) (w := W) (a := some x) (len := l) (cap := c) (zs := zs) (.inr ⟨x, rfl, hl, hm, by simpa using hz, hcell, hwz⟩)
    have hC : Kd.C (Kd.int .u32) W (some x) m.length m := Kd.C_of_reads (d := (0 : Int)) (h1 := fun _ => rfl) hr0
    exact ⟨m, lim_out hc0 (Kd.C_F (Kd.heap_int .u32) hC), lim_wf hw0⟩
set_option maxRecDepth 100000 in
theorem int_cells {c0 c1 : Value} {y : DataW H × List MemPlace} (h : DataW.trod enc Try.prog W base (fun _ => true) held n 39 [c0, c1] = some y) :
    ∃ b l, c0 = .bool b ∧ TC [] (fun k => k < W.heap.size) W (limbs l) c1 ∧ lim l := by
  obtain ⟨y0, y1, m, _, _, h0, h1⟩ := trod_struct2 Try.underlying39 h
  have k4 : Try.prog.cellsOf 4 = 1 := by kernel_rfl
  have k22 : Try.prog.cellsOf 22 = 1 := by kernel_rfl
  simp only [k4, k22] at h0 h1
  obtain ⟨b, e0, _, _⟩ := DataW.trod_bool Try.underlying4 h0
  cases e0
  obtain ⟨l, hT, hl⟩ := limbs_told h1
  exact ⟨b, l, rfl, hT, hl⟩
set_option maxRecDepth 100000 in
theorem rat_told {v : Value} {d : DataW H} {p : List MemPlace} (hv : Value.okWide Try.prog W r b0 58 v) (h : DataW.Trod enc Try.prog W base (fun _ => true) held 58 v d p) :
    ∃ b l m, TG [] (fun k => k < W.heap.size) W (rat b l m) v ∧ lim l ∧ lim m := by
  have hsz : Try.prog.cellsOf 58 = 3 := by kernel_rfl
  obtain ⟨cs, rfl, hcs⟩ := okWide_struct Try.underlying58 hv
  obtain ⟨c0, c1, c2, rfl⟩ := array3 (hcs.trans hsz)
  obtain ⟨fuel, hf⟩ := h
  obtain ⟨y0, y1, m, _, _, h0, h1⟩ := trod_struct2 Try.underlying58 hf
  have k39 : Try.prog.cellsOf 39 = 2 := by kernel_rfl
  have k22 : Try.prog.cellsOf 22 = 1 := by kernel_rfl
  simp only [k39, k22] at h0 h1
  obtain ⟨b, l, rfl, hT, hl⟩ := int_cells (c0 := c0) (c1 := c1) (by simpa [Value.cells] using h0)
  obtain ⟨l', hT', hl'⟩ := limbs_told (v := c2) (by simpa [Value.cells] using h1)
  refine ⟨b, l, l', ⟨_, rfl, rfl, fun j c u hc hu => ?_⟩, hl, hl'⟩
  match j with
  | 0 => cases hc; cases hu; exact TC.of_v rfl
  | 1 => cases hc; cases hu; exact hT
  | 2 => cases hc; cases hu; exact hT'
  | j + 3 => simp at hu
theorem args1 {ok : Nat → Prop} {w : World} {x : AG} {u : Value} (h : TG [] ok w x u) : TA ok w [x] #[u] := ⟨rfl, fun j a b ha hb => by
  match j with
  | 0 => cases ha; simp at hb; subst hb; exact h
  | j + 1 => simp at ha⟩
theorem args_cons {ok : Nat → Prop} {w : World} {x : AG} {u : Value} {xs : List AG} {us : Array Value} (h : TG [] ok w x u) (hs : TA ok w xs us) : TA ok w (x :: xs) (#[u] ++ us) := (args1 h).append hs
end
end Go.Proofs.Ytaclkccgjpjdjaa.Ev
end
