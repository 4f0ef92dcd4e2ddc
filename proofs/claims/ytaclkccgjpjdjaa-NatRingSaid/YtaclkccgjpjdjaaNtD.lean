/- The nat functions as they are printed tell the numbers that they should: take, Div. -/
import Derived.Test.YtaclkccgjpjdjaaNtC
import Derived.Test.YtaclkccgjpjdjaaNx4
namespace Go.Proofs.Ytaclkccgjpjdjaa.Nt
open Go.RowKit Go.Proofs.YtaclkccgjpjdjaaW.PrintWords Go.Proofs.YtaclkccgjpjdjaaW.PrintMore Go.Proofs.Ytaclkccgjpjdjaa.N
set_option linter.unusedVariables false
set_option linter.unusedSimpArgs false
/-! ### take: what is taken away, and put back -/
def tkl (q : Int) : Int → Int → List Int → List Int → List Int × Int
  | c, l, r0 :: r, y :: v => (((r0 - (c + q * y) % 4294967296 - l) % 4294967296) :: (tkl q ((c + q * y) / 4294967296) (if r0 - (c + q * y) % 4294967296 - l < 0 then 1 else 0) r v).1, (tkl q ((c + q * y) / 4294967296) (if r0 - (c + q * y) % 4294967296 - l < 0 then 1 else 0) r v).2)
  | c, l, r0 :: r, [] => (((r0 - c - l) % 4294967296) :: r, if r0 - c - l < 0 then 1 else 0)
  | _, l, [], _ => ([], l)
theorem tkl_val {q : Int} (hq : 0 ≤ q ∧ q < 4294967296) : ∀ (v r : List Int) (c l : Int), lim v → lim r → r.length = v.length + 1 → 0 ≤ c → c < 4294967296 → 0 ≤ l → l ≤ 1 →
    lim (tkl q c l r v).1 ∧ (tkl q c l r v).1.length = r.length ∧ ((tkl q c l r v).2 = 0 ∨ (tkl q c l r v).2 = 1) ∧ (val (tkl q c l r v).1 : Int) - 4294967296 ^ r.length * (tkl q c l r v).2 = val r - (c + q * val v) - l
  | [], r, c, l, _, hr, hl, hc0, hc1, hl0, hl1 => by
    obtain ⟨x, rfl⟩ : ∃ x, r = [x] := by
      cases r with
      | nil => simp at hl
      | cons x r => cases r with
        | nil => exact ⟨x, rfl⟩
        | cons _ _ => simp at hl
    obtain ⟨hx, _⟩ := lim_cons.1 hr
    simp only [tkl]
    refine ⟨by intro z hz; simp only [List.mem_singleton] at hz; subst hz; omega, rfl, by split <;> simp, ?_⟩
    simp only [val_cons, val_nil, List.length_singleton, Int.pow_one]
    split <;> omega
  | y :: v, [], _, _, _, _, hl, _, _, _, _ => by simp at hl
  | y :: v, r0 :: r, c, l, hv, hr, hl, hc0, hc1, hl0, hl1 => by
    obtain ⟨hx, hr'⟩ := lim_cons.1 hr
    obtain ⟨hy, hv'⟩ := lim_cons.1 hv
    have hm := mul_lim hq hy
    generalize hL : (if r0 - (c + q * y) % 4294967296 - l < 0 then (1 : Int) else 0) = L
    have hL2 : (r0 - (c + q * y) % 4294967296 - l) % 4294967296 = r0 - (c + q * y) % 4294967296 - l + 4294967296 * L ∧ 0 ≤ L ∧ L ≤ 1 := by
      subst hL; split <;> omega
    obtain ⟨i1, i2, i3, i4⟩ := tkl_val hq v r ((c + q * y) / 4294967296) L hv' hr' (by simpa using hl) (by omega) (by omega) hL2.2.1 hL2.2.2
    simp only [tkl]
    rw [hL]
    generalize (tkl q ((c + q * y) / 4294967296) L r v).1 = T at *
    generalize (tkl q ((c + q * y) / 4294967296) L r v).2 = D at *
    refine ⟨lim_cons.2 ⟨by omega, i1⟩, by simp [i2], i3, ?_⟩
    have e : q * (((y.toNat + 4294967296 * val v : Nat)) : Int) = q * y + 4294967296 * (q * (val v : Int)) := by
      rw [show (((y.toNat + 4294967296 * val v : Nat)) : Int) = y + 4294967296 * (val v : Int) by omega, Int.mul_add, Int.mul_left_comm]
    rw [val_cons, val_cons, val_cons, e, List.length_cons, Int.pow_succ, Int.mul_comm _ (4294967296 : Int), Int.mul_assoc]
    generalize (4294967296 : Int) ^ r.length * D = X at *
    rw [hL2.1]
    omega
def adl : Int → List Int → List Int → List Int
  | c, r0 :: r, y :: v => (c + r0 + y) % 4294967296 :: adl ((c + r0 + y) / 4294967296) r v
  | c, r0 :: r, [] => (c + r0) % 4294967296 :: r
  | _, [], _ => []
theorem adl_val : ∀ (v r : List Int) (c : Int), lim v → lim r → r.length = v.length + 1 → 0 ≤ c → c ≤ 1 →
    lim (adl c r v) ∧ (adl c r v).length = r.length ∧ ∃ co : Int, 0 ≤ co ∧ co ≤ 1 ∧ (val (adl c r v) : Int) + 4294967296 ^ r.length * co = c + val r + val v
  | [], r, c, _, hr, hl, hc0, hc1 => by
    obtain ⟨x, rfl⟩ : ∃ x, r = [x] := by
      cases r with
      | nil => simp at hl
      | cons x r => cases r with
        | nil => exact ⟨x, rfl⟩
        | cons _ _ => simp at hl
    obtain ⟨hx, _⟩ := lim_cons.1 hr
    refine ⟨by intro z hz; simp only [adl, List.mem_singleton] at hz; subst hz; omega, rfl, (c + x) / 4294967296, by omega, by omega, ?_⟩
    simp only [adl, val_cons, val_nil, List.length_singleton, Int.pow_one]
    omega
  | y :: v, [], _, _, _, hl, _, _ => by simp at hl
  | y :: v, r0 :: r, c, hv, hr, hl, hc0, hc1 => by
    obtain ⟨hx, hr'⟩ := lim_cons.1 hr
    obtain ⟨hy, hv'⟩ := lim_cons.1 hv
    obtain ⟨i1, i2, co, i3, i4, i5⟩ := adl_val v r ((c + r0 + y) / 4294967296) hv' hr' (by simpa using hl) (by omega) (by omega)
    simp only [adl]
    refine ⟨lim_cons.2 ⟨by omega, i1⟩, by simp [i2], co, i3, i4, ?_⟩
    rw [val_cons, val_cons, val_cons, List.length_cons, Int.pow_succ, Int.mul_comm _ (4294967296 : Int), Int.mul_assoc]
    generalize (4294967296 : Int) ^ r.length * co = X at *
    omega
theorem and64 {x : Int} (h0 : 0 ≤ x) (h1 : x < 18446744073709551616) : Go.bits .and .u64 x 4294967295 = x % 4294967296 := by
  rw [u64_and x 4294967295 h0 (by omega) (by omega) (by omega)]
  obtain ⟨n, rfl⟩ := Int.eq_ofNat_of_zero_le h0
  have h := Nat.and_two_pow_sub_one_eq_mod n 32
  rw [Int.toNat_natCast, show (4294967295 : Int).toNat = 2 ^ 32 - 1 from rfl, h]
  rfl
theorem u64neg {x : Int} (h0 : x < 0) (h1 : -18446744073709551616 ≤ x) : IntKind.u64.wrap x = x + 18446744073709551616 := by
  simp only [IntKind.wrap, IntKind.signed, IntKind.bits]; simp; omega
/-- a difference as 64 bits without a sign tell it: its low limb, and whether it is below nought -/
theorem dif64 {x y l : Int} (hx : 0 ≤ x ∧ x < 4294967296) (hy : 0 ≤ y ∧ y < 4294967296) (hl0 : 0 ≤ l) (hl1 : l ≤ 1) :
    IntKind.u64.wrap (IntKind.u64.wrap (x - y) - l) % 4294967296 = (x - y - l) % 4294967296 ∧ IntKind.u64.wrap (IntKind.u64.wrap (x - y) - l) / 9223372036854775808 = if x - y - l < 0 then 1 else 0 := by
  by_cases h : x - y < 0
  · rw [u64neg h (by omega), u64 (x := x - y + 18446744073709551616 - l) (by omega) (by omega), if_pos (by omega)]; omega
  · rw [u64 (x := x - y) (by omega) (by omega)]
    by_cases h2 : x - y - l < 0
    · rw [u64neg h2 (by omega), if_pos h2]; omega
    · rw [u64 (by omega) (by omega), if_neg h2]; omega
theorem take_l1 {v : List Int} (hlv : lim v) (q : Int) (at_ : Nat) (hbig : at_ + v.length < 100000000000000000) (hq : 1 ≤ q ∧ q < 4294967296) (tl : List Int) : ∀ (s : List Int) (j : Nat) (p r : List Int) (c : Int), v.drop j = s → j + s.length = v.length → p.length = at_ + j → r.length = s.length + 1 → lim r → 0 ≤ c → c ≤ 1 →
    Ev (fun k => nat_take.l1 k (p ++ (r ++ tl)) v (at_ : Int) q c ((v.length : Int) + 1) (j : Int)) (q - 1, p ++ (adl c r s ++ tl)) := by
  intro s
  induction s with
  | nil =>
    intro j p r c hs hj hp hr hlr hc0 hc1
    obtain ⟨x, rfl⟩ : ∃ x, r = [x] := by
      cases r with
      | nil => simp at hr
      | cons x r => cases r with
        | nil => exact ⟨x, rfl⟩
        | cons _ _ => simp at hr
    obtain ⟨hx, _⟩ := lim_cons.1 hlr
    simp only [List.length_nil] at hj
    refine Ev.step (f := fun k => nat_take.l1 k (p ++ ((c + x) % 4294967296 :: tl)) v (at_ : Int) q ((c + x) / 4294967296) ((v.length : Int) + 1) ((j : Int) + 1)) (fun k => ?_) (Ev.step (f := fun _ => some (q - 1, p ++ (adl c [x] [] ++ tl))) (fun k => ?_) (Ev.now _))
    · simp only [nat_take.l1]
      rw [if_pos (by omega), w64 (x := (at_ : Int) + j) (by omega) (by omega), if_pos (by omega), if_pos (by simp; omega), if_neg (by omega), List.singleton_append, rd_app _ _ _ _ (by omega), set_app _ _ _ _ _ (by omega), u64 hx.1 (by omega), u64 (x := c + x) (by omega) (by omega), w64 (by omega) (by omega)]
    · simp only [nat_take.l1]
      rw [if_neg (by omega), u64 (x := q - 1) (by omega) (by omega)]
      simp only [adl, Option.some.injEq, Prod.mk.injEq]
      exact ⟨by omega, rfl⟩
  | cons y s ih =>
    intro j p r c hs hj hp hr hlr hc0 hc1
    cases r with
    | nil => simp at hr
    | cons r0 r =>
      obtain ⟨e1, e2, e3⟩ := rd_drop hs
      have hy : 0 ≤ y ∧ y < 4294967296 := by have := lim_drop hlv j; rw [hs] at this; exact (lim_cons.1 this).1
      obtain ⟨hx, hlr'⟩ := lim_cons.1 hlr
      simp only [List.length_cons] at hj hr
      have h := ih (j + 1) (p ++ [(c + r0 + y) % 4294967296]) r ((c + r0 + y) / 4294967296) e3 (by omega) (by simp; omega) (by omega) hlr' (by omega) (by omega)
      refine Ev.step (f := fun k => nat_take.l1 k ((p ++ [(c + r0 + y) % 4294967296]) ++ (r ++ tl)) v (at_ : Int) q ((c + r0 + y) / 4294967296) ((v.length : Int) + 1) ((j + 1 : Nat) : Int)) (fun k => ?_) (by simpa only [adl, List.append_assoc, List.singleton_append, List.cons_append, List.nil_append] using h)
      simp only [nat_take.l1]
      rw [if_pos (by omega), w64 (x := (at_ : Int) + j) (by omega) (by omega), if_pos (by omega), if_pos (by simp; omega), if_pos (by omega), if_pos (by omega), e1, List.cons_append, rd_app _ _ _ _ (by omega), set_app _ _ _ _ _ (by omega), u64 hx.1 (by omega), u64 hy.1 (by omega), u64 (x := c + r0) (by omega) (by omega), u64 (by omega) (by omega), w64 (by omega) (by omega)]
      simp
theorem take_l0 {v : List Int} (hlv : lim v) (q : Int) (at_ : Nat) (hbig : at_ + v.length < 100000000000000000) (hq : 0 ≤ q ∧ q < 4294967296) (tl : List Int) : ∀ (s : List Int) (j : Nat) (p r : List Int) (c l : Int), v.drop j = s → j + s.length = v.length → p.length = at_ + j → r.length = s.length + 1 → lim r → 0 ≤ c → c < 4294967296 → 0 ≤ l → l ≤ 1 →
    ∀ R : Int × List Int, ((tkl q c l r s).2 = 0 → R = (q, p ++ ((tkl q c l r s).1 ++ tl))) → ((tkl q c l r s).2 = 1 → Ev (fun k => nat_take.l1 k (p ++ ((tkl q c l r s).1 ++ tl)) v (at_ : Int) q 0 ((v.length : Int) + 1) 0) R) →
    Ev (fun k => nat_take.l0 k (p ++ (r ++ tl)) v (at_ : Int) q c l ((v.length : Int) + 1) (j : Int)) R := by
  intro s
  induction s with
  | nil =>
    intro j p r c l hs hj hp hr hlr hc0 hc1 hl0 hl1 R g0 g1
    obtain ⟨x, rfl⟩ : ∃ x, r = [x] := by
      cases r with
      | nil => simp at hr
      | cons x r => cases r with
        | nil => exact ⟨x, rfl⟩
        | cons _ _ => simp at hr
    obtain ⟨hx, _⟩ := lim_cons.1 hlr
    simp only [List.length_nil] at hj
    obtain ⟨d1, d2⟩ := dif64 hx (show 0 ≤ c ∧ c < 4294967296 by omega) hl0 hl1
    simp only [tkl] at g0 g1
    refine Ev.step (f := fun k => nat_take.l0 k (p ++ ((x - c - l) % 4294967296 :: tl)) v (at_ : Int) q (c / 4294967296) (if x - c - l < 0 then 1 else 0) ((v.length : Int) + 1) ((j : Int) + 1)) (fun k => ?_) ?_
    · simp only [nat_take.l0]
      rw [if_pos (by omega), w64 (x := (at_ : Int) + j) (by omega) (by omega), if_neg (by omega), if_pos (by omega), if_pos (by simp; omega), List.singleton_append, rd_app _ _ _ _ (by omega), set_app _ _ _ _ _ (by omega), u64 hx.1 (by omega), and64 (by omega) (by omega), show c % 4294967296 = c by omega, d1, d2, w64 (by omega) (by omega)]
    · by_cases hb : x - c - l < 0
      · rw [if_pos hb] at g0 g1 ⊢
        refine Ev.step (fun k => ?_) (g1 rfl)
        simp only [nat_take.l0]
        rw [if_neg (by omega), if_neg (by omega), w64 (by omega) (by omega)]
        rfl
      · rw [if_neg hb] at g0 g1 ⊢
        refine Ev.step (f := fun _ => some R) (fun k => ?_) (Ev.now _)
        simp only [nat_take.l0]
        rw [if_neg (by omega)]
        simp only [if_true]
        rw [g0 rfl, show q % 4294967296 = q by omega]
        rfl
  | cons y s ih =>
    intro j p r c l hs hj hp hr hlr hc0 hc1 hl0 hl1 R g0 g1
    cases r with
    | nil => simp at hr
    | cons r0 r =>
      obtain ⟨e1, e2, e3⟩ := rd_drop hs
      have hy : 0 ≤ y ∧ y < 4294967296 := by have := lim_drop hlv j; rw [hs] at this; exact (lim_cons.1 this).1
      obtain ⟨hx, hlr'⟩ := lim_cons.1 hlr
      have hm := mul_lim hq hy
      simp only [List.length_cons] at hj hr
      simp only [tkl] at g0 g1
      obtain ⟨d1, d2⟩ := dif64 hx (show 0 ≤ (c + q * y) % 4294967296 ∧ (c + q * y) % 4294967296 < 4294967296 by omega) hl0 hl1
      have h := ih (j + 1) (p ++ [(r0 - (c + q * y) % 4294967296 - l) % 4294967296]) r ((c + q * y) / 4294967296) (if r0 - (c + q * y) % 4294967296 - l < 0 then 1 else 0) e3 (by omega) (by simp; omega) (by omega) hlr' (by omega) (by omega) (by split <;> omega) (by split <;> omega) R
        (fun hz => by rw [g0 hz]; simp) (fun hz => by
          have := g1 hz
          simpa only [List.append_assoc, List.singleton_append, List.cons_append, List.nil_append] using this)
      refine Ev.step (f := fun k => nat_take.l0 k ((p ++ [(r0 - (c + q * y) % 4294967296 - l) % 4294967296]) ++ (r ++ tl)) v (at_ : Int) q ((c + q * y) / 4294967296) (if r0 - (c + q * y) % 4294967296 - l < 0 then 1 else 0) ((v.length : Int) + 1) ((j + 1 : Nat) : Int)) (fun k => ?_) h
      simp only [nat_take.l0]
      rw [if_pos (by omega), w64 (x := (at_ : Int) + j) (by omega) (by omega), if_pos (by omega), if_pos (by omega), if_pos (by omega), if_pos (by simp; omega), e1, List.cons_append, rd_app _ _ _ _ (by omega), set_app _ _ _ _ _ (by omega), u64 hx.1 (by omega), u64 hy.1 (by omega), u64 (x := q * y) (by omega) (by omega), u64 (x := c + q * y) (by omega) (by omega), and64 (by omega) (by omega), d1, d2, w64 (by omega) (by omega)]
      simp
/-- take: the limb that is right, and what is left over, where the guess was right or one too large -/
theorem take_ev {p R tl v : List Int} {q : Nat} (hlv : lim v) (hlR : lim R) (hl : R.length = v.length + 1) (hbig : p.length + v.length < 100000000000000000) (hV : 0 < val v) (hq : q < 4294967296) (h1 : val R / val v ≤ q) (h2 : (q - 1) * val v ≤ val R) :
    ∃ R' : List Int, Ev (fun k => nat_take.f k (p ++ (R ++ tl)) v (p.length : Int) (q : Int)) (((val R / val v : Nat) : Int), p ++ (R' ++ tl)) ∧ lim R' ∧ R'.length = R.length ∧ val R' = val R % val v := by
  obtain ⟨t1, t2, t3, t4⟩ := tkl_val (q := (q : Int)) ⟨by omega, by omega⟩ v R 0 0 hlv hlR hl (by omega) (by omega) (by omega) (by omega)
  have hdm := Nat.div_add_mod (val R) (val v)
  have hml := Nat.mod_lt (val R) hV
  have hlt0 := val_lt t1
  have hvlt := val_lt hlv
  have hf : ∀ X, Ev (fun k => nat_take.l0 k (p ++ (R ++ tl)) v (p.length : Int) (q : Int) 0 0 ((v.length : Int) + 1) ((0 : Nat) : Int)) X → Ev (fun k => nat_take.f k (p ++ (R ++ tl)) v (p.length : Int) (q : Int)) X := fun X h => by
    unfold nat_take.f
    refine Ev.congr (fun k => ?_) h
    rw [w64 (by omega) (by omega)]; rfl
  rcases t3 with hb | hb
  · rw [hb, Int.mul_zero, Int.sub_zero, Int.zero_add, Int.sub_zero] at t4
    have e : val (tkl (q : Int) 0 0 R v).1 + q * val v = val R := by
      have : ((val (tkl (q : Int) 0 0 R v).1 + q * val v : Nat) : Int) = (val R : Int) := by rw [Int.natCast_add, Int.natCast_mul]; omega
      omega
    have hq2 : q ≤ val R / val v := (Nat.le_div_iff_mul_le hV).2 (by omega)
    have hqi : 0 ≤ (q : Int) ∧ (q : Int) < 4294967296 := ⟨by omega, by omega⟩
    obtain rfl : q = val R / val v := by omega
    refine ⟨(tkl ((val R / val v : Nat) : Int) 0 0 R v).1, hf _ (take_l0 hlv _ p.length (by omega) hqi tl v 0 p R 0 0 rfl (by omega) (by omega) hl hlR (by omega) (by omega) (by omega) (by omega) _ (fun _ => rfl) (fun h => by rw [hb] at h; cases h)), t1, t2, ?_⟩
    rw [Nat.mul_comm] at e; omega
  · rw [hb, Int.mul_one, Int.zero_add, Int.sub_zero] at t4
    generalize hT : (tkl (q : Int) 0 0 R v).1 = T at *
    have hpow : ((4294967296 : Int) ^ R.length) = ((4294967296 ^ R.length : Nat) : Int) := by simp
    rw [hpow] at t4
    rw [t2] at hlt0
    have hc : (q : Int) * (val v : Int) = ((q * val v : Nat) : Int) := by rw [Int.natCast_mul]
    rw [hc] at t4
    have hlt : val R < q * val v := by omega
    have hq1 : val R / val v < q := (Nat.div_lt_iff_lt_mul hV).2 hlt
    have hq2 : q - 1 ≤ val R / val v := (Nat.le_div_iff_mul_le hV).2 h2
    have hqe : q = val R / val v + 1 := by omega
    obtain ⟨a1, a2, co, a3, a4, a5⟩ := adl_val v T 0 hlv t1 (by omega) (by omega) (by omega)
    have a6 := val_lt a1
    rw [a2, t2] at a6
    rw [t2, hpow, Int.zero_add] at a5
    have hqv : q * val v = val v * (val R / val v) + val v := by rw [hqe, Nat.add_mul, Nat.one_mul, Nat.mul_comm]
    have hvp : val v < 4294967296 ^ R.length := Nat.lt_of_lt_of_le hvlt (Nat.pow_le_pow_right (by omega) (by omega))
    generalize 4294967296 ^ R.length = BP at *
    have hco : co = 1 := by
      rcases (show co = 0 ∨ co = 1 by omega) with h | h
      · rw [h, Int.mul_zero] at a5; omega
      · exact h
    rw [hco, Int.mul_one] at a5
    refine ⟨adl 0 T v, hf _ (take_l0 hlv _ p.length (by omega) ⟨by omega, by omega⟩ tl v 0 p R 0 0 rfl (by omega) (by omega) hl hlR (by omega) (by omega) (by omega) (by omega) _ (fun h => by rw [hb] at h; cases h) (fun _ => ?_)), a1, by rw [a2, t2], by omega⟩
    rw [hT]
    have h := take_l1 hlv (q : Int) p.length (by omega) ⟨by omega, by omega⟩ tl v 0 p T 0 rfl (by omega) (by omega) (by omega) t1 (by omega) (by omega)
    rw [show ((q : Int) - 1) = ((val R / val v : Nat) : Int) by omega] at h
    exact h
end Go.Proofs.Ytaclkccgjpjdjaa.Nt
