/- The nat functions as they are printed tell the numbers that they should: Mul, small, left, right. -/
import Derived.Test.YtaclkccgjpjdjaaNtA
import Derived.Laws.BitsAllLaws
import Derived.Test.YtaclkccgjpjdjaaNx1
import Derived.Test.YtaclkccgjpjdjaaNx2
import Derived.Test.YtaclkccgjpjdjaaNx3
namespace Go.Proofs.Ytaclkccgjpjdjaa.Nt
open Go.RowKit Go.Proofs.YtaclkccgjpjdjaaW.PrintWords Go.Proofs.YtaclkccgjpjdjaaW.PrintMore Go.Proofs.Ytaclkccgjpjdjaa.N
set_option linter.unusedVariables false
set_option linter.unusedSimpArgs false
/-! ### Mul -/
def macr : Int → Int → List Int → List Int → List Int
  | c, x, r0 :: r, y :: b => (c + (x * y + r0)) % 4294967296 :: macr ((c + (x * y + r0)) / 4294967296) x r b
  | c, _, _, _ => [c % 4294967296]
theorem mul_lim {x y : Int} (hx : 0 ≤ x ∧ x < 4294967296) (hy : 0 ≤ y ∧ y < 4294967296) : 0 ≤ x * y ∧ x * y ≤ 18446744065119617025 := by
  refine ⟨Int.mul_nonneg hx.1 hy.1, ?_⟩
  have := Int.mul_le_mul (a := x) (b := y) (c := 4294967295) (d := 4294967295) (by omega) (by omega) hy.1 (by omega)
  omega
theorem macr_val : ∀ (r b : List Int) (c x : Int), lim r → lim b → 0 ≤ x ∧ x < 4294967296 → 0 ≤ c ∧ c < 4294967296 → r.length = b.length →
    lim (macr c x r b) ∧ (val (macr c x r b) : Int) = c + x * val b + val r ∧ (macr c x r b).length = b.length + 1
  | [], [], c, x, _, _, hx, hc, _ => by
    refine ⟨by intro z hz; simp only [macr, List.mem_singleton] at hz; subst hz; omega, ?_, rfl⟩
    simp only [macr, val_cons, val_nil]; omega
  | [], _ :: _, _, _, _, _, _, _, h => by simp at h
  | _ :: _, [], _, _, _, _, _, _, h => by simp at h
  | r0 :: r, y :: b, c, x, hr, hb, hx, hc, hl => by
    obtain ⟨h0, hr'⟩ := lim_cons.1 hr
    obtain ⟨hy, hb'⟩ := lim_cons.1 hb
    have hm := mul_lim hx hy
    obtain ⟨i1, i2, i3⟩ := macr_val r b ((c + (x * y + r0)) / 4294967296) x hr' hb' hx (by omega) (by simpa using hl)
    refine ⟨?_, ?_, ?_⟩
    · rw [macr, lim_cons]; exact ⟨by omega, i1⟩
    · rw [macr, val_cons, val_cons, val_cons]
      have e : x * (((y.toNat + 4294967296 * val b : Nat)) : Int) = x * y + 4294967296 * (x * (val b : Int)) := by
        rw [show (((y.toNat + 4294967296 * val b : Nat)) : Int) = y + 4294967296 * (val b : Int) by omega, Int.mul_add, Int.mul_left_comm]
      rw [e]; omega
    · rw [macr, List.length_cons, i3, List.length_cons]
def mull : List Int → List Int → List Int → List Int
  | r, [], _ => r
  | r, x :: a, b => match macr 0 x r b with
    | [] => []
    | h :: t => h :: mull t a b
theorem mull_val : ∀ (a r b : List Int), lim a → lim r → lim b → r.length = b.length → lim (mull r a b) ∧ val (mull r a b) = val r + val a * val b
  | [], r, b, _, hr, _, _ => by simp only [mull, val_nil]; exact ⟨hr, by omega⟩
  | x :: a, r, b, ha, hr, hb, hl => by
    obtain ⟨hx, ha'⟩ := lim_cons.1 ha
    obtain ⟨m1, m2, m3⟩ := macr_val r b 0 x hr hb hx (by omega) hl
    simp only [mull]
    split
    · rename_i e; rw [e] at m3; simp at m3
    · rename_i h t e
      rw [e] at m1 m2 m3
      obtain ⟨hh, ht⟩ := lim_cons.1 m1
      obtain ⟨i1, i2⟩ := mull_val a t b ha' ht hb (by simpa using m3)
      refine ⟨lim_cons.2 ⟨hh, i1⟩, ?_⟩
      rw [val_cons, i2, val_cons]
      rw [val_cons] at m2
      have e2 : x * (val b : Int) = ((x.toNat * val b : Nat) : Int) := by rw [Int.natCast_mul]; congr 1; omega
      rw [e2] at m2
      rw [Nat.add_mul, Nat.mul_assoc]
      omega
theorem mul_l1 {b a : List Int} (hb : lim b) (la : Int) (i : Nat) (x : Int) (hx : 0 ≤ x ∧ x < 4294967296) (R : List Int) (hbig : i + b.length < 1000000000000000000) :
    ∀ (s : List Int) (j : Nat) (p r z : List Int) (c : Int), b.drop j = s → j + s.length = b.length → p.length = i + j → r.length = s.length → lim r → 0 ≤ c ∧ c < 4294967296 →
    Ev (fun k => nat_Mul.l0 k b (p ++ (macr c x r s ++ z)) a la ((i : Int) + 1)) R →
    Ev (fun k => nat_Mul.l1 k b (p ++ (r ++ 0 :: z)) (i : Int) x c a la (i : Int) b (b.length : Int) (j : Int)) R := by
  intro s
  induction s with
  | nil =>
    intro j p r z c hs hj hp hr hlr hc h
    obtain rfl : r = [] := List.eq_nil_of_length_eq_zero (by simpa using hr)
    simp only [List.length_nil] at hj
    refine Ev.step (f := fun k => nat_Mul.l0 k b (p ++ (macr c x [] [] ++ z)) a la ((i : Int) + 1)) (fun k => ?_) h
    simp only [nat_Mul.l1]
    rw [if_neg (by omega), w64 (x := (i : Int) + b.length) (by omega) (by omega), if_pos (by omega), if_pos (by simp; omega), List.nil_append, set_app _ _ _ _ _ (by omega), w64 (by omega) (by omega)]
    rfl
  | cons y s ih =>
    intro j p r z c hs hj hp hr hlr hc h
    cases r with
    | nil => simp at hr
    | cons r0 r =>
      obtain ⟨e1, e2, e3⟩ := rd_drop hs
      have hy : 0 ≤ y ∧ y < 4294967296 := by have := lim_drop hb j; rw [hs] at this; exact (lim_cons.1 this).1
      obtain ⟨h0, hlr'⟩ := lim_cons.1 hlr
      have hm := mul_lim hx hy
      simp only [List.length_cons] at hj hr
      have h2 := ih (j + 1) (p ++ [(c + (x * y + r0)) % 4294967296]) r z ((c + (x * y + r0)) / 4294967296) e3 (by omega) (by simp; omega) (by omega) hlr' (by omega) (by simpa only [macr, List.append_assoc, List.singleton_append, List.cons_append, List.nil_append] using h)
      refine Ev.step (f := fun k => nat_Mul.l1 k b ((p ++ [(c + (x * y + r0)) % 4294967296]) ++ (r ++ 0 :: z)) (i : Int) x ((c + (x * y + r0)) / 4294967296) a la (i : Int) b (b.length : Int) ((j + 1 : Nat) : Int)) (fun k => ?_) h2
      simp only [nat_Mul.l1]
      rw [if_pos (by omega), if_pos (by omega), if_pos (by omega), w64 (x := (i : Int) + j) (by omega) (by omega), if_pos (by omega), if_pos (by simp; omega), e1, List.cons_append, rd_app _ _ _ _ (by omega), set_app _ _ _ _ _ (by omega), u64 hx.1 (by omega), u64 hy.1 (by omega), u64 h0.1 (by omega), u64 hm.1 (by omega), u64 (x := x * y + r0) (by omega) (by omega), u64 (by omega) (by omega), w64 (by omega) (by omega)]
      simp
theorem mul_l0 {b a : List Int} (hb : lim b) (ha : lim a) (hbig : a.length + b.length < 100000000000000000) : ∀ (s : List Int) (i : Nat) (p r : List Int), a.drop i = s → i + s.length = a.length → p.length = i → lim p → lim r → r.length = b.length →
    Ev (fun k => nat_Mul.l0 k b (p ++ (r ++ List.replicate s.length 0)) a (a.length : Int) (i : Int)) (ofN (val (p ++ mull r s b))) := by
  intro s
  induction s with
  | nil =>
    intro i p r hs hi hp hlp hlr hr
    simp only [List.length_nil] at hi
    refine Ev.step (f := fun k => nat_cut.f k (p ++ r)) (fun k => ?_) ?_
    · simp only [nat_Mul.l0]; rw [if_neg (by omega)]; simp
    · exact cut_ev (lim_append.2 ⟨hlp, hlr⟩) (by simp; omega)
  | cons x s ih =>
    intro i p r hs hi hp hlp hlr hr
    obtain ⟨e1, e2, e3⟩ := rd_drop hs
    have hx : 0 ≤ x ∧ x < 4294967296 := by have := lim_drop ha i; rw [hs] at this; exact (lim_cons.1 this).1
    simp only [List.length_cons] at hi
    obtain ⟨m1, m2, m3⟩ := macr_val r b 0 x hlr hb hx (by omega) hr
    cases hm : macr 0 x r b with
    | nil => rw [hm] at m3; simp at m3
    | cons h t =>
      rw [hm] at m1 m3
      obtain ⟨hh, ht⟩ := lim_cons.1 m1
      have h1 := ih (i + 1) (p ++ [h]) t e3 (by omega) (by simp; omega) (lim_append.2 ⟨hlp, by intro z hz; simp at hz; subst hz; exact hh⟩) ht (by simpa using m3)
      have h2 := mul_l1 (a := a) hb (a.length : Int) i x hx (ofN (val (p ++ mull r (x :: s) b))) (by omega) b 0 p r (List.replicate s.length 0) 0 rfl (by omega) (by omega) hr hlr (by omega) (by
        simp only [mull]; rw [hm]
        simpa using h1)
      refine Ev.step (f := fun k => nat_Mul.l1 k b (p ++ (r ++ 0 :: List.replicate s.length 0)) (i : Int) x 0 a (a.length : Int) (i : Int) b (b.length : Int) ((0 : Nat) : Int)) (fun k => ?_) h2
      simp only [nat_Mul.l0]
      rw [if_pos (by omega), if_pos (by omega), if_pos (by omega), e1]
      rfl
theorem mul_ev {a b : List Int} (ha : lim a) (hb : lim b) (hl : a.length + b.length < 35184372088800) : Ev (fun k => nat_Mul.f k a b) (ofN (val a * val b)) := by
  have h := mul_l0 hb ha (by omega) a 0 [] (List.replicate b.length 0) rfl (by simp) rfl lim_nil (by intro z hz; rw [List.mem_replicate] at hz; obtain ⟨_, rfl⟩ := hz; omega) (by simp)
  obtain ⟨_, m2⟩ := mull_val a (List.replicate b.length 0) b ha (by intro z hz; rw [List.mem_replicate] at hz; obtain ⟨_, rfl⟩ := hz; omega) hb (by simp)
  rw [val_replicate_zero, Nat.zero_add] at m2
  simp only [List.nil_append] at h
  rw [m2] at h
  unfold nat_Mul.f
  refine Ev.congr (fun k => ?_) h
  rw [w64 (by omega) (by omega), if_pos (by omega), if_pos (by omega)]
  rw [List.replicate_append_replicate, show ((a.length : Int) + (b.length : Int)).toNat = b.length + a.length by omega]
  rfl
/-! ### small -/
theorem or64 {a b : Int} (k : Nat) (ha : 0 ≤ a) (hb : 0 ≤ b) (hbk : b < 2 ^ k) (h : a * 2 ^ k + b < 18446744073709551616) : Go.bits .or .u64 (a * 2 ^ k) b = a * 2 ^ k + b := by
  have hp : (0 : Int) < 2 ^ k := Int.pow_pos (by omega)
  have h1 : 0 ≤ a * 2 ^ k := Int.mul_nonneg ha (by omega)
  rw [u64_or _ _ h1 (by omega) hb (by omega)]
  obtain ⟨m, rfl⟩ := Int.eq_ofNat_of_zero_le ha
  obtain ⟨n, rfl⟩ := Int.eq_ofNat_of_zero_le hb
  have e : ((m : Int) * 2 ^ k) = ((2 ^ k * m : Nat) : Int) := by rw [Int.natCast_mul, Int.mul_comm]; simp
  have hn : n < 2 ^ k := by
    have : ((2 : Int) ^ k) = ((2 ^ k : Nat) : Int) := by simp
    omega
  rw [e, Int.toNat_natCast, Int.toNat_natCast, ← Nat.two_pow_add_eq_or_of_lt hn]
  omega
theorem or64' {a b : Int} (ha : 0 ≤ a) (ha2 : a < 4294967296) (hb : 0 ≤ b) (hbk : b < 4294967296) : Go.bits .or .u64 (a * 4294967296) b = a * 4294967296 + b := by
  have h := or64 (a := a) (b := b) 32 ha hb (by simpa using hbk) (by rw [show (2 : Int) ^ 32 = 4294967296 by decide]; omega)
  rwa [show (2 : Int) ^ 32 = 4294967296 by decide] at h
def smr (b : Int) : Int → List Int → List Int × Int
  | rest, [] => ([], rest)
  | rest, x :: ps => ((smr b ((rest * 4294967296 + x) % b) ps).1 ++ [(rest * 4294967296 + x) / b], (smr b ((rest * 4294967296 + x) % b) ps).2)
theorem smr_div {rest x b : Int} (h0 : 0 ≤ rest) (hr : rest < b) (hb : b < 4294967296) (hx : 0 ≤ x ∧ x < 4294967296) : 0 ≤ (rest * 4294967296 + x) / b ∧ (rest * 4294967296 + x) / b < 4294967296 ∧ 0 ≤ (rest * 4294967296 + x) % b ∧ (rest * 4294967296 + x) % b < b := by
  have hb0 : 0 < b := by omega
  refine ⟨Int.ediv_nonneg (by omega) (by omega), ?_, Int.emod_nonneg _ (by omega), Int.emod_lt_of_pos _ hb0⟩
  apply Int.ediv_lt_of_lt_mul hb0
  omega
theorem smr_val {b : Int} (hb : b < 4294967296) : ∀ (ps : List Int) (rest : Int), lim ps → 0 ≤ rest → rest < b →
    lim (smr b rest ps).1 ∧ (smr b rest ps).1.length = ps.length ∧ 0 ≤ (smr b rest ps).2 ∧ (smr b rest ps).2 < b ∧ (val (smr b rest ps).1 : Int) * b + (smr b rest ps).2 = rest * 4294967296 ^ ps.length + val ps.reverse
  | [], rest, _, h0, h1 => ⟨lim_nil, rfl, h0, h1, by simp [smr, val_nil]⟩
  | x :: ps, rest, hp, h0, h1 => by
    obtain ⟨hx, hp'⟩ := lim_cons.1 hp
    obtain ⟨d1, d2, d3, d4⟩ := smr_div h0 h1 hb hx
    obtain ⟨i1, i2, i3, i4, i5⟩ := smr_val hb ps ((rest * 4294967296 + x) % b) hp' d3 d4
    simp only [smr]
    refine ⟨lim_append.2 ⟨i1, by intro z hz; simp at hz; subst hz; omega⟩, by simp [i2], i3, i4, ?_⟩
    rw [val_append, i2, List.reverse_cons, val_append, List.length_reverse, List.length_cons]
    have e := Int.mul_ediv_add_emod (rest * 4294967296 + x) b
    generalize (rest * 4294967296 + x) / b = q at *
    generalize (rest * 4294967296 + x) % b = m at *
    simp only [val_cons, val_nil, Nat.mul_zero, Nat.add_zero, Int.natCast_add, Int.natCast_mul, Int.natCast_pow, Int.toNat_of_nonneg d1, Int.toNat_of_nonneg hx.1]
    have ec : ((4294967296 : Nat) : Int) = 4294967296 := rfl
    rw [ec, Int.pow_succ]
    generalize (4294967296 : Int) ^ ps.length = P at *
    generalize (val (smr b m ps).1 : Int) = Q at *
    generalize (smr b m ps).2 = R at *
    generalize (val ps.reverse : Int) = V at *
    clear i1 i2 i3 i4 hp hp' ec d1 d2 d3 d4 h0 h1 hx hb
    grind
theorem small_l0 {a : List Int} {b : Int} (ha : lim a) (hb0 : 0 < b) (hb : b < 4294967296) (hl : a.length < 35184372088800) : ∀ (ps s d : List Int) (rest : Int), a = ps.reverse ++ s → lim d → ps.length + d.length = a.length → 0 ≤ rest → rest < b →
    Ev (fun k => nat_small.l0 k a b (List.replicate ps.length 0 ++ d) rest ((ps.length : Int) - 1)) (ofN (val ((smr b rest ps).1 ++ d)), (smr b rest ps).2) := by
  intro ps
  induction ps with
  | nil =>
    intro s d rest has hd hdl h0 h1
    simp only [List.length_nil] at hdl
    have hc := cut_ev (a := d) hd (by omega)
    refine Ev.step (f := fun k => (nat_cut.f k d).bind fun t => some (t, rest)) (fun k => ?_) (Ev.bind hc (Ev.now _))
    simp only [nat_small.l0]; rw [if_neg (by simp), show rest % 4294967296 = rest by omega]; rfl
  | cons x ps ih =>
    intro s d rest has hd hdl h0 h1
    have hlp : lim (x :: ps) := by
      have := (lim_append.1 (has ▸ ha)).1
      intro z hz; exact this z (by rw [List.mem_reverse]; exact hz)
    obtain ⟨hx, hlps⟩ := lim_cons.1 hlp
    obtain ⟨d1, d2, d3, d4⟩ := smr_div h0 h1 hb hx
    simp only [List.length_cons] at hdl
    have h := ih ([x] ++ s) (((rest * 4294967296 + x) / b) :: d) ((rest * 4294967296 + x) % b) (by rw [has]; simp) (lim_cons.2 ⟨⟨d1, d2⟩, hd⟩) (by simp; omega) d3 d4
    have er : rd a (ps.length : Int) = x := by rw [has, List.reverse_cons, List.append_assoc]; exact rd_app _ _ _ _ (by simp)
    refine Ev.step (f := fun k => nat_small.l0 k a b (List.replicate ps.length 0 ++ ((rest * 4294967296 + x) / b) :: d) ((rest * 4294967296 + x) % b) ((ps.length : Int) - 1)) (fun k => ?_) (by simpa only [smr, List.append_assoc, List.singleton_append] using h)
    simp only [nat_small.l0, List.length_cons]
    have ei : ((ps.length + 1 : Nat) : Int) - 1 = (ps.length : Int) := by omega
    rw [ei, if_pos (by omega), if_pos (by omega), if_pos (by omega), u64 (x := b) (by omega) (by omega), if_neg (by omega), if_pos (by simp; omega), er, u64 (x := rest * 4294967296) (by omega) (by omega), u64 (x := x) (by omega) (by omega), or64' h0 (by omega) hx.1 hx.2,
      Int.tdiv_eq_ediv_of_nonneg (by omega), Int.tmod_eq_emod_of_nonneg (by omega), u64 d1 (by omega), show (rest * 4294967296 + x) / b % 4294967296 = (rest * 4294967296 + x) / b by omega, w64 (by omega) (by omega)]
    rw [show List.replicate (ps.length + 1) (0 : Int) ++ d = List.replicate ps.length 0 ++ 0 :: d by rw [List.replicate_succ']; simp, set_app _ _ _ _ _ (by simp)]
theorem small_ev {a : List Int} {b : Int} (ha : lim a) (hb0 : 0 < b) (hb : b < 4294967296) (hl : a.length < 35184372088800) : Ev (fun k => nat_small.f k a b) (ofN (val a / b.toNat), ((val a % b.toNat : Nat) : Int)) := by
  have hr : lim a.reverse := fun z hz => ha z (by simpa using hz)
  have h := small_l0 ha hb0 hb hl a.reverse [] [] 0 (by simp) lim_nil (by simp) (by omega) hb0
  obtain ⟨i1, i2, i3, i4, i5⟩ := smr_val hb a.reverse 0 hr (by omega) hb0
  simp only [List.append_nil, List.length_reverse] at h
  rw [List.reverse_reverse, Int.zero_mul, Int.zero_add] at i5
  generalize (smr b 0 a.reverse).1 = Q at *
  generalize (smr b 0 a.reverse).2 = m at *
  obtain ⟨n, rfl⟩ := Int.eq_ofNat_of_zero_le (show 0 ≤ b by omega)
  obtain ⟨r, rfl⟩ := Int.eq_ofNat_of_zero_le i3
  have e : val Q * n + r = val a := by
    have : ((val Q * n + r : Nat) : Int) = (val a : Int) := by rw [Int.natCast_add, Int.natCast_mul]; exact i5
    omega
  have hq : val a / n = val Q := by rw [← e, Nat.mul_comm, Nat.mul_add_div (by omega), Nat.div_eq_of_lt (by omega)]; omega
  have hm : val a % n = r := by rw [← e, Nat.mul_comm, Nat.mul_add_mod, Nat.mod_eq_of_lt (by omega)]
  rw [Int.toNat_natCast, hq, hm]
  unfold nat_small.f
  refine Ev.congr (fun k => ?_) h
  rw [if_pos (by omega), if_pos (by omega), w64 (by omega) (by omega), Int.toNat_natCast]
/-! ### left -/
def leftl (D : Int) : Int → List Int → List Int
  | c, [] => [c % 4294967296]
  | c, x :: a => (x * D + c) % 4294967296 :: leftl D ((x * D + c) / 4294967296) a
theorem leftl_val {D : Int} (hD : 0 < D) (hD2 : D ≤ 4294967296) : ∀ (a : List Int) (c : Int), lim a → 0 ≤ c → c < D → lim (leftl D c a) ∧ (val (leftl D c a) : Int) = c + val a * D ∧ (leftl D c a).length = a.length + 1
  | [], c, _, h0, h1 => by
    refine ⟨by intro z hz; simp only [leftl, List.mem_singleton] at hz; subst hz; omega, ?_, rfl⟩
    simp only [leftl, val_cons, val_nil]; omega
  | x :: a, c, ha, h0, h1 => by
    obtain ⟨hx, ha'⟩ := lim_cons.1 ha
    have p0 : 0 ≤ x * D := Int.mul_nonneg hx.1 (by omega)
    have p1 : x * D ≤ 4294967295 * D := Int.mul_le_mul_of_nonneg_right (by omega) (by omega)
    obtain ⟨i1, i2, i3⟩ := leftl_val hD hD2 a ((x * D + c) / 4294967296) ha' (by omega) (by omega)
    refine ⟨?_, ?_, ?_⟩
    · rw [leftl, lim_cons]; exact ⟨by omega, i1⟩
    · rw [leftl, val_cons, val_cons]
      have e : (((x.toNat + 4294967296 * val a : Nat)) : Int) * D = x * D + 4294967296 * (val a * D) := by
        rw [show (((x.toNat + 4294967296 * val a : Nat)) : Int) = x + 4294967296 * (val a : Int) by omega, Int.add_mul, Int.mul_assoc]
      rw [e]; omega
    · rw [leftl, List.length_cons, i3, List.length_cons]
theorem pow31 {by_ : Int} (h0 : 0 ≤ by_) (h1 : by_ ≤ 31) : (0 : Int) < 2 ^ by_.toNat ∧ (2 : Int) ^ by_.toNat ≤ 2147483648 := by
  refine ⟨Int.pow_pos (by omega), ?_⟩
  have : (2 : Nat) ^ by_.toNat ≤ 2 ^ 31 := Nat.pow_le_pow_right (by omega) (by omega)
  have e : ((2 : Int) ^ by_.toNat) = ((2 ^ by_.toNat : Nat) : Int) := by simp
  omega
theorem left_l0 {a : List Int} {by_ : Int} (ha : lim a) (h0 : 0 ≤ by_) (h1 : by_ ≤ 31) (hl : a.length < 35184372088800) : ∀ (s : List Int) (i : Nat) (out : List Int) (c : Int), a.drop i = s → i + s.length = a.length → out.length = i → 0 ≤ c → c < 2 ^ by_.toNat →
    Ev (fun k => nat_left.l0 k by_ out c a (a.length : Int) (i : Int)) (out ++ leftl (2 ^ by_.toNat) c s) := by
  obtain ⟨hD, hD2⟩ := pow31 h0 h1
  intro s
  induction s with
  | nil =>
    intro i out c hs hi ho hc0 hc1
    simp only [List.length_nil] at hi
    refine Ev.step (f := fun _ => some (out ++ [c % 4294967296])) (fun k => ?_) (Ev.now _)
    simp only [nat_left.l0]; rw [if_neg (by omega), if_pos (by omega)]
  | cons x s ih =>
    intro i out c hs hi ho hc0 hc1
    obtain ⟨e1, e2, e3⟩ := rd_drop hs
    have hx : 0 ≤ x ∧ x < 4294967296 := by have := lim_drop ha i; rw [hs] at this; exact (lim_cons.1 this).1
    simp only [List.length_cons] at hi
    have p0 : 0 ≤ x * 2 ^ by_.toNat := Int.mul_nonneg hx.1 (by omega)
    have p1 : x * 2 ^ by_.toNat ≤ 4294967295 * 2 ^ by_.toNat := Int.mul_le_mul_of_nonneg_right (by omega) (by omega)
    have h := ih (i + 1) (out ++ [(x * 2 ^ by_.toNat + c) % 4294967296]) ((x * 2 ^ by_.toNat + c) / 4294967296) e3 (by omega) (by simp; omega) (by omega) (by omega)
    refine Ev.step (f := fun k => nat_left.l0 k by_ (out ++ [(x * 2 ^ by_.toNat + c) % 4294967296]) ((x * 2 ^ by_.toNat + c) / 4294967296) a (a.length : Int) ((i + 1 : Nat) : Int)) (fun k => ?_) (by simpa only [leftl, List.append_assoc, List.singleton_append] using h)
    have es : shl .u64 (IntKind.u64.wrap x) by_ = x * 2 ^ by_.toNat := by
      unfold shl
      rw [u64 hx.1 (by omega), show min by_.toNat IntKind.u64.bits = by_.toNat from Nat.min_eq_left (by show by_.toNat ≤ 64; omega), u64 p0 (by omega)]
    have eo : Go.bits .or .u64 c (x * 2 ^ by_.toNat) = x * 2 ^ by_.toNat + c := by
      rw [← or64 by_.toNat hx.1 hc0 hc1 (by omega), u64_or _ _ hc0 (by omega) p0 (by omega), u64_or _ _ p0 (by omega) hc0 (by omega), Nat.or_comm]
    simp only [nat_left.l0]
    rw [if_pos (by omega), if_pos (by omega), if_pos (by omega), if_pos (by omega), if_pos (by omega), e1, es, eo, w64 (by omega) (by omega)]
    rfl
theorem left_ev {a : List Int} {by_ : Int} (ha : lim a) (h0 : 0 ≤ by_) (h1 : by_ ≤ 31) (hl : a.length < 35184372088800) : Ev (fun k => nat_left.f k a by_) (leftl (2 ^ by_.toNat) 0 a) := by
  have h := left_l0 ha h0 h1 hl a 0 [] 0 rfl (by simp) rfl (by omega) (pow31 h0 h1).1
  unfold nat_left.f
  refine Ev.congr (fun k => ?_) h
  rw [if_pos (by omega)]; rfl
/-! ### right -/
def rightl (D : Int) : List Int → List Int
  | [] => []
  | [x] => [x / D % 4294967296]
  | x :: y :: a => (y * 4294967296 + x) / D % 4294967296 :: rightl D (y :: a)
theorem right_step {x y va D M : Nat} (hM : D * M = 4294967296) (hx : x < 4294967296) : (x + 4294967296 * (y + 4294967296 * va)) / D = (y * 4294967296 + x) / D % 4294967296 + 4294967296 * ((y + 4294967296 * va) / D) := by
  have hD : 0 < D := Nat.pos_of_ne_zero (fun e => by subst e; simp at hM)
  have hM0 : 0 < M := Nat.pos_of_ne_zero (fun e => by subst e; simp at hM)
  have g : ∀ u v : Nat, (u + 4294967296 * v) / D = u / D + M * v := fun u v => by
    rw [← hM, Nat.mul_assoc, Nat.add_mul_div_left _ _ hD]
  rw [g, g, Nat.add_comm (y * 4294967296) x, Nat.mul_comm y, g]
  have hxd : x / D < M := by rw [Nat.div_lt_iff_lt_mul hD]; rw [Nat.mul_comm]; omega
  have h1 : (x / D + M * y) / 4294967296 = y / D := by
    rw [← hM, Nat.mul_comm D M, ← Nat.div_div_eq_div_mul, Nat.add_mul_div_left _ _ hM0, Nat.div_eq_of_lt hxd, Nat.zero_add]
  have h2 := Nat.div_add_mod (x / D + M * y) 4294967296
  rw [h1] at h2
  have h3 : M * (y + 4294967296 * va) = M * y + 4294967296 * (M * va) := by rw [Nat.mul_add, Nat.mul_left_comm]
  rw [h3, Nat.mul_add]
  omega
theorem rightl_val {D M : Nat} (hM : D * M = 4294967296) : ∀ (a : List Int), lim a → lim (rightl D a) ∧ val (rightl D a) = val a / D ∧ (rightl D a).length = a.length
  | [], _ => by simp [rightl, val_nil, lim_nil]
  | [x], ha => by
    obtain ⟨hx, _⟩ := lim_cons.1 ha
    refine ⟨by intro z hz; simp only [rightl, List.mem_singleton] at hz; subst hz; omega, ?_, rfl⟩
    simp only [rightl, val_cons, val_nil]
    obtain ⟨n, rfl⟩ := Int.eq_ofNat_of_zero_le hx.1
    have : n / D ≤ n := Nat.div_le_self _ _
    simp only [Int.toNat_natCast, Nat.mul_zero, Nat.add_zero, ← Int.natCast_ediv]
    generalize n / D = q at *
    omega
  | x :: y :: a, ha => by
    obtain ⟨hx, ha'⟩ := lim_cons.1 ha
    obtain ⟨hy, ha''⟩ := lim_cons.1 ha'
    obtain ⟨i1, i2, i3⟩ := rightl_val hM (y :: a) ha'
    refine ⟨?_, ?_, ?_⟩
    · rw [rightl, lim_cons]; exact ⟨by omega, i1⟩
    · rw [rightl, val_cons, i2]
      simp only [val_cons]
      obtain ⟨n, rfl⟩ := Int.eq_ofNat_of_zero_le hx.1
      obtain ⟨m, rfl⟩ := Int.eq_ofNat_of_zero_le hy.1
      rw [Int.toNat_natCast, Int.toNat_natCast, right_step hM (by omega)]
      have e : ((m : Int) * 4294967296 + (n : Int)) = ((m * 4294967296 + n : Nat) : Int) := by omega
      rw [e, ← Int.natCast_ediv]
      generalize (m * 4294967296 + n) / D = q
      generalize (m + 4294967296 * val a) / D = q2
      omega
    · rw [rightl, List.length_cons, i3]; rfl
theorem right_l0 {a : List Int} {by_ : Int} (ha : lim a) (h0 : 0 ≤ by_) (h1 : by_ ≤ 31) (hl : a.length < 35184372088800) : ∀ (s : List Int) (i : Nat) (p : List Int), a.drop i = s → i + s.length = a.length → p.length = i → lim p →
    Ev (fun k => nat_right.l0 k a by_ (p ++ List.replicate s.length 0) a (a.length : Int) (i : Int)) (ofN (val (p ++ rightl (2 ^ by_.toNat) s))) := by
  obtain ⟨hD, hD2⟩ := pow31 h0 h1
  intro s
  induction s with
  | nil =>
    intro i p hs hi hp hlp
    simp only [List.length_nil] at hi
    refine Ev.step (f := fun k => nat_cut.f k p) (fun k => ?_) (by simpa only [rightl, List.append_nil] using cut_ev hlp (by omega))
    simp only [nat_right.l0]; rw [if_neg (by omega)]; simp
  | cons x s ih =>
    intro i p hs hi hp hlp
    obtain ⟨e1, e2, e3⟩ := rd_drop hs
    have hxs := lim_drop ha i
    rw [hs] at hxs
    obtain ⟨hx, hls⟩ := lim_cons.1 hxs
    simp only [List.length_cons] at hi
    have eshr : ∀ z : Int, shr .u64 z by_ = z / 2 ^ by_.toNat := fun z => by
      unfold shr; rw [show min by_.toNat IntKind.u64.bits = by_.toNat from Nat.min_eq_left (by show by_.toNat ≤ 64; omega)]
    cases s with
    | nil =>
      simp only [List.length_nil] at hi
      have h := ih (i + 1) (p ++ [x / 2 ^ by_.toNat % 4294967296]) e3 (by simp; omega) (by simp; omega) (lim_append.2 ⟨hlp, by intro z hz; simp at hz; subst hz; omega⟩)
      refine Ev.step (f := fun k => nat_right.l0 k a by_ ((p ++ [x / 2 ^ by_.toNat % 4294967296]) ++ List.replicate ([] : List Int).length 0) a (a.length : Int) ((i + 1 : Nat) : Int)) (fun k => ?_) (by simpa only [rightl, List.append_nil] using h)
      simp only [nat_right.l0]
      rw [if_pos (by omega), if_pos (by omega), if_pos (by omega), w64 (x := (i : Int) + 1) (by omega) (by omega), if_neg (by omega), if_pos (by omega), if_pos (by simp; omega), e1, u64 hx.1 (by omega), eshr, show List.replicate [x].length (0 : Int) = 0 :: [] from rfl, set_app _ _ _ _ _ (by omega)]
      simp
    | cons y s =>
      obtain ⟨f1, f2, f3⟩ := rd_drop e3
      obtain ⟨hy, _⟩ := lim_cons.1 hls
      simp only [List.length_cons] at hi
      have h := ih (i + 1) (p ++ [(y * 4294967296 + x) / 2 ^ by_.toNat % 4294967296]) e3 (by simp; omega) (by simp; omega) (lim_append.2 ⟨hlp, by intro z hz; simp at hz; subst hz; omega⟩)
      refine Ev.step (f := fun k => nat_right.l0 k a by_ ((p ++ [(y * 4294967296 + x) / 2 ^ by_.toNat % 4294967296]) ++ List.replicate (y :: s).length 0) a (a.length : Int) ((i + 1 : Nat) : Int)) (fun k => ?_) (by simpa only [rightl, List.append_assoc, List.singleton_append] using h)
      have eo : Go.bits .or .u64 x (y * 4294967296) = y * 4294967296 + x := by
        rw [← or64' hy.1 hy.2 hx.1 hx.2, u64_or _ _ hx.1 (by omega) (by omega) (by omega), u64_or _ _ (by omega) (by omega) hx.1 (by omega), Nat.or_comm]
      simp only [nat_right.l0]
      rw [if_pos (by omega), if_pos (by omega), if_pos (by omega), w64 (x := (i : Int) + 1) (by omega) (by omega), if_pos (by omega), if_pos (by omega), if_pos (by omega), if_pos (by simp; omega), e1]
      have f1' : rd a ((i : Int) + 1) = y := f1
      rw [f1', u64 hx.1 (by omega), u64 hy.1 (by omega), u64 (x := y * 4294967296) (by omega) (by omega), eo, eshr, show List.replicate (x :: y :: s).length (0 : Int) = 0 :: List.replicate (y :: s).length 0 from rfl, set_app _ _ _ _ _ (by omega)]
      simp
theorem right_ev {a : List Int} {by_ : Int} (ha : lim a) (h0 : 0 ≤ by_) (h1 : by_ ≤ 31) (hl : a.length < 35184372088800) : Ev (fun k => nat_right.f k a by_) (ofN (val a / 2 ^ by_.toNat)) := by
  have h := right_l0 ha h0 h1 hl a 0 [] rfl (by simp) rfl lim_nil
  have hM : 2 ^ by_.toNat * 2 ^ (32 - by_.toNat) = 4294967296 := by rw [← Nat.pow_add, show by_.toNat + (32 - by_.toNat) = 32 by omega]
  obtain ⟨_, i2, _⟩ := rightl_val hM a ha
  have e : (((2 ^ by_.toNat : Nat)) : Int) = 2 ^ by_.toNat := by simp
  rw [e] at i2
  simp only [List.nil_append] at h
  rw [i2] at h
  unfold nat_right.f
  refine Ev.congr (fun k => ?_) h
  rw [if_pos (by omega), if_pos (by omega), Int.toNat_natCast]; rfl
end Go.Proofs.Ytaclkccgjpjdjaa.Nt
