/- The nat functions as they are printed tell the numbers that they should: Print. -/
import Derived.Test.YtaclkccgjpjdjaaNtB
import Derived.Test.YtaclkccgjpjdjaaNx7
namespace Go.Proofs.Ytaclkccgjpjdjaa.Nt
open Go.RowKit Go.Proofs.YtaclkccgjpjdjaaW.PrintWords Go.Proofs.YtaclkccgjpjdjaaW.PrintMore Go.Proofs.Ytaclkccgjpjdjaa.N
set_option linter.unusedVariables false
set_option linter.unusedSimpArgs false
/-- a number's digits, the least first; none for nought -/
def lowF : Nat → Nat → List Int
  | 0, _ => []
  | k + 1, n => if n = 0 then [] else (48 + ((n % 10 : Nat) : Int)) :: lowF k (n / 10)
def low (n : Nat) : List Int := lowF n n
theorem lowF_eq : ∀ (k m n : Nat), n ≤ k → n ≤ m → lowF k n = lowF m n
  | 0, m, n, h, _ => by obtain rfl : n = 0 := by omega
                        cases m <;> simp [lowF]
  | k + 1, 0, n, _, h => by obtain rfl : n = 0 := by omega
                            simp [lowF]
  | k + 1, m + 1, n, h, h' => by
    by_cases e : n = 0
    · subst e; simp [lowF]
    · simp only [lowF, if_neg e]; rw [lowF_eq k m (n / 10) (by omega) (by omega)]
theorem low_zero : low 0 = [] := rfl
theorem low_pos {n : Nat} (h : n ≠ 0) : low n = (48 + ((n % 10 : Nat) : Int)) :: low (n / 10) := by
  unfold low
  obtain ⟨k, rfl⟩ : ∃ k, n = k + 1 := ⟨n - 1, by omega⟩
  simp only [lowF, if_neg h]
  rw [lowF_eq k ((k + 1) / 10) _ (by omega) (by omega)]
theorem low_len : ∀ (k n : Nat), n < 10 ^ k → (low n).length ≤ k
  | 0, n, h => by obtain rfl : n = 0 := by simpa using h
                  exact Nat.le_refl _
  | k + 1, n, h => by
    by_cases e : n = 0
    · subst e; exact Nat.zero_le _
    · rw [low_pos e, List.length_cons]
      have := low_len k (n / 10) (by rw [Nat.pow_succ] at h; omega)
      omega
theorem low_ofN (n : Nat) : (low n).length ≤ 10 * (ofN n).length := by
  apply low_len
  have h := lt_len_ofN n
  have h2 : 4294967296 ^ (ofN n).length ≤ 10 ^ (10 * (ofN n).length) := by
    rw [Nat.pow_mul]; exact Nat.pow_le_pow_left (by decide) _
  omega
theorem low_nil {n : Nat} : low n = [] ↔ n = 0 := by
  constructor
  · intro h
    by_cases e : n = 0
    · exact e
    · rw [low_pos e] at h; cases h
  · rintro rfl; rfl
/-- what is told of digits that were pushed, the least first -/
def told (out : List Int) : ByteArray := if out = [] then ⟨#[48]⟩ else strOfNums out.reverse
/-- a number's text -/
def text (n : Nat) : ByteArray := told (low n)
theorem rev_l0 : ∀ (d : Nat) (m p s : List Int), m.length ≤ d → p.length + m.length + s.length < 4000000000000000000 →
    Ev (fun k => slices_Reverse_byte_byte.l0 k (p ++ (m ++ s)) (p.length : Int) ((p.length : Int) + (m.length : Int) - 1)) (p ++ (m.reverse ++ s)) := by
  intro d
  induction d using Nat.strongRecOn with
  | _ d ih =>
    intro m p s hd hb
    cases m with
    | nil =>
      refine Ev.step (f := fun _ => some (p ++ ([] ++ s))) (fun k => ?_) (by simpa using Ev.now _)
      simp only [slices_Reverse_byte_byte.l0]; rw [if_neg (by simp; omega)]
    | cons x m =>
      rcases Nat.eq_zero_or_pos m.length with h0 | h0
      · obtain rfl : m = [] := List.eq_nil_of_length_eq_zero h0
        refine Ev.step (f := fun _ => some (p ++ ([x] ++ s))) (fun k => ?_) (by simpa using Ev.now _)
        simp only [slices_Reverse_byte_byte.l0]; rw [if_neg (by simp)]
      · obtain ⟨m, y, rfl⟩ : ∃ m' y, m = m' ++ [y] := ⟨m.dropLast, m.getLast (by intro e; rw [e] at h0; simp at h0), (List.dropLast_concat_getLast _).symm⟩
        simp only [List.length_cons, List.length_append, List.length_nil] at hd hb h0 ⊢
        have h := ih m.length (by omega) m (p ++ [y]) (x :: s) (Nat.le_refl _) (by simp; omega)
        have e1 : rd (p ++ (x :: (m ++ [y]) ++ s)) (p.length : Int) = x := rd_app _ _ _ _ rfl
        have e2 : rd (p ++ (x :: (m ++ [y]) ++ s)) ((p.length : Int) + ((m.length + (0 + 1) + 1 : Nat) : Int) - 1) = y := by
          rw [show p ++ (x :: (m ++ [y]) ++ s) = (p ++ x :: m) ++ y :: s by simp]; exact rd_app _ _ _ _ (by simp; omega)
        refine Ev.step (f := fun k => slices_Reverse_byte_byte.l0 k ((p ++ [y]) ++ (m ++ (x :: s))) ((p ++ [y]).length : Int) (((p ++ [y]).length : Int) + (m.length : Int) - 1)) (fun k => ?_) (by simpa using h)
        simp only [slices_Reverse_byte_byte.l0]
        rw [if_pos (by omega), if_pos (by omega), if_pos (by simp; omega), if_pos (by omega), if_pos (by simp; omega), e1, e2, w64 (by omega) (by omega), w64 (by omega) (by omega),
          show (p ++ (x :: (m ++ [y]) ++ s)).set (p.length : Int).toNat y = p ++ y :: (m ++ [y] ++ s) from set_app _ _ _ _ _ rfl,
          show p ++ y :: (m ++ [y] ++ s) = (p ++ y :: m) ++ y :: s by simp, set_app _ _ _ _ _ (by simp; omega)]
        congr 1
        · simp
        · simp
        · simp; omega
theorem rev_ev {m : List Int} (h : m.length < 4000000000000000000) : Ev (fun k => slices_Reverse_byte_byte.f k m) m.reverse := by
  have h1 := rev_l0 m.length m [] [] (Nat.le_refl _) (by simpa using h)
  unfold slices_Reverse_byte_byte.f
  refine Ev.congr (fun k => ?_) (by simpa using h1)
  rw [w64 (by omega) (by omega)]
theorem print_l (N : Nat) : ∀ n : Nat, n ≤ N → (ofN n).length < 35184372088800 → ∀ out : List Int, out.length + (low n).length < 140737488355328 → Ev (fun k => nat_Print.l0 k (ofN n) out) (told (out ++ low n)) := by
  induction N with
  | zero =>
    intro n hn _ out ho
    obtain rfl : n = 0 := by omega
    rw [low_zero, List.append_nil]
    unfold told
    by_cases e : out = []
    · subst e
      refine Ev.step (f := fun _ => some (⟨#[48]⟩ : ByteArray)) (fun k => ?_) (by rw [if_pos rfl]; exact Ev.now _)
      simp only [nat_Print.l0]; rw [if_neg (by simp [ofN_zero]), if_pos (by simp)]
    · have hl : (out.length : Int) ≠ 0 := by have := List.length_pos_iff.2 e; omega
      refine Ev.step (f := fun k => (slices_Reverse_byte_byte.f k out).bind fun t => some (strOfNums t)) (fun k => ?_) (by rw [if_neg e]; exact Ev.bind (rev_ev (by rw [low_zero] at ho; simp at ho; omega)) (Ev.now _))
      simp only [nat_Print.l0]; rw [if_neg (by simp [ofN_zero]), if_neg hl]
  | succ N ih =>
    intro n hn hfit out ho
    by_cases h0 : n = 0
    · subst h0; exact ih 0 (by omega) hfit out ho
    · have key : ∀ (d q r : Nat) (out : List Int), d ≤ 9 → q ≤ N → (ofN q).length < 35184372088800 → r < 10 ^ d → out.length + (low (q * 10 ^ d + r)).length < 140737488355328 → Ev (fun k => nat_Print.l1 k out (ofN q) (r : Int) (9 - (d : Int))) (told (out ++ low (q * 10 ^ d + r))) := by
        intro d
        induction d with
        | zero =>
          intro q r out hd hq hqf hr hol
          obtain rfl : r = 0 := by simpa using hr
          have e : q * 10 ^ 0 + 0 = q := by omega
          rw [e] at hol ⊢
          refine Ev.step (f := fun k => nat_Print.l0 k (ofN q) out) (fun k => ?_) (ih q hq hqf out hol)
          simp only [nat_Print.l1]; rw [if_neg (by omega)]
        | succ d ihd =>
          intro q r out hd hq hqf hr hol
          by_cases hz : q = 0 ∧ r = 0
          · obtain ⟨rfl, rfl⟩ := hz
            have e : 0 * 10 ^ (d + 1) + 0 = 0 := by omega
            rw [e] at hol ⊢
            refine Ev.step (f := fun k => nat_Print.l0 k (ofN 0) out) (fun k => ?_) (ih 0 (by omega) hqf out hol)
            simp only [nat_Print.l1]; rw [if_pos (by omega), if_neg (by simp [ofN_zero]), if_neg (by omega)]
          · have hr2 : r < 1000000000 := Nat.lt_of_lt_of_le hr (Nat.le_trans (Nat.pow_le_pow_right (by omega) hd) (by decide))
            have hne : q * 10 ^ (d + 1) + r ≠ 0 := by
              intro e
              apply hz
              have hp : 0 < 10 ^ (d + 1) := Nat.pow_pos (by omega)
              have : q * 10 ^ (d + 1) = 0 := by omega
              rcases Nat.mul_eq_zero.1 this with h | h
              · exact ⟨h, by omega⟩
              · omega
            have e10 : q * 10 ^ (d + 1) = 10 * (q * 10 ^ d) := by rw [Nat.pow_succ]; grind
            have em : (q * 10 ^ (d + 1) + r) % 10 = r % 10 := by rw [e10]; omega
            have ed : (q * 10 ^ (d + 1) + r) / 10 = q * 10 ^ d + r / 10 := by rw [e10]; omega
            have el := low_pos hne
            rw [em, ed] at el
            rw [el] at hol ⊢
            simp only [List.length_cons] at hol
            have h := ihd q (r / 10) (out ++ [48 + ((r % 10 : Nat) : Int)]) (by omega) hq hqf (by rw [Nat.pow_succ] at hr; omega) (by simp; omega)
            rw [List.append_assoc, List.singleton_append] at h
            have hstep : ∀ k, nat_Print.l1 (k + 1) out (ofN q) (r : Int) (9 - ((d + 1 : Nat) : Int)) = nat_Print.l1 k (out ++ [48 + ((r % 10 : Nat) : Int)]) (ofN q) ((r / 10 : Nat) : Int) (9 - (d : Int)) := by
              intro k
              have ex : (48 + Int.tmod (r : Int) 10) % 256 = 48 + ((r % 10 : Nat) : Int) := by rw [Int.tmod_eq_emod_of_nonneg (by omega)]; omega
              have ey : Int.tdiv (r : Int) 10 % 4294967296 = ((r / 10 : Nat) : Int) := by rw [Int.tdiv_eq_ediv_of_nonneg (by omega)]; omega
              simp only [nat_Print.l1]
              rw [if_pos (by omega), ex, ey, w64 (by omega) (by omega), show 9 - ((d + 1 : Nat) : Int) + 1 = 9 - (d : Int) by omega]
              by_cases hq0 : q = 0
              · subst hq0
                rw [if_neg (by simp [ofN_zero]), if_pos (by omega), if_pos (by omega)]
              · have : 0 < (ofN q).length := List.length_pos_iff.2 (fun e => hq0 (ofN_nil.1 e))
                rw [if_pos (by omega), if_pos (by omega)]
            exact Ev.step hstep h
      have hs := small_ev (b := 1000000000) (lim_ofN n) (by omega) (by omega) hfit
      rw [val_ofN, show (1000000000 : Int).toNat = 1000000000 from rfl] at hs
      have hk := key 9 (n / 1000000000) (n % 1000000000) out (Nat.le_refl _) (by omega) (Nat.lt_of_le_of_lt (len_mono (Nat.div_le_self _ _)) hfit) (Nat.mod_lt _ (by decide)) (by rw [show n / 1000000000 * 10 ^ 9 + n % 1000000000 = n by omega]; exact ho)
      rw [show n / 1000000000 * 10 ^ 9 + n % 1000000000 = n by omega] at hk
      have hl : 0 < (ofN n).length := List.length_pos_iff.2 (fun e => h0 (ofN_nil.1 e))
      refine Ev.step (f := fun k => (nat_small.f k (ofN n) 1000000000).bind fun b => nat_Print.l1 k out b.1 b.2 0) (fun k => ?_) (Ev.bind hs hk)
      simp only [nat_Print.l0]; rw [if_pos (by omega)]
theorem print_ev {a : List Int} (ha : lim a) (hl : a.length ≤ 8796093022208) : Ev (fun k => nat_Print.f k a) (text (val a)) := by
  unfold nat_Print.f
  have h1 := len_val_le ha
  have h2 := low_ofN (val a)
  refine Ev.bind (trim_ev ha (by omega)) ?_
  have h := print_l (val a) (val a) (Nat.le_refl _) (by omega) [] (by simp; omega)
  unfold text
  simpa using h
end Go.Proofs.Ytaclkccgjpjdjaa.Nt
