/- The nat functions as they are printed tell the numbers that they should: LeadingZeros32, guess, take. -/
import Derived.Test.YtaclkccgjpjdjaaNtB
import Derived.Test.YtaclkccgjpjdjaaKn
import Derived.Test.YtaclkccgjpjdjaaNx3
import Derived.Test.YtaclkccgjpjdjaaNx2
namespace Go.Proofs.Ytaclkccgjpjdjaa.Nt
open Go.RowKit Go.Proofs.YtaclkccgjpjdjaaW.PrintWords Go.Proofs.YtaclkccgjpjdjaaW.PrintMore Go.Proofs.Ytaclkccgjpjdjaa.N
set_option linter.unusedVariables false
set_option linter.unusedSimpArgs false
/-! ### LeadingZeros32 -/
set_option maxRecDepth 100000 in
theorem len32_24 {a : Int} (h0 : 16777216 ≤ a) (h1 : a < 4294967296) : bits_Len32.f a = (bits_Len32.f (a / 16777216)).map (fun v => 24 + v) := by
  unfold bits_Len32.f
  rw [if_pos (show a ≥ 65536 by omega), if_pos (show a / 65536 ≥ 256 by omega), if_pos (show 0 ≤ a / 65536 / 256 % 256 by omega), if_pos (show a / 65536 / 256 % 256 < 256 by omega),
    if_neg (show ¬ a / 16777216 ≥ 65536 by omega), if_neg (show ¬ a / 16777216 ≥ 256 by omega), if_pos (show 0 ≤ a / 16777216 % 256 by omega), if_pos (show a / 16777216 % 256 < 256 by omega), show a / 65536 / 256 % 256 = a / 16777216 % 256 by omega]
  generalize hz : bt _ (a / 16777216 % 256) = z
  have hr := bt_range _ _ |> hz.subst (motive := fun y => 0 ≤ y ∧ y ≤ 255)
  simp only [Option.map_some]
  congr 1
  unfold wrap64
  omega
set_option maxRecDepth 100000 in
theorem len32_16 {a : Int} (h0 : 65536 ≤ a) (h1 : a < 16777216) : bits_Len32.f a = (bits_Len32.f (a / 65536)).map (fun v => 16 + v) := by
  unfold bits_Len32.f
  rw [if_pos (show a ≥ 65536 by omega), if_neg (show ¬ a / 65536 ≥ 256 by omega), if_pos (show 0 ≤ a / 65536 % 256 by omega), if_pos (show a / 65536 % 256 < 256 by omega),
    if_neg (show ¬ a / 65536 ≥ 65536 by omega), if_neg (show ¬ a / 65536 ≥ 256 by omega), if_pos (show 0 ≤ a / 65536 % 256 by omega), if_pos (show a / 65536 % 256 < 256 by omega)]
  generalize hz : bt _ (a / 65536 % 256) = z
  have hr := bt_range _ _ |> hz.subst (motive := fun y => 0 ≤ y ∧ y ≤ 255)
  simp only [Option.map_some]
  congr 1
  unfold wrap64
  omega
set_option maxRecDepth 100000 in
theorem len32_8 {a : Int} (h0 : 256 ≤ a) (h1 : a < 65536) : bits_Len32.f a = (bits_Len32.f (a / 256)).map (fun v => 8 + v) := by
  unfold bits_Len32.f
  rw [if_neg (show ¬ a ≥ 65536 by omega), if_pos (show a ≥ 256 by omega), if_pos (show 0 ≤ a / 256 % 256 by omega), if_pos (show a / 256 % 256 < 256 by omega),
    if_neg (show ¬ a / 256 ≥ 65536 by omega), if_neg (show ¬ a / 256 ≥ 256 by omega), if_pos (show 0 ≤ a / 256 % 256 by omega), if_pos (show a / 256 % 256 < 256 by omega)]
  generalize hz : bt _ (a / 256 % 256) = z
  have hr := bt_range _ _ |> hz.subst (motive := fun y => 0 ≤ y ∧ y ≤ 255)
  simp only [Option.map_some]
  congr 1
  unfold wrap64
  omega
def len8ok : Option Int → Nat → Bool
  | some v, c => decide (v = 0 ∧ c = 0 ∨ 1 ≤ v ∧ v ≤ 8 ∧ 2 ^ (v.toNat - 1) ≤ c ∧ c < 2 ^ v.toNat)
  | none, _ => false
theorem len8 : ∀ c : Fin 256, len8ok (bits_Len32.f ((c.val : Nat) : Int)) c.val = true := by decide +kernel
theorem len32 {a : Int} (h0 : 0 < a) (h1 : a < 4294967296) : ∃ n : Nat, bits_Len32.f a = some (n : Int) ∧ 1 ≤ n ∧ n ≤ 32 ∧ (2 : Int) ^ (n - 1) ≤ a ∧ a < 2 ^ n := by
  have key : ∀ c : Int, 0 < c → c < 256 → ∃ n : Nat, bits_Len32.f c = some (n : Int) ∧ 1 ≤ n ∧ n ≤ 8 ∧ (2 : Int) ^ (n - 1) ≤ c ∧ c < 2 ^ n := by
    intro c c0 c1
    have h := len8 ⟨c.toNat, by omega⟩
    rw [show ((c.toNat : Nat) : Int) = c by omega] at h
    cases hv : bits_Len32.f c with
    | none => rw [hv] at h; cases h
    | some v =>
      rw [hv] at h
      replace h := of_decide_eq_true h
      rcases h with ⟨h, h'⟩ | ⟨h2, h3, h4, h5⟩
      · exact absurd h' (by simp; omega)
      · refine ⟨v.toNat, congrArg some (by omega), by omega, by omega, ?_, ?_⟩
        · have : (2 : Int) ^ (v.toNat - 1) = ((2 ^ (v.toNat - 1) : Nat) : Int) := by simp
          rw [this]; simp only at h4; omega
        · have : (2 : Int) ^ (v.toNat) = ((2 ^ (v.toNat) : Nat) : Int) := by simp
          rw [this]; simp only at h5; omega
  have up : ∀ (s : Nat) (S : Int), S = 2 ^ s → 0 < a / S → a / S < 256 → s ≤ 24 → bits_Len32.f a = (bits_Len32.f (a / S)).map (fun v => (s : Int) + v) → ∃ n : Nat, bits_Len32.f a = some (n : Int) ∧ 1 ≤ n ∧ n ≤ 32 ∧ (2 : Int) ^ (n - 1) ≤ a ∧ a < 2 ^ n := by
    intro s S hS p0 p1 hs he
    obtain ⟨n, e, n1, n2, n3, n4⟩ := key _ p0 p1
    have hS0 : 0 < S := by rw [hS]; exact Int.pow_pos (by omega)
    have hd := Int.mul_ediv_add_emod a S
    have hm0 := Int.emod_nonneg a (show S ≠ 0 by omega)
    have hm1 := Int.emod_lt_of_pos a hS0
    refine ⟨s + n, by rw [he, e]; exact congrArg some (show (s : Int) + (n : Int) = ((s + n : Nat) : Int) by omega), by omega, by omega, ?_, ?_⟩
    · have h3 : S * 2 ^ (n - 1) ≤ S * (a / S) := Int.mul_le_mul_of_nonneg_left n3 (by omega)
      rw [show s + n - 1 = s + (n - 1) by omega, Int.pow_add, ← hS]; omega
    · have h3 : S * (a / S + 1) ≤ S * 2 ^ n := Int.mul_le_mul_of_nonneg_left (by omega) (by omega)
      rw [Int.mul_add] at h3
      rw [Int.pow_add, ← hS]; omega
  by_cases c1 : a ≥ 65536
  · by_cases c2 : a ≥ 16777216
    · exact up 24 16777216 rfl (by omega) (by omega) (by omega) (len32_24 c2 h1)
    · exact up 16 65536 rfl (by omega) (by omega) (by omega) (len32_16 c1 (by omega))
  · by_cases c2 : a ≥ 256
    · exact up 8 256 rfl (by omega) (by omega) (by omega) (len32_8 c2 (by omega))
    · obtain ⟨n, e, r1, r2, r3⟩ := key a h0 (by omega)
      exact ⟨n, e, r1, by omega, r3⟩
theorem zeros32 {a : Int} (h0 : 0 < a) (h1 : a < 4294967296) : ∃ b : Nat, bits_LeadingZeros32.f a = some (b : Int) ∧ b ≤ 31 ∧ 2147483648 ≤ a * 2 ^ b ∧ a * 2 ^ b < 4294967296 := by
  obtain ⟨n, e, n1, n2, n3, n4⟩ := len32 h0 h1
  refine ⟨32 - n, ?_, by omega, ?_, ?_⟩
  · unfold bits_LeadingZeros32.f; rw [e, Option.bind_some, w64 (by omega) (by omega)]; congr 1; omega
  · have h : (2 : Int) ^ (n - 1) * 2 ^ (32 - n) ≤ a * 2 ^ (32 - n) := Int.mul_le_mul_of_nonneg_right n3 (Int.le_of_lt (Int.pow_pos (by omega)))
    rw [← Int.pow_add, show n - 1 + (32 - n) = 31 by omega] at h
    exact h
  · have hp : (0 : Int) < 2 ^ (32 - n) := Int.pow_pos (by omega)
    have h : a * 2 ^ (32 - n) < 2 ^ n * 2 ^ (32 - n) := Int.mul_lt_mul_of_pos_right n4 hp
    rw [← Int.pow_add, show n + (32 - n) = 32 by omega] at h
    exact h
/-! ### guess -/
section
variable {u v : List Int} {at_ : Nat} {P : Nat} {U V t : Nat} {v1 v2 u2 vr ur : Nat}
theorem guess_j (hV : V = (v1 * 4294967296 + v2) * P + vr) (hU : U = (t * 4294967296 + u2) * P + ur) (hvr : vr < P) (hur : ur < P) (hv1 : 2147483648 ≤ v1) (hv1' : v1 < 4294967296) (hv2 : v2 < 4294967296) (hu2 : u2 < 4294967296)
    (ht : t < v1 * 4294967296 + 4294967296) (hlt : U < V * 4294967296) (hVp : 0 < V) (hn : 2 ≤ v.length) (hbig : u.length < 1000000000000000) (hat : at_ + v.length < u.length)
    (r1 : rd v ((v.length : Int) - 1) = (v1 : Int)) (r2 : rd v ((v.length : Int) - 2) = (v2 : Int)) (r3 : rd u ((at_ : Int) + (v.length : Int) - 2) = (u2 : Int)) :
    ∀ (q : Nat) (r : Nat), q * v1 + r = t → r < 4294967296 → q ≤ 4294967297 → U / V ≤ q →
    ∃ q' : Nat, Ev (fun k => nat_guess.l0 k u v (at_ : Int) (v.length : Int) (q : Int) (r : Int)) (q' : Int) ∧ q' < 4294967296 ∧ U / V ≤ q' ∧ (q' - 1) * V ≤ U := by
  have hqt : U / V * V ≤ U := Nat.div_mul_le_self _ _
  have hqb : U / V < 4294967296 := (Nat.div_lt_iff_lt_mul hVp).2 (by rw [Nat.mul_comm]; exact hlt)
  intro q
  induction q with
  | zero =>
    intro r hqr hr hq1 hq2
    refine ⟨0, ?_, by omega, hq2, by simp⟩
    refine Ev.step (f := fun k => nat_guess.j1 k u v (at_ : Int) (v.length : Int) ((0 : Nat) : Int) (r : Int) false) (fun k => ?_) (Ev.step (f := fun _ => some 0) (fun k => by simp [nat_guess.j1]) (Ev.now _))
    simp only [nat_guess.l0]
    rw [if_pos (by omega), w64 (x := (v.length : Int) - 2) (by omega) (by omega), if_pos (by omega), if_pos (by omega), w64 (x := (at_ : Int) + v.length) (by omega) (by omega), w64 (by omega) (by omega), if_pos (by omega), if_pos (by omega), r2, r3, u64 (x := (v2 : Int)) (by omega) (by omega), u64 (x := (u2 : Int)) (by omega) (by omega),
      u64 (x := (r : Int) * 4294967296) (by omega) (by omega), or64' (by omega) (by omega) (by omega) (by omega)]
    congr 1
    apply decide_eq_false
    rw [show ((0 : Nat) : Int) * (v2 : Int) = 0 by simp, u64 (by omega) (by omega)]
    omega
  | succ q ih =>
    intro r hqr hr hq1 hq2
    have hdown : ∀ (hless : U / V < q + 1), ∃ q' : Nat, Ev (fun k => nat_guess.j1 k u v (at_ : Int) (v.length : Int) ((q + 1 : Nat) : Int) (r : Int) true) (q' : Int) ∧ q' < 4294967296 ∧ U / V ≤ q' ∧ (q' - 1) * V ≤ U := by
      intro hless
      have hqr' : q * v1 + (r + v1) = t := by rw [Nat.add_mul] at hqr; omega
      have hrw : IntKind.u64.wrap ((r : Int) + (v1 : Int)) = ((r + v1 : Nat) : Int) := by rw [u64 (by omega) (by omega)]; omega
      have hqw : IntKind.u64.wrap (((q + 1 : Nat) : Int) - 1) = (q : Int) := by rw [u64 (by omega) (by omega)]; omega
      by_cases hc : r + v1 < 4294967296
      · obtain ⟨q', h1, h2⟩ := ih (r + v1) hqr' hc (by omega) (by omega)
        refine ⟨q', Ev.step (f := fun k => nat_guess.l0 k u v (at_ : Int) (v.length : Int) (q : Int) ((r + v1 : Nat) : Int)) (fun k => ?_) h1, h2⟩
        simp only [nat_guess.j1]
        rw [if_true, w64 (x := (v.length : Int) - 1) (by omega) (by omega), if_pos (by omega), if_pos (by omega), r1, u64 (x := (v1 : Int)) (by omega) (by omega), hrw, if_pos (by omega), hqw]
      · have hq : q < 4294967296 := by
          apply Nat.lt_of_not_le; intro hge
          have := Nat.mul_le_mul_right v1 hge
          omega
        refine ⟨q, Ev.step (f := fun _ => some (q : Int)) (fun k => ?_) (Ev.now _), hq, by omega, ?_⟩
        · simp only [nat_guess.j1]
          rw [if_true, w64 (x := (v.length : Int) - 1) (by omega) (by omega), if_pos (by omega), if_pos (by omega), r1, u64 (x := (v1 : Int)) (by omega) (by omega), hrw, if_neg (by omega), hqw]
        · refine kn_near hV hU hvr (by omega) hq hqr'.symm ?_
          have h1 : q * v2 ≤ 4294967296 * 4294967296 := Nat.mul_le_mul (by omega) (by omega)
          omega
    by_cases hbigq : (q + 1) / 4294967296 = 0
    · have hqv : (q + 1) * v2 ≤ 4294967295 * 4294967295 := Nat.mul_le_mul (by omega) (by omega)
      have hcast : (((q + 1 : Nat) : Int) * (v2 : Int)) = (((q + 1) * v2 : Nat) : Int) := by rw [Int.natCast_mul]
      have estep : ∀ k, nat_guess.l0 (k + 1) u v (at_ : Int) (v.length : Int) ((q + 1 : Nat) : Int) (r : Int) = nat_guess.j1 k u v (at_ : Int) (v.length : Int) ((q + 1 : Nat) : Int) (r : Int) (decide (r * 4294967296 + u2 < (q + 1) * v2)) := by
        intro k
        simp only [nat_guess.l0]
        rw [if_pos (by omega), w64 (x := (v.length : Int) - 2) (by omega) (by omega), if_pos (by omega), if_pos (by omega), w64 (x := (at_ : Int) + v.length) (by omega) (by omega), w64 (by omega) (by omega), if_pos (by omega), if_pos (by omega), r2, r3, u64 (x := (v2 : Int)) (by omega) (by omega), u64 (x := (u2 : Int)) (by omega) (by omega),
          u64 (x := (r : Int) * 4294967296) (by omega) (by omega), or64' (by omega) (by omega) (by omega) (by omega), hcast, u64 (by omega) (by omega)]
        congr 1
        rw [decide_eq_decide]
        omega
      by_cases hc : r * 4294967296 + u2 < (q + 1) * v2
      · obtain ⟨q', h1, h2⟩ := hdown (kn_less hV hU hqt hur hqr.symm hc)
        refine ⟨q', Ev.step (fun k => ?_) h1, h2⟩
        rw [estep, decide_eq_true hc]
      · refine ⟨q + 1, Ev.step (f := fun k => nat_guess.j1 k u v (at_ : Int) (v.length : Int) ((q + 1 : Nat) : Int) (r : Int) false) (fun k => ?_) (Ev.step (f := fun _ => some ((q + 1 : Nat) : Int)) (fun k => ?_) (Ev.now _)), by omega, hq2, kn_near hV hU hvr (by omega) (by omega) hqr.symm (by omega)⟩
        · rw [estep, decide_eq_false hc]
        · simp [nat_guess.j1]
    · obtain ⟨q', h1, h2⟩ := hdown (by omega)
      refine ⟨q', Ev.step (fun k => ?_) h1, h2⟩
      simp only [nat_guess.l0]
      rw [if_neg (by omega)]
end
theorem rd_at (a b : List Int) (x : Int) (i : Int) (h : i = a.length) : rd (a ++ x :: b) i = x := rd_app a x b i h
theorem guess_ev {p ur vr tl : List Int} {u0 u1 u2 v1 v2 : Int} {u v : List Int} (hu : u = p ++ (ur ++ u2 :: u1 :: u0 :: tl)) (hv : v = vr ++ [v2, v1]) (hl : ur.length = vr.length) (hlu : lim u) (hlv : lim v) (hv1 : 2147483648 ≤ v1)
    (hlt : val (ur ++ [u2, u1, u0]) < val v * 4294967296) (hbig : u.length < 100000000000000) :
    ∃ q : Nat, Ev (fun k => nat_guess.f k u v (p.length : Int)) (q : Int) ∧ q < 4294967296 ∧ val (ur ++ [u2, u1, u0]) / val v ≤ q ∧ (q - 1) * val v ≤ val (ur ++ [u2, u1, u0]) := by
  obtain ⟨_, hl2⟩ := lim_append.1 (hu ▸ hlu)
  obtain ⟨hlur, hl3⟩ := lim_append.1 hl2
  obtain ⟨b2, hl3⟩ := lim_cons.1 hl3
  obtain ⟨b1, hl3⟩ := lim_cons.1 hl3
  obtain ⟨b0, _⟩ := lim_cons.1 hl3
  obtain ⟨hlvr, hl4⟩ := lim_append.1 (hv ▸ hlv)
  obtain ⟨d2, hl4⟩ := lim_cons.1 hl4
  obtain ⟨d1, _⟩ := lim_cons.1 hl4
  have wur := val_lt hlur
  have wvr := val_lt hlvr
  rw [hl] at wur
  have hul : u.length = p.length + (vr.length + 3 + tl.length) := by rw [hu]; simp; omega
  have hvl : v.length = vr.length + 2 := by rw [hv]; simp
  have eV : val v = (v1.toNat * 4294967296 + v2.toNat) * 4294967296 ^ vr.length + val vr := by
    rw [hv, val_append]; simp only [val_cons, val_nil]; rw [Nat.mul_comm (4294967296 ^ vr.length)]; rw [Nat.add_comm]; congr 2 <;> omega
  have eU : val (ur ++ [u2, u1, u0]) = ((u0.toNat * 4294967296 + u1.toNat) * 4294967296 + u2.toNat) * 4294967296 ^ vr.length + val ur := by
    rw [val_append, hl]; simp only [val_cons, val_nil]; rw [Nat.mul_comm (4294967296 ^ vr.length)]; rw [Nat.add_comm]; congr 2 <;> omega
  generalize hU : val (ur ++ [u2, u1, u0]) = U at *
  generalize hV : val v = V at *
  generalize 4294967296 ^ vr.length = P at *
  have hPV : P ≤ V := by
    have : 1 * P ≤ (v1.toNat * 4294967296 + v2.toNat) * P := Nat.mul_le_mul_right _ (by omega)
    omega
  have hu0 : u0.toNat ≤ v1.toNat := by
    apply Nat.le_of_not_lt; intro hc
    have h1 : ((v1.toNat + 1) * 18446744073709551616) * P ≤ ((u0.toNat * 4294967296 + u1.toNat) * 4294967296 + u2.toNat) * P := Nat.mul_le_mul_right _ (by omega)
    have h2 : (v1.toNat * 4294967296 + v2.toNat + 1) * P ≤ (v1.toNat + 1) * 4294967296 * P := Nat.mul_le_mul_right _ (by omega)
    rw [Nat.add_mul _ 1] at h2
    have h3 : (v1.toNat + 1) * 18446744073709551616 * P = 4294967296 * ((v1.toNat + 1) * 4294967296 * P) := by
      rw [show (18446744073709551616 : Nat) = 4294967296 * 4294967296 by decide]; simp only [Nat.mul_assoc, Nat.mul_comm, Nat.mul_left_comm]
    omega
  have ht : u0.toNat * 4294967296 + u1.toNat < v1.toNat * 4294967296 + 4294967296 := by omega
  have hvp : 0 < v1.toNat := by omega
  have r1 : rd v ((v.length : Int) - 1) = (v1.toNat : Int) := by
    rw [hv, show vr ++ [v2, v1] = (vr ++ [v2]) ++ v1 :: [] by simp, rd_app _ _ _ _ (by simp; omega)]; omega
  have r2 : rd v ((v.length : Int) - 2) = (v2.toNat : Int) := by
    rw [hv, rd_app _ _ _ _ (by simp)]; omega
  have r3 : rd u ((p.length : Int) + (v.length : Int) - 2) = (u2.toNat : Int) := by
    rw [hu, ← List.append_assoc, rd_app _ _ _ _ (by simp; omega)]; omega
  have r4 : rd u ((p.length : Int) + (v.length : Int) - 1) = u1 := by
    rw [hu, show p ++ (ur ++ u2 :: u1 :: u0 :: tl) = (p ++ ur ++ [u2]) ++ u1 :: (u0 :: tl) by simp, rd_app _ _ _ _ (by simp; omega)]
  have r5 : rd u ((p.length : Int) + (v.length : Int)) = u0 := by
    rw [hu, show p ++ (ur ++ u2 :: u1 :: u0 :: tl) = (p ++ ur ++ [u2, u1]) ++ u0 :: tl by simp, rd_app _ _ _ _ (by simp; omega)]
  obtain ⟨q, h1, h2⟩ := guess_j (u := u) (v := v) (at_ := p.length) eV eU wvr wur (by omega) (by omega) (by omega) (by omega) ht hlt (by omega) (by omega) (by omega) (by omega) r1 r2 r3
    ((u0.toNat * 4294967296 + u1.toNat) / v1.toNat) ((u0.toNat * 4294967296 + u1.toNat) % v1.toNat) (by rw [Nat.mul_comm]; exact Nat.div_add_mod _ _) (Nat.lt_of_lt_of_le (Nat.mod_lt _ hvp) (by omega))
    (by
      apply Nat.le_of_lt_succ
      rw [Nat.div_lt_iff_lt_mul hvp]
      omega)
    (kn_first eV eU (Nat.div_mul_le_self _ _) (by omega) wur hvp)
  refine ⟨q, Ev.congr (fun k => ?_) h1, h2⟩
  unfold nat_guess.f
  rw [w64 (x := (p.length : Int) + v.length) (by omega) (by omega), if_pos (by omega), if_pos (by omega), w64 (x := (p.length : Int) + v.length - 1) (by omega) (by omega), if_pos (by omega), if_pos (by omega), w64 (x := (v.length : Int) - 1) (by omega) (by omega), if_pos (by omega), if_pos (by omega), r1, r4, r5,
    u64 (x := (v1.toNat : Int)) (by omega) (by omega), u64 (x := u0) (by omega) (by omega), u64 (x := u1) (by omega) (by omega), u64 (x := u0 * 4294967296) (by omega) (by omega), or64' b0.1 b0.2 b1.1 b1.2, if_neg (by omega), Int.tdiv_eq_ediv_of_nonneg (by omega), Int.tmod_eq_emod_of_nonneg (by omega)]
  have e : u0 * 4294967296 + u1 = ((u0.toNat * 4294967296 + u1.toNat : Nat) : Int) := by omega
  rw [e, ← Int.natCast_ediv, ← Int.natCast_emod]
  have hle : (u0.toNat * 4294967296 + u1.toNat) / v1.toNat ≤ u0.toNat * 4294967296 + u1.toNat := Nat.div_le_self _ _
  generalize (u0.toNat * 4294967296 + u1.toNat) / v1.toNat = Q at *
  rw [u64 (x := (Q : Int)) (by omega) (by omega)]
end Go.Proofs.Ytaclkccgjpjdjaa.Nt
