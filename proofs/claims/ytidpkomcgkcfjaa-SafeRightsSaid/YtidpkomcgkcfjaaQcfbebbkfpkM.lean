import Derived.Test.YtidpkomcgkcfjaaQnnnbcgaiggM
import Derived.Deep.Slices
import Derived.Deep.Fields
import Derived.ChangeSame
import Derived.ChangeArms
import Derived.DataReads
section
/- Object code: the reference's answer, by the executor. Printed by a program of this session. No condition. -/
namespace Go.Proofs.Ytidpkomcgkcfjaa.Ev
open Go Go.RowKit Go.Proofs.YtidpkomcgkcfjaaW.PrintWords Go.Proofs.YtidpkomcgkcfjaaW.PrintLast Go.Proofs.Ytidpkomcgkcfjaa
set_option linter.unusedVariables false
set_option linter.unusedSimpArgs false
def dVal : Val := ⟨0, false, [], [], ⟨#[]⟩⟩
def dIns : Ins := ⟨⟨#[]⟩, 0, [], 0, dVal, 0, []⟩
def gi (l : List Int) (i : Nat) : Int := l.getD i 0
def gx (l : List Ins) (i : Nat) : Ins := l.getD i dIns
def gv (l : List Val) (i : Nat) : Val := l.getD i dVal
theorem int_ad {l : List Int} {i : Nat} (h : i < l.length) : (0 : Int) ≤ (i : Int) ∧ (l.map fun n => [AC.v (.int .i64 n)])[(i : Int).toNat]? = some [.v (.int .i64 (gi l i))] := ⟨by omega, by simp [h, gi]⟩
theorem ins_ad {l : List Ins} {i : Nat} (h : i < l.length) : (0 : Int) ≤ (i : Int) ∧ (l.map Ins.c)[(i : Int).toNat]? = some (gx l i).c := ⟨by omega, by simp [h, gx]⟩
theorem val_ad {l : List Val} {i : Nat} (h : i < l.length) : (0 : Int) ≤ (i : Int) ∧ (l.map Val.c)[(i : Int).toNat]? = some (gv l i).c := ⟨by omega, by simp [h, gv]⟩
def rIn (i n : Int) : Bool := if i ≥ (0 : Int) then (decide (i < n)) else (false)
theorem rIn_con (i n : Int)  : Con Try.prog 44 [num i, num n] (.g (truth (rIn i n))) := by
  unfold rIn
  by_cases f0 : i ≥ (0 : Int)
  · rw [if_pos f0]
    exact by_ (.g (truth (decide (i < n)))) Try.func44 rfl [ends (decide_eq_true f0)] (by kernel_rfl)
  · rw [if_neg f0]
    exact by_ (.g (truth false)) Try.func44 rfl [ends (decide_eq_false f0)] (by kernel_rfl)
def rArgs (op : ByteArray) : Int × Int := bif is op (⟨#[108, 105, 116]⟩ : ByteArray) then ((0, 0)) else (bif is op (⟨#[105, 110]⟩ : ByteArray) then ((0, 0)) else (bif is op (⟨#[109, 101, 109]⟩ : ByteArray) then ((0, 0)) else (bif is op (⟨#[99, 111, 110, 116]⟩ : ByteArray) then ((0, 0)) else (bif is op (⟨#[102, 108, 97, 103]⟩ : ByteArray) then ((0, 0)) else (bif is op (⟨#[99, 111, 112, 121]⟩ : ByteArray) then ((1, 1)) else (bif is op (⟨#[110, 101, 103]⟩ : ByteArray) then ((1, 1)) else (bif is op (⟨#[110, 111, 116]⟩ : ByteArray) then ((1, 1)) else (bif is op (⟨#[102, 108, 111, 111, 114]⟩ : ByteArray) then ((1, 1)) else (bif is op (⟨#[114, 97, 116]⟩ : ByteArray) then ((1, 1)) else (bif is op (⟨#[103, 97, 110, 100]⟩ : ByteArray) then ((1, 1073741824)) else (bif is op (⟨#[109, 114, 103]⟩ : ByteArray) then ((1, 1073741824)) else (bif is op (⟨#[115, 101, 108]⟩ : ByteArray) then ((3, 3)) else (bif is op (⟨#[43]⟩ : ByteArray) then ((2, 2)) else (bif is op (⟨#[45]⟩ : ByteArray) then ((2, 2)) else (bif is op (⟨#[42]⟩ : ByteArray) then ((2, 2)) else (bif is op (⟨#[47]⟩ : ByteArray) then ((2, 2)) else (bif is op (⟨#[100, 105, 118]⟩ : ByteArray) then ((2, 2)) else (bif is op (⟨#[109, 111, 100]⟩ : ByteArray) then ((2, 2)) else (bif is op (⟨#[60]⟩ : ByteArray) then ((2, 2)) else (bif is op (⟨#[60, 61]⟩ : ByteArray) then ((2, 2)) else (bif is op (⟨#[62]⟩ : ByteArray) then ((2, 2)) else (bif is op (⟨#[62, 61]⟩ : ByteArray) then ((2, 2)) else (bif is op (⟨#[61, 61]⟩ : ByteArray) then ((2, 2)) else (bif is op (⟨#[33, 61]⟩ : ByteArray) then ((2, 2)) else (bif is op (⟨#[97, 110, 100]⟩ : ByteArray) then ((2, 2)) else (bif is op (⟨#[111, 114]⟩ : ByteArray) then ((2, 2)) else ((-1, -1))))))))))))))))))))))))))))
theorem rArgs_con (op : ByteArray)  : Con Try.prog 15 [text op] (.tup [num (rArgs op).1, num (rArgs op).2]) := by
  unfold rArgs
  rcases bc (is op (⟨#[108, 105, 116]⟩ : ByteArray)) with f0 | f0
  · rw [bif_t f0]
    exact by_ (.tup [num 0, num 0]) Try.func15 rfl [ends f0, ends f0] (by kernel_rfl)
  · rcases bc (is op (⟨#[105, 110]⟩ : ByteArray)) with f1 | f1
    · rw [bif_f f0, bif_t f1]
      exact by_ (.tup [num 0, num 0]) Try.func15 rfl [ends f0, ends f1, ends f1] (by kernel_rfl)
    · rcases bc (is op (⟨#[109, 101, 109]⟩ : ByteArray)) with f2 | f2
      · rw [bif_f f0, bif_f f1, bif_t f2]
        exact by_ (.tup [num 0, num 0]) Try.func15 rfl [ends f0, ends f1, ends f2, ends f2] (by kernel_rfl)
      · rcases bc (is op (⟨#[99, 111, 110, 116]⟩ : ByteArray)) with f3 | f3
        · rw [bif_f f0, bif_f f1, bif_f f2, bif_t f3]
          exact by_ (.tup [num 0, num 0]) Try.func15 rfl [ends f0, ends f1, ends f2, ends f3, ends f3] (by kernel_rfl)
        · rcases bc (is op (⟨#[102, 108, 97, 103]⟩ : ByteArray)) with f4 | f4
          · rw [bif_f f0, bif_f f1, bif_f f2, bif_f f3, bif_t f4]
            exact by_ (.tup [num 0, num 0]) Try.func15 rfl [ends f0, ends f1, ends f2, ends f3, ends f4] (by kernel_rfl)
          · rcases bc (is op (⟨#[99, 111, 112, 121]⟩ : ByteArray)) with f5 | f5
            · rw [bif_f f0, bif_f f1, bif_f f2, bif_f f3, bif_f f4, bif_t f5]
              exact by_ (.tup [num 1, num 1]) Try.func15 rfl [ends f0, ends f1, ends f2, ends f3, ends f4, ends f5, ends f5] (by kernel_rfl)
            · rcases bc (is op (⟨#[110, 101, 103]⟩ : ByteArray)) with f6 | f6
              · rw [bif_f f0, bif_f f1, bif_f f2, bif_f f3, bif_f f4, bif_f f5, bif_t f6]
                exact by_ (.tup [num 1, num 1]) Try.func15 rfl [ends f0, ends f1, ends f2, ends f3, ends f4, ends f5, ends f6, ends f6] (by kernel_rfl)
              · rcases bc (is op (⟨#[110, 111, 116]⟩ : ByteArray)) with f7 | f7
                · rw [bif_f f0, bif_f f1, bif_f f2, bif_f f3, bif_f f4, bif_f f5, bif_f f6, bif_t f7]
                  exact by_ (.tup [num 1, num 1]) Try.func15 rfl [ends f0, ends f1, ends f2, ends f3, ends f4, ends f5, ends f6, ends f7, ends f7] (by kernel_rfl)
                · rcases bc (is op (⟨#[102, 108, 111, 111, 114]⟩ : ByteArray)) with f8 | f8
                  · rw [bif_f f0, bif_f f1, bif_f f2, bif_f f3, bif_f f4, bif_f f5, bif_f f6, bif_f f7, bif_t f8]
                    exact by_ (.tup [num 1, num 1]) Try.func15 rfl [ends f0, ends f1, ends f2, ends f3, ends f4, ends f5, ends f6, ends f7, ends f8, ends f8] (by kernel_rfl)
                  · rcases bc (is op (⟨#[114, 97, 116]⟩ : ByteArray)) with f9 | f9
                    · rw [bif_f f0, bif_f f1, bif_f f2, bif_f f3, bif_f f4, bif_f f5, bif_f f6, bif_f f7, bif_f f8, bif_t f9]
                      exact by_ (.tup [num 1, num 1]) Try.func15 rfl [ends f0, ends f1, ends f2, ends f3, ends f4, ends f5, ends f6, ends f7, ends f8, ends f9] (by kernel_rfl)
                    · rcases bc (is op (⟨#[103, 97, 110, 100]⟩ : ByteArray)) with f10 | f10
                      · rw [bif_f f0, bif_f f1, bif_f f2, bif_f f3, bif_f f4, bif_f f5, bif_f f6, bif_f f7, bif_f f8, bif_f f9, bif_t f10]
                        exact by_ (.tup [num 1, num 1073741824]) Try.func15 rfl [ends f0, ends f1, ends f2, ends f3, ends f4, ends f5, ends f6, ends f7, ends f8, ends f9, ends f10, ends f10] (by kernel_rfl)
                      · rcases bc (is op (⟨#[109, 114, 103]⟩ : ByteArray)) with f11 | f11
                        · rw [bif_f f0, bif_f f1, bif_f f2, bif_f f3, bif_f f4, bif_f f5, bif_f f6, bif_f f7, bif_f f8, bif_f f9, bif_f f10, bif_t f11]
                          exact by_ (.tup [num 1, num 1073741824]) Try.func15 rfl [ends f0, ends f1, ends f2, ends f3, ends f4, ends f5, ends f6, ends f7, ends f8, ends f9, ends f10, ends f11] (by kernel_rfl)
                        · rcases bc (is op (⟨#[115, 101, 108]⟩ : ByteArray)) with f12 | f12
                          · rw [bif_f f0, bif_f f1, bif_f f2, bif_f f3, bif_f f4, bif_f f5, bif_f f6, bif_f f7, bif_f f8, bif_f f9, bif_f f10, bif_f f11, bif_t f12]
                            exact by_ (.tup [num 3, num 3]) Try.func15 rfl [ends f0, ends f1, ends f2, ends f3, ends f4, ends f5, ends f6, ends f7, ends f8, ends f9, ends f10, ends f11, ends f12] (by kernel_rfl)
                          · rcases bc (is op (⟨#[43]⟩ : ByteArray)) with f13 | f13
                            · rw [bif_f f0, bif_f f1, bif_f f2, bif_f f3, bif_f f4, bif_f f5, bif_f f6, bif_f f7, bif_f f8, bif_f f9, bif_f f10, bif_f f11, bif_f f12, bif_t f13]
                              exact by_ (.tup [num 2, num 2]) Try.func15 rfl [ends f0, ends f1, ends f2, ends f3, ends f4, ends f5, ends f6, ends f7, ends f8, ends f9, ends f10, ends f11, ends f12, ends f13, ends f13] (by kernel_rfl)
                            · rcases bc (is op (⟨#[45]⟩ : ByteArray)) with f14 | f14
                              · rw [bif_f f0, bif_f f1, bif_f f2, bif_f f3, bif_f f4, bif_f f5, bif_f f6, bif_f f7, bif_f f8, bif_f f9, bif_f f10, bif_f f11, bif_f f12, bif_f f13, bif_t f14]
                                exact by_ (.tup [num 2, num 2]) Try.func15 rfl [ends f0, ends f1, ends f2, ends f3, ends f4, ends f5, ends f6, ends f7, ends f8, ends f9, ends f10, ends f11, ends f12, ends f13, ends f14, ends f14] (by kernel_rfl)
                              · rcases bc (is op (⟨#[42]⟩ : ByteArray)) with f15 | f15
                                · rw [bif_f f0, bif_f f1, bif_f f2, bif_f f3, bif_f f4, bif_f f5, bif_f f6, bif_f f7, bif_f f8, bif_f f9, bif_f f10, bif_f f11, bif_f f12, bif_f f13, bif_f f14, bif_t f15]
                                  exact by_ (.tup [num 2, num 2]) Try.func15 rfl [ends f0, ends f1, ends f2, ends f3, ends f4, ends f5, ends f6, ends f7, ends f8, ends f9, ends f10, ends f11, ends f12, ends f13, ends f14, ends f15, ends f15] (by kernel_rfl)
                                · rcases bc (is op (⟨#[47]⟩ : ByteArray)) with f16 | f16
                                  · rw [bif_f f0, bif_f f1, bif_f f2, bif_f f3, bif_f f4, bif_f f5, bif_f f6, bif_f f7, bif_f f8, bif_f f9, bif_f f10, bif_f f11, bif_f f12, bif_f f13, bif_f f14, bif_f f15, bif_t f16]
                                    exact by_ (.tup [num 2, num 2]) Try.func15 rfl [ends f0, ends f1, ends f2, ends f3, ends f4, ends f5, ends f6, ends f7, ends f8, ends f9, ends f10, ends f11, ends f12, ends f13, ends f14, ends f15, ends f16, ends f16] (by kernel_rfl)
                                  · rcases bc (is op (⟨#[100, 105, 118]⟩ : ByteArray)) with f17 | f17
                                    · rw [bif_f f0, bif_f f1, bif_f f2, bif_f f3, bif_f f4, bif_f f5, bif_f f6, bif_f f7, bif_f f8, bif_f f9, bif_f f10, bif_f f11, bif_f f12, bif_f f13, bif_f f14, bif_f f15, bif_f f16, bif_t f17]
                                      exact by_ (.tup [num 2, num 2]) Try.func15 rfl [ends f0, ends f1, ends f2, ends f3, ends f4, ends f5, ends f6, ends f7, ends f8, ends f9, ends f10, ends f11, ends f12, ends f13, ends f14, ends f15, ends f16, ends f17, ends f17] (by kernel_rfl)
                                    · rcases bc (is op (⟨#[109, 111, 100]⟩ : ByteArray)) with f18 | f18
                                      · rw [bif_f f0, bif_f f1, bif_f f2, bif_f f3, bif_f f4, bif_f f5, bif_f f6, bif_f f7, bif_f f8, bif_f f9, bif_f f10, bif_f f11, bif_f f12, bif_f f13, bif_f f14, bif_f f15, bif_f f16, bif_f f17, bif_t f18]
                                        exact by_ (.tup [num 2, num 2]) Try.func15 rfl [ends f0, ends f1, ends f2, ends f3, ends f4, ends f5, ends f6, ends f7, ends f8, ends f9, ends f10, ends f11, ends f12, ends f13, ends f14, ends f15, ends f16, ends f17, ends f18, ends f18] (by kernel_rfl)
                                      · rcases bc (is op (⟨#[60]⟩ : ByteArray)) with f19 | f19
                                        · rw [bif_f f0, bif_f f1, bif_f f2, bif_f f3, bif_f f4, bif_f f5, bif_f f6, bif_f f7, bif_f f8, bif_f f9, bif_f f10, bif_f f11, bif_f f12, bif_f f13, bif_f f14, bif_f f15, bif_f f16, bif_f f17, bif_f f18, bif_t f19]
                                          exact by_ (.tup [num 2, num 2]) Try.func15 rfl [ends f0, ends f1, ends f2, ends f3, ends f4, ends f5, ends f6, ends f7, ends f8, ends f9, ends f10, ends f11, ends f12, ends f13, ends f14, ends f15, ends f16, ends f17, ends f18, ends f19, ends f19] (by kernel_rfl)
                                        · rcases bc (is op (⟨#[60, 61]⟩ : ByteArray)) with f20 | f20
                                          · rw [bif_f f0, bif_f f1, bif_f f2, bif_f f3, bif_f f4, bif_f f5, bif_f f6, bif_f f7, bif_f f8, bif_f f9, bif_f f10, bif_f f11, bif_f f12, bif_f f13, bif_f f14, bif_f f15, bif_f f16, bif_f f17, bif_f f18, bif_f f19, bif_t f20]
                                            exact by_ (.tup [num 2, num 2]) Try.func15 rfl [ends f0, ends f1, ends f2, ends f3, ends f4, ends f5, ends f6, ends f7, ends f8, ends f9, ends f10, ends f11, ends f12, ends f13, ends f14, ends f15, ends f16, ends f17, ends f18, ends f19, ends f20, ends f20] (by kernel_rfl)
                                          · rcases bc (is op (⟨#[62]⟩ : ByteArray)) with f21 | f21
                                            · rw [bif_f f0, bif_f f1, bif_f f2, bif_f f3, bif_f f4, bif_f f5, bif_f f6, bif_f f7, bif_f f8, bif_f f9, bif_f f10, bif_f f11, bif_f f12, bif_f f13, bif_f f14, bif_f f15, bif_f f16, bif_f f17, bif_f f18, bif_f f19, bif_f f20, bif_t f21]
                                              exact by_ (.tup [num 2, num 2]) Try.func15 rfl [ends f0, ends f1, ends f2, ends f3, ends f4, ends f5, ends f6, ends f7, ends f8, ends f9, ends f10, ends f11, ends f12, ends f13, ends f14, ends f15, ends f16, ends f17, ends f18, ends f19, ends f20, ends f21, ends f21] (by kernel_rfl)
                                            · rcases bc (is op (⟨#[62, 61]⟩ : ByteArray)) with f22 | f22
                                              · rw [bif_f f0, bif_f f1, bif_f f2, bif_f f3, bif_f f4, bif_f f5, bif_f f6, bif_f f7, bif_f f8, bif_f f9, bif_f f10, bif_f f11, bif_f f12, bif_f f13, bif_f f14, bif_f f15, bif_f f16, bif_f f17, bif_f f18, bif_f f19, bif_f f20, bif_f f21, bif_t f22]
                                                exact by_ (.tup [num 2, num 2]) Try.func15 rfl [ends f0, ends f1, ends f2, ends f3, ends f4, ends f5, ends f6, ends f7, ends f8, ends f9, ends f10, ends f11, ends f12, ends f13, ends f14, ends f15, ends f16, ends f17, ends f18, ends f19, ends f20, ends f21, ends f22, ends f22] (by kernel_rfl)
                                              · rcases bc (is op (⟨#[61, 61]⟩ : ByteArray)) with f23 | f23
                                                · rw [bif_f f0, bif_f f1, bif_f f2, bif_f f3, bif_f f4, bif_f f5, bif_f f6, bif_f f7, bif_f f8, bif_f f9, bif_f f10, bif_f f11, bif_f f12, bif_f f13, bif_f f14, bif_f f15, bif_f f16, bif_f f17, bif_f f18, bif_f f19, bif_f f20, bif_f f21, bif_f f22, bif_t f23]
                                                  exact by_ (.tup [num 2, num 2]) Try.func15 rfl [ends f0, ends f1, ends f2, ends f3, ends f4, ends f5, ends f6, ends f7, ends f8, ends f9, ends f10, ends f11, ends f12, ends f13, ends f14, ends f15, ends f16, ends f17, ends f18, ends f19, ends f20, ends f21, ends f22, ends f23, ends f23] (by kernel_rfl)
                                                · rcases bc (is op (⟨#[33, 61]⟩ : ByteArray)) with f24 | f24
                                                  · rw [bif_f f0, bif_f f1, bif_f f2, bif_f f3, bif_f f4, bif_f f5, bif_f f6, bif_f f7, bif_f f8, bif_f f9, bif_f f10, bif_f f11, bif_f f12, bif_f f13, bif_f f14, bif_f f15, bif_f f16, bif_f f17, bif_f f18, bif_f f19, bif_f f20, bif_f f21, bif_f f22, bif_f f23, bif_t f24]
                                                    exact by_ (.tup [num 2, num 2]) Try.func15 rfl [ends f0, ends f1, ends f2, ends f3, ends f4, ends f5, ends f6, ends f7, ends f8, ends f9, ends f10, ends f11, ends f12, ends f13, ends f14, ends f15, ends f16, ends f17, ends f18, ends f19, ends f20, ends f21, ends f22, ends f23, ends f24, ends f24] (by kernel_rfl)
                                                  · rcases bc (is op (⟨#[97, 110, 100]⟩ : ByteArray)) with f25 | f25
                                                    · rw [bif_f f0, bif_f f1, bif_f f2, bif_f f3, bif_f f4, bif_f f5, bif_f f6, bif_f f7, bif_f f8, bif_f f9, bif_f f10, bif_f f11, bif_f f12, bif_f f13, bif_f f14, bif_f f15, bif_f f16, bif_f f17, bif_f f18, bif_f f19, bif_f f20, bif_f f21, bif_f f22, bif_f f23, bif_f f24, bif_t f25]
                                                      exact by_ (.tup [num 2, num 2]) Try.func15 rfl [ends f0, ends f1, ends f2, ends f3, ends f4, ends f5, ends f6, ends f7, ends f8, ends f9, ends f10, ends f11, ends f12, ends f13, ends f14, ends f15, ends f16, ends f17, ends f18, ends f19, ends f20, ends f21, ends f22, ends f23, ends f24, ends f25, ends f25] (by kernel_rfl)
                                                    · rcases bc (is op (⟨#[111, 114]⟩ : ByteArray)) with f26 | f26
                                                      · rw [bif_f f0, bif_f f1, bif_f f2, bif_f f3, bif_f f4, bif_f f5, bif_f f6, bif_f f7, bif_f f8, bif_f f9, bif_f f10, bif_f f11, bif_f f12, bif_f f13, bif_f f14, bif_f f15, bif_f f16, bif_f f17, bif_f f18, bif_f f19, bif_f f20, bif_f f21, bif_f f22, bif_f f23, bif_f f24, bif_f f25, bif_t f26]
                                                        exact by_ (.tup [num 2, num 2]) Try.func15 rfl [ends f0, ends f1, ends f2, ends f3, ends f4, ends f5, ends f6, ends f7, ends f8, ends f9, ends f10, ends f11, ends f12, ends f13, ends f14, ends f15, ends f16, ends f17, ends f18, ends f19, ends f20, ends f21, ends f22, ends f23, ends f24, ends f25, ends f26] (by kernel_rfl)
                                                      · rw [bif_f f0, bif_f f1, bif_f f2, bif_f f3, bif_f f4, bif_f f5, bif_f f6, bif_f f7, bif_f f8, bif_f f9, bif_f f10, bif_f f11, bif_f f12, bif_f f13, bif_f f14, bif_f f15, bif_f f16, bif_f f17, bif_f f18, bif_f f19, bif_f f20, bif_f f21, bif_f f22, bif_f f23, bif_f f24, bif_f f25, bif_f f26]
                                                        exact by_ (.tup [num (-1), num (-1)]) Try.func15 rfl [ends f0, ends f1, ends f2, ends f3, ends f4, ends f5, ends f6, ends f7, ends f8, ends f9, ends f10, ends f11, ends f12, ends f13, ends f14, ends f15, ends f16, ends f17, ends f18, ends f19, ends f20, ends f21, ends f22, ends f23, ends f24, ends f25, ends f26] (by kernel_rfl)
def rWrittenL_S (c : Cod) (n : Nat) (slot : Int)  (i : Int) : St := ⟨sparse 41 [(1, .g (num (n : Int))), (2, .g (num slot)), (3, .g (.one (.ptr 0 0))), (7, .g (num i))], [some (false, [.v (.int .i64 c.ins), .v (.int .i64 c.outs), .v (.int .i64 c.slots), .v (.int .i64 c.crosses), .v (.int .i64 c.lines), vals' c.mems, vals' c.conts, inss c.step, inss c.deriv, inss c.cross])], 0⟩
def rWrittenL_X (c : Cod) (n : Nat) (slot : Int)  : St := ⟨sparse 41 [(2, .g (num slot))], [some (false, [.v (.int .i64 c.ins), .v (.int .i64 c.outs), .v (.int .i64 c.slots), .v (.int .i64 c.crosses), .v (.int .i64 c.lines), vals' c.mems, vals' c.conts, inss c.step, inss c.deriv, inss c.cross])], 0⟩
def rWrittenL_Y (c : Cod) (n : Nat) (slot : Int) (o : Bool) : St := ⟨sparse 41 [(6, .g (truth o))], [], 0⟩
def rWrittenL (c : Cod) (n : Nat) (slot : Int) : Nat → Nat → Sum Unit Bool
  | 0, i => .inl ()
  | d + 1, i => if ((rArgs ((gx c.step i).op)).1) ≥ (0 : Int) then (if ((gx c.step i).dst) = slot then (.inr (rIn slot c.slots)) else (rWrittenL c n slot d (i + 1) )) else (rWrittenL c n slot d (i + 1) )
theorem rWrittenL_rounds (c : Cod) (n : Nat) (slot : Int) (hn : n ≤ c.step.length) (hb : c.step.length < 4000000000000000000) : ∀ (d i : Nat) , i + d = n → (∀ o, rWrittenL c n slot d i  = .inl o → Rounds Try.prog (lp Try.f45 0) (rWrittenL_S c n slot  i) (.exit 0) (rWrittenL_X c n slot )) ∧ (∀ o, rWrittenL c n slot d i  = .inr o → Rounds Try.prog (lp Try.f45 0) (rWrittenL_S c n slot  i) .ret (rWrittenL_Y c n slot o))
  | 0, i, hi => by
    have hge : ¬ (i : Int) < (n : Int) := by omega
    refine ⟨fun o h => ?_, fun o h => by cases h⟩
    cases h
    exact Rounds.out (at_m [] _ _ [ends (decide_eq_false hge)] [] none_ (by kernel_rfl)) (by simp)
  | d + 1, i, hi => by
    have hlt : (i : Int) < (n : Int) := by omega
    have ih := rWrittenL_rounds c n slot hn hb d
    unfold rWrittenL
    by_cases f0 : ((rArgs ((gx c.step i).op)).1) ≥ (0 : Int)
    · by_cases f1 : ((gx c.step i).dst) = slot
      · rw [if_pos f0, if_pos f1]
        refine ⟨fun o h => by (cases h), fun o h => ?_⟩
        cases h
        exact Rounds.out (at_m [] .ret (rWrittenL_Y c n slot (rIn slot c.slots)) [ends (decide_eq_true hlt), elem (ins_ad (by omega : i < c.step.length)), gives (rArgs_con ((gx c.step i).op)), ends (decide_eq_true f0), elem (ins_ad (by omega : i < c.step.length)), ends (eq_t f1), gives (rIn_con slot c.slots)] [] none_ (by kernel_rfl)) (by simp)
      · rw [if_pos f0, if_neg f1]
        have step := at_m [] (c := (lp Try.f45 0)) (p := (rWrittenL_S c n slot  i)) .normal (rWrittenL_S c n slot  (IntKind.i64.wrap ((i : Int) + (1 : Int)))) [ends (decide_eq_true hlt), elem (ins_ad (by omega : i < c.step.length)), gives (rArgs_con ((gx c.step i).op)), ends (decide_eq_true f0), elem (ins_ad (by omega : i < c.step.length)), ends (eq_f f1)] [] none_ (by kernel_rfl)
        rw [next i (by omega)] at step
        exact ⟨fun o h => ((ih (i + 1)  (by omega)).1 o h).step' step, fun o h => ((ih (i + 1)  (by omega)).2 o h).step' step⟩
    · rw [if_neg f0]
      have step := at_m [] (c := (lp Try.f45 0)) (p := (rWrittenL_S c n slot  i)) .normal (rWrittenL_S c n slot  (IntKind.i64.wrap ((i : Int) + (1 : Int)))) [ends (decide_eq_true hlt), elem (ins_ad (by omega : i < c.step.length)), gives (rArgs_con ((gx c.step i).op)), ends (decide_eq_false f0), ends (rfl : false = false)] [] none_ (by kernel_rfl)
      rw [next i (by omega)] at step
      exact ⟨fun o h => ((ih (i + 1)  (by omega)).1 o h).step' step, fun o h => ((ih (i + 1)  (by omega)).2 o h).step' step⟩
def rWritten (c : Cod) (n : Nat) (slot : Int) : Bool := (match rWrittenL c n slot n 0 with | .inl of0 => false | .inr of0 => of0)
theorem rWritten_con (c : Cod) (n : Nat) (slot : Int) (hn : n ≤ c.step.length) (hb : c.step.length < 4000000000000000000) : Con Try.prog 45 [.agg (c.c), num (n : Int), num slot] (.g (truth (rWritten c n slot))) := by
  unfold rWritten
  rcases sc (rWrittenL c n slot n 0) with ⟨of0, f0⟩ | ⟨of0, f0⟩
  · simp only [f0]
    exact by_ (.g (truth false)) Try.func45 rfl [goes ((rWrittenL_rounds c n slot hn hb n 0 (by omega)).1 _ f0).loop] (by kernel_rfl)
  · simp only [f0]
    exact by_ (.g (truth of0)) Try.func45 rfl [goes ((rWrittenL_rounds c n slot hn hb n 0 (by omega)).2 _ f0).loop] (by kernel_rfl)
def rAllL_S (c : Cod) (n : Nat) (l : List Int)  (i : Int) : St := ⟨sparse 22 [(1, .g (num (n : Int))), (2, .g (.one (ints l))), (3, .g (.one (.ptr 0 0))), (7, .g (num i))], [some (false, [.v (.int .i64 c.ins), .v (.int .i64 c.outs), .v (.int .i64 c.slots), .v (.int .i64 c.crosses), .v (.int .i64 c.lines), vals' c.mems, vals' c.conts, inss c.step, inss c.deriv, inss c.cross])], 0⟩
def rAllL_X (c : Cod) (n : Nat) (l : List Int)  : St := ⟨sparse 22 [], [some (false, [.v (.int .i64 c.ins), .v (.int .i64 c.outs), .v (.int .i64 c.slots), .v (.int .i64 c.crosses), .v (.int .i64 c.lines), vals' c.mems, vals' c.conts, inss c.step, inss c.deriv, inss c.cross])], 0⟩
def rAllL_Y (c : Cod) (n : Nat) (l : List Int) (o : Bool) : St := ⟨sparse 22 [(6, .g (truth o))], [], 0⟩
def rAllL (c : Cod) (n : Nat) (l : List Int) : Nat → Nat → Sum Unit Bool
  | 0, i => .inl ()
  | d + 1, i => bif rWritten c n (gi l i) then (rAllL c n l d (i + 1) ) else (.inr false)
theorem rAllL_rounds (c : Cod) (n : Nat) (l : List Int) (hn : n ≤ c.step.length) (hb : c.step.length < 4000000000000000000) (hl : l.length < 4000000000000000000) : ∀ (d i : Nat) , i + d = l.length → (∀ o, rAllL c n l d i  = .inl o → Rounds Try.prog (lp Try.f43 0) (rAllL_S c n l  i) (.exit 0) (rAllL_X c n l )) ∧ (∀ o, rAllL c n l d i  = .inr o → Rounds Try.prog (lp Try.f43 0) (rAllL_S c n l  i) .ret (rAllL_Y c n l o))
  | 0, i, hi => by
    have hge : ¬ (i : Int) < (l.length : Int) := by omega
    refine ⟨fun o h => ?_, fun o h => by cases h⟩
    cases h
    exact Rounds.out (at_m [] _ _ [ends (decide_eq_false hge)] [] none_ (by kernel_rfl)) (by simp)
  | d + 1, i, hi => by
    have hlt : (i : Int) < (l.length : Int) := by omega
    have ih := rAllL_rounds c n l hn hb hl d
    unfold rAllL
    rcases bc (rWritten c n (gi l i)) with f0 | f0
    · rw [bif_t f0]
      have step := at_m [] (c := (lp Try.f43 0)) (p := (rAllL_S c n l  i)) .normal (rAllL_S c n l  (IntKind.i64.wrap ((i : Int) + (1 : Int)))) [ends (decide_eq_true hlt), elem (int_ad (by omega : i < l.length)), gives (rWritten_con c n (gi l i) (by omega) hb), ends (nt f0)] [] none_ (by kernel_rfl)
      rw [next i (by omega)] at step
      exact ⟨fun o h => ((ih (i + 1)  (by omega)).1 o h).step' step, fun o h => ((ih (i + 1)  (by omega)).2 o h).step' step⟩
    · rw [bif_f f0]
      refine ⟨fun o h => by (cases h), fun o h => ?_⟩
      cases h
      exact Rounds.out (at_m [] .ret (rAllL_Y c n l false) [ends (decide_eq_true hlt), elem (int_ad (by omega : i < l.length)), gives (rWritten_con c n (gi l i) (by omega) hb), ends (nf f0)] [] none_ (by kernel_rfl)) (by simp)
def rAll (c : Cod) (n : Nat) (l : List Int) : Bool := (match rAllL c n l l.length 0 with | .inl of0 => true | .inr of0 => of0)
theorem rAll_con (c : Cod) (n : Nat) (l : List Int) (hn : n ≤ c.step.length) (hb : c.step.length < 4000000000000000000) (hl : l.length < 4000000000000000000) : Con Try.prog 43 [.agg (c.c), num (n : Int), .one (ints l)] (.g (truth (rAll c n l))) := by
  unfold rAll
  rcases sc (rAllL c n l l.length 0) with ⟨of0, f0⟩ | ⟨of0, f0⟩
  · simp only [f0]
    exact by_ (.g (truth true)) Try.func43 rfl [goes ((rAllL_rounds c n l hn hb hl l.length 0 (by omega)).1 _ f0).loop] (by kernel_rfl)
  · simp only [f0]
    exact by_ (.g (truth of0)) Try.func43 rfl [goes ((rAllL_rounds c n l hn hb hl l.length 0 (by omega)).2 _ f0).loop] (by kernel_rfl)
def rGuard (c : Cod) (n : Nat) (g : Int) : Bool := if g < (0 : Int) then (true) else (rWritten c n g)
theorem rGuard_con (c : Cod) (n : Nat) (g : Int) (hn : n ≤ c.step.length) (hb : c.step.length < 4000000000000000000) : Con Try.prog 42 [.agg (c.c), num (n : Int), num g] (.g (truth (rGuard c n g))) := by
  unfold rGuard
  by_cases f0 : g < (0 : Int)
  · rw [if_pos f0]
    exact by_ (.g (truth true)) Try.func42 rfl [ends (decide_eq_true f0)] (by kernel_rfl)
  · rw [if_neg f0]
    exact by_ (.g (truth (rWritten c n g))) Try.func42 rfl [ends (decide_eq_false f0), gives (rWritten_con c n g (by omega) hb)] (by kernel_rfl)
def rStep (c : Cod) (i : Nat) : Bool := bif rGuard c i ((gx c.step i).guard) then (bif rAll c i ((gx c.step i).args) then (bif rAll c i ((gx c.step i).resets) then (if ((rArgs ((gx c.step i).op)).1) ≥ (0 : Int) then (if (((gx c.step i).args).length : Int) < ((rArgs ((gx c.step i).op)).1) then (false) else (if (((gx c.step i).args).length : Int) > ((rArgs ((gx c.step i).op)).2) then (false) else (bif rIn ((gx c.step i).dst) c.slots then (bif is ((gx c.step i).op) (⟨#[109, 101, 109]⟩ : ByteArray) then (bif is ((gx c.step i).op) (⟨#[105, 110]⟩ : ByteArray) then (rIn ((gx c.step i).k) c.ins) else (rIn ((gx c.step i).k) (c.mems.length : Int))) else (bif is ((gx c.step i).op) (⟨#[99, 111, 110, 116]⟩ : ByteArray) then (bif is ((gx c.step i).op) (⟨#[105, 110]⟩ : ByteArray) then (rIn ((gx c.step i).k) c.ins) else (rIn ((gx c.step i).k) (c.conts.length : Int))) else (bif is ((gx c.step i).op) (⟨#[107, 101, 101, 112]⟩ : ByteArray) then (bif is ((gx c.step i).op) (⟨#[105, 110]⟩ : ByteArray) then (rIn ((gx c.step i).k) c.ins) else (bif is ((gx c.step i).op) (⟨#[102, 108, 97, 103]⟩ : ByteArray) then (rIn ((gx c.step i).k) c.crosses) else (if (((gx c.step i).args).length : Int) = (1 : Int) then (rIn ((gx c.step i).k) (c.mems.length : Int)) else (false)))) else (bif is ((gx c.step i).op) (⟨#[115, 116, 97, 116, 101]⟩ : ByteArray) then (bif is ((gx c.step i).op) (⟨#[105, 110]⟩ : ByteArray) then (rIn ((gx c.step i).k) c.ins) else (bif is ((gx c.step i).op) (⟨#[102, 108, 97, 103]⟩ : ByteArray) then (rIn ((gx c.step i).k) c.crosses) else (if (((gx c.step i).args).length : Int) = (1 : Int) then (rIn ((gx c.step i).k) (c.conts.length : Int)) else (false)))) else (if (((gx c.step i).resets).length : Int) > (0 : Int) then (false) else (bif is ((gx c.step i).op) (⟨#[105, 110]⟩ : ByteArray) then (rIn ((gx c.step i).k) c.ins) else (bif is ((gx c.step i).op) (⟨#[102, 108, 97, 103]⟩ : ByteArray) then (rIn ((gx c.step i).k) c.crosses) else (bif is ((gx c.step i).op) (⟨#[111, 117, 116]⟩ : ByteArray) then (if (((gx c.step i).args).length : Int) = (1 : Int) then (rIn ((gx c.step i).k) c.outs) else (false)) else (bif is ((gx c.step i).op) (⟨#[97, 103, 97, 105, 110]⟩ : ByteArray) then (((((gx c.step i).args).length : Int) == (1 : Int))) else (decide (((rArgs ((gx c.step i).op)).1) ≥ (0 : Int)))))))))))) else (false)))) else (bif is ((gx c.step i).op) (⟨#[109, 101, 109]⟩ : ByteArray) then (bif is ((gx c.step i).op) (⟨#[105, 110]⟩ : ByteArray) then (rIn ((gx c.step i).k) c.ins) else (rIn ((gx c.step i).k) (c.mems.length : Int))) else (bif is ((gx c.step i).op) (⟨#[99, 111, 110, 116]⟩ : ByteArray) then (bif is ((gx c.step i).op) (⟨#[105, 110]⟩ : ByteArray) then (rIn ((gx c.step i).k) c.ins) else (rIn ((gx c.step i).k) (c.conts.length : Int))) else (bif is ((gx c.step i).op) (⟨#[107, 101, 101, 112]⟩ : ByteArray) then (bif is ((gx c.step i).op) (⟨#[105, 110]⟩ : ByteArray) then (rIn ((gx c.step i).k) c.ins) else (bif is ((gx c.step i).op) (⟨#[102, 108, 97, 103]⟩ : ByteArray) then (rIn ((gx c.step i).k) c.crosses) else (if (((gx c.step i).args).length : Int) = (1 : Int) then (rIn ((gx c.step i).k) (c.mems.length : Int)) else (false)))) else (bif is ((gx c.step i).op) (⟨#[115, 116, 97, 116, 101]⟩ : ByteArray) then (bif is ((gx c.step i).op) (⟨#[105, 110]⟩ : ByteArray) then (rIn ((gx c.step i).k) c.ins) else (bif is ((gx c.step i).op) (⟨#[102, 108, 97, 103]⟩ : ByteArray) then (rIn ((gx c.step i).k) c.crosses) else (if (((gx c.step i).args).length : Int) = (1 : Int) then (rIn ((gx c.step i).k) (c.conts.length : Int)) else (false)))) else (if (((gx c.step i).resets).length : Int) > (0 : Int) then (false) else (bif is ((gx c.step i).op) (⟨#[105, 110]⟩ : ByteArray) then (rIn ((gx c.step i).k) c.ins) else (bif is ((gx c.step i).op) (⟨#[102, 108, 97, 103]⟩ : ByteArray) then (rIn ((gx c.step i).k) c.crosses) else (bif is ((gx c.step i).op) (⟨#[111, 117, 116]⟩ : ByteArray) then (if (((gx c.step i).args).length : Int) = (1 : Int) then (rIn ((gx c.step i).k) c.outs) else (false)) else (bif is ((gx c.step i).op) (⟨#[97, 103, 97, 105, 110]⟩ : ByteArray) then (((((gx c.step i).args).length : Int) == (1 : Int))) else (decide (((rArgs ((gx c.step i).op)).1) ≥ (0 : Int))))))))))))) else (false)) else (false)) else (false)
theorem rStep_con (c : Cod) (i : Nat) (hi : i < c.step.length) (hb : c.step.length < 4000000000000000000) (ha : (gx c.step i).args.length < 4000000000000000000) (hr : (gx c.step i).resets.length < 4000000000000000000) : Con Try.prog 22 [.agg (c.c), num (i : Int)] (.g (truth (rStep c i))) := by
  unfold rStep
  rcases bc (rGuard c i ((gx c.step i).guard)) with f0 | f0
  · rcases bc (rAll c i ((gx c.step i).args)) with f1 | f1
    · rcases bc (rAll c i ((gx c.step i).resets)) with f2 | f2
      · by_cases f3 : ((rArgs ((gx c.step i).op)).1) ≥ (0 : Int)
        · by_cases f4 : (((gx c.step i).args).length : Int) < ((rArgs ((gx c.step i).op)).1)
          · rw [bif_t f0, bif_t f1, bif_t f2, if_pos f3, if_pos f4]
            exact by_ (.g (truth false)) Try.func22 rfl [elem (ins_ad (by omega : i < c.step.length)), gives (rGuard_con c i ((gx c.step i).guard) (by omega) hb), ends (nt f0), gives (rAll_con c i ((gx c.step i).args) (by omega) hb (by omega)), ends (nt f1), gives (rAll_con c i ((gx c.step i).resets) (by omega) hb (by omega)), ends (nt f2), gives (rArgs_con ((gx c.step i).op)), ends (decide_eq_true f3), ends (decide_eq_true f4), ends (rfl : true = true), ends (rfl : true = true)] (by kernel_rfl)
          · by_cases f5 : (((gx c.step i).args).length : Int) > ((rArgs ((gx c.step i).op)).2)
            · rw [bif_t f0, bif_t f1, bif_t f2, if_pos f3, if_neg f4, if_pos f5]
              exact by_ (.g (truth false)) Try.func22 rfl [elem (ins_ad (by omega : i < c.step.length)), gives (rGuard_con c i ((gx c.step i).guard) (by omega) hb), ends (nt f0), gives (rAll_con c i ((gx c.step i).args) (by omega) hb (by omega)), ends (nt f1), gives (rAll_con c i ((gx c.step i).resets) (by omega) hb (by omega)), ends (nt f2), gives (rArgs_con ((gx c.step i).op)), ends (decide_eq_true f3), ends (decide_eq_false f4), ends (decide_eq_true f5), ends (rfl : true = true)] (by kernel_rfl)
            · rcases bc (rIn ((gx c.step i).dst) c.slots) with f6 | f6
              · rcases bc (is ((gx c.step i).op) (⟨#[109, 101, 109]⟩ : ByteArray)) with f7 | f7
                · rcases bc (is ((gx c.step i).op) (⟨#[105, 110]⟩ : ByteArray)) with f8 | f8
                  · rw [bif_t f0, bif_t f1, bif_t f2, if_pos f3, if_neg f4, if_neg f5, bif_t f6, bif_t f7, bif_t f8]
                    exact by_ (.g (truth (rIn ((gx c.step i).k) c.ins))) Try.func22 rfl [elem (ins_ad (by omega : i < c.step.length)), gives (rGuard_con c i ((gx c.step i).guard) (by omega) hb), ends (nt f0), gives (rAll_con c i ((gx c.step i).args) (by omega) hb (by omega)), ends (nt f1), gives (rAll_con c i ((gx c.step i).resets) (by omega) hb (by omega)), ends (nt f2), gives (rArgs_con ((gx c.step i).op)), ends (decide_eq_true f3), ends (decide_eq_false f4), ends (decide_eq_false f5), gives (rIn_con ((gx c.step i).dst) c.slots), ends (nt f6), ends (nt f7), ends (rfl : false = false), ends (rfl : false = false), ends (rfl : false = false), ends (rfl : false = false), ends f8, gives (rIn_con ((gx c.step i).k) c.ins)] (by kernel_rfl)
                  · rw [bif_t f0, bif_t f1, bif_t f2, if_pos f3, if_neg f4, if_neg f5, bif_t f6, bif_t f7, bif_f f8]
                    exact by_ (.g (truth (rIn ((gx c.step i).k) (c.mems.length : Int)))) Try.func22 rfl [elem (ins_ad (by omega : i < c.step.length)), gives (rGuard_con c i ((gx c.step i).guard) (by omega) hb), ends (nt f0), gives (rAll_con c i ((gx c.step i).args) (by omega) hb (by omega)), ends (nt f1), gives (rAll_con c i ((gx c.step i).resets) (by omega) hb (by omega)), ends (nt f2), gives (rArgs_con ((gx c.step i).op)), ends (decide_eq_true f3), ends (decide_eq_false f4), ends (decide_eq_false f5), gives (rIn_con ((gx c.step i).dst) c.slots), ends (nt f6), ends (nt f7), ends (rfl : false = false), ends (rfl : false = false), ends (rfl : false = false), ends (rfl : false = false), ends f8, ends f7, gives (rIn_con ((gx c.step i).k) (c.mems.length : Int))] (by kernel_rfl)
                · rcases bc (is ((gx c.step i).op) (⟨#[99, 111, 110, 116]⟩ : ByteArray)) with f8 | f8
                  · rcases bc (is ((gx c.step i).op) (⟨#[105, 110]⟩ : ByteArray)) with f9 | f9
                    · rw [bif_t f0, bif_t f1, bif_t f2, if_pos f3, if_neg f4, if_neg f5, bif_t f6, bif_f f7, bif_t f8, bif_t f9]
                      exact by_ (.g (truth (rIn ((gx c.step i).k) c.ins))) Try.func22 rfl [elem (ins_ad (by omega : i < c.step.length)), gives (rGuard_con c i ((gx c.step i).guard) (by omega) hb), ends (nt f0), gives (rAll_con c i ((gx c.step i).args) (by omega) hb (by omega)), ends (nt f1), gives (rAll_con c i ((gx c.step i).resets) (by omega) hb (by omega)), ends (nt f2), gives (rArgs_con ((gx c.step i).op)), ends (decide_eq_true f3), ends (decide_eq_false f4), ends (decide_eq_false f5), gives (rIn_con ((gx c.step i).dst) c.slots), ends (nt f6), ends (nf f7), ends (nt f8), ends (rfl : false = false), ends (rfl : false = false), ends (rfl : false = false), ends f9, gives (rIn_con ((gx c.step i).k) c.ins)] (by kernel_rfl)
                    · rw [bif_t f0, bif_t f1, bif_t f2, if_pos f3, if_neg f4, if_neg f5, bif_t f6, bif_f f7, bif_t f8, bif_f f9]
                      exact by_ (.g (truth (rIn ((gx c.step i).k) (c.conts.length : Int)))) Try.func22 rfl [elem (ins_ad (by omega : i < c.step.length)), gives (rGuard_con c i ((gx c.step i).guard) (by omega) hb), ends (nt f0), gives (rAll_con c i ((gx c.step i).args) (by omega) hb (by omega)), ends (nt f1), gives (rAll_con c i ((gx c.step i).resets) (by omega) hb (by omega)), ends (nt f2), gives (rArgs_con ((gx c.step i).op)), ends (decide_eq_true f3), ends (decide_eq_false f4), ends (decide_eq_false f5), gives (rIn_con ((gx c.step i).dst) c.slots), ends (nt f6), ends (nf f7), ends (nt f8), ends (rfl : false = false), ends (rfl : false = false), ends (rfl : false = false), ends f9, ends f7, ends f8, gives (rIn_con ((gx c.step i).k) (c.conts.length : Int))] (by kernel_rfl)
                  · rcases bc (is ((gx c.step i).op) (⟨#[107, 101, 101, 112]⟩ : ByteArray)) with f9 | f9
                    · rcases bc (is ((gx c.step i).op) (⟨#[105, 110]⟩ : ByteArray)) with f10 | f10
                      · rw [bif_t f0, bif_t f1, bif_t f2, if_pos f3, if_neg f4, if_neg f5, bif_t f6, bif_f f7, bif_f f8, bif_t f9, bif_t f10]
                        exact by_ (.g (truth (rIn ((gx c.step i).k) c.ins))) Try.func22 rfl [elem (ins_ad (by omega : i < c.step.length)), gives (rGuard_con c i ((gx c.step i).guard) (by omega) hb), ends (nt f0), gives (rAll_con c i ((gx c.step i).args) (by omega) hb (by omega)), ends (nt f1), gives (rAll_con c i ((gx c.step i).resets) (by omega) hb (by omega)), ends (nt f2), gives (rArgs_con ((gx c.step i).op)), ends (decide_eq_true f3), ends (decide_eq_false f4), ends (decide_eq_false f5), gives (rIn_con ((gx c.step i).dst) c.slots), ends (nt f6), ends (nf f7), ends (nf f8), ends (nt f9), ends (rfl : false = false), ends (rfl : false = false), ends f10, gives (rIn_con ((gx c.step i).k) c.ins)] (by kernel_rfl)
                      · rcases bc (is ((gx c.step i).op) (⟨#[102, 108, 97, 103]⟩ : ByteArray)) with f11 | f11
                        · rw [bif_t f0, bif_t f1, bif_t f2, if_pos f3, if_neg f4, if_neg f5, bif_t f6, bif_f f7, bif_f f8, bif_t f9, bif_f f10, bif_t f11]
                          exact by_ (.g (truth (rIn ((gx c.step i).k) c.crosses))) Try.func22 rfl [elem (ins_ad (by omega : i < c.step.length)), gives (rGuard_con c i ((gx c.step i).guard) (by omega) hb), ends (nt f0), gives (rAll_con c i ((gx c.step i).args) (by omega) hb (by omega)), ends (nt f1), gives (rAll_con c i ((gx c.step i).resets) (by omega) hb (by omega)), ends (nt f2), gives (rArgs_con ((gx c.step i).op)), ends (decide_eq_true f3), ends (decide_eq_false f4), ends (decide_eq_false f5), gives (rIn_con ((gx c.step i).dst) c.slots), ends (nt f6), ends (nf f7), ends (nf f8), ends (nt f9), ends (rfl : false = false), ends (rfl : false = false), ends f10, ends f7, ends f8, ends f11, gives (rIn_con ((gx c.step i).k) c.crosses)] (by kernel_rfl)
                        · by_cases f12 : (((gx c.step i).args).length : Int) = (1 : Int)
                          · rw [bif_t f0, bif_t f1, bif_t f2, if_pos f3, if_neg f4, if_neg f5, bif_t f6, bif_f f7, bif_f f8, bif_t f9, bif_f f10, bif_f f11, if_pos f12]
                            exact by_ (.g (truth (rIn ((gx c.step i).k) (c.mems.length : Int)))) Try.func22 rfl [elem (ins_ad (by omega : i < c.step.length)), gives (rGuard_con c i ((gx c.step i).guard) (by omega) hb), ends (nt f0), gives (rAll_con c i ((gx c.step i).args) (by omega) hb (by omega)), ends (nt f1), gives (rAll_con c i ((gx c.step i).resets) (by omega) hb (by omega)), ends (nt f2), gives (rArgs_con ((gx c.step i).op)), ends (decide_eq_true f3), ends (decide_eq_false f4), ends (decide_eq_false f5), gives (rIn_con ((gx c.step i).dst) c.slots), ends (nt f6), ends (nf f7), ends (nf f8), ends (nt f9), ends (rfl : false = false), ends (rfl : false = false), ends f10, ends f7, ends f8, ends f11, ends f9, ends (eq_t f12), gives (rIn_con ((gx c.step i).k) (c.mems.length : Int))] (by kernel_rfl)
                          · rw [bif_t f0, bif_t f1, bif_t f2, if_pos f3, if_neg f4, if_neg f5, bif_t f6, bif_f f7, bif_f f8, bif_t f9, bif_f f10, bif_f f11, if_neg f12]
                            exact by_ (.g (truth false)) Try.func22 rfl [elem (ins_ad (by omega : i < c.step.length)), gives (rGuard_con c i ((gx c.step i).guard) (by omega) hb), ends (nt f0), gives (rAll_con c i ((gx c.step i).args) (by omega) hb (by omega)), ends (nt f1), gives (rAll_con c i ((gx c.step i).resets) (by omega) hb (by omega)), ends (nt f2), gives (rArgs_con ((gx c.step i).op)), ends (decide_eq_true f3), ends (decide_eq_false f4), ends (decide_eq_false f5), gives (rIn_con ((gx c.step i).dst) c.slots), ends (nt f6), ends (nf f7), ends (nf f8), ends (nt f9), ends (rfl : false = false), ends (rfl : false = false), ends f10, ends f7, ends f8, ends f11, ends f9, ends (eq_f f12)] (by kernel_rfl)
                    · rcases bc (is ((gx c.step i).op) (⟨#[115, 116, 97, 116, 101]⟩ : ByteArray)) with f10 | f10
                      · rcases bc (is ((gx c.step i).op) (⟨#[105, 110]⟩ : ByteArray)) with f11 | f11
                        · rw [bif_t f0, bif_t f1, bif_t f2, if_pos f3, if_neg f4, if_neg f5, bif_t f6, bif_f f7, bif_f f8, bif_f f9, bif_t f10, bif_t f11]
                          exact by_ (.g (truth (rIn ((gx c.step i).k) c.ins))) Try.func22 rfl [elem (ins_ad (by omega : i < c.step.length)), gives (rGuard_con c i ((gx c.step i).guard) (by omega) hb), ends (nt f0), gives (rAll_con c i ((gx c.step i).args) (by omega) hb (by omega)), ends (nt f1), gives (rAll_con c i ((gx c.step i).resets) (by omega) hb (by omega)), ends (nt f2), gives (rArgs_con ((gx c.step i).op)), ends (decide_eq_true f3), ends (decide_eq_false f4), ends (decide_eq_false f5), gives (rIn_con ((gx c.step i).dst) c.slots), ends (nt f6), ends (nf f7), ends (nf f8), ends (nf f9), ends (nt f10), ends (rfl : false = false), ends f11, gives (rIn_con ((gx c.step i).k) c.ins)] (by kernel_rfl)
                        · rcases bc (is ((gx c.step i).op) (⟨#[102, 108, 97, 103]⟩ : ByteArray)) with f12 | f12
                          · rw [bif_t f0, bif_t f1, bif_t f2, if_pos f3, if_neg f4, if_neg f5, bif_t f6, bif_f f7, bif_f f8, bif_f f9, bif_t f10, bif_f f11, bif_t f12]
                            exact by_ (.g (truth (rIn ((gx c.step i).k) c.crosses))) Try.func22 rfl [elem (ins_ad (by omega : i < c.step.length)), gives (rGuard_con c i ((gx c.step i).guard) (by omega) hb), ends (nt f0), gives (rAll_con c i ((gx c.step i).args) (by omega) hb (by omega)), ends (nt f1), gives (rAll_con c i ((gx c.step i).resets) (by omega) hb (by omega)), ends (nt f2), gives (rArgs_con ((gx c.step i).op)), ends (decide_eq_true f3), ends (decide_eq_false f4), ends (decide_eq_false f5), gives (rIn_con ((gx c.step i).dst) c.slots), ends (nt f6), ends (nf f7), ends (nf f8), ends (nf f9), ends (nt f10), ends (rfl : false = false), ends f11, ends f7, ends f8, ends f12, gives (rIn_con ((gx c.step i).k) c.crosses)] (by kernel_rfl)
                          · by_cases f13 : (((gx c.step i).args).length : Int) = (1 : Int)
                            · rw [bif_t f0, bif_t f1, bif_t f2, if_pos f3, if_neg f4, if_neg f5, bif_t f6, bif_f f7, bif_f f8, bif_f f9, bif_t f10, bif_f f11, bif_f f12, if_pos f13]
                              exact by_ (.g (truth (rIn ((gx c.step i).k) (c.conts.length : Int)))) Try.func22 rfl [elem (ins_ad (by omega : i < c.step.length)), gives (rGuard_con c i ((gx c.step i).guard) (by omega) hb), ends (nt f0), gives (rAll_con c i ((gx c.step i).args) (by omega) hb (by omega)), ends (nt f1), gives (rAll_con c i ((gx c.step i).resets) (by omega) hb (by omega)), ends (nt f2), gives (rArgs_con ((gx c.step i).op)), ends (decide_eq_true f3), ends (decide_eq_false f4), ends (decide_eq_false f5), gives (rIn_con ((gx c.step i).dst) c.slots), ends (nt f6), ends (nf f7), ends (nf f8), ends (nf f9), ends (nt f10), ends (rfl : false = false), ends f11, ends f7, ends f8, ends f12, ends f9, ends f10, ends (eq_t f13), gives (rIn_con ((gx c.step i).k) (c.conts.length : Int))] (by kernel_rfl)
                            · rw [bif_t f0, bif_t f1, bif_t f2, if_pos f3, if_neg f4, if_neg f5, bif_t f6, bif_f f7, bif_f f8, bif_f f9, bif_t f10, bif_f f11, bif_f f12, if_neg f13]
                              exact by_ (.g (truth false)) Try.func22 rfl [elem (ins_ad (by omega : i < c.step.length)), gives (rGuard_con c i ((gx c.step i).guard) (by omega) hb), ends (nt f0), gives (rAll_con c i ((gx c.step i).args) (by omega) hb (by omega)), ends (nt f1), gives (rAll_con c i ((gx c.step i).resets) (by omega) hb (by omega)), ends (nt f2), gives (rArgs_con ((gx c.step i).op)), ends (decide_eq_true f3), ends (decide_eq_false f4), ends (decide_eq_false f5), gives (rIn_con ((gx c.step i).dst) c.slots), ends (nt f6), ends (nf f7), ends (nf f8), ends (nf f9), ends (nt f10), ends (rfl : false = false), ends f11, ends f7, ends f8, ends f12, ends f9, ends f10, ends (eq_f f13)] (by kernel_rfl)
                      · by_cases f11 : (((gx c.step i).resets).length : Int) > (0 : Int)
                        · rw [bif_t f0, bif_t f1, bif_t f2, if_pos f3, if_neg f4, if_neg f5, bif_t f6, bif_f f7, bif_f f8, bif_f f9, bif_f f10, if_pos f11]
                          exact by_ (.g (truth false)) Try.func22 rfl [elem (ins_ad (by omega : i < c.step.length)), gives (rGuard_con c i ((gx c.step i).guard) (by omega) hb), ends (nt f0), gives (rAll_con c i ((gx c.step i).args) (by omega) hb (by omega)), ends (nt f1), gives (rAll_con c i ((gx c.step i).resets) (by omega) hb (by omega)), ends (nt f2), gives (rArgs_con ((gx c.step i).op)), ends (decide_eq_true f3), ends (decide_eq_false f4), ends (decide_eq_false f5), gives (rIn_con ((gx c.step i).dst) c.slots), ends (nt f6), ends (nf f7), ends (nf f8), ends (nf f9), ends (nf f10), ends (decide_eq_true f11)] (by kernel_rfl)
                        · rcases bc (is ((gx c.step i).op) (⟨#[105, 110]⟩ : ByteArray)) with f12 | f12
                          · rw [bif_t f0, bif_t f1, bif_t f2, if_pos f3, if_neg f4, if_neg f5, bif_t f6, bif_f f7, bif_f f8, bif_f f9, bif_f f10, if_neg f11, bif_t f12]
                            exact by_ (.g (truth (rIn ((gx c.step i).k) c.ins))) Try.func22 rfl [elem (ins_ad (by omega : i < c.step.length)), gives (rGuard_con c i ((gx c.step i).guard) (by omega) hb), ends (nt f0), gives (rAll_con c i ((gx c.step i).args) (by omega) hb (by omega)), ends (nt f1), gives (rAll_con c i ((gx c.step i).resets) (by omega) hb (by omega)), ends (nt f2), gives (rArgs_con ((gx c.step i).op)), ends (decide_eq_true f3), ends (decide_eq_false f4), ends (decide_eq_false f5), gives (rIn_con ((gx c.step i).dst) c.slots), ends (nt f6), ends (nf f7), ends (nf f8), ends (nf f9), ends (nf f10), ends (decide_eq_false f11), ends f12, gives (rIn_con ((gx c.step i).k) c.ins)] (by kernel_rfl)
                          · rcases bc (is ((gx c.step i).op) (⟨#[102, 108, 97, 103]⟩ : ByteArray)) with f13 | f13
                            · rw [bif_t f0, bif_t f1, bif_t f2, if_pos f3, if_neg f4, if_neg f5, bif_t f6, bif_f f7, bif_f f8, bif_f f9, bif_f f10, if_neg f11, bif_f f12, bif_t f13]
                              exact by_ (.g (truth (rIn ((gx c.step i).k) c.crosses))) Try.func22 rfl [elem (ins_ad (by omega : i < c.step.length)), gives (rGuard_con c i ((gx c.step i).guard) (by omega) hb), ends (nt f0), gives (rAll_con c i ((gx c.step i).args) (by omega) hb (by omega)), ends (nt f1), gives (rAll_con c i ((gx c.step i).resets) (by omega) hb (by omega)), ends (nt f2), gives (rArgs_con ((gx c.step i).op)), ends (decide_eq_true f3), ends (decide_eq_false f4), ends (decide_eq_false f5), gives (rIn_con ((gx c.step i).dst) c.slots), ends (nt f6), ends (nf f7), ends (nf f8), ends (nf f9), ends (nf f10), ends (decide_eq_false f11), ends f12, ends f7, ends f8, ends f13, gives (rIn_con ((gx c.step i).k) c.crosses)] (by kernel_rfl)
                            · rcases bc (is ((gx c.step i).op) (⟨#[111, 117, 116]⟩ : ByteArray)) with f14 | f14
                              · by_cases f15 : (((gx c.step i).args).length : Int) = (1 : Int)
                                · rw [bif_t f0, bif_t f1, bif_t f2, if_pos f3, if_neg f4, if_neg f5, bif_t f6, bif_f f7, bif_f f8, bif_f f9, bif_f f10, if_neg f11, bif_f f12, bif_f f13, bif_t f14, if_pos f15]
                                  exact by_ (.g (truth (rIn ((gx c.step i).k) c.outs))) Try.func22 rfl [elem (ins_ad (by omega : i < c.step.length)), gives (rGuard_con c i ((gx c.step i).guard) (by omega) hb), ends (nt f0), gives (rAll_con c i ((gx c.step i).args) (by omega) hb (by omega)), ends (nt f1), gives (rAll_con c i ((gx c.step i).resets) (by omega) hb (by omega)), ends (nt f2), gives (rArgs_con ((gx c.step i).op)), ends (decide_eq_true f3), ends (decide_eq_false f4), ends (decide_eq_false f5), gives (rIn_con ((gx c.step i).dst) c.slots), ends (nt f6), ends (nf f7), ends (nf f8), ends (nf f9), ends (nf f10), ends (decide_eq_false f11), ends f12, ends f7, ends f8, ends f13, ends f9, ends f10, ends f14, ends (eq_t f15), gives (rIn_con ((gx c.step i).k) c.outs)] (by kernel_rfl)
                                · rw [bif_t f0, bif_t f1, bif_t f2, if_pos f3, if_neg f4, if_neg f5, bif_t f6, bif_f f7, bif_f f8, bif_f f9, bif_f f10, if_neg f11, bif_f f12, bif_f f13, bif_t f14, if_neg f15]
                                  exact by_ (.g (truth false)) Try.func22 rfl [elem (ins_ad (by omega : i < c.step.length)), gives (rGuard_con c i ((gx c.step i).guard) (by omega) hb), ends (nt f0), gives (rAll_con c i ((gx c.step i).args) (by omega) hb (by omega)), ends (nt f1), gives (rAll_con c i ((gx c.step i).resets) (by omega) hb (by omega)), ends (nt f2), gives (rArgs_con ((gx c.step i).op)), ends (decide_eq_true f3), ends (decide_eq_false f4), ends (decide_eq_false f5), gives (rIn_con ((gx c.step i).dst) c.slots), ends (nt f6), ends (nf f7), ends (nf f8), ends (nf f9), ends (nf f10), ends (decide_eq_false f11), ends f12, ends f7, ends f8, ends f13, ends f9, ends f10, ends f14, ends (eq_f f15)] (by kernel_rfl)
                              · rcases bc (is ((gx c.step i).op) (⟨#[97, 103, 97, 105, 110]⟩ : ByteArray)) with f15 | f15
                                · rw [bif_t f0, bif_t f1, bif_t f2, if_pos f3, if_neg f4, if_neg f5, bif_t f6, bif_f f7, bif_f f8, bif_f f9, bif_f f10, if_neg f11, bif_f f12, bif_f f13, bif_f f14, bif_t f15]
                                  exact by_ (.g (truth ((((gx c.step i).args).length : Int) == (1 : Int)))) Try.func22 rfl [elem (ins_ad (by omega : i < c.step.length)), gives (rGuard_con c i ((gx c.step i).guard) (by omega) hb), ends (nt f0), gives (rAll_con c i ((gx c.step i).args) (by omega) hb (by omega)), ends (nt f1), gives (rAll_con c i ((gx c.step i).resets) (by omega) hb (by omega)), ends (nt f2), gives (rArgs_con ((gx c.step i).op)), ends (decide_eq_true f3), ends (decide_eq_false f4), ends (decide_eq_false f5), gives (rIn_con ((gx c.step i).dst) c.slots), ends (nt f6), ends (nf f7), ends (nf f8), ends (nf f9), ends (nf f10), ends (decide_eq_false f11), ends f12, ends f7, ends f8, ends f13, ends f9, ends f10, ends f14, ends f15] (by kernel_rfl)
                                · rw [bif_t f0, bif_t f1, bif_t f2, if_pos f3, if_neg f4, if_neg f5, bif_t f6, bif_f f7, bif_f f8, bif_f f9, bif_f f10, if_neg f11, bif_f f12, bif_f f13, bif_f f14, bif_f f15]
                                  exact by_ (.g (truth (decide (((rArgs ((gx c.step i).op)).1) ≥ (0 : Int))))) Try.func22 rfl [elem (ins_ad (by omega : i < c.step.length)), gives (rGuard_con c i ((gx c.step i).guard) (by omega) hb), ends (nt f0), gives (rAll_con c i ((gx c.step i).args) (by omega) hb (by omega)), ends (nt f1), gives (rAll_con c i ((gx c.step i).resets) (by omega) hb (by omega)), ends (nt f2), gives (rArgs_con ((gx c.step i).op)), ends (decide_eq_true f3), ends (decide_eq_false f4), ends (decide_eq_false f5), gives (rIn_con ((gx c.step i).dst) c.slots), ends (nt f6), ends (nf f7), ends (nf f8), ends (nf f9), ends (nf f10), ends (decide_eq_false f11), ends f12, ends f7, ends f8, ends f13, ends f9, ends f10, ends f14, ends f15] (by kernel_rfl)
              · rw [bif_t f0, bif_t f1, bif_t f2, if_pos f3, if_neg f4, if_neg f5, bif_f f6]
                exact by_ (.g (truth false)) Try.func22 rfl [elem (ins_ad (by omega : i < c.step.length)), gives (rGuard_con c i ((gx c.step i).guard) (by omega) hb), ends (nt f0), gives (rAll_con c i ((gx c.step i).args) (by omega) hb (by omega)), ends (nt f1), gives (rAll_con c i ((gx c.step i).resets) (by omega) hb (by omega)), ends (nt f2), gives (rArgs_con ((gx c.step i).op)), ends (decide_eq_true f3), ends (decide_eq_false f4), ends (decide_eq_false f5), gives (rIn_con ((gx c.step i).dst) c.slots), ends (nf f6)] (by kernel_rfl)
        · rcases bc (is ((gx c.step i).op) (⟨#[109, 101, 109]⟩ : ByteArray)) with f4 | f4
          · rcases bc (is ((gx c.step i).op) (⟨#[105, 110]⟩ : ByteArray)) with f5 | f5
            · rw [bif_t f0, bif_t f1, bif_t f2, if_neg f3, bif_t f4, bif_t f5]
              exact by_ (.g (truth (rIn ((gx c.step i).k) c.ins))) Try.func22 rfl [elem (ins_ad (by omega : i < c.step.length)), gives (rGuard_con c i ((gx c.step i).guard) (by omega) hb), ends (nt f0), gives (rAll_con c i ((gx c.step i).args) (by omega) hb (by omega)), ends (nt f1), gives (rAll_con c i ((gx c.step i).resets) (by omega) hb (by omega)), ends (nt f2), gives (rArgs_con ((gx c.step i).op)), ends (decide_eq_false f3), ends (rfl : false = false), ends (nt f4), ends (rfl : false = false), ends (rfl : false = false), ends (rfl : false = false), ends (rfl : false = false), ends f5, gives (rIn_con ((gx c.step i).k) c.ins)] (by kernel_rfl)
            · rw [bif_t f0, bif_t f1, bif_t f2, if_neg f3, bif_t f4, bif_f f5]
              exact by_ (.g (truth (rIn ((gx c.step i).k) (c.mems.length : Int)))) Try.func22 rfl [elem (ins_ad (by omega : i < c.step.length)), gives (rGuard_con c i ((gx c.step i).guard) (by omega) hb), ends (nt f0), gives (rAll_con c i ((gx c.step i).args) (by omega) hb (by omega)), ends (nt f1), gives (rAll_con c i ((gx c.step i).resets) (by omega) hb (by omega)), ends (nt f2), gives (rArgs_con ((gx c.step i).op)), ends (decide_eq_false f3), ends (rfl : false = false), ends (nt f4), ends (rfl : false = false), ends (rfl : false = false), ends (rfl : false = false), ends (rfl : false = false), ends f5, ends f4, gives (rIn_con ((gx c.step i).k) (c.mems.length : Int))] (by kernel_rfl)
          · rcases bc (is ((gx c.step i).op) (⟨#[99, 111, 110, 116]⟩ : ByteArray)) with f5 | f5
            · rcases bc (is ((gx c.step i).op) (⟨#[105, 110]⟩ : ByteArray)) with f6 | f6
              · rw [bif_t f0, bif_t f1, bif_t f2, if_neg f3, bif_f f4, bif_t f5, bif_t f6]
                exact by_ (.g (truth (rIn ((gx c.step i).k) c.ins))) Try.func22 rfl [elem (ins_ad (by omega : i < c.step.length)), gives (rGuard_con c i ((gx c.step i).guard) (by omega) hb), ends (nt f0), gives (rAll_con c i ((gx c.step i).args) (by omega) hb (by omega)), ends (nt f1), gives (rAll_con c i ((gx c.step i).resets) (by omega) hb (by omega)), ends (nt f2), gives (rArgs_con ((gx c.step i).op)), ends (decide_eq_false f3), ends (rfl : false = false), ends (nf f4), ends (nt f5), ends (rfl : false = false), ends (rfl : false = false), ends (rfl : false = false), ends f6, gives (rIn_con ((gx c.step i).k) c.ins)] (by kernel_rfl)
              · rw [bif_t f0, bif_t f1, bif_t f2, if_neg f3, bif_f f4, bif_t f5, bif_f f6]
                exact by_ (.g (truth (rIn ((gx c.step i).k) (c.conts.length : Int)))) Try.func22 rfl [elem (ins_ad (by omega : i < c.step.length)), gives (rGuard_con c i ((gx c.step i).guard) (by omega) hb), ends (nt f0), gives (rAll_con c i ((gx c.step i).args) (by omega) hb (by omega)), ends (nt f1), gives (rAll_con c i ((gx c.step i).resets) (by omega) hb (by omega)), ends (nt f2), gives (rArgs_con ((gx c.step i).op)), ends (decide_eq_false f3), ends (rfl : false = false), ends (nf f4), ends (nt f5), ends (rfl : false = false), ends (rfl : false = false), ends (rfl : false = false), ends f6, ends f4, ends f5, gives (rIn_con ((gx c.step i).k) (c.conts.length : Int))] (by kernel_rfl)
            · rcases bc (is ((gx c.step i).op) (⟨#[107, 101, 101, 112]⟩ : ByteArray)) with f6 | f6
              · rcases bc (is ((gx c.step i).op) (⟨#[105, 110]⟩ : ByteArray)) with f7 | f7
                · rw [bif_t f0, bif_t f1, bif_t f2, if_neg f3, bif_f f4, bif_f f5, bif_t f6, bif_t f7]
                  exact by_ (.g (truth (rIn ((gx c.step i).k) c.ins))) Try.func22 rfl [elem (ins_ad (by omega : i < c.step.length)), gives (rGuard_con c i ((gx c.step i).guard) (by omega) hb), ends (nt f0), gives (rAll_con c i ((gx c.step i).args) (by omega) hb (by omega)), ends (nt f1), gives (rAll_con c i ((gx c.step i).resets) (by omega) hb (by omega)), ends (nt f2), gives (rArgs_con ((gx c.step i).op)), ends (decide_eq_false f3), ends (rfl : false = false), ends (nf f4), ends (nf f5), ends (nt f6), ends (rfl : false = false), ends (rfl : false = false), ends f7, gives (rIn_con ((gx c.step i).k) c.ins)] (by kernel_rfl)
                · rcases bc (is ((gx c.step i).op) (⟨#[102, 108, 97, 103]⟩ : ByteArray)) with f8 | f8
                  · rw [bif_t f0, bif_t f1, bif_t f2, if_neg f3, bif_f f4, bif_f f5, bif_t f6, bif_f f7, bif_t f8]
                    exact by_ (.g (truth (rIn ((gx c.step i).k) c.crosses))) Try.func22 rfl [elem (ins_ad (by omega : i < c.step.length)), gives (rGuard_con c i ((gx c.step i).guard) (by omega) hb), ends (nt f0), gives (rAll_con c i ((gx c.step i).args) (by omega) hb (by omega)), ends (nt f1), gives (rAll_con c i ((gx c.step i).resets) (by omega) hb (by omega)), ends (nt f2), gives (rArgs_con ((gx c.step i).op)), ends (decide_eq_false f3), ends (rfl : false = false), ends (nf f4), ends (nf f5), ends (nt f6), ends (rfl : false = false), ends (rfl : false = false), ends f7, ends f4, ends f5, ends f8, gives (rIn_con ((gx c.step i).k) c.crosses)] (by kernel_rfl)
                  · by_cases f9 : (((gx c.step i).args).length : Int) = (1 : Int)
                    · rw [bif_t f0, bif_t f1, bif_t f2, if_neg f3, bif_f f4, bif_f f5, bif_t f6, bif_f f7, bif_f f8, if_pos f9]
                      exact by_ (.g (truth (rIn ((gx c.step i).k) (c.mems.length : Int)))) Try.func22 rfl [elem (ins_ad (by omega : i < c.step.length)), gives (rGuard_con c i ((gx c.step i).guard) (by omega) hb), ends (nt f0), gives (rAll_con c i ((gx c.step i).args) (by omega) hb (by omega)), ends (nt f1), gives (rAll_con c i ((gx c.step i).resets) (by omega) hb (by omega)), ends (nt f2), gives (rArgs_con ((gx c.step i).op)), ends (decide_eq_false f3), ends (rfl : false = false), ends (nf f4), ends (nf f5), ends (nt f6), ends (rfl : false = false), ends (rfl : false = false), ends f7, ends f4, ends f5, ends f8, ends f6, ends (eq_t f9), gives (rIn_con ((gx c.step i).k) (c.mems.length : Int))] (by kernel_rfl)
                    · rw [bif_t f0, bif_t f1, bif_t f2, if_neg f3, bif_f f4, bif_f f5, bif_t f6, bif_f f7, bif_f f8, if_neg f9]
                      exact by_ (.g (truth false)) Try.func22 rfl [elem (ins_ad (by omega : i < c.step.length)), gives (rGuard_con c i ((gx c.step i).guard) (by omega) hb), ends (nt f0), gives (rAll_con c i ((gx c.step i).args) (by omega) hb (by omega)), ends (nt f1), gives (rAll_con c i ((gx c.step i).resets) (by omega) hb (by omega)), ends (nt f2), gives (rArgs_con ((gx c.step i).op)), ends (decide_eq_false f3), ends (rfl : false = false), ends (nf f4), ends (nf f5), ends (nt f6), ends (rfl : false = false), ends (rfl : false = false), ends f7, ends f4, ends f5, ends f8, ends f6, ends (eq_f f9)] (by kernel_rfl)
              · rcases bc (is ((gx c.step i).op) (⟨#[115, 116, 97, 116, 101]⟩ : ByteArray)) with f7 | f7
                · rcases bc (is ((gx c.step i).op) (⟨#[105, 110]⟩ : ByteArray)) with f8 | f8
                  · rw [bif_t f0, bif_t f1, bif_t f2, if_neg f3, bif_f f4, bif_f f5, bif_f f6, bif_t f7, bif_t f8]
                    exact by_ (.g (truth (rIn ((gx c.step i).k) c.ins))) Try.func22 rfl [elem (ins_ad (by omega : i < c.step.length)), gives (rGuard_con c i ((gx c.step i).guard) (by omega) hb), ends (nt f0), gives (rAll_con c i ((gx c.step i).args) (by omega) hb (by omega)), ends (nt f1), gives (rAll_con c i ((gx c.step i).resets) (by omega) hb (by omega)), ends (nt f2), gives (rArgs_con ((gx c.step i).op)), ends (decide_eq_false f3), ends (rfl : false = false), ends (nf f4), ends (nf f5), ends (nf f6), ends (nt f7), ends (rfl : false = false), ends f8, gives (rIn_con ((gx c.step i).k) c.ins)] (by kernel_rfl)
                  · rcases bc (is ((gx c.step i).op) (⟨#[102, 108, 97, 103]⟩ : ByteArray)) with f9 | f9
                    · rw [bif_t f0, bif_t f1, bif_t f2, if_neg f3, bif_f f4, bif_f f5, bif_f f6, bif_t f7, bif_f f8, bif_t f9]
                      exact by_ (.g (truth (rIn ((gx c.step i).k) c.crosses))) Try.func22 rfl [elem (ins_ad (by omega : i < c.step.length)), gives (rGuard_con c i ((gx c.step i).guard) (by omega) hb), ends (nt f0), gives (rAll_con c i ((gx c.step i).args) (by omega) hb (by omega)), ends (nt f1), gives (rAll_con c i ((gx c.step i).resets) (by omega) hb (by omega)), ends (nt f2), gives (rArgs_con ((gx c.step i).op)), ends (decide_eq_false f3), ends (rfl : false = false), ends (nf f4), ends (nf f5), ends (nf f6), ends (nt f7), ends (rfl : false = false), ends f8, ends f4, ends f5, ends f9, gives (rIn_con ((gx c.step i).k) c.crosses)] (by kernel_rfl)
                    · by_cases f10 : (((gx c.step i).args).length : Int) = (1 : Int)
                      · rw [bif_t f0, bif_t f1, bif_t f2, if_neg f3, bif_f f4, bif_f f5, bif_f f6, bif_t f7, bif_f f8, bif_f f9, if_pos f10]
                        exact by_ (.g (truth (rIn ((gx c.step i).k) (c.conts.length : Int)))) Try.func22 rfl [elem (ins_ad (by omega : i < c.step.length)), gives (rGuard_con c i ((gx c.step i).guard) (by omega) hb), ends (nt f0), gives (rAll_con c i ((gx c.step i).args) (by omega) hb (by omega)), ends (nt f1), gives (rAll_con c i ((gx c.step i).resets) (by omega) hb (by omega)), ends (nt f2), gives (rArgs_con ((gx c.step i).op)), ends (decide_eq_false f3), ends (rfl : false = false), ends (nf f4), ends (nf f5), ends (nf f6), ends (nt f7), ends (rfl : false = false), ends f8, ends f4, ends f5, ends f9, ends f6, ends f7, ends (eq_t f10), gives (rIn_con ((gx c.step i).k) (c.conts.length : Int))] (by kernel_rfl)
                      · rw [bif_t f0, bif_t f1, bif_t f2, if_neg f3, bif_f f4, bif_f f5, bif_f f6, bif_t f7, bif_f f8, bif_f f9, if_neg f10]
                        exact by_ (.g (truth false)) Try.func22 rfl [elem (ins_ad (by omega : i < c.step.length)), gives (rGuard_con c i ((gx c.step i).guard) (by omega) hb), ends (nt f0), gives (rAll_con c i ((gx c.step i).args) (by omega) hb (by omega)), ends (nt f1), gives (rAll_con c i ((gx c.step i).resets) (by omega) hb (by omega)), ends (nt f2), gives (rArgs_con ((gx c.step i).op)), ends (decide_eq_false f3), ends (rfl : false = false), ends (nf f4), ends (nf f5), ends (nf f6), ends (nt f7), ends (rfl : false = false), ends f8, ends f4, ends f5, ends f9, ends f6, ends f7, ends (eq_f f10)] (by kernel_rfl)
                · by_cases f8 : (((gx c.step i).resets).length : Int) > (0 : Int)
                  · rw [bif_t f0, bif_t f1, bif_t f2, if_neg f3, bif_f f4, bif_f f5, bif_f f6, bif_f f7, if_pos f8]
                    exact by_ (.g (truth false)) Try.func22 rfl [elem (ins_ad (by omega : i < c.step.length)), gives (rGuard_con c i ((gx c.step i).guard) (by omega) hb), ends (nt f0), gives (rAll_con c i ((gx c.step i).args) (by omega) hb (by omega)), ends (nt f1), gives (rAll_con c i ((gx c.step i).resets) (by omega) hb (by omega)), ends (nt f2), gives (rArgs_con ((gx c.step i).op)), ends (decide_eq_false f3), ends (rfl : false = false), ends (nf f4), ends (nf f5), ends (nf f6), ends (nf f7), ends (decide_eq_true f8)] (by kernel_rfl)
                  · rcases bc (is ((gx c.step i).op) (⟨#[105, 110]⟩ : ByteArray)) with f9 | f9
                    · rw [bif_t f0, bif_t f1, bif_t f2, if_neg f3, bif_f f4, bif_f f5, bif_f f6, bif_f f7, if_neg f8, bif_t f9]
                      exact by_ (.g (truth (rIn ((gx c.step i).k) c.ins))) Try.func22 rfl [elem (ins_ad (by omega : i < c.step.length)), gives (rGuard_con c i ((gx c.step i).guard) (by omega) hb), ends (nt f0), gives (rAll_con c i ((gx c.step i).args) (by omega) hb (by omega)), ends (nt f1), gives (rAll_con c i ((gx c.step i).resets) (by omega) hb (by omega)), ends (nt f2), gives (rArgs_con ((gx c.step i).op)), ends (decide_eq_false f3), ends (rfl : false = false), ends (nf f4), ends (nf f5), ends (nf f6), ends (nf f7), ends (decide_eq_false f8), ends f9, gives (rIn_con ((gx c.step i).k) c.ins)] (by kernel_rfl)
                    · rcases bc (is ((gx c.step i).op) (⟨#[102, 108, 97, 103]⟩ : ByteArray)) with f10 | f10
                      · rw [bif_t f0, bif_t f1, bif_t f2, if_neg f3, bif_f f4, bif_f f5, bif_f f6, bif_f f7, if_neg f8, bif_f f9, bif_t f10]
                        exact by_ (.g (truth (rIn ((gx c.step i).k) c.crosses))) Try.func22 rfl [elem (ins_ad (by omega : i < c.step.length)), gives (rGuard_con c i ((gx c.step i).guard) (by omega) hb), ends (nt f0), gives (rAll_con c i ((gx c.step i).args) (by omega) hb (by omega)), ends (nt f1), gives (rAll_con c i ((gx c.step i).resets) (by omega) hb (by omega)), ends (nt f2), gives (rArgs_con ((gx c.step i).op)), ends (decide_eq_false f3), ends (rfl : false = false), ends (nf f4), ends (nf f5), ends (nf f6), ends (nf f7), ends (decide_eq_false f8), ends f9, ends f4, ends f5, ends f10, gives (rIn_con ((gx c.step i).k) c.crosses)] (by kernel_rfl)
                      · rcases bc (is ((gx c.step i).op) (⟨#[111, 117, 116]⟩ : ByteArray)) with f11 | f11
                        · by_cases f12 : (((gx c.step i).args).length : Int) = (1 : Int)
                          · rw [bif_t f0, bif_t f1, bif_t f2, if_neg f3, bif_f f4, bif_f f5, bif_f f6, bif_f f7, if_neg f8, bif_f f9, bif_f f10, bif_t f11, if_pos f12]
                            exact by_ (.g (truth (rIn ((gx c.step i).k) c.outs))) Try.func22 rfl [elem (ins_ad (by omega : i < c.step.length)), gives (rGuard_con c i ((gx c.step i).guard) (by omega) hb), ends (nt f0), gives (rAll_con c i ((gx c.step i).args) (by omega) hb (by omega)), ends (nt f1), gives (rAll_con c i ((gx c.step i).resets) (by omega) hb (by omega)), ends (nt f2), gives (rArgs_con ((gx c.step i).op)), ends (decide_eq_false f3), ends (rfl : false = false), ends (nf f4), ends (nf f5), ends (nf f6), ends (nf f7), ends (decide_eq_false f8), ends f9, ends f4, ends f5, ends f10, ends f6, ends f7, ends f11, ends (eq_t f12), gives (rIn_con ((gx c.step i).k) c.outs)] (by kernel_rfl)
                          · rw [bif_t f0, bif_t f1, bif_t f2, if_neg f3, bif_f f4, bif_f f5, bif_f f6, bif_f f7, if_neg f8, bif_f f9, bif_f f10, bif_t f11, if_neg f12]
                            exact by_ (.g (truth false)) Try.func22 rfl [elem (ins_ad (by omega : i < c.step.length)), gives (rGuard_con c i ((gx c.step i).guard) (by omega) hb), ends (nt f0), gives (rAll_con c i ((gx c.step i).args) (by omega) hb (by omega)), ends (nt f1), gives (rAll_con c i ((gx c.step i).resets) (by omega) hb (by omega)), ends (nt f2), gives (rArgs_con ((gx c.step i).op)), ends (decide_eq_false f3), ends (rfl : false = false), ends (nf f4), ends (nf f5), ends (nf f6), ends (nf f7), ends (decide_eq_false f8), ends f9, ends f4, ends f5, ends f10, ends f6, ends f7, ends f11, ends (eq_f f12)] (by kernel_rfl)
                        · rcases bc (is ((gx c.step i).op) (⟨#[97, 103, 97, 105, 110]⟩ : ByteArray)) with f12 | f12
                          · rw [bif_t f0, bif_t f1, bif_t f2, if_neg f3, bif_f f4, bif_f f5, bif_f f6, bif_f f7, if_neg f8, bif_f f9, bif_f f10, bif_f f11, bif_t f12]
                            exact by_ (.g (truth ((((gx c.step i).args).length : Int) == (1 : Int)))) Try.func22 rfl [elem (ins_ad (by omega : i < c.step.length)), gives (rGuard_con c i ((gx c.step i).guard) (by omega) hb), ends (nt f0), gives (rAll_con c i ((gx c.step i).args) (by omega) hb (by omega)), ends (nt f1), gives (rAll_con c i ((gx c.step i).resets) (by omega) hb (by omega)), ends (nt f2), gives (rArgs_con ((gx c.step i).op)), ends (decide_eq_false f3), ends (rfl : false = false), ends (nf f4), ends (nf f5), ends (nf f6), ends (nf f7), ends (decide_eq_false f8), ends f9, ends f4, ends f5, ends f10, ends f6, ends f7, ends f11, ends f12] (by kernel_rfl)
                          · rw [bif_t f0, bif_t f1, bif_t f2, if_neg f3, bif_f f4, bif_f f5, bif_f f6, bif_f f7, if_neg f8, bif_f f9, bif_f f10, bif_f f11, bif_f f12]
                            exact by_ (.g (truth (decide (((rArgs ((gx c.step i).op)).1) ≥ (0 : Int))))) Try.func22 rfl [elem (ins_ad (by omega : i < c.step.length)), gives (rGuard_con c i ((gx c.step i).guard) (by omega) hb), ends (nt f0), gives (rAll_con c i ((gx c.step i).args) (by omega) hb (by omega)), ends (nt f1), gives (rAll_con c i ((gx c.step i).resets) (by omega) hb (by omega)), ends (nt f2), gives (rArgs_con ((gx c.step i).op)), ends (decide_eq_false f3), ends (rfl : false = false), ends (nf f4), ends (nf f5), ends (nf f6), ends (nf f7), ends (decide_eq_false f8), ends f9, ends f4, ends f5, ends f10, ends f6, ends f7, ends f11, ends f12] (by kernel_rfl)
      · rw [bif_t f0, bif_t f1, bif_f f2]
        exact by_ (.g (truth false)) Try.func22 rfl [elem (ins_ad (by omega : i < c.step.length)), gives (rGuard_con c i ((gx c.step i).guard) (by omega) hb), ends (nt f0), gives (rAll_con c i ((gx c.step i).args) (by omega) hb (by omega)), ends (nt f1), gives (rAll_con c i ((gx c.step i).resets) (by omega) hb (by omega)), ends (nf f2)] (by kernel_rfl)
    · rw [bif_t f0, bif_f f1]
      exact by_ (.g (truth false)) Try.func22 rfl [elem (ins_ad (by omega : i < c.step.length)), gives (rGuard_con c i ((gx c.step i).guard) (by omega) hb), ends (nt f0), gives (rAll_con c i ((gx c.step i).args) (by omega) hb (by omega)), ends (nf f1), ends (rfl : true = true)] (by kernel_rfl)
  · rw [bif_f f0]
    exact by_ (.g (truth false)) Try.func22 rfl [elem (ins_ad (by omega : i < c.step.length)), gives (rGuard_con c i ((gx c.step i).guard) (by omega) hb), ends (nf f0), ends (rfl : true = true), ends (rfl : true = true)] (by kernel_rfl)
theorem int_aw {l : List Int} {n : Int} {i : Nat} (e : n = (i : Int)) (h : i < l.length) : (0 : Int) ≤ n ∧ (l.map fun n => [AC.v (.int .i64 n)])[n.toNat]? = some [.v (.int .i64 (gi l i))] := by subst e; exact int_ad h
theorem next2 (i : Nat) (h : i < 4000000000000000000) : IntKind.i64.wrap ((i : Int) + 2) = ((i + 2 : Nat) : Int) := by rw [wr (by omega) (by omega)]; omega
def rDerivL_S (c : Cod) (x : Ins) (i : Int) : St := ⟨sparse 72 [(2, .g (.one (.ptr 0 0))), (3, .g (.one (.ptr 1 0))), (5, .g (num (c.step.length : Int))), (6, .g (num i))], [some (false, [.v (.int .i64 c.ins), .v (.int .i64 c.outs), .v (.int .i64 c.slots), .v (.int .i64 c.crosses), .v (.int .i64 c.lines), vals' c.mems, vals' c.conts, inss c.step, inss c.deriv, inss c.cross]), some (false, [.v (.string x.op), .v (.int .i64 x.dst), ints x.args, .v (.int .i64 x.k), .v (.int .i64 x.lit.kind), .v (.bool x.lit.neg), limbs x.lit.mag, limbs x.lit.den, .v (.string x.lit.name), .v (.int .i64 x.guard), ints x.resets])], 0⟩
def rDerivL_X (c : Cod) (x : Ins) : St := ⟨sparse 72 [], [some (false, [.v (.int .i64 c.ins), .v (.int .i64 c.outs), .v (.int .i64 c.slots), .v (.int .i64 c.crosses), .v (.int .i64 c.lines), vals' c.mems, vals' c.conts, inss c.step, inss c.deriv, inss c.cross]), some (false, [.v (.string x.op), .v (.int .i64 x.dst), ints x.args, .v (.int .i64 x.k), .v (.int .i64 x.lit.kind), .v (.bool x.lit.neg), limbs x.lit.mag, limbs x.lit.den, .v (.string x.lit.name), .v (.int .i64 x.guard), ints x.resets])], 0⟩
def rDerivL_Y (c : Cod) (x : Ins) (o : Bool) : St := ⟨sparse 72 [(4, .g (truth o))], [], 0⟩
def rDerivL (c : Cod) (x : Ins) : Nat → Nat → Option (Sum Unit Bool)
  | 0, i => none
  | d + 1, i => if (IntKind.i64.wrap ((i : Int) + (1 : Int))) < (x.args.length : Int) then (bif rGuard c c.step.length (gi x.args i) then (bif rWritten c c.step.length (gi x.args (i + 1)) then (rDerivL c x d (i + 2)) else (some (.inr false))) else (some (.inr false))) else (some (.inl ()))
theorem rDerivL_rounds (c : Cod) (x : Ins) (hb : c.step.length < 4000000000000000000) (ha : x.args.length < 4000000000000000000) : ∀ (d i : Nat), i < 4000000000000000000 → (∀ o, rDerivL c x d i = some (.inl o) → Rounds Try.prog (lp Try.f23 0) (rDerivL_S c x i) (.exit 0) (rDerivL_X c x)) ∧ (∀ o, rDerivL c x d i = some (.inr o) → Rounds Try.prog (lp Try.f23 0) (rDerivL_S c x i) .ret (rDerivL_Y c x o))
  | 0, i, hi => ⟨fun o h => (by cases h), fun o h => (by cases h)⟩
  | d + 1, i, hi => by
    have ih := rDerivL_rounds c x hb ha d
    have hw := next i (by omega)
    unfold rDerivL
    by_cases f0 : (IntKind.i64.wrap ((i : Int) + (1 : Int))) < (x.args.length : Int)
    · rcases bc (rGuard c c.step.length (gi x.args i)) with f1 | f1
      · rcases bc (rWritten c c.step.length (gi x.args (i + 1))) with f2 | f2
        · rw [if_pos f0, bif_t f1, bif_t f2]
          have step := at_m [] (c := (lp Try.f23 0)) (p := (rDerivL_S c x i)) .normal (rDerivL_S c x (IntKind.i64.wrap ((i : Int) + (2 : Int)))) [ends (decide_eq_true f0), elem (int_ad (by omega : i < x.args.length)), gives (rGuard_con c c.step.length (gi x.args i) (by omega) hb), ends (nt f1), elem (int_aw (next i (by omega)) (by omega : i + 1 < x.args.length)), gives (rWritten_con c c.step.length (gi x.args (i + 1)) (by omega) hb), ends (nt f2)] [] none_ (by kernel_rfl)
          rw [next2 i (by omega)] at step
          exact ⟨fun o h => ((ih (i + 2) (by omega)).1 o h).step' step, fun o h => ((ih (i + 2) (by omega)).2 o h).step' step⟩
        · rw [if_pos f0, bif_t f1, bif_f f2]
          refine ⟨fun o h => by (cases h), fun o h => ?_⟩
          cases h
          exact Rounds.out (at_m [] .ret (rDerivL_Y c x false) [ends (decide_eq_true f0), elem (int_ad (by omega : i < x.args.length)), gives (rGuard_con c c.step.length (gi x.args i) (by omega) hb), ends (nt f1), elem (int_aw (next i (by omega)) (by omega : i + 1 < x.args.length)), gives (rWritten_con c c.step.length (gi x.args (i + 1)) (by omega) hb), ends (nf f2)] [] none_ (by kernel_rfl)) (by simp)
      · rw [if_pos f0, bif_f f1]
        refine ⟨fun o h => by (cases h), fun o h => ?_⟩
        cases h
        exact Rounds.out (at_m [] .ret (rDerivL_Y c x false) [ends (decide_eq_true f0), elem (int_ad (by omega : i < x.args.length)), gives (rGuard_con c c.step.length (gi x.args i) (by omega) hb), ends (nf f1), ends (rfl : true = true)] [] none_ (by kernel_rfl)) (by simp)
    · rw [if_neg f0]
      refine ⟨fun o h => ?_, fun o h => by cases h⟩
      cases h
      exact Rounds.out (at_m [] _ _ [ends (decide_eq_false f0)] [] none_ (by kernel_rfl)) (by simp)
end Go.Proofs.Ytidpkomcgkcfjaa.Ev
end
section
/- Object code: the reference's answer, by the executor, second part. Printed by a program of this session. No condition. -/
namespace Go.Proofs.Ytidpkomcgkcfjaa.Ev
open Go Go.RowKit Go.Proofs.YtidpkomcgkcfjaaW.PrintWords Go.Proofs.YtidpkomcgkcfjaaW.PrintLast Go.Proofs.Ytidpkomcgkcfjaa
set_option linter.unusedVariables false
set_option linter.unusedSimpArgs false
theorem rDerivL_some (c : Cod) (x : Ins) (ha : x.args.length < 4000000000000000000) : ∀ (d i : Nat), i < 4000000000000000000 → 1 ≤ d → x.args.length + 1 ≤ d + i → ∃ o, rDerivL c x d i = some o
  | 0, i, _, h, _ => by omega
  | d + 1, i, hi, _, h => by
    unfold rDerivL
    have hw := next i (by omega)
    by_cases f0 : (IntKind.i64.wrap ((i : Int) + (1 : Int))) < (x.args.length : Int)
    · rw [if_pos f0]
      rcases bc (rGuard c c.step.length (gi x.args i)) with h1 | h1
      · rw [bif_t h1]
        rcases bc (rWritten c c.step.length (gi x.args (i + 1))) with h2 | h2
        · rw [bif_t h2]
          exact rDerivL_some c x ha d (i + 2) (by omega) (by omega) (by omega)
        · rw [bif_f h2]; exact ⟨_, rfl⟩
      · rw [bif_f h1]; exact ⟨_, rfl⟩
    · rw [if_neg f0]; exact ⟨_, rfl⟩
def rDerivT (c : Cod) (x : Ins) : Sum Unit Bool := (rDerivL c x (x.args.length + 1) 0).getD (.inl ())
theorem rDerivT_eq (c : Cod) (x : Ins) (ha : x.args.length < 4000000000000000000) : rDerivL c x (x.args.length + 1) 0 = some (rDerivT c x) := by
  obtain ⟨o, h⟩ := rDerivL_some c x ha (x.args.length + 1) 0 (by omega) (by omega) (by omega)
  unfold rDerivT
  rw [h]; rfl
def rDeriv (c : Cod) (x : Ins) : Bool := bif is x.op (⟨#[115, 108, 111, 112, 101]⟩ : ByteArray) then (bif rIn x.k (c.conts.length : Int) then (if ((x.args.length : Int).tmod (2 : Int)) = (0 : Int) then (if (x.resets.length : Int) > (0 : Int) then (false) else (bif rGuard c c.step.length x.guard then ((match rDerivT c x with | .inl of5 => true | .inr of5 => of5)) else (false))) else (false)) else (false)) else (false)
theorem rDeriv_con (c : Cod) (x : Ins) (hb : c.step.length < 4000000000000000000) (ha : x.args.length < 4000000000000000000) : Con Try.prog 23 [.agg (c.c), .agg (x.c)] (.g (truth (rDeriv c x))) := by
  unfold rDeriv
  rcases bc (is x.op (⟨#[115, 108, 111, 112, 101]⟩ : ByteArray)) with f0 | f0
  · rcases bc (rIn x.k (c.conts.length : Int)) with f1 | f1
    · by_cases f2 : ((x.args.length : Int).tmod (2 : Int)) = (0 : Int)
      · by_cases f3 : (x.resets.length : Int) > (0 : Int)
        · rw [bif_t f0, bif_t f1, if_pos f2, if_pos f3]
          exact by_ (.g (truth false)) Try.func23 rfl [ends (nt f0), gives (rIn_con x.k (c.conts.length : Int)), ends (nt f1), fact (by decide : (2 : Int) ≠ 0), ends (ne_f f2), ends (decide_eq_true f3), ends (rfl : true = true)] (by kernel_rfl)
        · rcases bc (rGuard c c.step.length x.guard) with f4 | f4
          · rcases sc (rDerivT c x) with ⟨of5, f5⟩ | ⟨of5, f5⟩
            · rw [bif_t f0, bif_t f1, if_pos f2, if_neg f3, bif_t f4]
              simp only [f5]
              exact by_ (.g (truth true)) Try.func23 rfl [ends (nt f0), gives (rIn_con x.k (c.conts.length : Int)), ends (nt f1), fact (by decide : (2 : Int) ≠ 0), ends (ne_f f2), ends (decide_eq_false f3), gives (rGuard_con c c.step.length x.guard (by omega) hb), ends (nt f4), goes ((rDerivL_rounds c x hb ha (x.args.length + 1) 0 (by omega)).1 _ (by rw [rDerivT_eq c x ha, f5])).loop] (by kernel_rfl)
            · rw [bif_t f0, bif_t f1, if_pos f2, if_neg f3, bif_t f4]
              simp only [f5]
              exact by_ (.g (truth of5)) Try.func23 rfl [ends (nt f0), gives (rIn_con x.k (c.conts.length : Int)), ends (nt f1), fact (by decide : (2 : Int) ≠ 0), ends (ne_f f2), ends (decide_eq_false f3), gives (rGuard_con c c.step.length x.guard (by omega) hb), ends (nt f4), goes ((rDerivL_rounds c x hb ha (x.args.length + 1) 0 (by omega)).2 _ (by rw [rDerivT_eq c x ha, f5])).loop] (by kernel_rfl)
          · rw [bif_t f0, bif_t f1, if_pos f2, if_neg f3, bif_f f4]
            exact by_ (.g (truth false)) Try.func23 rfl [ends (nt f0), gives (rIn_con x.k (c.conts.length : Int)), ends (nt f1), fact (by decide : (2 : Int) ≠ 0), ends (ne_f f2), ends (decide_eq_false f3), gives (rGuard_con c c.step.length x.guard (by omega) hb), ends (nf f4)] (by kernel_rfl)
      · rw [bif_t f0, bif_t f1, if_neg f2]
        exact by_ (.g (truth false)) Try.func23 rfl [ends (nt f0), gives (rIn_con x.k (c.conts.length : Int)), ends (nt f1), fact (by decide : (2 : Int) ≠ 0), ends (ne_t f2), ends (rfl : true = true), ends (rfl : true = true)] (by kernel_rfl)
    · rw [bif_t f0, bif_f f1]
      exact by_ (.g (truth false)) Try.func23 rfl [ends (nt f0), gives (rIn_con x.k (c.conts.length : Int)), ends (nf f1), ends (rfl : true = true), ends (rfl : true = true), ends (rfl : true = true)] (by kernel_rfl)
  · rw [bif_f f0]
    exact by_ (.g (truth false)) Try.func23 rfl [ends (nf f0), ends (rfl : true = true), ends (rfl : true = true), ends (rfl : true = true), ends (rfl : true = true)] (by kernel_rfl)
def rLineL_S (c : Cod) (n : Nat) (l : Int)  (i : Int) : St := ⟨sparse 34 [(1, .g (num (n : Int))), (2, .g (num l)), (3, .g (.one (.ptr 0 0))), (7, .g (num i))], [some (false, [.v (.int .i64 c.ins), .v (.int .i64 c.outs), .v (.int .i64 c.slots), .v (.int .i64 c.crosses), .v (.int .i64 c.lines), vals' c.mems, vals' c.conts, inss c.step, inss c.deriv, inss c.cross])], 0⟩
def rLineL_X (c : Cod) (n : Nat) (l : Int)  : St := ⟨sparse 34 [], [some (false, [.v (.int .i64 c.ins), .v (.int .i64 c.outs), .v (.int .i64 c.slots), .v (.int .i64 c.crosses), .v (.int .i64 c.lines), vals' c.mems, vals' c.conts, inss c.step, inss c.deriv, inss c.cross])], 0⟩
def rLineL_Y (c : Cod) (n : Nat) (l : Int) (o : Bool) : St := ⟨sparse 34 [(6, .g (truth o))], [], 0⟩
def rLineL (c : Cod) (n : Nat) (l : Int) : Nat → Nat → Sum Unit Bool
  | 0, i => .inl ()
  | d + 1, i => bif is ((gx c.cross i).op) (⟨#[97, 115, 107]⟩ : ByteArray) then (rLineL c n l d (i + 1) ) else (if ((gx c.cross i).dst) = l then (.inr (rIn l c.lines)) else (rLineL c n l d (i + 1) ))
theorem rLineL_rounds (c : Cod) (n : Nat) (l : Int) (hn : n ≤ c.cross.length) (hc : c.cross.length < 4000000000000000000) : ∀ (d i : Nat) , i + d = n → (∀ o, rLineL c n l d i  = .inl o → Rounds Try.prog (lp Try.f46 0) (rLineL_S c n l  i) (.exit 0) (rLineL_X c n l )) ∧ (∀ o, rLineL c n l d i  = .inr o → Rounds Try.prog (lp Try.f46 0) (rLineL_S c n l  i) .ret (rLineL_Y c n l o))
  | 0, i, hi => by
    have hge : ¬ (i : Int) < (n : Int) := by omega
    refine ⟨fun o h => ?_, fun o h => by cases h⟩
    cases h
    exact Rounds.out (at_m [] _ _ [ends (decide_eq_false hge)] [] none_ (by kernel_rfl)) (by simp)
  | d + 1, i, hi => by
    have hlt : (i : Int) < (n : Int) := by omega
    have ih := rLineL_rounds c n l hn hc d
    unfold rLineL
    rcases bc (is ((gx c.cross i).op) (⟨#[97, 115, 107]⟩ : ByteArray)) with f0 | f0
    · rw [bif_t f0]
      have step := at_m [] (c := (lp Try.f46 0)) (p := (rLineL_S c n l  i)) .normal (rLineL_S c n l  (IntKind.i64.wrap ((i : Int) + (1 : Int)))) [ends (decide_eq_true hlt), elem (ins_ad (by omega : i < c.cross.length)), ends (nt f0), ends (rfl : false = false)] [] none_ (by kernel_rfl)
      rw [next i (by omega)] at step
      exact ⟨fun o h => ((ih (i + 1)  (by omega)).1 o h).step' step, fun o h => ((ih (i + 1)  (by omega)).2 o h).step' step⟩
    · by_cases f1 : ((gx c.cross i).dst) = l
      · rw [bif_f f0, if_pos f1]
        refine ⟨fun o h => by (cases h), fun o h => ?_⟩
        cases h
        exact Rounds.out (at_m [] .ret (rLineL_Y c n l (rIn l c.lines)) [ends (decide_eq_true hlt), elem (ins_ad (by omega : i < c.cross.length)), ends (nf f0), elem (ins_ad (by omega : i < c.cross.length)), ends (eq_t f1), gives (rIn_con l c.lines)] [] none_ (by kernel_rfl)) (by simp)
      · rw [bif_f f0, if_neg f1]
        have step := at_m [] (c := (lp Try.f46 0)) (p := (rLineL_S c n l  i)) .normal (rLineL_S c n l  (IntKind.i64.wrap ((i : Int) + (1 : Int)))) [ends (decide_eq_true hlt), elem (ins_ad (by omega : i < c.cross.length)), ends (nf f0), elem (ins_ad (by omega : i < c.cross.length)), ends (eq_f f1)] [] none_ (by kernel_rfl)
        rw [next i (by omega)] at step
        exact ⟨fun o h => ((ih (i + 1)  (by omega)).1 o h).step' step, fun o h => ((ih (i + 1)  (by omega)).2 o h).step' step⟩
def rLine (c : Cod) (n : Nat) (l : Int) : Bool := (match rLineL c n l n 0 with | .inl of0 => false | .inr of0 => of0)
theorem rLine_con (c : Cod) (n : Nat) (l : Int) (hn : n ≤ c.cross.length) (hc : c.cross.length < 4000000000000000000) : Con Try.prog 46 [.agg (c.c), num (n : Int), num l] (.g (truth (rLine c n l))) := by
  unfold rLine
  rcases sc (rLineL c n l n 0) with ⟨of0, f0⟩ | ⟨of0, f0⟩
  · simp only [f0]
    exact by_ (.g (truth false)) Try.func46 rfl [goes ((rLineL_rounds c n l hn hc n 0 (by omega)).1 _ f0).loop] (by kernel_rfl)
  · simp only [f0]
    exact by_ (.g (truth of0)) Try.func46 rfl [goes ((rLineL_rounds c n l hn hc n 0 (by omega)).2 _ f0).loop] (by kernel_rfl)
def rCrossL_S (c : Cod) (j : Nat) (fr : Int)  (i : Int) : St := ⟨sparse 120 [(1, .g (num (j : Int))), (2, .g (.one (.ptr 0 0))), (5, .g (.one (.ptr 1 0))), (6, .g (num (c.step.length : Int))), (7, .g (num ((gx c.cross j).args.length : Int))), (8, .g (num fr)), (10, .g (num i))], [some (false, [.v (.int .i64 c.ins), .v (.int .i64 c.outs), .v (.int .i64 c.slots), .v (.int .i64 c.crosses), .v (.int .i64 c.lines), vals' c.mems, vals' c.conts, inss c.step, inss c.deriv, inss c.cross]), some (false, [.v (.string ((gx c.cross j).op)), .v (.int .i64 ((gx c.cross j).dst)), ints ((gx c.cross j).args), .v (.int .i64 ((gx c.cross j).k)), .v (.int .i64 ((gx c.cross j).lit.kind)), .v (.bool ((gx c.cross j).lit.neg)), limbs ((gx c.cross j).lit.mag), limbs ((gx c.cross j).lit.den), .v (.string ((gx c.cross j).lit.name)), .v (.int .i64 ((gx c.cross j).guard)), ints ((gx c.cross j).resets)])], 0⟩
def rCrossL_X (c : Cod) (j : Nat) (fr : Int)  : St := ⟨sparse 120 [], [some (false, [.v (.int .i64 c.ins), .v (.int .i64 c.outs), .v (.int .i64 c.slots), .v (.int .i64 c.crosses), .v (.int .i64 c.lines), vals' c.mems, vals' c.conts, inss c.step, inss c.deriv, inss c.cross]), some (false, [.v (.string ((gx c.cross j).op)), .v (.int .i64 ((gx c.cross j).dst)), ints ((gx c.cross j).args), .v (.int .i64 ((gx c.cross j).k)), .v (.int .i64 ((gx c.cross j).lit.kind)), .v (.bool ((gx c.cross j).lit.neg)), limbs ((gx c.cross j).lit.mag), limbs ((gx c.cross j).lit.den), .v (.string ((gx c.cross j).lit.name)), .v (.int .i64 ((gx c.cross j).guard)), ints ((gx c.cross j).resets)])], 0⟩
def rCrossL_Y (c : Cod) (j : Nat) (fr : Int) (o : Bool) : St := ⟨sparse 120 [(4, .g (truth o))], [], 0⟩
def rCrossL (c : Cod) (j : Nat) (fr : Int) : Nat → Nat → Sum Unit Bool
  | 0, i => .inl ()
  | d + 1, i => if (i : Int) < fr then (bif rWritten c c.step.length (gi ((gx c.cross j).args) i) then (if (i : Int) ≥ fr then (bif rLine c j (gi ((gx c.cross j).args) i) then (rCrossL c j fr d (i + 1) ) else (.inr false)) else (rCrossL c j fr d (i + 1) )) else (.inr false)) else (if (i : Int) ≥ fr then (bif rLine c j (gi ((gx c.cross j).args) i) then (rCrossL c j fr d (i + 1) ) else (.inr false)) else (rCrossL c j fr d (i + 1) ))
theorem rCrossL_rounds (c : Cod) (j : Nat) (fr : Int) (hj : j < c.cross.length) (hb : c.step.length < 4000000000000000000) (hc : c.cross.length < 4000000000000000000) (ha : (gx c.cross j).args.length < 4000000000000000000) : ∀ (d i : Nat) , i + d = (gx c.cross j).args.length → (∀ o, rCrossL c j fr d i  = .inl o → Rounds Try.prog (lp Try.f24 0) (rCrossL_S c j fr  i) (.exit 1) (rCrossL_X c j fr )) ∧ (∀ o, rCrossL c j fr d i  = .inr o → Rounds Try.prog (lp Try.f24 0) (rCrossL_S c j fr  i) .ret (rCrossL_Y c j fr o))
  | 0, i, hi => by
    have hge : ¬ (i : Int) < ((gx c.cross j).args.length : Int) := by omega
    refine ⟨fun o h => ?_, fun o h => by cases h⟩
    cases h
    exact Rounds.out (at_m [] _ _ [ends (decide_eq_false hge)] [] none_ (by kernel_rfl)) (by simp)
  | d + 1, i, hi => by
    have hlt : (i : Int) < ((gx c.cross j).args.length : Int) := by omega
    have ih := rCrossL_rounds c j fr hj hb hc ha d
    unfold rCrossL
    by_cases f0 : (i : Int) < fr
    · rcases bc (rWritten c c.step.length (gi ((gx c.cross j).args) i)) with f1 | f1
      · by_cases f2 : (i : Int) ≥ fr
        · rcases bc (rLine c j (gi ((gx c.cross j).args) i)) with f3 | f3
          · rw [if_pos f0, bif_t f1, if_pos f2, bif_t f3]
            have step := at_m [] (c := (lp Try.f24 0)) (p := (rCrossL_S c j fr  i)) .normal (rCrossL_S c j fr  (IntKind.i64.wrap ((i : Int) + (1 : Int)))) [ends (decide_eq_true hlt), ends (decide_eq_true f0), elem (int_ad (by omega : i < ((gx c.cross j).args).length)), gives (rWritten_con c c.step.length (gi ((gx c.cross j).args) i) (by omega) hb), ends (nt f1), ends (decide_eq_true f2), elem (int_ad (by omega : i < ((gx c.cross j).args).length)), gives (rLine_con c j (gi ((gx c.cross j).args) i) (by omega) hc), ends (nt f3)] [] none_ (by kernel_rfl)
            rw [next i (by omega)] at step
            exact ⟨fun o h => ((ih (i + 1)  (by omega)).1 o h).step' step, fun o h => ((ih (i + 1)  (by omega)).2 o h).step' step⟩
          · rw [if_pos f0, bif_t f1, if_pos f2, bif_f f3]
            refine ⟨fun o h => by (cases h), fun o h => ?_⟩
            cases h
            exact Rounds.out (at_m [] .ret (rCrossL_Y c j fr false) [ends (decide_eq_true hlt), ends (decide_eq_true f0), elem (int_ad (by omega : i < ((gx c.cross j).args).length)), gives (rWritten_con c c.step.length (gi ((gx c.cross j).args) i) (by omega) hb), ends (nt f1), ends (decide_eq_true f2), elem (int_ad (by omega : i < ((gx c.cross j).args).length)), gives (rLine_con c j (gi ((gx c.cross j).args) i) (by omega) hc), ends (nf f3)] [] none_ (by kernel_rfl)) (by simp)
        · rw [if_pos f0, bif_t f1, if_neg f2]
          have step := at_m [] (c := (lp Try.f24 0)) (p := (rCrossL_S c j fr  i)) .normal (rCrossL_S c j fr  (IntKind.i64.wrap ((i : Int) + (1 : Int)))) [ends (decide_eq_true hlt), ends (decide_eq_true f0), elem (int_ad (by omega : i < ((gx c.cross j).args).length)), gives (rWritten_con c c.step.length (gi ((gx c.cross j).args) i) (by omega) hb), ends (nt f1), ends (decide_eq_false f2), ends (rfl : false = false)] [] none_ (by kernel_rfl)
          rw [next i (by omega)] at step
          exact ⟨fun o h => ((ih (i + 1)  (by omega)).1 o h).step' step, fun o h => ((ih (i + 1)  (by omega)).2 o h).step' step⟩
      · rw [if_pos f0, bif_f f1]
        refine ⟨fun o h => by (cases h), fun o h => ?_⟩
        cases h
        exact Rounds.out (at_m [] .ret (rCrossL_Y c j fr false) [ends (decide_eq_true hlt), ends (decide_eq_true f0), elem (int_ad (by omega : i < ((gx c.cross j).args).length)), gives (rWritten_con c c.step.length (gi ((gx c.cross j).args) i) (by omega) hb), ends (nf f1), ends (rfl : true = true)] [] none_ (by kernel_rfl)) (by simp)
    · by_cases f1 : (i : Int) ≥ fr
      · rcases bc (rLine c j (gi ((gx c.cross j).args) i)) with f2 | f2
        · rw [if_neg f0, if_pos f1, bif_t f2]
          have step := at_m [] (c := (lp Try.f24 0)) (p := (rCrossL_S c j fr  i)) .normal (rCrossL_S c j fr  (IntKind.i64.wrap ((i : Int) + (1 : Int)))) [ends (decide_eq_true hlt), ends (decide_eq_false f0), ends (rfl : false = false), ends (decide_eq_true f1), elem (int_ad (by omega : i < ((gx c.cross j).args).length)), gives (rLine_con c j (gi ((gx c.cross j).args) i) (by omega) hc), ends (nt f2)] [] none_ (by kernel_rfl)
          rw [next i (by omega)] at step
          exact ⟨fun o h => ((ih (i + 1)  (by omega)).1 o h).step' step, fun o h => ((ih (i + 1)  (by omega)).2 o h).step' step⟩
        · rw [if_neg f0, if_pos f1, bif_f f2]
          refine ⟨fun o h => by (cases h), fun o h => ?_⟩
          cases h
          exact Rounds.out (at_m [] .ret (rCrossL_Y c j fr false) [ends (decide_eq_true hlt), ends (decide_eq_false f0), ends (rfl : false = false), ends (decide_eq_true f1), elem (int_ad (by omega : i < ((gx c.cross j).args).length)), gives (rLine_con c j (gi ((gx c.cross j).args) i) (by omega) hc), ends (nf f2)] [] none_ (by kernel_rfl)) (by simp)
      · rw [if_neg f0, if_neg f1]
        have step := at_m [] (c := (lp Try.f24 0)) (p := (rCrossL_S c j fr  i)) .normal (rCrossL_S c j fr  (IntKind.i64.wrap ((i : Int) + (1 : Int)))) [ends (decide_eq_true hlt), ends (decide_eq_false f0), ends (rfl : false = false), ends (decide_eq_false f1), ends (rfl : false = false)] [] none_ (by kernel_rfl)
        rw [next i (by omega)] at step
        exact ⟨fun o h => ((ih (i + 1)  (by omega)).1 o h).step' step, fun o h => ((ih (i + 1)  (by omega)).2 o h).step' step⟩
def rCross (c : Cod) (j : Nat) : Bool := if (((gx c.cross j).resets).length : Int) > (0 : Int) then (false) else (bif rGuard c c.step.length ((gx c.cross j).guard) then (bif is ((gx c.cross j).op) (⟨#[97, 115, 107]⟩ : ByteArray) then (bif is ((gx c.cross j).op) (⟨#[108, 118, 97, 114]⟩ : ByteArray) then (if (((gx c.cross j).args).length : Int) = (1 : Int) then ((match rCrossL c j 1 (gx c.cross j).args.length 0 with | .inl of5 => true | .inr of5 => of5)) else (false)) else (bif is ((gx c.cross j).op) (⟨#[108, 99, 111, 110, 116]⟩ : ByteArray) then (bif rIn ((gx c.cross j).k) (c.conts.length : Int) then (if (((gx c.cross j).args).length : Int) = (0 : Int) then ((match rCrossL c j 0 (gx c.cross j).args.length 0 with | .inl of7 => true | .inr of7 => of7)) else (false)) else (false)) else (bif is ((gx c.cross j).op) (⟨#[108, 110, 101, 103]⟩ : ByteArray) then (if (((gx c.cross j).args).length : Int) = (1 : Int) then ((match rCrossL c j 0 (gx c.cross j).args.length 0 with | .inl of7 => true | .inr of7 => of7)) else (false)) else (bif is ((gx c.cross j).op) (⟨#[108, 42]⟩ : ByteArray) then (bif rIn ((gx c.cross j).k) (2 : Int) then (if (((gx c.cross j).args).length : Int) = (2 : Int) then ((match rCrossL c j 0 (gx c.cross j).args.length 0 with | .inl of9 => true | .inr of9 => of9)) else (false)) else (false)) else (bif is ((gx c.cross j).op) (⟨#[108, 43]⟩ : ByteArray) then (if (((gx c.cross j).args).length : Int) = (2 : Int) then ((match rCrossL c j 0 (gx c.cross j).args.length 0 with | .inl of9 => true | .inr of9 => of9)) else (false)) else (bif is ((gx c.cross j).op) (⟨#[108, 45]⟩ : ByteArray) then (if (((gx c.cross j).args).length : Int) = (2 : Int) then ((match rCrossL c j 0 (gx c.cross j).args.length 0 with | .inl of10 => true | .inr of10 => of10)) else (false)) else (bif is ((gx c.cross j).op) (⟨#[108, 47]⟩ : ByteArray) then (if (((gx c.cross j).args).length : Int) = (2 : Int) then ((match rCrossL c j 0 (gx c.cross j).args.length 0 with | .inl of11 => true | .inr of11 => of11)) else (false)) else (bif is ((gx c.cross j).op) (⟨#[108, 115, 101, 108]⟩ : ByteArray) then (if (((gx c.cross j).args).length : Int) = (3 : Int) then ((match rCrossL c j 1 (gx c.cross j).args.length 0 with | .inl of12 => true | .inr of12 => of12)) else (false)) else (bif rIn ((gx c.cross j).k) c.crosses then (if (((gx c.cross j).args).length : Int) = (1 : Int) then ((match rCrossL c j 0 (gx c.cross j).args.length 0 with | .inl of13 => true | .inr of13 => of13)) else (false)) else (false)))))))))) else (bif rIn ((gx c.cross j).dst) c.lines then (bif is ((gx c.cross j).op) (⟨#[108, 118, 97, 114]⟩ : ByteArray) then (if (((gx c.cross j).args).length : Int) = (1 : Int) then ((match rCrossL c j 1 (gx c.cross j).args.length 0 with | .inl of6 => true | .inr of6 => of6)) else (false)) else (bif is ((gx c.cross j).op) (⟨#[108, 99, 111, 110, 116]⟩ : ByteArray) then (bif rIn ((gx c.cross j).k) (c.conts.length : Int) then (if (((gx c.cross j).args).length : Int) = (0 : Int) then ((match rCrossL c j 0 (gx c.cross j).args.length 0 with | .inl of8 => true | .inr of8 => of8)) else (false)) else (false)) else (bif is ((gx c.cross j).op) (⟨#[108, 110, 101, 103]⟩ : ByteArray) then (if (((gx c.cross j).args).length : Int) = (1 : Int) then ((match rCrossL c j 0 (gx c.cross j).args.length 0 with | .inl of8 => true | .inr of8 => of8)) else (false)) else (bif is ((gx c.cross j).op) (⟨#[108, 42]⟩ : ByteArray) then (bif rIn ((gx c.cross j).k) (2 : Int) then (if (((gx c.cross j).args).length : Int) = (2 : Int) then ((match rCrossL c j 0 (gx c.cross j).args.length 0 with | .inl of10 => true | .inr of10 => of10)) else (false)) else (false)) else (bif is ((gx c.cross j).op) (⟨#[108, 43]⟩ : ByteArray) then (if (((gx c.cross j).args).length : Int) = (2 : Int) then ((match rCrossL c j 0 (gx c.cross j).args.length 0 with | .inl of10 => true | .inr of10 => of10)) else (false)) else (bif is ((gx c.cross j).op) (⟨#[108, 45]⟩ : ByteArray) then (if (((gx c.cross j).args).length : Int) = (2 : Int) then ((match rCrossL c j 0 (gx c.cross j).args.length 0 with | .inl of11 => true | .inr of11 => of11)) else (false)) else (bif is ((gx c.cross j).op) (⟨#[108, 47]⟩ : ByteArray) then (if (((gx c.cross j).args).length : Int) = (2 : Int) then ((match rCrossL c j 0 (gx c.cross j).args.length 0 with | .inl of12 => true | .inr of12 => of12)) else (false)) else (bif is ((gx c.cross j).op) (⟨#[108, 115, 101, 108]⟩ : ByteArray) then (if (((gx c.cross j).args).length : Int) = (3 : Int) then ((match rCrossL c j 1 (gx c.cross j).args.length 0 with | .inl of13 => true | .inr of13 => of13)) else (false)) else (false))))))))) else (false))) else (false))
theorem rCross_con (c : Cod) (j : Nat) (hj : j < c.cross.length) (hb : c.step.length < 4000000000000000000) (hc : c.cross.length < 4000000000000000000) (ha : (gx c.cross j).args.length < 4000000000000000000) : Con Try.prog 24 [.agg (c.c), num (j : Int)] (.g (truth (rCross c j))) := by
  unfold rCross
  by_cases f0 : (((gx c.cross j).resets).length : Int) > (0 : Int)
  · rw [if_pos f0]
    exact by_ (.g (truth false)) Try.func24 rfl [elem (ins_ad (by omega : j < c.cross.length)), ends (decide_eq_true f0), ends (rfl : true = true), ends (rfl : true = true)] (by kernel_rfl)
  · rcases bc (rGuard c c.step.length ((gx c.cross j).guard)) with f1 | f1
    · rcases bc (is ((gx c.cross j).op) (⟨#[97, 115, 107]⟩ : ByteArray)) with f2 | f2
      · rcases bc (is ((gx c.cross j).op) (⟨#[108, 118, 97, 114]⟩ : ByteArray)) with f3 | f3
        · by_cases f4 : (((gx c.cross j).args).length : Int) = (1 : Int)
          · rcases sc (rCrossL c j 1 (gx c.cross j).args.length 0) with ⟨of5, f5⟩ | ⟨of5, f5⟩
            · rw [if_neg f0, bif_t f1, bif_t f2, bif_t f3, if_pos f4]
              simp only [f5]
              exact by_ (.g (truth true)) Try.func24 rfl [elem (ins_ad (by omega : j < c.cross.length)), ends (decide_eq_false f0), gives (rGuard_con c c.step.length ((gx c.cross j).guard) (by omega) hb), ends (nt f1), ends (nt f2), ends (rfl : false = false), ends f3, ends (ne_f f4), goes ((rCrossL_rounds c j 1 hj hb hc ha (gx c.cross j).args.length 0 (by omega)).1 _ f5).loop] (by kernel_rfl)
            · rw [if_neg f0, bif_t f1, bif_t f2, bif_t f3, if_pos f4]
              simp only [f5]
              exact by_ (.g (truth of5)) Try.func24 rfl [elem (ins_ad (by omega : j < c.cross.length)), ends (decide_eq_false f0), gives (rGuard_con c c.step.length ((gx c.cross j).guard) (by omega) hb), ends (nt f1), ends (nt f2), ends (rfl : false = false), ends f3, ends (ne_f f4), goes ((rCrossL_rounds c j 1 hj hb hc ha (gx c.cross j).args.length 0 (by omega)).2 _ f5).loop] (by kernel_rfl)
          · rw [if_neg f0, bif_t f1, bif_t f2, bif_t f3, if_neg f4]
            exact by_ (.g (truth false)) Try.func24 rfl [elem (ins_ad (by omega : j < c.cross.length)), ends (decide_eq_false f0), gives (rGuard_con c c.step.length ((gx c.cross j).guard) (by omega) hb), ends (nt f1), ends (nt f2), ends (rfl : false = false), ends f3, ends (ne_t f4)] (by kernel_rfl)
        · rcases bc (is ((gx c.cross j).op) (⟨#[108, 99, 111, 110, 116]⟩ : ByteArray)) with f4 | f4
          · rcases bc (rIn ((gx c.cross j).k) (c.conts.length : Int)) with f5 | f5
            · by_cases f6 : (((gx c.cross j).args).length : Int) = (0 : Int)
              · rcases sc (rCrossL c j 0 (gx c.cross j).args.length 0) with ⟨of7, f7⟩ | ⟨of7, f7⟩
                · rw [if_neg f0, bif_t f1, bif_t f2, bif_f f3, bif_t f4, bif_t f5, if_pos f6]
                  simp only [f7]
                  exact by_ (.g (truth true)) Try.func24 rfl [elem (ins_ad (by omega : j < c.cross.length)), ends (decide_eq_false f0), gives (rGuard_con c c.step.length ((gx c.cross j).guard) (by omega) hb), ends (nt f1), ends (nt f2), ends (rfl : false = false), ends f3, ends f4, gives (rIn_con ((gx c.cross j).k) (c.conts.length : Int)), ends (nt f5), ends (ne_f f6), goes ((rCrossL_rounds c j 0 hj hb hc ha (gx c.cross j).args.length 0 (by omega)).1 _ f7).loop] (by kernel_rfl)
                · rw [if_neg f0, bif_t f1, bif_t f2, bif_f f3, bif_t f4, bif_t f5, if_pos f6]
                  simp only [f7]
                  exact by_ (.g (truth of7)) Try.func24 rfl [elem (ins_ad (by omega : j < c.cross.length)), ends (decide_eq_false f0), gives (rGuard_con c c.step.length ((gx c.cross j).guard) (by omega) hb), ends (nt f1), ends (nt f2), ends (rfl : false = false), ends f3, ends f4, gives (rIn_con ((gx c.cross j).k) (c.conts.length : Int)), ends (nt f5), ends (ne_f f6), goes ((rCrossL_rounds c j 0 hj hb hc ha (gx c.cross j).args.length 0 (by omega)).2 _ f7).loop] (by kernel_rfl)
              · rw [if_neg f0, bif_t f1, bif_t f2, bif_f f3, bif_t f4, bif_t f5, if_neg f6]
                exact by_ (.g (truth false)) Try.func24 rfl [elem (ins_ad (by omega : j < c.cross.length)), ends (decide_eq_false f0), gives (rGuard_con c c.step.length ((gx c.cross j).guard) (by omega) hb), ends (nt f1), ends (nt f2), ends (rfl : false = false), ends f3, ends f4, gives (rIn_con ((gx c.cross j).k) (c.conts.length : Int)), ends (nt f5), ends (ne_t f6)] (by kernel_rfl)
            · rw [if_neg f0, bif_t f1, bif_t f2, bif_f f3, bif_t f4, bif_f f5]
              exact by_ (.g (truth false)) Try.func24 rfl [elem (ins_ad (by omega : j < c.cross.length)), ends (decide_eq_false f0), gives (rGuard_con c c.step.length ((gx c.cross j).guard) (by omega) hb), ends (nt f1), ends (nt f2), ends (rfl : false = false), ends f3, ends f4, gives (rIn_con ((gx c.cross j).k) (c.conts.length : Int)), ends (nf f5)] (by kernel_rfl)
          · rcases bc (is ((gx c.cross j).op) (⟨#[108, 110, 101, 103]⟩ : ByteArray)) with f5 | f5
            · by_cases f6 : (((gx c.cross j).args).length : Int) = (1 : Int)
              · rcases sc (rCrossL c j 0 (gx c.cross j).args.length 0) with ⟨of7, f7⟩ | ⟨of7, f7⟩
                · rw [if_neg f0, bif_t f1, bif_t f2, bif_f f3, bif_f f4, bif_t f5, if_pos f6]
                  simp only [f7]
                  exact by_ (.g (truth true)) Try.func24 rfl [elem (ins_ad (by omega : j < c.cross.length)), ends (decide_eq_false f0), gives (rGuard_con c c.step.length ((gx c.cross j).guard) (by omega) hb), ends (nt f1), ends (nt f2), ends (rfl : false = false), ends f3, ends f4, ends f5, ends (ne_f f6), goes ((rCrossL_rounds c j 0 hj hb hc ha (gx c.cross j).args.length 0 (by omega)).1 _ f7).loop] (by kernel_rfl)
                · rw [if_neg f0, bif_t f1, bif_t f2, bif_f f3, bif_f f4, bif_t f5, if_pos f6]
                  simp only [f7]
                  exact by_ (.g (truth of7)) Try.func24 rfl [elem (ins_ad (by omega : j < c.cross.length)), ends (decide_eq_false f0), gives (rGuard_con c c.step.length ((gx c.cross j).guard) (by omega) hb), ends (nt f1), ends (nt f2), ends (rfl : false = false), ends f3, ends f4, ends f5, ends (ne_f f6), goes ((rCrossL_rounds c j 0 hj hb hc ha (gx c.cross j).args.length 0 (by omega)).2 _ f7).loop] (by kernel_rfl)
              · rw [if_neg f0, bif_t f1, bif_t f2, bif_f f3, bif_f f4, bif_t f5, if_neg f6]
                exact by_ (.g (truth false)) Try.func24 rfl [elem (ins_ad (by omega : j < c.cross.length)), ends (decide_eq_false f0), gives (rGuard_con c c.step.length ((gx c.cross j).guard) (by omega) hb), ends (nt f1), ends (nt f2), ends (rfl : false = false), ends f3, ends f4, ends f5, ends (ne_t f6)] (by kernel_rfl)
            · rcases bc (is ((gx c.cross j).op) (⟨#[108, 42]⟩ : ByteArray)) with f6 | f6
              · rcases bc (rIn ((gx c.cross j).k) (2 : Int)) with f7 | f7
                · by_cases f8 : (((gx c.cross j).args).length : Int) = (2 : Int)
                  · rcases sc (rCrossL c j 0 (gx c.cross j).args.length 0) with ⟨of9, f9⟩ | ⟨of9, f9⟩
                    · rw [if_neg f0, bif_t f1, bif_t f2, bif_f f3, bif_f f4, bif_f f5, bif_t f6, bif_t f7, if_pos f8]
                      simp only [f9]
                      exact by_ (.g (truth true)) Try.func24 rfl [elem (ins_ad (by omega : j < c.cross.length)), ends (decide_eq_false f0), gives (rGuard_con c c.step.length ((gx c.cross j).guard) (by omega) hb), ends (nt f1), ends (nt f2), ends (rfl : false = false), ends f3, ends f4, ends f5, ends f6, gives (rIn_con ((gx c.cross j).k) (2 : Int)), ends (nt f7), ends (ne_f f8), goes ((rCrossL_rounds c j 0 hj hb hc ha (gx c.cross j).args.length 0 (by omega)).1 _ f9).loop] (by kernel_rfl)
                    · rw [if_neg f0, bif_t f1, bif_t f2, bif_f f3, bif_f f4, bif_f f5, bif_t f6, bif_t f7, if_pos f8]
                      simp only [f9]
                      exact by_ (.g (truth of9)) Try.func24 rfl [elem (ins_ad (by omega : j < c.cross.length)), ends (decide_eq_false f0), gives (rGuard_con c c.step.length ((gx c.cross j).guard) (by omega) hb), ends (nt f1), ends (nt f2), ends (rfl : false = false), ends f3, ends f4, ends f5, ends f6, gives (rIn_con ((gx c.cross j).k) (2 : Int)), ends (nt f7), ends (ne_f f8), goes ((rCrossL_rounds c j 0 hj hb hc ha (gx c.cross j).args.length 0 (by omega)).2 _ f9).loop] (by kernel_rfl)
                  · rw [if_neg f0, bif_t f1, bif_t f2, bif_f f3, bif_f f4, bif_f f5, bif_t f6, bif_t f7, if_neg f8]
                    exact by_ (.g (truth false)) Try.func24 rfl [elem (ins_ad (by omega : j < c.cross.length)), ends (decide_eq_false f0), gives (rGuard_con c c.step.length ((gx c.cross j).guard) (by omega) hb), ends (nt f1), ends (nt f2), ends (rfl : false = false), ends f3, ends f4, ends f5, ends f6, gives (rIn_con ((gx c.cross j).k) (2 : Int)), ends (nt f7), ends (ne_t f8)] (by kernel_rfl)
                · rw [if_neg f0, bif_t f1, bif_t f2, bif_f f3, bif_f f4, bif_f f5, bif_t f6, bif_f f7]
                  exact by_ (.g (truth false)) Try.func24 rfl [elem (ins_ad (by omega : j < c.cross.length)), ends (decide_eq_false f0), gives (rGuard_con c c.step.length ((gx c.cross j).guard) (by omega) hb), ends (nt f1), ends (nt f2), ends (rfl : false = false), ends f3, ends f4, ends f5, ends f6, gives (rIn_con ((gx c.cross j).k) (2 : Int)), ends (nf f7)] (by kernel_rfl)
              · rcases bc (is ((gx c.cross j).op) (⟨#[108, 43]⟩ : ByteArray)) with f7 | f7
                · by_cases f8 : (((gx c.cross j).args).length : Int) = (2 : Int)
                  · rcases sc (rCrossL c j 0 (gx c.cross j).args.length 0) with ⟨of9, f9⟩ | ⟨of9, f9⟩
                    · rw [if_neg f0, bif_t f1, bif_t f2, bif_f f3, bif_f f4, bif_f f5, bif_f f6, bif_t f7, if_pos f8]
                      simp only [f9]
                      exact by_ (.g (truth true)) Try.func24 rfl [elem (ins_ad (by omega : j < c.cross.length)), ends (decide_eq_false f0), gives (rGuard_con c c.step.length ((gx c.cross j).guard) (by omega) hb), ends (nt f1), ends (nt f2), ends (rfl : false = false), ends f3, ends f4, ends f5, ends f6, ends f7, ends f7, ends (ne_f f8), goes ((rCrossL_rounds c j 0 hj hb hc ha (gx c.cross j).args.length 0 (by omega)).1 _ f9).loop] (by kernel_rfl)
                    · rw [if_neg f0, bif_t f1, bif_t f2, bif_f f3, bif_f f4, bif_f f5, bif_f f6, bif_t f7, if_pos f8]
                      simp only [f9]
                      exact by_ (.g (truth of9)) Try.func24 rfl [elem (ins_ad (by omega : j < c.cross.length)), ends (decide_eq_false f0), gives (rGuard_con c c.step.length ((gx c.cross j).guard) (by omega) hb), ends (nt f1), ends (nt f2), ends (rfl : false = false), ends f3, ends f4, ends f5, ends f6, ends f7, ends f7, ends (ne_f f8), goes ((rCrossL_rounds c j 0 hj hb hc ha (gx c.cross j).args.length 0 (by omega)).2 _ f9).loop] (by kernel_rfl)
                  · rw [if_neg f0, bif_t f1, bif_t f2, bif_f f3, bif_f f4, bif_f f5, bif_f f6, bif_t f7, if_neg f8]
                    exact by_ (.g (truth false)) Try.func24 rfl [elem (ins_ad (by omega : j < c.cross.length)), ends (decide_eq_false f0), gives (rGuard_con c c.step.length ((gx c.cross j).guard) (by omega) hb), ends (nt f1), ends (nt f2), ends (rfl : false = false), ends f3, ends f4, ends f5, ends f6, ends f7, ends f7, ends (ne_t f8)] (by kernel_rfl)
                · rcases bc (is ((gx c.cross j).op) (⟨#[108, 45]⟩ : ByteArray)) with f8 | f8
                  · by_cases f9 : (((gx c.cross j).args).length : Int) = (2 : Int)
                    · rcases sc (rCrossL c j 0 (gx c.cross j).args.length 0) with ⟨of10, f10⟩ | ⟨of10, f10⟩
                      · rw [if_neg f0, bif_t f1, bif_t f2, bif_f f3, bif_f f4, bif_f f5, bif_f f6, bif_f f7, bif_t f8, if_pos f9]
                        simp only [f10]
                        exact by_ (.g (truth true)) Try.func24 rfl [elem (ins_ad (by omega : j < c.cross.length)), ends (decide_eq_false f0), gives (rGuard_con c c.step.length ((gx c.cross j).guard) (by omega) hb), ends (nt f1), ends (nt f2), ends (rfl : false = false), ends f3, ends f4, ends f5, ends f6, ends f7, ends f8, ends f8, ends (ne_f f9), goes ((rCrossL_rounds c j 0 hj hb hc ha (gx c.cross j).args.length 0 (by omega)).1 _ f10).loop] (by kernel_rfl)
                      · rw [if_neg f0, bif_t f1, bif_t f2, bif_f f3, bif_f f4, bif_f f5, bif_f f6, bif_f f7, bif_t f8, if_pos f9]
                        simp only [f10]
                        exact by_ (.g (truth of10)) Try.func24 rfl [elem (ins_ad (by omega : j < c.cross.length)), ends (decide_eq_false f0), gives (rGuard_con c c.step.length ((gx c.cross j).guard) (by omega) hb), ends (nt f1), ends (nt f2), ends (rfl : false = false), ends f3, ends f4, ends f5, ends f6, ends f7, ends f8, ends f8, ends (ne_f f9), goes ((rCrossL_rounds c j 0 hj hb hc ha (gx c.cross j).args.length 0 (by omega)).2 _ f10).loop] (by kernel_rfl)
                    · rw [if_neg f0, bif_t f1, bif_t f2, bif_f f3, bif_f f4, bif_f f5, bif_f f6, bif_f f7, bif_t f8, if_neg f9]
                      exact by_ (.g (truth false)) Try.func24 rfl [elem (ins_ad (by omega : j < c.cross.length)), ends (decide_eq_false f0), gives (rGuard_con c c.step.length ((gx c.cross j).guard) (by omega) hb), ends (nt f1), ends (nt f2), ends (rfl : false = false), ends f3, ends f4, ends f5, ends f6, ends f7, ends f8, ends f8, ends (ne_t f9)] (by kernel_rfl)
                  · rcases bc (is ((gx c.cross j).op) (⟨#[108, 47]⟩ : ByteArray)) with f9 | f9
                    · by_cases f10 : (((gx c.cross j).args).length : Int) = (2 : Int)
                      · rcases sc (rCrossL c j 0 (gx c.cross j).args.length 0) with ⟨of11, f11⟩ | ⟨of11, f11⟩
                        · rw [if_neg f0, bif_t f1, bif_t f2, bif_f f3, bif_f f4, bif_f f5, bif_f f6, bif_f f7, bif_f f8, bif_t f9, if_pos f10]
                          simp only [f11]
                          exact by_ (.g (truth true)) Try.func24 rfl [elem (ins_ad (by omega : j < c.cross.length)), ends (decide_eq_false f0), gives (rGuard_con c c.step.length ((gx c.cross j).guard) (by omega) hb), ends (nt f1), ends (nt f2), ends (rfl : false = false), ends f3, ends f4, ends f5, ends f6, ends f7, ends f8, ends f9, ends (ne_f f10), goes ((rCrossL_rounds c j 0 hj hb hc ha (gx c.cross j).args.length 0 (by omega)).1 _ f11).loop] (by kernel_rfl)
                        · rw [if_neg f0, bif_t f1, bif_t f2, bif_f f3, bif_f f4, bif_f f5, bif_f f6, bif_f f7, bif_f f8, bif_t f9, if_pos f10]
                          simp only [f11]
                          exact by_ (.g (truth of11)) Try.func24 rfl [elem (ins_ad (by omega : j < c.cross.length)), ends (decide_eq_false f0), gives (rGuard_con c c.step.length ((gx c.cross j).guard) (by omega) hb), ends (nt f1), ends (nt f2), ends (rfl : false = false), ends f3, ends f4, ends f5, ends f6, ends f7, ends f8, ends f9, ends (ne_f f10), goes ((rCrossL_rounds c j 0 hj hb hc ha (gx c.cross j).args.length 0 (by omega)).2 _ f11).loop] (by kernel_rfl)
                      · rw [if_neg f0, bif_t f1, bif_t f2, bif_f f3, bif_f f4, bif_f f5, bif_f f6, bif_f f7, bif_f f8, bif_t f9, if_neg f10]
                        exact by_ (.g (truth false)) Try.func24 rfl [elem (ins_ad (by omega : j < c.cross.length)), ends (decide_eq_false f0), gives (rGuard_con c c.step.length ((gx c.cross j).guard) (by omega) hb), ends (nt f1), ends (nt f2), ends (rfl : false = false), ends f3, ends f4, ends f5, ends f6, ends f7, ends f8, ends f9, ends (ne_t f10)] (by kernel_rfl)
                    · rcases bc (is ((gx c.cross j).op) (⟨#[108, 115, 101, 108]⟩ : ByteArray)) with f10 | f10
                      · by_cases f11 : (((gx c.cross j).args).length : Int) = (3 : Int)
                        · rcases sc (rCrossL c j 1 (gx c.cross j).args.length 0) with ⟨of12, f12⟩ | ⟨of12, f12⟩
                          · rw [if_neg f0, bif_t f1, bif_t f2, bif_f f3, bif_f f4, bif_f f5, bif_f f6, bif_f f7, bif_f f8, bif_f f9, bif_t f10, if_pos f11]
                            simp only [f12]
                            exact by_ (.g (truth true)) Try.func24 rfl [elem (ins_ad (by omega : j < c.cross.length)), ends (decide_eq_false f0), gives (rGuard_con c c.step.length ((gx c.cross j).guard) (by omega) hb), ends (nt f1), ends (nt f2), ends (rfl : false = false), ends f3, ends f4, ends f5, ends f6, ends f7, ends f8, ends f9, ends f10, ends (ne_f f11), goes ((rCrossL_rounds c j 1 hj hb hc ha (gx c.cross j).args.length 0 (by omega)).1 _ f12).loop] (by kernel_rfl)
                          · rw [if_neg f0, bif_t f1, bif_t f2, bif_f f3, bif_f f4, bif_f f5, bif_f f6, bif_f f7, bif_f f8, bif_f f9, bif_t f10, if_pos f11]
                            simp only [f12]
                            exact by_ (.g (truth of12)) Try.func24 rfl [elem (ins_ad (by omega : j < c.cross.length)), ends (decide_eq_false f0), gives (rGuard_con c c.step.length ((gx c.cross j).guard) (by omega) hb), ends (nt f1), ends (nt f2), ends (rfl : false = false), ends f3, ends f4, ends f5, ends f6, ends f7, ends f8, ends f9, ends f10, ends (ne_f f11), goes ((rCrossL_rounds c j 1 hj hb hc ha (gx c.cross j).args.length 0 (by omega)).2 _ f12).loop] (by kernel_rfl)
                        · rw [if_neg f0, bif_t f1, bif_t f2, bif_f f3, bif_f f4, bif_f f5, bif_f f6, bif_f f7, bif_f f8, bif_f f9, bif_t f10, if_neg f11]
                          exact by_ (.g (truth false)) Try.func24 rfl [elem (ins_ad (by omega : j < c.cross.length)), ends (decide_eq_false f0), gives (rGuard_con c c.step.length ((gx c.cross j).guard) (by omega) hb), ends (nt f1), ends (nt f2), ends (rfl : false = false), ends f3, ends f4, ends f5, ends f6, ends f7, ends f8, ends f9, ends f10, ends (ne_t f11)] (by kernel_rfl)
                      · rcases bc (rIn ((gx c.cross j).k) c.crosses) with f11 | f11
                        · by_cases f12 : (((gx c.cross j).args).length : Int) = (1 : Int)
                          · rcases sc (rCrossL c j 0 (gx c.cross j).args.length 0) with ⟨of13, f13⟩ | ⟨of13, f13⟩
                            · rw [if_neg f0, bif_t f1, bif_t f2, bif_f f3, bif_f f4, bif_f f5, bif_f f6, bif_f f7, bif_f f8, bif_f f9, bif_f f10, bif_t f11, if_pos f12]
                              simp only [f13]
                              exact by_ (.g (truth true)) Try.func24 rfl [elem (ins_ad (by omega : j < c.cross.length)), ends (decide_eq_false f0), gives (rGuard_con c c.step.length ((gx c.cross j).guard) (by omega) hb), ends (nt f1), ends (nt f2), ends (rfl : false = false), ends f3, ends f4, ends f5, ends f6, ends f7, ends f8, ends f9, ends f10, ends f2, gives (rIn_con ((gx c.cross j).k) c.crosses), ends (nt f11), ends (ne_f f12), goes ((rCrossL_rounds c j 0 hj hb hc ha (gx c.cross j).args.length 0 (by omega)).1 _ f13).loop] (by kernel_rfl)
                            · rw [if_neg f0, bif_t f1, bif_t f2, bif_f f3, bif_f f4, bif_f f5, bif_f f6, bif_f f7, bif_f f8, bif_f f9, bif_f f10, bif_t f11, if_pos f12]
                              simp only [f13]
                              exact by_ (.g (truth of13)) Try.func24 rfl [elem (ins_ad (by omega : j < c.cross.length)), ends (decide_eq_false f0), gives (rGuard_con c c.step.length ((gx c.cross j).guard) (by omega) hb), ends (nt f1), ends (nt f2), ends (rfl : false = false), ends f3, ends f4, ends f5, ends f6, ends f7, ends f8, ends f9, ends f10, ends f2, gives (rIn_con ((gx c.cross j).k) c.crosses), ends (nt f11), ends (ne_f f12), goes ((rCrossL_rounds c j 0 hj hb hc ha (gx c.cross j).args.length 0 (by omega)).2 _ f13).loop] (by kernel_rfl)
                          · rw [if_neg f0, bif_t f1, bif_t f2, bif_f f3, bif_f f4, bif_f f5, bif_f f6, bif_f f7, bif_f f8, bif_f f9, bif_f f10, bif_t f11, if_neg f12]
                            exact by_ (.g (truth false)) Try.func24 rfl [elem (ins_ad (by omega : j < c.cross.length)), ends (decide_eq_false f0), gives (rGuard_con c c.step.length ((gx c.cross j).guard) (by omega) hb), ends (nt f1), ends (nt f2), ends (rfl : false = false), ends f3, ends f4, ends f5, ends f6, ends f7, ends f8, ends f9, ends f10, ends f2, gives (rIn_con ((gx c.cross j).k) c.crosses), ends (nt f11), ends (ne_t f12)] (by kernel_rfl)
                        · rw [if_neg f0, bif_t f1, bif_t f2, bif_f f3, bif_f f4, bif_f f5, bif_f f6, bif_f f7, bif_f f8, bif_f f9, bif_f f10, bif_f f11]
                          exact by_ (.g (truth false)) Try.func24 rfl [elem (ins_ad (by omega : j < c.cross.length)), ends (decide_eq_false f0), gives (rGuard_con c c.step.length ((gx c.cross j).guard) (by omega) hb), ends (nt f1), ends (nt f2), ends (rfl : false = false), ends f3, ends f4, ends f5, ends f6, ends f7, ends f8, ends f9, ends f10, ends f2, gives (rIn_con ((gx c.cross j).k) c.crosses), ends (nf f11)] (by kernel_rfl)
      · rcases bc (rIn ((gx c.cross j).dst) c.lines) with f3 | f3
        · rcases bc (is ((gx c.cross j).op) (⟨#[108, 118, 97, 114]⟩ : ByteArray)) with f4 | f4
          · by_cases f5 : (((gx c.cross j).args).length : Int) = (1 : Int)
            · rcases sc (rCrossL c j 1 (gx c.cross j).args.length 0) with ⟨of6, f6⟩ | ⟨of6, f6⟩
              · rw [if_neg f0, bif_t f1, bif_f f2, bif_t f3, bif_t f4, if_pos f5]
                simp only [f6]
                exact by_ (.g (truth true)) Try.func24 rfl [elem (ins_ad (by omega : j < c.cross.length)), ends (decide_eq_false f0), gives (rGuard_con c c.step.length ((gx c.cross j).guard) (by omega) hb), ends (nt f1), ends (nf f2), gives (rIn_con ((gx c.cross j).dst) c.lines), ends (nt f3), ends f4, ends (ne_f f5), goes ((rCrossL_rounds c j 1 hj hb hc ha (gx c.cross j).args.length 0 (by omega)).1 _ f6).loop] (by kernel_rfl)
              · rw [if_neg f0, bif_t f1, bif_f f2, bif_t f3, bif_t f4, if_pos f5]
                simp only [f6]
                exact by_ (.g (truth of6)) Try.func24 rfl [elem (ins_ad (by omega : j < c.cross.length)), ends (decide_eq_false f0), gives (rGuard_con c c.step.length ((gx c.cross j).guard) (by omega) hb), ends (nt f1), ends (nf f2), gives (rIn_con ((gx c.cross j).dst) c.lines), ends (nt f3), ends f4, ends (ne_f f5), goes ((rCrossL_rounds c j 1 hj hb hc ha (gx c.cross j).args.length 0 (by omega)).2 _ f6).loop] (by kernel_rfl)
            · rw [if_neg f0, bif_t f1, bif_f f2, bif_t f3, bif_t f4, if_neg f5]
              exact by_ (.g (truth false)) Try.func24 rfl [elem (ins_ad (by omega : j < c.cross.length)), ends (decide_eq_false f0), gives (rGuard_con c c.step.length ((gx c.cross j).guard) (by omega) hb), ends (nt f1), ends (nf f2), gives (rIn_con ((gx c.cross j).dst) c.lines), ends (nt f3), ends f4, ends (ne_t f5)] (by kernel_rfl)
          · rcases bc (is ((gx c.cross j).op) (⟨#[108, 99, 111, 110, 116]⟩ : ByteArray)) with f5 | f5
            · rcases bc (rIn ((gx c.cross j).k) (c.conts.length : Int)) with f6 | f6
              · by_cases f7 : (((gx c.cross j).args).length : Int) = (0 : Int)
                · rcases sc (rCrossL c j 0 (gx c.cross j).args.length 0) with ⟨of8, f8⟩ | ⟨of8, f8⟩
                  · rw [if_neg f0, bif_t f1, bif_f f2, bif_t f3, bif_f f4, bif_t f5, bif_t f6, if_pos f7]
                    simp only [f8]
                    exact by_ (.g (truth true)) Try.func24 rfl [elem (ins_ad (by omega : j < c.cross.length)), ends (decide_eq_false f0), gives (rGuard_con c c.step.length ((gx c.cross j).guard) (by omega) hb), ends (nt f1), ends (nf f2), gives (rIn_con ((gx c.cross j).dst) c.lines), ends (nt f3), ends f4, ends f5, gives (rIn_con ((gx c.cross j).k) (c.conts.length : Int)), ends (nt f6), ends (ne_f f7), goes ((rCrossL_rounds c j 0 hj hb hc ha (gx c.cross j).args.length 0 (by omega)).1 _ f8).loop] (by kernel_rfl)
                  · rw [if_neg f0, bif_t f1, bif_f f2, bif_t f3, bif_f f4, bif_t f5, bif_t f6, if_pos f7]
                    simp only [f8]
                    exact by_ (.g (truth of8)) Try.func24 rfl [elem (ins_ad (by omega : j < c.cross.length)), ends (decide_eq_false f0), gives (rGuard_con c c.step.length ((gx c.cross j).guard) (by omega) hb), ends (nt f1), ends (nf f2), gives (rIn_con ((gx c.cross j).dst) c.lines), ends (nt f3), ends f4, ends f5, gives (rIn_con ((gx c.cross j).k) (c.conts.length : Int)), ends (nt f6), ends (ne_f f7), goes ((rCrossL_rounds c j 0 hj hb hc ha (gx c.cross j).args.length 0 (by omega)).2 _ f8).loop] (by kernel_rfl)
                · rw [if_neg f0, bif_t f1, bif_f f2, bif_t f3, bif_f f4, bif_t f5, bif_t f6, if_neg f7]
                  exact by_ (.g (truth false)) Try.func24 rfl [elem (ins_ad (by omega : j < c.cross.length)), ends (decide_eq_false f0), gives (rGuard_con c c.step.length ((gx c.cross j).guard) (by omega) hb), ends (nt f1), ends (nf f2), gives (rIn_con ((gx c.cross j).dst) c.lines), ends (nt f3), ends f4, ends f5, gives (rIn_con ((gx c.cross j).k) (c.conts.length : Int)), ends (nt f6), ends (ne_t f7)] (by kernel_rfl)
              · rw [if_neg f0, bif_t f1, bif_f f2, bif_t f3, bif_f f4, bif_t f5, bif_f f6]
                exact by_ (.g (truth false)) Try.func24 rfl [elem (ins_ad (by omega : j < c.cross.length)), ends (decide_eq_false f0), gives (rGuard_con c c.step.length ((gx c.cross j).guard) (by omega) hb), ends (nt f1), ends (nf f2), gives (rIn_con ((gx c.cross j).dst) c.lines), ends (nt f3), ends f4, ends f5, gives (rIn_con ((gx c.cross j).k) (c.conts.length : Int)), ends (nf f6)] (by kernel_rfl)
            · rcases bc (is ((gx c.cross j).op) (⟨#[108, 110, 101, 103]⟩ : ByteArray)) with f6 | f6
              · by_cases f7 : (((gx c.cross j).args).length : Int) = (1 : Int)
                · rcases sc (rCrossL c j 0 (gx c.cross j).args.length 0) with ⟨of8, f8⟩ | ⟨of8, f8⟩
                  · rw [if_neg f0, bif_t f1, bif_f f2, bif_t f3, bif_f f4, bif_f f5, bif_t f6, if_pos f7]
                    simp only [f8]
                    exact by_ (.g (truth true)) Try.func24 rfl [elem (ins_ad (by omega : j < c.cross.length)), ends (decide_eq_false f0), gives (rGuard_con c c.step.length ((gx c.cross j).guard) (by omega) hb), ends (nt f1), ends (nf f2), gives (rIn_con ((gx c.cross j).dst) c.lines), ends (nt f3), ends f4, ends f5, ends f6, ends (ne_f f7), goes ((rCrossL_rounds c j 0 hj hb hc ha (gx c.cross j).args.length 0 (by omega)).1 _ f8).loop] (by kernel_rfl)
                  · rw [if_neg f0, bif_t f1, bif_f f2, bif_t f3, bif_f f4, bif_f f5, bif_t f6, if_pos f7]
                    simp only [f8]
                    exact by_ (.g (truth of8)) Try.func24 rfl [elem (ins_ad (by omega : j < c.cross.length)), ends (decide_eq_false f0), gives (rGuard_con c c.step.length ((gx c.cross j).guard) (by omega) hb), ends (nt f1), ends (nf f2), gives (rIn_con ((gx c.cross j).dst) c.lines), ends (nt f3), ends f4, ends f5, ends f6, ends (ne_f f7), goes ((rCrossL_rounds c j 0 hj hb hc ha (gx c.cross j).args.length 0 (by omega)).2 _ f8).loop] (by kernel_rfl)
                · rw [if_neg f0, bif_t f1, bif_f f2, bif_t f3, bif_f f4, bif_f f5, bif_t f6, if_neg f7]
                  exact by_ (.g (truth false)) Try.func24 rfl [elem (ins_ad (by omega : j < c.cross.length)), ends (decide_eq_false f0), gives (rGuard_con c c.step.length ((gx c.cross j).guard) (by omega) hb), ends (nt f1), ends (nf f2), gives (rIn_con ((gx c.cross j).dst) c.lines), ends (nt f3), ends f4, ends f5, ends f6, ends (ne_t f7)] (by kernel_rfl)
              · rcases bc (is ((gx c.cross j).op) (⟨#[108, 42]⟩ : ByteArray)) with f7 | f7
                · rcases bc (rIn ((gx c.cross j).k) (2 : Int)) with f8 | f8
                  · by_cases f9 : (((gx c.cross j).args).length : Int) = (2 : Int)
                    · rcases sc (rCrossL c j 0 (gx c.cross j).args.length 0) with ⟨of10, f10⟩ | ⟨of10, f10⟩
                      · rw [if_neg f0, bif_t f1, bif_f f2, bif_t f3, bif_f f4, bif_f f5, bif_f f6, bif_t f7, bif_t f8, if_pos f9]
                        simp only [f10]
                        exact by_ (.g (truth true)) Try.func24 rfl [elem (ins_ad (by omega : j < c.cross.length)), ends (decide_eq_false f0), gives (rGuard_con c c.step.length ((gx c.cross j).guard) (by omega) hb), ends (nt f1), ends (nf f2), gives (rIn_con ((gx c.cross j).dst) c.lines), ends (nt f3), ends f4, ends f5, ends f6, ends f7, gives (rIn_con ((gx c.cross j).k) (2 : Int)), ends (nt f8), ends (ne_f f9), goes ((rCrossL_rounds c j 0 hj hb hc ha (gx c.cross j).args.length 0 (by omega)).1 _ f10).loop] (by kernel_rfl)
                      · rw [if_neg f0, bif_t f1, bif_f f2, bif_t f3, bif_f f4, bif_f f5, bif_f f6, bif_t f7, bif_t f8, if_pos f9]
                        simp only [f10]
                        exact by_ (.g (truth of10)) Try.func24 rfl [elem (ins_ad (by omega : j < c.cross.length)), ends (decide_eq_false f0), gives (rGuard_con c c.step.length ((gx c.cross j).guard) (by omega) hb), ends (nt f1), ends (nf f2), gives (rIn_con ((gx c.cross j).dst) c.lines), ends (nt f3), ends f4, ends f5, ends f6, ends f7, gives (rIn_con ((gx c.cross j).k) (2 : Int)), ends (nt f8), ends (ne_f f9), goes ((rCrossL_rounds c j 0 hj hb hc ha (gx c.cross j).args.length 0 (by omega)).2 _ f10).loop] (by kernel_rfl)
                    · rw [if_neg f0, bif_t f1, bif_f f2, bif_t f3, bif_f f4, bif_f f5, bif_f f6, bif_t f7, bif_t f8, if_neg f9]
                      exact by_ (.g (truth false)) Try.func24 rfl [elem (ins_ad (by omega : j < c.cross.length)), ends (decide_eq_false f0), gives (rGuard_con c c.step.length ((gx c.cross j).guard) (by omega) hb), ends (nt f1), ends (nf f2), gives (rIn_con ((gx c.cross j).dst) c.lines), ends (nt f3), ends f4, ends f5, ends f6, ends f7, gives (rIn_con ((gx c.cross j).k) (2 : Int)), ends (nt f8), ends (ne_t f9)] (by kernel_rfl)
                  · rw [if_neg f0, bif_t f1, bif_f f2, bif_t f3, bif_f f4, bif_f f5, bif_f f6, bif_t f7, bif_f f8]
                    exact by_ (.g (truth false)) Try.func24 rfl [elem (ins_ad (by omega : j < c.cross.length)), ends (decide_eq_false f0), gives (rGuard_con c c.step.length ((gx c.cross j).guard) (by omega) hb), ends (nt f1), ends (nf f2), gives (rIn_con ((gx c.cross j).dst) c.lines), ends (nt f3), ends f4, ends f5, ends f6, ends f7, gives (rIn_con ((gx c.cross j).k) (2 : Int)), ends (nf f8)] (by kernel_rfl)
                · rcases bc (is ((gx c.cross j).op) (⟨#[108, 43]⟩ : ByteArray)) with f8 | f8
                  · by_cases f9 : (((gx c.cross j).args).length : Int) = (2 : Int)
                    · rcases sc (rCrossL c j 0 (gx c.cross j).args.length 0) with ⟨of10, f10⟩ | ⟨of10, f10⟩
                      · rw [if_neg f0, bif_t f1, bif_f f2, bif_t f3, bif_f f4, bif_f f5, bif_f f6, bif_f f7, bif_t f8, if_pos f9]
                        simp only [f10]
                        exact by_ (.g (truth true)) Try.func24 rfl [elem (ins_ad (by omega : j < c.cross.length)), ends (decide_eq_false f0), gives (rGuard_con c c.step.length ((gx c.cross j).guard) (by omega) hb), ends (nt f1), ends (nf f2), gives (rIn_con ((gx c.cross j).dst) c.lines), ends (nt f3), ends f4, ends f5, ends f6, ends f7, ends f8, ends f8, ends (ne_f f9), goes ((rCrossL_rounds c j 0 hj hb hc ha (gx c.cross j).args.length 0 (by omega)).1 _ f10).loop] (by kernel_rfl)
                      · rw [if_neg f0, bif_t f1, bif_f f2, bif_t f3, bif_f f4, bif_f f5, bif_f f6, bif_f f7, bif_t f8, if_pos f9]
                        simp only [f10]
                        exact by_ (.g (truth of10)) Try.func24 rfl [elem (ins_ad (by omega : j < c.cross.length)), ends (decide_eq_false f0), gives (rGuard_con c c.step.length ((gx c.cross j).guard) (by omega) hb), ends (nt f1), ends (nf f2), gives (rIn_con ((gx c.cross j).dst) c.lines), ends (nt f3), ends f4, ends f5, ends f6, ends f7, ends f8, ends f8, ends (ne_f f9), goes ((rCrossL_rounds c j 0 hj hb hc ha (gx c.cross j).args.length 0 (by omega)).2 _ f10).loop] (by kernel_rfl)
                    · rw [if_neg f0, bif_t f1, bif_f f2, bif_t f3, bif_f f4, bif_f f5, bif_f f6, bif_f f7, bif_t f8, if_neg f9]
                      exact by_ (.g (truth false)) Try.func24 rfl [elem (ins_ad (by omega : j < c.cross.length)), ends (decide_eq_false f0), gives (rGuard_con c c.step.length ((gx c.cross j).guard) (by omega) hb), ends (nt f1), ends (nf f2), gives (rIn_con ((gx c.cross j).dst) c.lines), ends (nt f3), ends f4, ends f5, ends f6, ends f7, ends f8, ends f8, ends (ne_t f9)] (by kernel_rfl)
                  · rcases bc (is ((gx c.cross j).op) (⟨#[108, 45]⟩ : ByteArray)) with f9 | f9
                    · by_cases f10 : (((gx c.cross j).args).length : Int) = (2 : Int)
                      · rcases sc (rCrossL c j 0 (gx c.cross j).args.length 0) with ⟨of11, f11⟩ | ⟨of11, f11⟩
                        · rw [if_neg f0, bif_t f1, bif_f f2, bif_t f3, bif_f f4, bif_f f5, bif_f f6, bif_f f7, bif_f f8, bif_t f9, if_pos f10]
                          simp only [f11]
                          exact by_ (.g (truth true)) Try.func24 rfl [elem (ins_ad (by omega : j < c.cross.length)), ends (decide_eq_false f0), gives (rGuard_con c c.step.length ((gx c.cross j).guard) (by omega) hb), ends (nt f1), ends (nf f2), gives (rIn_con ((gx c.cross j).dst) c.lines), ends (nt f3), ends f4, ends f5, ends f6, ends f7, ends f8, ends f9, ends f9, ends (ne_f f10), goes ((rCrossL_rounds c j 0 hj hb hc ha (gx c.cross j).args.length 0 (by omega)).1 _ f11).loop] (by kernel_rfl)
                        · rw [if_neg f0, bif_t f1, bif_f f2, bif_t f3, bif_f f4, bif_f f5, bif_f f6, bif_f f7, bif_f f8, bif_t f9, if_pos f10]
                          simp only [f11]
                          exact by_ (.g (truth of11)) Try.func24 rfl [elem (ins_ad (by omega : j < c.cross.length)), ends (decide_eq_false f0), gives (rGuard_con c c.step.length ((gx c.cross j).guard) (by omega) hb), ends (nt f1), ends (nf f2), gives (rIn_con ((gx c.cross j).dst) c.lines), ends (nt f3), ends f4, ends f5, ends f6, ends f7, ends f8, ends f9, ends f9, ends (ne_f f10), goes ((rCrossL_rounds c j 0 hj hb hc ha (gx c.cross j).args.length 0 (by omega)).2 _ f11).loop] (by kernel_rfl)
                      · rw [if_neg f0, bif_t f1, bif_f f2, bif_t f3, bif_f f4, bif_f f5, bif_f f6, bif_f f7, bif_f f8, bif_t f9, if_neg f10]
                        exact by_ (.g (truth false)) Try.func24 rfl [elem (ins_ad (by omega : j < c.cross.length)), ends (decide_eq_false f0), gives (rGuard_con c c.step.length ((gx c.cross j).guard) (by omega) hb), ends (nt f1), ends (nf f2), gives (rIn_con ((gx c.cross j).dst) c.lines), ends (nt f3), ends f4, ends f5, ends f6, ends f7, ends f8, ends f9, ends f9, ends (ne_t f10)] (by kernel_rfl)
                    · rcases bc (is ((gx c.cross j).op) (⟨#[108, 47]⟩ : ByteArray)) with f10 | f10
                      · by_cases f11 : (((gx c.cross j).args).length : Int) = (2 : Int)
                        · rcases sc (rCrossL c j 0 (gx c.cross j).args.length 0) with ⟨of12, f12⟩ | ⟨of12, f12⟩
                          · rw [if_neg f0, bif_t f1, bif_f f2, bif_t f3, bif_f f4, bif_f f5, bif_f f6, bif_f f7, bif_f f8, bif_f f9, bif_t f10, if_pos f11]
                            simp only [f12]
                            exact by_ (.g (truth true)) Try.func24 rfl [elem (ins_ad (by omega : j < c.cross.length)), ends (decide_eq_false f0), gives (rGuard_con c c.step.length ((gx c.cross j).guard) (by omega) hb), ends (nt f1), ends (nf f2), gives (rIn_con ((gx c.cross j).dst) c.lines), ends (nt f3), ends f4, ends f5, ends f6, ends f7, ends f8, ends f9, ends f10, ends (ne_f f11), goes ((rCrossL_rounds c j 0 hj hb hc ha (gx c.cross j).args.length 0 (by omega)).1 _ f12).loop] (by kernel_rfl)
                          · rw [if_neg f0, bif_t f1, bif_f f2, bif_t f3, bif_f f4, bif_f f5, bif_f f6, bif_f f7, bif_f f8, bif_f f9, bif_t f10, if_pos f11]
                            simp only [f12]
                            exact by_ (.g (truth of12)) Try.func24 rfl [elem (ins_ad (by omega : j < c.cross.length)), ends (decide_eq_false f0), gives (rGuard_con c c.step.length ((gx c.cross j).guard) (by omega) hb), ends (nt f1), ends (nf f2), gives (rIn_con ((gx c.cross j).dst) c.lines), ends (nt f3), ends f4, ends f5, ends f6, ends f7, ends f8, ends f9, ends f10, ends (ne_f f11), goes ((rCrossL_rounds c j 0 hj hb hc ha (gx c.cross j).args.length 0 (by omega)).2 _ f12).loop] (by kernel_rfl)
                        · rw [if_neg f0, bif_t f1, bif_f f2, bif_t f3, bif_f f4, bif_f f5, bif_f f6, bif_f f7, bif_f f8, bif_f f9, bif_t f10, if_neg f11]
                          exact by_ (.g (truth false)) Try.func24 rfl [elem (ins_ad (by omega : j < c.cross.length)), ends (decide_eq_false f0), gives (rGuard_con c c.step.length ((gx c.cross j).guard) (by omega) hb), ends (nt f1), ends (nf f2), gives (rIn_con ((gx c.cross j).dst) c.lines), ends (nt f3), ends f4, ends f5, ends f6, ends f7, ends f8, ends f9, ends f10, ends (ne_t f11)] (by kernel_rfl)
                      · rcases bc (is ((gx c.cross j).op) (⟨#[108, 115, 101, 108]⟩ : ByteArray)) with f11 | f11
                        · by_cases f12 : (((gx c.cross j).args).length : Int) = (3 : Int)
                          · rcases sc (rCrossL c j 1 (gx c.cross j).args.length 0) with ⟨of13, f13⟩ | ⟨of13, f13⟩
                            · rw [if_neg f0, bif_t f1, bif_f f2, bif_t f3, bif_f f4, bif_f f5, bif_f f6, bif_f f7, bif_f f8, bif_f f9, bif_f f10, bif_t f11, if_pos f12]
                              simp only [f13]
                              exact by_ (.g (truth true)) Try.func24 rfl [elem (ins_ad (by omega : j < c.cross.length)), ends (decide_eq_false f0), gives (rGuard_con c c.step.length ((gx c.cross j).guard) (by omega) hb), ends (nt f1), ends (nf f2), gives (rIn_con ((gx c.cross j).dst) c.lines), ends (nt f3), ends f4, ends f5, ends f6, ends f7, ends f8, ends f9, ends f10, ends f11, ends (ne_f f12), goes ((rCrossL_rounds c j 1 hj hb hc ha (gx c.cross j).args.length 0 (by omega)).1 _ f13).loop] (by kernel_rfl)
                            · rw [if_neg f0, bif_t f1, bif_f f2, bif_t f3, bif_f f4, bif_f f5, bif_f f6, bif_f f7, bif_f f8, bif_f f9, bif_f f10, bif_t f11, if_pos f12]
                              simp only [f13]
                              exact by_ (.g (truth of13)) Try.func24 rfl [elem (ins_ad (by omega : j < c.cross.length)), ends (decide_eq_false f0), gives (rGuard_con c c.step.length ((gx c.cross j).guard) (by omega) hb), ends (nt f1), ends (nf f2), gives (rIn_con ((gx c.cross j).dst) c.lines), ends (nt f3), ends f4, ends f5, ends f6, ends f7, ends f8, ends f9, ends f10, ends f11, ends (ne_f f12), goes ((rCrossL_rounds c j 1 hj hb hc ha (gx c.cross j).args.length 0 (by omega)).2 _ f13).loop] (by kernel_rfl)
                          · rw [if_neg f0, bif_t f1, bif_f f2, bif_t f3, bif_f f4, bif_f f5, bif_f f6, bif_f f7, bif_f f8, bif_f f9, bif_f f10, bif_t f11, if_neg f12]
                            exact by_ (.g (truth false)) Try.func24 rfl [elem (ins_ad (by omega : j < c.cross.length)), ends (decide_eq_false f0), gives (rGuard_con c c.step.length ((gx c.cross j).guard) (by omega) hb), ends (nt f1), ends (nf f2), gives (rIn_con ((gx c.cross j).dst) c.lines), ends (nt f3), ends f4, ends f5, ends f6, ends f7, ends f8, ends f9, ends f10, ends f11, ends (ne_t f12)] (by kernel_rfl)
                        · rw [if_neg f0, bif_t f1, bif_f f2, bif_t f3, bif_f f4, bif_f f5, bif_f f6, bif_f f7, bif_f f8, bif_f f9, bif_f f10, bif_f f11]
                          exact by_ (.g (truth false)) Try.func24 rfl [elem (ins_ad (by omega : j < c.cross.length)), ends (decide_eq_false f0), gives (rGuard_con c c.step.length ((gx c.cross j).guard) (by omega) hb), ends (nt f1), ends (nf f2), gives (rIn_con ((gx c.cross j).dst) c.lines), ends (nt f3), ends f4, ends f5, ends f6, ends f7, ends f8, ends f9, ends f10, ends f11, ends f2] (by kernel_rfl)
        · rw [if_neg f0, bif_t f1, bif_f f2, bif_f f3]
          exact by_ (.g (truth false)) Try.func24 rfl [elem (ins_ad (by omega : j < c.cross.length)), ends (decide_eq_false f0), gives (rGuard_con c c.step.length ((gx c.cross j).guard) (by omega) hb), ends (nt f1), ends (nf f2), gives (rIn_con ((gx c.cross j).dst) c.lines), ends (nf f3)] (by kernel_rfl)
    · rw [if_neg f0, bif_f f1]
      exact by_ (.g (truth false)) Try.func24 rfl [elem (ins_ad (by omega : j < c.cross.length)), ends (decide_eq_false f0), gives (rGuard_con c c.step.length ((gx c.cross j).guard) (by omega) hb), ends (nf f1), ends (rfl : true = true)] (by kernel_rfl)
theorem gx_mem {l : List Ins} {i : Nat} (h : i < l.length) : gx l i ∈ l := by
  unfold gx
  rw [List.getD_eq_getElem?_getD, List.getElem?_eq_getElem h]
  exact List.getElem_mem h
theorem Small.gs {c : Cod} (hs : Small c) (i : Nat) (h : i < c.step.length) : (gx c.step i).args.length < 4000000000000000000 ∧ (gx c.step i).resets.length < 4000000000000000000 := hs.args _ (.inl (gx_mem h))
theorem Small.gd {c : Cod} (hs : Small c) (i : Nat) (h : i < c.deriv.length) : (gx c.deriv i).args.length < 4000000000000000000 ∧ (gx c.deriv i).resets.length < 4000000000000000000 := hs.args _ (.inr (.inl (gx_mem h)))
theorem Small.gc {c : Cod} (hs : Small c) (i : Nat) (h : i < c.cross.length) : (gx c.cross i).args.length < 4000000000000000000 ∧ (gx c.cross i).resets.length < 4000000000000000000 := hs.args _ (.inr (.inr (gx_mem h)))
def rRight0_S (c : Cod)  (i : Int) : St := ⟨sparse 74 [(1, .g (.one (.ptr 0 0))), (3, .g (.one (ints ([c.ins, c.outs, c.slots, c.crosses, c.lines])))), (4, .g (num i))], [some (false, [.v (.int .i64 c.ins), .v (.int .i64 c.outs), .v (.int .i64 c.slots), .v (.int .i64 c.crosses), .v (.int .i64 c.lines), vals' c.mems, vals' c.conts, inss c.step, inss c.deriv, inss c.cross])], 0⟩
def rRight0_X (c : Cod)  : St := ⟨sparse 74 [(1, .g (.one (.ptr 0 0)))], [some (false, [.v (.int .i64 c.ins), .v (.int .i64 c.outs), .v (.int .i64 c.slots), .v (.int .i64 c.crosses), .v (.int .i64 c.lines), vals' c.mems, vals' c.conts, inss c.step, inss c.deriv, inss c.cross])], 0⟩
def rRight0_Y (c : Cod) (o : Bool) : St := ⟨sparse 74 [(2, .g (truth o))], [], 0⟩
def rRight0 (c : Cod) : Nat → Nat → Sum Unit Bool
  | 0, i => .inl ()
  | d + 1, i => if (gi ([c.ins, c.outs, c.slots, c.crosses, c.lines]) i) < (0 : Int) then (.inr false) else (if (gi ([c.ins, c.outs, c.slots, c.crosses, c.lines]) i) > (65536 : Int) then (.inr false) else (rRight0 c d (i + 1) ))
theorem rRight0_rounds (c : Cod)  : ∀ (d i : Nat) , i + d = ([c.ins, c.outs, c.slots, c.crosses, c.lines]).length → (∀ o, rRight0 c d i  = .inl o → Rounds Try.prog (lp Try.f10 0) (rRight0_S c  i) (.exit 0) (rRight0_X c )) ∧ (∀ o, rRight0 c d i  = .inr o → Rounds Try.prog (lp Try.f10 0) (rRight0_S c  i) .ret (rRight0_Y c o))
  | 0, i, hi => by
    have hge : ¬ (i : Int) < (([c.ins, c.outs, c.slots, c.crosses, c.lines]).length : Int) := by omega
    refine ⟨fun o h => ?_, fun o h => by cases h⟩
    cases h
    exact Rounds.out (at_m [] _ _ [ends (decide_eq_false hge)] [] none_ (by kernel_rfl)) (by simp)
  | d + 1, i, hi => by
    have hlt : (i : Int) < (([c.ins, c.outs, c.slots, c.crosses, c.lines]).length : Int) := by omega
    have ih := rRight0_rounds c  d
    have h5 : ([c.ins, c.outs, c.slots, c.crosses, c.lines]).length = 5 := rfl
    unfold rRight0
    by_cases f0 : (gi ([c.ins, c.outs, c.slots, c.crosses, c.lines]) i) < (0 : Int)
    · rw [if_pos f0]
      refine ⟨fun o h => by (cases h), fun o h => ?_⟩
      cases h
      exact Rounds.out (at_m [] .ret (rRight0_Y c false) [ends (decide_eq_true hlt), elem (int_ad (by omega : i < ([c.ins, c.outs, c.slots, c.crosses, c.lines]).length)), ends (decide_eq_true f0), ends (rfl : true = true)] [] none_ (by kernel_rfl)) (by simp)
    · by_cases f1 : (gi ([c.ins, c.outs, c.slots, c.crosses, c.lines]) i) > (65536 : Int)
      · rw [if_neg f0, if_pos f1]
        refine ⟨fun o h => by (cases h), fun o h => ?_⟩
        cases h
        exact Rounds.out (at_m [] .ret (rRight0_Y c false) [ends (decide_eq_true hlt), elem (int_ad (by omega : i < ([c.ins, c.outs, c.slots, c.crosses, c.lines]).length)), ends (decide_eq_false f0), elem (int_ad (by omega : i < ([c.ins, c.outs, c.slots, c.crosses, c.lines]).length)), ends (decide_eq_true f1)] [] none_ (by kernel_rfl)) (by simp)
      · rw [if_neg f0, if_neg f1]
        have step := at_m [] (c := (lp Try.f10 0)) (p := (rRight0_S c  i)) .normal (rRight0_S c  (IntKind.i64.wrap ((i : Int) + (1 : Int)))) [ends (decide_eq_true hlt), elem (int_ad (by omega : i < ([c.ins, c.outs, c.slots, c.crosses, c.lines]).length)), ends (decide_eq_false f0), elem (int_ad (by omega : i < ([c.ins, c.outs, c.slots, c.crosses, c.lines]).length)), ends (decide_eq_false f1)] [] none_ (by kernel_rfl)
        rw [next i (by omega)] at step
        exact ⟨fun o h => ((ih (i + 1)  (by omega)).1 o h).step' step, fun o h => ((ih (i + 1)  (by omega)).2 o h).step' step⟩
def rRight1_S (c : Cod)  (i : Int) : St := ⟨sparse 74 [(1, .g (.one (.ptr 0 0))), (5, .g (num i))], [some (false, [.v (.int .i64 c.ins), .v (.int .i64 c.outs), .v (.int .i64 c.slots), .v (.int .i64 c.crosses), .v (.int .i64 c.lines), vals' c.mems, vals' c.conts, inss c.step, inss c.deriv, inss c.cross])], 0⟩
def rRight1_X (c : Cod)  : St := ⟨sparse 74 [(1, .g (.one (.ptr 0 0)))], [some (false, [.v (.int .i64 c.ins), .v (.int .i64 c.outs), .v (.int .i64 c.slots), .v (.int .i64 c.crosses), .v (.int .i64 c.lines), vals' c.mems, vals' c.conts, inss c.step, inss c.deriv, inss c.cross])], 0⟩
def rRight1_Y (c : Cod) (o : Bool) : St := ⟨sparse 74 [(2, .g (truth o))], [], 0⟩
def rRight1 (c : Cod) : Nat → Nat → Sum Unit Bool
  | 0, i => .inl ()
  | d + 1, i => bif rStep c i then (rRight1 c d (i + 1) ) else (.inr false)
theorem rRight1_rounds (c : Cod) (hs : Small c) : ∀ (d i : Nat) , i + d = c.step.length → (∀ o, rRight1 c d i  = .inl o → Rounds Try.prog (lp Try.f10 1) (rRight1_S c  i) (.exit 2) (rRight1_X c )) ∧ (∀ o, rRight1 c d i  = .inr o → Rounds Try.prog (lp Try.f10 1) (rRight1_S c  i) .ret (rRight1_Y c o))
  | 0, i, hi => by
    have hge : ¬ (i : Int) < (c.step.length : Int) := by omega
    refine ⟨fun o h => ?_, fun o h => by cases h⟩
    cases h
    exact Rounds.out (at_m [] _ _ [ends (decide_eq_false hge)] [] none_ (by kernel_rfl)) (by simp)
  | d + 1, i, hi => by
    have hlt : (i : Int) < (c.step.length : Int) := by omega
    have ih := rRight1_rounds c hs d
    have hb := hs.step
    have hd := hs.deriv
    have hc := hs.cross
    unfold rRight1
    rcases bc (rStep c i) with f0 | f0
    · rw [bif_t f0]
      have step := at_m [] (c := (lp Try.f10 1)) (p := (rRight1_S c  i)) .normal (rRight1_S c  (IntKind.i64.wrap ((i : Int) + (1 : Int)))) [ends (decide_eq_true hlt), gives (rStep_con c i (by omega) hb (hs.gs _ (by omega)).1 (hs.gs _ (by omega)).2), ends (nt f0)] [] none_ (by kernel_rfl)
      rw [next i (by omega)] at step
      exact ⟨fun o h => ((ih (i + 1)  (by omega)).1 o h).step' step, fun o h => ((ih (i + 1)  (by omega)).2 o h).step' step⟩
    · rw [bif_f f0]
      refine ⟨fun o h => by (cases h), fun o h => ?_⟩
      cases h
      exact Rounds.out (at_m [] .ret (rRight1_Y c false) [ends (decide_eq_true hlt), gives (rStep_con c i (by omega) hb (hs.gs _ (by omega)).1 (hs.gs _ (by omega)).2), ends (nf f0)] [] none_ (by kernel_rfl)) (by simp)
def rRight2_S (c : Cod)  (i : Int) : St := ⟨sparse 74 [(1, .g (.one (.ptr 0 0))), (6, .g (num i))], [some (false, [.v (.int .i64 c.ins), .v (.int .i64 c.outs), .v (.int .i64 c.slots), .v (.int .i64 c.crosses), .v (.int .i64 c.lines), vals' c.mems, vals' c.conts, inss c.step, inss c.deriv, inss c.cross])], 0⟩
def rRight2_X (c : Cod)  : St := ⟨sparse 74 [(1, .g (.one (.ptr 0 0)))], [some (false, [.v (.int .i64 c.ins), .v (.int .i64 c.outs), .v (.int .i64 c.slots), .v (.int .i64 c.crosses), .v (.int .i64 c.lines), vals' c.mems, vals' c.conts, inss c.step, inss c.deriv, inss c.cross])], 0⟩
def rRight2_Y (c : Cod) (o : Bool) : St := ⟨sparse 74 [(2, .g (truth o))], [], 0⟩
def rRight2 (c : Cod) : Nat → Nat → Sum Unit Bool
  | 0, i => .inl ()
  | d + 1, i => bif rDeriv c (gx c.deriv i) then (rRight2 c d (i + 1) ) else (.inr false)
theorem rRight2_rounds (c : Cod) (hs : Small c) : ∀ (d i : Nat) , i + d = c.deriv.length → (∀ o, rRight2 c d i  = .inl o → Rounds Try.prog (lp Try.f10 2) (rRight2_S c  i) (.exit 4) (rRight2_X c )) ∧ (∀ o, rRight2 c d i  = .inr o → Rounds Try.prog (lp Try.f10 2) (rRight2_S c  i) .ret (rRight2_Y c o))
  | 0, i, hi => by
    have hge : ¬ (i : Int) < (c.deriv.length : Int) := by omega
    refine ⟨fun o h => ?_, fun o h => by cases h⟩
    cases h
    exact Rounds.out (at_m [] _ _ [ends (decide_eq_false hge)] [] none_ (by kernel_rfl)) (by simp)
  | d + 1, i, hi => by
    have hlt : (i : Int) < (c.deriv.length : Int) := by omega
    have ih := rRight2_rounds c hs d
    have hb := hs.step
    have hd := hs.deriv
    have hc := hs.cross
    unfold rRight2
    rcases bc (rDeriv c (gx c.deriv i)) with f0 | f0
    · rw [bif_t f0]
      have step := at_m [] (c := (lp Try.f10 2)) (p := (rRight2_S c  i)) .normal (rRight2_S c  (IntKind.i64.wrap ((i : Int) + (1 : Int)))) [ends (decide_eq_true hlt), elem (ins_ad (by omega : i < c.deriv.length)), gives (rDeriv_con c (gx c.deriv i) hb (hs.gd _ (by omega)).1), ends (nt f0)] [] none_ (by kernel_rfl)
      rw [next i (by omega)] at step
      exact ⟨fun o h => ((ih (i + 1)  (by omega)).1 o h).step' step, fun o h => ((ih (i + 1)  (by omega)).2 o h).step' step⟩
    · rw [bif_f f0]
      refine ⟨fun o h => by (cases h), fun o h => ?_⟩
      cases h
      exact Rounds.out (at_m [] .ret (rRight2_Y c false) [ends (decide_eq_true hlt), elem (ins_ad (by omega : i < c.deriv.length)), gives (rDeriv_con c (gx c.deriv i) hb (hs.gd _ (by omega)).1), ends (nf f0)] [] none_ (by kernel_rfl)) (by simp)
def rRight3_S (c : Cod)  (i : Int) : St := ⟨sparse 74 [(1, .g (.one (.ptr 0 0))), (7, .g (num i))], [some (false, [.v (.int .i64 c.ins), .v (.int .i64 c.outs), .v (.int .i64 c.slots), .v (.int .i64 c.crosses), .v (.int .i64 c.lines), vals' c.mems, vals' c.conts, inss c.step, inss c.deriv, inss c.cross])], 0⟩
def rRight3_X (c : Cod)  : St := ⟨sparse 74 [(1, .g (.one (.ptr 0 0)))], [some (false, [.v (.int .i64 c.ins), .v (.int .i64 c.outs), .v (.int .i64 c.slots), .v (.int .i64 c.crosses), .v (.int .i64 c.lines), vals' c.mems, vals' c.conts, inss c.step, inss c.deriv, inss c.cross])], 0⟩
def rRight3_Y (c : Cod) (o : Bool) : St := ⟨sparse 74 [(2, .g (truth o))], [], 0⟩
def rRight3 (c : Cod) : Nat → Nat → Sum Unit Bool
  | 0, i => .inl ()
  | d + 1, i => bif rCross c i then (rRight3 c d (i + 1) ) else (.inr false)
theorem rRight3_rounds (c : Cod) (hs : Small c) : ∀ (d i : Nat) , i + d = c.cross.length → (∀ o, rRight3 c d i  = .inl o → Rounds Try.prog (lp Try.f10 3) (rRight3_S c  i) (.exit 6) (rRight3_X c )) ∧ (∀ o, rRight3 c d i  = .inr o → Rounds Try.prog (lp Try.f10 3) (rRight3_S c  i) .ret (rRight3_Y c o))
  | 0, i, hi => by
    have hge : ¬ (i : Int) < (c.cross.length : Int) := by omega
    refine ⟨fun o h => ?_, fun o h => by cases h⟩
    cases h
    exact Rounds.out (at_m [] _ _ [ends (decide_eq_false hge)] [] none_ (by kernel_rfl)) (by simp)
  | d + 1, i, hi => by
    have hlt : (i : Int) < (c.cross.length : Int) := by omega
    have ih := rRight3_rounds c hs d
    have hb := hs.step
    have hd := hs.deriv
    have hc := hs.cross
    unfold rRight3
    rcases bc (rCross c i) with f0 | f0
    · rw [bif_t f0]
      have step := at_m [] (c := (lp Try.f10 3)) (p := (rRight3_S c  i)) .normal (rRight3_S c  (IntKind.i64.wrap ((i : Int) + (1 : Int)))) [ends (decide_eq_true hlt), gives (rCross_con c i (by omega) hb hc (hs.gc _ (by omega)).1), ends (nt f0)] [] none_ (by kernel_rfl)
      rw [next i (by omega)] at step
      exact ⟨fun o h => ((ih (i + 1)  (by omega)).1 o h).step' step, fun o h => ((ih (i + 1)  (by omega)).2 o h).step' step⟩
    · rw [bif_f f0]
      refine ⟨fun o h => by (cases h), fun o h => ?_⟩
      cases h
      exact Rounds.out (at_m [] .ret (rRight3_Y c false) [ends (decide_eq_true hlt), gives (rCross_con c i (by omega) hb hc (hs.gc _ (by omega)).1), ends (nf f0)] [] none_ (by kernel_rfl)) (by simp)
def rRight (c : Cod) : Bool := (match rRight0 c ([c.ins, c.outs, c.slots, c.crosses, c.lines]).length 0 with | .inl of0 => (match rRight1 c c.step.length 0 with | .inl of1 => (match rRight2 c c.deriv.length 0 with | .inl of2 => (match rRight3 c c.cross.length 0 with | .inl of3 => true | .inr of3 => of3) | .inr of2 => of2) | .inr of1 => of1) | .inr of0 => of0)
theorem rRight_con (c : Cod) (hs : Small c) : Con Try.prog 10 [.agg (c.c)] (.g (truth (rRight c))) := by
  unfold rRight
  rcases sc (rRight0 c ([c.ins, c.outs, c.slots, c.crosses, c.lines]).length 0) with ⟨of0, f0⟩ | ⟨of0, f0⟩
  · rcases sc (rRight1 c c.step.length 0) with ⟨of1, f1⟩ | ⟨of1, f1⟩
    · rcases sc (rRight2 c c.deriv.length 0) with ⟨of2, f2⟩ | ⟨of2, f2⟩
      · rcases sc (rRight3 c c.cross.length 0) with ⟨of3, f3⟩ | ⟨of3, f3⟩
        · simp only [f0]
          simp only [f1]
          simp only [f2]
          simp only [f3]
          exact by_ (.g (truth true)) Try.func10 rfl [goes ((rRight0_rounds c ([c.ins, c.outs, c.slots, c.crosses, c.lines]).length 0 (by omega)).1 _ f0).loop, goes ((rRight1_rounds c hs c.step.length 0 (by omega)).1 _ f1).loop, goes ((rRight2_rounds c hs c.deriv.length 0 (by omega)).1 _ f2).loop, goes ((rRight3_rounds c hs c.cross.length 0 (by omega)).1 _ f3).loop] (by kernel_rfl)
        · simp only [f0]
          simp only [f1]
          simp only [f2]
          simp only [f3]
          exact by_ (.g (truth of3)) Try.func10 rfl [goes ((rRight0_rounds c ([c.ins, c.outs, c.slots, c.crosses, c.lines]).length 0 (by omega)).1 _ f0).loop, goes ((rRight1_rounds c hs c.step.length 0 (by omega)).1 _ f1).loop, goes ((rRight2_rounds c hs c.deriv.length 0 (by omega)).1 _ f2).loop, goes ((rRight3_rounds c hs c.cross.length 0 (by omega)).2 _ f3).loop] (by kernel_rfl)
      · simp only [f0]
        simp only [f1]
        simp only [f2]
        exact by_ (.g (truth of2)) Try.func10 rfl [goes ((rRight0_rounds c ([c.ins, c.outs, c.slots, c.crosses, c.lines]).length 0 (by omega)).1 _ f0).loop, goes ((rRight1_rounds c hs c.step.length 0 (by omega)).1 _ f1).loop, goes ((rRight2_rounds c hs c.deriv.length 0 (by omega)).2 _ f2).loop] (by kernel_rfl)
    · simp only [f0]
      simp only [f1]
      exact by_ (.g (truth of1)) Try.func10 rfl [goes ((rRight0_rounds c ([c.ins, c.outs, c.slots, c.crosses, c.lines]).length 0 (by omega)).1 _ f0).loop, goes ((rRight1_rounds c hs c.step.length 0 (by omega)).2 _ f1).loop] (by kernel_rfl)
  · simp only [f0]
    exact by_ (.g (truth of0)) Try.func10 rfl [goes ((rRight0_rounds c ([c.ins, c.outs, c.slots, c.crosses, c.lines]).length 0 (by omega)).2 _ f0).loop] (by kernel_rfl)
end Go.Proofs.Ytidpkomcgkcfjaa.Ev
end
section
/- Object code: the laws' small functions. Printed by a program of this session. No condition. -/
namespace Go.Proofs.Ytidpkomcgkcfjaa.Ev
open Go Go.RowKit Go.Proofs.YtidpkomcgkcfjaaW.PrintWords Go.Proofs.YtidpkomcgkcfjaaW.PrintLast Go.Proofs.Ytidpkomcgkcfjaa
set_option linter.unusedVariables false
set_option linter.unusedSimpArgs false
def bodyFewL_S (l : List Ins)  (i : Int) : St := ⟨sparse 69 [(0, .g (.one (inss l))), (3, .g (num i))], [], 0⟩
def bodyFewL_X (l : List Ins)  : St := ⟨sparse 69 [(0, .g (.one (inss l)))], [], 0⟩
def bodyFewL_Y (l : List Ins) (o : Bool) : St := ⟨sparse 69 [(2, .g (truth o))], [], 0⟩
def bodyFewL (l : List Ins) : Nat → Nat → Sum Unit Bool
  | 0, i => .inl ()
  | d + 1, i => if (((gx l i).args).length : Int) > (20 : Int) then (.inr false) else (if (((gx l i).resets).length : Int) > (20 : Int) then (.inr false) else (if (((gx l i).op).size : Int) > (20 : Int) then (.inr false) else (if (IntKind.i64.wrap ((((gx l i).lit.mag).length : Int) + (((gx l i).lit.den).length : Int))) > (4 : Int) then (.inr false) else (if (((gx l i).lit.name).size : Int) > (100 : Int) then (.inr false) else (bodyFewL l d (i + 1) )))))
theorem bodyFewL_rounds (l : List Ins) (hl : l.length < 4000000000000000000) : ∀ (d i : Nat) , i + d = l.length → (∀ o, bodyFewL l d i  = .inl o → Rounds Try.prog (lp Try.f16 0) (bodyFewL_S l  i) (.exit 0) (bodyFewL_X l )) ∧ (∀ o, bodyFewL l d i  = .inr o → Rounds Try.prog (lp Try.f16 0) (bodyFewL_S l  i) .ret (bodyFewL_Y l o))
  | 0, i, hi => by
    have hge : ¬ (i : Int) < (l.length : Int) := by omega
    refine ⟨fun o h => ?_, fun o h => by cases h⟩
    cases h
    exact Rounds.out (at_m [] _ _ [ends (decide_eq_false hge)] [] none_ (by kernel_rfl)) (by simp)
  | d + 1, i, hi => by
    have hlt : (i : Int) < (l.length : Int) := by omega
    have ih := bodyFewL_rounds l hl d
    unfold bodyFewL
    by_cases f0 : (((gx l i).args).length : Int) > (20 : Int)
    · rw [if_pos f0]
      refine ⟨fun o h => by (cases h), fun o h => ?_⟩
      cases h
      exact Rounds.out (at_m [] .ret (bodyFewL_Y l false) [ends (decide_eq_true hlt), elem (ins_ad (by omega : i < l.length)), ends (decide_eq_true f0), ends (rfl : true = true), ends (rfl : true = true), ends (rfl : true = true), ends (rfl : true = true)] [] none_ (by kernel_rfl)) (by simp)
    · by_cases f1 : (((gx l i).resets).length : Int) > (20 : Int)
      · rw [if_neg f0, if_pos f1]
        refine ⟨fun o h => by (cases h), fun o h => ?_⟩
        cases h
        exact Rounds.out (at_m [] .ret (bodyFewL_Y l false) [ends (decide_eq_true hlt), elem (ins_ad (by omega : i < l.length)), ends (decide_eq_false f0), elem (ins_ad (by omega : i < l.length)), ends (decide_eq_true f1), ends (rfl : true = true), ends (rfl : true = true), ends (rfl : true = true)] [] none_ (by kernel_rfl)) (by simp)
      · by_cases f2 : (((gx l i).op).size : Int) > (20 : Int)
        · rw [if_neg f0, if_neg f1, if_pos f2]
          refine ⟨fun o h => by (cases h), fun o h => ?_⟩
          cases h
          exact Rounds.out (at_m [] .ret (bodyFewL_Y l false) [ends (decide_eq_true hlt), elem (ins_ad (by omega : i < l.length)), ends (decide_eq_false f0), elem (ins_ad (by omega : i < l.length)), ends (decide_eq_false f1), elem (ins_ad (by omega : i < l.length)), ends (decide_eq_true f2), ends (rfl : true = true), ends (rfl : true = true)] [] none_ (by kernel_rfl)) (by simp)
        · by_cases f3 : (IntKind.i64.wrap ((((gx l i).lit.mag).length : Int) + (((gx l i).lit.den).length : Int))) > (4 : Int)
          · rw [if_neg f0, if_neg f1, if_neg f2, if_pos f3]
            refine ⟨fun o h => by (cases h), fun o h => ?_⟩
            cases h
            exact Rounds.out (at_m [] .ret (bodyFewL_Y l false) [ends (decide_eq_true hlt), elem (ins_ad (by omega : i < l.length)), ends (decide_eq_false f0), elem (ins_ad (by omega : i < l.length)), ends (decide_eq_false f1), elem (ins_ad (by omega : i < l.length)), ends (decide_eq_false f2), elem (ins_ad (by omega : i < l.length)), elem (ins_ad (by omega : i < l.length)), ends (decide_eq_true f3), ends (rfl : true = true)] [] none_ (by kernel_rfl)) (by simp)
          · by_cases f4 : (((gx l i).lit.name).size : Int) > (100 : Int)
            · rw [if_neg f0, if_neg f1, if_neg f2, if_neg f3, if_pos f4]
              refine ⟨fun o h => by (cases h), fun o h => ?_⟩
              cases h
              exact Rounds.out (at_m [] .ret (bodyFewL_Y l false) [ends (decide_eq_true hlt), elem (ins_ad (by omega : i < l.length)), ends (decide_eq_false f0), elem (ins_ad (by omega : i < l.length)), ends (decide_eq_false f1), elem (ins_ad (by omega : i < l.length)), ends (decide_eq_false f2), elem (ins_ad (by omega : i < l.length)), elem (ins_ad (by omega : i < l.length)), ends (decide_eq_false f3), elem (ins_ad (by omega : i < l.length)), ends (decide_eq_true f4)] [] none_ (by kernel_rfl)) (by simp)
            · rw [if_neg f0, if_neg f1, if_neg f2, if_neg f3, if_neg f4]
              have step := at_m [] (c := (lp Try.f16 0)) (p := (bodyFewL_S l  i)) .normal (bodyFewL_S l  (IntKind.i64.wrap ((i : Int) + (1 : Int)))) [ends (decide_eq_true hlt), elem (ins_ad (by omega : i < l.length)), ends (decide_eq_false f0), elem (ins_ad (by omega : i < l.length)), ends (decide_eq_false f1), elem (ins_ad (by omega : i < l.length)), ends (decide_eq_false f2), elem (ins_ad (by omega : i < l.length)), elem (ins_ad (by omega : i < l.length)), ends (decide_eq_false f3), elem (ins_ad (by omega : i < l.length)), ends (decide_eq_false f4)] [] none_ (by kernel_rfl)
              rw [next i (by omega)] at step
              exact ⟨fun o h => ((ih (i + 1)  (by omega)).1 o h).step' step, fun o h => ((ih (i + 1)  (by omega)).2 o h).step' step⟩
def bodyFew (l : List Ins) : Bool := if (l.length : Int) > (60 : Int) then (false) else ((match bodyFewL l l.length 0 with | .inl of1 => true | .inr of1 => of1))
theorem bodyFew_con (l : List Ins)  : Con Try.prog 16 [.one (inss l)] (.g (truth (bodyFew l))) := by
  unfold bodyFew
  by_cases f0 : (l.length : Int) > (60 : Int)
  · rw [if_pos f0]
    exact by_ (.g (truth false)) Try.func16 rfl [ends (decide_eq_true f0)] (by kernel_rfl)
  · rcases sc (bodyFewL l l.length 0) with ⟨of1, f1⟩ | ⟨of1, f1⟩
    · rw [if_neg f0]
      simp only [f1]
      exact by_ (.g (truth true)) Try.func16 rfl [ends (decide_eq_false f0), goes ((bodyFewL_rounds l (by omega) l.length 0 (by omega)).1 _ f1).loop] (by kernel_rfl)
    · rw [if_neg f0]
      simp only [f1]
      exact by_ (.g (truth of1)) Try.func16 rfl [ends (decide_eq_false f0), goes ((bodyFewL_rounds l (by omega) l.length 0 (by omega)).2 _ f1).loop] (by kernel_rfl)
def shortL_S (l : List Val)  (i : Int) : St := ⟨sparse 36 [(0, .g (.one (vals' l))), (3, .g (num i))], [], 0⟩
def shortL_X (l : List Val)  : St := ⟨sparse 36 [(0, .g (.one (vals' l)))], [], 0⟩
def shortL_Y (l : List Val) (o : Bool) : St := ⟨sparse 36 [(2, .g (truth o))], [], 0⟩
def shortL (l : List Val) : Nat → Nat → Sum Unit Bool
  | 0, i => .inl ()
  | d + 1, i => if (IntKind.i64.wrap ((((gv l i).mag).length : Int) + (((gv l i).den).length : Int))) > (4 : Int) then (.inr false) else (if (((gv l i).name).size : Int) > (100 : Int) then (.inr false) else (shortL l d (i + 1) ))
theorem shortL_rounds (l : List Val) (hl : l.length < 4000000000000000000) : ∀ (d i : Nat) , i + d = l.length → (∀ o, shortL l d i  = .inl o → Rounds Try.prog (lp Try.f17 0) (shortL_S l  i) (.exit 0) (shortL_X l )) ∧ (∀ o, shortL l d i  = .inr o → Rounds Try.prog (lp Try.f17 0) (shortL_S l  i) .ret (shortL_Y l o))
  | 0, i, hi => by
    have hge : ¬ (i : Int) < (l.length : Int) := by omega
    refine ⟨fun o h => ?_, fun o h => by cases h⟩
    cases h
    exact Rounds.out (at_m [] _ _ [ends (decide_eq_false hge)] [] none_ (by kernel_rfl)) (by simp)
  | d + 1, i, hi => by
    have hlt : (i : Int) < (l.length : Int) := by omega
    have ih := shortL_rounds l hl d
    unfold shortL
    by_cases f0 : (IntKind.i64.wrap ((((gv l i).mag).length : Int) + (((gv l i).den).length : Int))) > (4 : Int)
    · rw [if_pos f0]
      refine ⟨fun o h => by (cases h), fun o h => ?_⟩
      cases h
      exact Rounds.out (at_m [] .ret (shortL_Y l false) [ends (decide_eq_true hlt), elem (val_ad (by omega : i < l.length)), elem (val_ad (by omega : i < l.length)), ends (decide_eq_true f0), ends (rfl : true = true)] [] none_ (by kernel_rfl)) (by simp)
    · by_cases f1 : (((gv l i).name).size : Int) > (100 : Int)
      · rw [if_neg f0, if_pos f1]
        refine ⟨fun o h => by (cases h), fun o h => ?_⟩
        cases h
        exact Rounds.out (at_m [] .ret (shortL_Y l false) [ends (decide_eq_true hlt), elem (val_ad (by omega : i < l.length)), elem (val_ad (by omega : i < l.length)), ends (decide_eq_false f0), elem (val_ad (by omega : i < l.length)), ends (decide_eq_true f1)] [] none_ (by kernel_rfl)) (by simp)
      · rw [if_neg f0, if_neg f1]
        have step := at_m [] (c := (lp Try.f17 0)) (p := (shortL_S l  i)) .normal (shortL_S l  (IntKind.i64.wrap ((i : Int) + (1 : Int)))) [ends (decide_eq_true hlt), elem (val_ad (by omega : i < l.length)), elem (val_ad (by omega : i < l.length)), ends (decide_eq_false f0), elem (val_ad (by omega : i < l.length)), ends (decide_eq_false f1)] [] none_ (by kernel_rfl)
        rw [next i (by omega)] at step
        exact ⟨fun o h => ((ih (i + 1)  (by omega)).1 o h).step' step, fun o h => ((ih (i + 1)  (by omega)).2 o h).step' step⟩
def short (l : List Val) : Bool := (match shortL l l.length 0 with | .inl of0 => true | .inr of0 => of0)
theorem short_con (l : List Val) (hl : l.length < 4000000000000000000) : Con Try.prog 17 [.one (vals' l)] (.g (truth (short l))) := by
  unfold short
  rcases sc (shortL l l.length 0) with ⟨of0, f0⟩ | ⟨of0, f0⟩
  · simp only [f0]
    exact by_ (.g (truth true)) Try.func17 rfl [goes ((shortL_rounds l (by omega) l.length 0 (by omega)).1 _ f0).loop] (by kernel_rfl)
  · simp only [f0]
    exact by_ (.g (truth of0)) Try.func17 rfl [goes ((shortL_rounds l (by omega) l.length 0 (by omega)).2 _ f0).loop] (by kernel_rfl)
def few (c : Cod) : Bool := bif bodyFew c.step then (bif bodyFew c.deriv then (bif bodyFew c.cross then (if (c.mems.length : Int) ≤ (20 : Int) then (if (c.conts.length : Int) ≤ (20 : Int) then (bif short c.mems then (short c.conts) else (false)) else (false)) else (false)) else (false)) else (false)) else (false)
theorem few_con (c : Cod)  : Con Try.prog 8 [.agg (c.c)] (.g (truth (few c))) := by
  unfold few
  rcases bc (bodyFew c.step) with f0 | f0
  · rcases bc (bodyFew c.deriv) with f1 | f1
    · rcases bc (bodyFew c.cross) with f2 | f2
      · by_cases f3 : (c.mems.length : Int) ≤ (20 : Int)
        · by_cases f4 : (c.conts.length : Int) ≤ (20 : Int)
          · rcases bc (short c.mems) with f5 | f5
            · rw [bif_t f0, bif_t f1, bif_t f2, if_pos f3, if_pos f4, bif_t f5]
              exact by_ (.g (truth (short c.conts))) Try.func8 rfl [gives (bodyFew_con c.step), ends f0, gives (bodyFew_con c.deriv), ends f1, gives (bodyFew_con c.cross), ends f2, ends (decide_eq_true f3), ends (decide_eq_true f4), gives (short_con c.mems (by omega)), ends f5, gives (short_con c.conts (by omega))] (by kernel_rfl)
            · rw [bif_t f0, bif_t f1, bif_t f2, if_pos f3, if_pos f4, bif_f f5]
              exact by_ (.g (truth false)) Try.func8 rfl [gives (bodyFew_con c.step), ends f0, gives (bodyFew_con c.deriv), ends f1, gives (bodyFew_con c.cross), ends f2, ends (decide_eq_true f3), ends (decide_eq_true f4), gives (short_con c.mems (by omega)), ends f5] (by kernel_rfl)
          · rw [bif_t f0, bif_t f1, bif_t f2, if_pos f3, if_neg f4]
            exact by_ (.g (truth false)) Try.func8 rfl [gives (bodyFew_con c.step), ends f0, gives (bodyFew_con c.deriv), ends f1, gives (bodyFew_con c.cross), ends f2, ends (decide_eq_true f3), ends (decide_eq_false f4), ends (rfl : false = false)] (by kernel_rfl)
        · rw [bif_t f0, bif_t f1, bif_t f2, if_neg f3]
          exact by_ (.g (truth false)) Try.func8 rfl [gives (bodyFew_con c.step), ends f0, gives (bodyFew_con c.deriv), ends f1, gives (bodyFew_con c.cross), ends f2, ends (decide_eq_false f3), ends (rfl : false = false), ends (rfl : false = false)] (by kernel_rfl)
      · rw [bif_t f0, bif_t f1, bif_f f2]
        exact by_ (.g (truth false)) Try.func8 rfl [gives (bodyFew_con c.step), ends f0, gives (bodyFew_con c.deriv), ends f1, gives (bodyFew_con c.cross), ends f2, ends (rfl : false = false), ends (rfl : false = false), ends (rfl : false = false)] (by kernel_rfl)
    · rw [bif_t f0, bif_f f1]
      exact by_ (.g (truth false)) Try.func8 rfl [gives (bodyFew_con c.step), ends f0, gives (bodyFew_con c.deriv), ends f1, ends (rfl : false = false), ends (rfl : false = false), ends (rfl : false = false), ends (rfl : false = false)] (by kernel_rfl)
  · rw [bif_f f0]
    exact by_ (.g (truth false)) Try.func8 rfl [gives (bodyFew_con c.step), ends f0, ends (rfl : false = false), ends (rfl : false = false), ends (rfl : false = false), ends (rfl : false = false), ends (rfl : false = false)] (by kernel_rfl)
def goodC : Cod := ⟨1, 0, 1, 0, 0, [], [], [⟨⟨#[105, 110]⟩, 0, [], 0, dVal, -1, []⟩, ⟨⟨#[110, 101, 103]⟩, 0, [0], 0, dVal, -1, []⟩], [], []⟩
def badC : Cod := ⟨1, 0, 1, 0, 0, [], [], [⟨⟨#[110, 101, 103]⟩, 0, [0], 0, dVal, -1, []⟩], [], []⟩
theorem good_small : Small goodC := ⟨by decide, by decide, by decide, fun x h => by
  have : x = ⟨⟨#[105, 110]⟩, 0, [], 0, dVal, -1, []⟩ ∨ x = ⟨⟨#[110, 101, 103]⟩, 0, [0], 0, dVal, -1, []⟩ := by simpa [goodC] using h
  rcases this with rfl | rfl <;> exact ⟨by simp, by simp⟩⟩
theorem bad_small : Small badC := ⟨by decide, by decide, by decide, fun x h => by
  have : x = ⟨⟨#[110, 101, 103]⟩, 0, [0], 0, dVal, -1, []⟩ := by simpa [badC] using h
  subst this; exact ⟨by simp, by simp⟩⟩
theorem good_right : rightF goodC = true := by kernel_rfl
theorem awake_con : Con Try.prog 11 [] (.g (truth true)) :=
  by_ (.g (truth true)) Try.func11 rfl [gives (right_con goodC good_small), ends good_right, gives (right_con badC bad_small)] (by kernel_rfl)
end Go.Proofs.Ytidpkomcgkcfjaa.Ev
end
section
/- Object code: the program's check and the reference's are one. Pure. -/
namespace Go.Proofs.Ytidpkomcgkcfjaa.Ev
open Go Go.RowKit Go.Proofs.Ytidpkomcgkcfjaa
set_option linter.unusedVariables false
set_option linter.unusedSimpArgs false
theorem gx_get {l : List Ins} {i : Nat} (h : i < l.length) : gx l i = l[i] := by
  unfold gx
  rw [List.getD_eq_getElem?_getD, List.getElem?_eq_getElem h]; rfl
theorem bodyFewL_inr (l : List Ins) : ∀ (d i : Nat), bodyFewL l d i ≠ .inr true
  | 0, i => by simp [bodyFewL]
  | d + 1, i => by
    have ih := bodyFewL_inr l d (i + 1)
    unfold bodyFewL
    repeat' split
    all_goals first | exact ih | simp
theorem bodyFewL_inl (l : List Ins) : ∀ (d i : Nat), bodyFewL l d i = .inl () → ∀ j, i ≤ j → j < i + d → (gx l j).args.length ≤ 20 ∧ (gx l j).resets.length ≤ 20
  | 0, i, _, j, h1, h2 => by omega
  | d + 1, i, h, j, h1, h2 => by
    have ih := bodyFewL_inl l d (i + 1)
    unfold bodyFewL at h
    split at h
    · cases h
    · split at h
      · cases h
      · split at h
        · cases h
        · split at h
          · cases h
          · split at h
            · cases h
            · by_cases e : i = j
              · subst e; omega
              · exact ih h j (by omega) (by omega)
theorem bodyFew_of {l : List Ins} (h : bodyFew l = true) : l.length ≤ 60 ∧ ∀ x ∈ l, x.args.length ≤ 20 ∧ x.resets.length ≤ 20 := by
  unfold bodyFew at h
  split at h
  · cases h
  · refine ⟨by omega, fun x hx => ?_⟩
    obtain ⟨i, hi, rfl⟩ := List.mem_iff_getElem.1 hx
    rw [← gx_get hi]
    refine bodyFewL_inl l l.length 0 ?_ i (by omega) (by omega)
    cases hb : bodyFewL l l.length 0 with
    | inl o => rfl
    | inr o =>
      rw [hb] at h
      simp only at h
      subst h
      exact absurd hb (bodyFewL_inr l _ _)
theorem few_of {c : Cod} (h : few c = true) : bodyFew c.step = true ∧ bodyFew c.deriv = true ∧ bodyFew c.cross = true := by
  unfold few at h
  cases h1 : bodyFew c.step with
  | false => rw [h1] at h; cases h
  | true =>
    cases h2 : bodyFew c.deriv with
    | false => rw [h1, h2] at h; cases h
    | true =>
      cases h3 : bodyFew c.cross with
      | false => rw [h1, h2, h3] at h; cases h
      | true => exact ⟨rfl, rfl, rfl⟩
theorem few_args {c : Cod} (h : few c = true) : ∀ x, x ∈ c.step ∨ x ∈ c.deriv ∨ x ∈ c.cross → x.args.length ≤ 20 ∧ x.resets.length ≤ 20 := by
  obtain ⟨h1, h2, h3⟩ := few_of h
  intro x hx
  rcases hx with hx | hx | hx
  · exact (bodyFew_of h1).2 x hx
  · exact (bodyFew_of h2).2 x hx
  · exact (bodyFew_of h3).2 x hx
theorem few_small {c : Cod} (h : few c = true) : Small c := by
  obtain ⟨h1, h2, h3⟩ := few_of h
  have a := (bodyFew_of h1).1
  have b := (bodyFew_of h2).1
  have d := (bodyFew_of h3).1
  exact ⟨by omega, by omega, by omega, fun x hx => by
    have := few_args h x hx
    omega⟩
def chain {α : Type} (z : α) : List (ByteArray × α) → ByteArray → α
  | [], _ => z
  | (s, v) :: r, op => bif is op s then v else chain z r op
theorem chain_app {α : Type} {z v : α} {r : List (ByteArray × α)} {op : ByteArray} : ∀ G : List ByteArray, chain z (G.map (fun s => (s, v)) ++ r) op = if G.any (is op) then v else chain z r op
  | [] => by simp
  | s :: G => by
    simp only [List.map_cons, List.cons_append, chain, List.any_cons]
    rw [chain_app G]
    rcases bc (is op s) with h | h <;> simp [h]
def tab : Nat → Int × Int
  | 0 => (0, 0)
  | 1 => (1, 1)
  | 2 => (1, 1073741824)
  | 3 => (3, 3)
  | 4 => (2, 2)
  | _ => (-1, -1)
theorem args_cls (op : ByteArray) : rArgs op = tab (cls op) := by
  have e : rArgs op = chain (-1, -1) (G0.map (fun s => (s, ((0, 0) : Int × Int))) ++ (G1.map (fun s => (s, (1, 1))) ++ (G2.map (fun s => (s, (1, 1073741824))) ++ (G3.map (fun s => (s, (3, 3))) ++ (G4.map (fun s => (s, (2, 2))) ++ []))))) op := rfl
  rw [e, chain_app, chain_app, chain_app, chain_app, chain_app]
  unfold cls
  repeat' split
  all_goals rfl
theorem cls_le (op : ByteArray) : cls op ≤ 5 := by
  unfold cls
  repeat' split
  all_goals omega
theorem is_eqv {op a : ByteArray} (h : is op a = true) (b : ByteArray) : is op b = is a b := by
  unfold is at *
  rw [eq_of_beq h]
theorem cls_of {op a : ByteArray} (h : is op a = true) : cls op = cls a := by
  have : is op = is a := funext (is_eqv h)
  unfold cls
  rw [this]
def wrote (x : Ins) (s : Int) : Bool := decide (cls x.op ≠ 5) && (x.dst == s)
theorem least_nn (op : ByteArray) : ((rArgs op).1 ≥ 0) ↔ cls op ≠ 5 := by
  rw [args_cls]
  have := cls_le op
  generalize cls op = n at *
  match n, this with
  | 0, _ => simp [tab]
  | 1, _ => simp [tab]
  | 2, _ => simp [tab]
  | 3, _ => simp [tab]
  | 4, _ => simp [tab]
  | 5, _ => simp [tab]
theorem rIn_eq (i n : Int) : rIn i n = !badP n i := by
  unfold rIn badP
  by_cases h : i ≥ 0
  · rw [if_pos h]
    by_cases h2 : i < n
    · simp [h2]; omega
    · simp [h2]; omega
  · rw [if_neg h]; simp; omega
theorem writtenL_eq (c : Cod) (n : Nat) (s : Int) : ∀ (d i : Nat), i + d ≤ c.step.length → rWrittenL c n s d i = bif ((c.step.drop i).take d).any (wrote · s) then .inr (rIn s c.slots) else .inl ()
  | 0, i, h => by simp [rWrittenL]
  | d + 1, i, h => by
    have hi : i < c.step.length := by omega
    have ih := writtenL_eq c n s d (i + 1) (by omega)
    unfold rWrittenL
    rw [List.drop_eq_getElem_cons hi, List.take_succ_cons, List.any_cons, ih, gx_get hi]
    by_cases h1 : (rArgs c.step[i].op).1 ≥ 0
    · rw [if_pos h1]
      have h1' := (least_nn _).1 h1
      by_cases h2 : c.step[i].dst = s
      · rw [if_pos h2]; simp [wrote, h1', h2]
      · have hb : wrote c.step[i] s = false := by
          have : (c.step[i].dst == s) = false := by simpa using h2
          unfold wrote
          rw [this, Bool.and_false]
        rw [if_neg h2, hb, Bool.false_or]
    · rw [if_neg h1]
      have h1' : cls c.step[i].op = 5 := by
        have := mt (least_nn c.step[i].op).2 h1
        omega
      simp [wrote, h1']
theorem written_eq (c : Cod) (n : Nat) (s : Int) (h : n ≤ c.step.length) : rWritten c n s = (!badP c.slots s && (c.step.take n).any (wrote · s)) := by
  unfold rWritten
  rw [writtenL_eq c n s n 0 (by omega), List.drop_zero, rIn_eq]
  cases (c.step.take n).any (wrote · s) <;> simp
def Marks (c : Cod) (i : Nat) (sl : List Bool) : Prop := sl.length = c.slots.toNat ∧ ∀ s, rWritten c i s = !badW sl s
theorem allL_eq {c : Cod} {n : Nat} {sl : List Bool} (hM : Marks c n sl) (l : List Int) : ∀ (d i : Nat), i + d = l.length → rAllL c n l d i = bif (l.drop i).any (badW sl) then .inr false else .inl ()
  | 0, i, h => by
    have : l.drop i = [] := List.drop_eq_nil_of_le (by omega)
    simp [rAllL, this]
  | d + 1, i, h => by
    have hi : i < l.length := by omega
    have ih := allL_eq hM l d (i + 1) (by omega)
    unfold rAllL
    rw [List.drop_eq_getElem_cons hi, List.any_cons, ih, hM.2]
    have : gi l i = l[i] := by unfold gi; rw [List.getD_eq_getElem?_getD, List.getElem?_eq_getElem hi]; rfl
    rw [this]
    cases badW sl l[i] <;> simp
theorem all_eq {c : Cod} {n : Nat} {sl : List Bool} (hM : Marks c n sl) (l : List Int) : rAll c n l = !l.any (badW sl) := by
  unfold rAll
  rw [allL_eq hM l l.length 0 (by omega), List.drop_zero]
  cases l.any (badW sl) <;> simp
theorem guard_eq {c : Cod} {n : Nat} {sl : List Bool} (hM : Marks c n sl) (g : Int) : rGuard c n g = guardF sl g := by
  unfold rGuard guardF
  rw [hM.2]
  by_cases h : g < 0
  · simp [h]
  · simp [h]
end Go.Proofs.Ytidpkomcgkcfjaa.Ev
end
section
/- Object code: an instruction of Step, by the program and by the reference. Printed by a program of this session. Pure. -/
namespace Go.Proofs.Ytidpkomcgkcfjaa.Ev
open Go Go.RowKit Go.Proofs.Ytidpkomcgkcfjaa
set_option linter.unusedVariables false
set_option linter.unusedSimpArgs false
theorem badP_len {c : Cod} {sl : List Bool} (h : sl.length = c.slots.toNat) (h0 : 0 ≤ c.slots) (x : Int) : badP sl.length x = badP c.slots x := by
  have : (sl.length : Int) = c.slots := by omega
  rw [this]
def stepA (op : ByteArray) (n m : Int) (G A R D Ki Km Kc Kf Ko : Bool) : Bool :=
  let pl := if is op (⟨#[105, 110]⟩ : ByteArray) then !Ki else if is op (⟨#[109, 101, 109]⟩ : ByteArray) || is op (⟨#[107, 101, 101, 112]⟩ : ByteArray) then !Km else if is op (⟨#[99, 111, 110, 116]⟩ : ByteArray) || is op (⟨#[115, 116, 97, 116, 101]⟩ : ByteArray) then !Kc else if is op (⟨#[102, 108, 97, 103]⟩ : ByteArray) then !Kf else if is op (⟨#[111, 117, 116]⟩ : ByteArray) then !Ko else if is op (⟨#[97, 103, 97, 105, 110]⟩ : ByteArray) then true else decide (cls op ≠ 5)
  let ok := takes (cls op) n && pl && G && !A && !R && ((is op (⟨#[109, 101, 109]⟩ : ByteArray) || is op (⟨#[99, 111, 110, 116]⟩ : ByteArray) || is op (⟨#[107, 101, 101, 112]⟩ : ByteArray) || is op (⟨#[115, 116, 97, 116, 101]⟩ : ByteArray)) || (m == 0))
  if decide (cls op ≠ 5) && ok then !D else ok
def stepB (op : ByteArray) (n m : Int) (G A R D Ki Km Kc Kf Ko : Bool) : Bool :=
  G && !A && !R && (if (tab (cls op)).1 ≥ 0 then decide ((tab (cls op)).1 ≤ n) && decide (n ≤ (tab (cls op)).2) && !D else true) && ((is op (⟨#[109, 101, 109]⟩ : ByteArray) || is op (⟨#[99, 111, 110, 116]⟩ : ByteArray) || is op (⟨#[107, 101, 101, 112]⟩ : ByteArray) || is op (⟨#[115, 116, 97, 116, 101]⟩ : ByteArray)) || decide (m ≤ 0)) &&
  (if is op (⟨#[105, 110]⟩ : ByteArray) then !Ki else if is op (⟨#[109, 101, 109]⟩ : ByteArray) then !Km else if is op (⟨#[99, 111, 110, 116]⟩ : ByteArray) then !Kc else if is op (⟨#[102, 108, 97, 103]⟩ : ByteArray) then !Kf else if is op (⟨#[107, 101, 101, 112]⟩ : ByteArray) then (n == 1) && !Km else if is op (⟨#[115, 116, 97, 116, 101]⟩ : ByteArray) then (n == 1) && !Kc else if is op (⟨#[111, 117, 116]⟩ : ByteArray) then (n == 1) && !Ko else if is op (⟨#[97, 103, 97, 105, 110]⟩ : ByteArray) then (n == 1) else decide ((tab (cls op)).1 ≥ 0))
theorem m_zero {m : Int} (h : 0 ≤ m) : decide (m ≤ 0) = (m == 0) := by
  rw [Bool.eq_iff_iff, decide_eq_true_iff, beq_iff_eq]; omega
theorem n_le0 {n : Int} (h : 0 ≤ n) : (decide ((0 : Int) ≤ n) && decide (n ≤ 0)) = (n == 0) := by
  rw [Bool.eq_iff_iff, Bool.and_eq_true, decide_eq_true_iff, decide_eq_true_iff, beq_iff_eq]; omega
theorem n_le {n : Int} (k : Int) : (decide (k ≤ n) && decide (n ≤ k)) = (n == k) := by
  rw [Bool.eq_iff_iff, Bool.and_eq_true, decide_eq_true_iff, decide_eq_true_iff, beq_iff_eq]; omega
theorem n_pos {n : Int} (h : n ≤ 20) : (decide ((1 : Int) ≤ n) && decide (n ≤ 1073741824)) = decide (n > 0) := by
  rw [Bool.eq_iff_iff, Bool.and_eq_true, decide_eq_true_iff, decide_eq_true_iff, decide_eq_true_iff]; omega
theorem stepAB (op : ByteArray) (n m : Int) (G A R D Ki Km Kc Kf Ko : Bool) (hn : 0 ≤ n) (hn2 : n ≤ 20) (hm : 0 ≤ m) : stepA op n m G A R D Ki Km Kc Kf Ko = stepB op n m G A R D Ki Km Kc Kf Ko := by
  unfold stepA stepB
  rw [m_zero hm]
  generalize (m == 0) = M
  rcases bc (is op (⟨#[105, 110]⟩ : ByteArray)) with h0 | h0
  · have hc : cls op = 0 := (cls_of h0).trans (by kernel_rfl)
    have g1 : is op (⟨#[109, 101, 109]⟩ : ByteArray) = false := (is_eqv h0 _).trans (by kernel_rfl)
    have g2 : is op (⟨#[99, 111, 110, 116]⟩ : ByteArray) = false := (is_eqv h0 _).trans (by kernel_rfl)
    have g3 : is op (⟨#[102, 108, 97, 103]⟩ : ByteArray) = false := (is_eqv h0 _).trans (by kernel_rfl)
    have g4 : is op (⟨#[107, 101, 101, 112]⟩ : ByteArray) = false := (is_eqv h0 _).trans (by kernel_rfl)
    have g5 : is op (⟨#[115, 116, 97, 116, 101]⟩ : ByteArray) = false := (is_eqv h0 _).trans (by kernel_rfl)
    have g6 : is op (⟨#[111, 117, 116]⟩ : ByteArray) = false := (is_eqv h0 _).trans (by kernel_rfl)
    have g7 : is op (⟨#[97, 103, 97, 105, 110]⟩ : ByteArray) = false := (is_eqv h0 _).trans (by kernel_rfl)
    simp only [hc, h0, g1, g2, g3, g4, g5, g6, g7]
    simp only [tab, takes]
    have e := n_le0 hn
    generalize (n == 0) = N at *
    generalize decide ((0 : Int) ≤ n) = N1 at *
    generalize decide (n ≤ (0 : Int)) = N2 at *
    subst e
    revert N1 N2 G A R D Ki M; simp; try decide
  · skip
    rcases bc (is op (⟨#[109, 101, 109]⟩ : ByteArray)) with h1 | h1
    · have hc : cls op = 0 := (cls_of h1).trans (by kernel_rfl)
      have g2 : is op (⟨#[99, 111, 110, 116]⟩ : ByteArray) = false := (is_eqv h1 _).trans (by kernel_rfl)
      have g3 : is op (⟨#[102, 108, 97, 103]⟩ : ByteArray) = false := (is_eqv h1 _).trans (by kernel_rfl)
      have g4 : is op (⟨#[107, 101, 101, 112]⟩ : ByteArray) = false := (is_eqv h1 _).trans (by kernel_rfl)
      have g5 : is op (⟨#[115, 116, 97, 116, 101]⟩ : ByteArray) = false := (is_eqv h1 _).trans (by kernel_rfl)
      have g6 : is op (⟨#[111, 117, 116]⟩ : ByteArray) = false := (is_eqv h1 _).trans (by kernel_rfl)
      have g7 : is op (⟨#[97, 103, 97, 105, 110]⟩ : ByteArray) = false := (is_eqv h1 _).trans (by kernel_rfl)
      simp only [hc, h1, h0, g2, g3, g4, g5, g6, g7]
      simp only [tab, takes]
      have e := n_le0 hn
      generalize (n == 0) = N at *
      generalize decide ((0 : Int) ≤ n) = N1 at *
      generalize decide (n ≤ (0 : Int)) = N2 at *
      subst e
      revert N1 N2 G A R D Km M; simp; try decide
    · skip
      rcases bc (is op (⟨#[99, 111, 110, 116]⟩ : ByteArray)) with h2 | h2
      · have hc : cls op = 0 := (cls_of h2).trans (by kernel_rfl)
        have g3 : is op (⟨#[102, 108, 97, 103]⟩ : ByteArray) = false := (is_eqv h2 _).trans (by kernel_rfl)
        have g4 : is op (⟨#[107, 101, 101, 112]⟩ : ByteArray) = false := (is_eqv h2 _).trans (by kernel_rfl)
        have g5 : is op (⟨#[115, 116, 97, 116, 101]⟩ : ByteArray) = false := (is_eqv h2 _).trans (by kernel_rfl)
        have g6 : is op (⟨#[111, 117, 116]⟩ : ByteArray) = false := (is_eqv h2 _).trans (by kernel_rfl)
        have g7 : is op (⟨#[97, 103, 97, 105, 110]⟩ : ByteArray) = false := (is_eqv h2 _).trans (by kernel_rfl)
        simp only [hc, h2, h0, h1, g3, g4, g5, g6, g7]
        simp only [tab, takes]
        have e := n_le0 hn
        generalize (n == 0) = N at *
        generalize decide ((0 : Int) ≤ n) = N1 at *
        generalize decide (n ≤ (0 : Int)) = N2 at *
        subst e
        revert N1 N2 G A R D Kc M; simp; try decide
      · skip
        rcases bc (is op (⟨#[102, 108, 97, 103]⟩ : ByteArray)) with h3 | h3
        · have hc : cls op = 0 := (cls_of h3).trans (by kernel_rfl)
          have g4 : is op (⟨#[107, 101, 101, 112]⟩ : ByteArray) = false := (is_eqv h3 _).trans (by kernel_rfl)
          have g5 : is op (⟨#[115, 116, 97, 116, 101]⟩ : ByteArray) = false := (is_eqv h3 _).trans (by kernel_rfl)
          have g6 : is op (⟨#[111, 117, 116]⟩ : ByteArray) = false := (is_eqv h3 _).trans (by kernel_rfl)
          have g7 : is op (⟨#[97, 103, 97, 105, 110]⟩ : ByteArray) = false := (is_eqv h3 _).trans (by kernel_rfl)
          simp only [hc, h3, h0, h1, h2, g4, g5, g6, g7]
          simp only [tab, takes]
          have e := n_le0 hn
          generalize (n == 0) = N at *
          generalize decide ((0 : Int) ≤ n) = N1 at *
          generalize decide (n ≤ (0 : Int)) = N2 at *
          subst e
          revert N1 N2 G A R D Kf M; simp; try decide
        · skip
          rcases bc (is op (⟨#[107, 101, 101, 112]⟩ : ByteArray)) with h4 | h4
          · have hc : cls op = 5 := (cls_of h4).trans (by kernel_rfl)
            have g5 : is op (⟨#[115, 116, 97, 116, 101]⟩ : ByteArray) = false := (is_eqv h4 _).trans (by kernel_rfl)
            have g6 : is op (⟨#[111, 117, 116]⟩ : ByteArray) = false := (is_eqv h4 _).trans (by kernel_rfl)
            have g7 : is op (⟨#[97, 103, 97, 105, 110]⟩ : ByteArray) = false := (is_eqv h4 _).trans (by kernel_rfl)
            simp only [hc, h4, h0, h1, h2, h3, g5, g6, g7]
            simp only [tab, takes]
            generalize (n == 1) = N at *
            revert N G A R D Km M; simp; try decide
          · skip
            rcases bc (is op (⟨#[115, 116, 97, 116, 101]⟩ : ByteArray)) with h5 | h5
            · have hc : cls op = 5 := (cls_of h5).trans (by kernel_rfl)
              have g6 : is op (⟨#[111, 117, 116]⟩ : ByteArray) = false := (is_eqv h5 _).trans (by kernel_rfl)
              have g7 : is op (⟨#[97, 103, 97, 105, 110]⟩ : ByteArray) = false := (is_eqv h5 _).trans (by kernel_rfl)
              simp only [hc, h5, h0, h1, h2, h3, h4, g6, g7]
              simp only [tab, takes]
              generalize (n == 1) = N at *
              revert N G A R D Kc M; simp; try decide
            · skip
              rcases bc (is op (⟨#[111, 117, 116]⟩ : ByteArray)) with h6 | h6
              · have hc : cls op = 5 := (cls_of h6).trans (by kernel_rfl)
                have g7 : is op (⟨#[97, 103, 97, 105, 110]⟩ : ByteArray) = false := (is_eqv h6 _).trans (by kernel_rfl)
                simp only [hc, h6, h0, h1, h2, h3, h4, h5, g7]
                simp only [tab, takes]
                generalize (n == 1) = N at *
                revert N G A R D Ko M; simp; try decide
              · skip
                rcases bc (is op (⟨#[97, 103, 97, 105, 110]⟩ : ByteArray)) with h7 | h7
                · have hc : cls op = 5 := (cls_of h7).trans (by kernel_rfl)
                  simp only [hc, h7, h0, h1, h2, h3, h4, h5, h6]
                  simp only [tab, takes]
                  generalize (n == 1) = N at *
                  revert N G A R D Ko M; simp; try decide
                · simp only [h0, h1, h2, h3, h4, h5, h6, h7]
                  have hl := cls_le op
                  generalize cls op = q at *
                  match q, hl with
                  | 0, _ =>
                    simp only [tab, takes]
                    have e := n_le0 hn (n := n)
                    generalize (n == 0) = N at *
                    generalize decide ((0 : Int) ≤ n) = N1 at *
                    generalize decide (n ≤ (0 : Int)) = N2 at *
                    subst e
                    revert N1 N2 G A R D M; simp; try decide
                  | 1, _ =>
                    simp only [tab, takes]
                    have e := n_le 1 (n := n)
                    generalize (n == 1) = N at *
                    generalize decide ((1 : Int) ≤ n) = N1 at *
                    generalize decide (n ≤ (1 : Int)) = N2 at *
                    subst e
                    revert N1 N2 G A R D M; simp; try decide
                  | 2, _ =>
                    simp only [tab, takes]
                    have e := n_pos hn2 (n := n)
                    generalize decide (n > 0) = N at *
                    generalize decide ((1 : Int) ≤ n) = N1 at *
                    generalize decide (n ≤ (1073741824 : Int)) = N2 at *
                    subst e
                    revert N1 N2 G A R D M; simp; try decide
                  | 3, _ =>
                    simp only [tab, takes]
                    have e := n_le 3 (n := n)
                    generalize (n == 3) = N at *
                    generalize decide ((3 : Int) ≤ n) = N1 at *
                    generalize decide (n ≤ (3 : Int)) = N2 at *
                    subst e
                    revert N1 N2 G A R D M; simp; try decide
                  | 4, _ =>
                    simp only [tab, takes]
                    have e := n_le 2 (n := n)
                    generalize (n == 2) = N at *
                    generalize decide ((2 : Int) ≤ n) = N1 at *
                    generalize decide (n ≤ (2 : Int)) = N2 at *
                    subst e
                    revert N1 N2 G A R D M; simp; try decide
                  | 5, _ => simp [tab, takes]
end Go.Proofs.Ytidpkomcgkcfjaa.Ev
end
section
/- Object code: an instruction of Step, the reference's answer in few words. Printed by a program of this session. Pure. -/
namespace Go.Proofs.Ytidpkomcgkcfjaa.Ev
open Go Go.RowKit Go.Proofs.Ytidpkomcgkcfjaa
set_option linter.unusedVariables false
set_option linter.unusedSimpArgs false
theorem gt_pos {m : Int} {α : Type} {a b : α} : (if m > 0 then a else b) = bif decide (m ≤ 0) then b else a := by
  by_cases h : m > 0
  · rw [if_pos h, decide_eq_false (by omega)]; rfl
  · rw [if_neg h, decide_eq_true (by omega)]; rfl
theorem lt_le {m n : Int} {a : Bool} : (if m < n then false else a) = (decide (n ≤ m) && a) := by
  by_cases h : m < n
  · rw [if_pos h, decide_eq_false (by omega)]; rfl
  · rw [if_neg h, decide_eq_true (by omega)]; rfl
theorem gt_le {m n : Int} {a : Bool} : (if m > n then false else a) = (decide (m ≤ n) && a) := by
  by_cases h : m > n
  · rw [if_pos h, decide_eq_false (by omega)]; rfl
  · rw [if_neg h, decide_eq_true (by omega)]; rfl
theorem eq_beq {m n : Int} {a : Bool} : (if m = n then a else false) = ((m == n) && a) := by
  by_cases h : m = n
  · rw [if_pos h, eq_t h]; rfl
  · rw [if_neg h, eq_f h]; rfl
theorem rStep_B {c : Cod} {i : Nat} {sl : List Bool} (hM : Marks c i sl) : rStep c i = stepB (gx c.step i).op (gx c.step i).args.length (gx c.step i).resets.length (guardF sl (gx c.step i).guard) ((gx c.step i).args.any (badW sl)) ((gx c.step i).resets.any (badW sl)) (badP c.slots (gx c.step i).dst) (badP c.ins (gx c.step i).k) (badP c.mems.length (gx c.step i).k) (badP c.conts.length (gx c.step i).k) (badP c.crosses (gx c.step i).k) (badP c.outs (gx c.step i).k) := by
  unfold rStep stepB
  rw [guard_eq hM, all_eq hM, all_eq hM]
  simp only [rIn_eq, args_cls]
  generalize gx c.step i = x
  generalize guardF sl x.guard = G
  generalize x.args.any (badW sl) = A
  generalize x.resets.any (badW sl) = R
  generalize badP c.slots x.dst = D
  generalize badP c.ins x.k = Ki
  generalize badP c.mems.length x.k = Km
  generalize badP c.conts.length x.k = Kc
  generalize badP c.crosses x.k = Kf
  generalize badP c.outs x.k = Ko
  generalize x.op = op
  generalize (x.args.length : Int) = n
  generalize (x.resets.length : Int) = m
  cases G
  · rfl
  cases A
  case true => rfl
  cases R
  case true => rfl
  simp only [gt_pos, lt_le, gt_le, eq_beq]
  rcases bc (is op (⟨#[105, 110]⟩ : ByteArray)) with h0 | h0
  · have hc : cls op = 0 := (cls_of h0).trans (by kernel_rfl)
    have g1 : is op (⟨#[109, 101, 109]⟩ : ByteArray) = false := (is_eqv h0 _).trans (by kernel_rfl)
    have g2 : is op (⟨#[99, 111, 110, 116]⟩ : ByteArray) = false := (is_eqv h0 _).trans (by kernel_rfl)
    have g3 : is op (⟨#[102, 108, 97, 103]⟩ : ByteArray) = false := (is_eqv h0 _).trans (by kernel_rfl)
    have g4 : is op (⟨#[107, 101, 101, 112]⟩ : ByteArray) = false := (is_eqv h0 _).trans (by kernel_rfl)
    have g5 : is op (⟨#[115, 116, 97, 116, 101]⟩ : ByteArray) = false := (is_eqv h0 _).trans (by kernel_rfl)
    have g6 : is op (⟨#[111, 117, 116]⟩ : ByteArray) = false := (is_eqv h0 _).trans (by kernel_rfl)
    have g7 : is op (⟨#[97, 103, 97, 105, 110]⟩ : ByteArray) = false := (is_eqv h0 _).trans (by kernel_rfl)
    simp only [hc, h0, g1, g2, g3, g4, g5, g6, g7]
    simp [tab, Bool.and_assoc]
  · skip
    rcases bc (is op (⟨#[109, 101, 109]⟩ : ByteArray)) with h1 | h1
    · have hc : cls op = 0 := (cls_of h1).trans (by kernel_rfl)
      have g2 : is op (⟨#[99, 111, 110, 116]⟩ : ByteArray) = false := (is_eqv h1 _).trans (by kernel_rfl)
      have g3 : is op (⟨#[102, 108, 97, 103]⟩ : ByteArray) = false := (is_eqv h1 _).trans (by kernel_rfl)
      have g4 : is op (⟨#[107, 101, 101, 112]⟩ : ByteArray) = false := (is_eqv h1 _).trans (by kernel_rfl)
      have g5 : is op (⟨#[115, 116, 97, 116, 101]⟩ : ByteArray) = false := (is_eqv h1 _).trans (by kernel_rfl)
      have g6 : is op (⟨#[111, 117, 116]⟩ : ByteArray) = false := (is_eqv h1 _).trans (by kernel_rfl)
      have g7 : is op (⟨#[97, 103, 97, 105, 110]⟩ : ByteArray) = false := (is_eqv h1 _).trans (by kernel_rfl)
      simp only [hc, h1, h0, g2, g3, g4, g5, g6, g7]
      simp [tab, Bool.and_assoc]
    · skip
      rcases bc (is op (⟨#[99, 111, 110, 116]⟩ : ByteArray)) with h2 | h2
      · have hc : cls op = 0 := (cls_of h2).trans (by kernel_rfl)
        have g3 : is op (⟨#[102, 108, 97, 103]⟩ : ByteArray) = false := (is_eqv h2 _).trans (by kernel_rfl)
        have g4 : is op (⟨#[107, 101, 101, 112]⟩ : ByteArray) = false := (is_eqv h2 _).trans (by kernel_rfl)
        have g5 : is op (⟨#[115, 116, 97, 116, 101]⟩ : ByteArray) = false := (is_eqv h2 _).trans (by kernel_rfl)
        have g6 : is op (⟨#[111, 117, 116]⟩ : ByteArray) = false := (is_eqv h2 _).trans (by kernel_rfl)
        have g7 : is op (⟨#[97, 103, 97, 105, 110]⟩ : ByteArray) = false := (is_eqv h2 _).trans (by kernel_rfl)
        simp only [hc, h2, h0, h1, g3, g4, g5, g6, g7]
        simp [tab, Bool.and_assoc]
      · skip
        rcases bc (is op (⟨#[102, 108, 97, 103]⟩ : ByteArray)) with h3 | h3
        · have hc : cls op = 0 := (cls_of h3).trans (by kernel_rfl)
          have g4 : is op (⟨#[107, 101, 101, 112]⟩ : ByteArray) = false := (is_eqv h3 _).trans (by kernel_rfl)
          have g5 : is op (⟨#[115, 116, 97, 116, 101]⟩ : ByteArray) = false := (is_eqv h3 _).trans (by kernel_rfl)
          have g6 : is op (⟨#[111, 117, 116]⟩ : ByteArray) = false := (is_eqv h3 _).trans (by kernel_rfl)
          have g7 : is op (⟨#[97, 103, 97, 105, 110]⟩ : ByteArray) = false := (is_eqv h3 _).trans (by kernel_rfl)
          simp only [hc, h3, h0, h1, h2, g4, g5, g6, g7]
          simp [tab, Bool.and_assoc]
        · skip
          rcases bc (is op (⟨#[107, 101, 101, 112]⟩ : ByteArray)) with h4 | h4
          · have hc : cls op = 5 := (cls_of h4).trans (by kernel_rfl)
            have g5 : is op (⟨#[115, 116, 97, 116, 101]⟩ : ByteArray) = false := (is_eqv h4 _).trans (by kernel_rfl)
            have g6 : is op (⟨#[111, 117, 116]⟩ : ByteArray) = false := (is_eqv h4 _).trans (by kernel_rfl)
            have g7 : is op (⟨#[97, 103, 97, 105, 110]⟩ : ByteArray) = false := (is_eqv h4 _).trans (by kernel_rfl)
            simp only [hc, h4, h0, h1, h2, h3, g5, g6, g7]
            simp [tab, Bool.and_assoc]
          · skip
            rcases bc (is op (⟨#[115, 116, 97, 116, 101]⟩ : ByteArray)) with h5 | h5
            · have hc : cls op = 5 := (cls_of h5).trans (by kernel_rfl)
              have g6 : is op (⟨#[111, 117, 116]⟩ : ByteArray) = false := (is_eqv h5 _).trans (by kernel_rfl)
              have g7 : is op (⟨#[97, 103, 97, 105, 110]⟩ : ByteArray) = false := (is_eqv h5 _).trans (by kernel_rfl)
              simp only [hc, h5, h0, h1, h2, h3, h4, g6, g7]
              simp [tab, Bool.and_assoc]
            · skip
              rcases bc (is op (⟨#[111, 117, 116]⟩ : ByteArray)) with h6 | h6
              · have hc : cls op = 5 := (cls_of h6).trans (by kernel_rfl)
                have g7 : is op (⟨#[97, 103, 97, 105, 110]⟩ : ByteArray) = false := (is_eqv h6 _).trans (by kernel_rfl)
                simp only [hc, h6, h0, h1, h2, h3, h4, h5, g7]
                simp [tab, Bool.and_assoc]
              · skip
                rcases bc (is op (⟨#[97, 103, 97, 105, 110]⟩ : ByteArray)) with h7 | h7
                · have hc : cls op = 5 := (cls_of h7).trans (by kernel_rfl)
                  simp only [hc, h7, h0, h1, h2, h3, h4, h5, h6]
                  simp [tab, Bool.and_assoc]
                · simp only [h0, h1, h2, h3, h4, h5, h6, h7]
                  have hl := cls_le op
                  generalize cls op = q at *
                  match q, hl with
                  | 0, _ => simp [tab, Bool.and_assoc]
                  | 1, _ => simp [tab, Bool.and_assoc]
                  | 2, _ => simp [tab, Bool.and_assoc]
                  | 3, _ => simp [tab, Bool.and_assoc]
                  | 4, _ => simp [tab, Bool.and_assoc]
                  | 5, _ => simp [tab, Bool.and_assoc]
theorem stepF_A {c : Cod} {sl : List Bool} {x : Ins} (hl : sl.length = c.slots.toNat) (h0 : 0 ≤ c.slots) : (stepF c sl x).1 = stepA x.op x.args.length x.resets.length (guardF sl x.guard) (x.args.any (badW sl)) (x.resets.any (badW sl)) (badP c.slots x.dst) (badP c.ins x.k) (badP c.mems.length x.k) (badP c.conts.length x.k) (badP c.crosses x.k) (badP c.outs x.k) := by
  have e : stepOk c sl x = (takes (cls x.op) x.args.length && placeF c x.op x.k (decide (cls x.op ≠ 5)) && guardF sl x.guard && !x.args.any (badW sl) && !x.resets.any (badW sl) && (begins x.op || ((x.resets.length : Int) == 0))) := rfl
  unfold stepF stepA
  rw [badP_len hl h0]
  unfold placeF begins at e
  simp only [← e]
  cases decide (cls x.op ≠ 5) && stepOk c sl x
  · rfl
  · cases badP c.slots x.dst <;> rfl
end Go.Proofs.Ytidpkomcgkcfjaa.Ev
end
section
/- Object code: Deriv and Cross, by the program and by the reference. Printed by a program of this session. Pure. -/
namespace Go.Proofs.Ytidpkomcgkcfjaa.Ev
open Go Go.RowKit Go.Proofs.Ytidpkomcgkcfjaa
set_option linter.unusedVariables false
set_option linter.unusedSimpArgs false
theorem gi_get {l : List Int} {i : Nat} (h : i < l.length) : gi l i = l[i] := by
  unfold gi; rw [List.getD_eq_getElem?_getD, List.getElem?_eq_getElem h]; rfl
theorem derivL_eq {c : Cod} {sl : List Bool} (hM : Marks c c.step.length sl) (x : Ins) (ha : x.args.length ≤ 20) (he : x.args.length % 2 = 0) : ∀ (d i : Nat), i % 2 = 0 → i ≤ x.args.length → 1 ≤ d → x.args.length + 1 ≤ d + i → rDerivL c x d i = some (bif argsD sl true (x.args.drop i) then .inl () else .inr false)
  | 0, i, _, _, h, _ => by omega
  | d + 1, i, h0, h1, _, h2 => by
    unfold rDerivL
    rw [show (IntKind.i64.wrap ((i : Int) + (1 : Int))) = ((i + 1 : Nat) : Int) from next i (by omega)]
    by_cases h : i + 1 < x.args.length
    · rw [if_pos (by omega), derivL_eq hM x ha he d (i + 2) (by omega) (by omega) (by omega) (by omega), guard_eq hM, hM.2, gi_get (by omega), gi_get h]
      rw [List.drop_eq_getElem_cons (show i < x.args.length by omega), List.drop_eq_getElem_cons h]
      simp only [argsD]
      cases guardF sl x.args[i] <;> cases badW sl x.args[i + 1] <;> rfl
    · rw [if_neg (by omega)]
      have : x.args.drop i = [] := List.drop_eq_nil_of_le (by omega)
      rw [this]; rfl
theorem deriv_eq {c : Cod} {sl : List Bool} (hM : Marks c c.step.length sl) (x : Ins) (ha : x.args.length ≤ 20) : derivF c sl x = rDeriv c x := by
  unfold derivF rDeriv
  rw [guard_eq hM, rIn_eq]
  by_cases he : x.args.length % 2 = 0
  · have hl : rDerivT c x = bif argsD sl true x.args then .inl () else .inr false := by
      unfold rDerivT
      rw [derivL_eq hM x ha he _ 0 rfl (by omega) (by omega) (by omega)]; rfl
    rw [hl]
    have ht : ((x.args.length : Int).tmod 2) = 0 := by
      have := tm0 x.args.length
      rw [decide_eq_true he] at this
      exact eq_of_beq this
    rw [if_pos ht, gt_pos, decide_eq_true he, m_zero (Int.natCast_nonneg _)]
    generalize argsD sl true x.args = a
    generalize ((x.resets.length : Int) == 0) = m
    generalize guardF sl x.guard = g
    generalize badP c.conts.length x.k = k
    cases is x.op (⟨#[115, 108, 111, 112, 101]⟩ : ByteArray) <;> cases a <;> cases m <;> cases g <;> cases k <;> rfl
  · have ht : ¬ ((x.args.length : Int).tmod 2) = 0 := fun h => by
      have := tm0 x.args.length
      rw [decide_eq_false he, h] at this
      cases this
    rw [if_neg ht, decide_eq_false he]
    cases is x.op (⟨#[115, 108, 111, 112, 101]⟩ : ByteArray) <;> cases badP c.conts.length x.k <;> simp
def MarksL (c : Cod) (j : Nat) (ln : List Bool) : Prop := ln.length = c.lines.toNat ∧ ∀ s, rLine c j s = !badW ln s
theorem crossL_ge {c : Cod} {j : Nat} {ln : List Bool} (hL : MarksL c j ln) (fr : Int) : ∀ (d i : Nat), i + d = (gx c.cross j).args.length → fr ≤ i → rCrossL c j fr d i = bif ((gx c.cross j).args.drop i).any (badW ln) then .inr false else .inl ()
  | 0, i, h, _ => by
    have : (gx c.cross j).args.drop i = [] := List.drop_eq_nil_of_le (by omega)
    rw [this]; rfl
  | d + 1, i, h, hf => by
    have hi : i < (gx c.cross j).args.length := by omega
    unfold rCrossL
    rw [if_neg (by omega), if_pos (by omega), hL.2, gi_get hi, crossL_ge hL fr d (i + 1) (by omega) (by omega), List.drop_eq_getElem_cons hi, List.any_cons]
    cases badW ln (gx c.cross j).args[i] <;> rfl
theorem crossL_0 {c : Cod} {j : Nat} {ln : List Bool} (hL : MarksL c j ln) : rCrossL c j 0 (gx c.cross j).args.length 0 = bif (gx c.cross j).args.any (badW ln) then .inr false else .inl () := by
  have := crossL_ge hL 0 (gx c.cross j).args.length 0 (by omega) (by omega)
  rwa [List.drop_zero] at this
theorem crossL_1 {c : Cod} {j : Nat} {sl ln : List Bool} (hM : Marks c c.step.length sl) (hL : MarksL c j ln) : rCrossL c j 1 (gx c.cross j).args.length 0 = bif ((gx c.cross j).args.take 1).any (badW sl) || ((gx c.cross j).args.drop 1).any (badW ln) then .inr false else .inl () := by
  cases h : (gx c.cross j).args.length with
  | zero =>
    have : (gx c.cross j).args = [] := List.eq_nil_of_length_eq_zero h
    rw [this]; rfl
  | succ d =>
    have hi : 0 < (gx c.cross j).args.length := by omega
    unfold rCrossL
    rw [if_pos (by omega), if_neg (by omega), hM.2, gi_get hi, crossL_ge hL 1 d 1 (by omega) (by omega)]
    have e : (gx c.cross j).args.take 1 = [(gx c.cross j).args[0]] := by
      rw [List.take_one, List.head?_eq_getElem?, List.getElem?_eq_getElem hi]; rfl
    rw [e]
    simp only [List.any_cons, List.any_nil, Bool.or_false]
    cases badW sl (gx c.cross j).args[0] <;> rfl
def crossB (op : ByteArray) (n m : Int) (G D Kc K2 Kf L0 L1 : Bool) : Bool :=
  decide (m ≤ 0) && G && (is op (⟨#[97, 115, 107]⟩ : ByteArray) || !D) && (if is op (⟨#[108, 118, 97, 114]⟩ : ByteArray) then (n == 1) && !L1 else if is op (⟨#[108, 99, 111, 110, 116]⟩ : ByteArray) then !Kc && (n == 0) && !L0 else if is op (⟨#[108, 110, 101, 103]⟩ : ByteArray) then (n == 1) && !L0 else if is op (⟨#[108, 42]⟩ : ByteArray) then !K2 && (n == 2) && !L0 else if is op (⟨#[108, 43]⟩ : ByteArray) || is op (⟨#[108, 45]⟩ : ByteArray) || is op (⟨#[108, 47]⟩ : ByteArray) then (n == 2) && !L0 else if is op (⟨#[108, 115, 101, 108]⟩ : ByteArray) then (n == 3) && !L1 else if is op (⟨#[97, 115, 107]⟩ : ByteArray) then !Kf && (n == 1) && !L0 else false)
theorem rCross_B {c : Cod} {j : Nat} {sl ln : List Bool} (hM : Marks c c.step.length sl) (hL : MarksL c j ln) : rCross c j = crossB (gx c.cross j).op (gx c.cross j).args.length (gx c.cross j).resets.length (guardF sl (gx c.cross j).guard) (badP c.lines (gx c.cross j).dst) (badP c.conts.length (gx c.cross j).k) (badP 2 (gx c.cross j).k) (badP c.crosses (gx c.cross j).k) ((gx c.cross j).args.any (badW ln)) (((gx c.cross j).args.take 1).any (badW sl) || ((gx c.cross j).args.drop 1).any (badW ln)) := by
  unfold rCross crossB
  rw [crossL_0 hL, crossL_1 hM hL, guard_eq hM]
  simp only [rIn_eq]
  generalize gx c.cross j = x
  generalize (((x.args.take 1).any (badW sl)) || ((x.args.drop 1).any (badW ln))) = L1
  generalize x.args.any (badW ln) = L0
  generalize guardF sl x.guard = G
  generalize badP c.lines x.dst = D
  generalize badP c.conts.length x.k = Kc
  generalize badP 2 x.k = K2
  generalize badP c.crosses x.k = Kf
  generalize x.op = op
  generalize (x.args.length : Int) = n
  generalize (x.resets.length : Int) = m
  rw [gt_pos]
  cases decide (m ≤ 0)
  · rfl
  cases G
  · rfl
  simp only [eq_beq]
  rcases bc (is op (⟨#[108, 118, 97, 114]⟩ : ByteArray)) with h0 | h0
  · skip
    have g1 : is op (⟨#[108, 99, 111, 110, 116]⟩ : ByteArray) = false := (is_eqv h0 _).trans (by kernel_rfl)
    have g2 : is op (⟨#[108, 110, 101, 103]⟩ : ByteArray) = false := (is_eqv h0 _).trans (by kernel_rfl)
    have g3 : is op (⟨#[108, 42]⟩ : ByteArray) = false := (is_eqv h0 _).trans (by kernel_rfl)
    have g4 : is op (⟨#[108, 43]⟩ : ByteArray) = false := (is_eqv h0 _).trans (by kernel_rfl)
    have g5 : is op (⟨#[108, 45]⟩ : ByteArray) = false := (is_eqv h0 _).trans (by kernel_rfl)
    have g6 : is op (⟨#[108, 47]⟩ : ByteArray) = false := (is_eqv h0 _).trans (by kernel_rfl)
    have g7 : is op (⟨#[108, 115, 101, 108]⟩ : ByteArray) = false := (is_eqv h0 _).trans (by kernel_rfl)
    have g8 : is op (⟨#[97, 115, 107]⟩ : ByteArray) = false := (is_eqv h0 _).trans (by kernel_rfl)
    simp only [h0, g1, g2, g3, g4, g5, g6, g7, g8]
    cases L0 <;> cases L1 <;> cases D <;> simp [Bool.and_assoc]
  · skip
    rcases bc (is op (⟨#[108, 99, 111, 110, 116]⟩ : ByteArray)) with h1 | h1
    · skip
      have g2 : is op (⟨#[108, 110, 101, 103]⟩ : ByteArray) = false := (is_eqv h1 _).trans (by kernel_rfl)
      have g3 : is op (⟨#[108, 42]⟩ : ByteArray) = false := (is_eqv h1 _).trans (by kernel_rfl)
      have g4 : is op (⟨#[108, 43]⟩ : ByteArray) = false := (is_eqv h1 _).trans (by kernel_rfl)
      have g5 : is op (⟨#[108, 45]⟩ : ByteArray) = false := (is_eqv h1 _).trans (by kernel_rfl)
      have g6 : is op (⟨#[108, 47]⟩ : ByteArray) = false := (is_eqv h1 _).trans (by kernel_rfl)
      have g7 : is op (⟨#[108, 115, 101, 108]⟩ : ByteArray) = false := (is_eqv h1 _).trans (by kernel_rfl)
      have g8 : is op (⟨#[97, 115, 107]⟩ : ByteArray) = false := (is_eqv h1 _).trans (by kernel_rfl)
      simp only [h1, h0, g2, g3, g4, g5, g6, g7, g8]
      cases L0 <;> cases L1 <;> cases D <;> simp [Bool.and_assoc]
    · skip
      rcases bc (is op (⟨#[108, 110, 101, 103]⟩ : ByteArray)) with h2 | h2
      · skip
        have g3 : is op (⟨#[108, 42]⟩ : ByteArray) = false := (is_eqv h2 _).trans (by kernel_rfl)
        have g4 : is op (⟨#[108, 43]⟩ : ByteArray) = false := (is_eqv h2 _).trans (by kernel_rfl)
        have g5 : is op (⟨#[108, 45]⟩ : ByteArray) = false := (is_eqv h2 _).trans (by kernel_rfl)
        have g6 : is op (⟨#[108, 47]⟩ : ByteArray) = false := (is_eqv h2 _).trans (by kernel_rfl)
        have g7 : is op (⟨#[108, 115, 101, 108]⟩ : ByteArray) = false := (is_eqv h2 _).trans (by kernel_rfl)
        have g8 : is op (⟨#[97, 115, 107]⟩ : ByteArray) = false := (is_eqv h2 _).trans (by kernel_rfl)
        simp only [h2, h0, h1, g3, g4, g5, g6, g7, g8]
        cases L0 <;> cases L1 <;> cases D <;> simp [Bool.and_assoc]
      · skip
        rcases bc (is op (⟨#[108, 42]⟩ : ByteArray)) with h3 | h3
        · skip
          have g4 : is op (⟨#[108, 43]⟩ : ByteArray) = false := (is_eqv h3 _).trans (by kernel_rfl)
          have g5 : is op (⟨#[108, 45]⟩ : ByteArray) = false := (is_eqv h3 _).trans (by kernel_rfl)
          have g6 : is op (⟨#[108, 47]⟩ : ByteArray) = false := (is_eqv h3 _).trans (by kernel_rfl)
          have g7 : is op (⟨#[108, 115, 101, 108]⟩ : ByteArray) = false := (is_eqv h3 _).trans (by kernel_rfl)
          have g8 : is op (⟨#[97, 115, 107]⟩ : ByteArray) = false := (is_eqv h3 _).trans (by kernel_rfl)
          simp only [h3, h0, h1, h2, g4, g5, g6, g7, g8]
          cases L0 <;> cases L1 <;> cases D <;> simp [Bool.and_assoc]
        · skip
          rcases bc (is op (⟨#[108, 43]⟩ : ByteArray)) with h4 | h4
          · skip
            have g5 : is op (⟨#[108, 45]⟩ : ByteArray) = false := (is_eqv h4 _).trans (by kernel_rfl)
            have g6 : is op (⟨#[108, 47]⟩ : ByteArray) = false := (is_eqv h4 _).trans (by kernel_rfl)
            have g7 : is op (⟨#[108, 115, 101, 108]⟩ : ByteArray) = false := (is_eqv h4 _).trans (by kernel_rfl)
            have g8 : is op (⟨#[97, 115, 107]⟩ : ByteArray) = false := (is_eqv h4 _).trans (by kernel_rfl)
            simp only [h4, h0, h1, h2, h3, g5, g6, g7, g8]
            cases L0 <;> cases L1 <;> cases D <;> simp [Bool.and_assoc]
          · skip
            rcases bc (is op (⟨#[108, 45]⟩ : ByteArray)) with h5 | h5
            · skip
              have g6 : is op (⟨#[108, 47]⟩ : ByteArray) = false := (is_eqv h5 _).trans (by kernel_rfl)
              have g7 : is op (⟨#[108, 115, 101, 108]⟩ : ByteArray) = false := (is_eqv h5 _).trans (by kernel_rfl)
              have g8 : is op (⟨#[97, 115, 107]⟩ : ByteArray) = false := (is_eqv h5 _).trans (by kernel_rfl)
              simp only [h5, h0, h1, h2, h3, h4, g6, g7, g8]
              cases L0 <;> cases L1 <;> cases D <;> simp [Bool.and_assoc]
            · skip
              rcases bc (is op (⟨#[108, 47]⟩ : ByteArray)) with h6 | h6
              · skip
                have g7 : is op (⟨#[108, 115, 101, 108]⟩ : ByteArray) = false := (is_eqv h6 _).trans (by kernel_rfl)
                have g8 : is op (⟨#[97, 115, 107]⟩ : ByteArray) = false := (is_eqv h6 _).trans (by kernel_rfl)
                simp only [h6, h0, h1, h2, h3, h4, h5, g7, g8]
                cases L0 <;> cases L1 <;> cases D <;> simp [Bool.and_assoc]
              · skip
                rcases bc (is op (⟨#[108, 115, 101, 108]⟩ : ByteArray)) with h7 | h7
                · skip
                  have g8 : is op (⟨#[97, 115, 107]⟩ : ByteArray) = false := (is_eqv h7 _).trans (by kernel_rfl)
                  simp only [h7, h0, h1, h2, h3, h4, h5, h6, g8]
                  cases L0 <;> cases L1 <;> cases D <;> simp [Bool.and_assoc]
                · skip
                  rcases bc (is op (⟨#[97, 115, 107]⟩ : ByteArray)) with h8 | h8
                  · skip
                    simp only [h8, h0, h1, h2, h3, h4, h5, h6, h7]
                    cases L0 <;> cases L1 <;> cases D <;> simp [Bool.and_assoc]
                  · skip
                    simp only [h0, h1, h2, h3, h4, h5, h6, h7, h8]
                    cases D <;> simp
def cuts (sl ln : List Bool) (l : List Int) (f : Int) : Bool := (l.take f.toNat).any (badW sl) || (l.drop f.toNat).any (badW ln)
theorem cuts0 (sl ln : List Bool) (l : List Int) : cuts sl ln l 0 = l.any (badW ln) := by
  show ((l.take 0).any (badW sl) || (l.drop 0).any (badW ln)) = _
  rw [List.take_zero, List.drop_zero]; rfl
theorem cuts1 (sl ln : List Bool) (l : List Int) : cuts sl ln l 1 = ((l.take 1).any (badW sl) || (l.drop 1).any (badW ln)) := rfl
theorem crossF_1 (c : Cod) (sl ln : List Bool) (x : Ins) : (crossF c sl ln x).1 = ((asksF c x.op x.k).2.2 && ((x.args.length : Int) == (asksF c x.op x.k).1 + (asksF c x.op x.k).2.1) && ((x.resets.length : Int) == 0) && guardF sl x.guard && !cuts sl ln x.args (asksF c x.op x.k).1 && (is x.op (⟨#[97, 115, 107]⟩ : ByteArray) || !badP ln.length x.dst)) := by
  unfold crossF cuts
  simp only
  cases (asksF c x.op x.k).2.2 <;> cases ((x.args.length : Int) == (asksF c x.op x.k).1 + (asksF c x.op x.k).2.1) <;> cases ((x.resets.length : Int) == 0) <;> cases guardF sl x.guard <;> try rfl
  cases ((x.args.take (asksF c x.op x.k).1.toNat).any (badW sl) || (x.args.drop (asksF c x.op x.k).1.toNat).any (badW ln)) <;> cases is x.op (⟨#[97, 115, 107]⟩ : ByteArray) <;> cases badP ln.length x.dst <;> rfl
theorem crossF_B {c : Cod} {sl ln : List Bool} {x : Ins} (hl : ln.length = c.lines.toNat) (hz : 0 ≤ c.lines) : (crossF c sl ln x).1 = crossB x.op x.args.length x.resets.length (guardF sl x.guard) (badP c.lines x.dst) (badP c.conts.length x.k) (badP 2 x.k) (badP c.crosses x.k) (x.args.any (badW ln)) ((x.args.take 1).any (badW sl) || (x.args.drop 1).any (badW ln)) := by
  have hd : badP ln.length x.dst = badP c.lines x.dst := by
    have : (ln.length : Int) = c.lines := by omega
    rw [this]
  rw [crossF_1, hd]
  unfold crossB
  rw [m_zero (Int.natCast_nonneg _), ← cuts1 sl ln x.args, ← cuts0 sl ln x.args]
  unfold asksF
  generalize cuts sl ln x.args = Z
  generalize badP c.lines x.dst = D
  generalize badP c.conts.length x.k = Kc
  generalize badP 2 x.k = K2
  generalize badP c.crosses x.k = Kf
  generalize guardF sl x.guard = G
  generalize x.op = op
  generalize (x.args.length : Int) = n
  generalize ((x.resets.length : Int) == 0) = m
  rcases bc (is op (⟨#[108, 118, 97, 114]⟩ : ByteArray)) with h0 | h0
  · skip
    have g1 : is op (⟨#[108, 99, 111, 110, 116]⟩ : ByteArray) = false := (is_eqv h0 _).trans (by kernel_rfl)
    have g2 : is op (⟨#[108, 110, 101, 103]⟩ : ByteArray) = false := (is_eqv h0 _).trans (by kernel_rfl)
    have g3 : is op (⟨#[108, 42]⟩ : ByteArray) = false := (is_eqv h0 _).trans (by kernel_rfl)
    have g4 : is op (⟨#[108, 43]⟩ : ByteArray) = false := (is_eqv h0 _).trans (by kernel_rfl)
    have g5 : is op (⟨#[108, 45]⟩ : ByteArray) = false := (is_eqv h0 _).trans (by kernel_rfl)
    have g6 : is op (⟨#[108, 47]⟩ : ByteArray) = false := (is_eqv h0 _).trans (by kernel_rfl)
    have g7 : is op (⟨#[108, 115, 101, 108]⟩ : ByteArray) = false := (is_eqv h0 _).trans (by kernel_rfl)
    have g8 : is op (⟨#[97, 115, 107]⟩ : ByteArray) = false := (is_eqv h0 _).trans (by kernel_rfl)
    simp only [h0, g1, g2, g3, g4, g5, g6, g7, g8]
    simp
    generalize Z 0 = Z0
    generalize Z 1 = Z1
    generalize (n == 0) = n0
    generalize (n == 1) = n1
    generalize (n == 2) = n2
    generalize (n == 3) = n3
    cases D <;> cases G <;> cases m <;> cases Z0 <;> cases Z1 <;> simp
  · skip
    rcases bc (is op (⟨#[108, 99, 111, 110, 116]⟩ : ByteArray)) with h1 | h1
    · skip
      have g2 : is op (⟨#[108, 110, 101, 103]⟩ : ByteArray) = false := (is_eqv h1 _).trans (by kernel_rfl)
      have g3 : is op (⟨#[108, 42]⟩ : ByteArray) = false := (is_eqv h1 _).trans (by kernel_rfl)
      have g4 : is op (⟨#[108, 43]⟩ : ByteArray) = false := (is_eqv h1 _).trans (by kernel_rfl)
      have g5 : is op (⟨#[108, 45]⟩ : ByteArray) = false := (is_eqv h1 _).trans (by kernel_rfl)
      have g6 : is op (⟨#[108, 47]⟩ : ByteArray) = false := (is_eqv h1 _).trans (by kernel_rfl)
      have g7 : is op (⟨#[108, 115, 101, 108]⟩ : ByteArray) = false := (is_eqv h1 _).trans (by kernel_rfl)
      have g8 : is op (⟨#[97, 115, 107]⟩ : ByteArray) = false := (is_eqv h1 _).trans (by kernel_rfl)
      simp only [h1, h0, g2, g3, g4, g5, g6, g7, g8]
      simp
      generalize Z 0 = Z0
      generalize Z 1 = Z1
      generalize (n == 0) = n0
      generalize (n == 1) = n1
      generalize (n == 2) = n2
      generalize (n == 3) = n3
      cases D <;> cases G <;> cases m <;> cases Z0 <;> cases Z1 <;> simp
    · skip
      rcases bc (is op (⟨#[108, 110, 101, 103]⟩ : ByteArray)) with h2 | h2
      · skip
        have g3 : is op (⟨#[108, 42]⟩ : ByteArray) = false := (is_eqv h2 _).trans (by kernel_rfl)
        have g4 : is op (⟨#[108, 43]⟩ : ByteArray) = false := (is_eqv h2 _).trans (by kernel_rfl)
        have g5 : is op (⟨#[108, 45]⟩ : ByteArray) = false := (is_eqv h2 _).trans (by kernel_rfl)
        have g6 : is op (⟨#[108, 47]⟩ : ByteArray) = false := (is_eqv h2 _).trans (by kernel_rfl)
        have g7 : is op (⟨#[108, 115, 101, 108]⟩ : ByteArray) = false := (is_eqv h2 _).trans (by kernel_rfl)
        have g8 : is op (⟨#[97, 115, 107]⟩ : ByteArray) = false := (is_eqv h2 _).trans (by kernel_rfl)
        simp only [h2, h0, h1, g3, g4, g5, g6, g7, g8]
        simp
        generalize Z 0 = Z0
        generalize Z 1 = Z1
        generalize (n == 0) = n0
        generalize (n == 1) = n1
        generalize (n == 2) = n2
        generalize (n == 3) = n3
        cases D <;> cases G <;> cases m <;> cases Z0 <;> cases Z1 <;> simp
      · skip
        rcases bc (is op (⟨#[108, 42]⟩ : ByteArray)) with h3 | h3
        · skip
          have g4 : is op (⟨#[108, 43]⟩ : ByteArray) = false := (is_eqv h3 _).trans (by kernel_rfl)
          have g5 : is op (⟨#[108, 45]⟩ : ByteArray) = false := (is_eqv h3 _).trans (by kernel_rfl)
          have g6 : is op (⟨#[108, 47]⟩ : ByteArray) = false := (is_eqv h3 _).trans (by kernel_rfl)
          have g7 : is op (⟨#[108, 115, 101, 108]⟩ : ByteArray) = false := (is_eqv h3 _).trans (by kernel_rfl)
          have g8 : is op (⟨#[97, 115, 107]⟩ : ByteArray) = false := (is_eqv h3 _).trans (by kernel_rfl)
          simp only [h3, h0, h1, h2, g4, g5, g6, g7, g8]
          simp
          generalize Z 0 = Z0
          generalize Z 1 = Z1
          generalize (n == 0) = n0
          generalize (n == 1) = n1
          generalize (n == 2) = n2
          generalize (n == 3) = n3
          cases D <;> cases G <;> cases m <;> cases Z0 <;> cases Z1 <;> simp
        · skip
          rcases bc (is op (⟨#[108, 43]⟩ : ByteArray)) with h4 | h4
          · skip
            have g5 : is op (⟨#[108, 45]⟩ : ByteArray) = false := (is_eqv h4 _).trans (by kernel_rfl)
            have g6 : is op (⟨#[108, 47]⟩ : ByteArray) = false := (is_eqv h4 _).trans (by kernel_rfl)
            have g7 : is op (⟨#[108, 115, 101, 108]⟩ : ByteArray) = false := (is_eqv h4 _).trans (by kernel_rfl)
            have g8 : is op (⟨#[97, 115, 107]⟩ : ByteArray) = false := (is_eqv h4 _).trans (by kernel_rfl)
            simp only [h4, h0, h1, h2, h3, g5, g6, g7, g8]
            simp
            generalize Z 0 = Z0
            generalize Z 1 = Z1
            generalize (n == 0) = n0
            generalize (n == 1) = n1
            generalize (n == 2) = n2
            generalize (n == 3) = n3
            cases D <;> cases G <;> cases m <;> cases Z0 <;> cases Z1 <;> simp
          · skip
            rcases bc (is op (⟨#[108, 45]⟩ : ByteArray)) with h5 | h5
            · skip
              have g6 : is op (⟨#[108, 47]⟩ : ByteArray) = false := (is_eqv h5 _).trans (by kernel_rfl)
              have g7 : is op (⟨#[108, 115, 101, 108]⟩ : ByteArray) = false := (is_eqv h5 _).trans (by kernel_rfl)
              have g8 : is op (⟨#[97, 115, 107]⟩ : ByteArray) = false := (is_eqv h5 _).trans (by kernel_rfl)
              simp only [h5, h0, h1, h2, h3, h4, g6, g7, g8]
              simp
              generalize Z 0 = Z0
              generalize Z 1 = Z1
              generalize (n == 0) = n0
              generalize (n == 1) = n1
              generalize (n == 2) = n2
              generalize (n == 3) = n3
              cases D <;> cases G <;> cases m <;> cases Z0 <;> cases Z1 <;> simp
            · skip
              rcases bc (is op (⟨#[108, 47]⟩ : ByteArray)) with h6 | h6
              · skip
                have g7 : is op (⟨#[108, 115, 101, 108]⟩ : ByteArray) = false := (is_eqv h6 _).trans (by kernel_rfl)
                have g8 : is op (⟨#[97, 115, 107]⟩ : ByteArray) = false := (is_eqv h6 _).trans (by kernel_rfl)
                simp only [h6, h0, h1, h2, h3, h4, h5, g7, g8]
                simp
                generalize Z 0 = Z0
                generalize Z 1 = Z1
                generalize (n == 0) = n0
                generalize (n == 1) = n1
                generalize (n == 2) = n2
                generalize (n == 3) = n3
                cases D <;> cases G <;> cases m <;> cases Z0 <;> cases Z1 <;> simp
              · skip
                rcases bc (is op (⟨#[108, 115, 101, 108]⟩ : ByteArray)) with h7 | h7
                · skip
                  have g8 : is op (⟨#[97, 115, 107]⟩ : ByteArray) = false := (is_eqv h7 _).trans (by kernel_rfl)
                  simp only [h7, h0, h1, h2, h3, h4, h5, h6, g8]
                  simp
                  generalize Z 0 = Z0
                  generalize Z 1 = Z1
                  generalize (n == 0) = n0
                  generalize (n == 1) = n1
                  generalize (n == 2) = n2
                  generalize (n == 3) = n3
                  cases D <;> cases G <;> cases m <;> cases Z0 <;> cases Z1 <;> simp
                · skip
                  rcases bc (is op (⟨#[97, 115, 107]⟩ : ByteArray)) with h8 | h8
                  · skip
                    simp only [h8, h0, h1, h2, h3, h4, h5, h6, h7]
                    simp
                    generalize Z 0 = Z0
                    generalize Z 1 = Z1
                    generalize (n == 0) = n0
                    generalize (n == 1) = n1
                    generalize (n == 2) = n2
                    generalize (n == 3) = n3
                    cases D <;> cases G <;> cases m <;> cases Z0 <;> cases Z1 <;> simp
                  · skip
                    simp only [h0, h1, h2, h3, h4, h5, h6, h7, h8]
                    simp
end Go.Proofs.Ytidpkomcgkcfjaa.Ev
end
section
/- Object code: the program's check and the reference's are one: the whole. Pure. -/
namespace Go.Proofs.Ytidpkomcgkcfjaa.Ev
open Go Go.RowKit Go.Proofs.Ytidpkomcgkcfjaa
set_option linter.unusedVariables false
set_option linter.unusedSimpArgs false
theorem badW_set {sl : List Bool} {d : Int} (hd : badP sl.length d = false) (s : Int) : badW (sl.set d.toNat true) s = (badW sl s && !(d == s)) := by
  have h0 : 0 ≤ d ∧ d < sl.length := by
    simp only [badP, Bool.or_eq_false_iff, decide_eq_false_iff_not] at hd
    omega
  unfold badW
  rw [List.length_set]
  cases hs : badP sl.length s with
  | true =>
    have : (d == s) = false := by
      rw [beq_eq_false_iff_ne]
      rintro rfl
      rw [hd] at hs; cases hs
    rw [this]; rfl
  | false =>
    have h1 : 0 ≤ s ∧ s < sl.length := by
      simp only [badP, Bool.or_eq_false_iff, decide_eq_false_iff_not] at hs
      omega
    simp only [Bool.false_or]
    by_cases e : d = s
    · subst e
      have : (d == d) = true := beq_self_eq_true d
      rw [this, List.getElem?_set_self (by omega)]
      simp
    · have : (d == s) = false := beq_eq_false_iff_ne.2 e
      rw [this, List.getElem?_set_ne (by omega)]
      simp
theorem marks_0 {c : Cod} (h : 0 ≤ c.slots) : Marks c 0 (List.replicate c.slots.toNat false) := by
  refine ⟨by simp, fun s => ?_⟩
  rw [written_eq c 0 s (by omega)]
  unfold badW
  have : (List.replicate c.slots.toNat false)[s.toNat]?.getD false = false := by
    rw [List.getElem?_replicate]; split <;> rfl
  rw [this]; simp
theorem marks_next {c : Cod} {i : Nat} {sl : List Bool} (h0 : 0 ≤ c.slots) (hM : Marks c i sl) (hi : i < c.step.length) (ha : (gx c.step i).args.length ≤ 20) (hs : (stepF c sl (gx c.step i)).1 = true) : Marks c (i + 1) (stepF c sl (gx c.step i)).2 := by
  refine ⟨(stepF_len c sl _).trans hM.1, fun s => ?_⟩
  have hW := hM.2 s
  rw [written_eq c _ _ (by omega)] at hW
  rw [written_eq c _ _ (by omega), List.take_add_one, List.getElem?_eq_getElem hi, ← gx_get hi]
  generalize gx c.step i = x at *
  have hb := badP_len hM.1 h0
  rw [List.any_append]
  simp only [Option.toList_some, List.any_cons, List.any_nil, Bool.or_false]
  unfold stepF at hs ⊢
  cases hc : decide (cls x.op ≠ 5) with
  | false =>
    have hw : wrote x s = false := by unfold wrote; rw [hc]; rfl
    rw [hw, Bool.or_false, hW]
    rfl
  | true =>
    have hw : wrote x s = (x.dst == s) := by unfold wrote; rw [hc]; rfl
    rw [hw]
    rw [hc] at hs
    cases ho : stepOk c sl x with
    | false => rw [ho] at hs; simp at hs
    | true =>
      rw [ho] at hs
      cases hd : badP sl.length x.dst with
      | true => rw [hd] at hs; simp at hs
      | false =>
        simp only [Bool.and_true, if_true, Bool.false_eq_true, if_false]
        rw [badW_set hd, ← hb]
        rw [← hb] at hW
        have hds : x.dst = s → badP sl.length s = false := fun e => e ▸ hd
        by_cases e : x.dst = s
        · rw [hds e, beq_iff_eq.2 e]; simp
        · rw [beq_eq_false_iff_ne.2 e]; simp only [Bool.or_false, Bool.not_false, Bool.and_true]; exact hW
theorem step_all {c : Cod} (h0 : 0 ≤ c.slots) (ln : List Bool) (ha : ∀ x, x ∈ c.step → x.args.length ≤ 20) : ∀ (d i : Nat) (sl : List Bool), i + d = c.step.length → Marks c i sl →
    (rRight1 c d i = .inl () → ∃ sl', bodyRun (Fstep c) (c.step.drop i) (sl, ln) = some (sl', ln) ∧ Marks c c.step.length sl') ∧ (∀ o, rRight1 c d i = .inr o → o = false ∧ bodyRun (Fstep c) (c.step.drop i) (sl, ln) = none)
  | 0, i, sl, h, hM => by
    have hi : i = c.step.length := by omega
    subst hi
    rw [List.drop_eq_nil_of_le (Nat.le_refl _)]
    exact ⟨fun _ => ⟨sl, rfl, hM⟩, fun o h => by cases h⟩
  | d + 1, i, sl, h, hM => by
    have hi : i < c.step.length := by omega
    have hx := gx_get hi
    have ha' := ha _ (gx_mem hi)
    have e : (stepF c sl (gx c.step i)).1 = rStep c i := by
      rw [rStep_B hM, stepF_A hM.1 h0]
      exact stepAB _ _ _ _ _ _ _ _ _ _ _ _ (by omega) (by omega) (by omega)
    have hn := marks_next h0 hM hi ha'
    rw [List.drop_eq_getElem_cons hi, ← hx]
    unfold rRight1
    unfold bodyRun
    show (_ → ∃ sl', (bif (stepF c sl (gx c.step i)).1 then bodyRun (Fstep c) (c.step.drop (i + 1)) ((stepF c sl (gx c.step i)).2, ln) else none) = _ ∧ _) ∧ (∀ o, _ → _ ∧ (bif (stepF c sl (gx c.step i)).1 then bodyRun (Fstep c) (c.step.drop (i + 1)) ((stepF c sl (gx c.step i)).2, ln) else none) = _)
    rw [e] at hn ⊢
    cases hr : rStep c i with
    | true => exact step_all h0 ln ha d (i + 1) _ (by omega) (hn hr)
    | false => exact ⟨fun h => (by cases h), fun o h => (by cases h; exact ⟨rfl, rfl⟩)⟩
theorem deriv_all {c : Cod} {sl : List Bool} (hM : Marks c c.step.length sl) (ln : List Bool) (ha : ∀ x, x ∈ c.deriv → x.args.length ≤ 20) : ∀ (d i : Nat), i + d = c.deriv.length →
    (rRight2 c d i = .inl () → bodyRun (Fderiv c) (c.deriv.drop i) (sl, ln) = some (sl, ln)) ∧ (∀ o, rRight2 c d i = .inr o → o = false ∧ bodyRun (Fderiv c) (c.deriv.drop i) (sl, ln) = none)
  | 0, i, h => by
    rw [List.drop_eq_nil_of_le (by omega)]
    exact ⟨fun _ => rfl, fun o h => by cases h⟩
  | d + 1, i, h => by
    have hi : i < c.deriv.length := by omega
    have hx := gx_get hi
    have e := deriv_eq hM (gx c.deriv i) (ha _ (gx_mem hi))
    rw [List.drop_eq_getElem_cons hi, ← hx]
    unfold rRight2
    unfold bodyRun
    show (_ → (bif derivF c sl (gx c.deriv i) then bodyRun (Fderiv c) (c.deriv.drop (i + 1)) (sl, ln) else none) = _) ∧ (∀ o, _ → _ ∧ (bif derivF c sl (gx c.deriv i) then bodyRun (Fderiv c) (c.deriv.drop (i + 1)) (sl, ln) else none) = _)
    rw [e]
    cases hr : rDeriv c (gx c.deriv i) with
    | true => exact deriv_all hM ln ha d (i + 1) (by omega)
    | false => exact ⟨fun h => (by cases h), fun o h => (by cases h; exact ⟨rfl, rfl⟩)⟩
theorem lineL_eq (c : Cod) (n : Nat) (s : Int) : ∀ (d i : Nat), i + d ≤ c.cross.length → rLineL c n s d i = bif ((c.cross.drop i).take d).any (fun x => !is x.op (⟨#[97, 115, 107]⟩ : ByteArray) && (x.dst == s)) then .inr (rIn s c.lines) else .inl ()
  | 0, i, h => by simp [rLineL]
  | d + 1, i, h => by
    have hi : i < c.cross.length := by omega
    have ih := lineL_eq c n s d (i + 1) (by omega)
    unfold rLineL
    rw [List.drop_eq_getElem_cons hi, List.take_succ_cons, List.any_cons, ih, gx_get hi]
    cases is c.cross[i].op (⟨#[97, 115, 107]⟩ : ByteArray) with
    | true => rfl
    | false =>
      by_cases h2 : c.cross[i].dst = s
      · simp only [cond_false]; rw [if_pos h2, beq_iff_eq.2 h2]; rfl
      · simp only [cond_false]; rw [if_neg h2, beq_eq_false_iff_ne.2 h2]; rfl
theorem line_eq (c : Cod) (n : Nat) (s : Int) (h : n ≤ c.cross.length) : rLine c n s = (!badP c.lines s && (c.cross.take n).any (fun x => !is x.op (⟨#[97, 115, 107]⟩ : ByteArray) && (x.dst == s))) := by
  unfold rLine
  rw [lineL_eq c n s n 0 (by omega), List.drop_zero, rIn_eq]
  cases (c.cross.take n).any (fun x => !is x.op (⟨#[97, 115, 107]⟩ : ByteArray) && (x.dst == s)) <;> simp
theorem marksL_0 {c : Cod} (h : 0 ≤ c.lines) : MarksL c 0 (List.replicate c.lines.toNat false) := by
  refine ⟨by simp, fun s => ?_⟩
  rw [line_eq c 0 s (by omega)]
  unfold badW
  have : (List.replicate c.lines.toNat false)[s.toNat]?.getD false = false := by
    rw [List.getElem?_replicate]; split <;> rfl
  rw [this]; simp
theorem marksL_next {c : Cod} {j : Nat} {sl ln : List Bool} (h0 : 0 ≤ c.lines) (hL : MarksL c j ln) (hi : j < c.cross.length) (hs : (crossF c sl ln (gx c.cross j)).1 = true) : MarksL c (j + 1) (crossF c sl ln (gx c.cross j)).2 := by
  refine ⟨(crossF_len c sl ln _).trans hL.1, fun s => ?_⟩
  have hW := hL.2 s
  rw [line_eq c _ _ (by omega)] at hW
  rw [line_eq c _ _ (by omega), List.take_add_one, List.getElem?_eq_getElem hi, ← gx_get hi]
  generalize gx c.cross j = x at *
  have hb : ∀ y, badP ln.length y = badP c.lines y := fun y => by
    have := hL.1
    have : (ln.length : Int) = c.lines := by omega
    rw [this]
  rw [List.any_append]
  simp only [Option.toList_some, List.any_cons, List.any_nil, Bool.or_false]
  unfold crossF at hs ⊢
  simp only at hs ⊢
  split at hs
  · rename_i hc
    rw [if_pos hc]
    split at hs
    · cases hs
    · rename_i hc2
      rw [if_neg hc2]
      cases hk : is x.op (⟨#[97, 115, 107]⟩ : ByteArray) with
      | true => simp only [if_true, Bool.not_true, Bool.false_and, Bool.or_false]; exact hW
      | false =>
        rw [hk] at hs
        cases hd : badP ln.length x.dst with
        | true => rw [hd] at hs; simp at hs
        | false =>
          simp only [Bool.false_eq_true, if_false, Bool.not_false, Bool.true_and]
          rw [badW_set hd, ← hb]
          rw [← hb] at hW
          have hds : x.dst = s → badP ln.length s = false := fun e => e ▸ hd
          by_cases e : x.dst = s
          · rw [hds e, beq_iff_eq.2 e]; simp
          · rw [beq_eq_false_iff_ne.2 e]; simp only [Bool.or_false, Bool.not_false, Bool.and_true]; exact hW
  · cases hs
theorem cross_all {c : Cod} {sl : List Bool} (h0 : 0 ≤ c.lines) (hM : Marks c c.step.length sl) : ∀ (d j : Nat) (ln : List Bool), j + d = c.cross.length → MarksL c j ln →
    (rRight3 c d j = .inl () → (bodyRun (Fcross c) (c.cross.drop j) (sl, ln)).isSome = true) ∧ (∀ o, rRight3 c d j = .inr o → o = false ∧ bodyRun (Fcross c) (c.cross.drop j) (sl, ln) = none)
  | 0, j, ln, h, hL => by
    rw [List.drop_eq_nil_of_le (by omega)]
    exact ⟨fun _ => rfl, fun o h => by cases h⟩
  | d + 1, j, ln, h, hL => by
    have hi : j < c.cross.length := by omega
    have hx := gx_get hi
    have e : (crossF c sl ln (gx c.cross j)).1 = rCross c j := by rw [rCross_B hM hL, crossF_B hL.1 h0]
    have hn := marksL_next (sl := sl) h0 hL hi
    rw [List.drop_eq_getElem_cons hi, ← hx]
    unfold rRight3
    unfold bodyRun
    show (_ → (Option.isSome (bif (crossF c sl ln (gx c.cross j)).1 then bodyRun (Fcross c) (c.cross.drop (j + 1)) (sl, (crossF c sl ln (gx c.cross j)).2) else none)) = _) ∧ (∀ o, _ → _ ∧ (bif (crossF c sl ln (gx c.cross j)).1 then bodyRun (Fcross c) (c.cross.drop (j + 1)) (sl, (crossF c sl ln (gx c.cross j)).2) else none) = _)
    rw [e] at hn ⊢
    cases hr : rCross c j with
    | true => exact cross_all h0 hM d (j + 1) _ (by omega) (hn hr)
    | false => exact ⟨fun h => (by cases h), fun o h => (by cases h; exact ⟨rfl, rfl⟩)⟩
theorem five_all (c : Cod) : rRight0 c [c.ins, c.outs, c.slots, c.crosses, c.lines].length 0 = bif [c.ins, c.outs, c.slots, c.crosses, c.lines].any (badP 65537) then .inr false else .inl () := by
  have key : ∀ (d i : Nat), i + d = 5 → rRight0 c d i = bif ([c.ins, c.outs, c.slots, c.crosses, c.lines].drop i).any (badP 65537) then .inr false else .inl () := by
    intro d
    induction d with
    | zero => intro i h; have : i = 5 := by omega
              subst this; rfl
    | succ d ih =>
      intro i h
      have hi : i < [c.ins, c.outs, c.slots, c.crosses, c.lines].length := by show i < 5; omega
      unfold rRight0
      rw [List.drop_eq_getElem_cons hi, List.any_cons, ih (i + 1) (by omega), gi_get hi]
      generalize [c.ins, c.outs, c.slots, c.crosses, c.lines][i] = y
      unfold badP
      by_cases h1 : y < 0
      · rw [if_pos h1, decide_eq_true h1]; rfl
      · rw [if_neg h1, decide_eq_false h1]
        by_cases h2 : y > 65536
        · rw [if_pos h2, decide_eq_true (by omega : y ≥ 65537)]; rfl
        · rw [if_neg h2, decide_eq_false (by omega : ¬ y ≥ 65537)]; rfl
  have := key 5 0 rfl
  rwa [List.drop_zero] at this
theorem right_eq {c : Cod} (h : few c = true) : rightF c = rRight c := by
  have ha := few_args h
  unfold rightF rRight
  rw [five_all]
  cases h5 : [c.ins, c.outs, c.slots, c.crosses, c.lines].any (badP 65537) with
  | true => rfl
  | false =>
    have hz : 0 ≤ c.slots ∧ 0 ≤ c.lines := by
      simp [badP] at h5
      omega
    simp only [cond_false, Bool.not_false, Bool.true_and]
    unfold runAll
    have A := step_all hz.1 (List.replicate c.lines.toNat false) (fun x hx => (ha x (.inl hx)).1) c.step.length 0 _ (by omega) (marks_0 hz.1)
    rw [List.drop_zero] at A
    rcases sc (rRight1 c c.step.length 0) with ⟨o, h1⟩ | ⟨o, h1⟩
    · obtain ⟨sl, hb, hM⟩ := A.1 h1
      rw [hb, h1]
      simp only
      have B := deriv_all hM (List.replicate c.lines.toNat false) (fun x hx => (ha x (.inr (.inl hx))).1) c.deriv.length 0 (by omega)
      rw [List.drop_zero] at B
      rcases sc (rRight2 c c.deriv.length 0) with ⟨o, h2⟩ | ⟨o, h2⟩
      · rw [B.1 h2, h2]
        simp only
        have D := cross_all hz.2 hM c.cross.length 0 _ (by omega) (marksL_0 hz.2)
        rw [List.drop_zero] at D
        rcases sc (rRight3 c c.cross.length 0) with ⟨o, h3⟩ | ⟨o, h3⟩
        · rw [D.1 h3, h3]
        · rw [(D.2 o h3).2, h3, (D.2 o h3).1]; rfl
      · rw [(B.2 o h2).2, h2, (B.2 o h2).1]
    · rw [(A.2 o h1).2, h1, (A.2 o h1).1]
end Go.Proofs.Ytidpkomcgkcfjaa.Ev
end
section
/- The executor, part 14: what is handed in from outside, told cell by cell, for whatever type whose layout is told. No condition. -/
namespace Go.Proofs.Ytidpkomcgkcfjaa.Ev
open Go Go.RowKit Go.ChangeShapes Go.WideShapes Go.Deep Go.Proofs.YtidpkomcgkcfjaaW.PrintWords Go.Proofs.YtidpkomcgkcfjaaW.PrintLast
set_option linter.unusedVariables false
set_option linter.unusedSimpArgs false
def szs (L : Lays) (t : Nat) : Nat := match lay L t with
  | some y => y.size
  | none => 0
def tight (L : Lays) : Nat → List (Nat × Nat) → Option Nat
  | n, [] => some n
  | n, (o, t) :: r => bif Nat.beq o n && (lay L t).isSome then tight L (n + szs L t) r else none
def tights (L : Lays) : Bool := L.all fun p => match p.2.kind with
  | .st fl => (match tight L 0 fl with
    | some n => Nat.beq n p.2.size
    | none => false)
  | .sl e => (lay L e).isSome && Nat.blt 0 (szs L e)
  | .sc => false
  | _ => true
inductive Shp (L : Lays) : Nat → List AC → Prop
  | bool {t : Nat} {sz : Nat} {z : List AC} (b : Bool) : lay L t = some ⟨sz, z, .bool⟩ → Shp L t [.v (.bool b)]
  | int {t : Nat} {sz : Nat} {z : List AC} {k : IntKind} (x : Int) : lay L t = some ⟨sz, z, .int k⟩ → (Lit.int k x).wf = true → Shp L t [.v (.int k x)]
  | str {t : Nat} {sz : Nat} {z : List AC} (x : ByteArray) : lay L t = some ⟨sz, z, .str⟩ → x.size ≤ maxLen → Shp L t [.v (.string x)]
  | st {t : Nat} {sz : Nat} {z : List AC} {fl : List (Nat × Nat)} (ps : List (List AC)) : lay L t = some ⟨sz, z, .st fl⟩ → ps.length = fl.length → (∀ (j : Nat) p o u, ps[j]? = some p → fl[j]? = some (o, u) → Shp L u p) → Shp L t ps.flatten
  | sl {t : Nat} {sz : Nat} {z : List AC} {e : Nat} (es : List (List AC)) : lay L t = some ⟨sz, z, .sl e⟩ → es.length ≤ maxLen → (∀ c ∈ es, Shp L e c) → Shp L t [.row (szs L e) es.length es]
theorem Shp.of_bool {L : Lays} {t sz : Nat} {z : List AC} {cs : List AC} (h : Shp L t cs) (hl : lay L t = some ⟨sz, z, .bool⟩) : ∃ b, cs = [.v (.bool b)] := by
  cases h with
  | bool b _ => exact ⟨b, rfl⟩
  | _ => simp_all
theorem Shp.of_int {L : Lays} {t sz : Nat} {z : List AC} {k : IntKind} {cs : List AC} (h : Shp L t cs) (hl : lay L t = some ⟨sz, z, .int k⟩) : ∃ x, cs = [.v (.int k x)] ∧ (Lit.int k x).wf = true := by
  cases h with
  | int x h1 h2 => rw [hl] at h1; cases h1; exact ⟨x, rfl, h2⟩
  | _ => simp_all
theorem Shp.of_str {L : Lays} {t sz : Nat} {z : List AC} {cs : List AC} (h : Shp L t cs) (hl : lay L t = some ⟨sz, z, .str⟩) : ∃ x : ByteArray, cs = [.v (.string x)] ∧ x.size ≤ maxLen := by
  cases h with
  | str x h1 h2 => exact ⟨x, rfl, h2⟩
  | _ => simp_all
theorem Shp.of_st {L : Lays} {t sz : Nat} {z : List AC} {fl : List (Nat × Nat)} {cs : List AC} (h : Shp L t cs) (hl : lay L t = some ⟨sz, z, .st fl⟩) : ∃ ps : List (List AC), cs = ps.flatten ∧ ps.length = fl.length ∧ ∀ (j : Nat) p o u, ps[j]? = some p → fl[j]? = some (o, u) → Shp L u p := by
  cases h with
  | st ps h1 h2 h3 => rw [hl] at h1; cases h1; exact ⟨ps, rfl, h2, h3⟩
  | _ => simp_all
theorem Shp.of_sl {L : Lays} {t sz : Nat} {z : List AC} {e : Nat} {cs : List AC} (h : Shp L t cs) (hl : lay L t = some ⟨sz, z, .sl e⟩) : ∃ es : List (List AC), cs = [.row (szs L e) es.length es] ∧ es.length ≤ maxLen ∧ ∀ c ∈ es, Shp L e c := by
  cases h with
  | sl es h1 h2 h3 => rw [hl] at h1; cases h1; exact ⟨es, rfl, h2, h3⟩
  | _ => simp_all
section
variable {H : Type} {enc : TypeId × Value → H} {P : Program} {L : Lays} {W : World} {base : Nat} {spare : Nat → Bool} {held : Bool}
theorem cells_lay (hL : LaysOk P L) {t : Nat} {y : Lay} (h : lay L t = some y) : P.cellsOf t = y.size := by
  obtain ⟨i, hi, hs, _⟩ := (hL t y h).info
  unfold Program.cellsOf
  rw [hi]
  exact hs
theorem choose_list {α : Type} {p : Nat → α → Prop} : ∀ n : Nat, (∀ i, i < n → ∃ x, p i x) → ∃ l : List α, l.length = n ∧ ∀ (i : Nat) x, l[i]? = some x → p i x
  | 0, _ => ⟨[], rfl, fun i x h => by cases h⟩
  | n + 1, h => by
    obtain ⟨l, h1, h2⟩ := choose_list n (fun i hi => h i (by omega))
    obtain ⟨x, hx⟩ := h n (by omega)
    refine ⟨l ++ [x], by simp [h1], fun i y hy => ?_⟩
    by_cases hi : i < l.length
    · rw [List.getElem?_append_left hi] at hy; exact h2 i y hy
    · rw [List.getElem?_append_right (by omega)] at hy
      have : i = n := by
        have := (List.getElem?_eq_some_iff.1 hy).1
        simp at this
        omega
      subst this
      simp [h1] at hy
      exact hy ▸ hx
theorem tight_at : ∀ {fl : List (Nat × Nat)} {n m : Nat}, tight L n fl = some m → n ≤ m ∧ ∀ (j : Nat) o u, fl[j]? = some (o, u) → ∃ y, lay L u = some y ∧ n ≤ o ∧ o + y.size ≤ m
  | [], n, m, h => by cases h; exact ⟨Nat.le_refl _, fun j o u h => by cases h⟩
  | (o, t) :: r, n, m, h => by
    unfold tight at h
    cases hb : (Nat.beq o n && (lay L t).isSome) with
    | false => rw [hb] at h; cases h
    | true =>
      rw [hb] at h
      rw [Bool.and_eq_true] at hb
      have e := Nat.eq_of_beq_eq_true hb.1
      subst e
      obtain ⟨y, hy⟩ := Option.isSome_iff_exists.1 hb.2
      have hs : szs L t = y.size := by unfold szs; rw [hy]
      obtain ⟨h1, h2⟩ := tight_at (by simpa using h)
      rw [hs] at h1 h2
      refine ⟨by omega, fun j o' u hj => ?_⟩
      cases j with
      | zero => cases hj; exact ⟨y, hy, Nat.le_refl _, h1⟩
      | succ j =>
        obtain ⟨y', h3, h4, h5⟩ := h2 j o' u (by simpa using hj)
        exact ⟨y', h3, by omega, h5⟩
theorem parts_at {ok : Nat → Prop} {us : List Value} : ∀ {fl : List (Nat × Nat)} {n m : Nat} {ps : List (List AC)}, tight L n fl = some m → m ≤ us.length → ps.length = fl.length →
    (∀ (j : Nat) p o u, ps[j]? = some p → fl[j]? = some (o, u) → TL [] ok W p ((us.drop o).take (szs L u))) → TL [] ok W ps.flatten ((us.drop n).take (m - n))
  | [], n, m, ps, h, hm, hl, hT => by
    cases h
    have : ps = [] := List.eq_nil_of_length_eq_zero hl
    subst this
    simp only [Nat.sub_self, List.take_zero, List.flatten_nil]
    exact ⟨rfl, fun j c u hc => by cases hc⟩
  | (o, t) :: r, n, m, [], h, hm, hl, hT => by simp at hl
  | (o, t) :: r, n, m, p :: ps, h, hm, hl, hT => by
    have h0 := h
    unfold tight at h
    cases hb : (Nat.beq o n && (lay L t).isSome) with
    | false => rw [hb] at h; cases h
    | true =>
      rw [hb] at h
      rw [Bool.and_eq_true] at hb
      have e := Nat.eq_of_beq_eq_true hb.1
      subst e
      have h1 := hT 0 p o t rfl rfl
      have h2 := parts_at (ps := ps) (by simpa using h) hm (by simpa using hl) (fun j p o u hp hf => hT (j + 1) p o u (by simpa using hp) (by simpa using hf))
      have h3 := (tight_at (by simpa using h : tight L (o + szs L t) r = some m)).1
      have h4 := h1.append h2
      rw [List.flatten_cons]
      have e2 : (us.drop o).take (m - o) = (us.drop o).take (szs L t) ++ ((us.drop (o + szs L t)).take (m - (o + szs L t))) := by
        rw [show m - o = szs L t + (m - (o + szs L t)) by omega, List.take_add, List.drop_drop]
      rw [e2]
      exact h4
theorem lays_mem {t : Nat} {y : Lay} (h : lay L t = some y) : (t, y) ∈ L := lay_mem h
theorem trod_lt_cell {b : Addr} {n : Nat} {cs : List Value} (h : W.cells? base b n = some cs) {j : Nat} (hj : j < n) : b.block < W.heap.size := by
  obtain ⟨_, hl, hat⟩ := World.cells?_some h
  have := hat j hj
  rw [List.getElem?_eq_getElem (by omega)] at this
  rw [← add_block b j]
  unfold World.cell? at this
  split at this
  · rename_i heq
    exact (Array.getElem?_eq_some_iff.1 heq).1
  · cases this
theorem TL.of {ok : Nat → Prop} {c : AC} {u : Value} (h : TC [] ok W c u) : TL [] ok W [c] [u] := ⟨rfl, fun j a b ha hb => by
  cases j with
  | zero => cases ha; cases hb; exact h
  | succ j => cases ha⟩
theorem Shp.plain {t : Nat} {cs : List AC} (h : Shp L t cs) : ∀ c ∈ cs, c.noptr = true := by
  induction h with
  | bool b _ => intro c hc; rw [List.mem_singleton.1 hc]; rfl
  | int x _ _ => intro c hc; rw [List.mem_singleton.1 hc]; rfl
  | str x _ _ => intro c hc; rw [List.mem_singleton.1 hc]; rfl
  | @st t sz z fl ps hl hn _ ih =>
    intro c hc
    obtain ⟨p, hp, hcp⟩ := List.mem_flatten.1 hc
    obtain ⟨j, hj, he⟩ := List.mem_iff_getElem.1 hp
    exact ih j p _ _ (he ▸ List.getElem?_eq_getElem hj) (List.getElem?_eq_getElem (show j < fl.length by omega)) c hcp
  | sl es _ _ _ _ => intro c hc; rw [List.mem_singleton.1 hc]; rfl
theorem row_told {k len cap : Nat} {a : Addr} {qs : List (List AC × List Value)} (hl : qs.length = len) (hc : len ≤ cap) (hm : cap ≤ maxLen) (hk : 0 < k) (h : ∀ (i : Nat) q, qs[i]? = some q → W.cells? base (a.add (i * k)) k = some q.2 ∧ TL [] (fun b => b < W.heap.size) W q.1 q.2 ∧ ∀ c ∈ q.1, c.noptr = true) :
    TC [] (fun b => b < W.heap.size) W (.row k len (qs.map Prod.fst)) (.slice (some a) len cap) := by
  show Foot (fun W => Rd W _ _) W _
  refine foot_mk fun W' hW' => ?_
  have at_ : ∀ (i : Nat) us, (qs.map Prod.snd)[i]? = some us → us.length = k ∧ ∀ (j : Nat) u, us[j]? = some u → W'.cell? (a.add (i * k + j)) = some u := fun i us hus => by
    rw [List.getElem?_map, Option.map_eq_some_iff] at hus
    obtain ⟨q, hq, rfl⟩ := hus
    obtain ⟨h1, h2, _⟩ := h i q hq
    obtain ⟨_, h3, h4⟩ := World.cells?_some h1
    refine ⟨h3, fun j u hu => ?_⟩
    have hj : j < k := by rw [← h3]; exact (List.getElem?_eq_some_iff.1 hu).1
    have h5 := (h4 j hj).trans hu
    rw [add_add] at h5
    rw [← h5]
    refine cell_block (hW' _ ?_ ?_)
    all_goals
      rw [add_block]
      have := trod_lt_cell h1 hk
      rw [add_block] at this
      exact this
  refine Rd.row k len _ a cap (qs.map Prod.snd) (by simp [hl]) hc (Nat.le_trans (Nat.le_trans hc hm) (by decide)) (by simp [hl]) at_ (fun i cs hcs => ?_) (fun i cs us j c u hcs hus hc hu => ?_)
  · have hq : ∃ q, qs[i]? = some q ∧ q.1 = cs := by
      rw [List.getElem?_map, Option.map_eq_some_iff] at hcs
      exact hcs
    obtain ⟨q, hq, rfl⟩ := hq
    have h1 := (at_ i q.2 (by rw [List.getElem?_map, hq]; rfl)).1
    have h2 := (h i q hq).2.1.1
    omega
  · rw [List.getElem?_map, Option.map_eq_some_iff] at hcs hus
    obtain ⟨q, hq, rfl⟩ := hcs
    obtain ⟨q', hq', rfl⟩ := hus
    rw [hq] at hq'
    cases hq'
    have h9 := (h i q hq).2.1.2 j c u hc hu
    exact h9.rd ((h i q hq).2.2 c (List.mem_of_getElem? hc)) (fun b hb hlt => hW' b hb hlt)
theorem trod_told (hL : LaysOk P L) (ht : tights L = true) : ∀ (fuel : Nat) {t : Nat} {y : Lay} {us : List Value} {x : DataW H × List MemPlace}, lay L t = some y → DataW.trod enc P W base spare held fuel t us = some x →
    ∃ cs, Shp L t cs ∧ TL [] (fun k => k < W.heap.size) W cs us
  | 0, t, y, us, x, hy, h => by simp [DataW.trod] at h
  | n + 1, t, y, us, x, hy, h => by
    have lit : ∀ {v : Value}, v.oneCell' = true → TL [] (fun k => k < W.heap.size) W [.v v] [v] := fun {v} hv => TL.of (TC.of_v hv)
    obtain ⟨d, hd, hk⟩ := (hL t y hy).under
    have htt := List.all_eq_true.1 ht (t, y) (lays_mem hy)
    obtain ⟨sz, z, kd⟩ := y
    cases kd with
    | sc => cases htt
    | bool =>
      cases hk
      obtain ⟨b, rfl, _⟩ := DataW.trod_bool hd h
      exact ⟨_, .bool b hy, lit rfl⟩
    | int k =>
      cases hk
      obtain ⟨b, rfl, _, hw⟩ := DataW.trod_int hd h
      exact ⟨_, .int b hy hw, lit rfl⟩
    | str =>
      cases hk
      obtain ⟨b, rfl, _, hw⟩ := DataW.trod_string hd h
      exact ⟨_, .str b hy hw, lit rfl⟩
    | st fl =>
      obtain ⟨fs, rfl, hfl⟩ := hk
      obtain ⟨xs, m, hm, _, hlen, hxl, hf⟩ := DataW.trod_struct hd h
      cases hm
      have htt : (match tight L 0 fl with
        | some n => Nat.beq n sz
        | none => false) = true := htt
      cases hti : tight L 0 fl with
      | none => rw [hti] at htt; cases htt
      | some sz' =>
        rw [hti] at htt
        have e : sz' = sz := Nat.eq_of_beq_eq_true htt
        subst e
        have hcs : us.length = sz' := hlen.trans (cells_lay hL hy)
        have hfs : fl.length = fs.size := by rw [← hfl]; simp
        have each : ∀ j, j < fl.length → ∃ p : List AC, ∀ o u, fl[j]? = some (o, u) → Shp L u p ∧ TL [] (fun k => k < W.heap.size) W p ((us.drop o).take (szs L u)) := fun j hj => by
          have hfj : j < fs.size := by omega
          have e1 : fl[j]? = some (fs[j].offset, fs[j].type) := by
            rw [← hfl, List.getElem?_map]
            have : fs.toList[j]? = some fs[j] := by simp [hfj]
            rw [this]; rfl
          obtain ⟨y', hy', _, _⟩ := (tight_at hti).2 j _ _ e1
          have h1 := hf j fs[j] (Array.getElem?_eq_getElem hfj)
          have h2 : xs[j]? = some xs[j] := List.getElem?_eq_getElem (by omega)
          rw [h2] at h1
          obtain ⟨p, hp1, hp2⟩ := trod_told hL ht n hy' h1
          refine ⟨p, fun o u hou => ?_⟩
          rw [e1] at hou
          cases hou
          refine ⟨hp1, ?_⟩
          rw [cells_lay hL hy'] at hp2
          unfold szs
          rw [hy']
          exact hp2
        obtain ⟨ps, hps, hp⟩ := choose_list fl.length each
        refine ⟨ps.flatten, .st ps hy hps (fun j p o u hpj hfj => (hp j p hpj o u hfj).1), ?_⟩
        have := parts_at (W := W) (ok := fun k => k < W.heap.size) (us := us) hti (by omega) hps (fun j p o u hpj hfj => (hp j p hpj o u hfj).2)
        rw [List.drop_zero, Nat.sub_zero, List.take_of_length_le (by omega)] at this
        exact this
    | sl e =>
      cases hk
      have htt : ((lay L e).isSome && Nat.blt 0 (szs L e)) = true := htt
      rw [Bool.and_eq_true] at htt
      obtain ⟨ye, hye⟩ := Option.isSome_iff_exists.1 htt.1
      have hpos := of_decide_eq_true ((show decide (0 < szs L e) = Nat.blt 0 (szs L e) by rw [Bool.eq_iff_iff, decide_eq_true_iff, Nat.blt_eq]).trans htt.2)
      have hsz : szs L e = ye.size := by unfold szs; rw [hye]
      have hce : P.cellsOf e = szs L e := (cells_lay hL hye).trans hsz.symm
      rcases DataW.trod_slice hd h with ⟨rfl, _⟩ | ⟨a, len, cap, el, rest, m, hm, rfl, _, hb, hlc, hcm, hel, hi, _, _⟩
      · exact ⟨_, .sl [] hy (Nat.zero_le _) (fun c hc => by cases hc), TL.of (foot_mk fun W' _ => Rd.nil _ none 0 : Foot (fun W => Rd W (.row _ 0 []) (.slice none 0 0)) W _)⟩
      · cases hm
        rw [hce] at hi
        have each : ∀ i, i < len → ∃ q : List AC × List Value, (W.cells? base (a.add (i * szs L e)) (szs L e) = some q.2 ∧ TL [] (fun k => k < W.heap.size) W q.1 q.2 ∧ ∀ c ∈ q.1, c.noptr = true) ∧ Shp L e q.1 := fun i hlt => by
          have h1 := hi i hlt
          rw [List.getElem?_eq_getElem (by omega)] at h1
          obtain ⟨us, h2, h3⟩ := Option.bind_eq_some_iff.1 h1
          obtain ⟨cs, h4, h5⟩ := trod_told hL ht n hye h3
          exact ⟨(cs, us), ⟨h2, h5, h4.plain⟩, h4⟩
        obtain ⟨qs, hql, hq⟩ := choose_list len each
        have hr := row_told (W := W) (base := base) (a := a) hql hlc hcm hpos (fun i q hiq => (hq i q hiq).1)
        refine ⟨[.row (szs L e) (qs.map Prod.fst).length (qs.map Prod.fst)], .sl _ hy (by rw [List.length_map]; omega) (fun c hc => ?_), TL.of (by rw [List.length_map, hql]; exact hr)⟩
        obtain ⟨q, hqm, rfl⟩ := List.mem_map.1 hc
        obtain ⟨i, hi2, he⟩ := List.mem_iff_getElem.1 hqm
        exact (hq i q (he ▸ List.getElem?_eq_getElem hi2)).2
end
end Go.Proofs.Ytidpkomcgkcfjaa.Ev
end
section
/- Object code: what is handed in, read. Printed by a program of this session. No condition. -/
namespace Go.Proofs.Ytidpkomcgkcfjaa.Ev
open Go Go.RowKit Go.ChangeShapes Go.WideShapes Go.Proofs.YtidpkomcgkcfjaaW.PrintWords Go.Proofs.YtidpkomcgkcfjaaW.PrintLast Go.Proofs.Ytidpkomcgkcfjaa
set_option linter.unusedVariables false
set_option linter.unusedSimpArgs false
def LR : Lays := [(4, ⟨1, [.v (.bool false)], .bool⟩),
  (3, ⟨1, [.v (.int .i64 0)], .int .i64⟩),
  (9, ⟨1, [.v (.string ⟨#[]⟩)], .str⟩),
  (119, ⟨1, [.v (.int .u32 0)], .int .u32⟩),
  (44, ⟨1, [.row 1 0 []], .sl 119⟩),
  (29, ⟨1, [.row 1 0 []], .sl 3⟩),
  (46, ⟨2, [.v (.bool false), .row 1 0 []], .st [(0, 4), (1, 44)]⟩),
  (48, ⟨3, [.v (.bool false), .row 1 0 [], .row 1 0 []], .st [(0, 46), (2, 44)]⟩),
  (50, ⟨5, [.v (.int .i64 0), .v (.bool false), .row 1 0 [], .row 1 0 [], .v (.string ⟨#[]⟩)], .st [(0, 3), (1, 48), (4, 9)]⟩),
  (22, ⟨1, [.row 5 0 []], .sl 50⟩),
  (52, ⟨11, [.v (.string ⟨#[]⟩), .v (.int .i64 0), .row 1 0 [], .v (.int .i64 0), .v (.int .i64 0), .v (.bool false), .row 1 0 [], .row 1 0 [], .v (.string ⟨#[]⟩), .v (.int .i64 0), .row 1 0 []], .st [(0, 9), (1, 3), (2, 29), (3, 3), (4, 50), (9, 3), (10, 29)]⟩),
  (23, ⟨1, [.row 11 0 []], .sl 52⟩),
  (25, ⟨10, [.v (.int .i64 0), .v (.int .i64 0), .v (.int .i64 0), .v (.int .i64 0), .v (.int .i64 0), .row 5 0 [], .row 5 0 [], .row 11 0 [], .row 11 0 [], .row 11 0 []], .st [(0, 3), (1, 3), (2, 3), (3, 3), (4, 3), (5, 22), (6, 22), (7, 23), (8, 23), (9, 23)]⟩)]
theorem LR_ok : LaysOk Try.prog LR := lays_ok (by kernel_rfl) (by kernel_rfl)
theorem LR_tight : tights LR = true := by kernel_rfl
theorem map_of {α : Type} {p : List AC → Prop} {f : α → List AC} (h : ∀ c, p c → ∃ x, c = f x) : ∀ es : List (List AC), (∀ c ∈ es, p c) → ∃ l : List α, es = l.map f
  | [], _ => ⟨[], rfl⟩
  | c :: es, hp => by
    obtain ⟨x, rfl⟩ := h c (hp c (List.mem_cons_self ..))
    obtain ⟨l, rfl⟩ := map_of h es (fun c hc => hp c (List.mem_cons_of_mem _ hc))
    exact ⟨x :: l, rfl⟩
theorem shp_u32 {cs : List AC} (h : Shp LR 119 cs) : ∃ x, cs = [.v (.int .u32 x)] := by
  obtain ⟨x, h, _⟩ := h.of_int rfl
  exact ⟨x, h⟩
theorem shp_int {cs : List AC} (h : Shp LR 3 cs) : ∃ x, cs = [.v (.int .i64 x)] := by
  obtain ⟨x, h, _⟩ := h.of_int rfl
  exact ⟨x, h⟩
theorem shp_bool {cs : List AC} (h : Shp LR 4 cs) : ∃ x, cs = [.v (.bool x)] := h.of_bool rfl
theorem shp_str {cs : List AC} (h : Shp LR 9 cs) : ∃ x, cs = [.v (.string x)] := by
  obtain ⟨x, h, _⟩ := h.of_str rfl
  exact ⟨x, h⟩
theorem shp_limbs {cs : List AC} (h : Shp LR 44 cs) : ∃ l, cs = [limbs l] := by
  obtain ⟨es, rfl, _, he⟩ := h.of_sl rfl
  obtain ⟨l, rfl⟩ := map_of (fun c hc => shp_u32 hc) es he
  exact ⟨l, by unfold limbs; rw [List.length_map]; rfl⟩
theorem shp_ints {cs : List AC} (h : Shp LR 29 cs) : ∃ l, cs = [ints l] := by
  obtain ⟨es, rfl, _, he⟩ := h.of_sl rfl
  obtain ⟨l, rfl⟩ := map_of (fun c hc => shp_int hc) es he
  exact ⟨l, by unfold ints; rw [List.length_map]; rfl⟩
theorem shp_Int {cs : List AC} (h : Shp LR 46 cs) : ∃ b l, cs = [.v (.bool b), limbs l] := by
  obtain ⟨ps, rfl, hl, h⟩ := h.of_st rfl
  match ps, hl with
  | [p0, p1], _ =>
    obtain ⟨b, rfl⟩ := shp_bool (h 0 _ _ _ rfl rfl)
    obtain ⟨l, rfl⟩ := shp_limbs (h 1 _ _ _ rfl rfl)
    exact ⟨b, l, rfl⟩
theorem shp_Rat {cs : List AC} (h : Shp LR 48 cs) : ∃ b l m, cs = [.v (.bool b), limbs l, limbs m] := by
  obtain ⟨ps, rfl, hl, h⟩ := h.of_st rfl
  match ps, hl with
  | [p0, p1], _ =>
    obtain ⟨b, l, rfl⟩ := shp_Int (h 0 _ _ _ rfl rfl)
    obtain ⟨m, rfl⟩ := shp_limbs (h 1 _ _ _ rfl rfl)
    exact ⟨b, l, m, rfl⟩
theorem shp_Val {cs : List AC} (h : Shp LR 50 cs) : ∃ v : Val, cs = v.c := by
  obtain ⟨ps, rfl, hl, h⟩ := h.of_st rfl
  match ps, hl with
  | [p0, p1, p2], _ =>
    obtain ⟨k, rfl⟩ := shp_int (h 0 _ _ _ rfl rfl)
    obtain ⟨b, l, m, rfl⟩ := shp_Rat (h 1 _ _ _ rfl rfl)
    obtain ⟨s, rfl⟩ := shp_str (h 2 _ _ _ rfl rfl)
    exact ⟨⟨k, b, l, m, s⟩, rfl⟩
theorem shp_Ins {cs : List AC} (h : Shp LR 52 cs) : ∃ x : Ins, cs = x.c := by
  obtain ⟨ps, rfl, hl, h⟩ := h.of_st rfl
  match ps, hl with
  | [p0, p1, p2, p3, p4, p5, p6], _ =>
    obtain ⟨op, rfl⟩ := shp_str (h 0 _ _ _ rfl rfl)
    obtain ⟨d, rfl⟩ := shp_int (h 1 _ _ _ rfl rfl)
    obtain ⟨a, rfl⟩ := shp_ints (h 2 _ _ _ rfl rfl)
    obtain ⟨k, rfl⟩ := shp_int (h 3 _ _ _ rfl rfl)
    obtain ⟨v, rfl⟩ := shp_Val (h 4 _ _ _ rfl rfl)
    obtain ⟨g, rfl⟩ := shp_int (h 5 _ _ _ rfl rfl)
    obtain ⟨r, rfl⟩ := shp_ints (h 6 _ _ _ rfl rfl)
    exact ⟨⟨op, d, a, k, v, g, r⟩, rfl⟩
theorem shp_vals {cs : List AC} (h : Shp LR 22 cs) : ∃ l, cs = [vals' l] := by
  obtain ⟨es, rfl, _, he⟩ := h.of_sl rfl
  obtain ⟨l, rfl⟩ := map_of (fun c hc => shp_Val hc) es he
  exact ⟨l, by unfold vals'; rw [List.length_map]; rfl⟩
theorem shp_inss {cs : List AC} (h : Shp LR 23 cs) : ∃ l, cs = [inss l] := by
  obtain ⟨es, rfl, _, he⟩ := h.of_sl rfl
  obtain ⟨l, rfl⟩ := map_of (fun c hc => shp_Ins hc) es he
  exact ⟨l, by unfold inss; rw [List.length_map]; rfl⟩
theorem shp_Cod {cs : List AC} (h : Shp LR 25 cs) : ∃ c : Cod, cs = c.c := by
  obtain ⟨ps, rfl, hl, h⟩ := h.of_st rfl
  match ps, hl with
  | [p0, p1, p2, p3, p4, p5, p6, p7, p8, p9], _ =>
    obtain ⟨a, rfl⟩ := shp_int (h 0 _ _ _ rfl rfl)
    obtain ⟨b, rfl⟩ := shp_int (h 1 _ _ _ rfl rfl)
    obtain ⟨e, rfl⟩ := shp_int (h 2 _ _ _ rfl rfl)
    obtain ⟨f, rfl⟩ := shp_int (h 3 _ _ _ rfl rfl)
    obtain ⟨g, rfl⟩ := shp_int (h 4 _ _ _ rfl rfl)
    obtain ⟨i, rfl⟩ := shp_vals (h 5 _ _ _ rfl rfl)
    obtain ⟨j, rfl⟩ := shp_vals (h 6 _ _ _ rfl rfl)
    obtain ⟨k, rfl⟩ := shp_inss (h 7 _ _ _ rfl rfl)
    obtain ⟨l, rfl⟩ := shp_inss (h 8 _ _ _ rfl rfl)
    obtain ⟨m, rfl⟩ := shp_inss (h 9 _ _ _ rfl rfl)
    exact ⟨⟨a, b, e, f, g, i, j, k, l, m⟩, rfl⟩
section
variable {H : Type} {enc : TypeId × Value → H} {W : World} {base : Nat} {spare : Nat → Bool} {held : Bool} {r : Reach} {b0 : Nat}
set_option maxRecDepth 100000 in
theorem code_told {v : Value} {d : DataW H} {p : List MemPlace} (hv : Value.okWide Try.prog W r b0 25 v) (h : DataW.Trod enc Try.prog W base spare held 25 v d p) :
    ∃ c : Cod, TG [] (fun k => k < W.heap.size) W (.agg c.c) v := by
  obtain ⟨cs, rfl, hcs⟩ := okWide_struct Try.underlying25 hv
  obtain ⟨fuel, hf⟩ := h
  obtain ⟨ac, hs, hT⟩ := trod_told LR_ok LR_tight fuel (t := 25) rfl hf
  obtain ⟨c, rfl⟩ := shp_Cod hs
  exact ⟨c, cs, rfl, hT⟩
end
theorem args1 {ok : Nat → Prop} {w : World} {x : AG} {u : Value} (h : TG [] ok w x u) : TA ok w [x] #[u] := ⟨rfl, fun j a b ha hb => by
  match j with
  | 0 => cases ha; simp at hb; subst hb; exact h
  | j + 1 => simp at ha⟩
theorem ConF.holds {f : FuncId} {xs : List AG} (h : ConF Try.prog f xs (.g (truth true))) {ok : Nat → Prop} {us : Array Value} {w : World} (hA : TA ok w xs us) : Calls Try.prog f us w fun e w' => e = .returned (.bool true) ∧ Below w.heap.size w w' := by
  refine (h.2 ok us w hA).mono ?_
  rintro e w' ⟨u, rfl, hT, hb⟩
  have := TC.v_eq (show TC [] _ w' (.v (.bool true)) u from hT)
  exact ⟨by rw [this], hb⟩
theorem byF {f : FuncId} {fn : Func} {c : Code} {xs : List AG} (r : AV) (hf : Try.prog.funcs[f]? = some fn) (hb : fn.body = some c) (pf : List (Prf Try.prog)) (h : evF LL DD fn c xs (Prf.ans pf) = some (r, [], Prf.dem pf)) (hname : (fn.name == "runtime.NumGoroutine") = false := by kernel_rfl) : ConF Try.prog f xs r :=
  conF_of LL_ok DD_ok pf hf hname hb h
theorem ConF.to {f : FuncId} {xs : List AG} {r r' : AV} (h : ConF Try.prog f xs r) (e : r = r') : ConF Try.prog f xs r' := e ▸ h
end Go.Proofs.Ytidpkomcgkcfjaa.Ev
end
section
/- Object code: the law about what may run. Printed by a program of this session. No condition. -/
namespace Go.Proofs.Ytidpkomcgkcfjaa.Ev
open Go Go.RowKit Go.Proofs.YtidpkomcgkcfjaaW.PrintWords Go.Proofs.YtidpkomcgkcfjaaW.PrintLast Go.Proofs.Ytidpkomcgkcfjaa
set_option linter.unusedVariables false
set_option linter.unusedSimpArgs false
def safeRights (c : Cod) : Bool := bif few c then (bif (rightF c == rRight c) then (true) else (false)) else (true)
theorem safeRights_con (c : Cod)  : ConF Try.prog 3 [.agg (c.c)] (.g (truth (safeRights c))) := by
  unfold safeRights
  rcases bc (few c) with f0 | f0
  · rcases bc (rightF c == rRight c) with f1 | f1
    · rw [bif_t f0, bif_t f1]
      exact byF (.g (truth true)) Try.func3 rfl [gives (few_con c), ends (nt f0), gives (right_con c (few_small f0)), gives (rRight_con c (few_small f0)), ends f1, gives awake_con] (by kernel_rfl)
    · rw [bif_t f0, bif_f f1]
      exact byF (.g (truth false)) Try.func3 rfl [gives (few_con c), ends (nt f0), gives (right_con c (few_small f0)), gives (rRight_con c (few_small f0)), ends f1] (by kernel_rfl)
  · rw [bif_f f0]
    exact byF (.g (truth true)) Try.func3 rfl [gives (few_con c), ends (nf f0)] (by kernel_rfl)
theorem safeRights_holds (c : Cod) : ConF Try.prog 3 [.agg c.c] (.g (truth true)) := by
  refine (safeRights_con c).to ?_
  unfold safeRights
  rcases bc (few c) with h | h
  · rw [bif_t h, right_eq h]
    cases rRight c <;> rfl
  · rw [bif_f h]
end Go.Proofs.Ytidpkomcgkcfjaa.Ev
end
