/- Plain words on lists of bytes: what a lexer's tokens are, with no program in sight. -/
import Derived.Test.YtnnjanhibomijaaWWords
namespace Go.Proofs.Ytnnjanhibomijaa.LexSpec

def isBlank (c : Int) : Bool := c == 32 || c == 9 || c == 10 || c == 13
def isSmall (c : Int) : Bool := (decide (97 ≤ c) && decide (c ≤ 122)) || c == 95
def isLarge (c : Int) : Bool := decide (65 ≤ c) && decide (c ≤ 90)
def isDigit (c : Int) : Bool := decide (48 ≤ c) && decide (c ≤ 57)
def isIn (c : Int) : Bool := isSmall c || isLarge c || isDigit c
def isSign1 (c : Int) : Bool := [40, 41, 123, 125, 44, 59, 58, 124, 43, 42, 47, 45, 60, 62, 61].contains c
def isSign2 (c d : Int) : Bool := (c == 45 && d == 62) || ((c == 60 || c == 62 || c == 61 || c == 33) && d == 61)

/-- what stands behind blanks and remarks; m: in a remark? -/
def skip : Bool → List Int → List Int
  | _, [] => []
  | false, c :: r => if isBlank c then skip false r else if c == 45 && r.head? == some 45 then skip true r else c :: r
  | true, c :: r => if c == 10 then skip false r else skip true r

/-- a text's words, as bytes -/
def words : List (List Int) :=
  [[116, 121, 112, 101], [110, 111, 100, 101], [104, 121, 98, 114, 105, 100], [114, 101, 116, 117, 114, 110, 115], [118, 97, 114], [108, 101, 116], [116, 101, 108], [105, 102], [116, 104, 101, 110], [101, 108, 115, 101], [112, 114, 101], [102, 98, 121], [108, 97, 115, 116], [100, 101, 114], [105, 110, 105, 116], [114, 101, 115, 101, 116], [119, 104, 101, 110], [101, 118, 101, 114, 121], [97, 117, 116, 111, 109, 97, 116, 111, 110], [115, 116, 97, 116, 101], [117, 110, 116, 105, 108], [99, 111, 110, 116, 105, 110, 117, 101], [112, 114, 101, 115, 101, 110, 116], [101, 110, 100], [116, 114, 117, 101], [102, 97, 108, 115, 101], [97, 110, 100], [111, 114], [110, 111, 116], [117, 112], [98, 111, 111, 108], [105, 110, 116], [114, 97, 116], [102, 108, 111, 111, 114], [100, 105, 118], [109, 111, 100]]

/-- a number's text and what is behind it; the first digit stands ahead -/
def num (r : List Int) : List Int × List Int :=
  match r.dropWhile isDigit with
  | a :: d :: r2 => if a == 46 && isDigit d then (r.takeWhile isDigit ++ a :: d :: r2.takeWhile isDigit, r2.dropWhile isDigit) else (r.takeWhile isDigit, r.dropWhile isDigit)
  | _ => (r.takeWhile isDigit, r.dropWhile isDigit)

/-- the first token of bytes: its kind, its bytes, what is behind it -/
def one : List Int → Option (Int × List Int × List Int)
  | [] => none
  | c :: r =>
    if isSmall c || isLarge c then
      some (if words.contains (c :: r.takeWhile isIn) then 4 else if isSmall c then 1 else 2, c :: r.takeWhile isIn, r.dropWhile isIn)
    else if isDigit c then some (3, c :: (num r).1, (num r).2)
    else match r with
      | d :: r2 => if isSign2 c d then some (5, [c, d], r2) else if isSign1 c then some (5, [c], r) else none
      | [] => if isSign1 c then some (5, [c], r) else none

/-- the tokens of bytes, n bytes in all: where it goes wrong, or the tokens with their bytes and places -/
def lexF (n : Nat) : Nat → List Int → Nat ⊕ List (Int × List Int × Nat)
  | 0, _ => .inr []
  | f + 1, l => match skip false l with
    | [] => .inr [(0, [], n)]
    | c :: r => match one (c :: r) with
      | none => .inl (n - (r.length + 1))
      | some (k, t, rest) => match lexF n f rest with
        | .inl e => .inl e
        | .inr ts => .inr ((k, t, n - (r.length + 1)) :: ts)

def lex (l : List Int) : Nat ⊕ List (Int × List Int × Nat) := lexF l.length (l.length + 1) l

end Go.Proofs.Ytnnjanhibomijaa.LexSpec
