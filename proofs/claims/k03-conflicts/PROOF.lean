import PyProof.Rows.All
import Wide.All
import OpenK.AllK
import Wide.FinOn
import HandS.ForMost
import HandS.ForExc
import HandS.IsInst
import HandS.ExcOwn
import HandS.CallSlots
import HandS.Style
import HandS.Replace
import HandS.Conv
import HandS.Keys
import HandS.WordsExc
import HandS.More
import HandS.Wide
import HandS.EndBits
import PyProof.MinMaxWalk
import KE.SortData
import HandS.FltList
import PySem.Challenge.RW_fourarms_k03_whole_conflicts
set_option Elab.async false
set_option linter.all false
set_option maxRecDepth 100000
set_option linter.all false
namespace DL
/-! ## plain data and what a program's parts mean over it -/
/-- plain data -/
inductive D where
  | non | bl (b : Bool) | int (i : Int) | str (x : List Nat)
  | lst (xs : List D) | tup (xs : List D)
  | sg (r : List Nat) | nn | scr | fn (i : Nat) | exc (c : Nat)
/-- a slot: unknown, a datum, a list of the def's own that nobody else holds -/
inductive Sl where
  | un | va (d : D) | ow (ds : List D)
abbrev Env := List Sl
inductive R where
  | ok (d : D) | exc (c : Nat)
inductive O (S L : Type) where
  | nx (s : S) | bk (l : L) | ct (l : L) | rt (d : D) | exc (c : Nat)
abbrev H1 := (R → Bool) → Bool
abbrev HS (S L : Type) := (O S L → Bool) → Bool
abbrev Fn := List D → H1

def lk : Env → Nat → Sl
  | [], _ => .un
  | s :: _, 0 => s
  | _ :: r, n + 1 => lk r n
def stE : Env → Nat → Sl → Env
  | [], _, _ => []
  | _ :: r, 0, x => x :: r
  | s :: r, n + 1, x => s :: stE r n x

/-! ### expressions -/
def hC (d : D) : H1 := fun k => k (.ok d)
def hB (h : H1) (f : D → H1) : H1 := fun k => h fun r => match r with
  | .ok d => f d k
  | .exc c => k (.exc c)
def hO (o : Option D) : H1 := fun k => match o with
  | some d => k (.ok d)
  | none => false
def hIf (c a b : H1) : H1 := fun k => c fun r => match r with
  | .ok (.bl true) => a k
  | .ok (.bl false) => b k
  | .ok _ => false
  | .exc c => k (.exc c)
def hAnd (a b : H1) : H1 := fun k => a fun r => match r with
  | .ok (.bl true) => b k
  | .ok (.bl false) => k (.ok (.bl false))
  | .ok _ => false
  | .exc c => k (.exc c)
def hOr (a b : H1) : H1 := fun k => a fun r => match r with
  | .ok (.bl false) => b k
  | .ok (.bl true) => k (.ok (.bl true))
  | .ok _ => false
  | .exc c => k (.exc c)
def hNot (a : H1) : H1 := fun k => a fun r => match r with
  | .ok (.bl b) => k (.ok (.bl (!b)))
  | .ok _ => false
  | .exc c => k (.exc c)
/-- a list is not too long -/
def lenLe {α : Type} : List α → Nat → Bool
  | [], _ => true
  | _ :: _, 0 => false
  | _ :: r, n + 1 => lenLe r n
def big : Nat := 60000
/-- a comprehension over items -/
def lcK (tt el : D → H1) : List D → List D → H1
  | [], acc => fun k => k (.ok (.lst acc.reverse))
  | x :: r, acc => fun k => tt x fun t => match t with
    | .ok (.bl true) => el x fun y => match y with
      | .ok d => lcK tt el r (d :: acc) k
      | .exc _ => false
    | .ok (.bl false) => lcK tt el r acc k
    | _ => false
def hLc (it : H1) (tt el : D → H1) : H1 := fun k => it fun r => match r with
  | .ok (.lst xs) => lenLe xs big && lcK tt el xs [] k
  | .ok _ => false
  | .exc c => k (.exc c)
/-- a tuple's parts -/
def un2 (d : D) (f : D → D → H1) : H1 := fun k => match d with
  | .tup [x, y] => f x y k
  | _ => false
def un3 (d : D) (f : D → D → D → H1) : H1 := fun k => match d with
  | .tup [x, y, z] => f x y z k
  | _ => false

/-! ### statements -/
section
variable {S L S' : Type}
def sNx (s : S) : HS S L := fun k => k (.nx s)
def sRet (h : H1) : HS S L := fun k => h fun r => match r with
  | .ok d => k (.rt d)
  | .exc c => k (.exc c)
def sLet (h : H1) (f : D → HS S L) : HS S L := fun k => h fun r => match r with
  | .ok d => f d k
  | .exc c => k (.exc c)
def sLetO (h : H1) (f : List D → HS S L) : HS S L := fun k => h fun r => match r with
  | .ok (.lst ds) => lenLe ds big && f ds k
  | .ok _ => false
  | .exc c => k (.exc c)
def sDo (h : H1) (f : HS S L) : HS S L := fun k => h fun r => match r with
  | .ok _ => f k
  | .exc c => k (.exc c)
def sIf (c : H1) (a b : HS S L) : HS S L := fun k => c fun r => match r with
  | .ok (.bl true) => a k
  | .ok (.bl false) => b k
  | .ok _ => false
  | .exc c => k (.exc c)
def seqK (f : S' → HS S L) (k : O S L → Bool) : O S' L → Bool := fun o => match o with
  | .nx s => f s k
  | .bk l => k (.bk l)
  | .ct l => k (.ct l)
  | .rt d => k (.rt d)
  | .exc c => k (.exc c)
def sSeq (a : HS S' L) (f : S' → HS S L) : HS S L := fun k => a (seqK f k)
def sRaise (c : Nat) : HS S L := fun k => k (.exc c)
def loopF (body : D → S → HS S S) : List D → S → HS S L
  | [], s => fun k => k (.nx s)
  | x :: r, s => fun k => body x s fun o => match o with
    | .nx s' => loopF body r s' k
    | .ct s' => loopF body r s' k
    | .bk s' => k (.nx s')
    | .rt d => k (.rt d)
    | .exc c => k (.exc c)
def sFor (it : H1) (body : D → S → HS S S) (s : S) : HS S L := fun k => it fun r => match r with
  | .ok (.lst xs) => loopF body xs s k
  | .ok _ => false
  | .exc c => k (.exc c)
def loopW (test : S → H1) (body : S → HS S S) : Nat → S → HS S L
  | 0, _ => fun _ => false
  | n + 1, s => fun k => test s fun r => match r with
    | .ok (.bl true) => body s fun o => match o with
      | .nx s' => loopW test body n s' k
      | .ct s' => loopW test body n s' k
      | .bk s' => k (.nx s')
      | .rt d => k (.rt d)
      | .exc c => k (.exc c)
    | .ok (.bl false) => k (.nx s)
    | .ok _ => false
    | .exc c => k (.exc c)
def su2 (d : D) (f : D → D → HS S L) : HS S L := fun k => match d with
  | .tup [x, y] => f x y k
  | _ => false
def su3 (d : D) (f : D → D → D → HS S L) : HS S L := fun k => match d with
  | .tup [x, y, z] => f x y z k
  | _ => false
end
/-- the end of a def -/
def fEnd (h : HS Unit Unit) : H1 := fun k => h fun o => match o with
  | .rt d => k (.ok d)
  | .nx _ => k (.ok .non)
  | .exc c => k (.exc c)
  | _ => false
end DL

set_option linter.all false
namespace DL
/-! ## operations on data -/
def beqL : List Nat → List Nat → Bool
  | [], [] => true
  | a :: x, b :: y => Nat.beq a b && beqL x y
  | _, _ => false
def ltL : List Nat → List Nat → Bool
  | _, [] => false
  | [], _ :: _ => true
  | a :: x, b :: y => Nat.blt a b || (Nat.beq a b && ltL x y)
mutual
/-- == of plain data (True == 1 as in Python) -/
def beqD : D → D → Bool
  | .non, .non => true
  | .bl a, .bl b => a == b
  | .bl a, .int j => (if a then 1 else 0) == j
  | .int i, .bl b => i == (if b then 1 else 0)
  | .int a, .int b => a == b
  | .str a, .str b => beqL a b
  | .lst a, .lst b => beqDs a b
  | .tup a, .tup b => beqDs a b
  | _, _ => false
def beqDs : List D → List D → Bool
  | [], [] => true
  | a :: x, b :: y => beqD a b && beqDs x y
  | _, _ => false
end
mutual
/-- plain data, not nested deeper than n -/
def okD : Nat → D → Bool
  | _, .non => true
  | _, .bl _ => true
  | _, .int _ => true
  | _, .str x => x.all fun c => Nat.blt c 1114112
  | 0, .lst _ => false
  | n + 1, .lst xs => okDs n xs
  | 0, .tup _ => false
  | n + 1, .tup xs => okDs n xs
  | _, _ => false
def okDs : Nat → List D → Bool
  | _, [] => true
  | n, x :: r => okD n x && okDs n r
end
/-- == , signs told by their ranks -/
def eqD : D → D → Option D
  | .sg [r], .str [c] => if Nat.beq c 80 then some (.bl (Nat.beq r 2)) else if Nat.beq c 45 then some (.bl (Nat.beq r 1)) else none
  | a, b => if okD 9 a && okD 9 b then some (.bl (beqD a b)) else none
def neD (a b : D) : Option D := match eqD a b with
  | some (.bl x) => some (.bl (!x))
  | _ => none
def addD : D → D → Option D
  | .int a, .int b => some (.int (a + b))
  | .str a, .str b => if lenLe a big && lenLe b big then some (.str (a ++ b)) else none
  | .lst a, .lst b => if lenLe a big && lenLe b big then some (.lst (a ++ b)) else none
  | .tup [], .tup b => some (.tup b)
  | .tup a, .tup b => if lenLe a big && lenLe b big then some (.tup (a ++ b)) else none
  | .sg a, .sg b => if lenLe a big && lenLe b big then some (.sg (a ++ b)) else none
  | .nn, .int b => if 0 ≤ b then some .nn else none
  | .int a, .nn => if 0 ≤ a then some .nn else none
  | _, _ => none
def subD : D → D → Option D
  | .int a, .int b => some (.int (a - b))
  | _, _ => none
def mulD : D → D → Option D
  | .int a, .int b => if -1000000000 < a ∧ a < 1000000000 then some (.int (a * b)) else none
  | .int a, .nn => if 0 ≤ a ∧ a < 1000000000 then some .nn else none
  | .int a, .bl b => if -1000000000 < a ∧ a < 1000000000 then some (.int (a * (if b then 1 else 0))) else none
  | _, _ => none
def modD : D → D → Option D
  | .int a, .int b => if 0 < b then some (.int (a % b)) else none
  | _, _ => none
def cmpD (f : Int → Int → Bool) : D → D → Option D
  | .int a, .int b => some (.bl (f a b))
  | _, _ => none
def ltD : D → D → Option D
  | .int a, .int b => some (.bl (decide (a < b)))
  | .str a, .str b => some (.bl (ltL a b))
  | _, _ => none
def leD := cmpD fun a b => decide (a ≤ b)
def gtD := cmpD fun a b => decide (b < a)
def geD := cmpD fun a b => decide (b ≤ a)
/-- the place of an index -/
def ixP (n : Nat) (i : Int) : Option Nat := match i with
  | .ofNat j => if Nat.blt j n then some j else none
  | .negSucc j => if Nat.blt j n then some (n - (j + 1)) else none
def nthL {α : Type} (xs : List α) (i : Int) : Option α := match ixP xs.length i with
  | some j => xs[j]?
  | none => none
def ixD : D → D → Option D
  | .lst xs, .int i => nthL xs i
  | .tup xs, .int i => nthL xs i
  | .str x, .int i => if lenLe x big then (match nthL x i with | some c => some (.str [c]) | none => none) else none
  | .sg x, .int i => if lenLe x big then (match nthL x i with | some c => some (.sg [c]) | none => none) else none
  | _, _ => none
def cutL {α : Type} (xs : List α) (lo hi : Nat) : List α := (xs.drop lo).take (hi - lo)
/-- a slice's bound -/
def bnd (n d : Nat) : Option Int → Nat
  | none => d
  | some (.ofNat j) => if Nat.ble j n then j else n
  | some (.negSucc j) => n - (j + 1)
def slD (x : D) (lo hi : Option Int) : Option D := match x with
  | .str x => if lenLe x big then some (.str (cutL x (bnd x.length 0 lo) (bnd x.length x.length hi))) else none
  | .sg x => if lenLe x big then some (.sg (cutL x (bnd x.length 0 lo) (bnd x.length x.length hi))) else none
  | .lst x => some (.lst (cutL x (bnd x.length 0 lo) (bnd x.length x.length hi)))
  | _ => none
/-- c in s, for one sign -/
def inL (c : Nat) : List Nat → Bool
  | [] => false
  | a :: r => Nat.beq a c || inL c r
/-- x in s, of texts -/
def preL : List Nat → List Nat → Bool
  | [], _ => true
  | _ :: _, [] => false
  | a :: x, b :: y => Nat.beq a b && preL x y
def anyEq (x : D) : List D → Bool
  | [] => false
  | y :: r => beqD y x || anyEq x r
def signs4 : List Nat := [80, 45, 71, 84]
def inD : D → D → Option D
  | .str [c], .str z => some (.bl (inL c z))
  | .sg [_], .str z => if beqL z signs4 then some (.bl true) else none
  | x, .lst xs => if okD 9 x && okDs 8 xs then some (.bl (anyEq x xs)) else none
  | x, .tup xs => if okD 9 x && okDs 8 xs then some (.bl (anyEq x xs)) else none
  | _, _ => none
def notInD (a b : D) : Option D := match inD a b with
  | some (.bl x) => some (.bl (!x))
  | _ => none
/-- is, is not, of bools and None -/
def isD : D → D → Option D
  | .bl a, .bl b => some (.bl (a == b))
  | .non, .non => some (.bl true)
  | .str _, .non => some (.bl false)
  | .lst _, .non => some (.bl false)
  | .tup _, .non => some (.bl false)
  | .int _, .non => some (.bl false)
  | .bl _, .non => some (.bl false)
  | .sg _, .non => some (.bl false)
  | _, _ => none
def isNotD (a b : D) : Option D := match isD a b with
  | some (.bl x) => some (.bl (!x))
  | _ => none
def lenD : List D → Option D
  | [.lst xs] => some (.int xs.length)
  | [.tup xs] => some (.int xs.length)
  | [.str x] => if lenLe x big then some (.int x.length) else none
  | [.sg x] => if lenLe x big then some (.int x.length) else none
  | _ => none
def bools : List D → Option (List Bool)
  | [] => some []
  | .bl b :: r => match bools r with
    | some l => some (b :: l)
    | none => none
  | _ :: _ => none
def anyD : List D → Option D
  | [.lst xs] => match bools xs with
    | some l => some (.bl (l.any id))
    | none => none
  | _ => none
def allD : List D → Option D
  | [.lst xs] => match bools xs with
    | some l => some (.bl (l.all id))
    | none => none
  | _ => none
def intsOf : List D → Option (List Int)
  | [] => some []
  | .int b :: r => match intsOf r with
    | some l => some (b :: l)
    | none => none
  | _ :: _ => none
def insI (x : Int) : List Int → List Int
  | [] => [x]
  | y :: r => if x ≤ y then x :: y :: r else y :: insI x r
def sortI : List Int → List Int
  | [] => []
  | x :: r => insI x (sortI r)
def sortedD : List D → Option D
  | [.lst xs] => match intsOf xs with
    | some l => if lenLe l 60 then some (.lst ((sortI l).map .int)) else none
    | none => none
  | _ => none
def strsOf : List D → Option (List (List Nat))
  | [] => some []
  | .str b :: r => match strsOf r with
    | some l => some (b :: l)
    | none => none
  | _ :: _ => none
def sgsOf : List D → Option (List (List Nat))
  | [] => some []
  | .sg b :: r => match sgsOf r with
    | some l => some (b :: l)
    | none => none
  | _ :: _ => none
def joinL (s : List Nat) : List (List Nat) → List Nat
  | [] => []
  | [x] => x
  | x :: r => x ++ (s ++ joinL s r)
/-- the place of a sign in a text -/
def idxL (c : Nat) : List Nat → Option Nat
  | [] => none
  | a :: r => if Nat.beq a c then some 0 else match idxL c r with
    | some j => some (j + 1)
    | none => none
/-- isinstance of a built-in class -/
def isiD (t : Nat) : D → Option Bool
  | .non => some false
  | .bl _ => some (t == 1 || t == 0)
  | .int _ => some (t == 1)
  | .str _ => some (t == 2)
  | .lst _ => some (t == 3)
  | .tup _ => some (t == 4)
  | .sg _ => some (t == 2)
  | _ => none
abbrev HA := ((List D ⊕ Nat) → Bool) → Bool
def aN : HA := fun k => k (.inl [])
def aC (h : H1) (t : HA) : HA := fun k => h fun r => match r with
  | .ok d => t fun r => match r with
    | .inl ds => k (.inl (d :: ds))
    | .inr c => k (.inr c)
  | .exc c => k (.inr c)
def hA (h : HA) (f : List D → H1) : H1 := fun k => h fun r => match r with
  | .inl ds => f ds k
  | .inr c => k (.exc c)

def oL (f : List D → D) : List D → H1 := fun ds k => lenLe ds big && k (.ok (f ds))
def sEm {S L : Type} (h : HS Empty L) : HS S L := fun k => h fun o => match o with
  | .nx e => nomatch e
  | .bk l => k (.bk l)
  | .ct l => k (.ct l)
  | .rt d => k (.rt d)
  | .exc c => k (.exc c)
def hTL (h : H1) : H1 := fun k => h fun r => match r with
  | .ok (.tup xs) => k (.ok (.lst xs))
  | .ok _ => false
  | .exc c => k (.exc c)
def intL : Int → Nat → List D
  | _, 0 => []
  | i, n + 1 => .int i :: intL (i + 1) n
abbrev HOp := ((Option Int ⊕ Nat) → Bool) → Bool
def oNone : HOp := fun k => k (.inl none)
def oSome (h : H1) : HOp := fun k => h fun r => match r with
  | .ok (.int i) => k (.inl (some i))
  | .ok _ => false
  | .exc c => k (.inr c)
def hSl (he : H1) (hl hu : HOp) : H1 := fun k => he fun r => match r with
  | .ok d => hl fun a => match a with
    | .inl lo => hu fun b => match b with
      | .inl hi => hO (slD d lo hi) k
      | .inr c => k (.exc c)
    | .inr c => k (.exc c)
  | .exc c => k (.exc c)
def listD : List D → Option D
  | [.lst xs] => some (.lst xs)
  | [.tup xs] => some (.lst xs)
  | _ => none
def tupleD : List D → Option D
  | [.lst xs] => some (.tup xs)
  | [.tup xs] => some (.tup xs)
  | _ => none
def max2D : List D → Option D
  | [.int i, .int j] => some (.int (if j > i then j else i))
  | _ => none
def rng1D : List D → Option D
  | [.int j] => if -1000 ≤ j ∧ j ≤ 1000 then some (.lst (intL 0 j.toNat)) else none
  | _ => none
def rng2D : List D → Option D
  | [.int i, .int j] => if -1000 ≤ i ∧ i ≤ 1000 ∧ j ≤ 1000 ∧ -1000 ≤ j then some (.lst (intL i (j - i).toNat)) else none
  | _ => none
def chars (x : List Nat) : List D := x.map fun c => .str [c]
def sgs (x : List Nat) : List D := x.map fun c => .sg [c]
def hSL (h : H1) : H1 := fun k => h fun r => match r with
  | .ok (.str x) => k (.ok (.lst (chars x)))
  | .ok (.sg x) => k (.ok (.lst (sgs x)))
  | .ok _ => false
  | .exc c => k (.exc c)
def tyD : Nat → D → Bool
  | 2, .str _ => true
  | 2, .sg _ => true
  | 3, .lst _ => true
  | _, _ => false
def hM (t : Nat) (F : D → List D → Option D) (ho : H1) (h : HA) : H1 := hB ho fun d k => tyD t d && hA h (fun ds => hO (F d ds)) k
def sumLe : List (List Nat) → Nat → Bool
  | [], _ => true
  | x :: r, n => lenLe x 1000 && (match n with | 0 => false | n + 1 => sumLe r n)
def sgJoin : List (List Nat) → List Nat
  | [] => []
  | x :: r => x ++ sgJoin r
def joinD : D → List D → Option D
  | .str s, [.lst xs] => if lenLe s 100 then (match strsOf xs with
      | some l => if sumLe l 300 then some (.str (joinL s l)) else none
      | none => match s with
        | [] => (match sgsOf xs with
          | some l => if sumLe l 300 then some (.sg (sgJoin l)) else none
          | none => none)
        | _ => none) else none
  | _, _ => none
def indexD : D → List D → Option D
  | .str x, [.str [c]] => (idxL c x).map fun j => .int (j : Int)
  | _, _ => none
def enumL : Nat → List D → List D
  | _, [] => []
  | n, x :: r => .tup [.int (n : Int), x] :: enumL (n + 1) r
def zipL2 : List D → List D → List D
  | x :: r, y :: s => .tup [x, y] :: zipL2 r s
  | _, _ => []
def enumD : List D → Option D
  | [.lst xs] => some (.lst (enumL 0 xs))
  | _ => none
def zip2D : List D → Option D
  | [.lst xs, .lst ys] => some (.lst (zipL2 xs ys))
  | _ => none
def mkFn0 (h : HS Unit Unit) : Fn := fun ds k => match ds with | [] => fEnd h k | _ => false
def mkFn1 (h : D → HS Unit Unit) : Fn := fun ds k => match ds with | [a] => fEnd (h a) k | _ => false
def mkFn2 (h : D → D → HS Unit Unit) : Fn := fun ds k => match ds with | [a, b] => fEnd (h a b) k | _ => false
def mkFn3 (h : D → D → D → HS Unit Unit) : Fn := fun ds k => match ds with | [a, b, c] => fEnd (h a b c) k | _ => false
def mkFn4 (h : D → D → D → D → HS Unit Unit) : Fn := fun ds k => match ds with | [a, b, c, d] => fEnd (h a b c d) k | _ => false
def mkFn6 (h : D → D → D → D → D → D → HS Unit Unit) : Fn := fun ds k => match ds with | [a, b, c, d, e, f] => fEnd (h a b c d e f) k | _ => false
def kget (c : Nat) : List (Nat × D) → Option D
  | [] => none
  | (k, d) :: r => if Nat.beq k c then some d else kget c r
def kdD (tab : List (Nat × D)) : D → Option D
  | .str [c] => kget c tab
  | .sg [r] => match r with
    | 2 => kget 80 tab
    | 1 => kget 45 tab
    | 0 => match kget 71 tab, kget 84 tab with
      | some (.int a), some (.int b) => if a = b then some (.int a) else none
      | _, _ => none
    | _ => none
  | _ => none
/-- a op b op' c -/
def hCh (F F' : D → D → Option D) (ha hb hc : H1) : H1 := hB ha fun x => hB hb fun y k => match F x y with
  | some (.bl true) => hc fun r => match r with
    | .ok z => hO (F' y z) k
    | .exc c => k (.exc c)
  | some (.bl false) => k (.ok (.bl false))
  | _ => false
def rep3 : List D → Nat → List D
  | _, 0 => []
  | xs, n + 1 => xs ++ rep3 xs n
def mulX : D → D → Option D
  | .int a, .int b => if -1000000000 < a ∧ a < 1000000000 then some (.int (a * b)) else none
  | .int a, .nn => if 0 ≤ a ∧ a < 1000000000 then some .nn else none
  | _, _ => none
/-! ### draws -/
def allBelow : Nat → (Nat → Bool) → Bool
  | 0, _ => true
  | n + 1, f => f n && allBelow n f
def natD : D → Bool
  | .nn => true
  | .int a => decide (0 ≤ a)
  | _ => false
/-- a number below m: any -/
def c_draw : Fn := fun ds k => match ds with
  | [.scr, a, .int m] => natD a && decide (0 < m ∧ m ≤ 1000) && allBelow m.toNat fun j => k (.ok (.int j))
  | _ => false
/-! ### own lists -/
section
variable {S L : Type}
def sNew (h : HA) (f : List D → HS S L) : HS S L := fun k => h fun r => match r with
  | .inl ds => lenLe ds big && f ds k
  | .inr c => k (.exc c)
/-- x = list(e) -/
def sNewL (h : HA) (f : List D → HS S L) : HS S L := fun k => h fun r => match r with
  | .inl [.lst ds] => lenLe ds big && f ds k
  | .inl [.tup ds] => lenLe ds big && f ds k
  | .inl _ => false
  | .inr c => k (.exc c)
def sApp (ds : List D) (h : H1) (f : List D → HS S L) : HS S L := fun k => h fun r => match r with
  | .ok d => lenLe ds big && f (ds ++ [d]) k
  | .exc c => k (.exc c)
def sExt (ds : List D) (h : H1) (f : List D → HS S L) : HS S L := fun k => h fun r => match r with
  | .ok (.lst es) => lenLe ds big && lenLe es big && f (ds ++ es) k
  | .ok _ => false
  | .exc c => k (.exc c)
/-- x[j] = e: e first -/
def sSetIx (ds : List D) (h hj : H1) (f : List D → HS S L) : HS S L := fun k => h fun r => match r with
  | .ok d => hj fun r => match r with
    | .ok (.int i) => (match ixP ds.length i with
      | some n => f (ds.set n d) k
      | none => false)
    | .ok _ => false
    | .exc c => k (.exc c)
  | .exc c => k (.exc c)
def allNat : List D → Bool
  | [] => true
  | x :: r => natD x && allNat r
def cutK : O Unit Unit → Bool
  | .nx _ => true
  | .ct _ => true
  | _ => false
/-- a loop whose turns are alike: a turn at any number, then the rest -/
def sCut (it : H1) (body : D → HS Unit Unit) (f : HS S L) : HS S L := fun k => it fun r => match r with
  | .ok (.lst xs) => allNat xs && body .nn cutK && f k
  | .ok _ => false
  | .exc c => k (.exc c)
end
def tupOf : Option D → Option D
  | some (.lst xs) => some (.tup xs)
  | _ => none
/-! ### draws of four letters -/
def all4 (al : List Nat) (f : List Nat → Bool) : Bool := al.all fun a => al.all fun b => al.all fun c => al.all fun d => f [a, b, c, d]
def is4 (al : List Nat) : List Nat → Bool
  | [a, b, c, d] => al.contains a && (al.contains b && (al.contains c && al.contains d))
  | _ => false
def k4 (al : List Nat) : R → Bool
  | .ok (.str x) => is4 al x
  | _ => false
def aSg : List Nat := [80, 45, 71, 84]
def aTr : List Nat := [46, 76, 83, 82]
/-- any signs, by their ranks -/
def c_sgs : Fn := fun ds k => match ds with
  | [.scr, .nn] => all4 [2, 1, 0] fun r => k (.ok (.sg r))
  | _ => false
/-- any signs, one by one -/
def c_sgc : Fn := fun ds k => match ds with
  | [.scr, .nn] => all4 aSg fun x => k (.ok (.str x))
  | _ => false
/-- any traffic -/
def c_trs : Fn := fun ds k => match ds with
  | [.scr, .nn] => all4 aTr fun x => k (.ok (.str x))
  | _ => false
def lawK : R → Bool
  | .ok (.bl true) => true
  | _ => false
/-! ### loops whose turns are alike, the turn shown apart -/
def isScr : D → Bool
  | .scr => true
  | _ => false
section
variable {S L : Type}
def sCutC (c : Bool) (it : H1) (f : HS S L) : HS S L := fun k => it fun r => match r with
  | .ok (.lst xs) => c && (allNat xs && f k)
  | .ok _ => false
  | .exc c => k (.exc c)
end
theorem scr_only {f : D → Bool} (h : f .scr = true) : ∀ a, isScr a = true → f a = true := fun a ha => by
  cases a <;> first | exact h | cases ha
theorem lall {α : Type} {p : α → Bool} {x : α} {l : List α} (h1 : p x = true) (h2 : l.all p = true) : (x :: l).all p = true := by
  rw [List.all_cons, h1, h2]
  rfl
theorem lall0 {α : Type} {p : α → Bool} : ([] : List α).all p = true := rfl
theorem sgs_let {S L : Type} {h : H1} {F : D → HS S L} {k : O S L → Bool} (hf : all4 [2, 1, 0] (fun r => F (.sg r) k) = true) (ha : ∀ kk : R → Bool, h kk = kk (.ok .nn) := by exact fun _ => rfl) :
    sLet (hA (aC (hC .scr) (aC h aN)) fun ds k => Nat.beq ds.length 2 && c_sgs ds k) F k = true := by
  show h _ = true
  rw [ha]
  exact hf
theorem sgc_let {S L : Type} {h : H1} {F : D → HS S L} {k : O S L → Bool} (hf : all4 aSg (fun r => F (.str r) k) = true) (ha : ∀ kk : R → Bool, h kk = kk (.ok .nn) := by exact fun _ => rfl) :
    sLet (hA (aC (hC .scr) (aC h aN)) fun ds k => Nat.beq ds.length 2 && c_sgc ds k) F k = true := by
  show h _ = true
  rw [ha]
  exact hf
theorem trs_let {S L : Type} {h : H1} {F : D → HS S L} {k : O S L → Bool} (hf : all4 aTr (fun r => F (.str r) k) = true) (ha : ∀ kk : R → Bool, h kk = kk (.ok .nn) := by exact fun _ => rfl) :
    sLet (hA (aC (hC .scr) (aC h aN)) fun ds k => Nat.beq ds.length 2 && c_trs ds k) F k = true := by
  show h _ = true
  rw [ha]
  exact hf
/-! ### order of plain data -/
mutual
def simD : D → D → Bool
  | .bl _, .bl _ => true
  | .int _, .int _ => true
  | .str _, .str _ => true
  | .lst a, .lst b => simDs a b
  | .tup a, .tup b => simDs a b
  | _, _ => false
def simDs : List D → List D → Bool
  | x :: xs, y :: ys => simD x y && simDs xs ys
  | _, _ => true
end
mutual
def lsD : D → D → Bool
  | .bl a, .bl b => !a && b
  | .int a, .int b => decide (a < b)
  | .str a, .str b => ltL a b
  | .lst a, .lst b => lsDs a b
  | .tup a, .tup b => lsDs a b
  | _, _ => false
def lsDs : List D → List D → Bool
  | [], [] => false
  | [], _ :: _ => true
  | _ :: _, [] => false
  | x :: xs, y :: ys => if beqD x y then lsDs xs ys else lsD x y
end
def simOk (x y : D) : Bool := simD x y && (okD 9 x && okD 9 y)
/-- the least of m and the rest, the first of several -/
def leastF {α : Type} (lt ok : α → α → Bool) : α → List α → Option α
  | m, [] => some m
  | m, y :: r => if ok y m then leastF lt ok (if lt y m then y else m) r else none
def minD : List D → Option D
  | [.lst (x :: r)] => leastF lsD simOk x r
  | _ => none
def sBk {S L : Type} (l : L) : HS S L := fun k => k (.bk l)
end DL

set_option maxHeartbeats 0
set_option linter.all false
set_option maxRecDepth 100000
namespace DL
/-! ## two vehicles meet: a table -/
/-- . L S R as 0 1 2 3 -/
def li (c : Nat) : Nat := Nat.land (Nat.shiftRight 257229997161009737443372763701943609439989658550272 (Nat.mul 2 c)) 3
def meetT (a b i j : Nat) : Bool := Nat.testBit 108046334372464433680589107179077890795293011334724622333913020026689582853856 (Nat.add (li a) (Nat.add (Nat.mul 4 (li b)) (Nat.add (Nat.mul 16 i) (Nat.mul 64 j))))
def isTr (c : Nat) : Bool := Nat.testBit 14582667699171833164070912 c
def trs4 : List Nat → Bool
  | [a, b, c, d] => isTr a && (isTr b && (isTr c && isTr d))
  | _ => false
def tabM (t : List Nat) (i j : Nat) (k : Bool → Bool) : Bool := match t[i]?, t[j]? with
  | some a, some b => (!(Nat.beq i j)) && (Nat.blt 0 (li a) && (Nat.blt 0 (li b) && k (meetT a b i j)))
  | _, _ => false
def c_meet : Fn := fun ds k => match ds with
  | [.str t, .int (.ofNat i), .int (.ofNat j)] => trs4 t && tabM t i j fun b => k (.ok (.bl b))
  | _ => false
def isBl (b : Bool) : R → Bool
  | .ok (.bl true) => b
  | .ok (.bl false) => !b
  | _ => false
theorem isBl_ok {b : Bool} {r : R} (h : isBl b r = true) : r = .ok (.bl b) := by
  unfold isBl at h
  split at h
  · rw [h]
  · cases b
    · rfl
    · cases h
  · cases h
/-- what is to be checked of a def g -/
def meetC (g : Fn) (t : List Nat) : Bool := allBelow 4 fun i => allBelow 4 fun j => match t[i]?, t[j]? with
  | some a, some b => if !(Nat.beq i j) && (Nat.blt 0 (li a) && Nat.blt 0 (li b)) then g [.str t, .int (.ofNat i), .int (.ofNat j)] (isBl (meetT a b i j)) else true
  | _, _ => true
theorem allBelow_at {f : Nat → Bool} : ∀ {n : Nat}, allBelow n f = true → ∀ j, j < n → f j = true
  | 0, _, j, h => absurd h (Nat.not_lt_zero j)
  | n + 1, h, j, hj => by
    unfold allBelow at h
    rw [Bool.and_eq_true] at h
    by_cases e : j = n
    · subst e; exact h.1
    · exact allBelow_at h.2 j (by omega)
theorem isTr_mem {c : Nat} (h : isTr c = true) : c ∈ aTr := by
  have hc : c < 90 := by
    by_cases q : c < 90
    · exact q
    · unfold isTr at h
      rw [Nat.testBit_lt_two_pow (Nat.lt_of_lt_of_le (show 14582667699171833164070912 < 2 ^ 90 by decide) (Nat.pow_le_pow_right (by decide) (by omega)))] at h
      cases h
  have : ∀ c, c < 90 → isTr c = true → c ∈ aTr := by decide
  exact this c hc h
theorem meet_imp {g : Fn} (hg : all4 aTr (meetC g) = true) (ds : List D) (k : R → Bool) (h : c_meet ds k = true) : ∃ k', g ds k' = true ∧ ∀ r, k' r = true → k r = true := by
  unfold c_meet at h
  split at h
  · rename_i t i j
    rw [Bool.and_eq_true] at h
    obtain ⟨h1, h2⟩ := h
    unfold trs4 at h1
    split at h1
    · rename_i a b c d
      simp only [Bool.and_eq_true] at h1
      have m : meetC g [a, b, c, d] = true := by
        unfold all4 at hg
        simp only [List.all_eq_true] at hg
        exact hg _ (isTr_mem h1.1) _ (isTr_mem h1.2.1) _ (isTr_mem h1.2.2.1) _ (isTr_mem h1.2.2.2)
      unfold tabM at h2
      split at h2
      · rename_i x y ex ey
        simp only [Bool.and_eq_true] at h2
        have hi : i < 4 := by
          by_cases q : i < 4
          · exact q
          · rw [List.getElem?_eq_none (by simp; omega)] at ex; cases ex
        have hj : j < 4 := by
          by_cases q : j < 4
          · exact q
          · rw [List.getElem?_eq_none (by simp; omega)] at ey; cases ey
        have m2 := allBelow_at (allBelow_at m i hi) j hj
        rw [ex, ey] at m2
        simp only at m2
        rw [if_pos (by rw [show Nat.beq i j = false by simpa using h2.1, h2.2.1, h2.2.2.1]; rfl)] at m2
        exact ⟨_, m2, fun r hr => by rw [isBl_ok hr]; exact h2.2.2.2⟩
      · cases h2
    · cases h1
  · cases h
end DL

set_option Elab.async false
set_option linter.all false
set_option maxRecDepth 100000
namespace DL
open PySem PySem.Spec PyProof.Rows L2
/-! ## a value stands for a datum -/
def mkS (x : List Nat) : Str := ⟨x.toArray⟩
/-- letters of signs by their ranks -/
def sgOk (c r : Nat) : Prop := (c = 80 ∧ r = 2) ∨ (c = 45 ∧ r = 1) ∨ (c = 71 ∧ r = 0) ∨ (c = 84 ∧ r = 0)
structure Tab where
  fns : Nat → Addr
  cls : Nat → Addr
mutual
def Rep (T : Tab) (K : PySem.W.Frag) (H : Hp) : D → V → Prop
  | .non, v => v = .non
  | .bl b, v => v = .bl b
  | .int i, v => v = .int i
  | .str x, v => v = .str (mkS x)
  | .lst ds, v => ∃ a vs, v = .ref a ∧ H a = some (.lst vs) ∧ Reps T K H ds vs
  | .tup ds, v => ∃ a vs, v = .ref a ∧ SqT K H a vs ∧ Reps T K H ds vs
  | .sg r, v => ∃ x, v = .str (mkS x) ∧ Paired sgOk x r
  | .nn, v => ∃ n : Nat, v = .int n
  | .scr, v => ∃ (a : Addr) (ns : List Int), v = .ref a ∧ SqL K H a (ns.map V.int) ∧ ns.length ≤ 63 ∧ ∀ z ∈ ns, Builtin.Int.intBits z ≤ 1048576
  | .fn i, v => v = .ref (T.fns i)
  | .exc _, _ => False
def Reps (T : Tab) (K : PySem.W.Frag) (H : Hp) : List D → List V → Prop
  | [], vs => vs = []
  | d :: ds, vs => ∃ v r, vs = v :: r ∧ Rep T K H d v ∧ Reps T K H ds r
end
section
variable {T : Tab} {K : PySem.W.Frag} {H H' : Hp}
theorem same_sqT {a : Addr} {xs : List V} (e : Same H H') (h : SqT K H a xs) : SqT K H' a xs := by
  rcases h with (h | ⟨o, h⟩) | h
  · exact .inl (.inl (e _ _ h))
  · exact .inl (.inr ⟨o, e _ _ h⟩)
  · exact .inr h
mutual
theorem Rep.mono (e : Same H H') : ∀ {d : D} {v : V}, Rep T K H d v → Rep T K H' d v
  | .non, _, h => by unfold Rep at h ⊢; exact h
  | .bl _, _, h => by unfold Rep at h ⊢; exact h
  | .int _, _, h => by unfold Rep at h ⊢; exact h
  | .str _, _, h => by unfold Rep at h ⊢; exact h
  | .lst _, _, ⟨a, vs, q, s, r⟩ => ⟨a, vs, q, e _ _ s, Reps.mono e r⟩
  | .tup _, _, ⟨a, vs, q, s, r⟩ => ⟨a, vs, q, same_sqT e s, Reps.mono e r⟩
  | .sg _, _, h => by unfold Rep at h ⊢; exact h
  | .nn, _, h => by unfold Rep at h ⊢; exact h
  | .scr, _, ⟨a, ns, q, s, r⟩ => ⟨a, ns, q, e.seq s, r⟩
  | .fn _, _, h => by unfold Rep at h ⊢; exact h
  | .exc _, _, h => by unfold Rep at h ⊢; exact h
theorem Reps.mono (e : Same H H') : ∀ {ds : List D} {vs : List V}, Reps T K H ds vs → Reps T K H' ds vs
  | [], _, h => h
  | _ :: _, _, ⟨v, r, q, a, b⟩ => ⟨v, r, q, Rep.mono e a, Reps.mono e b⟩
end
theorem Reps.length : ∀ {ds : List D} {vs : List V}, Reps T K H ds vs → vs.length = ds.length
  | [], _, h => by rw [show _ = [] from h]; rfl
  | _ :: _, _, ⟨v, r, q, a, b⟩ => by rw [q, List.length_cons, List.length_cons, Reps.length b]
theorem Reps.app : ∀ {ds es : List D} {vs ws : List V}, Reps T K H ds vs → Reps T K H es ws → Reps T K H (ds ++ es) (vs ++ ws)
  | [], _, _, _, h, g => by rw [show _ = [] from h]; exact g
  | _ :: _, _, _, _, ⟨v, r, q, a, b⟩, g => ⟨v, r ++ _, by rw [q]; rfl, a, Reps.app b g⟩
theorem Reps.one {d : D} {v : V} (h : Rep T K H d v) : Reps T K H [d] [v] := ⟨v, [], rfl, h, rfl⟩
theorem Reps.get : ∀ {ds : List D} {vs : List V} {i : Nat} {v : V}, Reps T K H ds vs → vs[i]? = some v → ∃ d, ds[i]? = some d ∧ Rep T K H d v
  | [], _, i, v, h, g => by rw [show _ = [] from h] at g; simp at g
  | d :: _, _, 0, v, ⟨v', r, q, a, b⟩, g => by
    rw [q] at g
    have e : v' = v := Option.some.inj g
    exact ⟨d, rfl, e ▸ a⟩
  | _ :: _, _, i + 1, v, ⟨v', r, q, a, b⟩, g => by
    rw [q] at g
    obtain ⟨d, e, x⟩ := Reps.get (i := i) b g
    exact ⟨d, e, x⟩
theorem Reps.getD : ∀ {ds : List D} {vs : List V} {i : Nat} {d : D}, Reps T K H ds vs → ds[i]? = some d → ∃ v, vs[i]? = some v ∧ Rep T K H d v
  | [], _, i, v, h, g => by simp at g
  | d :: _, _, 0, v, ⟨v', r, q, a, b⟩, g => by
    have e : d = v := Option.some.inj g
    exact ⟨v', by rw [q]; rfl, e ▸ a⟩
  | _ :: _, _, i + 1, v, ⟨v', r, q, a, b⟩, g => by
    obtain ⟨d, e, x⟩ := Reps.getD (i := i) b g
    exact ⟨d, by rw [q]; exact e, x⟩
end
/-! ### lists, slots -/
theorem lk_st : ∀ (ρ : Env) (i j : Nat) (x : Sl), lk (stE ρ i x) j = if j = i ∧ i < ρ.length then x else lk ρ j
  | [], i, j, x => by simp [stE, lk]
  | s :: r, 0, 0, x => by simp [stE, lk]
  | s :: r, 0, j + 1, x => by simp [stE, lk]
  | s :: r, i + 1, 0, x => by simp [stE, lk]
  | s :: r, i + 1, j + 1, x => by
    have e := lk_st r i j x
    show lk (stE r i x) j = _
    rw [e]
    simp [lk]
theorem len_st : ∀ (ρ : Env) (i : Nat) (x : Sl), (stE ρ i x).length = ρ.length
  | [], _, _ => rfl
  | _ :: _, 0, _ => rfl
  | s :: r, i + 1, x => by
    show (stE r i x).length + 1 = r.length + 1
    rw [len_st r i x]
theorem lk_out : ∀ {ρ : Env} {i : Nat}, ρ.length ≤ i → lk ρ i = .un
  | [], _, _ => rfl
  | _ :: r, 0, h => by simp at h
  | _ :: r, i + 1, h => lk_out (ρ := r) (i := i) (by simpa using h)
def at' (σ : L2.St) (i : Nat) : Option V := (σ[i]?).getD none
theorem at_set {σ : L2.St} {i j : Nat} {v : Option V} : at' (σ.set i v) j = if j = i ∧ i < σ.length then v else at' σ j := by
  unfold at'
  by_cases h : i = j
  · subst h
    by_cases hl : i < σ.length
    · rw [List.getElem?_set_self hl, if_pos ⟨rfl, hl⟩]; rfl
    · rw [if_neg (fun z => hl z.2), List.getElem?_eq_none (by simpa using hl), List.getElem?_eq_none (by simpa using hl)]
  · rw [List.getElem?_set_ne h, if_neg (fun z => h z.1.symm)]
theorem at_some {σ : L2.St} {i : Nat} {v : V} (h : at' σ i = some v) : σ[i]? = some (some v) := by
  unfold at' at h
  cases q : σ[i]? with
  | none => rw [q] at h; cases h
  | some o => rw [q] at h; rw [show o = some v from h]

/-- the part of the heap that a def may read, and the whole heap, at its entry -/
structure Bs where
  Hf0 : Hp
  H0 : Hp
structure Frame (B : Bs) (Hf H : Hp) : Prop where
  rd : Same B.Hf0 Hf
  al : Same B.H0 H
  sub : Same Hf H
  ap : ∀ p o, B.H0 p = some o → B.Hf0 p = none → Hf p = none
def SlotOk (T : Tab) (K : PySem.W.Frag) (B : Bs) (Hf H : Hp) : Sl → Option V → Prop
  | .un, _ => True
  | .va d, o => ∃ v, o = some v ∧ Rep T K Hf d v
  | .ow ds, o => ∃ p vs, o = some (.ref p) ∧ B.H0 p = none ∧ Hf p = none ∧ H p = some (.lst vs) ∧ Reps T K Hf ds vs
structure SR (T : Tab) (K : PySem.W.Frag) (B : Bs) (ρ : Env) (Hf : Hp) (σ : L2.St) (H : Hp) : Prop where
  fr : Frame B Hf H
  len : ρ.length = σ.length
  sl : ∀ i, SlotOk T K B Hf H (lk ρ i) (at' σ i)
  dj : ∀ i j ds es p, i ≠ j → lk ρ i = .ow ds → lk ρ j = .ow es → at' σ i = some (.ref p) → at' σ j ≠ some (.ref p)
section
variable {T : Tab} {K : PySem.W.Frag} {B : Bs} {ρ ρ' : Env} {Hf Hf' H H' : Hp} {σ σ' : L2.St} {p : Addr} {o : HO} {i : Nat} {d : D} {v : V} {ds : List D} {vs : List V}
theorem same_new (h : H p = none) : Same H (upd H p o) := fun b x e => by
  rw [upd_ne (ne_of_none e h)]
  exact e
theorem same_upd2 (s : Same Hf H) : Same (upd Hf p o) (upd H p o) := fun b x e => by
  by_cases h : b = p
  · subst h; rw [upd_same] at e ⊢; exact e
  · rw [upd_ne h] at e ⊢; exact s _ _ e
theorem Frame.new (f : Frame B Hf H) (h : H p = none) : Frame B (upd Hf p o) (upd H p o) :=
  ⟨f.rd.trans (same_new (f.sub.free h)), f.al.trans (same_new h), same_upd2 f.sub, fun q u h0 h1 => by
    rw [upd_ne (ne_of_none (f.al _ _ h0) h)]
    exact f.ap q u h0 h1⟩
theorem SlotOk.mono (e : Same Hf Hf') (hk : ∀ p vs, Hf p = none → H p = some (.lst vs) → Hf' p = none ∧ H' p = some (.lst vs)) : ∀ {s : Sl} {o : Option V}, SlotOk T K B Hf H s o → SlotOk T K B Hf' H' s o
  | .un, _, _ => True.intro
  | .va _, _, ⟨v, q, r⟩ => ⟨v, q, r.mono e⟩
  | .ow _, _, ⟨p, vs, q, h0, hf, h, r⟩ => let ⟨a, b⟩ := hk p vs hf h; ⟨p, vs, q, h0, a, b, r.mono e⟩
/-- a new object, readable -/
theorem SR.new (r : SR T K B ρ Hf σ H) (h : H p = none) : SR T K B ρ (upd Hf p o) σ (upd H p o) :=
  ⟨r.fr.new h, r.len, fun i => (r.sl i).mono (same_new (r.fr.sub.free h)) fun q vs a b => by
    have n : q ≠ p := ne_of_none b h
    exact ⟨by rw [upd_ne n]; exact a, by rw [upd_ne n]; exact b⟩, r.dj⟩
/-- a datum stored -/
theorem SR.set (r : SR T K B ρ Hf σ H) (h : Rep T K Hf d v) : SR T K B (stE ρ i (.va d)) Hf (σ.set i (some v)) H := by
  refine ⟨r.fr, by rw [len_st, List.length_set]; exact r.len, fun j => ?_, fun a b ds es p hab ha hb ea eb => ?_⟩
  · rw [lk_st, at_set, r.len]
    by_cases e : j = i ∧ i < σ.length
    · rw [if_pos e, if_pos e]; exact ⟨v, rfl, h⟩
    · rw [if_neg e, if_neg e]; exact r.sl j
  · rw [lk_st, r.len] at ha hb
    rw [at_set] at ea eb
    by_cases e1 : a = i ∧ i < σ.length
    · rw [if_pos e1] at ha; cases ha
    · by_cases e2 : b = i ∧ i < σ.length
      · rw [if_pos e2] at hb; cases hb
      · rw [if_neg e1] at ha ea
        rw [if_neg e2] at hb eb
        exact r.dj a b ds es p hab ha hb ea eb
/-- forgetting a slot's value -/
theorem SR.unset (r : SR T K B ρ Hf σ H) (x : Option V) : SR T K B (stE ρ i .un) Hf (σ.set i x) H := by
  refine ⟨r.fr, by rw [len_st, List.length_set]; exact r.len, fun j => ?_, fun a b ds es p hab ha hb ea eb => ?_⟩
  · rw [lk_st, at_set, r.len]
    by_cases e : j = i ∧ i < σ.length
    · rw [if_pos e, if_pos e]; exact True.intro
    · rw [if_neg e, if_neg e]; exact r.sl j
  · rw [lk_st, r.len] at ha hb
    rw [at_set] at ea eb
    by_cases e1 : a = i ∧ i < σ.length
    · rw [if_pos e1] at ha; cases ha
    · by_cases e2 : b = i ∧ i < σ.length
      · rw [if_pos e2] at hb; cases hb
      · rw [if_neg e1] at ha ea
        rw [if_neg e2] at hb eb
        exact r.dj a b ds es p hab ha hb ea eb
/-- a new list of the def's own, stored -/
theorem SR.setOwn (r : SR T K B ρ Hf σ H) (h : H p = none) (hr : Reps T K Hf ds vs) : SR T K B (stE ρ i (.ow ds)) Hf (σ.set i (some (.ref p))) (upd H p (.lst vs)) := by
  have h0 : B.H0 p = none := r.fr.al.free h
  have hf : Hf p = none := r.fr.sub.free h
  have own : ∀ j es q, lk ρ j = .ow es → at' σ j = some (.ref q) → q ≠ p := fun j es q e1 e2 z => by
    have s := r.sl j
    rw [e1] at s
    obtain ⟨q', ws, a, _, _, b, _⟩ := s
    rw [e2] at a
    have : q = q' := V.ref.inj (Option.some.inj a)
    rw [← this, z, h] at b
    cases b
  refine ⟨⟨r.fr.rd, r.fr.al.trans (same_new h), r.fr.sub.trans (same_new h), r.fr.ap⟩, by rw [len_st, List.length_set]; exact r.len, fun j => ?_, fun a b es fs q hab ha hb ea eb => ?_⟩
  · rw [lk_st, at_set, r.len]
    by_cases e : j = i ∧ i < σ.length
    · rw [if_pos e, if_pos e]; exact ⟨p, vs, rfl, h0, hf, upd_same, hr⟩
    · rw [if_neg e, if_neg e]
      exact (r.sl j).mono (Same.refl _) fun q ws a b => ⟨a, by rw [upd_ne (ne_of_none b h)]; exact b⟩
  · rw [lk_st, r.len] at ha hb
    rw [at_set] at ea eb
    by_cases e1 : a = i ∧ i < σ.length
    · rw [if_pos e1] at ea
      have ep : p = q := V.ref.inj (Option.some.inj ea)
      by_cases e2 : b = i ∧ i < σ.length
      · exact hab (e1.1.trans e2.1.symm)
      · rw [if_neg e2] at hb eb
        exact own b fs q hb eb ep.symm
    · rw [if_neg e1] at ha ea
      by_cases e2 : b = i ∧ i < σ.length
      · rw [if_pos e2] at eb
        have ep : p = q := V.ref.inj (Option.some.inj eb)
        exact own a es q ha ea ep.symm
      · rw [if_neg e2] at hb eb
        exact r.dj a b es fs q hab ha hb ea eb
/-- an own list is written -/
theorem SR.write {es : List D} {ws : List V} (r : SR T K B ρ Hf σ H) (hi : lk ρ i = .ow ds) (hp : at' σ i = some (.ref p)) (hr : Reps T K Hf es ws) : SR T K B (stE ρ i (.ow es)) Hf σ (upd H p (.lst ws)) := by
  have s := r.sl i
  rw [hi] at s
  obtain ⟨p', vs, a, h0, hf, h, _⟩ := s
  rw [hp] at a
  have ep : p = p' := V.ref.inj (Option.some.inj a)
  subst ep
  have hil : i < ρ.length := by
    refine Nat.lt_of_not_le fun z => ?_
    rw [lk_out z] at hi; cases hi
  refine ⟨⟨r.fr.rd, fun b x e => ?_, fun b x e => ?_, r.fr.ap⟩, by rw [len_st]; exact r.len, fun j => ?_, fun a b fs gs q hab ha hb ea eb => ?_⟩
  · rw [upd_ne (ne_of_none e h0)]; exact r.fr.al _ _ e
  · rw [upd_ne (ne_of_none e hf)]; exact r.fr.sub _ _ e
  · rw [lk_st]
    by_cases e : j = i ∧ i < ρ.length
    · rw [if_pos e, e.1]; exact ⟨p, ws, hp, h0, hf, upd_same, hr⟩
    · rw [if_neg e]
      have hji : j ≠ i := fun z => e ⟨z, hil⟩
      have sj := r.sl j
      revert sj
      generalize hs : lk ρ j = s
      intro sj
      cases s with
      | un => exact True.intro
      | va d => exact sj
      | ow fs =>
        obtain ⟨q, us, a, b, c, d, e⟩ := sj
        have nq : q ≠ p := fun z => r.dj j i fs ds q hji hs hi a (by rw [hp, z])
        exact ⟨q, us, a, b, c, by rw [upd_ne nq]; exact d, e⟩
  · rw [lk_st] at ha hb
    have back : ∀ k gs, (if k = i ∧ i < ρ.length then Sl.ow es else lk ρ k) = .ow gs → ∃ gs', lk ρ k = .ow gs' := fun k gs e => by
      by_cases z : k = i ∧ i < ρ.length
      · exact ⟨ds, z.1 ▸ hi⟩
      · rw [if_neg z] at e; exact ⟨gs, e⟩
    obtain ⟨fs', ha'⟩ := back a fs ha
    obtain ⟨gs', hb'⟩ := back b gs hb
    exact r.dj a b fs' gs' q hab ha' hb' ea eb
/-- an own list becomes readable -/
theorem SR.freeze (r : SR T K B ρ Hf σ H) (hi : lk ρ i = .ow ds) : ∃ Hf', Same Hf Hf' ∧ SR T K B (stE ρ i (.va (.lst ds))) Hf' σ H := by
  have s := r.sl i
  rw [hi] at s
  obtain ⟨p, vs, a, h0, hf, h, hr⟩ := s
  have hil : i < ρ.length := by
    refine Nat.lt_of_not_le fun z => ?_
    rw [lk_out z] at hi; cases hi
  have sm : Same Hf (upd Hf p (.lst vs)) := same_new hf
  refine ⟨upd Hf p (.lst vs), sm, ⟨r.fr.rd.trans sm, r.fr.al, fun b x e => ?_, fun q u e0 e1 => ?_⟩, by rw [len_st]; exact r.len, fun j => ?_, fun a' b fs gs q hab ha hb ea eb => ?_⟩
  · by_cases z : b = p
    · subst z; rw [upd_same] at e; cases e; exact h
    · rw [upd_ne z] at e; exact r.fr.sub _ _ e
  · rw [upd_ne (fun z => by rw [z, h0] at e0; cases e0)]
    exact r.fr.ap q u e0 e1
  · rw [lk_st]
    by_cases e : j = i ∧ i < ρ.length
    · rw [if_pos e, e.1]; exact ⟨.ref p, a, p, vs, rfl, upd_same, hr.mono sm⟩
    · rw [if_neg e]
      have hji : j ≠ i := fun z => e ⟨z, hil⟩
      have sj := r.sl j
      revert sj
      generalize hs : lk ρ j = s
      intro sj
      cases s with
      | un => exact True.intro
      | va d => obtain ⟨v, q, x⟩ := sj; exact ⟨v, q, x.mono sm⟩
      | ow fs =>
        obtain ⟨q, us, a1, b, c, d, e⟩ := sj
        have nq : q ≠ p := fun z => r.dj j i fs ds q hji hs hi a1 (by rw [a, z])
        exact ⟨q, us, a1, b, by rw [upd_ne nq]; exact c, d, e.mono sm⟩
  · rw [lk_st] at ha hb
    by_cases e1 : a' = i ∧ i < ρ.length
    · rw [if_pos e1] at ha; cases ha
    · by_cases e2 : b = i ∧ i < ρ.length
      · rw [if_pos e2] at hb; cases hb
      · rw [if_neg e1] at ha
        rw [if_neg e2] at hb
        exact r.dj a' b fs gs q hab ha hb ea eb
/-! ### weaker slots -/
inductive Wk : Env → Env → Prop
  | n : Wk [] []
  | k {s : Sl} {a b : Env} : Wk a b → Wk (s :: a) (s :: b)
  | f {s : Sl} {a b : Env} : Wk a b → Wk (s :: a) (.un :: b)
  | z {ds : List D} {a b : Env} : Wk a b → Wk (.ow ds :: a) (.va (.lst ds) :: b)
theorem SR.forget (r : SR T K B ρ Hf σ H) (i : Nat) : SR T K B (stE ρ i .un) Hf σ H := by
  have := r.unset (i := i) (at' σ i)
  by_cases h : i < σ.length
  · have e : σ.set i (at' σ i) = σ := by
      refine List.ext_getElem? fun j => ?_
      by_cases hj : i = j
      · subst hj
        rw [List.getElem?_set_self h]
        unfold at'
        rw [List.getElem?_eq_getElem h]
        rfl
      · rw [List.getElem?_set_ne hj]
    rw [e] at this
    exact this
  · rw [List.set_eq_of_length_le (by omega)] at this
    exact this
theorem stE_mid : ∀ (pre : Env) (s x : Sl) (r : Env), stE (pre ++ s :: r) pre.length x = pre ++ x :: r
  | [], _, _, _ => rfl
  | a :: pre, s, x, r => by
    show a :: stE (pre ++ s :: r) pre.length x = _
    rw [stE_mid pre s x r]
    rfl
theorem lk_mid : ∀ (pre : Env) (s : Sl) (r : Env), lk (pre ++ s :: r) pre.length = s
  | [], _, _ => rfl
  | a :: pre, s, r => lk_mid pre s r
theorem SR.weak_pre {a b : Env} (w : Wk a b) : ∀ (pre : Env) (Hf : Hp), SR T K B (pre ++ a) Hf σ H → ∃ Hf', Same Hf Hf' ∧ SR T K B (pre ++ b) Hf' σ H := by
  induction w with
  | n => exact fun pre Hf r => ⟨Hf, Same.refl _, r⟩
  | @k s a b _ ih =>
      intro pre Hf r
      have := ih (pre ++ [s]) Hf (by rw [List.append_assoc]; exact r)
      rw [List.append_assoc] at this
      exact this
  | @f s a b _ ih =>
      intro pre Hf r
      have q := r.forget pre.length
      rw [stE_mid] at q
      have := ih (pre ++ [.un]) Hf (by rw [List.append_assoc]; exact q)
      rw [List.append_assoc] at this
      exact this
  | @z ds a b _ ih =>
      intro pre Hf r
      obtain ⟨Hf1, s1, q⟩ := r.freeze (i := pre.length) (ds := ds) (lk_mid _ _ _)
      rw [stE_mid] at q
      obtain ⟨Hf2, s2, q2⟩ := ih (pre ++ [.va (.lst ds)]) Hf1 (by rw [List.append_assoc]; exact q)
      rw [List.append_assoc] at q2
      exact ⟨Hf2, s1.trans s2, q2⟩
theorem SR.weak (w : Wk ρ ρ') (r : SR T K B ρ Hf σ H) : ∃ Hf', Same Hf Hf' ∧ SR T K B ρ' Hf' σ H := SR.weak_pre w [] Hf r
end
end DL

set_option Elab.async false
set_option linter.all false
set_option maxRecDepth 100000
namespace DL
open PySem PySem.Spec PyProof.Rows L2
/-! ## judgements -/
structure Jx where
  X : Cx
  T : Tab
  B : Bs
  W : WX
section
variable {T : Tab} {K : PySem.W.Frag} {B : Bs} {ρ ρ' : Env} {Hf Hf' Hf2 H H' H2 : Hp} {σ σ' : L2.St} {p : Addr} {o : HO}
theorem Frame.refl (h : Same Hf H) : Frame ⟨Hf, H⟩ Hf H := ⟨Same.refl _, Same.refl _, h, fun _ _ _ h => h⟩
theorem Frame.trans (a : Frame B Hf H) (b : Frame ⟨Hf, H⟩ Hf' H') : Frame B Hf' H' :=
  ⟨a.rd.trans b.rd, a.al.trans b.al, b.sub, fun p o e0 e1 => b.ap p o (a.al _ _ e0) (a.ap p o e0 e1)⟩
theorem Frame.new1 (h : Same Hf H) (e : H p = none) : Frame ⟨Hf, H⟩ (upd Hf p o) (upd H p o) := (Frame.refl h).new e
theorem SR.fx (r : SR T K B ρ Hf σ H) (f : Frame ⟨Hf, H⟩ Hf' H') : SR T K B ρ Hf' σ H' :=
  ⟨r.fr.trans f, r.len, fun i => (r.sl i).mono f.rd fun p vs a b => ⟨f.ap p _ b a, f.al _ _ b⟩, r.dj⟩
end
/-- the state's readings -/
def J0 (J : Jx) (ρ : Env) (Hf : Hp) (σ : L2.St) (H : Hp) : Prop := SR J.T J.X.K J.B ρ Hf σ H
structure PostE (J : Jx) (σ : L2.St) (Hf H : Hp) (k : R → Bool) (Q : VK) : Prop where
  ok : ∀ d, k (.ok d) = true → ∀ Hf' v H', Frame ⟨Hf, H⟩ Hf' H' → Rep J.T J.X.K Hf' d v → Q v H'
  ex : ∀ c, k (.exc c) = true → ∀ Hf' H', Frame ⟨Hf, H⟩ Hf' H' → J.W (.ref (J.T.cls c)) none σ H'
def tE (J : Jx) (ρ : Env) (h : H1) : TE := fun σ H Q => ∃ Hf k, J0 J ρ Hf σ H ∧ h k = true ∧ PostE J σ Hf H k Q
def PF (J : Jx) (ρ : Env) (e : Expr) (h : H1) : Prop := PE J.X e (tE J ρ h)
/-- a test -/
structure PostT (J : Jx) (σ : L2.St) (Hf H : Hp) (k : R → Bool) (Q : Bool → Hp → Prop) : Prop where
  ok : ∀ b, k (.ok (.bl b)) = true → ∀ Hf' H', Frame ⟨Hf, H⟩ Hf' H' → Q b H'
  no : ∀ d, k (.ok d) = true → ∃ b, d = .bl b
  ex : ∀ c, k (.exc c) = true → ∀ Hf' H', Frame ⟨Hf, H⟩ Hf' H' → J.W (.ref (J.T.cls c)) none σ H'
def tT (J : Jx) (ρ : Env) (h : H1) : TT := fun σ H Q => ∃ Hf k, J0 J ρ Hf σ H ∧ h k = true ∧ PostT J σ Hf H k Q
def PFt (J : Jx) (ρ : Env) (e : Expr) (h : H1) : Prop := PT J.X e (tT J ρ h)
def PFw (J : Jx) (ρ : Env) (e : Expr) (h : H1) : Prop := PW J.X e (tT J ρ h)
/-- an argument list: its data as one D list, CPS -/
structure PostA (J : Jx) (σ : L2.St) (Hf H : Hp) (k : (List D ⊕ Nat) → Bool) (Q : List V → Hp → Prop) : Prop where
  ok : ∀ ds, k (.inl ds) = true → ∀ Hf' vs H', Frame ⟨Hf, H⟩ Hf' H' → Reps J.T J.X.K Hf' ds vs → Q vs H'
  ex : ∀ c, k (.inr c) = true → ∀ Hf' H', Frame ⟨Hf, H⟩ Hf' H' → J.W (.ref (J.T.cls c)) none σ H'
def tA (J : Jx) (ρ : Env) (h : HA) : TA := fun σ H Q => ∃ Hf k, J0 J ρ Hf σ H ∧ h k = true ∧ PostA J σ Hf H k Q
def PFA (J : Jx) (ρ : Env) (es : List Expr) (h : HA) : Prop := PA J.X es (tA J ρ h)
/-- a call by a meaning -/
theorem PE.to {X : Cx} {e : Expr} {t t' : TE} (h : PE X e t) (i : ∀ σ H Q, t' σ H Q → t σ H Q) : PE X e t' := ⟨fun p s σ H Q I w => h.run p s σ H Q I (i σ H Q w)⟩
theorem PT.to {X : Cx} {e : Expr} {t t' : TT} (h : PT X e t) (i : ∀ σ H Q, t' σ H Q → t σ H Q) : PT X e t' := ⟨fun p s σ H Q I w => h.run p s σ H Q I (i σ H Q w)⟩
theorem PW.to {X : Cx} {e : Expr} {t t' : TT} (h : PW X e t) (i : ∀ σ H Q, t' σ H Q → t σ H Q) : PW X e t' := ⟨fun wh p s σ H Q I w => h.run wh p s σ H Q I (i σ H Q w)⟩
theorem PA.to {X : Cx} {es : List Expr} {t t' : TA} (h : PA X es t) (i : ∀ σ H Q, t' σ H Q → t σ H Q) : PA X es t' := ⟨fun pos p s σ H Q I w => h.run pos p s σ H Q I (i σ H Q w)⟩
theorem PS.to {X : Cx} {e : Stmt} {t t' : TS} (h : PS X e t) (i : ∀ D σ H, t' D σ H → t D σ H) : PS X e t' := ⟨fun p s σ H D I w => h.run p s σ H D I (i D σ H w)⟩
theorem PSs.to {X : Cx} {e : List Stmt} {t t' : TS} (h : PSs X e t) (i : ∀ D σ H, t' D σ H → t D σ H) : PSs X e t' := ⟨fun p s σ H D I w => h.run p s σ H D I (i D σ H w)⟩

section
variable {J : Jx} {ρ : Env} {e a b c : Expr} {es : List Expr} {pos p : Pos}
/-- sequencing: behind an expression -/
theorem PostE.bind {σ : L2.St} {Hf H : Hp} {k : R → Bool} {f : D → H1} {Q' : VK}
    (hx : ∀ c, k (.exc c) = true → ∀ Hf' H', Frame ⟨Hf, H⟩ Hf' H' → J.W (.ref (J.T.cls c)) none σ H')
    (ho : ∀ d, f d k = true → ∀ Hf' v H', Frame ⟨Hf, H⟩ Hf' H' → Rep J.T J.X.K Hf' d v → Q' v H') :
    PostE J σ Hf H (fun r => match r with | .ok d => f d k | .exc c => k (.exc c)) Q' := ⟨fun d h => ho d h, fun c h => hx c h⟩
theorem pf_var (i : Nat) {x : Str} {d : D} (hl : lk ρ i = .va d := by rfl) (hN : J.X.N[i]? = some x := by rfl) (hv : Vis J.X.env.scope x := by first | exact Or.inl rfl | exact Or.inr (Or.inl rfl) | exact Or.inr (Or.inr rfl))
    (hd : (x == ("__debug__" : Str)) = false := by decide) (hcd : (x == ("__classdict__" : Str)) = false := by decide) : PF J ρ (.Name x pos) (hC d) :=
  PE.to (pe_var hN hv hd hcd) fun σ H Q ⟨Hf, k, r, h, P⟩ => by
    have s := SR.sl r i
    rw [hl] at s
    obtain ⟨v, e, rv⟩ := s
    exact ⟨v, at_some e, P.ok d h Hf v H (Frame.refl r.fr.sub) rv⟩
theorem pf_const {d : D} {v : V} (hp : PE J.X e (tC v)) (hr : ∀ Hf, Rep J.T J.X.K Hf d v) : PF J ρ e (hC d) :=
  PE.to hp fun σ H Q ⟨Hf, k, r, h, P⟩ => P.ok d h Hf v H (Frame.refl r.fr.sub) (hr Hf)
theorem pf_int {i : Int} {j : Nat} : PF J ρ (.Constant (.int i) j pos) (hC (.int i)) := pf_const pe_int fun _ => by unfold Rep; rfl
theorem pf_bl {b : Bool} {j : Nat} : PF J ρ (.Constant (.bool b) j pos) (hC (.bl b)) := pf_const pe_bl fun _ => by unfold Rep; rfl
theorem pf_non {j : Nat} : PF J ρ (.Constant .none j pos) (hC .non) := pf_const pe_non fun _ => by unfold Rep; rfl
theorem pf_str (x : List Nat) {s : Str} {j : Nat} (hx : s = mkS x := by decide +kernel) : PF J ρ (.Constant (.str s) j pos) (hC (.str x)) := pf_const pe_str fun _ => by unfold Rep; rw [hx]
/-- a module's constant -/
theorem pf_glob {x : Str} {u : Value} {v : V} (d : D) (hm : J.X.mg x = some u) (r : RelV v u) (hr : ∀ Hf, Rep J.T J.X.K Hf d v) (hg : Gl J.X x := by rfl) (hd : (x == ("__debug__" : Str)) = false := by decide) : PF J ρ (.Name x pos) (hC d) :=
  pf_const (pe_glob hg hm r hd) hr

/-! ### operators -/
def SndO (J : Jx) (r : R2) (F : D → D → Option D) : Prop := ∀ (x y z : D) (v u : V) (Hf H : Hp) (Q : VK), F x y = some z → Same Hf H → Rep J.T J.X.K Hf x v → Rep J.T J.X.K Hf y u →
  (∀ Hf' w H', Frame ⟨Hf, H⟩ Hf' H' → Rep J.T J.X.K Hf' z w → Q w H') → r v u H Q
theorem hO_some {o : Option D} {k : R → Bool} (h : hO o k = true) : ∃ z, o = some z ∧ k (.ok z) = true := by
  cases o with
  | none => cases h
  | some z => exact ⟨z, rfl, h⟩
theorem pf_binop {op : Operator} {r : R2} {F : D → D → Option D} {ha hb : H1} (ho : OpR J.X (binaryOp op) r) (hs : SndO J r F) (pa : PF J ρ a ha) (pb : PF J ρ b hb) :
    PF J ρ (.BinOp a op b pos) (hB ha fun x => hB hb fun y => hO (F x y)) :=
  PE.to (pe_op ho pa pb) fun σ H Q ⟨Hf, k, r, h, P⟩ =>
    ⟨Hf, _, r, h, .bind P.ex fun x hx Hf1 v H1 f1 rv => ⟨Hf1, _, SR.fx r f1, hx, .bind (fun c hc Hf2 H2 f2 => P.ex c hc Hf2 H2 (f1.trans f2)) fun y hy Hf2 u H2 f2 ru => by
      obtain ⟨z, e, hk⟩ := hO_some hy
      exact hs x y z v u Hf2 H2 Q e f2.sub (rv.mono f2.rd) ru fun Hf3 w H3 f3 rw' => P.ok z hk Hf3 w H3 ((f1.trans f2).trans f3) rw'⟩⟩
theorem pf_cmp {op : CmpOp} {r : R2} {F : D → D → Option D} {ha hb : H1} (ho : OpR J.X (compareOp op) r) (hs : SndO J r F) (pa : PF J ρ a ha) (pb : PF J ρ b hb)
    (hm : behindInMarks op b = false := by first | exact nomark _ | rfl) : PF J ρ (.Compare a [op] [b] pos) (hB ha fun x => hB hb fun y => hO (F x y)) :=
  PE.to (pe_cmpR ho pa pb hm) fun σ H Q ⟨Hf, k, r, h, P⟩ =>
    ⟨Hf, _, r, h, .bind P.ex fun x hx Hf1 v H1 f1 rv => ⟨Hf1, _, SR.fx r f1, hx, .bind (fun c hc Hf2 H2 f2 => P.ex c hc Hf2 H2 (f1.trans f2)) fun y hy Hf2 u H2 f2 ru => by
      obtain ⟨z, e, hk⟩ := hO_some hy
      exact hs x y z v u Hf2 H2 Q e f2.sub (rv.mono f2.rd) ru fun Hf3 w H3 f3 rw' => P.ok z hk Hf3 w H3 ((f1.trans f2).trans f3) rw'⟩⟩
/-- a test by an expression's rule: PT over tB or tTest -/
theorem pt_of {t : TE} {tt : TT} (hp : PT J.X e tt) (hx : ∀ σ H Q, t σ H (fun x H1 => ∃ c, x = .bl c ∧ Q c H1) → tt σ H Q) {h : H1} (hi : ∀ σ H Q, tE J ρ h σ H Q → t σ H Q) : PFt J ρ e h :=
  PT.to hp fun σ H Q ⟨Hf, k, r, hh, P⟩ => hx σ H Q (hi σ H _ ⟨Hf, k, r, hh, ⟨fun d hd Hf' v H' f rv => by
    obtain ⟨b, rfl⟩ := P.no d hd
    unfold Rep at rv
    exact ⟨b, rv, P.ok b hd Hf' H' f⟩, P.ex⟩⟩)
theorem ptf_cmp {op : CmpOp} {r : R2} {F : D → D → Option D} {ha hb : H1} (ho : OpR J.X (compareOp op) r) (hs : SndO J r F) (pa : PF J ρ a ha) (pb : PF J ρ b hb)
    (hm : behindInMarks op b = false := by first | exact nomark _ | rfl) : PFt J ρ (.Compare a [op] [b] pos) (hB ha fun x => hB hb fun y => hO (F x y)) :=
  pt_of (pt_cmpR ho pa pb hm) (fun _ _ _ h => h) fun σ H Q ⟨Hf, k, r, h, P⟩ =>
    ⟨Hf, _, r, h, .bind P.ex fun x hx Hf1 v H1 f1 rv => ⟨Hf1, _, SR.fx r f1, hx, .bind (fun c hc Hf2 H2 f2 => P.ex c hc Hf2 H2 (f1.trans f2)) fun y hy Hf2 u H2 f2 ru => by
      obtain ⟨z, e, hk⟩ := hO_some hy
      exact hs x y z v u Hf2 H2 Q e f2.sub (rv.mono f2.rd) ru fun Hf3 w H3 f3 rw' => P.ok z hk Hf3 w H3 ((f1.trans f2).trans f3) rw'⟩⟩
theorem ptf_val {h : H1} (pe : PF J ρ e h) (he : ∀ whole, isTrue e J.X.env whole = (do let v ← whole; standAt e.pos; holding [v] (truthy v)) := by intro _; rfl) : PFt J ρ e h :=
  pt_of (pt_val pe he) (fun _ _ _ h => h) fun _ _ _ h => h
/-! ### and, or, not, if -/
theorem match_bl {k1 k2 : Bool} {k : R → Bool} {d : D} {f : D → Bool} (h : (match d with | .bl true => k1 | .bl false => k2 | _ => false) = true) : (d = .bl true ∧ k1 = true) ∨ (d = .bl false ∧ k2 = true) := by
  cases d with
  | bl b => cases b with
    | true => exact .inl ⟨rfl, h⟩
    | false => exact .inr ⟨rfl, h⟩
  | _ => cases h
theorem pw1 {op : BoolOp} {h : H1} (pa : PFt J ρ a h) : PFw J ρ (.BoolOp op [a] pos) h := by
  cases op with
  | And => exact pw_and1 pa
  | Or => exact pw_or1 pa
theorem ptf_and {rest : List Expr} {ha hb : H1} (pa : PFt J ρ a ha) (pb : PFw J ρ (.BoolOp .And (b :: rest) pos) hb) : PFw J ρ (.BoolOp .And (a :: b :: rest) pos) (hAnd ha hb) :=
  PW.to (pw_and pa pb) fun σ H Q ⟨Hf, k, r, h, P⟩ => ⟨Hf, _, r, h, {
    ok := fun x hx Hf1 H1 f1 => by
      cases x with
      | true => exact iteT ⟨Hf1, k, SR.fx r f1, hx, ⟨fun b hb Hf2 H2 f2 => P.ok b hb Hf2 H2 (f1.trans f2), P.no, fun c hc Hf2 H2 f2 => P.ex c hc Hf2 H2 (f1.trans f2)⟩⟩
      | false => exact iteF (P.ok false hx Hf1 H1 f1)
    no := fun d hd => by
      cases d with
      | bl b => exact ⟨b, rfl⟩
      | _ => cases hd
    ex := P.ex }⟩
theorem ptf_or {rest : List Expr} {ha hb : H1} (pa : PFt J ρ a ha) (pb : PFw J ρ (.BoolOp .Or (b :: rest) pos) hb) : PFw J ρ (.BoolOp .Or (a :: b :: rest) pos) (hOr ha hb) :=
  PW.to (pw_or pa pb) fun σ H Q ⟨Hf, k, r, h, P⟩ => ⟨Hf, _, r, h, {
    ok := fun x hx Hf1 H1 f1 => by
      cases x with
      | false => exact iteF ⟨Hf1, k, SR.fx r f1, hx, ⟨fun b hb Hf2 H2 f2 => P.ok b hb Hf2 H2 (f1.trans f2), P.no, fun c hc Hf2 H2 f2 => P.ex c hc Hf2 H2 (f1.trans f2)⟩⟩
      | true => exact iteT (P.ok true hx Hf1 H1 f1)
    no := fun d hd => by
      cases d with
      | bl b => exact ⟨b, rfl⟩
      | _ => cases hd
    ex := P.ex }⟩
theorem ptf_w {h : H1} (pa : PFw J ρ e h) : PFt J ρ e h := PW.pt pa
theorem ptf_not {ha : H1} (pa : PFt J ρ a ha) : PFt J ρ (.UnaryOp .Not a pos) (hNot ha) :=
  PT.to (pt_not pa) fun σ H Q ⟨Hf, k, r, h, P⟩ => ⟨Hf, _, r, h, {
    ok := fun x hx Hf1 H1 f1 => P.ok (!x) hx Hf1 H1 f1
    no := fun d hd => by
      cases d with
      | bl b => exact ⟨b, rfl⟩
      | _ => cases hd
    ex := P.ex }⟩
theorem pf_not {ha : H1} (pa : PF J ρ a ha) : PF J ρ (.UnaryOp .Not a pos) (hNot ha) :=
  PE.to (pe_not pa) fun σ H Q ⟨Hf, k, r, h, P⟩ => ⟨Hf, _, r, h, {
    ok := fun d hd Hf1 v H1 f1 rv => by
      cases d with
      | bl b => unfold Rep at rv; exact ⟨b, rv, P.ok (.bl (!b)) hd Hf1 _ H1 f1 (by unfold Rep; rfl)⟩
      | _ => cases hd
    ex := P.ex }⟩
theorem pf_one {op : BoolOp} {h : H1} (pa : PF J ρ a h) : PF J ρ (.BoolOp op [a] pos) h := pe_one pa
theorem pf_and {rest : List Expr} {ha hb : H1} (pa : PF J ρ a ha) (pb : PF J ρ (.BoolOp .And (b :: rest) pos) hb) : PF J ρ (.BoolOp .And (a :: b :: rest) pos) (hAnd ha hb) :=
  PE.to (pe_and pa pb) fun σ H Q ⟨Hf, k, r, h, P⟩ => ⟨Hf, _, r, h, {
    ok := fun d hd Hf1 v H1 f1 rv => by
      cases d with
      | bl x =>
        unfold Rep at rv
        refine ⟨x, rv, ?_⟩
        cases x with
        | true => exact iteT ⟨Hf1, k, SR.fx r f1, hd, ⟨fun b hb Hf2 v H2 f2 => P.ok b hb Hf2 v H2 (f1.trans f2), fun c hc Hf2 H2 f2 => P.ex c hc Hf2 H2 (f1.trans f2)⟩⟩
        | false => exact iteF (P.ok _ hd Hf1 _ H1 f1 (by unfold Rep; rfl))
      | _ => cases hd
    ex := P.ex }⟩
theorem pf_or {rest : List Expr} {ha hb : H1} (pa : PF J ρ a ha) (pb : PF J ρ (.BoolOp .Or (b :: rest) pos) hb) : PF J ρ (.BoolOp .Or (a :: b :: rest) pos) (hOr ha hb) :=
  PE.to (pe_or pa pb) fun σ H Q ⟨Hf, k, r, h, P⟩ => ⟨Hf, _, r, h, {
    ok := fun d hd Hf1 v H1 f1 rv => by
      cases d with
      | bl x =>
        unfold Rep at rv
        refine ⟨x, rv, ?_⟩
        cases x with
        | false => exact iteF ⟨Hf1, k, SR.fx r f1, hd, ⟨fun b hb Hf2 v H2 f2 => P.ok b hb Hf2 v H2 (f1.trans f2), fun c hc Hf2 H2 f2 => P.ex c hc Hf2 H2 (f1.trans f2)⟩⟩
        | true => exact iteT (P.ok _ hd Hf1 _ H1 f1 (by unfold Rep; rfl))
      | _ => cases hd
    ex := P.ex }⟩
theorem pf_if {hc ha hb : H1} (pc : PFt J ρ c hc) (pa : PF J ρ a ha) (pb : PF J ρ b hb) : PF J ρ (.IfExp c a b pos) (hIf hc ha hb) :=
  PE.to (pe_ifExp pc pa pb) fun σ H Q ⟨Hf, k, r, h, P⟩ => ⟨Hf, _, r, h, {
    ok := fun x hx Hf1 H1 f1 => by
      cases x with
      | true => exact iteT ⟨Hf1, k, SR.fx r f1, hx, ⟨fun b hb Hf2 v H2 f2 => P.ok b hb Hf2 v H2 (f1.trans f2), fun c hc Hf2 H2 f2 => P.ex c hc Hf2 H2 (f1.trans f2)⟩⟩
      | false => exact iteF ⟨Hf1, k, SR.fx r f1, hx, ⟨fun b hb Hf2 v H2 f2 => P.ok b hb Hf2 v H2 (f1.trans f2), fun c hc Hf2 H2 f2 => P.ex c hc Hf2 H2 (f1.trans f2)⟩⟩
    no := fun d hd => by
      cases d with
      | bl b => exact ⟨b, rfl⟩
      | _ => cases hd
    ex := P.ex }⟩
/-! ### argument lists, displays, calls -/
theorem pfa_nil : PFA J ρ [] aN := PA.to pa_nil fun σ H Q ⟨Hf, k, r, h, P⟩ => P.ok [] h Hf [] H (Frame.refl r.fr.sub) rfl
theorem pfa_cons {ha : H1} {ht : HA} (pa : PF J ρ e ha) (pt : PFA J ρ es ht) (hs : starEach (e :: es) J.X.env = (false, eval e J.X.env) :: starEach es J.X.env := by rfl) : PFA J ρ (e :: es) (aC ha ht) :=
  PA.to (pa_cons pa pt hs) fun σ H Q ⟨Hf, k, r, h, P⟩ => ⟨Hf, _, r, h, {
    ok := fun d hd Hf1 v H1 f1 rv => ⟨Hf1, _, SR.fx r f1, hd, {
      ok := fun ds hds Hf2 vs H2 f2 rvs => P.ok (d :: ds) hds Hf2 (v :: vs) H2 (f1.trans f2) ⟨v, vs, rfl, rv.mono f2.rd, rvs⟩
      ex := fun c hc Hf2 H2 f2 => P.ex c hc Hf2 H2 (f1.trans f2) }⟩
    ex := fun c hc Hf2 H2 f2 => P.ex c hc Hf2 H2 f2 }⟩
theorem lenLe_ok {α : Type} : ∀ {l : List α} {n : Nat}, lenLe l n = true → l.length ≤ n
  | [], _, _ => Nat.zero_le _
  | _ :: _, 0, h => by cases h
  | _ :: r, n + 1, h => Nat.succ_le_succ (lenLe_ok (l := r) h)
theorem big_line : big < sizeLine := by rw [sizeLine_eq]; decide
theorem pf_tup {x1 : Nat} {h : HA} (pa : PFA J ρ es h) : PF J ρ (.Tuple es x1 pos) (hA h (oL .tup)) :=
  PE.to (pe_tup pa) fun σ H Q ⟨Hf, k, r, h, P⟩ => ⟨Hf, _, r, h, {
    ok := fun ds hd Hf1 vs H1 f1 rv => by
      have hd' : (lenLe ds big && k (.ok (.tup ds))) = true := hd
      rw [Bool.and_eq_true] at hd'
      have hz := lenLe_ok hd'.1
      refine ⟨by rw [rv.length]; exact Nat.le_trans hz (Nat.le_of_lt big_line), fun q hq => ?_⟩
      have nf : Frame ⟨Hf1, H1⟩ (upd Hf1 q (.tup vs)) (upd H1 q (.tup vs)) := Frame.new1 f1.sub hq
      exact P.ok _ hd'.2 _ _ _ (f1.trans nf) ⟨q, vs, rfl, .inl (.inl upd_same), rv.mono nf.rd⟩
    ex := P.ex }⟩
theorem pf_lst {x1 : Nat} {h : HA} (pa : PFA J ρ es h) : PF J ρ (.List es pos) (hA h (oL .lst)) :=
  PE.to (pe_lst pa) fun σ H Q ⟨Hf, k, r, h, P⟩ => ⟨Hf, _, r, h, {
    ok := fun ds hd Hf1 vs H1 f1 rv => by
      have hd' : (lenLe ds big && k (.ok (.lst ds))) = true := hd
      rw [Bool.and_eq_true] at hd'
      have hz := lenLe_ok hd'.1
      refine ⟨by rw [rv.length]; exact Nat.le_trans hz (Nat.le_of_lt big_line), fun q hq => ?_⟩
      have nf : Frame ⟨Hf1, H1⟩ (upd Hf1 q (.lst vs)) (upd H1 q (.lst vs)) := Frame.new1 f1.sub hq
      exact P.ok _ hd'.2 _ _ _ (f1.trans nf) ⟨q, vs, rfl, upd_same, rv.mono nf.rd⟩
    ex := P.ex }⟩
/-- built-ins by a rule of values -/
def SndC (J : Jx) (r : List V → Hp → VK → Prop) (F : List D → Option D) : Prop := ∀ (ds : List D) (z : D) (vs : List V) (Hf H : Hp) (Q : VK), F ds = some z → Same Hf H → Reps J.T J.X.K Hf ds vs →
  (∀ Hf' w H', Frame ⟨Hf, H⟩ Hf' H' → Rep J.T J.X.K Hf' z w → Q w H') → r vs H Q
theorem post_args {σ : L2.St} {Hf H : Hp} {k : R → Bool} {Q : VK} {F : List D → Option D} {r : List V → Hp → VK → Prop} (hs : SndC J r F) (P : PostE J σ Hf H k Q) :
    PostA J σ Hf H (fun r => match r with | .inl ds => hO (F ds) k | .inr c => k (.exc c)) (fun vs H1 => r vs H1 Q) := {
  ok := fun ds hd Hf1 vs H1 f1 rv => by
    obtain ⟨z, e, hk⟩ := hO_some hd
    exact hs ds z vs Hf1 H1 Q e f1.sub rv fun Hf2 w H2 f2 rw' => P.ok z hk Hf2 w H2 (f1.trans f2) rw'
  ex := P.ex }
theorem pf_callB {x : Str} {id : String} {r : List V → Hp → VK → Prop} {F : List D → Option D} {h : HA} (hc : CallR J.X (.builtin id) r) (hs : SndC J r F) (hm : J.X.mg x = none) (hv : bootBuiltins x = some (.builtin id)) (pa : PFA J ρ (e :: es) h) (hg : Gl J.X x := by rfl)
    (hn : x ≠ "__name__" := by decide) (hdb : (x == ("__debug__" : Str)) = false := by decide)
    (he : starEach (e :: es) J.X.env = (false, eval e J.X.env) :: starEach es J.X.env := by rfl) (hpl : (backTo pos (starEach es J.X.env)).any (·.1) = false := by rfl) :
    PF J ρ (.Call (.Name x p) (e :: es) [] pos) (hA h fun ds => hO (F ds)) :=
  PE.to (pe_callB hc hg hm hv pa hn hdb he hpl) fun σ H Q ⟨Hf, k, r, h, P⟩ => ⟨Hf, _, r, h, post_args hs P⟩
theorem pf_callTy {x : Str} {id : String} {r : List V → Hp → VK → Prop} {F : List D → Option D} {h : HA} (hc : CallR J.X (.type id) r) (hs : SndC J r F) (hm : J.X.mg x = none) (hv : bootBuiltins x = some (.type id)) (pa : PFA J ρ (e :: es) h) (hg : Gl J.X x := by rfl)
    (hn : x ≠ "__name__" := by decide) (hdb : (x == ("__debug__" : Str)) = false := by decide)
    (he : starEach (e :: es) J.X.env = (false, eval e J.X.env) :: starEach es J.X.env := by rfl) (hpl : (backTo pos (starEach es J.X.env)).any (·.1) = false := by rfl) :
    PF J ρ (.Call (.Name x p) (e :: es) [] pos) (hA h fun ds => hO (F ds)) :=
  PE.to (pe_callTy hc hg hm hv pa hn hdb he hpl) fun σ H Q ⟨Hf, k, r, h, P⟩ => ⟨Hf, _, r, h, post_args hs P⟩
/-! ### defs -/
def spC (T : Tab) (K : PySem.W.Frag) (n : Nat) (g : Fn) : Sp := fun vs H Q E => vs.length = n ∧ ∃ Hf ds k, Same Hf H ∧ Reps T K Hf ds vs ∧ g ds k = true ∧
  (∀ d, k (.ok d) = true → ∀ Hf' v H', Frame ⟨Hf, H⟩ Hf' H' → Rep T K Hf' d v → Q v H') ∧ (∀ c, k (.exc c) = true → ∀ Hf' H', Frame ⟨Hf, H⟩ Hf' H' → E (.ref (T.cls c)) none H')
structure DefAt (P : Program) (w : World) (K : PySem.W.Frag) (mg : Str → Option Value) (base : Heap) (A : Around) (T : Tab) (x : Str) (n : Nat) (g : Fn) : Prop where
  ex : ∃ (k : Nat) (f : Addr) (fd : FuncData) (ps : List Str), FnOk P w K mg base (CX P w) k f fd ps (spC T K n g) ∧ Room k A ∧ mg x = some (.ref f) ∧ PySem.W.keepIn K (.ref f) = true ∧ Binds K fd ps []
theorem pf_call {x : Str} {n : Nat} {g : Fn} {h : HA} (d : DefAt J.X.prog J.X.w J.X.K J.X.mg J.X.base J.X.A J.T x n g) (tk : Takes J.X J.W) (pa : PFA J ρ (e :: es) h) (hn : (e :: es).length = n := by rfl) (hg : Gl J.X x := by rfl) (hdb : (x == ("__debug__" : Str)) = false := by decide)
    (he : starEach (e :: es) J.X.env = (false, eval e J.X.env) :: starEach es J.X.env := by rfl) (hpl : (backTo pos (starEach es J.X.env)).any (·.1) = false := by rfl) :
    PF J ρ (.Call (.Name x p) (e :: es) [] pos) (hA h fun ds k => Nat.beq ds.length n && g ds k) := by
  obtain ⟨kk, f, fd, ps, F, hr, hm, hk, hb⟩ := d.ex
  refine PE.to (pe_callSD (E := fun σ cls d H => J.W cls d σ H) F hr hg hm hk hb .nil (fun σ => passAt tk σ) pa hdb he hpl) fun σ H Q ⟨Hf, k, r, h, P⟩ => ⟨Hf, _, r, h, {
    ok := fun ds hd Hf1 vs H1 f1 rv => ?_
    ex := P.ex }⟩
  have hd' : (Nat.beq ds.length n && g ds k) = true := hd
  rw [Bool.and_eq_true] at hd'
  have en : ds.length = n := Nat.eq_of_beq_eq_true hd'.1
  show spC J.T J.X.K n g (vs ++ []) H1 Q _
  rw [List.append_nil]
  exact ⟨by rw [rv.length]; exact en, Hf1, ds, k, f1.sub, rv, hd'.2, fun d hk Hf2 v H2 f2 rv2 => P.ok d hk Hf2 v H2 (f1.trans f2) rv2, fun c hc Hf2 H2 f2 => P.ex c hc Hf2 H2 (f1.trans f2)⟩
end
end DL

set_option Elab.async false
set_option linter.all false
set_option maxRecDepth 100000
namespace DL
open PySem PySem.Spec PyProof.Rows L2
/-! ## statements -/
structure PostS (J : Jx) {S L : Type} (eS : S → Env) (eL : L → Env) (Hf : Hp) (k : O S L → Bool) (D : Ends) : Prop where
  nx : ∀ s, k (.nx s) = true → ∀ Hf' σ' H', Same Hf Hf' → J0 J (eS s) Hf' σ' H' → D.nx σ' H'
  bk : ∀ s, k (.bk s) = true → ∀ Hf' σ' H', Same Hf Hf' → J0 J (eL s) Hf' σ' H' → D.bk σ' H'
  ct : ∀ s, k (.ct s) = true → ∀ Hf' σ' H', Same Hf Hf' → J0 J (eL s) Hf' σ' H' → D.ct σ' H'
  rt : ∀ d, k (.rt d) = true → ∀ Hf' v H', Same Hf Hf' → Frame J.B Hf' H' → Rep J.T J.X.K Hf' d v → D.rt v H'
  ex : ∀ c, k (.exc c) = true → ∀ Hf' σ' H', Same Hf Hf' → Frame J.B Hf' H' → J.W (.ref (J.T.cls c)) none σ' H'
def tS (J : Jx) {S L : Type} (ρ : Env) (eS : S → Env) (eL : L → Env) (h : HS S L) : TS := fun D σ H => ∃ Hf k, J0 J ρ Hf σ H ∧ h k = true ∧ PostS J eS eL Hf k D
def PFb (J : Jx) {S L : Type} (ρ : Env) (eS : S → Env) (eL : L → Env) (st : List Stmt) (h : HS S L) : Prop := PSs J.X st (tS J ρ eS eL h)
/-- what every rule asks of the context -/
structure JOk (J : Jx) : Prop where
  calm : J.X.calm = true
  pass : PassesOwn (model J.X.prog J.X.w) J.X.A J.X.env J.X.xe
  tk : Takes J.X J.W
  nd : J.X.N.Nodup
def eN : Empty → Env := fun e => nomatch e
def eU (n : Nat) : Unit → Env := fun _ => List.replicate n .un
section
variable {J : Jx} {S L : Type} {ρ ρ1 : Env} {eS : S → Env} {eL : L → Env} {e : Expr} {rest : List Stmt} {pos pos' p : Pos}
theorem PostS.mono {Hf Hf' : Hp} {k : O S L → Bool} {D : Ends} (P : PostS J eS eL Hf k D) (s : Same Hf Hf') : PostS J eS eL Hf' k D :=
  ⟨fun a h b c d x => P.nx a h b c d (s.trans x), fun a h b c d x => P.bk a h b c d (s.trans x), fun a h b c d x => P.ct a h b c d (s.trans x), fun a h b c d x => P.rt a h b c d (s.trans x), fun a h b c d x => P.ex a h b c d (s.trans x)⟩
theorem pb_nil {s : S} (w : Wk ρ (eS s)) : PFb J ρ eS eL [] (sNx s) :=
  PSs.to pss_nil fun D σ H ⟨Hf, k, r, h, P⟩ => by
    obtain ⟨Hf', sm, r'⟩ := SR.weak w r
    exact P.nx s h Hf' σ H sm r'
theorem pb_wk {h : HS S L} {st : List Stmt} (w : Wk ρ ρ1) (pr : PFb J ρ1 eS eL st h) : PFb J ρ eS eL st h :=
  PSs.to pr fun D σ H ⟨Hf, k, r, h, P⟩ => by
    obtain ⟨Hf', sm, r'⟩ := SR.weak w r
    exact ⟨Hf', k, r', h, P.mono sm⟩
theorem pb_ret {h : H1} (pa : PF J ρ e h) : PFb J ρ eS eL (.Return (some e) pos :: rest) (sRet h) :=
  PSs.to (pss_cons (ps_ret pa) pss_never) fun D σ H ⟨Hf, k, r, h, P⟩ => ⟨Hf, _, r, h, {
    ok := fun d hd Hf' v H' f rv => P.rt d hd Hf' v H' f.rd (r.fr.trans f) rv
    ex := fun c hc Hf' H' f => P.ex c hc Hf' σ H' f.rd (r.fr.trans f) }⟩
/-- the block behind, whatever the datum -/
def tAny {α : Type} (t : α → TS) : TS := fun D σ H => ∃ a, t a D σ H
theorem pss_any {X : Cx} {α : Type} {st : List Stmt} {t : α → TS} (h : ∀ a, PSs X st (t a)) : PSs X st (tAny t) := ⟨fun p s σ H D I ⟨a, w⟩ => (h a).run p s σ H D I w⟩
theorem pb_let (i : Nat) {ρ' : D → Env} {x : Str} {h : H1} {f : D → HS S L} (jo : JOk J) (pa : PF J ρ e h) (pr : ∀ d, PFb J (ρ' d) eS eL rest (f d)) (hρ : ∀ d, ρ' d = stE ρ i (.va d) := by intro _; rfl)
    (hi : J.X.N[i]? = some x := by rfl) (hx : Loc J.X.env.scope x := by first | exact Or.inl rfl | exact Or.inr rfl) (hs : swapsWith e (some (.Name x pos')) pos.line J.X.env = pure false := by rfl)
    (hf : J.X.fn x = true ∨ J.X.env.scope.names.lookup x = some .local := by first | exact .inl rfl | exact .inr rfl) :
    PFb J ρ eS eL (.Assign [.Name x pos'] e pos :: rest) (sLet h f) :=
  PSs.to (pss_cons (ps_set jo.nd hi hx pa hs hf) (pss_any pr)) fun D σ H ⟨Hf, k, r, h, P⟩ => ⟨Hf, _, r, h, {
    ok := fun d hd Hf' v H' f rv => ⟨d, Hf', k, by rw [hρ]; exact (SR.fx r f).set rv, hd, P.mono f.rd⟩
    ex := fun c hc Hf' H' f => P.ex c hc Hf' σ H' f.rd (r.fr.trans f) }⟩
theorem pb_do {h : H1} {f : HS S L} (pa : PF J ρ e h) (pr : PFb J ρ eS eL rest f) (hs : swapsWith e none pos.line J.X.env = pure false := by rfl) : PFb J ρ eS eL (.Expr e pos :: rest) (sDo h f) :=
  PSs.to (pss_cons (ps_expr pa hs) pr) fun D σ H ⟨Hf, k, r, h, P⟩ => ⟨Hf, _, r, h, {
    ok := fun d hd Hf' v H' f rv => ⟨Hf', k, SR.fx r f, hd, P.mono f.rd⟩
    ex := fun c hc Hf' H' f => P.ex c hc Hf' σ H' f.rd (r.fr.trans f) }⟩
theorem bl_cases {d : D} {a b : Bool} (h : (match (R.ok d) with | .ok (.bl true) => a | .ok (.bl false) => b | .ok _ => false | .exc _ => false) = true) : ∃ x, d = .bl x := by
  cases d with
  | bl x => exact ⟨x, rfl⟩
  | _ => cases h
/-- an if at a block's end -/
theorem pb_ifE {c : Expr} {A B : List Stmt} {hc : H1} {hA hB : HS S L} (pc : PFt J ρ c hc) (pA : PFb J ρ eS eL A hA) (pB : PFb J ρ eS eL B hB) : PFb J ρ eS eL [.If c A B pos] (sIf hc hA hB) :=
  PSs.to (pss_cons (ps_if pc pA pB) pss_nil) fun D σ H ⟨Hf, k, r, h, P⟩ => ⟨Hf, _, r, h, {
    ok := fun b hb Hf' H' f => by
      cases b with
      | true => exact iteT ⟨Hf', k, SR.fx r f, hb, P.mono f.rd⟩
      | false => exact iteF ⟨Hf', k, SR.fx r f, hb, P.mono f.rd⟩
    no := fun d hd => by
      cases d with
      | bl x => exact ⟨x, rfl⟩
      | _ => cases hd
    ex := fun c hc Hf' H' f => P.ex c hc Hf' σ H' f.rd (r.fr.trans f) }⟩
/-- an if whose suite never falls through -/
theorem pb_ifR {c : Expr} {A : List Stmt} {hc : H1} {hA : HS Empty L} {f : HS S L} (pc : PFt J ρ c hc) (pA : PFb J ρ eN eL A hA) (pr : PFb J ρ eS eL rest f) : PFb J ρ eS eL (.If c A [] pos :: rest) (sIf hc (sEm hA) f) :=
  PSs.to (pss_cons (ps_if pc pA pss_nil) pr) fun D σ H ⟨Hf, k, r, h, P⟩ => ⟨Hf, _, r, h, {
    ok := fun b hb Hf' H' f => by
      cases b with
      | true =>
        refine iteT ⟨Hf', _, SR.fx r f, hb, ?_⟩
        have Q := P.mono f.rd
        exact ⟨(fun e => nomatch e), Q.bk, Q.ct, Q.rt, Q.ex⟩
      | false => exact iteF ⟨Hf', k, SR.fx r f, hb, P.mono f.rd⟩
    no := fun d hd => by
      cases d with
      | bl x => exact ⟨x, rfl⟩
      | _ => cases hd
    ex := fun c hc Hf' H' f => P.ex c hc Hf' σ H' f.rd (r.fr.trans f) }⟩
/-- an if with a join -/
theorem pb_ifJ {S' : Type} {eS' : S' → Env} {c : Expr} {A B : List Stmt} {hc : H1} {hA hB : HS S' L} {f : S' → HS S L} (pc : PFt J ρ c hc) (pA : PFb J ρ eS' eL A hA) (pB : PFb J ρ eS' eL B hB)
    (pr : ∀ s, PFb J (eS' s) eS eL rest (f s)) : PFb J ρ eS eL (.If c A B pos :: rest) (sSeq (sIf hc hA hB) f) :=
  PSs.to (pss_cons (ps_if pc pA pB) (pss_any pr)) fun D σ H ⟨Hf, k, r, h, P⟩ => by
    have go : ∀ Hf', Same Hf Hf' → PostS J eS' eL Hf' (seqK f k) { D with nx := tAny (fun s => tS J (eS' s) eS eL (f s)) D } := fun Hf' sm => by
      have Q := P.mono sm
      exact ⟨fun s hs Hf2 σ2 H2 s2 r2 => ⟨s, Hf2, k, r2, hs, Q.mono s2⟩, Q.bk, Q.ct, Q.rt, Q.ex⟩
    exact ⟨Hf, _, r, h, {
      ok := fun b hb Hf' H' f => by
        cases b with
        | true => exact iteT ⟨Hf', _, SR.fx r f, hb, go Hf' f.rd⟩
        | false => exact iteF ⟨Hf', _, SR.fx r f, hb, go Hf' f.rd⟩
      no := fun d hd => by
        cases d with
        | bl x => exact ⟨x, rfl⟩
        | _ => cases hd
      ex := fun c hc Hf' H' f => P.ex c hc Hf' σ H' f.rd (r.fr.trans f) }⟩
theorem pb_break {s : L} (w : Wk ρ (eL s)) : PFb J ρ eS eL (.Break pos :: rest) (fun k => k (.bk s)) :=
  PSs.to (pss_cons ps_break pss_never) fun D σ H ⟨Hf, k, r, h, P⟩ => by
    obtain ⟨Hf', sm, r'⟩ := SR.weak w r
    exact P.bk s h Hf' σ H sm r'
end
/-! ### what is walked -/
def Walks (T : Tab) (K : PySem.W.Frag) (It : It) (Hf0 : Hp) (xs : List D) : Prop := ∀ i Hf H, Same Hf0 Hf → Same Hf H →
  (xs.length ≤ i → It.stop i H) ∧ ∀ x, xs[i]? = some x → It.go i H ∧ ∀ v H', It.yld i H v H' → ∃ Hf', Frame ⟨Hf, H⟩ Hf' H' ∧ Rep T K Hf' x v
structure PostI (J : Jx) (σ : L2.St) (Hf H : Hp) (k : R → Bool) (Q : It → Hp → Prop) : Prop where
  ok : ∀ xs, k (.ok (.lst xs)) = true → ∀ Hf' It H', Frame ⟨Hf, H⟩ Hf' H' → Walks J.T J.X.K It Hf' xs → Q It H'
  no : ∀ d, k (.ok d) = true → ∃ xs, d = .lst xs
  ex : ∀ c, k (.exc c) = true → ∀ Hf' H', Frame ⟨Hf, H⟩ Hf' H' → J.W (.ref (J.T.cls c)) none σ H'
def tI (J : Jx) (ρ : Env) (h : H1) : TI := fun σ H R => ∃ Hf k, J0 J ρ Hf σ H ∧ h k = true ∧ PostI J σ Hf H k R
def PFi (J : Jx) (ρ : Env) (tg iter : Expr) (h : H1) : Prop := PI J.X tg iter (tI J ρ h)
theorem PI.to {X : Cx} {tg e : Expr} {t t' : TI} (h : PI X tg e t) (i : ∀ σ H Q, t' σ H Q → t σ H Q) : PI X tg e t' := ⟨fun p s σ H Q I w => h.run p s σ H Q I (i σ H Q w)⟩
section
variable {J : Jx} {ρ : Env} {tg e : Expr} {pos p : Pos}
theorem walks_list {T : Tab} {K : PySem.W.Frag} {a : Addr} {vs : List V} {Hf : Hp} {xs : List D} (h : SqL K Hf a vs) (r : Reps T K Hf xs vs) : Walks T K (Itl K a) Hf xs := fun i Hf1 H s1 s2 => by
  have h1 : SqL K Hf1 a vs := s1.seq h
  have h2 : SqL K H a vs := s2.seq h1
  have r1 := r.mono s1
  refine ⟨fun hi => ⟨vs, h2, by rw [r.length]; exact hi⟩, fun x hx => ?_⟩
  obtain ⟨v, hv, rv⟩ := r1.getD hx
  refine ⟨⟨vs, v, h2, hv⟩, fun v' H' y => ?_⟩
  obtain ⟨e, f⟩ := y
  subst e
  have ev : v' = v := Option.some.inj ((f vs h2).symm.trans hv)
  subst ev
  exact ⟨Hf1, Frame.refl s2, rv⟩
theorem walks_tup {T : Tab} {K : PySem.W.Frag} {a : Addr} {vs : List V} {Hf : Hp} {xs : List D} (h : SqT K Hf a vs) (r : Reps T K Hf xs vs) : Walks T K (Itt K a) Hf xs := fun i Hf1 H s1 s2 => by
  have h1 : SqT K Hf1 a vs := same_sqT s1 h
  have h2 : SqT K H a vs := same_sqT s2 h1
  have r1 := r.mono s1
  refine ⟨fun hi => ⟨vs, h2, by rw [r.length]; exact hi⟩, fun x hx => ?_⟩
  obtain ⟨v, hv, rv⟩ := r1.getD hx
  refine ⟨⟨vs, v, h2, hv⟩, fun v' H' y => ?_⟩
  obtain ⟨e, f⟩ := y
  subst e
  have ev : v' = v := Option.some.inj ((f vs h2).symm.trans hv)
  subst ev
  exact ⟨Hf1, Frame.refl s2, rv⟩
/-- a list -/
theorem pfi_list {h : H1} (pe : PF J ρ e h) : PFi J ρ tg e h :=
  PI.to (pi_list pe) fun σ H Q ⟨Hf, k, r, h, P⟩ => ⟨Hf, k, r, h, {
    ok := fun d hd Hf1 v H1 f1 rv => by
      obtain ⟨xs, rfl⟩ := P.no d hd
      unfold Rep at rv
      obtain ⟨a, vs, rfl, hs, rr⟩ := rv
      exact ⟨a, rfl, ⟨vs, SqL.of (f1.sub _ _ hs)⟩, P.ok xs hd Hf1 _ H1 f1 (walks_list (SqL.of hs) rr)⟩
    ex := P.ex }⟩
theorem pfi_tup {h : H1} (pe : PF J ρ e h) : PFi J ρ tg e (hTL h) :=
  PI.to (pi_tup pe) fun σ H Q ⟨Hf, k, r, h, P⟩ => ⟨Hf, _, r, h, {
    ok := fun d hd Hf1 v H1 f1 rv => by
      cases d with
      | tup xs =>
        unfold Rep at rv
        obtain ⟨a, vs, rfl, hs, rr⟩ := rv
        exact ⟨a, rfl, ⟨vs, same_sqT f1.sub hs⟩, P.ok xs hd Hf1 _ H1 f1 (walks_tup hs rr)⟩
      | _ => cases hd
    ex := P.ex }⟩
/-- 0, 1, .. -/
theorem intL_get : ∀ (n : Nat) (lo : Int) (i : Nat), (intL lo n)[i]? = if i < n then some (.int (lo + i)) else none
  | 0, lo, i => by simp [intL]
  | n + 1, lo, 0 => by simp [intL]
  | n + 1, lo, i + 1 => by
    show (intL (lo + 1) n)[i]? = _
    rw [intL_get n (lo + 1) i]
    by_cases h : i < n
    · rw [if_pos h, if_pos (by omega)]
      have : lo + 1 + (i : Int) = lo + ((i + 1 : Nat) : Int) := by omega
      rw [this]
    · rw [if_neg h, if_neg (by omega)]
theorem intL_len : ∀ (n : Nat) (lo : Int), (intL lo n).length = n
  | 0, _ => rfl
  | n + 1, lo => by show (intL (lo + 1) n).length + 1 = n + 1; rw [intL_len n]
theorem walks_rng {T : Tab} {K : PySem.W.Frag} {lo : Int} {n : Nat} {Hf : Hp} : Walks T K (Itr lo n) Hf (intL lo n) := fun i Hf1 H s1 s2 => by
  refine ⟨fun hi => by rw [intL_len] at hi; exact hi, fun x hx => ?_⟩
  rw [intL_get] at hx
  by_cases h : i < n
  · rw [if_pos h] at hx
    cases hx
    exact ⟨h, fun v H' y => by
      obtain ⟨e, f⟩ := y
      subst e
      exact ⟨Hf1, Frame.refl s2, by unfold Rep; exact f⟩⟩
  · rw [if_neg h] at hx; cases hx
end
end DL

set_option Elab.async false
set_option linter.all false
set_option maxRecDepth 100000
namespace DL
open PySem PySem.Spec PyProof.Rows L2
/-! ## targets -/
def Asg (J : Jx) (g : TG) (ρ : Env) (x : D) (ρ' : Env) : Prop := ∀ Hf σ H v (Q : L2.St → Hp → Prop), J0 J ρ Hf σ H → Rep J.T J.X.K Hf x v → (∀ σ2, J0 J ρ' Hf σ2 H → Q σ2 H) → g v σ H Q
def AsgL (J : Jx) (g : TGs) (ρ : Env) (xs : List D) (ρ' : Env) : Prop := ∀ Hf σ H vs (Q : L2.St → Hp → Prop), J0 J ρ Hf σ H → Reps J.T J.X.K Hf xs vs → (∀ σ2, J0 J ρ' Hf σ2 H → Q σ2 H) → g vs σ H Q
section
variable {J : Jx} {ρ ρ1 ρ2 : Env}
theorem asg_name {i : Nat} {x : D} : Asg J (gName i) ρ x (stE ρ i (.va x)) := fun Hf σ H v Q r rv q => q _ (SR.set r rv)
theorem asgl_nil : AsgL J gNil ρ [] ρ := fun Hf σ H vs Q r rv q => ⟨rv, q σ r⟩
theorem asgl_cons {g : TG} {gs : TGs} {x : D} {xs : List D} (a : Asg J g ρ x ρ1) (b : AsgL J gs ρ1 xs ρ2) : AsgL J (gCons g gs) ρ (x :: xs) ρ2 := fun Hf σ H vs Q r ⟨v, rr, e, r1, r2⟩ q =>
  ⟨v, rr, e, a Hf σ H v _ r r1 fun σ2 r' => b Hf σ2 H rr Q r' r2 q⟩
theorem asg_tup {gs : TGs} {n : Nat} {xs : List D} (a : AsgL J gs ρ xs ρ1) (hn : xs.length = n) : Asg J (gTup J.X.K n gs) ρ (.tup xs) ρ1 := fun Hf σ H v Q r rv q => by
  unfold Rep at rv
  obtain ⟨p, vs, rfl, hs, rr⟩ := rv
  exact ⟨p, vs, rfl, same_sqT (SR.fr r).sub hs, by rw [rr.length]; exact hn, a Hf σ H vs Q r rr q⟩
end
/-! ## for -/
section
variable {J : Jx} {S S0 L : Type} {ρ ρ1 : Env} {eS : S → Env} {eL : L → Env} {e0 : S0 → Env} {tg iter : Expr} {body rest : List Stmt} {pos pos' p : Pos}
/-- a turn: the target takes the item, the suite means hb -/
def Turns (J : Jx) {S0 : Type} (e0 : S0 → Env) (g : TG) (body : List Stmt) (hb : D → S0 → HS S0 S0) : Prop := ∀ x s k, hb x s k = true → ∃ ρ' h', Asg J g (e0 s) x ρ' ∧ h' k = true ∧ PFb J ρ' e0 e0 body h'
theorem turn1 {i : Nat} {ρ' : D → S0 → Env} {f : D → S0 → HS S0 S0} (h : ∀ x s, PFb J (ρ' x s) e0 e0 body (f x s)) (hρ : ∀ x s, ρ' x s = stE (e0 s) i (.va x) := by intro _ _; rfl) : Turns J e0 (gName i) body f := fun x s k hk => ⟨_, _, asg_name, hk, by rw [← hρ]; exact h x s⟩
theorem turn2 {i j : Nat} {ρ' : D → D → S0 → Env} {f : D → D → S0 → HS S0 S0} (h : ∀ x y s, PFb J (ρ' x y s) e0 e0 body (f x y s)) (hρ : ∀ x y s, ρ' x y s = stE (stE (e0 s) i (.va x)) j (.va y) := by intro _ _ _; rfl) :
    Turns J e0 (gTup J.X.K 2 (gCons (gName i) (gCons (gName j) gNil))) body fun d s => su2 d fun x y => f x y s := fun d s k hk => by
  unfold su2 at hk
  dsimp only at hk
  split at hk
  · rename_i x y
    exact ⟨_, _, asg_tup (asgl_cons asg_name (asgl_cons asg_name asgl_nil)) rfl, hk, by rw [← hρ]; exact h x y s⟩
  · cases hk
theorem turn12 {i j l : Nat} {ρ' : D → D → D → S0 → Env} {f : D → D → D → S0 → HS S0 S0} (h : ∀ x y z s, PFb J (ρ' x y z s) e0 e0 body (f x y z s)) (hρ : ∀ x y z s, ρ' x y z s = stE (stE (stE (e0 s) i (.va x)) j (.va y)) l (.va z) := by intro _ _ _ _; rfl) :
    Turns J e0 (gTup J.X.K 2 (gCons (gName i) (gCons (gTup J.X.K 2 (gCons (gName j) (gCons (gName l) gNil))) gNil))) body fun d s => su2 d fun x d2 => su2 d2 fun y z => f x y z s := fun d s k hk => by
  unfold su2 at hk
  dsimp only at hk
  split at hk
  · rename_i x d2
    split at hk
    · rename_i y z
      exact ⟨_, _, asg_tup (asgl_cons asg_name (asgl_cons (asg_tup (asgl_cons asg_name (asgl_cons asg_name asgl_nil)) rfl) asgl_nil)) rfl, hk, by rw [← hρ]; exact h x y z s⟩
    · cases hk
  · cases hk
theorem drop_get {α : Type} {xs : List α} {i : Nat} {x : α} {r : List α} (h : xs.drop i = x :: r) : xs[i]? = some x ∧ xs.drop (i + 1) = r ∧ i < xs.length := by
  have h1 : i < xs.length := by
    refine Nat.lt_of_not_le fun z => ?_
    rw [List.drop_eq_nil_of_le z] at h; cases h
  rw [List.drop_eq_getElem_cons h1] at h
  injection h with h2 h3
  exact ⟨by rw [List.getElem?_eq_getElem h1, h2], h3, h1⟩
theorem pb_for {g : TG} {h : H1} {hb : D → S0 → HS S0 S0} {s0 : S0} {f : S0 → HS S L} (jo : JOk J) (w : Wk ρ (e0 s0)) (pi : PFi J (e0 s0) tg iter h) (pg : PG J.X tg g) (pt : Turns J e0 g body hb) (pr : ∀ s, PFb J (e0 s) eS eL rest (f s))
    (hs : ∀ x, foldedSetIterable iter J.X.env x = pure x := by intro _; rfl) : PFb J ρ eS eL (.For tg iter body [] pos :: rest) (sSeq (sFor h hb s0) f) := by
  have pb : PSs J.X body (fun D σ H => ∃ (ρ' : Env) (h' : HS S0 S0), PFb J ρ' e0 e0 body h' ∧ tS J ρ' e0 e0 h' D σ H) := ⟨fun pn s σ H D I ⟨ρ', h', q, t⟩ => q.run pn s σ H D I t⟩
  refine pb_wk w (PSs.to (pss_cons (ps_for jo.pass jo.calm pi pg pb hs) (pss_any pr)) fun D σ H ⟨Hf, k, r, h, P⟩ => ?_)
  refine ⟨Hf, _, r, h, {
    ok := fun xs hx Hf1 It H1 f1 wk => ?_
    no := fun d hd => by
      cases d with
      | lst xs => exact ⟨xs, rfl⟩
      | _ => cases hd
    ex := fun c hc Hf' H' f => P.ex c hc Hf' σ H' f.rd (r.fr.trans f) }⟩
  have hx : loopF (L := L) hb xs s0 (seqK f k) = true := hx
  refine ⟨fun i m σ H => ∃ s Hf2, Same Hf1 Hf2 ∧ J0 J (e0 s) Hf2 σ H ∧ i + m = xs.length ∧ loopF (L := L) hb (xs.drop i) s (seqK f k) = true,
    ⟨xs.length, s0, Hf1, Same.refl _, SR.fx r f1, by omega, by rw [List.drop_zero]; exact hx⟩, fun i m σ2 H2 ⟨s, Hf2, s2, r2, em, hl⟩ => ?_⟩
  obtain ⟨ws, wg⟩ := wk i Hf2 H2 s2 (SR.fr r2).sub
  cases hd : xs.drop i with
  | nil =>
    rw [hd] at hl
    have hi : xs.length ≤ i := by
      refine Nat.le_of_not_lt fun z => ?_
      rw [List.drop_eq_getElem_cons z] at hd; cases hd
    exact .inl ⟨ws hi, s, Hf2, k, r2, hl, P.mono (f1.rd.trans s2)⟩
  | cons x rr =>
    rw [hd] at hl
    obtain ⟨gx, gd, gl⟩ := drop_get hd
    obtain ⟨go, yld⟩ := wg x gx
    refine .inr ⟨go, fun σ' H' => ∃ s Hf3, Same Hf1 Hf3 ∧ J0 J (e0 s) Hf3 σ' H' ∧ loopF (L := L) hb rr s (seqK f k) = true, fun σ' H' ⟨s', Hf3, a1, a2, a3⟩ => ⟨m - 1, by omega, s', Hf3, a1, a2, by omega, by rw [gd]; exact a3⟩, fun v H3 y => ?_⟩
    obtain ⟨Hf3, f3, rv⟩ := yld v H3 y
    obtain ⟨ρ', h', as, hk', pb'⟩ := pt x s _ hl
    refine as Hf3 σ2 H3 v _ (SR.fx r2 f3) rv fun σ4 r4 => ⟨ρ', h', pb', Hf3, _, r4, hk', ?_⟩
    have Q := P.mono (f1.rd.trans (s2.trans f3.rd))
    exact {
      nx := fun s' hs' Hf5 σ5 H5 s5 r5 => ⟨s', Hf5, s2.trans (f3.rd.trans s5), r5, hs'⟩
      ct := fun s' hs' Hf5 σ5 H5 s5 r5 => ⟨s', Hf5, s2.trans (f3.rd.trans s5), r5, hs'⟩
      bk := fun s' hs' Hf5 σ5 H5 s5 r5 => ⟨s', Hf5, k, r5, hs', Q.mono s5⟩
      rt := Q.rt
      ex := Q.ex }
/-! ## while -/
theorem pb_while {c : Expr} {ht : S0 → H1} {hb : S0 → HS S0 S0} {n : Nat} {s0 : S0} {f : S0 → HS S L} (jo : JOk J) (w : Wk ρ (e0 s0)) (pc : ∀ s, PFt J (e0 s) c (ht s)) (pb : ∀ s, PFb J (e0 s) e0 e0 body (hb s)) (pr : ∀ s, PFb J (e0 s) eS eL rest (f s)) :
    PFb J ρ eS eL (.While c body [] pos :: rest) (sSeq (loopW ht hb n s0) f) := by
  have pc' : PT J.X c (fun σ H Q => ∃ s, tT J (e0 s) (ht s) σ H Q) := ⟨fun pn s σ H Q I ⟨s', t⟩ => (pc s').run pn s σ H Q I t⟩
  have pb' : PSs J.X body (tAny fun s => tS J (e0 s) e0 e0 (hb s)) := pss_any pb
  refine pb_wk w (PSs.to (pss_cons (ps_while jo.pass pc' pb') (pss_any pr)) fun D σ H ⟨Hf, k, r, h, P⟩ => ?_)
  refine ⟨fun m σ H => ∃ s Hf2, Same Hf Hf2 ∧ J0 J (e0 s) Hf2 σ H ∧ loopW (L := L) ht hb m s (seqK f k) = true, ⟨n, s0, Hf, Same.refl _, r, h⟩, fun m σ2 H2 ⟨s, Hf2, s2, r2, hl⟩ => ?_⟩
  cases m with
  | zero => cases hl
  | succ m =>
    refine ⟨s, Hf2, _, r2, hl, {
      ok := fun b hb' Hf3 H3 f3 => ?_
      no := fun d hd => by
        cases d with
        | bl x => exact ⟨x, rfl⟩
        | _ => cases hd
      ex := fun c hc Hf' H' f => P.ex c hc Hf' σ2 H' (s2.trans f.rd) ((SR.fr r2).trans f) }⟩
    have Q := P.mono (s2.trans f3.rd)
    cases b with
    | true =>
      refine iteT ⟨fun σ' H' => ∃ s Hf3, Same Hf Hf3 ∧ J0 J (e0 s) Hf3 σ' H' ∧ loopW (L := L) ht hb m s (seqK f k) = true, fun σ' H' ⟨s', Hf4, a1, a2, a3⟩ => ⟨m, Nat.lt_succ_self m, s', Hf4, a1, a2, a3⟩, s, Hf3, _, SR.fx r2 f3, hb', ?_⟩
      exact {
        nx := fun s' hs' Hf5 σ5 H5 s5 r5 => ⟨s', Hf5, s2.trans (f3.rd.trans s5), r5, hs'⟩
        ct := fun s' hs' Hf5 σ5 H5 s5 r5 => ⟨s', Hf5, s2.trans (f3.rd.trans s5), r5, hs'⟩
        bk := fun s' hs' Hf5 σ5 H5 s5 r5 => ⟨s', Hf5, k, r5, hs', Q.mono s5⟩
        rt := Q.rt
        ex := Q.ex }
    | false => exact iteF ⟨s, Hf3, k, SR.fx r2 f3, hb', Q⟩
end
/-! ## comprehensions -/
def Jx.blk (J : Jx) (scope : Scope) (s : Shared) (H : Hp) (C : Addr) (cl : List (Str × Addr)) (fp : List Addr) : Jx := { J with X := J.X.blk s H scope (compEnvC scope cl C J.X.env) fp, W := fun _ _ _ _ => False }
def Jx.wf (J : Jx) : Jx := { J with W := fun _ _ _ _ => False }
def wipeE (ρ : Env) : List Nat → Env
  | [] => ρ
  | v :: vs => stE (wipeE ρ vs) v .un
def PFts (J : Jx) (ρ : Env) (ifs : List Expr) (h : H1) : Prop := PTs J.X ifs (tT J ρ h)
section
variable {J : Jx} {ρ ρb : Env} {tg iter elt e : Expr} {ifs : List Expr} {pos p : Pos} {scope : Scope} {own : List (Str × Nat)}
theorem SR.wipe {T : Tab} {K : PySem.W.Frag} {B : Bs} {Hf H : Hp} {σ : L2.St} (r : SR T K B ρ Hf σ H) : ∀ vs : List Nat, SR T K B (wipeE ρ vs) Hf (L2.wipe σ vs) H
  | [] => r
  | v :: vs => (SR.wipe r vs).unset none
theorem at_wipe : ∀ (vs : List Nat) (σ : L2.St) (j : Nat), (L2.wipe σ vs)[j]? = if j ∈ vs ∧ j < σ.length then some none else σ[j]?
  | [], σ, j => by simp [L2.wipe]
  | v :: vs, σ, j => by
    unfold L2.wipe
    by_cases h : v = j
    · subst h
      by_cases hl : v < σ.length
      · rw [List.getElem?_set_self (by rw [L2.wipe_length]; exact hl), if_pos ⟨List.mem_cons_self, hl⟩]
      · rw [List.getElem?_eq_none (by rw [List.length_set, L2.wipe_length]; omega), if_neg (fun z => hl z.2), List.getElem?_eq_none (by omega)]
    · rw [List.getElem?_set_ne h, at_wipe vs σ j]
      by_cases hm : j ∈ vs
      · simp [hm]
      · have : ¬ j ∈ v :: vs := fun z => by
          rcases List.mem_cons.mp z with z | z
          · exact h z.symm
          · exact hm z
        simp [hm, Ne.symm h]
theorem wipe_set {σ : L2.St} {vs : List Nat} {i : Nat} {x : Option V} (h : i ∈ vs) : L2.wipe (σ.set i x) vs = L2.wipe σ vs := by
  refine List.ext_getElem? fun j => ?_
  rw [at_wipe, at_wipe, List.length_set]
  by_cases hj : j ∈ vs
  · by_cases hl : j < σ.length
    · rw [if_pos ⟨hj, hl⟩, if_pos ⟨hj, hl⟩]
    · rw [if_neg (fun z => hl z.2), if_neg (fun z => hl z.2), List.getElem?_eq_none (by rw [List.length_set]; omega), List.getElem?_eq_none (by omega)]
  · rw [if_neg (fun z => hj z.1), if_neg (fun z => hj z.1), List.getElem?_set_ne (fun z => hj (by rw [← z]; exact h))]
theorem wipe_wipe {σ : L2.St} {vs : List Nat} : L2.wipe (L2.wipe σ vs) vs = L2.wipe σ vs := by
  refine List.ext_getElem? fun j => ?_
  rw [at_wipe, at_wipe, L2.wipe_length]
  by_cases h : j ∈ vs ∧ j < σ.length
  · rw [if_pos h, if_pos h]
  · rw [if_neg h, if_neg h]
/-- an assignment that touches the block's own names alone -/
def AsgW (J : Jx) (vs : List Nat) (g : TG) (ρ : Env) (x : D) (ρ' : Env) : Prop := ∀ Hf σ H v (Q : L2.St → Hp → Prop), J0 J ρ Hf σ H → Rep J.T J.X.K Hf x v → (∀ σ2, J0 J ρ' Hf σ2 H → L2.wipe σ2 vs = L2.wipe σ vs → Q σ2 H) → g v σ H Q
def AsgWL (J : Jx) (vs : List Nat) (g : TGs) (ρ : Env) (xs : List D) (ρ' : Env) : Prop := ∀ Hf σ H us (Q : L2.St → Hp → Prop), J0 J ρ Hf σ H → Reps J.T J.X.K Hf xs us → (∀ σ2, J0 J ρ' Hf σ2 H → L2.wipe σ2 vs = L2.wipe σ vs → Q σ2 H) → g us σ H Q
theorem asw_name {vs : List Nat} {i : Nat} {x : D} (h : i ∈ vs) : AsgW J vs (gName i) ρ x (stE ρ i (.va x)) := fun Hf σ H v Q r rv q => q _ (SR.set r rv) (wipe_set h)
theorem aswl_nil {vs : List Nat} : AsgWL J vs gNil ρ [] ρ := fun Hf σ H us Q r rv q => ⟨rv, q σ r rfl⟩
theorem aswl_cons {vs : List Nat} {ρ1 ρ2 : Env} {g : TG} {gs : TGs} {x : D} {xs : List D} (a : AsgW J vs g ρ x ρ1) (b : AsgWL J vs gs ρ1 xs ρ2) : AsgWL J vs (gCons g gs) ρ (x :: xs) ρ2 := fun Hf σ H us Q r ⟨v, rr, e, r1, r2⟩ q =>
  ⟨v, rr, e, a Hf σ H v _ r r1 fun σ2 r' e1 => b Hf σ2 H rr Q r' r2 fun σ3 r3 e2 => q σ3 r3 (e2.trans e1)⟩
theorem asw_tup {vs : List Nat} {ρ1 : Env} {gs : TGs} {n : Nat} {xs : List D} (a : AsgWL J vs gs ρ xs ρ1) (hn : xs.length = n) : AsgW J vs (gTup J.X.K n gs) ρ (.tup xs) ρ1 := fun Hf σ H v Q r rv q => by
  unfold Rep at rv
  obtain ⟨p, us, rfl, hs, rr⟩ := rv
  exact ⟨p, us, rfl, same_sqT (SR.fr r).sub hs, by rw [rr.length]; exact hn, a Hf σ H us Q r rr q⟩
abbrev EvB (J : Jx) (scope : Scope) (P : Jx → Prop) : Prop := ∀ (s : Shared) (H : Hp) (C : Addr) (cl : List (Str × Addr)) (fp : List Addr), P (J.blk scope s H C cl fp)
/-- the element and the test of an item -/
def Elts (J : Jx) (scope : Scope) (vs : List Nat) (ρb : Env) (g : TG) (ifs : List Expr) (elt : Expr) (tt el : D → H1) : Prop := ∀ x, (∀ k, tt x k = false) ∨
  ∃ ρ', AsgW J vs g ρb x ρ' ∧ EvB J scope (fun J' => PFts J' ρ' ifs (tt x)) ∧ EvB J scope (fun J' => PF J' ρ' elt (el x))
theorem elt1 {i : Nat} {vs : List Nat} {ρ' : D → Env} {tt el : D → H1} (ht : ∀ x, EvB J scope fun J' => PFts J' (ρ' x) ifs (tt x)) (he : ∀ x, EvB J scope fun J' => PF J' (ρ' x) elt (el x)) (hm : i ∈ vs := by simp)
    (hρ : ∀ x, ρ' x = stE ρb i (.va x) := by intro _; rfl) : Elts J scope vs ρb (gName i) ifs elt tt el := fun x => .inr ⟨ρ' x, by rw [hρ]; exact asw_name hm, ht x, he x⟩
theorem elt2 {i j : Nat} {vs : List Nat} {ρ' : D → D → Env} {tt el : D → D → H1} (ht : ∀ x y, EvB J scope fun J' => PFts J' (ρ' x y) ifs (tt x y)) (he : ∀ x y, EvB J scope fun J' => PF J' (ρ' x y) elt (el x y)) (hm : i ∈ vs := by simp) (hm2 : j ∈ vs := by simp)
    (hρ : ∀ x y, ρ' x y = stE (stE ρb i (.va x)) j (.va y) := by intro _ _; rfl) : Elts J scope vs ρb (gTup J.X.K 2 (gCons (gName i) (gCons (gName j) gNil))) ifs elt (fun d => un2 d tt) (fun d => un2 d el) := fun d => by
  by_cases h : ∃ x y, d = .tup [x, y]
  · obtain ⟨x, y, rfl⟩ := h
    exact .inr ⟨ρ' x y, by rw [hρ]; exact asw_tup (aswl_cons (asw_name hm) (aswl_cons (asw_name hm2) aswl_nil)) rfl, ht x y, he x y⟩
  · refine .inl fun k => ?_
    unfold un2
    dsimp only
    split
    · rename_i x y
      exact absurd ⟨x, y, rfl⟩ h
    · rfl
theorem elt3 {i j l : Nat} {vs : List Nat} {ρ' : D → D → D → Env} {tt el : D → D → D → H1} (ht : ∀ x y z, EvB J scope fun J' => PFts J' (ρ' x y z) ifs (tt x y z)) (he : ∀ x y z, EvB J scope fun J' => PF J' (ρ' x y z) elt (el x y z)) (hm : i ∈ vs := by simp) (hm2 : j ∈ vs := by simp) (hm3 : l ∈ vs := by simp)
    (hρ : ∀ x y z, ρ' x y z = stE (stE (stE ρb i (.va x)) j (.va y)) l (.va z) := by intro _ _ _; rfl) : Elts J scope vs ρb (gTup J.X.K 3 (gCons (gName i) (gCons (gName j) (gCons (gName l) gNil)))) ifs elt (fun d => un3 d tt) (fun d => un3 d el) := fun d => by
  by_cases h : ∃ x y z, d = .tup [x, y, z]
  · obtain ⟨x, y, z, rfl⟩ := h
    exact .inr ⟨ρ' x y z, by rw [hρ]; exact asw_tup (aswl_cons (asw_name hm) (aswl_cons (asw_name hm2) (aswl_cons (asw_name hm3) aswl_nil))) rfl, ht x y z, he x y z⟩
  · refine .inl fun k => ?_
    unfold un3
    dsimp only
    split
    · rename_i x y z
      exact absurd ⟨x, y, z, rfl⟩ h
    · rfl
theorem elt12 {i j l : Nat} {vs : List Nat} {ρ' : D → D → D → Env} {tt el : D → D → D → H1} (ht : ∀ x y z, EvB J scope fun J' => PFts J' (ρ' x y z) ifs (tt x y z)) (he : ∀ x y z, EvB J scope fun J' => PF J' (ρ' x y z) elt (el x y z)) (hm : i ∈ vs := by simp) (hm2 : j ∈ vs := by simp) (hm3 : l ∈ vs := by simp)
    (hρ : ∀ x y z, ρ' x y z = stE (stE (stE ρb i (.va x)) j (.va y)) l (.va z) := by intro _ _ _; rfl) : Elts J scope vs ρb (gTup J.X.K 2 (gCons (gName i) (gCons (gTup J.X.K 2 (gCons (gName j) (gCons (gName l) gNil))) gNil))) ifs elt
      (fun d => un2 d fun x d2 => un2 d2 fun y z => tt x y z) (fun d => un2 d fun x d2 => un2 d2 fun y z => el x y z) := fun d => by
  by_cases h : ∃ x y z, d = .tup [x, .tup [y, z]]
  · obtain ⟨x, y, z, rfl⟩ := h
    exact .inr ⟨ρ' x y z, by rw [hρ]; exact asw_tup (aswl_cons (asw_name hm) (aswl_cons (asw_tup (aswl_cons (asw_name hm2) (aswl_cons (asw_name hm3) aswl_nil)) rfl) aswl_nil)) rfl, ht x y z, he x y z⟩
  · refine .inl fun k => ?_
    unfold un2
    dsimp only
    split
    · rename_i x d2
      split
      · rename_i y z
        exact absurd ⟨x, y, z, rfl⟩ h
      · rfl
    · rfl
theorem pts0 : PFts J ρ [] (hC (.bl true)) := ⟨fun pn s σ H Q I ⟨Hf, k, r, h, P⟩ => L2.pts_nil.run pn s σ H Q I (P.ok true h Hf H (Frame.refl r.fr.sub))⟩
theorem pts1 {c : Expr} {h : H1} (p : PFt J ρ c h) : PFts J ρ [c] h := L2.pts_one p
theorem lcK_len {tt el : D → H1} : ∀ (xs acc : List D) (k : R → Bool), lcK tt el xs acc k = true → ∃ (zs : List D), True
  | _, _, _, _ => ⟨[], trivial⟩
def ttB (J : Jx) (scope : Scope) (ifs : List Expr) : TT := fun σ H Q => ∃ ρ' h', EvB J scope (fun J' => PFts J' ρ' ifs h') ∧ tT J.wf ρ' h' σ H Q
def teB (J : Jx) (scope : Scope) (elt : Expr) : TE := fun σ H Q => ∃ ρ' h', EvB J scope (fun J' => PF J' ρ' elt h') ∧ tE J.wf ρ' h' σ H Q
theorem tE_blk {ρ : Env} {h : H1} {σ : L2.St} {H : Hp} {Q : VK} {s : Shared} {H0 : Hp} {C : Addr} {cl : List (Str × Addr)} {fp : List Addr} : tE J.wf ρ h σ H Q → tE (J.blk scope s H0 C cl fp) ρ h σ H Q := fun ⟨Hf, k, r, h, P⟩ => ⟨Hf, k, r, h, ⟨P.ok, P.ex⟩⟩
theorem tT_blk {ρ : Env} {h : H1} {σ : L2.St} {H : Hp} {Q : Bool → Hp → Prop} {s : Shared} {H0 : Hp} {C : Addr} {cl : List (Str × Addr)} {fp : List Addr} : tT J.wf ρ h σ H Q → tT (J.blk scope s H0 C cl fp) ρ h σ H Q := fun ⟨Hf, k, r, h, P⟩ => ⟨Hf, k, r, h, ⟨P.ok, P.no, P.ex⟩⟩
theorem ptsB (s : Shared) (H : Hp) (C : Addr) (cl : List (Str × Addr)) (fp : List Addr) : PTs (J.X.blk s H scope (compEnvC scope cl C J.X.env) fp) ifs (ttB J scope ifs) := ⟨fun pn s1 σ H1 Q I ⟨ρ', h', a, t⟩ => (a s H C cl fp).run pn s1 σ H1 Q I (tT_blk t)⟩
theorem peB (s : Shared) (H : Hp) (C : Addr) (cl : List (Str × Addr)) (fp : List Addr) : PE (J.X.blk s H scope (compEnvC scope cl C J.X.env) fp) elt (teB J scope elt) := ⟨fun pn s1 σ H1 Q I ⟨ρ', h', a, t⟩ => (a s H C cl fp).run pn s1 σ H1 Q I (tE_blk t)⟩
/-- the reading of a comprehension, whatever becomes of it -/
theorem lc_read {g : TG} {h : H1} {tt el : D → H1} {σ : L2.St} {H : Hp} {Q : VK} (hel : Elts J scope (own.map (·.2)) (wipeE ρ (own.map (·.2))) g ifs elt tt el) (t : tE J ρ (hLc h tt el) σ H Q) :
    tLc (tI J ρ h) g (ttB J scope ifs) (teB J scope elt) (own.map (·.2)) σ H Q := by
  obtain ⟨Hf, k, r, hk, P⟩ := t
  refine ⟨Hf, _, r, hk, {
    ok := fun xs hx Hf1 It H1 f1 wk => ?_
    no := fun d hd => by
      cases d with
      | lst xs => exact ⟨xs, rfl⟩
      | _ => cases hd
    ex := P.ex }⟩
  have hx' : (lenLe xs big && lcK tt el xs [] k) = true := hx
  rw [Bool.and_eq_true] at hx'
  have hz := lenLe_ok hx'.1
  intro Dl hD
  have hDf1 : Hf1 Dl = none := f1.sub.free hD
  -- the invariant: the list at Dl is not readable yet
  refine ⟨fun i m H => ∃ acc accV Hf2, Frame ⟨Hf1, H1⟩ Hf2 (fun b => if b = Dl then none else H b) ∧ H Dl = some (.lst accV) ∧ Reps J.T J.X.K Hf2 acc.reverse accV ∧ acc.length ≤ i ∧ i + m = xs.length ∧ lcK tt el (xs.drop i) acc k = true,
    ⟨xs.length, [], [], Hf1, ?_, upd_same, show Reps _ _ _ [] [] from rfl, Nat.zero_le _, by omega, by rw [List.drop_zero]; exact hx'.2⟩, fun i m H2 ⟨acc, accV, Hf2, f2, hl, rr, la, em, hk2⟩ => ?_⟩
  · have e : (fun b => if b = Dl then none else upd H1 Dl (.lst []) b) = H1 := by
      funext b
      by_cases hb : b = Dl
      · rw [if_pos hb, hb, hD]
      · rw [if_neg hb, upd_ne hb]
    rw [e]
    exact Frame.refl f1.sub
  · have nD : Hf2 Dl = none := by
      refine f2.sub.free ?_
      show (if Dl = Dl then none else H2 Dl) = none
      rw [if_pos rfl]
    have sub2 : Same Hf2 H2 := fun b o e => by
      have := f2.sub b o e
      by_cases hb : b = Dl
      · rw [hb, nD] at e; cases e
      · rw [if_neg hb] at this; exact this
    obtain ⟨ws, wg⟩ := wk i Hf2 H2 f2.rd sub2
    -- the def's slots at this heap
    have r2 : SR J.T J.X.K J.B ρ Hf2 σ H2 := by
      have q := SR.fx (SR.fx r f1) f2
      refine ⟨⟨q.fr.rd, fun b o e => ?_, sub2, q.fr.ap⟩, q.len, fun j => (q.sl j).mono (Same.refl _) fun p vs a b => ⟨a, ?_⟩, q.dj⟩
      · have z := q.fr.al b o e
        by_cases hb : b = Dl
        · rw [if_pos hb] at z; cases z
        · rw [if_neg hb] at z; exact z
      · by_cases hb : p = Dl
        · rw [if_pos hb] at b; cases b
        · rw [if_neg hb] at b; exact b
    cases hd : xs.drop i with
    | nil =>
      rw [hd] at hk2
      have hi : xs.length ≤ i := by
        refine Nat.le_of_not_lt fun z => ?_
        rw [List.drop_eq_getElem_cons z] at hd; cases hd
      refine .inl ⟨ws hi, ?_⟩
      have f3 : Frame ⟨Hf1, H1⟩ (upd Hf2 Dl (.lst accV)) H2 := by
        have nf := f2.new (p := Dl) (o := .lst accV) (by show (if Dl = Dl then none else H2 Dl) = none; rw [if_pos rfl])
        have e : upd (fun b => if b = Dl then none else H2 b) Dl (.lst accV) = H2 := by
          funext b
          by_cases hb : b = Dl
          · rw [hb, upd_same, hl]
          · rw [upd_ne hb, if_neg hb]
        rw [e] at nf
        exact nf
      exact P.ok _ hk2 _ _ _ (f1.trans f3) ⟨Dl, accV, rfl, upd_same, rr.mono (same_new nD)⟩
    | cons x rest =>
      rw [hd] at hk2
      obtain ⟨gx, gd, gl⟩ := drop_get hd
      obtain ⟨go, yld⟩ := wg x gx
      refine .inr ⟨go, fun H' => ∃ acc accV Hf2, Frame ⟨Hf1, H1⟩ Hf2 (fun b => if b = Dl then none else H' b) ∧ H' Dl = some (.lst accV) ∧ Reps J.T J.X.K Hf2 acc.reverse accV ∧ acc.length ≤ i + 1 ∧ lcK tt el rest acc k = true, fun H' ⟨a1, a2, a3, a4, a5, a6, a7, a8⟩ => ⟨m - 1, by omega, a1, a2, a3, a4, a5, a6, a7, by omega, by rw [gd]; exact a8⟩, fun v H3 y => ?_⟩
      obtain ⟨Hf3, f3, rv⟩ := yld v H3 y
      rcases hel x with hno | ⟨ρ', as, pt, pe⟩
      · have hk3 : (tt x _) = true := hk2
        rw [hno] at hk3; cases hk3
      · have r3 : J0 J (wipeE ρ (own.map (·.2))) Hf3 (L2.wipe σ (own.map (·.2))) H3 := (SR.fx r2 f3).wipe _
        -- Dl through a turn
        have keep : ∀ {Hf4 H4 : Hp}, Frame ⟨Hf3, H3⟩ Hf4 H4 → H4 Dl = some (.lst accV) ∧ Frame ⟨Hf1, H1⟩ Hf4 (fun b => if b = Dl then none else H4 b) := fun {Hf4 H4} f4 => by
          have f24 : Frame ⟨Hf2, H2⟩ Hf4 H4 := f3.trans f4
          have hD4 : H4 Dl = some (.lst accV) := f24.al _ _ hl
          have nD4 : Hf4 Dl = none := f24.ap Dl _ hl nD
          refine ⟨hD4, f2.rd.trans f24.rd, fun b o e => ?_, fun b o e => ?_, fun b o e0 e1 => ?_⟩
          · have z := f2.al b o e
            by_cases hb : b = Dl
            · rw [if_pos hb] at z; cases z
            · rw [if_neg hb] at z
              show (if b = Dl then none else H4 b) = some o
              rw [if_neg hb]
              exact f24.al _ _ z
          · show (if b = Dl then none else H4 b) = some o
            by_cases hb : b = Dl
            · rw [hb, nD4] at e; cases e
            · rw [if_neg hb]; exact f24.sub _ _ e
          · have z := f2.al b o e0
            by_cases hb : b = Dl
            · rw [if_pos hb] at z; cases z
            · rw [if_neg hb] at z
              exact f24.ap b o z (f2.ap b o e0 e1)
        refine as Hf3 _ H3 v _ r3 rv fun σ4 r4 e4 => ⟨?_, ρ', tt x, pt, Hf3, _, r4, hk2, {
          ok := fun b hb Hf5 H5 f5 => ?_
          no := fun d hd => by
            cases d with
            | bl b => exact ⟨b, rfl⟩
            | _ => cases hd
          ex := fun c hc => by cases hc }⟩
        · exact e4.trans wipe_wipe
        · cases b with
          | true =>
            refine iteT ⟨ρ', el x, pe, Hf5, _, SR.fx r4 f5, hb, {
              ok := fun d hd Hf6 w H6 f6 rw' => ?_
              ex := fun c hc => by cases hc }⟩
            obtain ⟨k1, k2⟩ := keep (f5.trans f6)
            have n6 : Hf6 Dl = none := k2.sub.free (by show (if Dl = Dl then none else H6 Dl) = none; rw [if_pos rfl])
            refine ⟨accV, k1, ?_, d :: acc, accV ++ [w], Hf6, ?_, upd_same, ?_, by show acc.length + 1 ≤ i + 1; omega, hd⟩
            · rw [rr.length, List.length_reverse]
              exact Nat.lt_of_le_of_lt (Nat.le_trans la (Nat.le_trans (Nat.le_of_lt gl) hz)) big_line
            · have e : (fun b => if b = Dl then none else upd H6 Dl (.lst (accV ++ [w])) b) = (fun b => if b = Dl then none else H6 b) := by
                funext b
                by_cases hb : b = Dl
                · rw [if_pos hb, if_pos hb]
                · rw [if_neg hb, if_neg hb, upd_ne hb]
              rw [e]
              exact k2
            · rw [List.reverse_cons]
              exact (rr.mono (f3.rd.trans (f5.trans f6).rd)).app (.one rw')
          | false =>
            obtain ⟨k1, k2⟩ := keep f5
            exact iteF ⟨acc, accV, Hf5, k2, k1, rr.mono (f3.rd.trans f5.rd), by omega, hb⟩
theorem pf_lc {g : TG} {h : H1} {tt el : D → H1} (own : List (Str × Nat)) (jo : JOk J) (hi : PFi J ρ tg iter h) (ok : BlkOk J.X.N J.X.env.scope scope own)
    (hg : EvB J scope fun J' => PG J'.X tg g) (hel : Elts J scope (own.map (·.2)) (wipeE ρ (own.map (·.2))) g ifs elt tt el) (hs : ∀ x, foldedSetIterable iter J.X.env x = pure x := by intro _; rfl) :
    PF J ρ (.ListComp elt [⟨tg, iter, ifs, 0⟩] scope pos) (hLc h tt el) :=
  PE.to (pe_lc jo.calm jo.nd hi ok (fun s H C cl fp => hg s H C cl fp) ptsB peB hs) fun σ H Q t => lc_read hel t
end
end DL

set_option Elab.async false
set_option linter.all false
set_option maxRecDepth 100000
namespace DL
open PySem PySem.Spec PyProof.Rows L2
/-! ## the operators' rules over data -/
theorem mkS_len (x : List Nat) : (mkS x).length = x.length := by show (List.toArray x).size = x.length; simp
theorem mkS_cps (x : List Nat) : (mkS x).cps.toList = x := by show (List.toArray x).toList = x; simp
theorem mkS_app (x y : List Nat) : mkS x ++ mkS y = mkS (x ++ y) := by
  show Str.append _ _ = _
  unfold Str.append mkS
  simp
theorem mkS_inj {x y : List Nat} (h : mkS x = mkS y) : x = y := by
  have := congrArg (fun s => s.cps.toList) h
  simpa [mkS] using this
theorem beqL_eq : ∀ (x y : List Nat), beqL x y = decide (x = y)
  | [], [] => by simp [beqL]
  | [], _ :: _ => by simp [beqL]
  | _ :: _, [] => by simp [beqL]
  | a :: x, b :: y => by
    show (Nat.beq a b && beqL x y) = _
    rw [beqL_eq x y]
    by_cases h : a = b
    · subst h; simp [Nat.beq_refl]
    · have : Nat.beq a b = false := by
        cases q : Nat.beq a b with
        | false => rfl
        | true => exact absurd (Nat.eq_of_beq_eq_true q) h
      simp [this, h]
theorem beqL_mk (x y : List Nat) : (mkS x == mkS y) = beqL x y := by
  rw [beqL_eq]
  by_cases h : x = y
  · subst h; simp
  · rw [decide_eq_false h]
    exact beq_eq_false_iff_ne.mpr fun e => h (mkS_inj e)
/-! ### plain data of the model -/
mutual
def toP : D → PyData
  | .non => .none
  | .bl b => .bool b
  | .int i => .int i
  | .str x => .str (mkS x)
  | .lst xs => .list (toPs xs)
  | .tup xs => .tuple (toPs xs)
  | _ => .dict []
def toPs : List D → List PyData
  | [] => []
  | x :: r => toP x :: toPs r
end
mutual
theorem eqv_beq : ∀ (n m : Nat) (a b : D), okD n a = true → okD m b = true → PyData.eqv (toP a) (toP b) = beqD a b
  | n, m, .non, b, h, h' => by cases b <;> first | rfl | (cases h') | (simp [toP, PyData.eqv, beqD])
  | n, m, .bl x, b, h, h' => by cases b <;> first | rfl | (cases h') | (simp [toP, PyData.eqv, beqD])
  | n, m, .int x, b, h, h' => by cases b <;> first | rfl | (cases h') | (simp [toP, PyData.eqv, beqD])
  | n, m, .str x, b, h, h' => by
    cases b <;> first | rfl | (cases h') | (simp only [toP, PyData.eqv, beqD]; exact beqL_mk _ _) | (simp [toP, PyData.eqv, beqD])
  | n, m, .lst x, b, h, h' => by
    cases b <;> first | rfl | (cases h') | skip
    all_goals first
      | (simp [toP, PyData.eqv, beqD]; done)
      | skip
    rename_i y
    simp only [toP, PyData.eqv, beqD]
    cases n with
    | zero => simp [okD] at h
    | succ n =>
      cases m with
      | zero => simp [okD] at h'
      | succ m => exact eqvs_beq n m x y (by simpa [okD] using h) (by simpa [okD] using h')
  | n, m, .tup x, b, h, h' => by
    cases b <;> first | rfl | (cases h') | skip
    all_goals first
      | (simp [toP, PyData.eqv, beqD]; done)
      | skip
    rename_i y
    simp only [toP, PyData.eqv, beqD]
    cases n with
    | zero => simp [okD] at h
    | succ n =>
      cases m with
      | zero => simp [okD] at h'
      | succ m => exact eqvs_beq n m x y (by simpa [okD] using h) (by simpa [okD] using h')
  | n, m, .sg x, b, h, h' => by simp [okD] at h
  | n, m, .nn, b, h, h' => by simp [okD] at h
  | n, m, .scr, b, h, h' => by simp [okD] at h
  | n, m, .fn _, b, h, h' => by simp [okD] at h
  | n, m, .exc _, b, h, h' => by simp [okD] at h
theorem eqvs_beq : ∀ (n m : Nat) (a b : List D), okDs n a = true → okDs m b = true → PyData.eqvAll (toPs a) (toPs b) = beqDs a b
  | n, m, [], [], h, h' => by simp [toPs, PyData.eqvAll, beqDs]
  | n, m, [], _ :: _, h, h' => by simp [toPs, PyData.eqvAll, beqDs]
  | n, m, _ :: _, [], h, h' => by simp [toPs, PyData.eqvAll, beqDs]
  | n, m, a :: x, b :: y, h, h' => by
    simp only [okDs, Bool.and_eq_true] at h h'
    simp only [toPs, PyData.eqvAll, beqDs]
    rw [eqv_beq n m a b h.1 h'.1, eqvs_beq n m x y h.2 h'.2]
end
mutual
theorem ok_lay : ∀ (n : Nat) (a : D), okD n a = true → (toP a).canLay0 = true ∧ (toP a).depth ≤ n
  | n, .non, h => by simp [toP, PyData.canLay0, PyData.depth]
  | n, .bl _, h => by simp [toP, PyData.canLay0, PyData.depth]
  | n, .int _, h => by simp [toP, PyData.canLay0, PyData.depth]
  | n, .str x, h => by
    refine ⟨?_, by simp [toP, PyData.depth]⟩
    simp only [toP, PyData.canLay0]
    have h' : (x.all fun c => Nat.blt c 1114112) = true := by simpa [okD] using h
    show ((mkS x).cps.all fun c => decide (c < 0x110000)) = true
    have e : (mkS x).cps = x.toArray := rfl
    rw [e, List.all_toArray]
    rw [List.all_eq_true] at h' ⊢
    intro c hc
    have := h' c hc
    exact decide_eq_true (by have := Nat.blt_eq.mp this; omega)
  | 0, .lst _, h => by simp [okD] at h
  | n + 1, .lst xs, h => by
    obtain ⟨a, b⟩ := oks_lay n xs (by simpa [okD] using h)
    simp only [toP, PyData.canLay0, PyData.depth]
    exact ⟨a, Nat.succ_le_succ b⟩
  | 0, .tup _, h => by simp [okD] at h
  | n + 1, .tup xs, h => by
    obtain ⟨a, b⟩ := oks_lay n xs (by simpa [okD] using h)
    simp only [toP, PyData.canLay0, PyData.depth]
    exact ⟨a, Nat.succ_le_succ b⟩
  | n, .sg x, h => by simp [okD] at h
  | n, .nn, h => by simp [okD] at h
  | n, .scr, h => by simp [okD] at h
  | n, .fn _, h => by simp [okD] at h
  | n, .exc _, h => by simp [okD] at h
theorem oks_lay : ∀ (n : Nat) (a : List D), okDs n a = true → PyData.canLayAll0 (toPs a) = true ∧ PyData.depthAll (toPs a) ≤ n
  | n, [], h => by simp [toPs, PyData.canLayAll0, PyData.depthAll]
  | n, a :: x, h => by
    simp only [okDs, Bool.and_eq_true] at h
    obtain ⟨a1, a2⟩ := ok_lay n a h.1
    obtain ⟨b1, b2⟩ := oks_lay n x h.2
    simp only [toPs, PyData.canLayAll0, PyData.depthAll]
    exact ⟨by rw [a1, b1]; rfl, Nat.max_le.mpr ⟨a2, b2⟩⟩
end
section
variable {T : Tab} {K : PySem.W.Frag} {H : Hp}
mutual
theorem Rep.dp : ∀ (n : Nat) (d : D) (v : V), okD n d = true → Rep T K H d v → Dp K H v (toP d)
  | n, .non, v, h, r => by unfold Rep at r; rw [r]; unfold toP; exact .non
  | n, .bl b, v, h, r => by unfold Rep at r; rw [r]; unfold toP; exact .bl b
  | n, .int i, v, h, r => by unfold Rep at r; rw [r]; unfold toP; exact .int i
  | n, .str x, v, h, r => by unfold Rep at r; rw [r]; unfold toP; exact .str _
  | 0, .lst _, v, h, r => by simp [okD] at h
  | n + 1, .lst xs, v, h, r => by
    unfold Rep at r
    obtain ⟨a, vs, rfl, hs, rr⟩ := r
    unfold toP
    exact .lst (SqL.of hs) (Reps.dp n xs vs (by simpa [okD] using h) rr)
  | 0, .tup _, v, h, r => by simp [okD] at h
  | n + 1, .tup xs, v, h, r => by
    unfold Rep at r
    obtain ⟨a, vs, rfl, hs, rr⟩ := r
    unfold toP
    exact .tup hs (Reps.dp n xs vs (by simpa [okD] using h) rr)
  | n, .sg x, v, h, r => by simp [okD] at h
  | n, .nn, v, h, r => by simp [okD] at h
  | n, .scr, v, h, r => by simp [okD] at h
  | n, .fn _, v, h, r => by simp [okD] at h
  | n, .exc _, v, h, r => by simp [okD] at h
theorem Reps.dp : ∀ (n : Nat) (ds : List D) (vs : List V), okDs n ds = true → Reps T K H ds vs → DpAll K H vs (toPs ds)
  | n, [], vs, h, r => by rw [show vs = [] from r]; unfold toPs; exact .nil
  | n, d :: ds, vs, h, ⟨v, rr, e, r1, r2⟩ => by
    simp only [okDs, Bool.and_eq_true] at h
    rw [e]
    unfold toPs
    exact .cons (Rep.dp n d v h.1 r1) (Reps.dp n ds rr h.2 r2)
end
end
theorem shaped_ok {d : D} (h : okD 9 d = true) : SeqAt.shaped (toP d) = true := by
  obtain ⟨a, b⟩ := ok_lay 9 d h
  unfold SeqAt.shaped
  rw [a, decide_eq_true (show (toP d).depth ≤ 64 by omega)]
  rfl
/-! ### == and != -/
def SgEq (x y : V) (H : Hp) (Q : VK) : Prop := False
section
variable {J : Jx} {ρ : Env} {a b : Expr} {pos : Pos} {ha hb : H1}
theorem sg1 {T : Tab} {K : PySem.W.Frag} {H : Hp} {r : Nat} {v : V} (h : Rep T K H (.sg [r]) v) : ∃ c, v = .str (mkS [c]) ∧ sgOk c r := by
  unfold Rep at h
  obtain ⟨x, e, p⟩ := h
  cases p with
  | cons q t =>
    cases t
    exact ⟨_, e, q⟩
/-- the rule of ==: plain data, or scalars -/
def rEqX (K : PySem.W.Frag) : R2 := fun x y H Q => rEqD K x y H Q ∨ rEq x y H Q
def rNeX (K : PySem.W.Frag) : R2 := fun x y H Q => rNeD K x y H Q ∨ rNe x y H Q
theorem op_eqX (hu : J.X.A.units + 64 < cLine) : OpR J.X (compareOp .Eq) (rEqX J.X.K) := (op_eqD hu).or op_eq
theorem op_neX (hu : J.X.A.units + 64 < cLine) : OpR J.X (compareOp .NotEq) (rNeX J.X.K) := (op_neD hu).or op_ne
theorem eqD_cases {x y z : D} (h : eqD x y = some z) : (∃ r c, x = .sg [r] ∧ y = .str [c] ∧ ((c = 80 ∧ z = .bl (Nat.beq r 2)) ∨ (c = 45 ∧ z = .bl (Nat.beq r 1)))) ∨ (okD 9 x = true ∧ okD 9 y = true ∧ z = .bl (beqD x y)) := by
  unfold eqD at h
  split at h
  · rename_i r c
    refine .inl ⟨r, c, rfl, rfl, ?_⟩
    split at h
    · rename_i e
      cases h
      exact .inl ⟨Nat.eq_of_beq_eq_true e, rfl⟩
    · split at h
      · rename_i e
        cases h
        exact .inr ⟨Nat.eq_of_beq_eq_true e, rfl⟩
      · cases h
  · split at h
    · rename_i e
      rw [Bool.and_eq_true] at e
      cases h
      exact .inr ⟨e.1, e.2, rfl⟩
    · cases h
theorem sg_dec {c r k m : Nat} (h : sgOk c r) (hk : (k = 80 ∧ m = 2) ∨ (k = 45 ∧ m = 1)) : decide (V.str (mkS [c]) = V.str (mkS [k])) = Nat.beq r m := by
  have e : (V.str (mkS [c]) = V.str (mkS [k])) = (c = k) := by
    refine propext ⟨fun z => ?_, fun z => by rw [z]⟩
    have := mkS_inj (V.str.inj z)
    injection this
  simp only [e]
  rcases hk with ⟨rfl, rfl⟩ | ⟨rfl, rfl⟩ <;> rcases h with ⟨rfl, rfl⟩ | ⟨rfl, rfl⟩ | ⟨rfl, rfl⟩ | ⟨rfl, rfl⟩ <;> decide
theorem snd_eq : SndO J (rEqX J.X.K) eqD := fun x y z v u Hf H Q h sm r1 r2 q => by
  rcases eqD_cases h with ⟨r, c, rfl, rfl, hc⟩ | ⟨h1, h2, rfl⟩
  · obtain ⟨k, rfl, ok⟩ := sg1 r1
    unfold Rep at r2
    subst r2
    refine .inr ⟨rfl, ?_⟩
    rcases hc with ⟨rfl, rfl⟩ | ⟨rfl, rfl⟩
    · rw [sg_dec ok (.inl ⟨rfl, rfl⟩)]
      exact q Hf _ H (Frame.refl sm) (by unfold Rep; rfl)
    · rw [sg_dec ok (.inr ⟨rfl, rfl⟩)]
      exact q Hf _ H (Frame.refl sm) (by unfold Rep; rfl)
  · refine .inl ⟨toP x, toP y, (r1.mono sm).dp 9 x v h1, (r2.mono sm).dp 9 y u h2, shaped_ok h1, shaped_ok h2, ?_⟩
    rw [eqv_beq 9 9 x y h1 h2]
    exact q Hf _ H (Frame.refl sm) (by unfold Rep; rfl)
theorem neD_cases {x y z : D} (h : neD x y = some z) : ∃ b, eqD x y = some (.bl b) ∧ z = .bl (!b) := by
  unfold neD at h
  split at h
  · rename_i b e
    cases h
    exact ⟨b, e, rfl⟩
  · cases h
theorem snd_ne : SndO J (rNeX J.X.K) neD := fun x y z v u Hf H Q h sm r1 r2 q => by
  obtain ⟨b, h', rfl⟩ := neD_cases h
  rcases eqD_cases h' with ⟨r, c, rfl, rfl, hc⟩ | ⟨h1, h2, e⟩
  · obtain ⟨k, rfl, ok⟩ := sg1 r1
    unfold Rep at r2
    subst r2
    refine .inr ⟨rfl, ?_⟩
    rcases hc with ⟨rfl, e⟩ | ⟨rfl, e⟩
    · cases e
      rw [sg_dec ok (.inl ⟨rfl, rfl⟩)]
      exact q Hf _ H (Frame.refl sm) (by unfold Rep; rfl)
    · cases e
      rw [sg_dec ok (.inr ⟨rfl, rfl⟩)]
      exact q Hf _ H (Frame.refl sm) (by unfold Rep; rfl)
  · cases e
    refine .inl ⟨toP x, toP y, (r1.mono sm).dp 9 x v h1, (r2.mono sm).dp 9 y u h2, shaped_ok h1, shaped_ok h2, ?_⟩
    rw [eqv_beq 9 9 x y h1 h2]
    exact q Hf _ H (Frame.refl sm) (by unfold Rep; rfl)
/-! ### + - * % -/
theorem lenLe_if {α : Type} {a b : List α} {z w : D} (h : (if (lenLe a big && lenLe b big) = true then some z else none) = some w) : a.length + b.length ≤ sizeLine ∧ w = z := by
  split at h
  · rename_i e
    rw [Bool.and_eq_true] at e
    cases h
    have := lenLe_ok e.1
    have := lenLe_ok e.2
    refine ⟨?_, rfl⟩
    rw [sizeLine_eq]
    unfold big at *
    omega
  · cases h
theorem paired_app {α β : Type} {F : α → β → Prop} {x x' : List α} {y y' : List β} (p : Paired F x y) (q : Paired F x' y') : Paired F (x ++ x') (y ++ y') := by
  induction p with
  | nil => exact q
  | cons a _ ih => exact .cons a ih
/-- () + t is t itself -/
def rCat0 (K : PySem.W.Frag) : R2 := fun x y H Q => ∃ a b ys, x = .ref a ∧ y = .ref b ∧ SqT K H a [] ∧ SqT K H b ys ∧ Q (.ref b) H
theorem op_cat0 : OpR J.X (binaryOp .Add) (rCat0 J.X.K) := by
  intro pins s σ H x y v u Q I rx ry h
  obtain ⟨a, b, ys, rfl, rfl, ha, hb, q⟩ := h
  cases rx
  cases ry
  obtain ⟨its, r1, p1, _⟩ := I.tuple ha
  obtain ⟨its2, r2, p2, _⟩ := I.tuple hb
  obtain rfl := r1.nil_iff.mpr rfl
  obtain ⟨⟨cls, dd, data, sl⟩, ho, hc, n, hd⟩ := id p1
  obtain ⟨⟨cls2, dd2, data2, sl2⟩, ho2, hc2, n2, hd2⟩ := id p2
  simp only at hc hd hc2 hd2
  subst hc hd hc2 hd2
  exact concat_meets ⟨_, ho, rfl⟩ ⟨_, ho2, rfl⟩ noFill_tuple_add seq_tuple_add PySem.F.slot_tuple_add PySem.F.entry_tuple_add (PySem.F.args_tuple_add_2 _ _) (PyProof.Rows.tuple_addW0 a b #[] its2.toArray n n2 dd dd2 sl sl2 rfl) ⟨ho, ho2, .ref b, H, I, rfl, q⟩
def rAddX (K : PySem.W.Frag) : R2 := fun x y H Q => (rI0 fun i j => .int (i + j)) x y H Q ∨ ((∃ i j, x = .str i ∧ y = .str j ∧ i.length + j.length ≤ sizeLine ∧ Q (.str (i ++ j)) H) ∨ (rCat x y H Q ∨ (rCatT K x y H Q ∨ rCat0 K x y H Q)))
theorem op_addX : OpR J.X (binaryOp .Add) (rAddX J.X.K) := op_add.or (op_add_str.or (op_cat.or (op_catT.or op_cat0)))
theorem snd_add : SndO J (rAddX J.X.K) addD := fun x y z v u Hf H Q h sm r1 r2 q => by
  unfold addD at h
  split at h
  · rename_i i j
    cases h
    unfold Rep at r1 r2
    exact .inl ⟨i, j, r1, r2, q Hf _ H (Frame.refl sm) (by unfold Rep; rfl)⟩
  · rename_i i j
    obtain ⟨hz, rfl⟩ := lenLe_if h
    unfold Rep at r1 r2
    refine .inr (.inl ⟨_, _, r1, r2, by rw [mkS_len, mkS_len]; exact hz, ?_⟩)
    rw [mkS_app]
    exact q Hf _ H (Frame.refl sm) (by unfold Rep; rfl)
  · rename_i i j
    obtain ⟨hz, rfl⟩ := lenLe_if h
    unfold Rep at r1 r2
    obtain ⟨p1, vs, rfl, e1, rr1⟩ := r1
    obtain ⟨p2, ws, rfl, e2, rr2⟩ := r2
    refine .inr (.inr (.inl ⟨p1, p2, vs, ws, rfl, rfl, sm _ _ e1, sm _ _ e2, by rw [rr1.length, rr2.length]; exact hz, fun p hp => ?_⟩))
    have nf : Frame ⟨Hf, H⟩ (upd Hf p (.lst (vs ++ ws))) (upd H p (.lst (vs ++ ws))) := Frame.new1 sm hp
    exact q _ _ _ nf (by unfold Rep; exact ⟨p, _, rfl, upd_same, (rr1.mono nf.rd).app (rr2.mono nf.rd)⟩)
  · rename_i j
    cases h
    unfold Rep at r1
    obtain ⟨p1, vs, rfl, e1, rr1⟩ := r1
    have nv : vs = [] := rr1
    have r2' := r2
    unfold Rep at r2
    obtain ⟨p2, ws, rfl, e2, rr2⟩ := r2
    exact .inr (.inr (.inr (.inr ⟨p1, p2, ws, rfl, rfl, nv ▸ same_sqT sm e1, same_sqT sm e2, q Hf _ H (Frame.refl sm) r2'⟩)))
  · rename_i i j hne
    obtain ⟨hz, rfl⟩ := lenLe_if h
    unfold Rep at r1 r2
    obtain ⟨p1, vs, rfl, e1, rr1⟩ := r1
    obtain ⟨p2, ws, rfl, e2, rr2⟩ := r2
    have nv : vs ≠ [] := fun z => by
      have := rr1.length
      rw [z] at this
      cases i with
      | nil => exact hne rfl
      | cons _ _ => simp at this
    refine .inr (.inr (.inr (.inl ⟨p1, p2, vs, ws, rfl, rfl, same_sqT sm e1, same_sqT sm e2, nv, by rw [rr1.length, rr2.length]; exact hz, fun e => ?_, fun _ p hp => ?_⟩)))
    · have ej : j = [] := by
        have := rr2.length
        rw [e] at this
        cases j with
        | nil => rfl
        | cons _ _ => simp at this
      subst ej
      rw [List.append_nil] at q
      exact q Hf _ H (Frame.refl sm) (by unfold Rep; exact ⟨p1, vs, rfl, e1, rr1⟩)
    · have nf : Frame ⟨Hf, H⟩ (upd Hf p (.tup (vs ++ ws))) (upd H p (.tup (vs ++ ws))) := Frame.new1 sm hp
      exact q _ _ _ nf (by unfold Rep; exact ⟨p, _, rfl, .inl (.inl upd_same), (rr1.mono nf.rd).app (rr2.mono nf.rd)⟩)
  · rename_i i j
    obtain ⟨hz, rfl⟩ := lenLe_if h
    unfold Rep at r1 r2
    obtain ⟨x, rfl, p1⟩ := r1
    obtain ⟨y, rfl, p2⟩ := r2
    have l1 := Paired.length p1
    have l2 := Paired.length p2
    refine .inr (.inl ⟨_, _, rfl, rfl, by rw [mkS_len, mkS_len, l1, l2]; exact hz, ?_⟩)
    rw [mkS_app]
    exact q Hf _ H (Frame.refl sm) (by unfold Rep; exact ⟨_, rfl, paired_app p1 p2⟩)
  · rename_i b
    split at h
    · cases h
      unfold Rep at r1 r2
      obtain ⟨n, rfl⟩ := r1
      have hb : 0 ≤ b := by assumption
      exact .inl ⟨n, b, rfl, r2, q Hf _ H (Frame.refl sm) (by unfold Rep; exact ⟨n + b.toNat, congrArg V.int (by omega)⟩)⟩
    · cases h
  · rename_i b
    split at h
    · cases h
      unfold Rep at r1 r2
      obtain ⟨n, rfl⟩ := r2
      have hb : 0 ≤ b := by assumption
      exact .inl ⟨b, n, r1, rfl, q Hf _ H (Frame.refl sm) (by unfold Rep; exact ⟨b.toNat + n, congrArg V.int (by omega)⟩)⟩
    · cases h
  · cases h
theorem snd_sub : SndO J (rI0 fun i j => .int (i - j)) subD := fun x y z v u Hf H Q h sm r1 r2 q => by
  unfold subD at h
  split at h
  · rename_i i j
    cases h
    unfold Rep at r1 r2
    exact ⟨i, j, r1, r2, q Hf _ H (Frame.refl sm) (by unfold Rep; rfl)⟩
  · cases h
theorem snd_mod : SndO J (rI (fun _ j => 0 < j) fun i j => .int (i % j)) modD := fun x y z v u Hf H Q h sm r1 r2 q => by
  unfold modD at h
  split at h
  · rename_i i j
    split at h
    · cases h
      unfold Rep at r1 r2
      rename_i hj
      exact ⟨i, j, r1, r2, hj, q Hf _ H (Frame.refl sm) (by unfold Rep; rfl)⟩
    · cases h
  · cases h
theorem snd_cmp {f : Int → Int → Bool} : SndO J (rI0 fun i j => .bl (f i j)) (cmpD f) := fun x y z v u Hf H Q h sm r1 r2 q => by
  unfold cmpD at h
  split at h
  · rename_i i j
    cases h
    unfold Rep at r1 r2
    exact ⟨i, j, r1, r2, q Hf _ H (Frame.refl sm) (by unfold Rep; rfl)⟩
  · cases h
theorem ltL_eq : ∀ x y : List Nat, ltL x y = decide (x < y)
  | [], [] => by simp [ltL]
  | _ :: _, [] => by simp [ltL]
  | [], _ :: _ => by simp [ltL]
  | a :: x, b :: y => by
    show (Nat.blt a b || (Nat.beq a b && ltL x y)) = _
    rw [ltL_eq x y]
    by_cases h : a < b
    · have : Nat.blt a b = true := Nat.blt_eq.mpr h
      rw [this]
      simp [List.cons_lt_cons_iff, h]
    · have h1 : Nat.blt a b = false := by
        cases q : Nat.blt a b with
        | false => rfl
        | true => exact absurd (Nat.blt_eq.mp q) h
      by_cases e : a = b
      · subst e
        simp [h1, Nat.beq_refl, List.cons_lt_cons_iff]
      · have h2 : Nat.beq a b = false := by
          cases q : Nat.beq a b with
          | false => rfl
          | true => exact absurd (Nat.eq_of_beq_eq_true q) e
        simp [h1, h2, List.cons_lt_cons_iff, h, e]
def rLtX : R2 := fun x y H Q => (rI0 fun i j => .bl (decide (i < j))) x y H Q ∨ (∃ i j, x = .str i ∧ y = .str j ∧ Q (.bl (decide (i.cps.toList < j.cps.toList))) H)
theorem op_ltX : OpR J.X (compareOp .Lt) rLtX := op_lt.or op_lt_str
theorem snd_lt : SndO J rLtX ltD := fun x y z v u Hf H Q h sm r1 r2 q => by
  unfold ltD at h
  split at h
  · rename_i i j
    cases h
    unfold Rep at r1 r2
    exact .inl ⟨i, j, r1, r2, q Hf _ H (Frame.refl sm) (by unfold Rep; rfl)⟩
  · rename_i i j
    cases h
    unfold Rep at r1 r2
    refine .inr ⟨_, _, r1, r2, ?_⟩
    rw [mkS_cps, mkS_cps, ← ltL_eq]
    exact q Hf _ H (Frame.refl sm) (by unfold Rep; rfl)
  · cases h
end
end DL

set_option Elab.async false
set_option linter.all false
set_option maxRecDepth 100000
namespace DL
open PySem PySem.Spec PyProof.Rows L2
section
variable {J : Jx} {ρ : Env} {a b e : Expr} {es : List Expr} {pos p : Pos} {ha hb : H1}
/-! ### indices -/
theorem ixP_eq {n : Nat} {i : Int} {j : Nat} (h : ixP n i = some j) : L2.ixN n i = some j ∧ j < n := by
  unfold ixP at h
  unfold L2.ixN
  split at h
  · rename_i j'
    split at h
    · rename_i hj
      have hj := Nat.blt_eq.mp hj
      cases h
      have e0 : Int.ofNat j = (j : Int) := rfl
      rw [e0, if_pos (by omega), if_pos (by omega)]
      exact ⟨by simp, hj⟩
    · cases h
  · rename_i j'
    split at h
    · rename_i hj
      have hj := Nat.blt_eq.mp hj
      cases h
      rw [if_neg (by omega), if_pos (by omega)]
      exact ⟨congrArg some (by omega), by omega⟩
    · cases h
theorem nthL_eq {α : Type} {xs : List α} {i : Int} {x : α} (h : nthL xs i = some x) : L2.atI xs i = some x ∧ ∃ j, ixP xs.length i = some j ∧ xs[j]? = some x := by
  unfold nthL at h
  split at h
  · rename_i j e
    exact ⟨by unfold L2.atI; rw [(ixP_eq e).1]; exact h, j, e, h⟩
  · cases h
theorem nth_reps {T : Tab} {K : PySem.W.Frag} {H : Hp} {ds : List D} {vs : List V} {i : Int} {d : D} (h : nthL ds i = some d) (r : Reps T K H ds vs) : ∃ v, L2.atI vs i = some v ∧ Rep T K H d v := by
  obtain ⟨_, j, e, g⟩ := nthL_eq h
  obtain ⟨v, gv, rv⟩ := r.getD g
  refine ⟨v, ?_, rv⟩
  unfold L2.atI
  rw [r.length, (ixP_eq e).1]
  exact gv
theorem paired_get {α β : Type} {F : α → β → Prop} : ∀ {x : List α} {y : List β} {j : Nat} {b : β}, Paired F x y → y[j]? = some b → ∃ a, x[j]? = some a ∧ F a b
  | _, _, j, b, .nil, h => by simp at h
  | _, _, 0, b, .cons q t, h => ⟨_, rfl, Option.some.inj h ▸ q⟩
  | _, _, j + 1, b, .cons q t, h => paired_get (j := j) t h
theorem snd_ix : SndO J (rIx J.X.K) ixD := fun x y z v u Hf H Q h sm r1 r2 q => by
  unfold ixD at h
  split at h
  · rename_i xs i
    unfold Rep at r1 r2
    obtain ⟨p1, vs, rfl, e1, rr⟩ := r1
    obtain ⟨w, ga, rw'⟩ := nth_reps h rr
    exact .inl ⟨p1, vs, i, w, rfl, r2, SqL.of (sm _ _ e1), ga, q Hf w H (Frame.refl sm) rw'⟩
  · rename_i xs i
    unfold Rep at r1 r2
    obtain ⟨p1, vs, rfl, e1, rr⟩ := r1
    obtain ⟨w, ga, rw'⟩ := nth_reps h rr
    exact .inr (.inl ⟨p1, vs, i, w, rfl, r2, same_sqT sm e1, ga, q Hf w H (Frame.refl sm) rw'⟩)
  · rename_i xs i
    split at h
    · rename_i hz
      split at h
      · rename_i c hc
        cases h
        unfold Rep at r1 r2
        have hz := lenLe_ok hz
        refine .inr (.inr ⟨mkS xs, i, c, r1, r2, by rw [mkS_len]; exact Nat.le_trans hz (Nat.le_of_lt big_line), by rw [mkS_cps]; exact (nthL_eq hc).1, ?_⟩)
        exact q Hf _ H (Frame.refl sm) (by unfold Rep; rfl)
      · cases h
    · cases h
  · rename_i xs i
    split at h
    · rename_i hz
      split at h
      · rename_i c hc
        cases h
        unfold Rep at r1 r2
        obtain ⟨ys, rfl, pp⟩ := r1
        have hz := lenLe_ok hz
        have hl := Paired.length pp
        obtain ⟨_, j, ej, gj⟩ := nthL_eq hc
        obtain ⟨k, gk, ok⟩ := paired_get pp gj
        refine .inr (.inr ⟨mkS ys, i, k, rfl, r2, by rw [mkS_len, hl]; exact Nat.le_trans hz (Nat.le_of_lt big_line), ?_, ?_⟩)
        · rw [mkS_cps]
          unfold L2.atI
          rw [hl, (ixP_eq ej).1]
          exact gk
        · exact q Hf _ H (Frame.refl sm) (by unfold Rep; exact ⟨[k], rfl, .cons ok .nil⟩)
      · cases h
    · cases h
  · cases h
theorem pf_ix (pa : PF J ρ a ha) (pb : PF J ρ b hb) (hs : PlainIx b := by exact fun _ _ => rfl) : PF J ρ (.Subscript a b pos) (hB ha fun x => hB hb fun y => hO (ixD x y)) :=
  PE.to (pe_ix ix_seq pa pb hs) fun σ H Q ⟨Hf, k, r, h, P⟩ =>
    ⟨Hf, _, r, h, .bind P.ex fun x hx Hf1 v H1 f1 rv => ⟨Hf1, _, SR.fx r f1, hx, .bind (fun c hc Hf2 H2 f2 => P.ex c hc Hf2 H2 (f1.trans f2)) fun y hy Hf2 u H2 f2 ru => by
      obtain ⟨z, e, hk⟩ := hO_some hy
      exact snd_ix x y z v u Hf2 H2 Q e f2.sub (rv.mono f2.rd) ru fun Hf3 w H3 f3 rw' => P.ok z hk Hf3 w H3 ((f1.trans f2).trans f3) rw'⟩⟩
/-! ### slices -/
structure PostO (J : Jx) (σ : L2.St) (Hf H : Hp) (k : (Option Int ⊕ Nat) → Bool) (Q : Option Int → Hp → Prop) : Prop where
  ok : ∀ i, k (.inl i) = true → ∀ Hf' H', Frame ⟨Hf, H⟩ Hf' H' → Q i H'
  ex : ∀ c, k (.inr c) = true → ∀ Hf' H', Frame ⟨Hf, H⟩ Hf' H' → J.W (.ref (J.T.cls c)) none σ H'
def tOp (J : Jx) (ρ : Env) (h : HOp) : TO := fun σ H Q => ∃ Hf k, J0 J ρ Hf σ H ∧ h k = true ∧ PostO J σ Hf H k Q
def PFo (J : Jx) (ρ : Env) (e : Option Expr) (h : HOp) : Prop := PO J.X e (tOp J ρ h)
theorem PO.to {X : Cx} {e : Option Expr} {t t' : TO} (h : PO X e t) (i : ∀ σ H Q, t' σ H Q → t σ H Q) : PO X e t' := by
  obtain ⟨hr⟩ := h
  refine ⟨?_⟩
  first
    | exact fun pins s σ H Q I w => hr pins s σ H Q I (i σ H Q w)
    | (intros; apply hr <;> first | assumption | (apply i; assumption))
theorem pfo_none : PFo J ρ none oNone := PO.to po_none fun σ H Q ⟨Hf, k, r, h, P⟩ => P.ok none h Hf H (Frame.refl r.fr.sub)
theorem pfo_some {h : H1} (pe : PF J ρ e h) : PFo J ρ (some e) (oSome h) := PO.to (po_some pe) fun σ H Q ⟨Hf, k, r, h, P⟩ => ⟨Hf, _, r, h, {
  ok := fun d hd Hf1 v H1 f1 rv => by
    cases d with
    | int i => unfold Rep at rv; exact ⟨i, rv, P.ok (some i) hd Hf1 H1 f1⟩
    | _ => cases hd
  ex := P.ex }⟩
theorem bnd_eq (n d : Nat) (o : Option Int) : bnd n d o = HT.sIx n d o := by
  cases o with
  | none => rfl
  | some v =>
    show _ = if v < 0 then (v + (n : Int)).toNat else min v.toNat n
    cases v with
    | ofNat j =>
      have e0 : ¬ (Int.ofNat j < 0) := by have : Int.ofNat j = (j : Int) := rfl; omega
      have e1 : (Int.ofNat j).toNat = j := rfl
      have e2 : bnd n d (some (Int.ofNat j)) = if Nat.ble j n = true then j else n := rfl
      rw [e2, if_neg e0, e1]
      by_cases h : j ≤ n
      · rw [if_pos (Nat.ble_eq.mpr h)]
        omega
      · rw [if_neg (fun z => h (Nat.ble_eq.mp z))]
        omega
    | negSucc j =>
      show n - (j + 1) = _
      rw [if_pos (by omega)]
      omega
theorem cutL_reps {T : Tab} {K : PySem.W.Frag} {H : Hp} {ds : List D} {vs : List V} (r : Reps T K H ds vs) (lo m : Nat) : Reps T K H ((ds.drop lo).take m) ((vs.drop lo).take m) := by
  have hd : ∀ (n : Nat) (ds : List D) (vs : List V), Reps T K H ds vs → Reps T K H (ds.drop n) (vs.drop n) := fun n => by
    induction n with
    | zero => intro ds vs r; exact r
    | succ n ih =>
      intro ds vs r
      cases ds with
      | nil => rw [show vs = [] from r]; exact rfl
      | cons d ds => obtain ⟨v, rr, e, _, r2⟩ := r; rw [e]; exact ih ds rr r2
  have ht : ∀ (n : Nat) (ds : List D) (vs : List V), Reps T K H ds vs → Reps T K H (ds.take n) (vs.take n) := fun n => by
    induction n with
    | zero => intro ds vs r; exact rfl
    | succ n ih =>
      intro ds vs r
      cases ds with
      | nil => rw [show vs = [] from r]; exact rfl
      | cons d ds => obtain ⟨v, rr, e, r1, r2⟩ := r; rw [e]; exact ⟨v, rr.take n, rfl, r1, ih ds rr r2⟩
  exact ht m _ _ (hd lo _ _ r)
theorem paired_cut {α β : Type} {F : α → β → Prop} {x : List α} {y : List β} (r : Paired F x y) (lo m : Nat) : Paired F ((x.drop lo).take m) ((y.drop lo).take m) := by
  have hd : ∀ (n : Nat) (x : List α) (y : List β), Paired F x y → Paired F (x.drop n) (y.drop n) := fun n => by
    induction n with
    | zero => intro x y r; exact r
    | succ n ih =>
      intro x y r
      cases r with
      | nil => exact .nil
      | cons _ t => exact ih _ _ t
  have ht : ∀ (n : Nat) (x : List α) (y : List β), Paired F x y → Paired F (x.take n) (y.take n) := fun n => by
    induction n with
    | zero => intro x y r; exact .nil
    | succ n ih =>
      intro x y r
      cases r with
      | nil => exact .nil
      | cons q t => exact .cons q (ih _ _ t)
  exact ht m _ _ (hd lo _ _ r)
def rSlX (K : PySem.W.Frag) : V → Option Int → Option Int → Hp → VK → Prop := fun x lo hi H Q => rSlS x lo hi H Q ∨ rSlL K x lo hi H Q
theorem snd_sl {x z : D} {lo hi : Option Int} {v : V} {Hf H : Hp} {Q : VK} (h : slD x lo hi = some z) (sm : Same Hf H) (r1 : Rep J.T J.X.K Hf x v)
    (q : ∀ Hf' w H', Frame ⟨Hf, H⟩ Hf' H' → Rep J.T J.X.K Hf' z w → Q w H') : rSlX J.X.K v lo hi H Q := by
  unfold slD at h
  split at h
  · rename_i xs
    split at h
    · rename_i hz
      cases h
      unfold Rep at r1
      subst r1
      have hz := lenLe_ok hz
      refine .inl ⟨mkS xs, rfl, by rw [mkS_len]; exact Nat.le_trans hz (Nat.le_of_lt big_line), ?_⟩
      refine q Hf _ H (Frame.refl sm) (by
        unfold Rep cutS cutL
        rw [mkS_len, mkS_cps, bnd_eq, bnd_eq]
        rfl)
    · cases h
  · rename_i xs
    split at h
    · rename_i hz
      cases h
      unfold Rep at r1
      obtain ⟨ys, rfl, pp⟩ := r1
      have hz := lenLe_ok hz
      have hl := Paired.length pp
      refine .inl ⟨mkS ys, rfl, by rw [mkS_len, hl]; exact Nat.le_trans hz (Nat.le_of_lt big_line), ?_⟩
      refine q Hf _ H (Frame.refl sm) (by
        unfold Rep cutS cutL
        rw [mkS_len, mkS_cps, bnd_eq, bnd_eq, hl]
        exact ⟨_, rfl, paired_cut pp _ _⟩)
    · cases h
  · rename_i xs
    cases h
    unfold Rep at r1
    obtain ⟨p1, vs, rfl, e1, rr⟩ := r1
    refine .inr ⟨p1, vs, rfl, SqL.of (sm _ _ e1), fun p hp => ?_⟩
    have nf : Frame ⟨Hf, H⟩ (upd Hf p (.lst (cutV vs lo hi))) (upd H p (.lst (cutV vs lo hi))) := Frame.new1 sm hp
    refine q _ _ _ nf (by
      unfold Rep
      refine ⟨p, _, rfl, upd_same, Reps.mono nf.rd ?_⟩
      unfold cutV cutL
      rw [bnd_eq, bnd_eq, rr.length]
      exact cutL_reps rr _ _)
  · cases h
theorem pf_sl {lo hi : Option Expr} {p2 : Pos} {he : H1} {hl hu : HOp} (pe : PF J ρ e he) (pl : PFo J ρ lo hl) (pu : PFo J ρ hi hu) : PF J ρ (.Subscript e (.Slice lo hi none p2) pos) (hSl he hl hu) :=
  PE.to (pe_slice (sl_str.or sl_list) pe pl pu) fun σ H Q ⟨Hf, k, r, h, P⟩ => ⟨Hf, _, r, h, {
    ok := fun d hd Hf1 v H1 f1 rv => ⟨Hf1, _, SR.fx r f1, hd, {
      ok := fun lo hlo Hf2 H2 f2 => ⟨Hf2, _, SR.fx (SR.fx r f1) f2, hlo, {
        ok := fun hi hhi Hf3 H3 f3 => by
          obtain ⟨z, e, hk⟩ := hO_some hhi
          exact snd_sl e f3.sub ((rv.mono f2.rd).mono f3.rd) fun Hf4 w H4 f4 rw' => P.ok z hk Hf4 w H4 (((f1.trans f2).trans f3).trans f4) rw'
        ex := fun c hc Hf3 H3 f3 => P.ex c hc Hf3 H3 ((f1.trans f2).trans f3) }⟩
      ex := fun c hc Hf2 H2 f2 => P.ex c hc Hf2 H2 (f1.trans f2) }⟩
    ex := P.ex }⟩
/-! ### in, not in -/
theorem inL_eq (c : Nat) : ∀ l : List Nat, inL c l = decide (c ∈ l)
  | [] => by simp [inL]
  | a :: r => by
    show (Nat.beq a c || inL c r) = _
    rw [inL_eq c r]
    by_cases h : a = c
    · subst h; simp [Nat.beq_refl]
    · have h2 : Nat.beq a c = false := by
        cases q : Nat.beq a c with
        | false => rfl
        | true => exact absurd (Nat.eq_of_beq_eq_true q) h
      have h3 : ¬ c = a := fun z => h z.symm
      simp [h2, h3]
theorem anyEq_eq {n m : Nat} {x : D} (hx : okD n x = true) : ∀ {xs : List D}, okDs m xs = true → anyEq x xs = (toPs xs).any fun y => PyData.eqv y (toP x)
  | [], _ => rfl
  | y :: r, h => by
    simp only [okDs, Bool.and_eq_true] at h
    unfold toPs anyEq
    rw [List.any_cons, eqv_beq m n y x h.1 hx, anyEq_eq hx h.2]
def rInD (K : PySem.W.Frag) (neg : Bool) : R2 := fun x y H Q => ∃ d es, Dp K H x d ∧ (Dp K H y (.list es) ∨ Dp K H y (.tuple es)) ∧ d.canLay0 = true ∧ PyData.canLayAll0 es = true ∧ d.depth ≤ 9 ∧ Q (.bl (if neg then !es.any fun y => PyData.eqv y d else es.any fun y => PyData.eqv y d)) H
theorem op_inD (hu : J.X.A.units + 64 < cLine) : OpR J.X (compareOp .In) (rInD J.X.K false) := by
  intro pins s σ H x y v u Q I rx ry h
  obtain ⟨d, es, hd, he, l1, l2, dd, q⟩ := h
  obtain ⟨as, r1⟩ := Dp.reads I d x v hd rx
  have hz : J.X.A.units + 1 + min (PyData.depthAll es) d.depth < cLine := by
    have := Nat.min_le_right (PyData.depthAll es) d.depth
    omega
  rcases he with he | he
  · obtain ⟨bs, r2⟩ := Dp.reads I _ y u he ry
    exact SeqAt.in_list_reads r2 r1 l2 l1 hz ⟨.bl _, H, I, rfl, q⟩
  · obtain ⟨bs, r2⟩ := Dp.reads I _ y u he ry
    exact SeqAt.in_tuple_reads r2 r1 l2 l1 hz ⟨.bl _, H, I, rfl, q⟩
theorem op_notInD (hu : J.X.A.units + 64 < cLine) : OpR J.X (compareOp .NotIn) (rInD J.X.K true) := by
  intro pins s σ H x y v u Q I rx ry h
  obtain ⟨d, es, hd, he, l1, l2, dd, q⟩ := h
  obtain ⟨as, r1⟩ := Dp.reads I d x v hd rx
  have hz : J.X.A.units + 1 + min (PyData.depthAll es) d.depth < cLine := by
    have := Nat.min_le_right (PyData.depthAll es) d.depth
    omega
  rcases he with he | he
  · obtain ⟨bs, r2⟩ := Dp.reads I _ y u he ry
    exact SeqAt.notIn_list_reads r2 r1 l2 l1 hz ⟨.bl _, H, I, rfl, q⟩
  · obtain ⟨bs, r2⟩ := Dp.reads I _ y u he ry
    exact SeqAt.notIn_tuple_reads r2 r1 l2 l1 hz ⟨.bl _, H, I, rfl, q⟩
def rInX (K : PySem.W.Frag) : R2 := fun x y H Q => (∃ (c : Nat) (z : Str), x = .str ⟨#[c]⟩ ∧ y = .str z ∧ Q (.bl (decide (c ∈ z.cps.toList))) H) ∨ rInD K false x y H Q
def rNotInX (K : PySem.W.Frag) : R2 := fun x y H Q => (∃ (c : Nat) (z : Str), x = .str ⟨#[c]⟩ ∧ y = .str z ∧ Q (.bl (!decide (c ∈ z.cps.toList))) H) ∨ rInD K true x y H Q
theorem op_inX (hu : J.X.A.units + 64 < cLine) : OpR J.X (compareOp .In) (rInX J.X.K) := op_in_sign.or (op_inD hu)
theorem op_notInX (hu : J.X.A.units + 64 < cLine) : OpR J.X (compareOp .NotIn) (rNotInX J.X.K) := op_notIn_sign.or (op_notInD hu)
theorem inD_cases {x y z : D} (h : inD x y = some z) : (∃ c w, x = .str [c] ∧ y = .str w ∧ z = .bl (inL c w)) ∨ (∃ c, x = .sg [c] ∧ y = .str signs4 ∧ z = .bl true) ∨
    (∃ xs, (y = .lst xs ∨ y = .tup xs) ∧ okD 9 x = true ∧ okDs 8 xs = true ∧ z = .bl (anyEq x xs)) := by
  unfold inD at h
  split at h
  · cases h; exact .inl ⟨_, _, rfl, rfl, rfl⟩
  · split at h
    · rename_i e
      cases h
      rw [beqL_eq] at e
      exact .inr (.inl ⟨_, rfl, by rw [of_decide_eq_true e], rfl⟩)
    · cases h
  · split at h
    · rename_i e
      rw [Bool.and_eq_true] at e
      cases h
      exact .inr (.inr ⟨_, .inl rfl, e.1, e.2, rfl⟩)
    · cases h
  · split at h
    · rename_i e
      rw [Bool.and_eq_true] at e
      cases h
      exact .inr (.inr ⟨_, .inr rfl, e.1, e.2, rfl⟩)
    · cases h
  · cases h
theorem in_sgs {c r : Nat} (h : sgOk c r) : decide (c ∈ (mkS signs4).cps.toList) = true := by
  rw [mkS_cps]
  rcases h with ⟨rfl, _⟩ | ⟨rfl, _⟩ | ⟨rfl, _⟩ | ⟨rfl, _⟩ <;> rfl
theorem in_data {neg : Bool} {x : D} {xs : List D} {y : D} {v u : V} {Hf H : Hp} {Q : VK} (hy : y = .lst xs ∨ y = .tup xs) (h1 : okD 9 x = true) (h2 : okDs 8 xs = true) (sm : Same Hf H) (r1 : Rep J.T J.X.K Hf x v) (r2 : Rep J.T J.X.K Hf y u)
    (q : Q (.bl (if neg then !anyEq x xs else anyEq x xs)) H) : rInD J.X.K neg v u H Q := by
  refine ⟨toP x, toPs xs, (r1.mono sm).dp 9 x v h1, ?_, (ok_lay 9 x h1).1, (oks_lay 8 xs h2).1, (ok_lay 9 x h1).2, ?_⟩
  · rcases hy with rfl | rfl
    · exact .inl ((r2.mono sm).dp 9 _ u (by simpa [okD] using h2))
    · exact .inr ((r2.mono sm).dp 9 _ u (by simpa [okD] using h2))
  · rw [← anyEq_eq h1 h2]
    exact q
theorem snd_in : SndO J (rInX J.X.K) inD := fun x y z v u Hf H Q h sm r1 r2 q => by
  rcases inD_cases h with ⟨c, w, rfl, rfl, rfl⟩ | ⟨c, rfl, rfl, rfl⟩ | ⟨xs, hy, h1, h2, rfl⟩
  · unfold Rep at r1 r2
    refine .inl ⟨c, mkS w, r1, r2, ?_⟩
    rw [mkS_cps, ← inL_eq]
    exact q Hf _ H (Frame.refl sm) (by unfold Rep; rfl)
  · obtain ⟨k, rfl, ok⟩ := sg1 r1
    unfold Rep at r2
    refine .inl ⟨k, mkS signs4, rfl, r2, ?_⟩
    rw [in_sgs ok]
    exact q Hf _ H (Frame.refl sm) (by unfold Rep; rfl)
  · exact .inr (in_data hy h1 h2 sm r1 r2 (q Hf _ H (Frame.refl sm) (by unfold Rep; rfl)))
theorem notInD_cases {x y z : D} (h : notInD x y = some z) : ∃ b, inD x y = some (.bl b) ∧ z = .bl (!b) := by
  unfold notInD at h
  split at h
  · rename_i b e
    cases h
    exact ⟨b, e, rfl⟩
  · cases h
theorem snd_notIn : SndO J (rNotInX J.X.K) notInD := fun x y z v u Hf H Q h sm r1 r2 q => by
  obtain ⟨b', h', rfl⟩ := notInD_cases h
  rcases inD_cases h' with ⟨c, w, rfl, rfl, e⟩ | ⟨c, rfl, rfl, e⟩ | ⟨xs, hy, h1, h2, e⟩
  · cases e
    unfold Rep at r1 r2
    refine .inl ⟨c, mkS w, r1, r2, ?_⟩
    rw [mkS_cps, ← inL_eq]
    exact q Hf _ H (Frame.refl sm) (by unfold Rep; rfl)
  · cases e
    obtain ⟨k, rfl, ok⟩ := sg1 r1
    unfold Rep at r2
    refine .inl ⟨k, mkS signs4, rfl, r2, ?_⟩
    rw [in_sgs ok]
    exact q Hf _ H (Frame.refl sm) (by unfold Rep; rfl)
  · cases e
    exact .inr (in_data hy h1 h2 sm r1 r2 (q Hf _ H (Frame.refl sm) (by unfold Rep; rfl)))
/-! ### is -/
def rIsX : R2 := fun x y H Q => rIsB x y H Q ∨ (y = .non ∧ Q (.bl (decide (x = .non))) H)
def rIsNotX : R2 := fun x y H Q => rNotB x y H Q ∨ (y = .non ∧ Q (.bl (!decide (x = .non))) H)
theorem op_isX : OpR J.X (compareOp .Is) rIsX := op_isBl.or op_isN
theorem op_isNotX : OpR J.X (compareOp .IsNot) rIsNotX := op_notBl.or op_notN
theorem isD_cases {x y z : D} (h : isD x y = some z) : (∃ a b, x = .bl a ∧ y = .bl b ∧ z = .bl (decide (a = b))) ∨ (y = .non ∧ ∀ T K H v, Rep T K H x v → z = .bl (decide (v = .non))) := by
  unfold isD at h
  split at h
  · rename_i a b
    cases h
    exact .inl ⟨a, b, rfl, rfl, by cases a <;> cases b <;> rfl⟩
  all_goals first
    | (cases h; done)
    | (cases h; refine .inr ⟨rfl, fun T K H v r => ?_⟩; unfold Rep at r; first | (subst r; rfl) | (obtain ⟨_, _, e, _⟩ := r; subst e; rfl) | (obtain ⟨_, e, _⟩ := r; subst e; rfl))
theorem snd_is : SndO J rIsX isD := fun x y z v u Hf H Q h sm r1 r2 q => by
  rcases isD_cases h with ⟨a, b, rfl, rfl, rfl⟩ | ⟨rfl, e⟩
  · unfold Rep at r1 r2
    exact .inl ⟨a, b, r1, r2, q Hf _ H (Frame.refl sm) (by unfold Rep; rfl)⟩
  · have e' := e _ _ _ _ r1
    subst e'
    unfold Rep at r2
    exact .inr ⟨r2, q Hf _ H (Frame.refl sm) (by unfold Rep; rfl)⟩
theorem isNotD_cases {x y z : D} (h : isNotD x y = some z) : ∃ b, isD x y = some (.bl b) ∧ z = .bl (!b) := by
  unfold isNotD at h
  split at h
  · rename_i b e
    cases h
    exact ⟨b, e, rfl⟩
  · cases h
theorem snd_isNot : SndO J rIsNotX isNotD := fun x y z v u Hf H Q h sm r1 r2 q => by
  obtain ⟨b', h', rfl⟩ := isNotD_cases h
  rcases isD_cases h' with ⟨a, b, rfl, rfl, e⟩ | ⟨rfl, e⟩
  · cases e
    unfold Rep at r1 r2
    exact .inl ⟨a, b, r1, r2, q Hf _ H (Frame.refl sm) (by unfold Rep; rfl)⟩
  · have e' := e _ _ _ _ r1
    cases e'
    unfold Rep at r2
    exact .inr ⟨r2, q Hf _ H (Frame.refl sm) (by unfold Rep; rfl)⟩
end
end DL

set_option Elab.async false
set_option linter.all false
set_option maxRecDepth 100000
namespace DL
open PySem PySem.Spec PyProof.Rows L2
section
variable {J : Jx} {ρ : Env} {a b e : Expr} {es : List Expr} {pos p : Pos}
/-! ### built-ins -/
theorem reps1 {T : Tab} {K : PySem.W.Frag} {H : Hp} {d : D} {vs : List V} (r : Reps T K H [d] vs) : ∃ v, vs = [v] ∧ Rep T K H d v := by
  obtain ⟨v, rr, e, r1, r2⟩ := r
  exact ⟨v, by rw [e, show rr = [] from r2], r1⟩
theorem reps2 {T : Tab} {K : PySem.W.Frag} {H : Hp} {d d' : D} {vs : List V} (r : Reps T K H [d, d'] vs) : ∃ v v', vs = [v, v'] ∧ Rep T K H d v ∧ Rep T K H d' v' := by
  obtain ⟨v, rr, e, r1, r2⟩ := r
  obtain ⟨v', e', r3⟩ := reps1 r2
  exact ⟨v, v', by rw [e, e'], r1, r3⟩
def rLenX (K : PySem.W.Frag) : List V → Hp → VK → Prop := fun xs H Q => (∃ p ys, xs = [.ref p] ∧ (SqL K H p ys ∨ SqT K H p ys) ∧ Q (.int ys.length) H) ∨ (∃ z, xs = [.str z] ∧ z.length ≤ sizeLine ∧ Q (.int z.length) H)
theorem call_lenX : CallR J.X (.builtin "len") (rLenX J.X.K) := call_len_seq.or call_len_str
theorem snd_len : SndC J (rLenX J.X.K) lenD := fun ds z vs Hf H Q h sm r q => by
  unfold lenD at h
  split at h
  · rename_i xs
    cases h
    obtain ⟨v, rfl, r1⟩ := reps1 r
    unfold Rep at r1
    obtain ⟨p1, ws, rfl, e1, rr⟩ := r1
    refine .inl ⟨p1, ws, rfl, .inl (SqL.of (sm _ _ e1)), ?_⟩
    rw [rr.length]
    exact q Hf _ H (Frame.refl sm) (by unfold Rep; rfl)
  · rename_i xs
    cases h
    obtain ⟨v, rfl, r1⟩ := reps1 r
    unfold Rep at r1
    obtain ⟨p1, ws, rfl, e1, rr⟩ := r1
    refine .inl ⟨p1, ws, rfl, .inr (same_sqT sm e1), ?_⟩
    rw [rr.length]
    exact q Hf _ H (Frame.refl sm) (by unfold Rep; rfl)
  · rename_i xs
    split at h
    · rename_i hz
      cases h
      obtain ⟨v, rfl, r1⟩ := reps1 r
      unfold Rep at r1
      subst r1
      have hz := lenLe_ok hz
      refine .inr ⟨mkS xs, rfl, by rw [mkS_len]; exact Nat.le_trans hz (Nat.le_of_lt big_line), ?_⟩
      rw [mkS_len]
      exact q Hf _ H (Frame.refl sm) (by unfold Rep; rfl)
    · cases h
  · rename_i xs
    split at h
    · rename_i hz
      cases h
      obtain ⟨v, rfl, r1⟩ := reps1 r
      unfold Rep at r1
      obtain ⟨ys, rfl, pp⟩ := r1
      have hz := lenLe_ok hz
      have hl := Paired.length pp
      refine .inr ⟨mkS ys, rfl, by rw [mkS_len, hl]; exact Nat.le_trans hz (Nat.le_of_lt big_line), ?_⟩
      rw [mkS_len, hl]
      exact q Hf _ H (Frame.refl sm) (by unfold Rep; rfl)
    · cases h
  · cases h
theorem bools_reps {T : Tab} {K : PySem.W.Frag} {H : Hp} : ∀ {xs : List D} {l : List Bool} {vs : List V}, bools xs = some l → Reps T K H xs vs → vs = l.map V.bl
  | [], l, vs, h, r => by cases h; rw [show vs = [] from r]; rfl
  | x :: xs, l, vs, h, ⟨v, rr, e, r1, r2⟩ => by
    unfold bools at h
    cases x with
    | bl b =>
      dsimp only at h
      split at h
      · rename_i l' e'
        cases h
        unfold Rep at r1
        rw [e, r1, bools_reps e' r2]
        rfl
      · cases h
    | _ => cases h
theorem snd_any : SndC J (rAny J.X.K) anyD := fun ds z vs Hf H Q h sm r q => by
  unfold anyD at h
  split at h
  · split at h
    · rename_i l e
      cases h
      obtain ⟨v, rfl, r1⟩ := reps1 r
      unfold Rep at r1
      obtain ⟨p1, ws, rfl, e1, rr⟩ := r1
      have ew := bools_reps e rr
      subst ew
      exact ⟨p1, l, rfl, SqL.of (sm _ _ e1), q Hf _ H (Frame.refl sm) (by unfold Rep; rfl)⟩
    · cases h
  · cases h
theorem snd_all : SndC J (rAll J.X.K) allD := fun ds z vs Hf H Q h sm r q => by
  unfold allD at h
  split at h
  · split at h
    · rename_i l e
      cases h
      obtain ⟨v, rfl, r1⟩ := reps1 r
      unfold Rep at r1
      obtain ⟨p1, ws, rfl, e1, rr⟩ := r1
      have ew := bools_reps e rr
      subst ew
      exact ⟨p1, l, rfl, SqL.of (sm _ _ e1), q Hf _ H (Frame.refl sm) (by unfold Rep; rfl)⟩
    · cases h
  · cases h
/-! #### sorted of ints -/
theorem ints_reps {T : Tab} {K : PySem.W.Frag} {H : Hp} : ∀ {xs : List D} {l : List Int} {vs : List V}, intsOf xs = some l → Reps T K H xs vs → vs = l.map V.int
  | [], l, vs, h, r => by cases h; rw [show vs = [] from r]; rfl
  | x :: xs, l, vs, h, ⟨v, rr, e, r1, r2⟩ => by
    unfold intsOf at h
    cases x with
    | int b =>
      dsimp only at h
      split at h
      · rename_i l' e'
        cases h
        unfold Rep at r1
        rw [e, r1, ints_reps e' r2]
        rfl
      · cases h
    | _ => cases h
theorem reps_ints {T : Tab} {K : PySem.W.Frag} {H : Hp} : ∀ (l : List Int), Reps T K H (l.map D.int) (l.map V.int)
  | [] => rfl
  | x :: r => ⟨.int x, r.map V.int, rfl, by unfold Rep; rfl, reps_ints r⟩
theorem insI_perm (x : Int) : ∀ l : List Int, (insI x l).Perm (x :: l)
  | [] => .refl _
  | y :: r => by
    unfold insI
    split
    · exact .refl _
    · exact ((insI_perm x r).cons y).trans (.swap x y r)
theorem sortI_perm : ∀ l : List Int, (sortI l).Perm l
  | [] => .refl _
  | x :: r => (insI_perm x (sortI r)).trans ((sortI_perm r).cons x)
theorem insI_sorted (x : Int) : ∀ {l : List Int}, l.Pairwise (· ≤ ·) → (insI x l).Pairwise (· ≤ ·)
  | [], _ => by simp [insI]
  | y :: r, h => by
    unfold insI
    split
    · rename_i hxy
      refine List.pairwise_cons.mpr ⟨fun z hz => ?_, h⟩
      rcases List.mem_cons.mp hz with rfl | hz
      · exact hxy
      · exact Int.le_trans hxy ((List.pairwise_cons.mp h).1 z hz)
    · rename_i hxy
      refine List.pairwise_cons.mpr ⟨fun z hz => ?_, insI_sorted x (List.pairwise_cons.mp h).2⟩
      have hz' := (insI_perm x r).mem_iff.mp hz
      rcases List.mem_cons.mp hz' with rfl | hz'
      · omega
      · exact (List.pairwise_cons.mp h).1 z hz'
theorem sortI_sorted : ∀ l : List Int, (sortI l).Pairwise (· ≤ ·)
  | [] => .nil
  | x :: r => insI_sorted x (sortI_sorted r)
theorem sorted_unique : ∀ {l m : List Int}, l.Perm m → l.Pairwise (· ≤ ·) → m.Pairwise (· ≤ ·) → l = m := fun hp h1 h2 =>
  hp.eq_of_pairwise (le := fun a b : Int => a ≤ b) (fun a b _ _ h h' => Int.le_antisymm h h') h1 h2
theorem snd_sorted : SndC J (rSorted J.X.K) sortedD := fun ds z vs Hf H Q h sm r q => by
  unfold sortedD at h
  split at h
  · split at h
    · rename_i l e
      split at h
      · rename_i hz
        cases h
        have hz := lenLe_ok hz
        obtain ⟨v, rfl, r1⟩ := reps1 r
        unfold Rep at r1
        obtain ⟨p1, ws, rfl, e1, rr⟩ := r1
        have ew := ints_reps e rr
        subst ew
        refine ⟨p1, l, rfl, SqL.of (sm _ _ e1), by omega, fun ns' p hperm hpw hp => ?_⟩
        have en : ns' = sortI l := sorted_unique (hperm.trans (sortI_perm l).symm) hpw (sortI_sorted l)
        subst en
        have nf : Frame ⟨Hf, H⟩ (upd Hf p (.lst ((sortI l).map V.int))) (upd H p (.lst ((sortI l).map V.int))) := Frame.new1 sm hp
        exact q _ _ _ nf (by unfold Rep; exact ⟨p, _, rfl, upd_same, reps_ints _⟩)
      · cases h
    · cases h
  · cases h
/-! #### list, tuple -/
theorem snd_list : SndC J (fun xs H Q => ∃ p ys, xs = [.ref p] ∧ (SqL J.X.K H p ys ∨ SqT J.X.K H p ys) ∧ ∀ l, H l = none → Q (.ref l) (upd H l (.lst ys))) listD := fun ds z vs Hf H Q h sm r q => by
  unfold listD at h
  split at h
  · cases h
    obtain ⟨v, rfl, r1⟩ := reps1 r
    unfold Rep at r1
    obtain ⟨p1, ws, rfl, e1, rr⟩ := r1
    refine ⟨p1, ws, rfl, .inl (SqL.of (sm _ _ e1)), fun p hp => ?_⟩
    have nf : Frame ⟨Hf, H⟩ (upd Hf p (.lst ws)) (upd H p (.lst ws)) := Frame.new1 sm hp
    exact q _ _ _ nf (by unfold Rep; exact ⟨p, _, rfl, upd_same, rr.mono nf.rd⟩)
  · cases h
    obtain ⟨v, rfl, r1⟩ := reps1 r
    unfold Rep at r1
    obtain ⟨p1, ws, rfl, e1, rr⟩ := r1
    refine ⟨p1, ws, rfl, .inr (same_sqT sm e1), fun p hp => ?_⟩
    have nf : Frame ⟨Hf, H⟩ (upd Hf p (.lst ws)) (upd H p (.lst ws)) := Frame.new1 sm hp
    exact q _ _ _ nf (by unfold Rep; exact ⟨p, _, rfl, upd_same, rr.mono nf.rd⟩)
  · cases h
theorem snd_tuple : SndC J (fun xs H Q => ∃ p ys, xs = [.ref p] ∧ ((SqL J.X.K H p ys ∧ ∀ l, H l = none → Q (.ref l) (upd H l (.tup ys))) ∨ (SqT J.X.K H p ys ∧ Q (.ref p) H))) tupleD := fun ds z vs Hf H Q h sm r q => by
  unfold tupleD at h
  split at h
  · cases h
    obtain ⟨v, rfl, r1⟩ := reps1 r
    unfold Rep at r1
    obtain ⟨p1, ws, rfl, e1, rr⟩ := r1
    refine ⟨p1, ws, rfl, .inl ⟨SqL.of (sm _ _ e1), fun p hp => ?_⟩⟩
    have nf : Frame ⟨Hf, H⟩ (upd Hf p (.tup ws)) (upd H p (.tup ws)) := Frame.new1 sm hp
    exact q _ _ _ nf (by unfold Rep; exact ⟨p, _, rfl, .inl (.inl upd_same), rr.mono nf.rd⟩)
  · cases h
    obtain ⟨v, rfl, r1⟩ := reps1 r
    have r1' := r1
    unfold Rep at r1
    obtain ⟨p1, ws, rfl, e1, rr⟩ := r1
    exact ⟨p1, ws, rfl, .inr ⟨same_sqT sm e1, q Hf _ H (Frame.refl sm) r1'⟩⟩
  · cases h
theorem snd_max2 : SndC J (fun xs H Q => ∃ i j, xs = [.int i, .int j] ∧ Q (.int (if j > i then j else i)) H) max2D := fun ds z vs Hf H Q h sm r q => by
  unfold max2D at h
  split at h
  · cases h
    obtain ⟨v, v', rfl, r1, r2⟩ := reps2 r
    unfold Rep at r1 r2
    subst r1 r2
    exact ⟨_, _, rfl, q Hf _ H (Frame.refl sm) (by unfold Rep; rfl)⟩
  · cases h
/-! ### ranges that are walked -/
theorem pfi_range1 {tg : Expr} {h : HA} (hm : J.X.mg "range" = none) (pa : PFA J ρ [a] h) (hg : Gl J.X "range" := by rfl) (hs : starEach [a] J.X.env = [(false, eval a J.X.env)] := by rfl) :
    PFi J ρ tg (.Call (.Name "range" p) [a] [] pos) (hA h fun ds => hO (rng1D ds)) :=
  PI.to (pi_range1 hg hm pa hs) fun σ H R ⟨Hf, k, r, h, P⟩ => ⟨Hf, _, r, h, {
    ok := fun ds hd Hf1 vs H1 f1 rv => by
      obtain ⟨z, e, hk⟩ := hO_some hd
      unfold rng1D at e
      split at e
      · split at e
        · rename_i j hj
          cases e
          obtain ⟨v, rfl, r1⟩ := reps1 rv
          unfold Rep at r1
          subst r1
          exact ⟨j, rfl, by omega, by omega, P.ok _ hk Hf1 _ H1 f1 walks_rng⟩
        · cases e
      · cases e
    ex := P.ex }⟩
theorem pfi_range2 {tg : Expr} {h : HA} (hm : J.X.mg "range" = none) (pa : PFA J ρ [a, b] h) (hg : Gl J.X "range" := by rfl) (hs : starEach [a, b] J.X.env = [(false, eval a J.X.env), (false, eval b J.X.env)] := by rfl) (hs2 : starEach [b] J.X.env = [(false, eval b J.X.env)] := by rfl) :
    PFi J ρ tg (.Call (.Name "range" p) [a, b] [] pos) (hA h fun ds => hO (rng2D ds)) :=
  PI.to (pi_range2 hg hm pa hs hs2) fun σ H R ⟨Hf, k, r, h, P⟩ => ⟨Hf, _, r, h, {
    ok := fun ds hd Hf1 vs H1 f1 rv => by
      obtain ⟨z, e, hk⟩ := hO_some hd
      unfold rng2D at e
      split at e
      · split at e
        · rename_i i j hj
          cases e
          obtain ⟨v, v', rfl, r1, r2⟩ := reps2 rv
          unfold Rep at r1 r2
          subst r1 r2
          exact ⟨i, j, rfl, by omega, P.ok _ hk Hf1 _ H1 f1 walks_rng⟩
        · cases e
      · cases e
    ex := P.ex }⟩
/-! ### texts walked sign by sign -/
/-! ### isinstance of a built-in class -/
def tyN : Nat → String
  | 0 => "bool" | 1 => "int" | 2 => "str" | 3 => "list" | _ => "tuple"
def kitAns (t : Nat) : Nat → Bool
  | 0 => false
  | 1 => t == 1 || t == 0
  | 2 => t == 1
  | 3 => t == 2
  | 4 => t == 3
  | _ => t == 4
def kitNm : Nat → String
  | 0 => "NoneType" | 1 => "bool" | 2 => "int" | 3 => "str" | 4 => "list" | _ => "tuple"
theorem kit_all : ∀ t, t < 5 → ∀ n, n < 6 → kitB (kitNm n) (tyN t) = some (kitAns t n)
  | 0, _, 0, _ => by decide +kernel
  | 0, _, 1, _ => by decide +kernel
  | 0, _, 2, _ => by decide +kernel
  | 0, _, 3, _ => by decide +kernel
  | 0, _, 4, _ => by decide +kernel
  | 0, _, 5, _ => by decide +kernel
  | 1, _, 0, _ => by decide +kernel
  | 1, _, 1, _ => by decide +kernel
  | 1, _, 2, _ => by decide +kernel
  | 1, _, 3, _ => by decide +kernel
  | 1, _, 4, _ => by decide +kernel
  | 1, _, 5, _ => by decide +kernel
  | 2, _, 0, _ => by decide +kernel
  | 2, _, 1, _ => by decide +kernel
  | 2, _, 2, _ => by decide +kernel
  | 2, _, 3, _ => by decide +kernel
  | 2, _, 4, _ => by decide +kernel
  | 2, _, 5, _ => by decide +kernel
  | 3, _, 0, _ => by decide +kernel
  | 3, _, 1, _ => by decide +kernel
  | 3, _, 2, _ => by decide +kernel
  | 3, _, 3, _ => by decide +kernel
  | 3, _, 4, _ => by decide +kernel
  | 3, _, 5, _ => by decide +kernel
  | 4, _, 0, _ => by decide +kernel
  | 4, _, 1, _ => by decide +kernel
  | 4, _, 2, _ => by decide +kernel
  | 4, _, 3, _ => by decide +kernel
  | 4, _, 4, _ => by decide +kernel
  | 4, _, 5, _ => by decide +kernel
theorem isi_of {T : Tab} {K : PySem.W.Frag} {Hf H : Hp} {t : Nat} {d : D} {b : Bool} {v : V} (ht : t < 5) (h : isiD t d = some b) (sm : Same Hf H) (r : Rep T K Hf d v) : ∃ u, TyX K H v u ∧ PySem.W.kitOne K u (.type (tyN t)) = some b := by
  cases d with
  | non => unfold Rep at r; subst r; exact ⟨_, .base .non, kit_ty ((kit_all t ht 0 (by decide)).trans h)⟩
  | bl x => unfold Rep at r; subst r; exact ⟨_, .base (.bl x), kit_ty ((kit_all t ht 1 (by decide)).trans h)⟩
  | int x => unfold Rep at r; subst r; exact ⟨_, .base (.int x), kit_ty ((kit_all t ht 2 (by decide)).trans h)⟩
  | str x => unfold Rep at r; subst r; exact ⟨_, .base (.str _), kit_ty ((kit_all t ht 3 (by decide)).trans h)⟩
  | sg x => unfold Rep at r; obtain ⟨y, rfl, _⟩ := r; exact ⟨_, .base (.str _), kit_ty ((kit_all t ht 3 (by decide)).trans h)⟩
  | lst x => unfold Rep at r; obtain ⟨p, vs, rfl, e, _⟩ := r; exact ⟨_, .base (.lst (sm _ _ e)), kit_ty ((kit_all t ht 4 (by decide)).trans h)⟩
  | tup x =>
    unfold Rep at r
    obtain ⟨p, vs, rfl, e, _⟩ := r
    have e' := same_sqT sm e
    have g : PySem.W.kitOne K (.type "tuple") (.type (tyN t)) = some b := kit_ty ((kit_all t ht 5 (by decide)).trans h)
    rcases e' with (e' | ⟨o, e'⟩) | ⟨o, its, n, hk, hc, _⟩
    · exact ⟨_, .base (.tup e'), g⟩
    · exact ⟨_, .fTuple e', g⟩
    · exact ⟨_, .kTuple hk hc, g⟩
  | _ => cases h
/-- isinstance(e, T) -/
theorem pf_isi {nm : Str} {h : H1} {p2 : Pos} (t : Nat) (hi : J.X.mg "isinstance" = none) (hm : J.X.mg nm = none) (hv : bootBuiltins nm = some (.type (tyN t))) (pe : PF J ρ e h) (ht : t < 5 := by decide) (hg : Gl J.X "isinstance" := by rfl) (hg2 : Gl J.X nm := by rfl)
    (hn : nm ≠ "__name__" := by decide) (hd : (nm == ("__debug__" : Str)) = false := by decide)
    (he : starEach (e :: [.Name nm p2]) J.X.env = (false, eval e J.X.env) :: starEach [.Name nm p2] J.X.env := by rfl) (he2 : starEach (.Name nm p2 :: []) J.X.env = (false, eval (.Name nm p2) J.X.env) :: starEach [] J.X.env := by rfl) (hpl : (backTo pos (starEach [.Name nm p2] J.X.env)).any (·.1) = false := by rfl) :
    PF J ρ (.Call (.Name "isinstance" p) [e, .Name nm p2] [] pos) (hB h fun d => hO ((isiD t d).map .bl)) :=
  PE.to (pe_callB call_isi hg hi boot_isinstance (pa_cons pe (pa_cons (pe_bltn (v := .ty (tyN t)) hg2 hm hv rfl hn hd) pa_nil he2) he) (by decide) (by decide) he hpl) fun σ H Q ⟨Hf, k, r, h, P⟩ => ⟨Hf, _, r, h, {
    ok := fun d hd Hf1 v H1 f1 rv => by
      obtain ⟨z, e, hk⟩ := hO_some hd
      cases q : isiD t d with
      | none => rw [q] at e; cases e
      | some b =>
        rw [q] at e
        cases e
        obtain ⟨u, ty, kit⟩ := isi_of ht q f1.sub rv
        exact ⟨v, .ty (tyN t), u, .type (tyN t), b, rfl, .ty _, ty, kit, P.ok _ hk Hf1 _ H1 f1 (by unfold Rep; rfl)⟩
    ex := P.ex }⟩
/-! ### methods of texts and lists -/
def SndM (J : Jx) (r : V → List V → Hp → VK → Prop) (F : D → List D → Option D) : Prop := ∀ (d : D) (ds : List D) (z : D) (v : V) (vs : List V) (Hf H : Hp) (Q : VK), F d ds = some z → Same Hf H → Rep J.T J.X.K Hf d v → Reps J.T J.X.K Hf ds vs →
  (∀ Hf' w H', Frame ⟨Hf, H⟩ Hf' H' → Rep J.T J.X.K Hf' z w → Q w H') → r v vs H Q
theorem tyD_V {t : Nat} {d : D} {v : V} {T : Tab} {K : PySem.W.Frag} {Hf H : Hp} (h : tyD t d = true) (sm : Same Hf H) (r : Rep T K Hf d v) : tyV K (tyN t) v H := by
  unfold tyD at h
  split at h
  · unfold Rep at r; subst r; rfl
  · unfold Rep at r; obtain ⟨y, rfl, _⟩ := r; rfl
  · unfold Rep at r; obtain ⟨p, vs, rfl, e, _⟩ := r; exact .inl ⟨rfl, _, SqL.of (sm _ _ e)⟩
  · cases h
theorem pf_meth {o : Expr} {name : Str} {id : String} {apos cpos : Pos} {t : Nat} {r : V → List V → Hp → VK → Prop} {F : D → List D → Option D} {ho : H1} {h : HA} (pl : PlainAttrs (tyN t)) (slot : Slot (tyN t) name id) (hty : typeOf (.builtin id) = pure (.type "method_descriptor"))
    (hm : MtR J.X id r) (hs : SndM J r F) (po : PF J ρ o ho) (pa : PFA J ρ (e :: es) h)
    (hbase : attributeBase o name J.X.env (eval o J.X.env) = eval o J.X.env := by rfl)
    (hfew : ((backTo cpos (starEach (e :: es) J.X.env)).all (fun x => !x.1) && (backToKw cpos (keywordEach [] J.X.env)).all (fun x => x.1.isSome)
      && decide ((e :: es).length + ([] : List Keyword).length + (if ([] : List Keyword).isEmpty then 0 else 1) < 30)) = true := by rfl)
    (hline : (apos.endLine == cpos.line) = true := by rfl) (hst : starEach (e :: es) J.X.env = (false, eval e J.X.env) :: starEach es J.X.env := by rfl) (hplain : (backTo cpos (starEach es J.X.env)).any (·.1) = false := by rfl) :
    PF J ρ (.Call (.Attribute o name apos) (e :: es) [] cpos) (hM t F ho h) :=
  PE.to (pe_bm pl slot hty hm po pa hbase hfew hline hst hplain) fun σ H Q ⟨Hf, k, r, h, P⟩ => ⟨Hf, _, r, h, {
    ok := fun d hd Hf1 v H1 f1 rv => by
      have hd' : (tyD t d && hA _ (fun ds => hO (F d ds)) k) = true := hd
      rw [Bool.and_eq_true] at hd'
      refine ⟨tyD_V hd'.1 f1.sub rv, Hf1, _, SR.fx r f1, hd'.2, {
        ok := fun ds hds Hf2 vs H2 f2 rvs => ?_
        ex := fun c hc Hf2 H2 f2 => P.ex c hc Hf2 H2 (f1.trans f2) }⟩
      obtain ⟨z, e, hk⟩ := hO_some hds
      exact hs d ds z v vs Hf2 H2 Q e f2.sub (rv.mono f2.rd) rvs fun Hf3 w H3 f3 rw' => P.ok z hk Hf3 w H3 ((f1.trans f2).trans f3) rw'
    ex := P.ex }⟩
theorem strs_reps {T : Tab} {K : PySem.W.Frag} {H : Hp} : ∀ {xs : List D} {l : List (List Nat)} {vs : List V}, strsOf xs = some l → Reps T K H xs vs → vs = (l.map mkS).map V.str
  | [], l, vs, h, r => by cases h; rw [show vs = [] from r]; rfl
  | x :: xs, l, vs, h, ⟨v, rr, e, r1, r2⟩ => by
    unfold strsOf at h
    cases x with
    | str b =>
      dsimp only at h
      split at h
      · rename_i l' e'
        cases h
        unfold Rep at r1
        rw [e, r1, strs_reps e' r2]
        rfl
      · cases h
    | _ => cases h
theorem sgs_reps {T : Tab} {K : PySem.W.Frag} {H : Hp} : ∀ {xs : List D} {l : List (List Nat)} {vs : List V}, sgsOf xs = some l → Reps T K H xs vs → ∃ m : List (List Nat), vs = (m.map mkS).map V.str ∧ Paired (Paired sgOk) m l
  | [], l, vs, h, r => by cases h; rw [show vs = [] from r]; exact ⟨[], rfl, .nil⟩
  | x :: xs, l, vs, h, ⟨v, rr, e, r1, r2⟩ => by
    unfold sgsOf at h
    cases x with
    | sg b =>
      dsimp only at h
      split at h
      · rename_i l' e'
        cases h
        unfold Rep at r1
        obtain ⟨y, e1, pp⟩ := r1
        obtain ⟨m, e2, pm⟩ := sgs_reps e' r2
        exact ⟨y :: m, by rw [e, e1, e2]; rfl, .cons pp pm⟩
      · cases h
    | _ => cases h
theorem joinL_eq (S : List Nat) : ∀ l : List (List Nat), joinL S l = (Str.join (mkS S) (l.map mkS)).cps.toList
  | [] => rfl
  | [x] => (mkS_cps x).symm
  | x :: y :: r => by
    show x ++ (S ++ joinL S (y :: r)) = _
    rw [joinL_eq S (y :: r)]
    show _ = (Str.append (Str.append (mkS x) (mkS S)) (Str.join (mkS S) ((y :: r).map mkS))).cps.toList
    unfold Str.append
    simp [mkS_cps]
theorem sum_le : ∀ (l : List (List Nat)) (n : Nat), sumLe l n = true → ((l.map mkS).map (·.length)).sum ≤ 1000 * n ∧ l.length ≤ n
  | [], n, _ => by simp
  | x :: r, 0, h => by simp [sumLe] at h
  | x :: r, n + 1, h => by
    simp only [sumLe, Bool.and_eq_true] at h
    obtain ⟨a, b⟩ := sum_le r n h.2
    have := lenLe_ok h.1
    simp only [List.map_cons, List.sum_cons, List.length_cons]
    rw [mkS_len]
    exact ⟨by omega, by omega⟩
theorem sgJoin_pair : ∀ {m l : List (List Nat)}, Paired (Paired sgOk) m l → Paired sgOk (joinL [] m) (sgJoin l)
  | [], _, .nil => .nil
  | [x], _, .cons q .nil => by
    show Paired sgOk x (_ ++ [])
    rw [List.append_nil]
    exact q
  | x :: y :: r, _, .cons q t => by
    show Paired sgOk (x ++ ([] ++ joinL [] (y :: r))) (_ ++ sgJoin _)
    rw [List.nil_append]
    exact paired_app q (sgJoin_pair t)
theorem sum_pair : ∀ {m l : List (List Nat)} (n : Nat), Paired (Paired sgOk) m l → sumLe l n = true → sumLe m n = true
  | _, _, _, .nil, _ => rfl
  | x :: m, y :: l, 0, .cons _ _, h => by simp [sumLe] at h
  | x :: m, y :: l, n + 1, .cons q t, h => by
    simp only [sumLe, Bool.and_eq_true] at h ⊢
    refine ⟨?_, sum_pair n t h.2⟩
    have e := Paired.length q
    have hl := lenLe_ok h.1
    rw [← e] at hl
    clear h t e
    have go : ∀ (x : List Nat) (n : Nat), x.length ≤ n → lenLe x n = true := fun x => by
      induction x with
      | nil => intro _ _; rfl
      | cons a r ih =>
        intro n hn
        cases n with
        | zero => simp at hn
        | succ n => exact ih n (by simpa using hn)
    exact go x 1000 hl
theorem snd_join : SndM J (fun x xs H Q => ∃ a p, ∃ ys : List Str, x = .str a ∧ xs = [.ref p] ∧ (SqL J.X.K H p (ys.map V.str) ∨ SqT J.X.K H p (ys.map V.str)) ∧
    (ys.map (·.length)).sum + ys.length * a.length ≤ 16777216 ∧ Q (.str (Txt.join a ys)) H) joinD := fun d ds z v vs Hf H Q h sm r1 r2 q => by
  unfold joinD at h
  split at h
  · rename_i s xs
    split at h
    · rename_i hs
      have hs := lenLe_ok hs
      obtain ⟨w, rfl, r3⟩ := reps1 r2
      unfold Rep at r1 r3
      subst r1
      obtain ⟨p1, ws, rfl, e1, rr⟩ := r3
      have fin : ∀ (l : List (List Nat)) , sumLe l 300 = true → ws = (l.map mkS).map V.str → Q (.str (mkS (joinL s l))) H → ∃ a p, ∃ ys : List Str, V.str (mkS s) = .str a ∧ [V.ref p1] = [.ref p] ∧ (SqL J.X.K H p (ys.map V.str) ∨ SqT J.X.K H p (ys.map V.str)) ∧
          (ys.map (·.length)).sum + ys.length * a.length ≤ 16777216 ∧ Q (.str (Txt.join a ys)) H := fun l hl hw hq => by
        obtain ⟨b1, b2⟩ := sum_le l 300 hl
        refine ⟨mkS s, p1, l.map mkS, rfl, rfl, .inl (SqL.of (by rw [← hw]; exact sm _ _ e1)), ?_, ?_⟩
        · rw [List.length_map, mkS_len]
          have : l.length * s.length ≤ 300 * 100 := Nat.mul_le_mul b2 hs
          omega
        · rw [TL.join_eq]
          have e : Str.join (mkS s) (l.map mkS) = mkS (joinL s l) := by
            rw [joinL_eq]
            unfold mkS
            cases Str.join _ _
            rfl
          rw [e]
          exact hq
      split at h
      · rename_i l el
        split at h
        · rename_i hl
          cases h
          exact fin l hl (strs_reps el rr) (q Hf _ H (Frame.refl sm) (by unfold Rep; rfl))
        · cases h
      · split at h
        · split at h
          · rename_i l el
            split at h
            · rename_i hl
              cases h
              obtain ⟨m, em, pm⟩ := sgs_reps el rr
              exact fin m (sum_pair 300 pm hl) em (q Hf _ H (Frame.refl sm) (by unfold Rep; exact ⟨_, rfl, sgJoin_pair pm⟩))
            · cases h
          · cases h
        · cases h
    · cases h
  · cases h
/-- x.index(c) of one sign -/
theorem idxL_spec (c : Nat) : ∀ {l : List Nat} {j : Nat}, idxL c l = some j → l[j]? = some c ∧ ∀ k, k < j → l[k]? ≠ some c
  | [], j, h => by cases h
  | a :: r, j, h => by
    unfold idxL at h
    split at h
    · rename_i e
      cases h
      exact ⟨by rw [Nat.eq_of_beq_eq_true e]; rfl, fun k hk => absurd hk (Nat.not_lt_zero k)⟩
    · rename_i e
      split at h
      · rename_i j' e'
        cases h
        obtain ⟨h1, h2⟩ := idxL_spec c e'
        refine ⟨h1, fun k hk z => ?_⟩
        cases k with
        | zero =>
          have : a = c := Option.some.inj z
          exact e (by rw [this]; exact Nat.beq_refl c)
        | succ k => exact h2 k (by omega) z
      · cases h
theorem snd_index : SndM J (fun x xs H Q => ∃ a b i rest, x = .str a ∧ xs = [.str b] ∧ Builtin.Str.occurrences a b 0 a.length 1 = i :: rest ∧ Q (.int (i : Nat)) H) indexD := fun d ds z v vs Hf H Q h sm r1 r2 q => by
  unfold indexD at h
  split at h
  · rename_i x c
    cases e : idxL c x with
    | none => rw [e] at h; cases h
    | some j =>
      rw [e] at h
      cases h
      obtain ⟨w, rfl, r3⟩ := reps1 r2
      unfold Rep at r1 r3
      subst r1 r3
      obtain ⟨h1, h2⟩ := idxL_spec c e
      have at_iff : ∀ i, StrLaws.At (mkS x) (mkS [c]) (mkS x).length i ↔ x[i]? = some c := fun i => by
        have := StrLaws.subAt_one (mkS x) c i
        rw [mkS_cps] at this
        exact this
      rcases StrLaws.occ_head (mkS x) (mkS [c]) 1 (Nat.le_refl 1) with ⟨_, hn⟩ | ⟨i, rest, ho, ha, hf⟩
      · exact absurd ((at_iff j).mpr h1) (hn j)
      · have ei : i = j := by
          have hi := (at_iff i).mp ha
          rcases Nat.lt_trichotomy i j with hlt | heq | hgt
          · exact absurd hi (h2 i hlt)
          · exact heq
          · exact absurd ((at_iff j).mpr h1) (hf j hgt)
        subst ei
        exact ⟨mkS x, mkS [c], i, rest, rfl, rfl, ho, q Hf _ H (Frame.refl sm) (by unfold Rep; rfl)⟩
  · cases h
end
end DL

set_option Elab.async false
set_option linter.all false
set_option maxRecDepth 100000
namespace DL
open PySem PySem.Spec PyProof.Rows L2
/-! ## texts, pairs that are walked -/
section
variable {J : Jx} {ρ : Env} {a b e : Expr} {es : List Expr} {pos p tpos : Pos}
theorem walks_str {T : Tab} {K : PySem.W.Frag} {Hf : Hp} {x : List Nat} {ds : List D} (hl : ds.length = x.length) (h : ∀ (i : Nat) (d : D), ds[i]? = some d → ∃ c : Nat, x[i]? = some c ∧ Rep T K Hf d (.str (mkS [c]))) : Walks T K (Its (mkS x)) Hf ds := fun i Hf1 H s1 s2 => by
  refine ⟨fun hi => ?_, fun d hd => ?_⟩
  · show (mkS x).length ≤ i
    rw [mkS_len, ← hl]; exact hi
  · obtain ⟨c, hc, rv⟩ := h i d hd
    have hc' : (mkS x).cps[i]? = some c := by
      show x.toArray[i]? = some c
      simpa using hc
    refine ⟨(Array.getElem?_eq_some_iff.mp hc').1, fun v H' y => ?_⟩
    obtain ⟨e, c', hc2, ev⟩ := y
    subst e
    rw [hc'] at hc2
    cases hc2
    rw [ev]
    exact ⟨Hf1, Frame.refl s2, rv.mono s1⟩
theorem pfi_str {tg : Expr} {h : H1} (pe : PF J ρ e h) : PFi J ρ tg e (hSL h) :=
  PI.to (pi_str pe) fun σ H Q ⟨Hf, k, r, h, P⟩ => ⟨Hf, _, r, h, {
    ok := fun d hd Hf1 v H1 f1 rv => by
      cases d with
      | str x =>
        unfold Rep at rv
        refine ⟨mkS x, rv, P.ok _ hd Hf1 _ H1 f1 (walks_str (by unfold chars; rw [List.length_map]) fun i d hd => ?_)⟩
        unfold chars at hd
        rw [List.getElem?_map] at hd
        cases q : x[i]? with
        | none => rw [q] at hd; cases hd
        | some c => rw [q] at hd; cases hd; exact ⟨c, rfl, by unfold Rep; rfl⟩
      | sg r =>
        unfold Rep at rv
        obtain ⟨x, e, pp⟩ := rv
        refine ⟨mkS x, e, P.ok _ hd Hf1 _ H1 f1 (walks_str (by unfold sgs; rw [List.length_map]; exact (Paired.length pp).symm) fun i d hd => ?_)⟩
        unfold sgs at hd
        rw [List.getElem?_map] at hd
        cases q : r[i]? with
        | none => rw [q] at hd; cases hd
        | some c =>
          rw [q] at hd
          cases hd
          obtain ⟨k, gk, ok⟩ := paired_get pp q
          exact ⟨k, gk, by unfold Rep; exact ⟨[k], rfl, .cons ok .nil⟩⟩
      | _ => cases hd
    ex := P.ex }⟩
theorem enumL_get : ∀ (xs : List D) (n i : Nat), (enumL n xs)[i]? = (xs[i]?).map fun x => .tup [.int ((n + i : Nat) : Int), x]
  | [], n, i => by simp [enumL]
  | x :: r, n, 0 => by simp [enumL]
  | x :: r, n, i + 1 => by
    show (enumL (n + 1) r)[i]? = _
    rw [enumL_get r (n + 1) i]
    show (r[i]?).map _ = (r[i]?).map _
    have : n + 1 + i = n + (i + 1) := by omega
    rw [this]
theorem enumL_len : ∀ (xs : List D) (n : Nat), (enumL n xs).length = xs.length
  | [], _ => rfl
  | _ :: r, n => by show (enumL (n + 1) r).length + 1 = r.length + 1; rw [enumL_len]
theorem walks_enum {T : Tab} {K : PySem.W.Frag} {a : Addr} {vs : List V} {Hf : Hp} {xs : List D} (h : SqL K Hf a vs) (r : Reps T K Hf xs vs) : Walks T K (Ite K a) Hf (enumL 0 xs) := fun i Hf1 H s1 s2 => by
  have h1 : SqL K Hf1 a vs := s1.seq h
  have h2 : SqL K H a vs := s2.seq h1
  have r1 := r.mono s1
  refine ⟨fun hi => ⟨vs, h2, by rw [enumL_len] at hi; rw [r.length]; exact hi⟩, fun x hx => ?_⟩
  rw [enumL_get] at hx
  cases q : xs[i]? with
  | none => rw [q] at hx; cases hx
  | some d =>
    rw [q] at hx
    cases hx
    obtain ⟨v, hv, rv⟩ := r1.getD q
    refine ⟨⟨vs, v, h2, hv⟩, fun v' H' y => ?_⟩
    obtain ⟨t, v2, rfl, hn, rfl, f⟩ := y
    have ev : v2 = v := Option.some.inj ((f vs h2).symm.trans hv)
    subst ev
    have nf : Frame ⟨Hf1, H⟩ (upd Hf1 t (.tup [.int (i : Nat), v2])) (upd H t (.tup [.int (i : Nat), v2])) := Frame.new1 s2 hn
    refine ⟨_, nf, ?_⟩
    unfold Rep
    refine ⟨t, _, rfl, .inl (.inl upd_same), ⟨_, _, rfl, ?_, _, _, rfl, rv.mono nf.rd, rfl⟩⟩
    unfold Rep
    rw [Nat.zero_add]
theorem pfi_enum {elts : List Expr} {kk : Nat} {h : HA} (hm : J.X.mg "enumerate" = none) (pa : PFA J ρ [e] h) (hg : Gl J.X "enumerate" := by rfl) (hs : starEach [e] J.X.env = [(false, eval e J.X.env)] := by rfl) :
    PFi J ρ (.Tuple elts kk tpos) (.Call (.Name "enumerate" p) [e] [] pos) (hA h fun ds => hO (enumD ds)) :=
  PI.to (pi_enum hg hm pa hs) fun σ H R ⟨Hf, k, r, h, P⟩ => ⟨Hf, _, r, h, {
    ok := fun ds hd Hf1 vs H1 f1 rv => by
      obtain ⟨z, e, hk⟩ := hO_some hd
      unfold enumD at e
      split at e
      · cases e
        obtain ⟨v, rfl, r1⟩ := reps1 rv
        unfold Rep at r1
        obtain ⟨p1, ws, rfl, e1, rr⟩ := r1
        exact ⟨p1, ws, rfl, SqL.of (f1.sub _ _ e1), P.ok _ hk Hf1 _ H1 f1 (walks_enum (SqL.of e1) rr)⟩
      · cases e
    ex := P.ex }⟩
end
/-! ## contexts -/
theorem JOk.blk {J : Jx} (jo : JOk J) {scope : Scope} {s : Shared} {H : Hp} {C : Addr} {cl : List (Str × Addr)} {fp : List Addr} : JOk (J.blk scope s H C cl fp) :=
  ⟨jo.calm, PassesOwn.never, fun u s' ⟨_, _, _, _, _, _, _, _, _, _, _, _, _, _, _, _, w⟩ => w.elim, jo.nd⟩
/-! ## own lists, other stores -/
section
variable {J : Jx} {S L : Type} {ρ : Env} {eS : S → Env} {eL : L → Env} {a b e : Expr} {rest : List Stmt} {pos pos' p : Pos}
/-- name = [..] of a comprehension on one line -/
theorem pb_setLc (i : Nat) {ρ' : D → Env} {y : Str} {py spos : Pos} {elt tg iter : Expr} {ifs : List Expr} {scope : Scope} {g : TG} {h : H1} {tt el : D → H1} {f : D → HS S L} (own : List (Str × Nat)) (jo : JOk J) (hi : PFi J ρ tg iter h) (ok : BlkOk J.X.N J.X.env.scope scope own)
    (hg : EvB J scope fun J' => PG J'.X tg g) (hel : Elts J scope (own.map (·.2)) (wipeE ρ (own.map (·.2))) g ifs elt tt el) (pr : ∀ d, PFb J (ρ' d) eS eL rest (f d)) (hρ : ∀ d, ρ' d = stE ρ i (.va d) := by intro _; rfl)
    (hy : J.X.N[i]? = some y := by rfl) (hyl : J.X.env.scope.names.lookup y = some .local := by rfl)
    (hsw : swapsWith (.ListComp elt [⟨tg, iter, ifs, 0⟩] scope pos) (some (.Name y py)) spos.line J.X.env = pure true := by exact sw_true rfl rfl rfl (by decide +kernel)) (hs : ∀ x, foldedSetIterable iter J.X.env x = pure x := by intro _; rfl) :
    PFb J ρ eS eL (.Assign [.Name y py] (.ListComp elt [⟨tg, iter, ifs, 0⟩] scope pos) spos :: rest) (sLet (hLc h tt el) f) :=
  PSs.to (pss_cons (ps_setLc (i := i) jo.calm jo.nd hy hyl hsw hi ok (fun s H C cl fp => hg s H C cl fp) ptsB peB hs) (pss_any pr))
    fun D σ H ⟨Hf, k, r, h, P⟩ => lc_read (Q := fun x H1 => gName i x σ H1 (tAny (fun a => tS J (ρ' a) eS eL (f a)) D)) hel ⟨Hf, _, r, h, {
      ok := fun d hd Hf' v H' f rv => ⟨d, Hf', k, by rw [hρ]; exact (SR.fx r f).set rv, hd, P.mono f.rd⟩
      ex := fun c hc Hf' H' f => P.ex c hc Hf' σ H' f.rd (r.fr.trans f) }⟩
/-- a, b = e1, e2 -/
theorem pb_par (i j : Nat) {ρ' : D → D → Env} {x y : Str} {px py pt : Pos} {kt k2 : Nat} {pt2 : Pos} {h1 h2 : H1} {f : D → D → HS S L} (jo : JOk J) (p1 : PF J ρ a h1) (p2 : PF J ρ b h2) (pr : ∀ d d', PFb J (ρ' d d') eS eL rest (f d d'))
    (hρ : ∀ d d', ρ' d d' = stE (stE ρ i (.va d)) j (.va d') := by intro _ _; rfl) (hi : J.X.N[i]? = some x := by rfl) (hj : J.X.N[j]? = some y := by rfl) (hij : i ≠ j := by decide)
    (hx : J.X.env.scope.names.lookup x = some .local := by rfl) (hy : J.X.env.scope.names.lookup y = some .local := by rfl)
    (hs1 : starEach [a, b] J.X.env = (false, eval a J.X.env) :: starEach [b] J.X.env := by rfl) (hs2 : starEach [b] J.X.env = (false, eval b J.X.env) :: starEach [] J.X.env := by rfl)
    (hw : swappedStores [.Tuple [.Name x px, .Name y py] kt pt] (.Tuple [a, b] k2 pt2) J.X.env = pure (some [x, y]) := by rfl)
    (hs : swapsWithSole [.Tuple [.Name x px, .Name y py] kt pt] (.Tuple [a, b] k2 pt2) pos.line J.X.env = pure false := by rfl) :
    PFb J ρ eS eL (.Assign [.Tuple [.Name x px, .Name y py] kt pt] (.Tuple [a, b] k2 pt2) pos :: rest) (sLet h1 fun d => sLet h2 fun d' => f d d') :=
  PSs.to (pss_cons (ps_par jo.calm jo.nd hi hj hij hx hy (pa_cons p1 (pa_cons p2 pa_nil hs2) hs1) hw hs) (pss_any (t := fun dd : D × D => tS J (ρ' dd.1 dd.2) eS eL (f dd.1 dd.2)) fun dd => pr dd.1 dd.2)) fun D σ H ⟨Hf, k, r, h, P⟩ => ⟨Hf, _, r, h, {
    ok := fun d hd Hf1 v H1 f1 rv => ⟨Hf1, _, SR.fx r f1, hd, {
      ok := fun d' hd' Hf2 w H2 f2 rw' => ⟨v, w, rfl, (d, d'), Hf2, k, by rw [hρ]; exact ((SR.fx (SR.fx r f1) f2).set (rv.mono f2.rd)).set rw', hd', P.mono (f1.rd.trans f2.rd)⟩
      ex := fun c hc Hf' H' f => P.ex c hc Hf' σ H' (f1.rd.trans f.rd) ((r.fr.trans f1).trans f) }⟩
    ex := fun c hc Hf' H' f => P.ex c hc Hf' σ H' f.rd (r.fr.trans f) }⟩
/-- a, b = e, a pair -/
theorem pb_unp {g : TG} {tg : Expr} {h : H1} {f : D → HS S L} (jo : JOk J) (pa : PF J ρ e h) (pg : PG J.X tg g) (pr : ∀ d k, f d k = true → ∃ ρ' h', Asg J g ρ d ρ' ∧ h' k = true ∧ PFb J ρ' eS eL rest h')
    (hs : swapsWithSole [tg] e pos.line J.X.env = pure false := by rfl) (hw : swappedStores [tg] e J.X.env = pure none := by rfl) (h1 : (assignEach [tg] J.X.env).map (·.2) = [assign tg J.X.env] := by rfl) :
    PFb J ρ eS eL (.Assign [tg] e pos :: rest) (sLet h f) := by
  have pb : PSs J.X rest (fun D σ H => ∃ (ρ' : Env) (h' : HS S L), PFb J ρ' eS eL rest h' ∧ tS J ρ' eS eL h' D σ H) := ⟨fun pn s σ H D I ⟨ρ', h', q, t⟩ => q.run pn s σ H D I t⟩
  exact PSs.to (pss_cons (ps_asg pa pg hs hw h1) pb) fun D σ H ⟨Hf, k, r, h, P⟩ => ⟨Hf, _, r, h, {
    ok := fun d hd Hf1 v H1 f1 rv => by
      obtain ⟨ρ', h', as, hk, q⟩ := pr d k hd
      exact as Hf1 σ H1 v _ (SR.fx r f1) rv fun σ2 r2 => ⟨ρ', h', q, Hf1, k, r2, hk, P.mono f1.rd⟩
    ex := fun c hc Hf' H' f => P.ex c hc Hf' σ H' f.rd (r.fr.trans f) }⟩
theorem unp2 {i j : Nat} {ρ' : D → D → Env} {f : D → D → HS S L} (h : ∀ x y, PFb J (ρ' x y) eS eL rest (f x y)) (hρ : ∀ x y, ρ' x y = stE (stE ρ i (.va x)) j (.va y) := by intro _ _; rfl) :
    ∀ d k, (su2 d f) k = true → ∃ ρ' h', Asg J (gTup J.X.K 2 (gCons (gName i) (gCons (gName j) gNil))) ρ d ρ' ∧ h' k = true ∧ PFb J ρ' eS eL rest h' := fun d k hk => by
  unfold su2 at hk
  split at hk
  · rename_i x y
    exact ⟨_, _, asg_tup (asgl_cons asg_name (asgl_cons asg_name asgl_nil)) rfl, hk, by rw [← hρ]; exact h x y⟩
  · cases hk
theorem unp3 {i j l : Nat} {ρ' : D → D → D → Env} {f : D → D → D → HS S L} (h : ∀ x y z, PFb J (ρ' x y z) eS eL rest (f x y z)) (hρ : ∀ x y z, ρ' x y z = stE (stE (stE ρ i (.va x)) j (.va y)) l (.va z) := by intro _ _ _; rfl) :
    ∀ d k, (su3 d f) k = true → ∃ ρ' h', Asg J (gTup J.X.K 3 (gCons (gName i) (gCons (gName j) (gCons (gName l) gNil)))) ρ d ρ' ∧ h' k = true ∧ PFb J ρ' eS eL rest h' := fun d k hk => by
  unfold su3 at hk
  split at hk
  · rename_i x y z
    exact ⟨_, _, asg_tup (asgl_cons asg_name (asgl_cons asg_name (asgl_cons asg_name asgl_nil))) rfl, hk, by rw [← hρ]; exact h x y z⟩
  · cases hk
/-! ### raise -/
structure ClsAt (K : PySem.W.Frag) (mg : Str → Option Value) (T : Tab) (x : Str) (c : Nat) : Prop where
  gC : mg x = some (.ref (T.cls c))
  ex : PySem.W.excIn K (T.cls c) [.type "ValueError", .type "Exception", .type "BaseException", .type "object"] "ValueError.__new__" = true
  kC : PySem.W.keepIn K (.ref (T.cls c)) = true
  sb : PySem.W.subIn K (.ref (T.cls c)) (.type "BaseException") = some true
  ty : PySem.W.typeIn K (.ref (T.cls c)) = some (.type "type")
theorem pb_raise {x m : Str} {c j : Nat} {p2 p3 : Pos} (jo : JOk J) (C : ClsAt J.X.K J.X.mg J.T x c) (hg : Gl J.X x := by rfl) (hdb : (x == ("__debug__" : Str)) = false := by decide) :
    PFb J ρ eS eL (.Raise (some (.Call (.Name x p) [.Constant (.str m) j p2] [] p3)) none pos :: rest) (sRaise c) :=
  PSs.to (pss_cons (ps_raise jo.calm jo.tk (pmk_own PySem.F.excBase_ValueError C.ex C.gC C.kC (raises_own C.sb C.ty) hg hdb)) pss_never) fun D σ H ⟨Hf, k, r, h, P⟩ => P.ex c h Hf σ H (Same.refl _) r.fr
end
/-! ## defs -/
/-- a def of the top -/
def TFn (K : PySem.W.Frag) (mg : Str → Option Value) (x : Str) (st : Stmt) (ps : List Str) : Prop := ∃ f fd, Fun K x x st f fd ∧ mg x = some (.ref f) ∧ Binds K fd ps []
/-- a def that keeps its promise -/
def Gf (P : Program) (w : World) (K : PySem.W.Frag) (mg : Str → Option Value) (base : Heap) (T : Tab) (x : Str) (n kk : Nat) (g : Fn) : Prop :=
  ∃ f fd ps, FnOk P w K mg base (CX P w) kk f fd ps (spC T K n g) ∧ mg x = some (.ref f) ∧ PySem.W.keepIn K (.ref f) = true ∧ Binds K fd ps []
section
variable {P : Program} {w : World} {K : PySem.W.Frag} {mg : Str → Option Value} {base : Heap} {T : Tab}
theorem Gf.at {x : Str} {n kk k : Nat} {g : Fn} {A : Around} (G : Gf P w K mg base T x n kk g) (hr : Room k A) (h : kk ≤ k := by decide) : DefAt P w K mg base A T x n g := by
  obtain ⟨f, fd, ps, F, a, b, c⟩ := G
  exact ⟨kk, f, fd, ps, F, hr.mono h, a, b, c⟩
/-- a stronger promise: a better meaning -/
theorem Gf.imp {x : Str} {n kk : Nat} {g g' : Fn} (G : Gf P w K mg base T x n kk g) (h : ∀ ds k, g' ds k = true → ∃ k', g ds k' = true ∧ ∀ r, k' r = true → k r = true) : Gf P w K mg base T x n kk g' := by
  obtain ⟨f, fd, ps, F, a, b, c⟩ := G
  refine ⟨f, fd, ps, F.imp fun vs H Q E ⟨hl, Hf, ds, k, s, r, hg, ho, he⟩ => ?_, a, b, c⟩
  obtain ⟨k', hk, hi⟩ := h ds k hg
  exact ⟨hl, Hf, ds, k', s, r, hk, fun d hd => ho d (hi _ hd), fun c hc => he c (hi _ hc)⟩
/-- the context of a def's body -/
abbrev jfn (P : Program) (w : World) (K : PySem.W.Frag) (mg : Str → Option Value) (base : Heap) (T : Tab) (N : List Str) (qual : Str) (sc : Scope) (f : Addr) (cdv : Value) (A : Around) (outer : List PySem.Env) (s : Shared) (H : Hp) (E : XK) (Hf : Hp) : Jx :=
  ⟨cxOf (CX P w) P w K mg base N qual sc f cdv A outer s H E, T, ⟨Hf, H⟩, fun cls d _ H' => E cls d H'⟩
end
end DL

set_option Elab.async false
set_option linter.all false
set_option maxRecDepth 100000
namespace DL
open PySem PySem.Spec PyProof.Rows L2
section
variable {P : Program} {w : World} {K : PySem.W.Frag} {mg : Str → Option Value} {base : Heap} {T : Tab}
theorem jok_fn {N ps : List Str} {x : Str} {sc : Scope} {f : Addr} {cdv : Value} {A : Around} {outer : List PySem.Env} {s : Shared} {H : Hp} {E : XK} {Hf : Hp} (S : FnScope N ps sc) : JOk (jfn P w K mg base T N x sc f cdv A outer s H E Hf) :=
  ⟨rfl, passes_of rfl, takes_of rfl rfl rfl rfl, S.nd⟩
theorem at_start {N : List Str} {vs : List V} (i : Nat) : at' (L2.start N vs) i = vs[i]? := by
  unfold at' L2.start
  by_cases h : i < vs.length
  · rw [List.getElem?_append_left (by simpa using h), List.getElem?_map, List.getElem?_eq_getElem h]
    rfl
  · rw [List.getElem?_append_right (by simpa using h), List.getElem?_eq_none (l := vs) (by omega)]
    by_cases h2 : i - (vs.map some).length < N.length - vs.length
    · rw [List.getElem?_replicate_of_lt h2]; rfl
    · rw [List.getElem?_eq_none (by simpa using h2)]; rfl
theorem lk_map : ∀ (ds : List D) (m i : Nat), lk (ds.map Sl.va ++ List.replicate m Sl.un) i = match ds[i]? with | some d => .va d | none => .un
  | [], 0, i => by simp [lk]
  | [], m + 1, 0 => by simp [lk, List.replicate]
  | [], m + 1, i + 1 => by
    have := lk_map [] m i
    simpa [lk, List.replicate] using this
  | d :: ds, m, 0 => by simp [lk]
  | d :: ds, m, i + 1 => by
    have := lk_map ds m i
    simpa [lk] using this
theorem gf_ok {x : Str} {st : Stmt} {ps N : List Str} {k n : Nat} {g : Fn} {f : Addr} {fd : FuncData} (F : Fun K x x st f fd) (S : FnScope N ps (defScope st)) (hn : ps.length = n) (hN : n ≤ N.length)
    (body : ∀ (cdv : Value) (A : Around) (outer : List PySem.Env) (s : Shared) (H : Hp) (E : XK) (Hf : Hp), Room k (A.deeper (envOfC x (defScope st) s.heap.objs.size f cdv)) → ∀ ds : List D, ds.length = n → ∀ k', g ds k' = true →
      ∃ h : HS Unit Unit, fEnd h k' = true ∧ PFb (jfn P w K mg base T N x (defScope st) f cdv A outer s H E Hf) (ds.map .va ++ List.replicate (N.length - n) .un) (eU N.length) (eU N.length) (defBody st) h) : FnOk P w K mg base (CX P w) (k + 1) f fd ps (spC T K n g) := by
  refine F.okX S (fun vs H Q E ⟨h, _⟩ => h.trans hn.symm) (fun cdv A outer s H vs Q E hr ⟨hl, Hf, ds, k', sm, rr, hg, ho, he⟩ => ?_)
  have hdl : ds.length = n := rr.length.symm.trans hl
  obtain ⟨h, hk, pb⟩ := body cdv A outer s H E Hf hr ds hdl k' hg
  refine ⟨_, pb, Hf, _, ⟨Frame.refl sm, ?_, fun i => ?_, fun i j es fs p hij hi hj => ?_⟩, hk, ?_⟩
  · rw [List.length_append, List.length_map, List.length_replicate]
    show _ = (L2.start N vs).length
    unfold L2.start
    rw [List.length_append, List.length_map, List.length_replicate, hdl, hl]
  · rw [lk_map, at_start]
    cases q : ds[i]? with
    | none => exact True.intro
    | some d =>
      obtain ⟨v, e, r⟩ := rr.getD q
      exact ⟨v, e, r⟩
  · rw [lk_map] at hi
    cases q : ds[i]? with
    | none => rw [q] at hi; cases hi
    | some d => rw [q] at hi; cases hi
  · exact {
      nx := fun s hs Hf' σ' H' s1 r1 => ho _ hs Hf' .non H' r1.fr (by unfold Rep; rfl)
      bk := fun s hs => by cases hs
      ct := fun s hs => by cases hs
      rt := fun d hd Hf' v H' s1 f1 rv => ho _ hd Hf' v H' f1 rv
      ex := fun c hc Hf' σ' H' s1 f1 => he c hc Hf' H' f1 }
theorem gf_of {x : Str} {st : Stmt} {ps N : List Str} {k n : Nat} {g : Fn} (t : TFn K mg x st ps) (S : FnScope N ps (defScope st)) (hn : ps.length = n) (hN : n ≤ N.length)
    (body : ∀ (f : Addr) (cdv : Value) (A : Around) (outer : List PySem.Env) (s : Shared) (H : Hp) (E : XK) (Hf : Hp), Room k (A.deeper (envOfC x (defScope st) s.heap.objs.size f cdv)) → ∀ ds : List D, ds.length = n → ∀ k', g ds k' = true →
      ∃ h : HS Unit Unit, fEnd h k' = true ∧ PFb (jfn P w K mg base T N x (defScope st) f cdv A outer s H E Hf) (ds.map .va ++ List.replicate (N.length - n) .un) (eU N.length) (eU N.length) (defBody st) h) : Gf P w K mg base T x n (k + 1) g := by
  obtain ⟨f, fd, F, hm, hb⟩ := t
  exact ⟨f, fd, ps, gf_ok F S hn hN fun cdv A outer s H E Hf => body f cdv A outer s H E Hf, hm, F.kp, hb⟩
section
variable {x : Str} {st : Stmt} {ps N : List Str} {k : Nat}
theorem gf1 {h : D → HS Unit Unit} {ρ : D → Env} (t : TFn K mg x st ps) (S : FnScope N ps (defScope st))
    (body : ∀ (f : Addr) (cdv : Value) (A : Around) (outer : List PySem.Env) (s : Shared) (H : Hp) (E : XK) (Hf : Hp), JOk (jfn P w K mg base T N x (defScope st) f cdv A outer s H E Hf) → Room k (jfn P w K mg base T N x (defScope st) f cdv A outer s H E Hf).X.A → ∀ a : D,
      PFb (jfn P w K mg base T N x (defScope st) f cdv A outer s H E Hf) (ρ a) (eU N.length) (eU N.length) (defBody st) (h a)) (hρ : ∀ a, ρ a = [Sl.va a] ++ List.replicate (N.length - 1) .un := by intro _; rfl) (hn : ps.length = 1 := by rfl) (hN : 1 ≤ N.length := by decide) : Gf P w K mg base T x 1 (k + 1) (mkFn1 h) :=
  gf_of t S hn hN fun f cdv A outer s H E Hf hr ds hd k' hk => by
    match ds, hd, hk with
    | [a], _, hk => exact ⟨h a, hk, by have := body f cdv A outer s H E Hf (jok_fn S) hr a; rw [hρ] at this; exact this⟩
theorem gfL {h : D → HS Unit Unit} {ρ : D → Env} {f : Addr} {fd : FuncData} (F : Fun K x x st f fd) (S : FnScope N ps (defScope st))
    (body : ∀ (cdv : Value) (A : Around) (outer : List PySem.Env) (s : Shared) (H : Hp) (E : XK) (Hf : Hp), JOk (jfn P w K mg base T N x (defScope st) f cdv A outer s H E Hf) → Room k (jfn P w K mg base T N x (defScope st) f cdv A outer s H E Hf).X.A → ∀ a : D,
      PFb (jfn P w K mg base T N x (defScope st) f cdv A outer s H E Hf) (ρ a) (eU N.length) (eU N.length) (defBody st) (h a)) (hρ : ∀ a, ρ a = [Sl.va a] ++ List.replicate (N.length - 1) .un := by intro _; rfl) (hn : ps.length = 1 := by rfl) (hN : 1 ≤ N.length := by decide) : FnOk P w K mg base (CX P w) (k + 1) f fd ps (spC T K 1 (mkFn1 h)) :=
  gf_ok F S hn hN fun cdv A outer s H E Hf hr ds hd k' hk => by
    match ds, hd, hk with
    | [a], _, hk => exact ⟨h a, hk, by have := body cdv A outer s H E Hf (jok_fn S) hr a; rw [hρ] at this; exact this⟩
theorem gf2 {h : D → D → HS Unit Unit} {ρ : D → D → Env} (t : TFn K mg x st ps) (S : FnScope N ps (defScope st))
    (body : ∀ (f : Addr) (cdv : Value) (A : Around) (outer : List PySem.Env) (s : Shared) (H : Hp) (E : XK) (Hf : Hp), JOk (jfn P w K mg base T N x (defScope st) f cdv A outer s H E Hf) → Room k (jfn P w K mg base T N x (defScope st) f cdv A outer s H E Hf).X.A → ∀ a b : D,
      PFb (jfn P w K mg base T N x (defScope st) f cdv A outer s H E Hf) (ρ a b) (eU N.length) (eU N.length) (defBody st) (h a b)) (hρ : ∀ a b, ρ a b = [Sl.va a, Sl.va b] ++ List.replicate (N.length - 2) .un := by intro _ _; rfl) (hn : ps.length = 2 := by rfl) (hN : 2 ≤ N.length := by decide) : Gf P w K mg base T x 2 (k + 1) (mkFn2 h) :=
  gf_of t S hn hN fun f cdv A outer s H E Hf hr ds hd k' hk => by
    match ds, hd, hk with
    | [a, b], _, hk => exact ⟨h a b, hk, by have := body f cdv A outer s H E Hf (jok_fn S) hr a b; rw [hρ] at this; exact this⟩
theorem gf3 {h : D → D → D → HS Unit Unit} {ρ : D → D → D → Env} (t : TFn K mg x st ps) (S : FnScope N ps (defScope st))
    (body : ∀ (f : Addr) (cdv : Value) (A : Around) (outer : List PySem.Env) (s : Shared) (H : Hp) (E : XK) (Hf : Hp), JOk (jfn P w K mg base T N x (defScope st) f cdv A outer s H E Hf) → Room k (jfn P w K mg base T N x (defScope st) f cdv A outer s H E Hf).X.A → ∀ a b c : D,
      PFb (jfn P w K mg base T N x (defScope st) f cdv A outer s H E Hf) (ρ a b c) (eU N.length) (eU N.length) (defBody st) (h a b c)) (hρ : ∀ a b c, ρ a b c = [Sl.va a, Sl.va b, Sl.va c] ++ List.replicate (N.length - 3) .un := by intro _ _ _; rfl) (hn : ps.length = 3 := by rfl) (hN : 3 ≤ N.length := by decide) : Gf P w K mg base T x 3 (k + 1) (mkFn3 h) :=
  gf_of t S hn hN fun f cdv A outer s H E Hf hr ds hd k' hk => by
    match ds, hd, hk with
    | [a, b, c], _, hk => exact ⟨h a b c, hk, by have := body f cdv A outer s H E Hf (jok_fn S) hr a b c; rw [hρ] at this; exact this⟩
theorem gf4 {h : D → D → D → D → HS Unit Unit} {ρ : D → D → D → D → Env} (t : TFn K mg x st ps) (S : FnScope N ps (defScope st))
    (body : ∀ (f : Addr) (cdv : Value) (A : Around) (outer : List PySem.Env) (s : Shared) (H : Hp) (E : XK) (Hf : Hp), JOk (jfn P w K mg base T N x (defScope st) f cdv A outer s H E Hf) → Room k (jfn P w K mg base T N x (defScope st) f cdv A outer s H E Hf).X.A → ∀ a b c d : D,
      PFb (jfn P w K mg base T N x (defScope st) f cdv A outer s H E Hf) (ρ a b c d) (eU N.length) (eU N.length) (defBody st) (h a b c d)) (hρ : ∀ a b c d, ρ a b c d = [Sl.va a, Sl.va b, Sl.va c, Sl.va d] ++ List.replicate (N.length - 4) .un := by intro _ _ _ _; rfl) (hn : ps.length = 4 := by rfl) (hN : 4 ≤ N.length := by decide) : Gf P w K mg base T x 4 (k + 1) (mkFn4 h) :=
  gf_of t S hn hN fun f cdv A outer s H E Hf hr ds hd k' hk => by
    match ds, hd, hk with
    | [a, b, c, d], _, hk => exact ⟨h a b c d, hk, by have := body f cdv A outer s H E Hf (jok_fn S) hr a b c d; rw [hρ] at this; exact this⟩
theorem gf0 {h : HS Unit Unit} {ρ : Env} (t : TFn K mg x st ps) (S : FnScope N ps (defScope st))
    (body : ∀ (f : Addr) (cdv : Value) (A : Around) (outer : List PySem.Env) (s : Shared) (H : Hp) (E : XK) (Hf : Hp), JOk (jfn P w K mg base T N x (defScope st) f cdv A outer s H E Hf) → Room k (jfn P w K mg base T N x (defScope st) f cdv A outer s H E Hf).X.A →
      PFb (jfn P w K mg base T N x (defScope st) f cdv A outer s H E Hf) ρ (eU N.length) (eU N.length) (defBody st) h) (hρ : ρ = List.replicate (N.length - 0) .un := by rfl) (hn : ps.length = 0 := by rfl) : Gf P w K mg base T x 0 (k + 1) (mkFn0 h) :=
  gf_of t S hn (Nat.zero_le _) fun f cdv A outer s H E Hf hr ds hd k' hk => by
    match ds, hd, hk with
    | [], _, hk => exact ⟨h, hk, by have := body f cdv A outer s H E Hf (jok_fn S) hr; rw [hρ] at this; exact this⟩
end
end
/-! ## a module's dict with texts as keys -/
def KdAt (K : PySem.W.Frag) (w : World) (mg : Str → Option Value) (T : Tab) (x : Str) (tab : List (Nat × D)) : Prop := ∃ p, mg x = some (.ref p) ∧ ∀ c d, (c, d) ∈ tab → ∃ v, KDct K w p (mkS [c]) v ∧ ∀ H, Rep T K H d v
theorem kget_mem {c : Nat} {d : D} : ∀ {tab : List (Nat × D)}, kget c tab = some d → (c, d) ∈ tab
  | [], h => by cases h
  | (k, d') :: r, h => by
    unfold kget at h
    split at h
    · rename_i e
      cases h
      rw [Nat.eq_of_beq_eq_true e]
      exact List.mem_cons_self
    · exact List.mem_cons_of_mem _ (kget_mem h)
section
variable {J : Jx} {ρ : Env} {i : Expr} {pos p : Pos}
theorem kdD_ok {tab : List (Nat × D)} {k z : D} {v : V} {Hf : Hp} (h : kdD tab k = some z) (r : Rep J.T J.X.K Hf k v) : ∃ c, v = .str (mkS [c]) ∧ (c, z) ∈ tab := by
  unfold kdD at h
  split at h
  · rename_i c
    unfold Rep at r
    exact ⟨c, r, kget_mem h⟩
  · obtain ⟨c, rfl, ok⟩ := sg1 r
    refine ⟨c, rfl, ?_⟩
    split at h
    · rcases ok with ⟨rfl, e⟩ | ⟨rfl, e⟩ | ⟨rfl, e⟩ | ⟨rfl, e⟩ <;> first | (cases e; done) | exact kget_mem h
    · rcases ok with ⟨rfl, e⟩ | ⟨rfl, e⟩ | ⟨rfl, e⟩ | ⟨rfl, e⟩ <;> first | (cases e; done) | exact kget_mem h
    · split at h
      · rename_i a b e1 e2
        split at h
        · rename_i e
          cases h
          subst e
          rcases ok with ⟨rfl, e⟩ | ⟨rfl, e⟩ | ⟨rfl, e⟩ | ⟨rfl, e⟩ <;> first | (cases e; done) | exact kget_mem e1 | exact kget_mem e2
        · cases h
      · cases h
    · cases h
  · cases h
theorem pf_kd {x : Str} {tab : List (Nat × D)} {h : H1} (kd : KdAt J.X.K J.X.w J.X.mg J.T x tab) (pi : PF J ρ i h) (hs : PlainIx i := by exact fun _ _ => rfl) (hg : Gl J.X x := by rfl) (hd : (x == ("__debug__" : Str)) = false := by decide) :
    PF J ρ (.Subscript (.Name x p) i pos) (hB h fun y => hO (kdD tab y)) := by
  obtain ⟨a, hm, ht⟩ := kd
  refine PE.to (pe_ix ix_kdict (pe_glob (v := .ref a) hg hm rfl hd) pi hs) fun σ H Q ⟨Hf, k, r, h, P⟩ => ⟨Hf, _, r, h, {
    ok := fun d hd Hf1 v H1 f1 rv => by
      obtain ⟨z, e, hk⟩ := hO_some hd
      obtain ⟨c, rfl, hm⟩ := kdD_ok e rv
      obtain ⟨v', kd, rz⟩ := ht c z hm
      exact ⟨a, mkS [c], v', rfl, rfl, kd, P.ok z hk Hf1 v' H1 f1 (rz Hf1)⟩
    ex := P.ex }⟩
end
end DL

set_option Elab.async false
set_option linter.all false
set_option maxRecDepth 100000
namespace DL
open PySem PySem.Spec PyProof.Rows L2
section
variable {J : Jx} {ρ : Env} {a b c : Expr} {pos : Pos} {ha hb hc : H1}
/-! ### a < b < c -/
theorem chain_post {r r' : R2} {F F' : D → D → Option D} (hs : SndO J r F) (hs' : SndO J r' F') {σ : L2.St} {H : Hp} {Q : VK} (t : tE J ρ (hCh F F' ha hb hc) σ H Q) : tChain r r' (tE J ρ ha) (tE J ρ hb) (tE J ρ hc) σ H Q := by
  obtain ⟨Hf, k, r0, h, P⟩ := t
  refine ⟨Hf, _, r0, h, ⟨fun x hx Hf1 v H1 f1 rv => ⟨Hf1, _, SR.fx r0 f1, hx, ⟨fun y hy Hf2 u H2 f2 ru => ?_, fun c hc Hf2 H2 f2 => P.ex c hc Hf2 H2 (f1.trans f2)⟩⟩, P.ex⟩⟩
  dsimp only at hy
  revert hy
  generalize hz : F x y = o
  intro hy
  cases o with
  | none => cases hy
  | some z0 =>
    cases z0 with
    | bl z1 =>
      refine hs x y _ v u Hf2 H2 _ hz f2.sub (rv.mono f2.rd) ru fun Hf3 w H3 f3 rw' => ?_
      unfold Rep at rw'
      refine ⟨z1, rw', ?_⟩
      cases z1 with
      | true =>
        refine iteT ⟨Hf3, _, SR.fx (SR.fx (SR.fx r0 f1) f2) f3, hy, ⟨fun z hz2 Hf4 t H4 f4 rt => ?_, fun c hc Hf4 H4 f4 => P.ex c hc Hf4 H4 (((f1.trans f2).trans f3).trans f4)⟩⟩
        obtain ⟨q, e, hk⟩ := hO_some hz2
        exact hs' y z q u t Hf4 H4 Q e f4.sub ((ru.mono f3.rd).mono f4.rd) rt fun Hf5 w H5 f5 rw' => P.ok q hk Hf5 w H5 ((((f1.trans f2).trans f3).trans f4).trans f5) rw'
      | false => exact iteF (P.ok _ hy Hf3 _ H3 ((f1.trans f2).trans f3) (by unfold Rep; rfl))
    | _ => cases hy
theorem pf_chain {op op' : CmpOp} {r r' : R2} {F F' : D → D → Option D} (ho : OpR J.X (compareOp op) r) (hs : SndO J r F) (ho' : OpR J.X (compareOp op') r') (hs' : SndO J r' F') (pa : PF J ρ a ha) (pb : PF J ρ b hb) (pc : PF J ρ c hc)
    (hm : lastMarks [op, op'] [b, c] = false := by with_unfolding_all rfl) : PF J ρ (.Compare a [op, op'] [b, c] pos) (hCh F F' ha hb hc) :=
  PE.to (pe_chain ho ho' pa pb pc hm) fun _ _ _ t => chain_post hs hs' t
theorem ptf_chain {op op' : CmpOp} {r r' : R2} {F F' : D → D → Option D} (ho : OpR J.X (compareOp op) r) (hs : SndO J r F) (ho' : OpR J.X (compareOp op') r') (hs' : SndO J r' F') (pa : PF J ρ a ha) (pb : PF J ρ b hb) (pc : PF J ρ c hc)
    (hm : lastMarks [op, op'] [b, c] = false := by with_unfolding_all rfl) : PFt J ρ (.Compare a [op, op'] [b, c] pos) (hCh F F' ha hb hc) :=
  pt_of (pt_chain ho ho' pa pb pc hm) (fun _ _ _ h => h) fun _ _ _ t => chain_post hs hs' t
theorem snd_mul : SndO J (rI CMul fun i j => .int (i * j)) mulX := fun x y z v u Hf H Q h sm r1 r2 q => by
  unfold mulX at h
  split at h
  · split at h
    · cases h
      unfold Rep at r1 r2
      exact ⟨_, _, r1, r2, .inl (by omega), q Hf _ H (Frame.refl sm) (by unfold Rep; rfl)⟩
    · cases h
  · rename_i a
    split at h
    · cases h
      unfold Rep at r1 r2
      obtain ⟨n, rfl⟩ := r2
      have e : a * (n : Int) = ((a.toNat * n : Nat) : Int) := by rw [Int.natCast_mul, Int.toNat_of_nonneg (by omega)]
      exact ⟨_, _, r1, rfl, .inl (by omega), q Hf _ H (Frame.refl sm) (by unfold Rep; exact ⟨a.toNat * n, congrArg V.int e⟩)⟩
    · cases h
  · cases h
end
end DL

set_option Elab.async false
set_option linter.all false
set_option maxRecDepth 100000
namespace DL
open PySem PySem.Spec PyProof.Rows L2
/-! ## the draws of a law -/
theorem dp_ints {K : PySem.W.Frag} {H : Hp} : ∀ ns : List Int, DpAll K H (ns.map V.int) (ns.map PyData.int)
  | [] => .nil
  | n :: r => .cons (.int n) (dp_ints r)
theorem shaped_ints (ns : List Int) : SeqAt.shaped (PyData.list (ns.map PyData.int)) = true := by
  have h : ∀ ns : List Int, PyData.canLayAll0 (ns.map PyData.int) = true ∧ PyData.depthAll (ns.map PyData.int) = 0 := fun ns => by
    induction ns with
    | nil => exact ⟨rfl, rfl⟩
    | cons n r ih =>
      simp only [List.map_cons, PyData.canLayAll0, PyData.depthAll, PyData.canLay0, PyData.depth]
      rw [ih.1, ih.2]
      exact ⟨rfl, rfl⟩
  obtain ⟨a, b⟩ := h ns
  have c1 : (PyData.list (ns.map PyData.int)).canLay0 = true := by
    simp only [PyData.canLay0]
    exact a
  have c2 : (PyData.list (ns.map PyData.int)).depth ≤ 64 := by
    simp only [PyData.depth]
    omega
  unfold SeqAt.shaped
  rw [c1, decide_eq_true c2]
  rfl
/-- a number below m, whatever the script -/
def spDraw (K : PySem.W.Frag) : Sp := fun vs H Q _ => ∃ (a : Addr) (ns : List Int) (k m : Int), vs = [.ref a, .int k, .int m] ∧ SqL K H a (ns.map V.int) ∧ ns.length ≤ 63 ∧ 0 ≤ k ∧ 0 < m ∧ m ≤ 1000 ∧
  ∀ H' j, Same H H' → 0 ≤ j → j < m → Q (.int j) H'
theorem allBelow_ok {f : Nat → Bool} : ∀ {n : Nat}, allBelow n f = true → ∀ j, j < n → f j = true
  | 0, _, j, h => absurd h (Nat.not_lt_zero j)
  | n + 1, h, j, hj => by
    unfold allBelow at h
    rw [Bool.and_eq_true] at h
    by_cases e : j = n
    · subst e; exact h.1
    · exact allBelow_ok h.2 j (by omega)
section
variable {P : Program} {w : World} {K : PySem.W.Frag} {mg : Str → Option Value} {base : Heap} {T : Tab}
/-- what is new of H' over H, made readable -/
theorem frame_of {Hf H H' : Hp} (sm : Same Hf H) (s : Same H H') : Frame ⟨Hf, H⟩ Hf H' := ⟨Same.refl _, s, sm.trans s, fun _ _ _ h => h⟩
theorem nat_rep {d : D} {v : V} {H : Hp} (h : natD d = true) (r : Rep T K H d v) : ∃ k : Int, v = .int k ∧ 0 ≤ k := by
  unfold natD at h
  split at h
  · unfold Rep at r
    obtain ⟨n, e⟩ := r
    exact ⟨n, e, by omega⟩
  · unfold Rep at r
    exact ⟨_, r, of_decide_eq_true h⟩
  · cases h
theorem gf_draw {x : Str} {st : Stmt} {ps : List Str} {kk : Nat} (t : TFn K mg x st ps) (F : ∀ {f : Addr} {fd : FuncData}, Fun K x x st f fd → FnOk P w K mg base (L2.CX P w) kk f fd ps (spDraw K)) : Gf P w K mg base T x 3 kk c_draw := by
  obtain ⟨f, fd, Fu, hm, hb⟩ := t
  refine ⟨f, fd, ps, (F Fu).imp fun vs H Q E ⟨hl, Hf, ds, k, sm, rr, hg, ho, he⟩ => ?_, hm, Fu.kp, hb⟩
  unfold c_draw at hg
  split at hg
  · rename_i d m
    rw [Bool.and_eq_true, Bool.and_eq_true] at hg
    obtain ⟨v1, r1, e1, a1, q1⟩ := rr
    obtain ⟨v2, v3, e2, a2, a3⟩ := reps2 q1
    unfold Rep at a1 a3
    obtain ⟨a, ns, e3, hS, hlen, _⟩ := a1
    obtain ⟨n, e4, h0⟩ := nat_rep hg.1.1 a2
    have hmm := of_decide_eq_true hg.1.2
    refine ⟨a, ns, n, m, by rw [e1, e2, e3, e4, a3], sm.seq hS, hlen, h0, hmm.1, hmm.2, fun H' j s j0 j1 => ?_⟩
    have hj := allBelow_ok hg.2 j.toNat (by omega)
    rw [Int.toNat_of_nonneg j0] at hj
    exact ho _ hj Hf (.int j) H' (frame_of sm s) (by unfold Rep; rfl)
  · cases hg
end
end DL

set_option Elab.async false
set_option linter.all false
set_option maxRecDepth 100000
namespace DL
open PySem PySem.Spec PyProof.Rows L2
section
variable {T : Tab} {K : PySem.W.Frag} {B : Bs} {ρ : Env} {Hf Hf' H H' : Hp} {σ : L2.St} {p : Addr} {i : Nat} {ds : List D} {vs : List V}
theorem SR.add (r : SR T K B ρ Hf σ H) (h : H p = none) : SR T K B ρ Hf σ (upd H p (.lst vs)) :=
  ⟨⟨r.fr.rd, r.fr.al.trans (same_new h), r.fr.sub.trans (same_new h), r.fr.ap⟩, r.len, fun i => (r.sl i).mono (Same.refl _) fun q ws a b => ⟨a, by rw [upd_ne (ne_of_none b h)]; exact b⟩, r.dj⟩
/-- a list that nobody holds, stored -/
theorem SR.hold (r : SR T K B ρ Hf σ H) (h0 : B.H0 p = none) (hf : Hf p = none) (h : H p = some (.lst vs)) (hr : Reps T K Hf ds vs) (own : ∀ j es q, lk ρ j = .ow es → at' σ j = some (.ref q) → q ≠ p) : SR T K B (stE ρ i (.ow ds)) Hf (σ.set i (some (.ref p))) H := by
  refine ⟨r.fr, by rw [len_st, List.length_set]; exact r.len, fun j => ?_, fun a b es fs q hab ha hb ea eb => ?_⟩
  · rw [lk_st, at_set, r.len]
    by_cases e : j = i ∧ i < σ.length
    · rw [if_pos e, if_pos e]; exact ⟨p, vs, rfl, h0, hf, h, hr⟩
    · rw [if_neg e, if_neg e]
      exact r.sl j
  · rw [lk_st, r.len] at ha hb
    rw [at_set] at ea eb
    by_cases e1 : a = i ∧ i < σ.length
    · rw [if_pos e1] at ea
      have ep : p = q := V.ref.inj (Option.some.inj ea)
      by_cases e2 : b = i ∧ i < σ.length
      · exact hab (e1.1.trans e2.1.symm)
      · rw [if_neg e2] at hb eb
        exact own b fs q hb eb ep.symm
    · rw [if_neg e1] at ha ea
      by_cases e2 : b = i ∧ i < σ.length
      · rw [if_pos e2] at eb
        have ep : p = q := V.ref.inj (Option.some.inj eb)
        exact own a es q ha ea ep.symm
      · rw [if_neg e2] at hb eb
        exact r.dj a b es fs q hab ha hb ea eb
theorem SR.owns {j : Nat} {es : List D} {q : Addr} (r : SR T K B ρ Hf σ H) (h : H p = none) (e1 : lk ρ j = .ow es) (e2 : at' σ j = some (.ref q)) : q ≠ p := fun z => by
  have s := r.sl j
  rw [e1] at s
  obtain ⟨q', ws, a, _, _, b, _⟩ := s
  rw [e2] at a
  have : q = q' := V.ref.inj (Option.some.inj a)
  rw [← this, z, h] at b
  cases b
end
section
variable {J : Jx} {S L : Type} {ρ : Env} {eS : S → Env} {eL : L → Env} {a b e : Expr} {es : List Expr} {rest : List Stmt} {pos pos' p : Pos}
theorem lines {n : Nat} (h : n ≤ big) : n ≤ sizeLine := Nat.le_trans h (Nat.le_of_lt big_line)
/-- x = [..], a list of the def's own -/
theorem pb_new (i : Nat) {ρ' : List D → Env} {x : Str} {h : HA} {f : List D → HS S L} (jo : JOk J) (pa : PFA J ρ es h) (pr : ∀ ds, PFb J (ρ' ds) eS eL rest (f ds)) (hρ : ∀ ds, ρ' ds = stE ρ i (.ow ds) := by intro _; rfl)
    (hi : J.X.N[i]? = some x := by rfl) (hx : Loc J.X.env.scope x := by first | exact Or.inl rfl | exact Or.inr rfl) (hs : swapsWith (.List es p) (some (.Name x pos')) pos.line J.X.env = pure false := by rfl)
    (hf : J.X.fn x = true ∨ J.X.env.scope.names.lookup x = some .local := by first | exact .inl rfl | exact .inr rfl) :
    PFb J ρ eS eL (.Assign [.Name x pos'] (.List es p) pos :: rest) (sNew h f) :=
  PSs.to (pss_cons (ps_set jo.nd hi hx (pe_lst pa) hs hf) (pss_any pr)) fun D σ H ⟨Hf, k, r, h, P⟩ => ⟨Hf, _, r, h, {
    ok := fun ds hd Hf1 vs H1 f1 rv => by
      have hd' : (lenLe ds big && f ds k) = true := hd
      rw [Bool.and_eq_true] at hd'
      refine ⟨by rw [rv.length]; exact lines (lenLe_ok hd'.1), fun q hq => ⟨ds, Hf1, k, ?_, hd'.2, P.mono f1.rd⟩⟩
      rw [hρ]
      exact (SR.fx r f1).setOwn hq rv
    ex := fun c hc Hf' H' f => P.ex c hc Hf' σ H' f.rd (r.fr.trans f) }⟩
theorem newL_inv (f : List D → HS S L) (k : O S L → Bool) : ∀ {ds : List D}, (match (Sum.inl ds : List D ⊕ Nat) with
  | .inl [.lst ds] => lenLe ds big && f ds k
  | .inl [.tup ds] => lenLe ds big && f ds k
  | .inl _ => false
  | .inr c => k (.exc c)) = true → ∃ ds', (ds = [.lst ds'] ∨ ds = [.tup ds']) ∧ lenLe ds' big = true ∧ f ds' k = true := by
  intro ds h
  split at h
  · rename_i ds' e
    cases e
    rw [Bool.and_eq_true] at h
    exact ⟨_, .inl rfl, h.1, h.2⟩
  · rename_i ds' e
    cases e
    rw [Bool.and_eq_true] at h
    exact ⟨_, .inr rfl, h.1, h.2⟩
  · cases h
  · rename_i e
    cases e
/-- x = list(e), a list of the def's own -/
theorem pb_newL (i : Nat) {ρ' : List D → Env} {x : Str} {h : HA} {f : List D → HS S L} {p2 : Pos} (jo : JOk J) (hm : J.X.mg "list" = none) (pa : PFA J ρ (e :: es) h) (pr : ∀ ds, PFb J (ρ' ds) eS eL rest (f ds)) (hρ : ∀ ds, ρ' ds = stE ρ i (.ow ds) := by intro _; rfl)
    (hi : J.X.N[i]? = some x := by rfl) (hx : Loc J.X.env.scope x := by first | exact Or.inl rfl | exact Or.inr rfl) (hs : swapsWith (.Call (.Name "list" p) (e :: es) [] p2) (some (.Name x pos')) pos.line J.X.env = pure false := by rfl)
    (hf : J.X.fn x = true ∨ J.X.env.scope.names.lookup x = some .local := by first | exact .inl rfl | exact .inr rfl) (hg : Gl J.X "list" := by rfl)
    (he : starEach (e :: es) J.X.env = (false, eval e J.X.env) :: starEach es J.X.env := by rfl) (hpl : (backTo p2 (starEach es J.X.env)).any (·.1) = false := by rfl) :
    PFb J ρ eS eL (.Assign [.Name x pos'] (.Call (.Name "list" p) (e :: es) [] p2) pos :: rest) (sNewL h f) :=
  PSs.to (pss_cons (ps_set jo.nd hi hx (pe_callTy call_list_of hg hm (by decide +kernel) pa (by decide) (by decide) he hpl) hs hf) (pss_any pr)) fun D σ H ⟨Hf, k, r, h, P⟩ => ⟨Hf, _, r, h, {
    ok := fun ds hd Hf1 vs H1 f1 rv => by
      obtain ⟨ds', e', h1, h2⟩ := newL_inv f k hd
      rcases e' with rfl | rfl
      · obtain ⟨v, rfl, r1⟩ := reps1 rv
        unfold Rep at r1
        obtain ⟨p1, ws, rfl, e1, rr⟩ := r1
        refine ⟨p1, ws, rfl, .inl (SqL.of (f1.sub _ _ e1)), fun q hq => ⟨_, Hf1, k, ?_, h2, P.mono f1.rd⟩⟩
        rw [hρ]
        exact (SR.fx r f1).setOwn hq rr
      · obtain ⟨v, rfl, r1⟩ := reps1 rv
        unfold Rep at r1
        obtain ⟨p1, ws, rfl, e1, rr⟩ := r1
        refine ⟨p1, ws, rfl, .inr (same_sqT f1.sub e1), fun q hq => ⟨_, Hf1, k, ?_, h2, P.mono f1.rd⟩⟩
        rw [hρ]
        exact (SR.fx r f1).setOwn hq rr
    ex := fun c hc Hf' H' f => P.ex c hc Hf' σ H' f.rd (r.fr.trans f) }⟩
/-- where an own list stands -/
theorem own_at {i : Nat} {ds : List D} {Hf : Hp} {σ : L2.St} {H : Hp} (r : J0 J ρ Hf σ H) (hl : lk ρ i = .ow ds) : ∃ p vs, σ[i]? = some (some (.ref p)) ∧ at' σ i = some (.ref p) ∧ J.B.H0 p = none ∧ Hf p = none ∧ H p = some (.lst vs) ∧ Reps J.T J.X.K Hf ds vs := by
  have s := SR.sl r i
  rw [hl] at s
  obtain ⟨p, vs, a, b, c, d, e⟩ := s
  exact ⟨p, vs, at_some a, a, b, c, d, e⟩
theorem mtr_of {id : String} {r : V → List V → Hp → VK → Prop} {X : Cx} (h : MtM X id r) : MtR X id r := fun pins s σ H x xs v us Q I rx rs q => h pins s σ H x xs v us Q I rx rs q
/-- x.append(e) -/
theorem pb_append (i : Nat) {ρ' : List D → Env} {x : Str} {ds : List D} {h : H1} {f : List D → HS S L} {p1 apos cpos : Pos} (jo : JOk J) (pe : PF J ρ e h) (pr : ∀ ds, PFb J (ρ' ds) eS eL rest (f ds)) (hρ : ∀ ds, ρ' ds = stE ρ i (.ow ds) := by intro _; rfl) (hl : lk ρ i = .ow ds := by rfl)
    (hN : J.X.N[i]? = some x := by rfl) (hv : Vis J.X.env.scope x := by first | exact Or.inl rfl | exact Or.inr (Or.inl rfl) | exact Or.inr (Or.inr rfl)) (hd : (x == ("__debug__" : Str)) = false := by decide) (hcd : (x == ("__classdict__" : Str)) = false := by decide)
    (hbase : attributeBase (.Name x p1) "append" J.X.env (eval (.Name x p1) J.X.env) = eval (.Name x p1) J.X.env := by rfl)
    (hfew : ((backTo cpos (starEach [e] J.X.env)).all (fun x => !x.1) && (backToKw cpos (keywordEach [] J.X.env)).all (fun x => x.1.isSome)
      && decide ([e].length + ([] : List Keyword).length + (if ([] : List Keyword).isEmpty then 0 else 1) < 30)) = true := by rfl)
    (hline : (apos.endLine == cpos.line) = true := by rfl) (hst : starEach [e] J.X.env = (false, eval e J.X.env) :: starEach [] J.X.env := by rfl) (hplain : (backTo cpos (starEach [] J.X.env)).any (·.1) = false := by rfl)
    (hs : swapsWith (.Call (.Attribute (.Name x p1) "append" apos) [e] [] cpos) none pos.line J.X.env = pure false := by rfl) :
    PFb J ρ eS eL (.Expr (.Call (.Attribute (.Name x p1) "append" apos) [e] [] cpos) pos :: rest) (sApp ds h f) :=
  PSs.to (pss_cons (ps_expr (pe_bm PySem.F.plainAttrs_list PySem.F.slot_list_append PySem.F.type_list_append mt_append (pe_var hN hv hd hcd) (pa_cons pe pa_nil hst) hbase hfew hline hst hplain) hs) (pss_any pr)) fun D σ H ⟨Hf, k, r, h, P⟩ => by
    obtain ⟨q, vs, s1, s2, h0, hf, hH, rr⟩ := own_at r hl
    refine ⟨.ref q, s1, .inl ⟨rfl, vs, SqL.of hH⟩, Hf, _, r, h, {
      ok := fun d hd Hf1 v H1 f1 rv => ?_
      ex := fun c hc Hf' H' f => P.ex c hc Hf' σ H' f.rd (r.fr.trans f) }⟩
    have hd' : (lenLe ds big && f (ds ++ [d]) k) = true := hd
    rw [Bool.and_eq_true] at hd'
    refine ⟨q, vs, v, rfl, rfl, f1.al _ _ hH, by rw [rr.length]; exact Nat.lt_of_le_of_lt (lenLe_ok hd'.1) big_line, ds ++ [d], Hf1, k, ?_, hd'.2, P.mono f1.rd⟩
    rw [hρ]
    exact (SR.fx r f1).write hl s2 ((rr.mono f1.rd).app (.one rv))
/-- x.extend(e), e a list -/
theorem pb_extend (i : Nat) {ρ' : List D → Env} {x : Str} {ds : List D} {h : H1} {f : List D → HS S L} {p1 apos cpos : Pos} (jo : JOk J) (pe : PF J ρ e h) (pr : ∀ ds, PFb J (ρ' ds) eS eL rest (f ds)) (hρ : ∀ ds, ρ' ds = stE ρ i (.ow ds) := by intro _; rfl) (hl : lk ρ i = .ow ds := by rfl)
    (hN : J.X.N[i]? = some x := by rfl) (hv : Vis J.X.env.scope x := by first | exact Or.inl rfl | exact Or.inr (Or.inl rfl) | exact Or.inr (Or.inr rfl)) (hd : (x == ("__debug__" : Str)) = false := by decide) (hcd : (x == ("__classdict__" : Str)) = false := by decide)
    (hbase : attributeBase (.Name x p1) "extend" J.X.env (eval (.Name x p1) J.X.env) = eval (.Name x p1) J.X.env := by rfl)
    (hfew : ((backTo cpos (starEach [e] J.X.env)).all (fun x => !x.1) && (backToKw cpos (keywordEach [] J.X.env)).all (fun x => x.1.isSome)
      && decide ([e].length + ([] : List Keyword).length + (if ([] : List Keyword).isEmpty then 0 else 1) < 30)) = true := by rfl)
    (hline : (apos.endLine == cpos.line) = true := by rfl) (hst : starEach [e] J.X.env = (false, eval e J.X.env) :: starEach [] J.X.env := by rfl) (hplain : (backTo cpos (starEach [] J.X.env)).any (·.1) = false := by rfl)
    (hs : swapsWith (.Call (.Attribute (.Name x p1) "extend" apos) [e] [] cpos) none pos.line J.X.env = pure false := by rfl) :
    PFb J ρ eS eL (.Expr (.Call (.Attribute (.Name x p1) "extend" apos) [e] [] cpos) pos :: rest) (sExt ds h f) :=
  PSs.to (pss_cons (ps_expr (pe_bm PySem.F.plainAttrs_list PySem.F.slot_list_extend PySem.F.type_list_extend mt_extend (pe_var hN hv hd hcd) (pa_cons pe pa_nil hst) hbase hfew hline hst hplain) hs) (pss_any pr)) fun D σ H ⟨Hf, k, r, h, P⟩ => by
    obtain ⟨q, vs, s1, s2, h0, hf, hH, rr⟩ := own_at r hl
    refine ⟨.ref q, s1, .inl ⟨rfl, vs, SqL.of hH⟩, Hf, _, r, h, {
      ok := fun d hd Hf1 v H1 f1 rv => ?_
      ex := fun c hc Hf' H' f => P.ex c hc Hf' σ H' f.rd (r.fr.trans f) }⟩
    cases d with
    | lst es =>
      have hd' : (lenLe ds big && lenLe es big && f (ds ++ es) k) = true := hd
      rw [Bool.and_eq_true, Bool.and_eq_true] at hd'
      unfold Rep at rv
      obtain ⟨p2, ws, rfl, e1, r2⟩ := rv
      refine ⟨q, p2, vs, ws, rfl, rfl, f1.al _ _ hH, f1.sub _ _ e1, ?_, ds ++ es, Hf1, k, ?_, hd'.2, P.mono f1.rd⟩
      · rw [rr.length, r2.length]
        have := lenLe_ok hd'.1.1
        have := lenLe_ok hd'.1.2
        rw [sizeLine_eq]
        unfold big at *
        omega
      · rw [hρ]
        exact (SR.fx r f1).write hl s2 ((rr.mono f1.rd).app r2)
    | _ => cases hd
/-- x[j] = e -/
theorem reps_set {T : Tab} {K : PySem.W.Frag} {H : Hp} {d : D} {v : V} (h : Rep T K H d v) : ∀ {ds : List D} {vs : List V} (n : Nat), Reps T K H ds vs → Reps T K H (ds.set n d) (vs.set n v)
  | [], _, n, r => by rw [show _ = [] from r]; exact rfl
  | x :: ds, _, 0, ⟨u, rr, e, r1, r2⟩ => by rw [e]; exact ⟨v, rr, rfl, h, r2⟩
  | x :: ds, _, n + 1, ⟨u, rr, e, r1, r2⟩ => by rw [e]; exact ⟨u, rr.set n v, rfl, r1, reps_set h n r2⟩
theorem pb_setIx (i : Nat) {ρ' : List D → Env} {x : Str} {ds : List D} {h hj : H1} {f : List D → HS S L} {p1 p2 : Pos} (jo : JOk J) (pe : PF J ρ e h) (pj : PF J ρ a hj) (pr : ∀ ds, PFb J (ρ' ds) eS eL rest (f ds)) (hρ : ∀ ds, ρ' ds = stE ρ i (.ow ds) := by intro _; rfl) (hl : lk ρ i = .ow ds := by rfl)
    (hN : J.X.N[i]? = some x := by rfl) (hv : Vis J.X.env.scope x := by first | exact Or.inl rfl | exact Or.inr (Or.inl rfl) | exact Or.inr (Or.inr rfl)) (hd : (x == ("__debug__" : Str)) = false := by decide) (hcd : (x == ("__classdict__" : Str)) = false := by decide)
    (ha : ∀ v, assign (.Subscript (.Name x p1) a p2) J.X.env v = (do
      let ov ← holding [v] (eval (.Name x p1) J.X.env)
      let iv ← holding [v, ov] (eval a J.X.env)
      standAt p2
      holding [v, ov, iv] (setItem ov iv v)
      release [v, ov, iv] []) := by intro _; rfl)
    (hs : swapsWithSole [.Subscript (.Name x p1) a p2] e pos.line J.X.env = pure false := by rfl) (hw : swappedStores [.Subscript (.Name x p1) a p2] e J.X.env = pure none := by rfl)
    (h1 : (assignEach [.Subscript (.Name x p1) a p2] J.X.env).map (·.2) = [assign (.Subscript (.Name x p1) a p2) J.X.env] := by rfl) :
    PFb J ρ eS eL (.Assign [.Subscript (.Name x p1) a p2] e pos :: rest) (sSetIx ds h hj f) :=
  PSs.to (pss_cons (ps_asg pe (pg_sub (pe_var hN hv hd hcd) pj set_list ha) hs hw h1) (pss_any pr)) fun D σ H ⟨Hf, k, r, h, P⟩ => by
    obtain ⟨q, vs, s1, s2, h0, hf, hH, rr⟩ := own_at r hl
    refine ⟨Hf, _, r, h, {
      ok := fun d hd Hf1 v H1 f1 rv => ⟨.ref q, s1, Hf1, _, SR.fx r f1, hd, {
        ok := fun j hj Hf2 w H2 f2 rj => ?_
        ex := fun c hc Hf' H' f => P.ex c hc Hf' σ H' (f1.rd.trans f.rd) ((r.fr.trans f1).trans f) }⟩
      ex := fun c hc Hf' H' f => P.ex c hc Hf' σ H' f.rd (r.fr.trans f) }⟩
    cases j with
    | int n =>
      dsimp only at hj
      split at hj
      · rename_i m em
        unfold Rep at rj
        refine ⟨q, vs, n, m, rfl, rj, f2.al _ _ (f1.al _ _ hH), by rw [rr.length]; exact (ixP_eq em).1, ds.set m d, Hf2, k, ?_, hj, P.mono (f1.rd.trans f2.rd)⟩
        rw [hρ]
        exact (SR.fx (SR.fx r f1) f2).write hl s2 (reps_set (rv.mono f2.rd) m (rr.mono (f1.rd.trans f2.rd)))
      · cases hj
    | _ => cases hj
/-- x[j], x an own list -/
theorem pf_ixOw (i : Nat) {x : Str} {ds : List D} {hj : H1} {p1 : Pos} (pj : PF J ρ a hj) (hl : lk ρ i = .ow ds := by rfl) (hs : PlainIx a := by exact fun _ _ => rfl)
    (hN : J.X.N[i]? = some x := by rfl) (hv : Vis J.X.env.scope x := by first | exact Or.inl rfl | exact Or.inr (Or.inl rfl) | exact Or.inr (Or.inr rfl)) (hd : (x == ("__debug__" : Str)) = false := by decide) (hcd : (x == ("__classdict__" : Str)) = false := by decide) :
    PF J ρ (.Subscript (.Name x p1) a pos) (hB hj fun y => hO (ixD (.lst ds) y)) :=
  PE.to (pe_ix ix_list (pe_var hN hv hd hcd) pj hs) fun σ H Q ⟨Hf, k, r, h, P⟩ => by
    obtain ⟨q, vs, s1, s2, h0, hf, hH, rr⟩ := own_at r hl
    refine ⟨.ref q, s1, Hf, _, r, h, {
      ok := fun d hd Hf1 v H1 f1 rv => ?_
      ex := P.ex }⟩
    obtain ⟨z, e, hk⟩ := hO_some hd
    cases d with
    | int n =>
      have e' : nthL ds n = some z := e
      unfold Rep at rv
      obtain ⟨w, ga, rw'⟩ := nth_reps e' (rr.mono f1.rd)
      exact ⟨q, vs, n, w, rfl, rv, SqL.of (f1.al _ _ hH), ga, P.ok z hk Hf1 w H1 f1 rw'⟩
    | _ => cases e
/-- len(x), x an own list -/
theorem pf_lenOw (i : Nat) {x : Str} {ds : List D} {p1 : Pos} (hm : J.X.mg "len" = none) (hl : lk ρ i = .ow ds := by rfl)
    (hN : J.X.N[i]? = some x := by rfl) (hv : Vis J.X.env.scope x := by first | exact Or.inl rfl | exact Or.inr (Or.inl rfl) | exact Or.inr (Or.inr rfl)) (hd : (x == ("__debug__" : Str)) = false := by decide) (hcd : (x == ("__classdict__" : Str)) = false := by decide) (hg : Gl J.X "len" := by rfl)
    (he : starEach [.Name x p1] J.X.env = (false, eval (.Name x p1) J.X.env) :: starEach [] J.X.env := by rfl) (hpl : (backTo pos (starEach [] J.X.env)).any (·.1) = false := by rfl) :
    PF J ρ (.Call (.Name "len" p) [.Name x p1] [] pos) (hO (lenD [.lst ds])) :=
  PE.to (pe_callB call_len_seq hg hm boot_len (pa_cons (pe_var hN hv hd hcd) pa_nil he) (by decide) (by decide) he hpl) fun σ H Q ⟨Hf, k, r, h, P⟩ => by
    obtain ⟨q, vs, s1, s2, h0, hf, hH, rr⟩ := own_at r hl
    refine ⟨.ref q, s1, q, vs, rfl, .inl (SqL.of hH), ?_⟩
    rw [rr.length]
    exact P.ok _ h Hf _ H (Frame.refl r.fr.sub) (by unfold Rep; rfl)
/-- a, b = [..], e -/
theorem pb_par_ov (i j : Nat) {ρ' : List D → D → Env} {x y : Str} {px py pt : Pos} {kt k2 : Nat} {pt2 : Pos} {h1 : HA} {h2 : H1} {f : List D → D → HS S L} (jo : JOk J) (p1 : PFA J ρ es h1) (p2 : PF J ρ b h2) (pr : ∀ d d', PFb J (ρ' d d') eS eL rest (f d d'))
    (hρ : ∀ d d', ρ' d d' = stE (stE ρ i (.ow d)) j (.va d') := by intro _ _; rfl) (hi : J.X.N[i]? = some x := by rfl) (hj : J.X.N[j]? = some y := by rfl) (hij : i ≠ j := by decide)
    (hx : J.X.env.scope.names.lookup x = some .local := by rfl) (hy : J.X.env.scope.names.lookup y = some .local := by rfl)
    (hs1 : starEach [.List es p, b] J.X.env = (false, eval (.List es p) J.X.env) :: starEach [b] J.X.env := by rfl) (hs2 : starEach [b] J.X.env = (false, eval b J.X.env) :: starEach [] J.X.env := by rfl)
    (hw : swappedStores [.Tuple [.Name x px, .Name y py] kt pt] (.Tuple [.List es p, b] k2 pt2) J.X.env = pure (some [x, y]) := by rfl)
    (hs : swapsWithSole [.Tuple [.Name x px, .Name y py] kt pt] (.Tuple [.List es p, b] k2 pt2) pos.line J.X.env = pure false := by rfl) :
    PFb J ρ eS eL (.Assign [.Tuple [.Name x px, .Name y py] kt pt] (.Tuple [.List es p, b] k2 pt2) pos :: rest) (sNew h1 fun d => sLet h2 fun d' => f d d') :=
  PSs.to (pss_cons (ps_par jo.calm jo.nd hi hj hij hx hy (pa_cons (pe_lst p1) (pa_cons p2 pa_nil hs2) hs1) hw hs) (pss_any (t := fun dd : List D × D => tS J (ρ' dd.1 dd.2) eS eL (f dd.1 dd.2)) fun dd => pr dd.1 dd.2)) fun D σ H ⟨Hf, k, r, h, P⟩ => ⟨Hf, _, r, h, {
    ok := fun ds hd Hf1 vs H1 f1 rv => by
      have hd' : (lenLe ds big && sLet h2 (f ds) k) = true := hd
      rw [Bool.and_eq_true] at hd'
      refine ⟨by rw [rv.length]; exact lines (lenLe_ok hd'.1), fun q hq => ?_⟩
      have r1 := SR.fx r f1
      have fa : Frame ⟨Hf1, H1⟩ Hf1 (upd H1 q (.lst vs)) := frame_of f1.sub (same_new hq)
      refine ⟨Hf1, _, SR.add r1 hq, hd'.2, {
        ok := fun d' hd2 Hf2 w H2 f2 rw' => ⟨.ref q, w, rfl, (ds, d'), Hf2, k, ?_, hd2, P.mono (f1.rd.trans f2.rd)⟩
        ex := fun c hc Hf' H' f => P.ex c hc Hf' σ H' (f1.rd.trans f.rd) (((r.fr.trans f1).trans fa).trans f) }⟩
      rw [hρ]
      have hq2 : H2 q = some (.lst vs) := f2.al _ _ upd_same
      have hqf : Hf2 q = none := f2.ap q _ upd_same (f1.sub.free hq)
      refine SR.set (SR.hold (SR.fx (SR.add r1 hq) f2) (r1.fr.al.free hq) hqf hq2 (rv.mono f2.rd) fun j' es' q' e1 e2 => SR.owns r1 hq e1 e2) rw'
    ex := fun c hc Hf' H' f => P.ex c hc Hf' σ H' f.rd (r.fr.trans f) }⟩
theorem pb_par_vo (i j : Nat) {ρ' : D → List D → Env} {x y : Str} {px py pt : Pos} {kt k2 : Nat} {pt2 : Pos} {h1 : H1} {h2 : HA} {f : D → List D → HS S L} (jo : JOk J) (p1 : PF J ρ b h1) (p2 : PFA J ρ es h2) (pr : ∀ d d', PFb J (ρ' d d') eS eL rest (f d d'))
    (hρ : ∀ d d', ρ' d d' = stE (stE ρ i (.va d)) j (.ow d') := by intro _ _; rfl) (hi : J.X.N[i]? = some x := by rfl) (hj : J.X.N[j]? = some y := by rfl) (hij : i ≠ j := by decide)
    (hx : J.X.env.scope.names.lookup x = some .local := by rfl) (hy : J.X.env.scope.names.lookup y = some .local := by rfl)
    (hs1 : starEach [b, .List es p] J.X.env = (false, eval b J.X.env) :: starEach [.List es p] J.X.env := by rfl) (hs2 : starEach [.List es p] J.X.env = (false, eval (.List es p) J.X.env) :: starEach [] J.X.env := by rfl)
    (hw : swappedStores [.Tuple [.Name x px, .Name y py] kt pt] (.Tuple [b, .List es p] k2 pt2) J.X.env = pure (some [x, y]) := by rfl)
    (hs : swapsWithSole [.Tuple [.Name x px, .Name y py] kt pt] (.Tuple [b, .List es p] k2 pt2) pos.line J.X.env = pure false := by rfl) :
    PFb J ρ eS eL (.Assign [.Tuple [.Name x px, .Name y py] kt pt] (.Tuple [b, .List es p] k2 pt2) pos :: rest) (sLet h1 fun d => sNew h2 fun d' => f d d') :=
  PSs.to (pss_cons (ps_par jo.calm jo.nd hi hj hij hx hy (pa_cons p1 (pa_cons (pe_lst p2) pa_nil hs2) hs1) hw hs) (pss_any (t := fun dd : D × List D => tS J (ρ' dd.1 dd.2) eS eL (f dd.1 dd.2)) fun dd => pr dd.1 dd.2)) fun D σ H ⟨Hf, k, r, h, P⟩ => ⟨Hf, _, r, h, {
    ok := fun d hd Hf1 v H1 f1 rv => ⟨Hf1, _, SR.fx r f1, hd, {
      ok := fun ds hd2 Hf2 vs H2 f2 rvs => by
        have hd' : (lenLe ds big && f d ds k) = true := hd2
        rw [Bool.and_eq_true] at hd'
        refine ⟨by rw [rvs.length]; exact lines (lenLe_ok hd'.1), fun q hq => ⟨v, .ref q, rfl, (d, ds), Hf2, k, ?_, hd'.2, P.mono (f1.rd.trans f2.rd)⟩⟩
        rw [hρ]
        exact ((SR.fx (SR.fx r f1) f2).set (rv.mono f2.rd)).setOwn hq rvs
      ex := fun c hc Hf' H' f => P.ex c hc Hf' σ H' (f1.rd.trans f.rd) ((r.fr.trans f1).trans f) }⟩
    ex := fun c hc Hf' H' f => P.ex c hc Hf' σ H' f.rd (r.fr.trans f) }⟩
theorem pb_par_oo (i j : Nat) {es2 : List Expr} {pq : Pos} {ρ' : List D → List D → Env} {x y : Str} {px py pt : Pos} {kt k2 : Nat} {pt2 : Pos} {h1 : HA} {h2 : HA} {f : List D → List D → HS S L} (jo : JOk J) (p1 : PFA J ρ es h1) (p2 : PFA J ρ es2 h2) (pr : ∀ d d', PFb J (ρ' d d') eS eL rest (f d d'))
    (hρ : ∀ d d', ρ' d d' = stE (stE ρ i (.ow d)) j (.ow d') := by intro _ _; rfl) (hi : J.X.N[i]? = some x := by rfl) (hj : J.X.N[j]? = some y := by rfl) (hij : i ≠ j := by decide)
    (hx : J.X.env.scope.names.lookup x = some .local := by rfl) (hy : J.X.env.scope.names.lookup y = some .local := by rfl)
    (hs1 : starEach [.List es p, .List es2 pq] J.X.env = (false, eval (.List es p) J.X.env) :: starEach [.List es2 pq] J.X.env := by rfl) (hs2 : starEach [.List es2 pq] J.X.env = (false, eval (.List es2 pq) J.X.env) :: starEach [] J.X.env := by rfl)
    (hw : swappedStores [.Tuple [.Name x px, .Name y py] kt pt] (.Tuple [.List es p, .List es2 pq] k2 pt2) J.X.env = pure (some [x, y]) := by rfl)
    (hs : swapsWithSole [.Tuple [.Name x px, .Name y py] kt pt] (.Tuple [.List es p, .List es2 pq] k2 pt2) pos.line J.X.env = pure false := by rfl) :
    PFb J ρ eS eL (.Assign [.Tuple [.Name x px, .Name y py] kt pt] (.Tuple [.List es p, .List es2 pq] k2 pt2) pos :: rest) (sNew h1 fun d => sNew h2 fun d' => f d d') :=
  PSs.to (pss_cons (ps_par jo.calm jo.nd hi hj hij hx hy (pa_cons (pe_lst p1) (pa_cons (pe_lst p2) pa_nil hs2) hs1) hw hs) (pss_any (t := fun dd : List D × List D => tS J (ρ' dd.1 dd.2) eS eL (f dd.1 dd.2)) fun dd => pr dd.1 dd.2)) fun D σ H ⟨Hf, k, r, h, P⟩ => ⟨Hf, _, r, h, {
    ok := fun ds hd Hf1 vs H1 f1 rv => by
      have hd' : (lenLe ds big && sNew h2 (f ds) k) = true := hd
      rw [Bool.and_eq_true] at hd'
      refine ⟨by rw [rv.length]; exact lines (lenLe_ok hd'.1), fun q hq => ?_⟩
      have r1 := SR.fx r f1
      have fa : Frame ⟨Hf1, H1⟩ Hf1 (upd H1 q (.lst vs)) := frame_of f1.sub (same_new hq)
      refine ⟨Hf1, _, SR.add r1 hq, hd'.2, {
        ok := fun d' hd2 Hf2 vs2 H2 f2 rw' => ?_
        ex := fun c hc Hf' H' f => P.ex c hc Hf' σ H' (f1.rd.trans f.rd) (((r.fr.trans f1).trans fa).trans f) }⟩
      have hd3 : (lenLe d' big && f ds d' k) = true := hd2
      rw [Bool.and_eq_true] at hd3
      refine ⟨by rw [rw'.length]; exact lines (lenLe_ok hd3.1), fun q2 hq2' => ⟨.ref q, .ref q2, rfl, (ds, d'), Hf2, k, ?_, hd3.2, P.mono (f1.rd.trans f2.rd)⟩⟩
      rw [hρ]
      have hq2 : H2 q = some (.lst vs) := f2.al _ _ upd_same
      have hqf : Hf2 q = none := f2.ap q _ upd_same (f1.sub.free hq)
      exact SR.setOwn (SR.hold (SR.fx (SR.add r1 hq) f2) (r1.fr.al.free hq) hqf hq2 (rv.mono f2.rd) fun j' es' q' e1 e2 => SR.owns r1 hq e1 e2) hq2' rw'
    ex := fun c hc Hf' H' f => P.ex c hc Hf' σ H' f.rd (r.fr.trans f) }⟩
theorem allNat_at : ∀ (xs : List D) (n : Nat) {x : D}, allNat xs = true → xs[n]? = some x → natD x = true
  | [], _, _, _, e => by simp at e
  | y :: r, 0, x, h, e => by
    unfold allNat at h
    rw [Bool.and_eq_true] at h
    simp at e
    exact e ▸ h.1
  | y :: r, n + 1, x, h, e => by
    unfold allNat at h
    rw [Bool.and_eq_true] at h
    exact allNat_at r n h.2 (by simpa using e)
/-- a loop whose turns are alike -/
theorem pb_cut {i : Nat} {ρb : Env} {tg iter : Expr} {body : List Stmt} {h : H1} {ρ1 : Env} {hb : D → HS Unit Unit} {f : HS S L} (jo : JOk J) (w : Wk ρ ρ1) (pi : PFi J ρ1 tg iter h) (pg : PG J.X tg (gName i)) (pt : PFb J ρb (fun _ : Unit => ρ1) (fun _ : Unit => ρ1) body (hb .nn)) (pr : PFb J ρ1 eS eL rest f)
    (hρ : ρb = stE ρ1 i (.va .nn) := by rfl) (hs : ∀ x, foldedSetIterable iter J.X.env x = pure x := by intro _; rfl) : PFb J ρ eS eL (.For tg iter body [] pos :: rest) (sCut h hb f) := by
  refine pb_wk w (PSs.to (pss_cons (ps_for jo.pass jo.calm pi pg pt hs) pr) fun D σ H ⟨Hf, k, r, h, P⟩ => ?_)
  refine ⟨Hf, _, r, h, {
    ok := fun xs hx Hf1 It H1 f1 wk => ?_
    no := fun d hd => by
      cases d with
      | lst xs => exact ⟨xs, rfl⟩
      | _ => cases hd
    ex := fun c hc Hf' H' f => P.ex c hc Hf' σ H' f.rd (r.fr.trans f) }⟩
  have hx : (allNat xs && hb .nn cutK && f k) = true := hx
  rw [Bool.and_eq_true, Bool.and_eq_true] at hx
  refine ⟨fun i m σ H => ∃ Hf2, Same Hf1 Hf2 ∧ J0 J ρ1 Hf2 σ H ∧ i + m = xs.length, ⟨xs.length, Hf1, Same.refl _, SR.fx r f1, by omega⟩, fun n m σ2 H2 ⟨Hf2, s2, r2, em⟩ => ?_⟩
  obtain ⟨ws, wg⟩ := wk n Hf2 H2 s2 (SR.fr r2).sub
  by_cases hi : n < xs.length
  · have gx : xs[n]? = some xs[n] := List.getElem?_eq_getElem hi
    obtain ⟨go, yld⟩ := wg _ gx
    have hnat : natD xs[n] = true := by
      exact allNat_at xs n hx.1.1 gx
    refine .inr ⟨go, fun σ' H' => ∃ Hf3, Same Hf1 Hf3 ∧ J0 J ρ1 Hf3 σ' H', fun σ' H' ⟨Hf3, a1, a2⟩ => ⟨m - 1, by omega, Hf3, a1, a2, by omega⟩, fun v H3 y => ?_⟩
    obtain ⟨Hf3, f3, rv⟩ := yld v H3 y
    obtain ⟨kk, ek, hk⟩ := nat_rep hnat rv
    have rn : Rep J.T J.X.K Hf3 .nn v := by
      unfold Rep
      exact ⟨kk.toNat, by rw [ek]; exact congrArg V.int (by omega)⟩
    refine ⟨Hf3, cutK, ?_, hx.1.2, ?_⟩
    · rw [hρ]
      exact SR.set (SR.fx r2 f3) rn
    · exact {
        nx := fun s' hs' Hf5 σ5 H5 s5 r5 => ⟨Hf5, s2.trans (f3.rd.trans s5), r5⟩
        ct := fun s' hs' Hf5 σ5 H5 s5 r5 => ⟨Hf5, s2.trans (f3.rd.trans s5), r5⟩
        bk := fun s' hs' => by cases hs'
        rt := fun d hs' => by cases hs'
        ex := fun c hs' => by cases hs' }
  · exact .inl ⟨ws (by omega), Hf2, k, r2, hx.2, P.mono (f1.rd.trans s2)⟩
/-- the same, the turn shown apart -/
theorem pb_cutC {c0 : Bool} {i : Nat} {ρb : Env} {tg iter : Expr} {body : List Stmt} {h : H1} {ρ1 : Env} {hb : HS Unit Unit} (hc0 : c0 = true → hb cutK = true) {f : HS S L} (jo : JOk J) (w : Wk ρ ρ1) (pi : PFi J ρ1 tg iter h) (pg : PG J.X tg (gName i)) (pt : PFb J ρb (fun _ : Unit => ρ1) (fun _ : Unit => ρ1) body hb) (pr : PFb J ρ1 eS eL rest f)
    (hρ : ρb = stE ρ1 i (.va .nn) := by rfl) (hs : ∀ x, foldedSetIterable iter J.X.env x = pure x := by intro _; rfl) : PFb J ρ eS eL (.For tg iter body [] pos :: rest) (sCutC c0 h f) := by
  refine pb_wk w (PSs.to (pss_cons (ps_for jo.pass jo.calm pi pg pt hs) pr) fun D σ H ⟨Hf, k, r, h, P⟩ => ?_)
  refine ⟨Hf, _, r, h, {
    ok := fun xs hx Hf1 It H1 f1 wk => ?_
    no := fun d hd => by
      cases d with
      | lst xs => exact ⟨xs, rfl⟩
      | _ => cases hd
    ex := fun c hc Hf' H' f => P.ex c hc Hf' σ H' f.rd (r.fr.trans f) }⟩
  have hx : (c0 && (allNat xs && f k)) = true := hx
  rw [Bool.and_eq_true, Bool.and_eq_true] at hx
  have hx : (allNat xs = true ∧ hb cutK = true) ∧ f k = true := ⟨⟨hx.2.1, hc0 hx.1⟩, hx.2.2⟩
  refine ⟨fun i m σ H => ∃ Hf2, Same Hf1 Hf2 ∧ J0 J ρ1 Hf2 σ H ∧ i + m = xs.length, ⟨xs.length, Hf1, Same.refl _, SR.fx r f1, by omega⟩, fun n m σ2 H2 ⟨Hf2, s2, r2, em⟩ => ?_⟩
  obtain ⟨ws, wg⟩ := wk n Hf2 H2 s2 (SR.fr r2).sub
  by_cases hi : n < xs.length
  · have gx : xs[n]? = some xs[n] := List.getElem?_eq_getElem hi
    obtain ⟨go, yld⟩ := wg _ gx
    have hnat : natD xs[n] = true := by
      exact allNat_at xs n hx.1.1 gx
    refine .inr ⟨go, fun σ' H' => ∃ Hf3, Same Hf1 Hf3 ∧ J0 J ρ1 Hf3 σ' H', fun σ' H' ⟨Hf3, a1, a2⟩ => ⟨m - 1, by omega, Hf3, a1, a2, by omega⟩, fun v H3 y => ?_⟩
    obtain ⟨Hf3, f3, rv⟩ := yld v H3 y
    obtain ⟨kk, ek, hk⟩ := nat_rep hnat rv
    have rn : Rep J.T J.X.K Hf3 .nn v := by
      unfold Rep
      exact ⟨kk.toNat, by rw [ek]; exact congrArg V.int (by omega)⟩
    refine ⟨Hf3, cutK, ?_, hx.1.2, ?_⟩
    · rw [hρ]
      exact SR.set (SR.fx r2 f3) rn
    · exact {
        nx := fun s' hs' Hf5 σ5 H5 s5 r5 => ⟨Hf5, s2.trans (f3.rd.trans s5), r5⟩
        ct := fun s' hs' Hf5 σ5 H5 s5 r5 => ⟨Hf5, s2.trans (f3.rd.trans s5), r5⟩
        bk := fun s' hs' => by cases hs'
        rt := fun d hs' => by cases hs'
        ex := fun c hs' => by cases hs' }
  · exact .inl ⟨ws (by omega), Hf2, k, r2, hx.2, P.mono (f1.rd.trans s2)⟩
end
/-! ## better meanings by wider data -/
theorem Gf.sub {P : Program} {w : World} {K : PySem.W.Frag} {mg : Str → Option Value} {base : Heap} {T : Tab} {x : Str} {n kk : Nat} {g g' : Fn} (G : Gf P w K mg base T x n kk g)
    (h : ∀ ds k, g' ds k = true → ∃ k', g ds k' = true ∧ (∀ d, k' (.ok d) = true → ∃ d', k (.ok d') = true ∧ ∀ H v, Rep T K H d v → Rep T K H d' v) ∧ ∀ c, k' (.exc c) = true → k (.exc c) = true) : Gf P w K mg base T x n kk g' := by
  obtain ⟨f, fd, ps, F, a, b, c⟩ := G
  refine ⟨f, fd, ps, F.imp fun vs H Q E ⟨hl, Hf, ds, k, s, r, hg, ho, he⟩ => ?_, a, b, c⟩
  obtain ⟨k', hk, h1, h2⟩ := h ds k hg
  exact ⟨hl, Hf, ds, k', s, r, hk, fun d hd Hf' v H' fr rv => by
    obtain ⟨d', hd', hs⟩ := h1 d hd
    exact ho d' hd' Hf' v H' fr (hs _ _ rv), fun c hc => he c (h2 c hc)⟩
end DL

set_option Elab.async false
set_option linter.all false
set_option maxRecDepth 100000
namespace DL
open PySem PySem.Spec PyProof.Rows L2
/-! ## the program's top and the law's end -/
section
variable {J : Jx} {ρ : Env} {pos : Pos}
theorem pf_gint {x : Str} {n : Int} (hm : ∃ t, J.X.mg x = some (.int n t)) (hg : Gl J.X x := by rfl) (hd : (x == ("__debug__" : Str)) = false := by decide) : PF J ρ (.Name x pos) (hC (.int n)) :=
  let ⟨t, hm⟩ := hm
  pf_glob (v := .int n) (.int n) hm ⟨t, rfl⟩ (fun _ => by unfold Rep; rfl) hg hd
theorem pf_gstr {x : Str} {c : List Nat} (hm : ∃ t, J.X.mg x = some (.str (mkS c) t)) (hg : Gl J.X x := by rfl) (hd : (x == ("__debug__" : Str)) = false := by decide) : PF J ρ (.Name x pos) (hC (.str c)) :=
  let ⟨t, hm⟩ := hm
  pf_glob (v := .str (mkS c)) (.str c) hm ⟨t, rfl⟩ (fun _ => by unfold Rep; rfl) hg hd
end
theorem tfn_mk {K : PySem.W.Frag} {h : Heap} {mg : Str → Option Value} (X : K.In h) (G : h.Ns mainGlobals mg) {x : Str} {st : Stmt} {ps : List Str} {f : Addr} {oc : Value} {od an : Option Addr} {osl : Array (Option Value)} {kV doc pm cdv ct : Value}
    (a : PySem.W.nsIn K mainGlobals x = some (some (.ref f))) (l : K.lookup f = some ⟨oc, od, .func (PySem.W.fnOf x x (defArgs st) (defBody st) (defScope st) .none kV doc pm an cdv ct), osl⟩) (c : PySem.W.codeIn K cdv x = true) (k : PySem.W.keepIn K (.ref f) = true)
    (b : ∀ us : List Value, us.length = ps.length → bindArgs (PySem.W.fnOf x x (defArgs st) (defBody st) (defScope st) .none kV doc pm an cdv ct) ⟨us, []⟩ = pure (ps.zip us)) : TFn K mg x st ps :=
  ⟨f, _, fun_mk l c k, PySem.W.mg_of X G a, Binds.all b⟩
def spLaw (K : PySem.W.Frag) : Sp := fun vs H Q _ => ∃ (a : Addr) (ns : List Int), vs = [.ref a] ∧ SqL K H a (ns.map V.int) ∧ ns.length ≤ 63 ∧ (∀ z ∈ ns, Builtin.Int.intBits z ≤ 1048576) ∧ ∀ H', Q (.bl true) H'
theorem law_ok {P : Program} {w : World} {K : PySem.W.Frag} {mg : Str → Option Value} {base : Heap} {T : Tab} {kk : Nat} {g : Fn} {ps : List Str} {f : Addr} {fd : FuncData} (F : FnOk P w K mg base (L2.CX P w) kk f fd ps (spC T K 1 g)) (hg : g [.scr] lawK = true) :
    FnOk P w K mg base (L2.CX P w) kk f fd ps (spLaw K) := F.imp fun vs H Q E ⟨a, ns, e, hS, hl, hb, q⟩ => ⟨by rw [e]; rfl, H, [.scr], lawK, Same.refl _, by
      rw [e]
      exact Reps.one (by unfold Rep; exact ⟨a, ns, rfl, hS, hl, hb⟩), hg, (fun d hd Hf' v H' f r => by
      unfold lawK at hd
      split at hd
      · rename_i e
        cases e
        unfold Rep at r
        rw [r]
        exact q H'
      · cases hd), fun c hc => by cases hc⟩
theorem walk_d {l : PySem.W.OpenLaw} {k : Nat} {q : Program} {loose : List Str} {XP : (Str → Option Value) → Heap → Prop} {YP : World → Heap → Prop} {d : DefRec} {K : Params → PySem.W.Frag} {x : Str} (hn : l.most = some 63) (hdf : d.params.defaults = []) (hr : Room k callerA)
    (hY : ∀ (w : World) (h : Heap), YP w h → (K w.params).In h)
    (F : ∀ (w : World) (mg : Str → Option Value) (fa : Addr) (h : Heap), (K w.params).In h → h.Ns mainGlobals mg → mg d.name = some (.ref fa) →
      ∃ fd : FuncData, (∀ (s : Shared) (u : Value), BindsTo s fd ⟨[u], []⟩ [(x, u)]) ∧ ∀ base : Heap, (K w.params).In base → base.Ns mainGlobals mg → FnOk l.prog w (K w.params) mg base (L2.CX l.prog w) k fa fd [x] (spLaw (K w.params))) :
    PySem.W.WalkO q loose XP YP l.row.toRowW d [] (fun f vs => PySem.call f vs) :=
  L2.walk_ofB (n := 63) (k := k) (x := x) (CX := fun w => L2.CX l.prog w) (sp := fun w => spLaw (K w.params)) hn (by decide) hdf hr hY F (fun _ _ a ns hl hb _ hS => ⟨a, ns, rfl, hS, hl, hb, fun _ => rfl⟩)
    fun w H s e s' ⟨_, _, _, _, _, _, _, _, _, _, _, _, h⟩ => h
end DL

set_option Elab.async false
set_option linter.all false
set_option maxRecDepth 100000
namespace DL
open PySem PySem.Spec PyProof.Rows L2
/-! ## further values -/
section
variable {J : Jx} {ρ : Env} {a b : Expr} {p p' pos pos' : Pos}
theorem reps_rg {T : Tab} {K : PySem.W.Frag} {H : Hp} : ∀ (n : Nat) (a : Int), Reps T K H (intL a n) ((List.range n).map fun i => V.int (a + (i : Nat)))
  | 0, a => by simp [intL, Reps]
  | n + 1, a => by
    rw [List.range_succ_eq_map, List.map_cons, List.map_map]
    unfold intL Reps
    refine ⟨_, _, rfl, by unfold Rep; simp, ?_⟩
    have := reps_rg (T := T) (K := K) (H := H) n (a + 1)
    have e : ((fun i : Nat => V.int (a + (i : Nat))) ∘ Nat.succ) = fun i : Nat => V.int (a + 1 + (i : Nat)) := by
      funext i
      show V.int _ = V.int _
      congr 1
      push_cast
      omega
    rw [e]
    exact this
theorem reps_rgV {T : Tab} {K : PySem.W.Frag} {H : Hp} (a b : Int) : Reps T K H (intL a (b - a).toNat) (rgV a b) := reps_rg _ _
theorem PRg.to {X : Cx} {e : Expr} {t t' : L2.St → Hp → (Int → Int → Hp → Prop) → Prop} (h : PRg X e t) (i : ∀ σ H Q, t' σ H Q → t σ H Q) : PRg X e t' := fun pins s σ H Q I q => h pins s σ H Q I (i _ _ _ q)
theorem pf_listRange1 {h : H1} (jo : JOk J) (hml : J.X.mg "list" = none) (hm : J.X.mg "range" = none) (pa : PF J ρ a h) (hgl : Gl J.X "list" := by rfl) (hg : Gl J.X "range" := by rfl) (hs : starEach [a] J.X.env = (false, eval a J.X.env) :: starEach [] J.X.env := by rfl)
    (na : starEach [.Call (.Name "range" p') [a] [] pos'] J.X.env = (false, eval (.Call (.Name "range" p') [a] [] pos') J.X.env) :: starEach [] J.X.env := by rfl) :
    PF J ρ (.Call (.Name "list" p) [.Call (.Name "range" p') [a] [] pos'] [] pos) (hB h fun x => hO (rng1D [x])) :=
  PE.to (pe_listRg jo.calm hgl hml (prg_1 hg hm pa hs) na) fun σ H Q ⟨Hf, k, r, h, P⟩ => ⟨Hf, _, r, h, {
    ok := fun d hd Hf1 v H1 f1 rv => by
      obtain ⟨z, e, hk⟩ := hO_some hd
      unfold rng1D at e
      split at e
      · split at e
        · rename_i j he hj
          cases e
          cases he
          unfold Rep at rv
          refine ⟨j, rv, ⟨by omega, by omega, by omega, by omega, by omega⟩, fun q hq => ?_⟩
          have nf : Frame ⟨Hf1, H1⟩ (upd Hf1 q (.lst (rgV 0 j))) (upd H1 q (.lst (rgV 0 j))) := Frame.new1 f1.sub hq
          exact P.ok _ hk _ _ _ (f1.trans nf) (by unfold Rep; exact ⟨q, _, rfl, upd_same, by have := reps_rgV (T := J.T) (K := J.X.K) (H := upd Hf1 q (.lst (rgV 0 j))) 0 j; simpa using this⟩)
        · cases e
      · cases e
    ex := P.ex }⟩
theorem tupOf_ok {o : Option D} {z : D} (h : tupOf o = some z) : ∃ xs, o = some (.lst xs) ∧ z = .tup xs := by
  unfold tupOf at h
  split at h
  · cases h; exact ⟨_, rfl, rfl⟩
  · cases h
theorem pf_tupleRange1 {h : H1} (jo : JOk J) (hmt : J.X.mg "tuple" = none) (hm : J.X.mg "range" = none) (pa : PF J ρ a h) (hgt : Gl J.X "tuple" := by rfl) (hg : Gl J.X "range" := by rfl) (hs : starEach [a] J.X.env = (false, eval a J.X.env) :: starEach [] J.X.env := by rfl)
    (na : starEach [.Call (.Name "range" p') [a] [] pos'] J.X.env = (false, eval (.Call (.Name "range" p') [a] [] pos') J.X.env) :: starEach [] J.X.env := by rfl) :
    PF J ρ (.Call (.Name "tuple" p) [.Call (.Name "range" p') [a] [] pos'] [] pos) (hB h fun x => hO (tupOf (rng1D [x]))) :=
  PE.to (pe_tupRg jo.calm hgt hmt (prg_1 hg hm pa hs) na) fun σ H Q ⟨Hf, k, r, h, P⟩ => ⟨Hf, _, r, h, {
    ok := fun d hd Hf1 v H1 f1 rv => by
      obtain ⟨z, e, hk⟩ := hO_some hd
      obtain ⟨z', e2, rfl⟩ := tupOf_ok e
      unfold rng1D at e2
      split at e2
      · split at e2
        · rename_i j he hj
          cases e2
          cases he
          unfold Rep at rv
          refine ⟨j, rv, ⟨by omega, by omega, by omega, by omega, by omega⟩, fun q hq => ?_⟩
          have nf : Frame ⟨Hf1, H1⟩ (upd Hf1 q (.tup (rgV 0 j))) (upd H1 q (.tup (rgV 0 j))) := Frame.new1 f1.sub hq
          exact P.ok _ hk _ _ _ (f1.trans nf) (by unfold Rep; exact ⟨q, _, rfl, .inl (.inl upd_same), by have := reps_rgV (T := J.T) (K := J.X.K) (H := upd Hf1 q (.tup (rgV 0 j))) 0 j; simpa using this⟩)
        · cases e2
      · cases e2
    ex := P.ex }⟩
theorem pf_listRange2 {h h2 : H1} (jo : JOk J) (hml : J.X.mg "list" = none) (hm : J.X.mg "range" = none) (pa : PF J ρ a h) (pb : PF J ρ b h2) (hgl : Gl J.X "list" := by rfl) (hg : Gl J.X "range" := by rfl) (hs : starEach [a, b] J.X.env = (false, eval a J.X.env) :: starEach [b] J.X.env := by rfl) (hs2 : starEach [b] J.X.env = (false, eval b J.X.env) :: starEach [] J.X.env := by rfl) (hp2 : (backTo pos' (starEach [b] J.X.env)).any (·.1) = false := by rfl)
    (na : starEach [.Call (.Name "range" p') [a, b] [] pos'] J.X.env = (false, eval (.Call (.Name "range" p') [a, b] [] pos') J.X.env) :: starEach [] J.X.env := by rfl) :
    PF J ρ (.Call (.Name "list" p) [.Call (.Name "range" p') [a, b] [] pos'] [] pos) (hB h fun x => hB h2 fun y => hO (rng2D [x, y])) :=
  PE.to (pe_listRg jo.calm hgl hml (prg_2 hg hm pa pb hs hs2 hp2) na) fun σ H Q ⟨Hf, k, r, h, P⟩ => ⟨Hf, _, r, h, {
    ok := fun d hd Hf1 v H1 f1 rv => ⟨Hf1, _, SR.fx r f1, hd, {
      ok := fun d' hd' Hf2 v' H2 f2 rv' => by
        obtain ⟨z, e, hk⟩ := hO_some hd'
        unfold rng2D at e
        split at e
        · split at e
          · rename_i i j he hj
            cases e
            cases he
            unfold Rep at rv rv'
            refine ⟨i, j, rv, rv', ⟨by omega, by omega, by omega, by omega, by omega⟩, fun q hq => ?_⟩
            have f12 := f1.trans f2
            have nf : Frame ⟨Hf2, H2⟩ (upd Hf2 q (.lst (rgV i j))) (upd H2 q (.lst (rgV i j))) := Frame.new1 f12.sub hq
            exact P.ok _ hk _ _ _ (f12.trans nf) (by unfold Rep; exact ⟨q, _, rfl, upd_same, reps_rgV (T := J.T) (K := J.X.K) (H := upd Hf2 q (.lst (rgV i j))) i j⟩)
          · cases e
        · cases e
      ex := fun c hc Hf' H' f => P.ex c hc Hf' H' (f1.trans f) }⟩
    ex := P.ex }⟩
/-- a call without arguments -/
theorem pf_call0 {x : Str} {g : Fn} (d : DefAt J.X.prog J.X.w J.X.K J.X.mg J.X.base J.X.A J.T x 0 g) (tk : Takes J.X J.W) (hg : Gl J.X x := by rfl) (hdb : (x == ("__debug__" : Str)) = false := by decide) :
    PF J ρ (.Call (.Name x p) [] [] pos) (hA aN fun ds k => Nat.beq ds.length 0 && g ds k) := by
  obtain ⟨kk, f, fd, ps, F, hr, hm, hk, hb⟩ := d.ex
  refine PE.to (t := fun σ H Q => spC J.T J.X.K 0 g [] H Q fun cls d H' => J.W cls d σ H') ⟨fun pins s σ H Q I h => ?_⟩ fun σ H Q ⟨Hf, k, r, h, P⟩ => ?_
  · refine wpAny_Call_Name_kw (ld_glob I hg hm ?_ hdb)
    exact PySem.W.callWith_K0 I.kIn hk (run_fnSD (us := []) (vs := []) (E := fun σ cls d H => J.W cls d σ H) F hr hb .nil (passAt tk σ) I .nil h)
  · have hd' : (Nat.beq ([] : List D).length 0 && g [] k) = true := h
    rw [Bool.and_eq_true] at hd'
    exact ⟨rfl, Hf, [], k, r.fr.sub, by unfold Reps; rfl, hd'.2, fun d hk Hf2 v H2 f2 rv2 => P.ok d hk Hf2 v H2 f2 rv2, fun c hc Hf2 H2 f2 => P.ex c hc Hf2 H2 f2⟩
end
/-! ## draws of four letters -/
theorem all4_at {al : List Nat} {f : List Nat → Bool} {x : List Nat} (h : all4 al f = true) (hx : is4 al x = true) : f x = true := by
  unfold is4 at hx
  split at hx
  · simp only [Bool.and_eq_true, List.contains_iff_mem] at hx
    unfold all4 at h
    simp only [List.all_eq_true] at h
    exact h _ hx.1 _ hx.2.1 _ hx.2.2.1 _ hx.2.2.2
  · cases hx
theorem k4_inv {al : List Nat} {d : D} (h : k4 al (.ok d) = true) : ∃ x, d = .str x ∧ is4 al x = true := by
  unfold k4 at h
  split at h
  · rename_i x e
    cases e
    exact ⟨x, rfl, h⟩
  · cases h
theorem k4_exc {al : List Nat} {c : Nat} (h : k4 al (.exc c) = true) : False := by cases h
theorem sg_letter {a : Nat} (h : a ∈ aSg) : ∃ r, sgOk a r ∧ r ∈ [2, 1, 0] := by
  unfold aSg at h
  simp only [List.mem_cons, List.not_mem_nil, or_false] at h
  rcases h with rfl | rfl | rfl | rfl
  · exact ⟨2, by simp [sgOk], by decide⟩
  · exact ⟨1, by simp [sgOk], by decide⟩
  · exact ⟨0, by simp [sgOk], by decide⟩
  · exact ⟨0, by simp [sgOk], by decide⟩
theorem sg_word {x : List Nat} (h : is4 aSg x = true) : ∃ r, Paired sgOk x r ∧ is4 [2, 1, 0] r = true := by
  unfold is4 at h
  split at h
  · simp only [Bool.and_eq_true, List.contains_iff_mem] at h
    obtain ⟨r1, a1, b1⟩ := sg_letter h.1
    obtain ⟨r2, a2, b2⟩ := sg_letter h.2.1
    obtain ⟨r3, a3, b3⟩ := sg_letter h.2.2.1
    obtain ⟨r4, a4, b4⟩ := sg_letter h.2.2.2
    refine ⟨[r1, r2, r3, r4], .cons a1 (.cons a2 (.cons a3 (.cons a4 .nil))), ?_⟩
    unfold is4
    simp only [Bool.and_eq_true, List.contains_iff_mem]
    exact ⟨b1, b2, b3, b4⟩
  · cases h
def SubR (T : Tab) (K : PySem.W.Frag) (g g' : Fn) : Prop := ∀ ds k, g' ds k = true → ∃ k', g ds k' = true ∧ (∀ d, k' (.ok d) = true → ∃ d', k (.ok d') = true ∧ ∀ H v, Rep T K H d v → Rep T K H d' v) ∧ ∀ c, k' (.exc c) = true → k (.exc c) = true
theorem sub_trs {T : Tab} {K : PySem.W.Frag} {g : Fn} (hg : g [.scr, .nn] (k4 aTr) = true) : SubR T K g c_trs := fun ds k h => by
  unfold c_trs at h
  split at h
  · refine ⟨_, hg, fun d hd => ?_, fun c hc => (k4_exc hc).elim⟩
    obtain ⟨x, rfl, hx⟩ := k4_inv hd
    exact ⟨_, all4_at (f := fun x => k (.ok (.str x))) h hx, fun H v r => r⟩
  · cases h
theorem sub_sgc {T : Tab} {K : PySem.W.Frag} {g : Fn} (hg : g [.scr, .nn] (k4 aSg) = true) : SubR T K g c_sgc := fun ds k h => by
  unfold c_sgc at h
  split at h
  · refine ⟨_, hg, fun d hd => ?_, fun c hc => (k4_exc hc).elim⟩
    obtain ⟨x, rfl, hx⟩ := k4_inv hd
    exact ⟨_, all4_at (f := fun x => k (.ok (.str x))) h hx, fun H v r => r⟩
  · cases h
theorem sub_sgs {T : Tab} {K : PySem.W.Frag} {g : Fn} (hg : g [.scr, .nn] (k4 aSg) = true) : SubR T K g c_sgs := fun ds k h => by
  unfold c_sgs at h
  split at h
  · refine ⟨_, hg, fun d hd => ?_, fun c hc => (k4_exc hc).elim⟩
    obtain ⟨x, rfl, hx⟩ := k4_inv hd
    obtain ⟨r, p, hr⟩ := sg_word hx
    exact ⟨_, all4_at (f := fun r => k (.ok (.sg r))) h hr, fun H v q => by
      unfold Rep at q ⊢
      exact ⟨x, q, p⟩⟩
  · cases h
end DL

set_option Elab.async false
set_option linter.all false
set_option maxRecDepth 100000
/-! ## min of items that are objects: the comparison is told of the state it stands in -/
namespace DL
open PySem
section
variable {prog : Program} {w : World} {A : Around} {Res : Result → Shared → Prop} {I S : Addr} {fp wr : List Addr} {P : Nat → Value → Prop} {St : Nat → Heap → Prop} {hb0 : Heap} {α : Type} {ds : List α} {Is : Value → α → Prop} {lt : α → α → Bool} {ok : α → α → Bool}
def TellsLt (prog : Program) (w : World) (A : Around) (hb0 : Heap) (Is : Value → α → Prop) (lt ok : α → α → Bool) : Prop := ∀ (x y : α) (u v : Value) (s : Shared) (Q E : Value → Shared → Prop), (∀ b o, hb0.get? b = some o → s.heap.get? b = some o) → Is u x → Is v y → ok x y = true → Q (.bool (lt x y)) s →
  wpAny (model prog w) A (richCompare .Lt u v) Q E s
theorem least_turns (W : PySem.Walks prog w A.in1 I fp wr ds.length P St) (ct : TellsLt prog w A.in1 hb0 Is lt ok) (hS : S ∉ fp) (hw : ∀ b o, hb0.get? b = some o → b ∉ wr ∧ b ≠ S) (hP : ∀ i v, P i v → ∃ d, ds[i]? = some d ∧ Is v d) :
    ∀ (r : List α) (j : Nat) (s : Shared) (m z : α) (u : Value) (c : Nat), ds.drop (j + 1) = r → j + 1 ≤ ds.length → leastF lt ok m r = some z → St (j + 1) s.heap → Is u m → (∀ b o, hb0.get? b = some o → s.heap.get? b = some o) → s.heap.get? S = some { cls := .type "list", dict := none, data := .seq #[u, u] c, slots := #[] } →
    (∀ v h' tk, Is v z → (∀ b o, b ∉ wr → b ≠ S → s.heap.get? b = some o → h'.get? b = some o) → Res (.ok (.ret v)) { s with heap := h', toks := tk }) → codeAny (model prog w) A (.builtin "min.loop" ⟨[.ref I, .none, .ref S], []⟩) Res s := by
  have hSw : S ∉ wr := fun h => hS (W.sub _ h)
  have nm : (toString "min" ++ toString ".loop" : String) = "min.loop" := by decide
  intro r
  induction r with
  | nil =>
    intro j s m z u c hr hj hz st im k0 oS hR
    have hn : j + 1 = ds.length := by
      have := congrArg List.length hr
      rw [List.length_drop] at this
      simp at this
      omega
    cases hz
    refine codeAny_builtin F.entry_min_loop ?_
    rw [Around.under_plainId F.plain_min_loop _]; show wpAny _ A.in1 (seqItems? (.ref S) >>= _) _ _ s
    refine wpAny_bind (wpAny_seqItems oS rfl ?_); show wpAny _ A.in1 (tryCatch (pyNext (.ref I)) _ >>= _) _ _ s
    refine wpAny_bind (wpAny_tryCatch (W.done s _ _ (hn ▸ st) fun h1 tk k1 => ?_))
    have oS1 := k1 S _ hSw oS
    show wpAny _ A.in1 (updateSeq S (fun _ => #[]) >>= _) _ _ _; refine wpAny_bind (wpAny_updateSeq oS1 rfl (wpAny_bind (wpAny_letGo (wpAny_pure ?_))))
    exact hR u _ tk im fun b o hb hs e => (Heap.get?_update_other _ _ (Ne.symm hs)).trans (k1 b o hb e)
  | cons y r ih =>
    intro j s m z u c hr hj hz st im k0 oS hR
    have hlt : j + 1 < ds.length := by
      have := congrArg List.length hr
      rw [List.length_drop] at this
      simp at this
      omega
    have hy : ds[j + 1]? = some y := by
      have := congrArg List.head? hr
      rw [List.head?_drop] at this
      exact this
    have hr2 : ds.drop (j + 1 + 1) = r := by
      have := congrArg List.tail hr
      rw [List.tail_drop] at this
      exact this
    unfold leastF at hz
    split at hz
    case isFalse => cases hz
    rename_i hok
    refine codeAny_builtin F.entry_min_loop ?_
    rw [Around.under_plainId F.plain_min_loop _]; show wpAny _ A.in1 (seqItems? (.ref S) >>= _) _ _ s
    refine wpAny_bind (wpAny_seqItems oS rfl ?_); show wpAny _ A.in1 (tryCatch (pyNext (.ref I)) _ >>= _) _ _ s
    refine wpAny_bind (wpAny_tryCatch (W.item (j + 1) s _ _ hlt st fun v h1 tk pv st1 k1 => ?_))
    have oS1 := k1 S _ hSw oS
    have k01 : ∀ b o, hb0.get? b = some o → h1.get? b = some o := fun b o e => k1 b o (hw b o e).1 (k0 b o e)
    have iy : Is v y := by
      obtain ⟨d, e, q⟩ := hP _ _ pv
      rw [hy] at e
      cases e
      exact q
    show wpAny _ A.in1 (tryCatch (holding [v, v] (richCompare .Lt v u >>= _)) _ >>= _) _ _ _
    refine wpAny_bind (wpAny_tryCatch (wpAny_holding (wpAny_bind (ct y m v u _ _ _ k01 iy im hok ?_))))
    refine wpAny_bind (wpAny_holding (wpAny_truthy_bool ?_)); refine wpAny_bind (wpAny_letGo (wpAny_pure ?_))
    cases hb : lt y m with
    | true =>
      rw [hb] at hz
      simp only [if_true] at hz ⊢
      refine wpAny_bind (wpAny_updateSeq oS1 rfl (wpAny_bind (wpAny_letGo ?_))); rw [nm]
      have fr : ∀ b o, b ≠ S → h1.get? b = some o → (h1.update S fun x => x.mapSeq fun _ => #[v, v]).get? b = some o := fun b o hs e => (Heap.get?_update_other _ _ (Ne.symm hs)).trans e
      exact wpAny_pure ⟨plainId_quiet F.plain_min_loop _, ih (j + 1) _ y z v _ hr2 hlt hz (W.frame _ _ _ st1 fun b hf o e => (Heap.get?_update_other _ _ (fun h : S = b => hS (h ▸ hf))).trans e) iy (fun b o e => (Heap.get?_update_other _ _ (Ne.symm (hw b o e).2)).trans (k01 b o e)) (Heap.get?_update_self _ oS1 rfl)
        fun v' h2 t2 i2 k2 => hR v' h2 t2 i2 fun b o hb' hs e => k2 b o hb' hs ((Heap.get?_update_other _ _ (Ne.symm hs)).trans (k1 b o hb' e))⟩
    | false =>
      rw [hb] at hz
      simp only [Bool.false_eq_true, if_false] at hz ⊢
      refine wpAny_bind (wpAny_letGo ?_); rw [nm]
      exact wpAny_pure ⟨plainId_quiet F.plain_min_loop _, ih (j + 1) _ m z u c hr2 hlt hz st1 im k01 oS1 fun v' h2 t2 i2 k2 => hR v' h2 t2 i2 fun b o hb' hs e => k2 b o hb' hs (k1 b o hb' e)⟩
end
section
variable {prog : Program} {w : World} {A : Around} {E : Value → Shared → Prop} {s : Shared} {α : Type} {Is : Value → α → Prop} {lt ok : α → α → Bool}
/-- min(xs) of a list -/
theorem least_call {l : Addr} {its : Array Value} {x z : α} {r : List α} {Q : Value → Shared → Prop} (hh : A.handled = none) (hl : s.heap.IsList l its) (hlen : its.size = (x :: r).length) (hv : ∀ (i : Nat) v, its[i]? = some v → ∃ d, (x :: r)[i]? = some d ∧ Is v d)
    (ct : TellsLt prog w A.in1 s.heap Is lt ok) (hz : leastF lt ok x r = some z) (h : ∀ v h' tk, Is v z → (∀ b o, s.heap.get? b = some o → h'.get? b = some o) → Q v { s with heap := h', toks := tk }) : wpAny (model prog w) A (call (.builtin "min") [.ref l]) Q E s := by
  have nm : (toString "min" ++ toString ".loop" : String) = "min.loop" := by decide
  refine call_function_tree F.kind_min F.plain_min F.entry_min (F.args_min1 _) ?_; show wpAny _ A.in1 (Builtin.Builtins.bindParams "min" ["key", "default"] 0 ⟨[], []⟩ >>= _) _ _ s
  refine wpAny_bind (wpAny_of_eq (show Builtin.Builtins.bindParams "min" ["key", "default"] 0 ⟨[], []⟩ = pure [none, none] from rfl) (wpAny_bind (wpAny_pure ?_)))
  refine wpAny_bind (L2.iter_anyList hl fun s2 e st hfp hI => ?_)
  subst e
  refine wpAny_bind (wpAny_newObj_type ?_); rw [nm]
  have lt0 : ∀ b o, s.heap.get? b = some o → b < s.heap.objs.size := fun b o e => Heap.lt_size e
  have W := PySem.Walks.list (prog := prog) (w := w) (A := A.in1) hh s.heap.objs.size l hI its
  rw [hlen] at W
  have hS : (s.heap.push { cls := .type "list_iterator", data := .fields #[.ref l, .int 0 0] }).objs.size ∉ [s.heap.objs.size, l] := fun hm => Nat.lt_irrefl _ (hfp _ hm)
  have sz : (s.heap.push { cls := .type "list_iterator", data := .fields #[.ref l, .int 0 0] }).objs.size = s.heap.objs.size + 1 := Heap.size_push _ _
  generalize hS2 : (s.heap.push { cls := .type "list_iterator", data := .fields #[.ref l, .int 0 0] }).objs.size = S at hS sz ⊢
  have hSw : S ∉ [s.heap.objs.size] := fun h => hS (W.sub _ h)
  refine wpAny_pure ⟨plainId_quiet F.plain_min_loop _, ?_⟩
  refine codeAny_builtin F.entry_min_loop ?_
  rw [Around.under_plainId F.plain_min_loop _]; show wpAny _ A.in1 (seqItems? (.ref S) >>= _) _ _ _
  have oS := Heap.get?_push_size (s.heap.push { cls := .type "list_iterator", data := .fields #[.ref l, .int 0 0] }) (o := ({ cls := .type "list", data := .seq #[] } : Obj)) rfl
  rw [hS2] at oS
  have st0 := W.frame _ _ _ st fun b hf o e => Heap.get?_push_of_some ({ cls := .type "list", data := .seq #[] } : Obj) e
  refine wpAny_bind (wpAny_seqItems oS rfl ?_); show wpAny _ A.in1 (tryCatch (pyNext (.ref s.heap.objs.size)) _ >>= _) _ _ _
  refine wpAny_bind (wpAny_tryCatch (W.item 0 _ _ _ (Nat.succ_pos _) st0 fun v h1 tk pv st1 k1 => ?_))
  have oS1 := k1 S _ hSw oS
  show wpAny _ A.in1 (updateSeq S (fun _ => #[v, v]) >>= _) _ _ _; refine wpAny_bind (wpAny_updateSeq oS1 rfl ?_); rw [nm]
  obtain ⟨d, e, iv⟩ := hv _ _ pv
  cases e
  have k0 : ∀ b o, s.heap.get? b = some o → h1.get? b = some o := fun b o e => k1 b o (fun hm => by
    rw [List.mem_singleton] at hm
    exact Nat.lt_irrefl _ (hm ▸ lt0 b o e)) (Heap.get?_push_of_some _ (Heap.get?_push_of_some _ e))
  have neS : ∀ b o, s.heap.get? b = some o → b ≠ S := fun b o e h => by
    have q := lt0 b o e
    rw [h, sz] at q
    exact Nat.lt_irrefl _ (Nat.lt_of_succ_lt q)
  exact wpAny_pure ⟨plainId_quiet F.plain_min_loop _, least_turns (ds := x :: r) (hb0 := s.heap) W ct hS (fun b o e => ⟨fun hm => by
    rw [List.mem_singleton] at hm
    exact Nat.lt_irrefl _ (hm ▸ lt0 b o e), neS b o e⟩) hv r 0 _ x z v _ rfl (Nat.succ_le_succ (Nat.zero_le _)) hz (W.frame _ _ _ st1 fun b hf o e => (Heap.get?_update_other _ _ (fun h : S = b => hS (h ▸ hf))).trans e) iv (fun b o e => (Heap.get?_update_other _ _ (Ne.symm (neS b o e))).trans (k0 b o e)) (Heap.get?_update_self _ oS1 rfl)
    fun v' h2 t2 i2 k2 => h v' h2 t2 i2 fun b o e => k2 b o (fun hm => by
      rw [List.mem_singleton] at hm
      exact Nat.lt_irrefl _ (hm ▸ lt0 b o e)) (neS b o e) ((Heap.get?_update_other _ _ (Ne.symm (neS b o e))).trans (k0 b o e))⟩
end
open PySem PySem.Spec PyProof.Rows L2
/-! ### the order of plain data -/
mutual
theorem sim_alike : ∀ (a b : D), simD a b = true → PySem.W.alike (toP a) (toP b) = true
  | .bl _, b, h => by cases b <;> first | (cases h; done) | simp [toP, PySem.W.alike]
  | .int _, b, h => by cases b <;> first | (cases h; done) | simp [toP, PySem.W.alike]
  | .str _, b, h => by cases b <;> first | (cases h; done) | simp [toP, PySem.W.alike]
  | .lst x, b, h => by
    cases b <;> first | (cases h; done) | skip
    simp only [toP, PySem.W.alike]
    exact sims_alike _ _ (by simpa [simD] using h)
  | .tup x, b, h => by
    cases b <;> first | (cases h; done) | skip
    simp only [toP, PySem.W.alike]
    exact sims_alike _ _ (by simpa [simD] using h)
  | .non, b, h => by cases b <;> cases h
  | .sg _, b, h => by cases b <;> cases h
  | .nn, b, h => by cases b <;> cases h
  | .scr, b, h => by cases b <;> cases h
  | .fn _, b, h => by cases b <;> cases h
  | .exc _, b, h => by cases b <;> cases h
theorem sims_alike : ∀ (a b : List D), simDs a b = true → PySem.W.alikeAll (toPs a) (toPs b) = true
  | [], b, h => by simp [toPs, PySem.W.alikeAll]
  | x :: xs, [], h => by simp [toPs, PySem.W.alikeAll]
  | x :: xs, y :: ys, h => by
    simp only [simDs, Bool.and_eq_true] at h
    simp only [toPs, PySem.W.alikeAll]
    rw [sim_alike x y h.1, sims_alike xs ys h.2]
    rfl
end
theorem toks_end (x : PyData) (xs : List PyData) : PyProof.Rows.lexLt itemOrd (PySem.W.keyToksAll []) (PySem.W.keyToksAll (x :: xs)) = true ∧ PyProof.Rows.lexLt itemOrd (PySem.W.keyToksAll (x :: xs)) (PySem.W.keyToksAll []) = false := by
  constructor <;> · simp only [PySem.W.keyToksAll]; rfl
mutual
theorem lt_data : ∀ (n m : Nat) (a b : D), okD n a = true → okD m b = true → simD a b = true → PySem.W.dataLt (toP a) (toP b) = lsD a b
  | n, m, .bl x, b, h1, h2, h => by
    cases b <;> first | (cases h; done) | skip
    simp only [toP, PySem.W.dataLt_bool, lsD]
    rename_i y
    cases x <;> cases y <;> rfl
  | n, m, .int x, b, h1, h2, h => by
    cases b <;> first | (cases h; done) | skip
    simp only [toP, PySem.W.dataLt_int, lsD]
  | n, m, .str x, b, h1, h2, h => by
    cases b <;> first | (cases h; done) | skip
    simp only [toP, PySem.W.dataLt_str, lsD]
    rw [mkS_cps, mkS_cps, ← ltL_eq]
  | n, m, .lst x, b, h1, h2, h => by
    cases b <;> first | (cases h; done) | skip
    simp only [toP, PySem.W.dataLt_list, lsD]
    cases n with
    | zero => simp [okD] at h1
    | succ n =>
      cases m with
      | zero => simp [okD] at h2
      | succ m => exact lts_data n m _ _ (by simpa [okD] using h1) (by simpa [okD] using h2) (by simpa [simD] using h)
  | n, m, .tup x, b, h1, h2, h => by
    cases b <;> first | (cases h; done) | skip
    simp only [toP, PySem.W.dataLt_tuple, lsD]
    cases n with
    | zero => simp [okD] at h1
    | succ n =>
      cases m with
      | zero => simp [okD] at h2
      | succ m => exact lts_data n m _ _ (by simpa [okD] using h1) (by simpa [okD] using h2) (by simpa [simD] using h)
  | n, m, .non, b, h1, h2, h => by cases b <;> cases h
  | n, m, .sg _, b, h1, h2, h => by cases b <;> cases h
  | n, m, .nn, b, h1, h2, h => by cases b <;> cases h
  | n, m, .scr, b, h1, h2, h => by cases b <;> cases h
  | n, m, .fn _, b, h1, h2, h => by cases b <;> cases h
  | n, m, .exc _, b, h1, h2, h => by cases b <;> cases h
theorem lts_data : ∀ (n m : Nat) (a b : List D), okDs n a = true → okDs m b = true → simDs a b = true → PyProof.Rows.lexLt itemOrd (PySem.W.keyToksAll (toPs a)) (PySem.W.keyToksAll (toPs b)) = lsDs a b
  | n, m, [], [], h1, h2, h => by simp only [toPs, lsDs]; exact lex_irrefl _
  | n, m, [], y :: ys, h1, h2, h => by simp only [toPs, lsDs]; exact (toks_end _ _).1
  | n, m, x :: xs, [], h1, h2, h => by simp only [toPs, lsDs]; exact (toks_end _ _).2
  | n, m, x :: xs, y :: ys, h1, h2, h => by
    simp only [simDs, okDs, Bool.and_eq_true] at h1 h2 h
    simp only [toPs, lsDs]
    rw [PySem.W.dataLt_cons (sim_alike x y h.1), eqv_beq n m x y h1.1 h2.1, lts_data n m xs ys h1.2 h2.2 h.2, lt_data n m x y h1.1 h2.1 h.1]
end
theorem sim_ne_none {x y : D} (h : simD x y = true) : toP x ≠ .none := by
  cases x <;> first | (cases y <;> cases h; done) | (simp [toP])
section
variable {J : Jx}
def rMinX (J : Jx) : List V → Hp → VK → Prop := fun xs H Q => ∃ p vs ds z Hf, xs = [.ref p] ∧ SqL J.X.K H p vs ∧ Reps J.T J.X.K Hf ds vs ∧ Same Hf H ∧ minD [.lst ds] = some z ∧ ∀ v, Rep J.T J.X.K Hf z v → Q v H
theorem tells_data {pins : List (Addr × Obj)} {s : Shared} {σ : L2.St} {H Hf : Hp} (hu : J.X.A.units + 64 < cLine) (I : Inv J.X pins σ H s) (sm : Same Hf H) :
    TellsLt J.X.prog J.X.w J.X.A.in1 s.heap (fun u d => ∃ v, RelV v u ∧ Rep J.T J.X.K Hf d v) lsD simOk := fun x y u v s2 Q E k ⟨vx, rx, px⟩ ⟨vy, ry, py⟩ hok q => by
  unfold simOk at hok
  rw [Bool.and_eq_true, Bool.and_eq_true] at hok
  obtain ⟨hs, h1, h2⟩ := hok
  obtain ⟨as, ra⟩ := Dp.reads I _ _ _ (Rep.dp 9 x vx h1 (px.mono sm)) rx
  obtain ⟨bs, rb⟩ := Dp.reads I _ _ _ (Rep.dp 9 y vy h2 (py.mono sm)) ry
  have d1 := (ok_lay 9 x h1).2
  refine PySem.W.rcLt_alike (toP x) (toP y) J.X.A.in1 s2 u v as bs (PyProof.Rows.Reads.keeps k ra) (PyProof.Rows.Reads.keeps k rb) (sim_alike x y hs) (sim_ne_none hs) ?_ J.X.prog J.X.w E Q ?_
  · have : min (toP x).depth (toP y).depth ≤ 9 := Nat.le_trans (Nat.min_le_left _ _) d1
    simp only [Around.in1_units]
    omega
  · rw [lt_data 9 9 x y h1 h2 hs]
    exact q
theorem vals_at {vs : List V} {us : List Value} {i : Nat} {u : Value} : Vals vs us → us[i]? = some u → ∃ v, vs[i]? = some v ∧ RelV v u := by
  intro h
  induction h generalizing i with
  | nil => intro e; simp at e
  | cons r t ih =>
    intro e
    cases i with
    | zero => simp at e; exact ⟨_, rfl, e ▸ r⟩
    | succ i => exact ih (by simpa using e)
theorem cr_minX (hc : J.X.calm = true) (hu : J.X.A.units + 64 < cLine) : CallR J.X (.builtin "min") (rMinX J) := by
  intro pins s σ H xs us Q I r h
  obtain ⟨p, vs, ds, z, Hf, rfl, hs, rr, sm, hz, q⟩ := h
  obtain ⟨its, rv, hl, _⟩ := I.list hs
  rw [Vals.ref1 r]
  cases ds with
  | nil => cases hz
  | cons x ds =>
    refine least_call (Is := fun u d => ∃ v, RelV v u ∧ Rep J.T J.X.K Hf d v) (I.ok.hd hc) hl.isList (x := x) (r := ds) (z := z) ?_ ?_ (tells_data hu I sm) hz fun v h' tk iv k => ?_
    · rw [List.size_toArray, ← rv.length, rr.length]
    · intro i v e
      rw [List.getElem?_toArray] at e
      obtain ⟨w, e1, r1⟩ := vals_at rv e
      obtain ⟨d, e2, r2⟩ := rr.get e1
      exact ⟨d, e2, w, r1, r2⟩
    · obtain ⟨w, r1, r2⟩ := iv
      exact ⟨w, H, I.kept k, r1, q w r2⟩
theorem snd_minX : SndC J (rMinX J) minD := fun ds z vs Hf H Q h sm r q => by
  unfold minD at h
  split at h
  · rename_i x r0
    obtain ⟨v, rfl, r1⟩ := reps1 r
    unfold Rep at r1
    obtain ⟨p, ws, rfl, e1, rr⟩ := r1
    exact ⟨p, ws, x :: r0, z, Hf, rfl, SqL.of (sm _ _ e1), rr, sm, h, fun v rv => q Hf v H (Frame.refl sm) rv⟩
  · cases h
end
end DL

set_option maxHeartbeats 0
set_option linter.all false
set_option maxRecDepth 100000
namespace DL
def g_is_traffic : Fn := mkFn1 fun a_candidate => (sIf (hOr (hNot (hB (hC a_candidate) fun d => hO ((isiD 2 d).map .bl))) (hB (hA (aC (hC a_candidate) aN) fun ds => hO (lenD ds)) fun x => hB (hC (.int 4)) fun y => hO (neD x y))) (sEm (sRet (hC (.bl false)))) (sRet (hA (aC (hLc (hSL (hC a_candidate)) (fun v_turn1 => hC (.bl true)) (fun v_turn1 => hB (hC v_turn1) fun x => hB (hB (hC (.str [46])) fun x => hB (hC (.str [76, 83, 82])) fun y => hO (addD x y)) fun y => hO (inD x y))) aN) fun ds => hO (allD ds))))
abbrev c_is_traffic : Fn := g_is_traffic
def g_check_traffic : Fn := mkFn1 fun a_value => (sIf (hNot (hA (aC (hC a_value) aN) fun ds k => Nat.beq ds.length 1 && c_is_traffic ds k)) (sEm (sRaise 2)) (sNx ()))
abbrev c_check_traffic : Fn := g_check_traffic
def g_check_arm : Fn := mkFn1 fun a_value => (sIf (hOr (hNot (hB (hC a_value) fun d => hO ((isiD 1 d).map .bl))) (hOr (hB (hC a_value) fun d => hO ((isiD 0 d).map .bl)) (hNot (hCh leD ltD (hC (.int 0)) (hC a_value) (hC (.int 4)))))) (sEm (sRaise 3)) (sNx ()))
abbrev c_check_arm : Fn := g_check_arm
def g_check_turn : Fn := mkFn1 fun a_value => (sIf (hOr (hNot (hB (hC a_value) fun d => hO ((isiD 2 d).map .bl))) (hOr (hB (hA (aC (hC a_value) aN) fun ds => hO (lenD ds)) fun x => hB (hC (.int 1)) fun y => hO (neD x y)) (hB (hC a_value) fun x => hB (hC (.str [76, 83, 82])) fun y => hO (notInD x y)))) (sEm (sRaise 4)) (sNx ()))
abbrev c_check_turn : Fn := g_check_turn
def g_find_quarters : Fn := mkFn2 fun a_arm a_turn => (sRet (hA (aC (hLc (hA (aC (hB (hA (aC (hC (.str [76, 83, 82])) aN) fun ds => hO (lenD ds)) fun x => hB (hM 2 indexD (hC (.str [76, 83, 82])) (aC (hC a_turn) aN)) fun y => hO (subD x y)) aN) fun ds => hO (rng1D ds)) (fun v_step1 => hC (.bl true)) (fun v_step1 => hB (hB (hC a_arm) fun x => hB (hC v_step1) fun y => hO (subD x y)) fun x => hB (hC (.int 4)) fun y => hO (modD x y))) aN) fun ds => hO (sortedD ds)))
abbrev c_find_quarters : Fn := g_find_quarters
def g_find_vehicles : Fn := mkFn1 fun a_traffic => (sRet (hLc (hA (aC (hC (.int 4)) aN) fun ds => hO (rng1D ds)) (fun v_arm1 => hB (hB (hC a_traffic) fun x => hB (hC v_arm1) fun y => hO (ixD x y)) fun x => hB (hC (.str [46])) fun y => hO (neD x y)) (fun v_arm1 => hC v_arm1)))
abbrev c_find_vehicles : Fn := g_find_vehicles
def g_do_meet : Fn := mkFn3 fun a_traffic a_one a_other => (sIf (hAnd (hB (hB (hB (hC a_one) fun x => hB (hC a_other) fun y => hO (subD x y)) fun x => hB (hC (.int 2)) fun y => hO (modD x y)) fun x => hB (hC (.int 0)) fun y => hO (eqD x y)) (hAnd (hB (hB (hC a_traffic) fun x => hB (hC a_one) fun y => hO (ixD x y)) fun x => hB (hC (.str [76])) fun y => hO (eqD x y)) (hB (hB (hC a_traffic) fun x => hB (hC a_other) fun y => hO (ixD x y)) fun x => hB (hC (.str [76])) fun y => hO (eqD x y)))) (sEm (sRet (hC (.bl false)))) (sLet (hA (aC (hC a_other) (aC (hB (hC a_traffic) fun x => hB (hC a_other) fun y => hO (ixD x y)) aN)) fun ds k => Nat.beq ds.length 2 && c_find_quarters ds k) fun v_used1 => sRet (hA (aC (hLc (hA (aC (hC a_one) (aC (hB (hC a_traffic) fun x => hB (hC a_one) fun y => hO (ixD x y)) aN)) fun ds k => Nat.beq ds.length 2 && c_find_quarters ds k) (fun v_quarter2 => hC (.bl true)) (fun v_quarter2 => hB (hC v_quarter2) fun x => hB (hC v_used1) fun y => hO (inD x y))) aN) fun ds => hO (anyD ds))))
theorem h_do_meet : all4 aTr (meetC g_do_meet) = true := by decide +kernel
abbrev c_do_meet : Fn := c_meet
def g_check_vehicle : Fn := mkFn2 fun a_traffic a_arm => (sIf (hB (hB (hC a_traffic) fun x => hB (hC a_arm) fun y => hO (ixD x y)) fun x => hB (hC (.str [46])) fun y => hO (eqD x y)) (sEm (sRaise 5)) (sNx ()))
abbrev c_check_vehicle : Fn := g_check_vehicle
def g_in_the_way : Fn := mkFn3 fun a_traffic a_one a_other => (sDo (hA (aC (hC a_traffic) aN) fun ds k => Nat.beq ds.length 1 && c_check_traffic ds k) (sDo (hA (aC (hC a_one) aN) fun ds k => Nat.beq ds.length 1 && c_check_arm ds k) (sDo (hA (aC (hC a_other) aN) fun ds k => Nat.beq ds.length 1 && c_check_arm ds k) (sDo (hA (aC (hC a_traffic) (aC (hC a_one) aN)) fun ds k => Nat.beq ds.length 2 && c_check_vehicle ds k) (sDo (hA (aC (hC a_traffic) (aC (hC a_other) aN)) fun ds k => Nat.beq ds.length 2 && c_check_vehicle ds k) (sIf (hB (hC a_one) fun x => hB (hC a_other) fun y => hO (eqD x y)) (sEm (sRaise 6)) (sRet (hA (aC (hC a_traffic) (aC (hC a_one) (aC (hC a_other) aN))) fun ds k => Nat.beq ds.length 3 && c_do_meet ds k))))))))
abbrev c_in_the_way : Fn := g_in_the_way
def g_conflicts : Fn := mkFn1 fun a_traffic => (sDo (hA (aC (hC a_traffic) aN) fun ds k => Nat.beq ds.length 1 && c_check_traffic ds k) (sLet (hA (aC (hC a_traffic) aN) fun ds k => Nat.beq ds.length 1 && c_find_vehicles ds k) fun v_known1 => sNew aN fun v_found2 => sSeq (S' := List D) (sFor (hC v_known1) (fun v_one4 v_s3 => sExt v_s3 (hLc (hC v_known1) (fun v_other5 => hAnd (hB (hC v_other5) fun x => hB (hC v_one4) fun y => hO (gtD x y)) (hA (aC (hC a_traffic) (aC (hC v_one4) (aC (hC v_other5) aN))) fun ds k => Nat.beq ds.length 3 && c_do_meet ds k)) (fun v_other5 => hA (aC (hC v_one4) (aC (hC v_other5) aN)) (oL .tup))) fun v_found6 => sNx v_found6) v_found2) fun v_s3 => sRet (hC (.lst v_s3))))
abbrev c_conflicts : Fn := g_conflicts
def g_can_join : Fn := mkFn3 fun a_traffic a_arm a_turn => (sDo (hA (aC (hC a_traffic) aN) fun ds k => Nat.beq ds.length 1 && c_check_traffic ds k) (sDo (hA (aC (hC a_arm) aN) fun ds k => Nat.beq ds.length 1 && c_check_arm ds k) (sDo (hA (aC (hC a_turn) aN) fun ds k => Nat.beq ds.length 1 && c_check_turn ds k) (sIf (hB (hB (hC a_traffic) fun x => hB (hC a_arm) fun y => hO (ixD x y)) fun x => hB (hC (.str [46])) fun y => hO (neD x y)) (sEm (sRaise 7)) (sLet (hB (hB (hSl (hC a_traffic) oNone (oSome (hC a_arm))) fun x => hB (hC a_turn) fun y => hO (addD x y)) fun x => hB (hSl (hC a_traffic) (oSome (hB (hC a_arm) fun x => hB (hC (.int 1)) fun y => hO (addD x y))) oNone) fun y => hO (addD x y)) fun v_more1 => sRet (hNot (hA (aC (hLc (hA (aC (hC a_traffic) aN) fun ds k => Nat.beq ds.length 1 && c_find_vehicles ds k) (fun v_other2 => hC (.bl true)) (fun v_other2 => hA (aC (hC v_more1) (aC (hC a_arm) (aC (hC v_other2) aN))) fun ds k => Nat.beq ds.length 3 && c_do_meet ds k)) aN) fun ds => hO (anyD ds))))))))
abbrev c_can_join : Fn := g_can_join
def g_largest_free : Fn := mkFn1 fun a_traffic => (sDo (hA (aC (hC a_traffic) aN) fun ds k => Nat.beq ds.length 1 && c_check_traffic ds k) (sLet (hA (aC (hA aN (oL .tup)) aN) (oL .lst)) fun v_found1 => sSeq (S' := D) (sFor (hA (aC (hC a_traffic) aN) fun ds k => Nat.beq ds.length 1 && c_find_vehicles ds k) (fun v_arm3 v_s2 => sLet (hLc (hC v_s2) (fun v_some5 => hNot (hA (aC (hLc (hTL (hC v_some5)) (fun v_one6 => hC (.bl true)) (fun v_one6 => hA (aC (hC a_traffic) (aC (hC v_one6) (aC (hC v_arm3) aN))) fun ds k => Nat.beq ds.length 3 && c_do_meet ds k)) aN) fun ds => hO (anyD ds))) (fun v_some5 => hC v_some5)) fun v_good4 => sLet (hB (hC v_s2) fun x => hB (hLc (hC v_good4) (fun v_some8 => hC (.bl true)) (fun v_some8 => hB (hC v_some8) fun x => hB (hA (aC (hC v_arm3) aN) (oL .tup)) fun y => hO (addD x y))) fun y => hO (addD x y)) fun v_found7 => sNx v_found7) v_found1) fun v_s2 => sRet (hB (hA (aC (hLc (hC v_s2) (fun v_some9 => hC (.bl true)) (fun v_some9 => hA (aC (hB (hC (.int 0)) fun x => hB (hA (aC (hC v_some9) aN) fun ds => hO (lenD ds)) fun y => hO (subD x y)) (aC (hC v_some9) aN)) (oL .tup))) aN) fun ds => hO (minD ds)) fun x => hB (hC (.int 1)) fun y => hO (ixD x y))))
abbrev c_largest_free : Fn := g_largest_free
abbrev c__law_pick : Fn := c_draw
def g__law_cars : Fn := mkFn2 fun a_script a_at => (sRet (hM 2 joinD (hC (.str [])) (aC (hLc (hA (aC (hC (.int 4)) aN) fun ds => hO (rng1D ds)) (fun v_k1 => hC (.bl true)) (fun v_k1 => hB (hC (.str [46, 76, 83, 82, 76, 83])) fun x => hB (hA (aC (hC a_script) (aC (hB (hC a_at) fun x => hB (hC v_k1) fun y => hO (addD x y)) (aC (hC (.int 6)) aN))) fun ds k => Nat.beq ds.length 3 && c__law_pick ds k) fun y => hO (ixD x y))) aN)))
theorem h_cars : g__law_cars [.scr, .nn] (k4 aTr) = true := by decide +kernel
abbrev c__law_cars : Fn := c_trs
def g__law_path : Fn := mkFn2 fun a_arm a_turn => (sRet (hLc (hA (aC (hB (hM 2 indexD (hC (.str [82, 83, 76])) (aC (hC a_turn) aN)) fun x => hB (hC (.int 1)) fun y => hO (addD x y)) aN) fun ds => hO (rng1D ds)) (fun v_k1 => hC (.bl true)) (fun v_k1 => hB (hB (hB (hC a_arm) fun x => hB (hC (.int 4)) fun y => hO (addD x y)) fun x => hB (hC v_k1) fun y => hO (subD x y)) fun x => hB (hC (.int 4)) fun y => hO (modD x y))))
abbrev c__law_path : Fn := g__law_path
def g__law_meet : Fn := mkFn3 fun a_cars_here a_one a_other => (sIf (hAnd (hB (hC a_one) fun x => hB (hA (aC (hB (hC a_other) fun x => hB (hC (.int 2)) fun y => hO (subD x y)) (aC (hB (hC a_other) fun x => hB (hC (.int 2)) fun y => hO (addD x y)) aN)) (oL .tup)) fun y => hO (inD x y)) (hB (hB (hB (hC a_cars_here) fun x => hB (hC a_one) fun y => hO (ixD x y)) fun x => hB (hB (hC a_cars_here) fun x => hB (hC a_other) fun y => hO (ixD x y)) fun y => hO (addD x y)) fun x => hB (hC (.str [76, 76])) fun y => hO (eqD x y))) (sEm (sRet (hC (.bl false)))) (sLet (hA (aC (hC a_other) (aC (hB (hC a_cars_here) fun x => hB (hC a_other) fun y => hO (ixD x y)) aN)) fun ds k => Nat.beq ds.length 2 && c__law_path ds k) fun v_here1 => sRet (hB (hLc (hA (aC (hC a_one) (aC (hB (hC a_cars_here) fun x => hB (hC a_one) fun y => hO (ixD x y)) aN)) fun ds k => Nat.beq ds.length 2 && c__law_path ds k) (fun v_quarter2 => hB (hC v_quarter2) fun x => hB (hC v_here1) fun y => hO (inD x y)) (fun v_quarter2 => hC v_quarter2)) fun x => hB (hA aN (oL .lst)) fun y => hO (neD x y))))
theorem h_law_meet : all4 aTr (meetC g__law_meet) = true := by decide +kernel
abbrev c__law_meet : Fn := c_meet
def g_law_cut97 : D → HS Unit Unit := fun a_script => sLet (hA (aC (hC a_script) (aC (hB (hC (.int 10)) fun x => hB (hC .nn) fun y => hO (mulX x y)) aN)) fun ds k => Nat.beq ds.length 2 && c__law_cars ds k) fun v_cars_here3 => sLet (hLc (hA (aC (hC (.int 4)) aN) fun ds => hO (rng1D ds)) (fun v_arm5 => hB (hB (hC v_cars_here3) fun x => hB (hC v_arm5) fun y => hO (ixD x y)) fun x => hB (hC (.str [46])) fun y => hO (neD x y)) (fun v_arm5 => hC v_arm5)) fun v_here4 => sNew aN fun v_pairs6 => sLet (hA (aC (hA aN (oL .tup)) aN) (oL .lst)) fun v_sets7 => sSeq (S' := List D × D) (sFor (hC v_here4) (fun v_a9 v_s8 => sSeq (S' := List D) (sFor (hC v_here4) (fun v_b11 v_s10 => sIf (hB (hC v_a9) fun x => hB (hC v_b11) fun y => hO (neD x y)) (sLet (hA (aC (hC v_cars_here3) (aC (hC v_a9) (aC (hC v_b11) aN))) fun ds k => Nat.beq ds.length 3 && c__law_meet ds k) fun v_told12 => sIf (hOr (hB (hA (aC (hC v_cars_here3) (aC (hC v_a9) (aC (hC v_b11) aN))) fun ds k => Nat.beq ds.length 3 && c_in_the_way ds k) fun x => hB (hC v_told12) fun y => hO (neD x y)) (hB (hC v_told12) fun x => hB (hA (aC (hC v_cars_here3) (aC (hC v_b11) (aC (hC v_a9) aN))) fun ds k => Nat.beq ds.length 3 && c__law_meet ds k) fun y => hO (neD x y))) (sEm (sRet (hC (.bl false)))) (sIf (hAnd (hC v_told12) (hB (hC v_a9) fun x => hB (hC v_b11) fun y => hO (ltD x y))) (sApp v_s10 (hA (aC (hC v_a9) (aC (hC v_b11) aN)) (oL .tup)) fun v_pairs13 => sNx v_pairs13) (sNx v_s10))) (sNx v_s10)) v_s8.1) fun v_s10 => sLet (hB (hC v_s8.2) fun x => hB (hLc (hC v_s8.2) (fun v_some15 => hNot (hA (aC (hLc (hTL (hC v_some15)) (fun v_one16 => hC (.bl true)) (fun v_one16 => hA (aC (hC v_cars_here3) (aC (hC v_one16) (aC (hC v_a9) aN))) fun ds k => Nat.beq ds.length 3 && c__law_meet ds k)) aN) fun ds => hO (anyD ds))) (fun v_some15 => hB (hC v_some15) fun x => hB (hA (aC (hC v_a9) aN) (oL .tup)) fun y => hO (addD x y))) fun y => hO (addD x y)) fun v_sets14 => sNx (v_s10, v_sets14)) (v_pairs6, v_sets7)) fun v_s8 => sIf (hB (hA (aC (hC v_cars_here3) aN) fun ds k => Nat.beq ds.length 1 && c_conflicts ds k) fun x => hB (hC (.lst v_s8.1)) fun y => hO (neD x y)) (sEm (sRet (hC (.bl false)))) (sIf (hB (hA (aC (hC v_cars_here3) aN) fun ds k => Nat.beq ds.length 1 && c_largest_free ds k) fun x => hB (hB (hA (aC (hLc (hC v_s8.2) (fun v_some17 => hC (.bl true)) (fun v_some17 => hA (aC (hB (hC (.int 0)) fun x => hB (hA (aC (hC v_some17) aN) fun ds => hO (lenD ds)) fun y => hO (subD x y)) (aC (hC v_some17) aN)) (oL .tup))) aN) fun ds => hO (minD ds)) fun x => hB (hC (.int 1)) fun y => hO (ixD x y)) fun y => hO (neD x y)) (sEm (sRet (hC (.bl false)))) (sSeq (S' := Unit) (sFor (hB (hC (.int 4)) fun x => hO (rng1D [x])) (fun v_arm19 v_s18 => sIf (hB (hB (hC v_cars_here3) fun x => hB (hC v_arm19) fun y => hO (ixD x y)) fun x => hB (hC (.str [46])) fun y => hO (eqD x y)) (sSeq (S' := Unit) (sFor (hTL (hA (aC (hC (.str [76])) (aC (hC (.str [83])) (aC (hC (.str [82])) aN))) (oL .tup))) (fun v_turn21 v_s20 => sLet (hB (hB (hSl (hC v_cars_here3) oNone (oSome (hC v_arm19))) fun x => hB (hC v_turn21) fun y => hO (addD x y)) fun x => hB (hSl (hC v_cars_here3) (oSome (hB (hC v_arm19) fun x => hB (hC (.int 1)) fun y => hO (addD x y))) oNone) fun y => hO (addD x y)) fun v_more22 => sIf (hB (hA (aC (hC v_cars_here3) (aC (hC v_arm19) (aC (hC v_turn21) aN))) fun ds k => Nat.beq ds.length 3 && c_can_join ds k) fun x => hB (hNot (hA (aC (hLc (hC v_here4) (fun v_other23 => hC (.bl true)) (fun v_other23 => hA (aC (hC v_more22) (aC (hC v_arm19) (aC (hC v_other23) aN))) fun ds k => Nat.beq ds.length 3 && c__law_meet ds k)) aN) fun ds => hO (anyD ds))) fun y => hO (neD x y)) (sEm (sRet (hC (.bl false)))) (sNx ())) ()) fun v_s20 => sNx ()) (sNx ())) ()) fun v_s18 => sNx ()))
theorem ok_g_law_cut97 : g_law_cut97 .scr cutK = true := by
  unfold g_law_cut97
  refine trs_let ((lall (lall ?_ (lall ?_ (lall ?_ (lall ?_ lall0)))) (lall (lall ?_ (lall ?_ (lall ?_ (lall ?_ lall0)))) (lall (lall ?_ (lall ?_ (lall ?_ (lall ?_ lall0)))) (lall (lall ?_ (lall ?_ (lall ?_ (lall ?_ lall0)))) lall0))))) <;>
  decide +kernel
def g_law : Fn := mkFn1 fun a_script => (sCutC (isScr a_script) (hA (aC (hC (.int 8)) aN) fun ds => hO (rng1D ds)) (sRet (hAnd (hB (hA (aC (hC (.str [83, 83, 83, 83])) aN) fun ds k => Nat.beq ds.length 1 && c_conflicts ds k) fun x => hB (hA (aC (hA (aC (hC (.int 0)) (aC (hC (.int 1)) aN)) (oL .tup)) (aC (hA (aC (hC (.int 0)) (aC (hC (.int 3)) aN)) (oL .tup)) (aC (hA (aC (hC (.int 1)) (aC (hC (.int 2)) aN)) (oL .tup)) (aC (hA (aC (hC (.int 2)) (aC (hC (.int 3)) aN)) (oL .tup)) aN)))) (oL .lst)) fun y => hO (eqD x y)) (hB (hA (aC (hC (.str [76, 46, 83, 46])) (aC (hC (.int 0)) (aC (hC (.int 2)) aN))) fun ds k => Nat.beq ds.length 3 && c_in_the_way ds k) fun x => hB (hC (.bl true)) fun y => hO (isD x y)))))
theorem law_true : g_law [.scr] lawK = true := by decide +kernel
end DL
set_option Elab.async false
set_option linter.all false
set_option maxRecDepth 100000
namespace DL
open PySem PySem.Spec PyProof.Rows L2
def topS (i : Nat) : Stmt := PySem.Challenge.pw_fourarms_k03_whole_conflicts.main.body.getD i (.Pass ⟨0, 0, 0, 0⟩)
structure RF (K : PySem.W.Frag) (w : World) (mg : Str → Option Value) (T : Tab) : Prop where
  b_all : mg "all" = none
  b_any : mg "any" = none
  b_bool : mg "bool" = none
  b_int : mg "int" = none
  b_isinstance : mg "isinstance" = none
  b_len : mg "len" = none
  b_list : mg "list" = none
  b_max : mg "max" = none
  b_min : mg "min" = none
  b_range : mg "range" = none
  b_sorted : mg "sorted" = none
  b_str : mg "str" = none
  m_EMPTY : ∃ t, mg "EMPTY" = some (.str (mkS [46]) t)
  m_LEFT : ∃ t, mg "LEFT" = some (.str (mkS [76]) t)
  m_MANY : ∃ t, mg "MANY" = some (.int 4 t)
  m_TURNS : ∃ t, mg "TURNS" = some (.str (mkS [76, 83, 82]) t)
  e_InvalidTraffic : ClsAt K mg T "InvalidTraffic" 2
  e_InvalidArm : ClsAt K mg T "InvalidArm" 3
  e_InvalidTurn : ClsAt K mg T "InvalidTurn" 4
  e_NoVehicle : ClsAt K mg T "NoVehicle" 5
  e_SameArm : ClsAt K mg T "SameArm" 6
  e_ArmTaken : ClsAt K mg T "ArmTaken" 7
section
variable {P : Program} {w : World} {K : PySem.W.Frag} {mg : Str → Option Value} {base : Heap} {T : Tab}
abbrev s_is_traffic : Stmt := topS 13
theorem sc_is_traffic : FnScope ["candidate", "turn"] ["candidate"] (defScope s_is_traffic) := ⟨rfl, rfl, rfl, by decide +kernel, rfl, by decide +kernel, by decide +kernel⟩
theorem w_is_traffic (R : RF K w mg T) (t : TFn K mg "is_traffic" s_is_traffic ["candidate"]) : Gf P w K mg base T "is_traffic" 1 1 g_is_traffic :=
  gf1 (ρ := fun a_candidate => [.va a_candidate, .un]) t sc_is_traffic fun f cdv A outer s H E Hf jo hr a_candidate => (pb_ifR (ptf_w (ptf_or (ptf_not (ptf_val (pf_isi 2 R.b_isinstance R.b_str (by decide +kernel) (pf_var 0)))) (pw1 (ptf_cmp (op_neX hr.units) snd_ne (pf_callB call_lenX snd_len R.b_len boot_len (pfa_cons (pf_var 0) pfa_nil)) (pf_gint R.m_MANY))))) (pb_ret pf_bl) (pb_ret (pf_callB (cr_all jo.calm) snd_all R.b_all (by decide +kernel) (pfa_cons (pf_lc [("turn", 1)] jo (pfi_str (pf_var 0)) (blkOk_by (by rfl)) (fun _ _ _ _ _ => (pg_name (i := 1) (JOk.blk jo).nd rfl (by first | exact Or.inl rfl | exact Or.inr rfl))) (elt1 (ρ' := fun v_turn1 => [.va a_candidate, .va v_turn1]) (fun v_turn1 _ _ _ _ _ => pts0) (fun v_turn1 _ _ _ _ _ => (pf_cmp (op_inX hr.units) snd_in (pf_var 1) (pf_binop op_addX snd_add (pf_gstr R.m_EMPTY) (pf_gstr R.m_TURNS)))) (by decide))) pfa_nil))))
abbrev s_check_traffic : Stmt := topS 14
theorem sc_check_traffic : FnScope ["value"] ["value"] (defScope s_check_traffic) := ⟨rfl, rfl, rfl, by decide +kernel, rfl, by decide +kernel, by decide +kernel⟩
theorem w_check_traffic (R : RF K w mg T) (G_is_traffic : Gf P w K mg base T "is_traffic" 1 1 c_is_traffic) (t : TFn K mg "check_traffic" s_check_traffic ["value"]) : Gf P w K mg base T "check_traffic" 1 2 g_check_traffic :=
  gf1 (ρ := fun a_value => [.va a_value]) t sc_check_traffic fun f cdv A outer s H E Hf jo hr a_value => (pb_ifR (ptf_not (ptf_val (pf_call (G_is_traffic.at hr) jo.tk (pfa_cons (pf_var 0) pfa_nil)))) (pb_raise jo R.e_InvalidTraffic) (pb_nil (s := ()) (.f .n)))
abbrev s_check_arm : Stmt := topS 15
theorem sc_check_arm : FnScope ["value"] ["value"] (defScope s_check_arm) := ⟨rfl, rfl, rfl, by decide +kernel, rfl, by decide +kernel, by decide +kernel⟩
theorem w_check_arm (R : RF K w mg T) (t : TFn K mg "check_arm" s_check_arm ["value"]) : Gf P w K mg base T "check_arm" 1 1 g_check_arm :=
  gf1 (ρ := fun a_value => [.va a_value]) t sc_check_arm fun f cdv A outer s H E Hf jo hr a_value => (pb_ifR (ptf_w (ptf_or (ptf_not (ptf_val (pf_isi 1 R.b_isinstance R.b_int (by decide +kernel) (pf_var 0)))) (ptf_or (ptf_val (pf_isi 0 R.b_isinstance R.b_bool (by decide +kernel) (pf_var 0))) (pw1 (ptf_not (ptf_chain op_le snd_cmp op_ltX snd_lt pf_int (pf_var 0) (pf_gint R.m_MANY))))))) (pb_raise jo R.e_InvalidArm) (pb_nil (s := ()) (.f .n)))
abbrev s_check_turn : Stmt := topS 16
theorem sc_check_turn : FnScope ["value"] ["value"] (defScope s_check_turn) := ⟨rfl, rfl, rfl, by decide +kernel, rfl, by decide +kernel, by decide +kernel⟩
theorem w_check_turn (R : RF K w mg T) (t : TFn K mg "check_turn" s_check_turn ["value"]) : Gf P w K mg base T "check_turn" 1 1 g_check_turn :=
  gf1 (ρ := fun a_value => [.va a_value]) t sc_check_turn fun f cdv A outer s H E Hf jo hr a_value => (pb_ifR (ptf_w (ptf_or (ptf_not (ptf_val (pf_isi 2 R.b_isinstance R.b_str (by decide +kernel) (pf_var 0)))) (ptf_or (ptf_cmp (op_neX hr.units) snd_ne (pf_callB call_lenX snd_len R.b_len boot_len (pfa_cons (pf_var 0) pfa_nil)) pf_int) (pw1 (ptf_cmp (op_notInX hr.units) snd_notIn (pf_var 0) (pf_gstr R.m_TURNS)))))) (pb_raise jo R.e_InvalidTurn) (pb_nil (s := ()) (.f .n)))
abbrev s_find_quarters : Stmt := topS 17
theorem sc_find_quarters : FnScope ["arm", "turn", "step"] ["arm", "turn"] (defScope s_find_quarters) := ⟨rfl, rfl, rfl, by decide +kernel, rfl, by decide +kernel, by decide +kernel⟩
theorem w_find_quarters (R : RF K w mg T) (t : TFn K mg "find_quarters" s_find_quarters ["arm", "turn"]) : Gf P w K mg base T "find_quarters" 2 1 g_find_quarters :=
  gf2 (ρ := fun a_arm a_turn => [.va a_arm, .va a_turn, .un]) t sc_find_quarters fun f cdv A outer s H E Hf jo hr a_arm a_turn => (pb_ret (pf_callB cr_sorted snd_sorted R.b_sorted (by decide +kernel) (pfa_cons (pf_lc [("step", 2)] jo (pfi_range1 R.b_range (pfa_cons (pf_binop op_sub snd_sub (pf_callB call_lenX snd_len R.b_len boot_len (pfa_cons (pf_gstr R.m_TURNS) pfa_nil)) (pf_meth (t := 2) PySem.F.plainAttrs_str PySem.F.slot_str_index PySem.F.type_str_index mt_sindex snd_index (pf_gstr R.m_TURNS) (pfa_cons (pf_var 1) pfa_nil))) pfa_nil)) (blkOk_by (by rfl)) (fun _ _ _ _ _ => (pg_name (i := 2) (JOk.blk jo).nd rfl (by first | exact Or.inl rfl | exact Or.inr rfl))) (elt1 (ρ' := fun v_step1 => [.va a_arm, .va a_turn, .va v_step1]) (fun v_step1 _ _ _ _ _ => pts0) (fun v_step1 _ _ _ _ _ => (pf_binop op_mod snd_mod (pf_binop op_sub snd_sub (pf_var 0) (pf_var 2)) (pf_gint R.m_MANY))) (by decide))) pfa_nil)))
abbrev s_find_vehicles : Stmt := topS 18
theorem sc_find_vehicles : FnScope ["traffic", "arm"] ["traffic"] (defScope s_find_vehicles) := ⟨rfl, rfl, rfl, by decide +kernel, rfl, by decide +kernel, by decide +kernel⟩
theorem w_find_vehicles (R : RF K w mg T) (t : TFn K mg "find_vehicles" s_find_vehicles ["traffic"]) : Gf P w K mg base T "find_vehicles" 1 1 g_find_vehicles :=
  gf1 (ρ := fun a_traffic => [.va a_traffic, .un]) t sc_find_vehicles fun f cdv A outer s H E Hf jo hr a_traffic => (pb_ret (pf_lc [("arm", 1)] jo (pfi_range1 R.b_range (pfa_cons (pf_gint R.m_MANY) pfa_nil)) (blkOk_by (by rfl)) (fun _ _ _ _ _ => (pg_name (i := 1) (JOk.blk jo).nd rfl (by first | exact Or.inl rfl | exact Or.inr rfl))) (elt1 (ρ' := fun v_arm1 => [.va a_traffic, .va v_arm1]) (fun v_arm1 _ _ _ _ _ => (pts1 (ptf_cmp (op_neX hr.units) snd_ne (pf_ix (pf_var 0) (pf_var 1)) (pf_gstr R.m_EMPTY)))) (fun v_arm1 _ _ _ _ _ => (pf_var 1)) (by decide))))
abbrev s_do_meet : Stmt := topS 20
theorem sc_do_meet : FnScope ["traffic", "one", "other", "used", "quarter"] ["traffic", "one", "other"] (defScope s_do_meet) := ⟨rfl, rfl, rfl, by decide +kernel, rfl, by decide +kernel, by decide +kernel⟩
theorem w_do_meet (R : RF K w mg T) (G_find_quarters : Gf P w K mg base T "find_quarters" 2 1 c_find_quarters) (t : TFn K mg "do_meet" s_do_meet ["traffic", "one", "other"]) : Gf P w K mg base T "do_meet" 3 2 g_do_meet :=
  gf3 (ρ := fun a_traffic a_one a_other => [.va a_traffic, .va a_one, .va a_other, .un, .un]) t sc_do_meet fun f cdv A outer s H E Hf jo hr a_traffic a_one a_other => (pb_ifR (ptf_w (ptf_and (ptf_cmp (op_eqX hr.units) snd_eq (pf_binop op_mod snd_mod (pf_binop op_sub snd_sub (pf_var 1) (pf_var 2)) pf_int) pf_int) (ptf_and (ptf_cmp (op_eqX hr.units) snd_eq (pf_ix (pf_var 0) (pf_var 1)) (pf_gstr R.m_LEFT)) (pw1 (ptf_cmp (op_eqX hr.units) snd_eq (pf_ix (pf_var 0) (pf_var 2)) (pf_gstr R.m_LEFT)))))) (pb_ret pf_bl) (pb_let 3 (ρ' := fun v_used1 => [.va a_traffic, .va a_one, .va a_other, .va v_used1, .un]) jo (pf_call (G_find_quarters.at hr) jo.tk (pfa_cons (pf_var 2) (pfa_cons (pf_ix (pf_var 0) (pf_var 2)) pfa_nil))) fun v_used1 => (pb_ret (pf_callB (cr_any jo.calm) snd_any R.b_any (by decide +kernel) (pfa_cons (pf_lc [("quarter", 4)] jo (pfi_list (pf_call (G_find_quarters.at hr) jo.tk (pfa_cons (pf_var 1) (pfa_cons (pf_ix (pf_var 0) (pf_var 1)) pfa_nil)))) (blkOk_by (by rfl)) (fun _ _ _ _ _ => (pg_name (i := 4) (JOk.blk jo).nd rfl (by first | exact Or.inl rfl | exact Or.inr rfl))) (elt1 (ρ' := fun v_quarter2 => [.va a_traffic, .va a_one, .va a_other, .va v_used1, .va v_quarter2]) (fun v_quarter2 _ _ _ _ _ => pts0) (fun v_quarter2 _ _ _ _ _ => (pf_cmp (op_inX hr.units) snd_in (pf_var 4) (pf_var 3))) (by decide))) pfa_nil)))))
abbrev s_check_vehicle : Stmt := topS 21
theorem sc_check_vehicle : FnScope ["traffic", "arm"] ["traffic", "arm"] (defScope s_check_vehicle) := ⟨rfl, rfl, rfl, by decide +kernel, rfl, by decide +kernel, by decide +kernel⟩
theorem w_check_vehicle (R : RF K w mg T) (t : TFn K mg "check_vehicle" s_check_vehicle ["traffic", "arm"]) : Gf P w K mg base T "check_vehicle" 2 1 g_check_vehicle :=
  gf2 (ρ := fun a_traffic a_arm => [.va a_traffic, .va a_arm]) t sc_check_vehicle fun f cdv A outer s H E Hf jo hr a_traffic a_arm => (pb_ifR (ptf_cmp (op_eqX hr.units) snd_eq (pf_ix (pf_var 0) (pf_var 1)) (pf_gstr R.m_EMPTY)) (pb_raise jo R.e_NoVehicle) (pb_nil (s := ()) (.f (.f .n))))
abbrev s_in_the_way : Stmt := topS 22
theorem sc_in_the_way : FnScope ["traffic", "one", "other"] ["traffic", "one", "other"] (defScope s_in_the_way) := ⟨rfl, rfl, rfl, by decide +kernel, rfl, by decide +kernel, by decide +kernel⟩
theorem w_in_the_way (R : RF K w mg T) (G_check_traffic : Gf P w K mg base T "check_traffic" 1 2 c_check_traffic) (G_check_arm : Gf P w K mg base T "check_arm" 1 1 c_check_arm) (G_do_meet : Gf P w K mg base T "do_meet" 3 2 c_do_meet) (G_check_vehicle : Gf P w K mg base T "check_vehicle" 2 1 c_check_vehicle) (t : TFn K mg "in_the_way" s_in_the_way ["traffic", "one", "other"]) : Gf P w K mg base T "in_the_way" 3 3 g_in_the_way :=
  gf3 (ρ := fun a_traffic a_one a_other => [.va a_traffic, .va a_one, .va a_other]) t sc_in_the_way fun f cdv A outer s H E Hf jo hr a_traffic a_one a_other => (pb_do (pf_call (G_check_traffic.at hr) jo.tk (pfa_cons (pf_var 0) pfa_nil)) (pb_do (pf_call (G_check_arm.at hr) jo.tk (pfa_cons (pf_var 1) pfa_nil)) (pb_do (pf_call (G_check_arm.at hr) jo.tk (pfa_cons (pf_var 2) pfa_nil)) (pb_do (pf_call (G_check_vehicle.at hr) jo.tk (pfa_cons (pf_var 0) (pfa_cons (pf_var 1) pfa_nil))) (pb_do (pf_call (G_check_vehicle.at hr) jo.tk (pfa_cons (pf_var 0) (pfa_cons (pf_var 2) pfa_nil))) (pb_ifR (ptf_cmp (op_eqX hr.units) snd_eq (pf_var 1) (pf_var 2)) (pb_raise jo R.e_SameArm) (pb_ret (pf_call (G_do_meet.at hr) jo.tk (pfa_cons (pf_var 0) (pfa_cons (pf_var 1) (pfa_cons (pf_var 2) pfa_nil)))))))))))
abbrev s_conflicts : Stmt := topS 23
theorem sc_conflicts : FnScope ["traffic", "one", "known", "found", "other"] ["traffic"] (defScope s_conflicts) := ⟨rfl, rfl, rfl, by decide +kernel, rfl, by decide +kernel, by decide +kernel⟩
theorem w_conflicts (R : RF K w mg T) (G_check_traffic : Gf P w K mg base T "check_traffic" 1 2 c_check_traffic) (G_find_vehicles : Gf P w K mg base T "find_vehicles" 1 1 c_find_vehicles) (G_do_meet : Gf P w K mg base T "do_meet" 3 2 c_do_meet) (t : TFn K mg "conflicts" s_conflicts ["traffic"]) : Gf P w K mg base T "conflicts" 1 3 g_conflicts :=
  gf1 (ρ := fun a_traffic => [.va a_traffic, .un, .un, .un, .un]) t sc_conflicts fun f cdv A outer s H E Hf jo hr a_traffic => (pb_do (pf_call (G_check_traffic.at hr) jo.tk (pfa_cons (pf_var 0) pfa_nil)) (pb_par_vo 2 3 (ρ' := fun v_known1 v_found2 => [.va a_traffic, .un, .va v_known1, .ow v_found2, .un]) jo (pf_call (G_find_vehicles.at hr) jo.tk (pfa_cons (pf_var 0) pfa_nil)) pfa_nil fun v_known1 v_found2 => (pb_for (e0 := fun (v_s3 : List D) => [.va a_traffic, .un, .va v_known1, .ow v_s3, .un]) jo (.k (.f (.k (.k (.f .n))))) (pfi_list (pf_var 2)) (pg_name (i := 1) jo.nd rfl (by first | exact Or.inl rfl | exact Or.inr rfl)) (turn1 (ρ' := fun v_one4 v_s3 => [.va a_traffic, .va v_one4, .va v_known1, .ow v_s3, .un]) fun v_one4 v_s3 => (pb_extend 3 (ρ' := fun v_found6 => [.va a_traffic, .va v_one4, .va v_known1, .ow v_found6, .un]) jo (pf_lc [("other", 4)] jo (pfi_list (pf_var 2)) (blkOk_by (by rfl)) (fun _ _ _ _ _ => (pg_name (i := 4) (JOk.blk jo).nd rfl (by first | exact Or.inl rfl | exact Or.inr rfl))) (elt1 (ρ' := fun v_other5 => [.va a_traffic, .va v_one4, .va v_known1, .ow v_s3, .va v_other5]) (fun v_other5 _ _ _ _ _ => (pts1 (ptf_w (ptf_and (ptf_cmp op_gt snd_cmp (pf_var 4) (pf_var 1)) (pw1 (ptf_val (pf_call (G_do_meet.at hr) (JOk.blk jo).tk (pfa_cons (pf_var 0) (pfa_cons (pf_var 1) (pfa_cons (pf_var 4) pfa_nil)))))))))) (fun v_other5 _ _ _ _ _ => (pf_tup (pfa_cons (pf_var 1) (pfa_cons (pf_var 4) pfa_nil)))) (by decide))) fun v_found6 => (pb_nil (s := v_found6) (.k (.f (.k (.k (.f .n)))))))) fun v_s3 => (pb_wk (.k (.f (.k (.z (.f .n))))) (pb_ret (pf_var 3))))))
abbrev s_can_join : Stmt := topS 24
theorem sc_can_join : FnScope ["traffic", "arm", "turn", "more", "other"] ["traffic", "arm", "turn"] (defScope s_can_join) := ⟨rfl, rfl, rfl, by decide +kernel, rfl, by decide +kernel, by decide +kernel⟩
theorem w_can_join (R : RF K w mg T) (G_check_traffic : Gf P w K mg base T "check_traffic" 1 2 c_check_traffic) (G_check_arm : Gf P w K mg base T "check_arm" 1 1 c_check_arm) (G_check_turn : Gf P w K mg base T "check_turn" 1 1 c_check_turn) (G_find_vehicles : Gf P w K mg base T "find_vehicles" 1 1 c_find_vehicles) (G_do_meet : Gf P w K mg base T "do_meet" 3 2 c_do_meet) (t : TFn K mg "can_join" s_can_join ["traffic", "arm", "turn"]) : Gf P w K mg base T "can_join" 3 3 g_can_join :=
  gf3 (ρ := fun a_traffic a_arm a_turn => [.va a_traffic, .va a_arm, .va a_turn, .un, .un]) t sc_can_join fun f cdv A outer s H E Hf jo hr a_traffic a_arm a_turn => (pb_do (pf_call (G_check_traffic.at hr) jo.tk (pfa_cons (pf_var 0) pfa_nil)) (pb_do (pf_call (G_check_arm.at hr) jo.tk (pfa_cons (pf_var 1) pfa_nil)) (pb_do (pf_call (G_check_turn.at hr) jo.tk (pfa_cons (pf_var 2) pfa_nil)) (pb_ifR (ptf_cmp (op_neX hr.units) snd_ne (pf_ix (pf_var 0) (pf_var 1)) (pf_gstr R.m_EMPTY)) (pb_raise jo R.e_ArmTaken) (pb_let 3 (ρ' := fun v_more1 => [.va a_traffic, .va a_arm, .va a_turn, .va v_more1, .un]) jo (pf_binop op_addX snd_add (pf_binop op_addX snd_add (pf_sl (pf_var 0) pfo_none (pfo_some (pf_var 1))) (pf_var 2)) (pf_sl (pf_var 0) (pfo_some (pf_binop op_addX snd_add (pf_var 1) pf_int)) pfo_none)) fun v_more1 => (pb_ret (pf_not (pf_callB (cr_any jo.calm) snd_any R.b_any (by decide +kernel) (pfa_cons (pf_lc [("other", 4)] jo (pfi_list (pf_call (G_find_vehicles.at hr) jo.tk (pfa_cons (pf_var 0) pfa_nil))) (blkOk_by (by rfl)) (fun _ _ _ _ _ => (pg_name (i := 4) (JOk.blk jo).nd rfl (by first | exact Or.inl rfl | exact Or.inr rfl))) (elt1 (ρ' := fun v_other2 => [.va a_traffic, .va a_arm, .va a_turn, .va v_more1, .va v_other2]) (fun v_other2 _ _ _ _ _ => pts0) (fun v_other2 _ _ _ _ _ => (pf_call (G_do_meet.at hr) (JOk.blk jo).tk (pfa_cons (pf_var 3) (pfa_cons (pf_var 1) (pfa_cons (pf_var 4) pfa_nil))))) (by decide))) pfa_nil)))))))))
abbrev s_largest_free : Stmt := topS 25
theorem sc_largest_free : FnScope ["traffic", "found", "arm", "good", "some", "one"] ["traffic"] (defScope s_largest_free) := ⟨rfl, rfl, rfl, by decide +kernel, rfl, by decide +kernel, by decide +kernel⟩
theorem w_largest_free (R : RF K w mg T) (G_check_traffic : Gf P w K mg base T "check_traffic" 1 2 c_check_traffic) (G_find_vehicles : Gf P w K mg base T "find_vehicles" 1 1 c_find_vehicles) (G_do_meet : Gf P w K mg base T "do_meet" 3 2 c_do_meet) (t : TFn K mg "largest_free" s_largest_free ["traffic"]) : Gf P w K mg base T "largest_free" 1 3 g_largest_free :=
  gf1 (ρ := fun a_traffic => [.va a_traffic, .un, .un, .un, .un, .un]) t sc_largest_free fun f cdv A outer s H E Hf jo hr a_traffic => (pb_do (pf_call (G_check_traffic.at hr) jo.tk (pfa_cons (pf_var 0) pfa_nil)) (pb_let 1 (ρ' := fun v_found1 => [.va a_traffic, .va v_found1, .un, .un, .un, .un]) jo (pf_lst (x1 := 0) (pfa_cons (pf_tup pfa_nil) pfa_nil)) fun v_found1 => (pb_for (e0 := fun (v_s2 : D) => [.va a_traffic, .va v_s2, .un, .un, .un, .un]) jo (.k (.k (.f (.f (.f (.f .n)))))) (pfi_list (pf_call (G_find_vehicles.at hr) jo.tk (pfa_cons (pf_var 0) pfa_nil))) (pg_name (i := 2) jo.nd rfl (by first | exact Or.inl rfl | exact Or.inr rfl)) (turn1 (ρ' := fun v_arm3 v_s2 => [.va a_traffic, .va v_s2, .va v_arm3, .un, .un, .un]) fun v_arm3 v_s2 => (pb_setLc 3 (ρ' := fun v_good4 => [.va a_traffic, .va v_s2, .va v_arm3, .va v_good4, .un, .un]) [("some", 4)] jo (pfi_list (pf_var 1)) (blkOk_by (by rfl)) (fun _ _ _ _ _ => (pg_name (i := 4) (JOk.blk jo).nd rfl (by first | exact Or.inl rfl | exact Or.inr rfl))) (elt1 (ρ' := fun v_some5 => [.va a_traffic, .va v_s2, .va v_arm3, .un, .va v_some5, .un]) (fun v_some5 _ _ _ _ _ => (pts1 (ptf_not (ptf_val (pf_callB (cr_any (JOk.blk jo).calm) snd_any R.b_any (by decide +kernel) (pfa_cons (pf_lc [("one", 5)] (JOk.blk jo) (pfi_tup (pf_var 4)) (blkOk_by (by rfl)) (fun _ _ _ _ _ => (pg_name (i := 5) (JOk.blk (JOk.blk jo)).nd rfl (by first | exact Or.inl rfl | exact Or.inr rfl))) (elt1 (ρ' := fun v_one6 => [.va a_traffic, .va v_s2, .va v_arm3, .un, .va v_some5, .va v_one6]) (fun v_one6 _ _ _ _ _ => pts0) (fun v_one6 _ _ _ _ _ => (pf_call (G_do_meet.at hr) (JOk.blk (JOk.blk jo)).tk (pfa_cons (pf_var 0) (pfa_cons (pf_var 5) (pfa_cons (pf_var 2) pfa_nil))))) (by decide))) pfa_nil)))))) (fun v_some5 _ _ _ _ _ => (pf_var 4)) (by decide)) fun v_good4 => (pb_let 1 (ρ' := fun v_found7 => [.va a_traffic, .va v_found7, .va v_arm3, .va v_good4, .un, .un]) jo (pf_binop op_addX snd_add (pf_var 1) (pf_lc [("some", 4)] jo (pfi_list (pf_var 3)) (blkOk_by (by rfl)) (fun _ _ _ _ _ => (pg_name (i := 4) (JOk.blk jo).nd rfl (by first | exact Or.inl rfl | exact Or.inr rfl))) (elt1 (ρ' := fun v_some8 => [.va a_traffic, .va v_s2, .va v_arm3, .va v_good4, .va v_some8, .un]) (fun v_some8 _ _ _ _ _ => pts0) (fun v_some8 _ _ _ _ _ => (pf_binop op_addX snd_add (pf_var 4) (pf_tup (pfa_cons (pf_var 2) pfa_nil)))) (by decide)))) fun v_found7 => (pb_nil (s := v_found7) (.k (.k (.f (.f (.f (.f .n)))))))))) fun v_s2 => (pb_ret (pf_ix (pf_callB (cr_minX jo.calm hr.units) snd_minX R.b_min (by decide +kernel) (pfa_cons (pf_lc [("some", 4)] jo (pfi_list (pf_var 1)) (blkOk_by (by rfl)) (fun _ _ _ _ _ => (pg_name (i := 4) (JOk.blk jo).nd rfl (by first | exact Or.inl rfl | exact Or.inr rfl))) (elt1 (ρ' := fun v_some9 => [.va a_traffic, .va v_s2, .un, .un, .va v_some9, .un]) (fun v_some9 _ _ _ _ _ => pts0) (fun v_some9 _ _ _ _ _ => (pf_tup (pfa_cons (pf_binop op_sub snd_sub pf_int (pf_callB call_lenX snd_len R.b_len boot_len (pfa_cons (pf_var 4) pfa_nil))) (pfa_cons (pf_var 4) pfa_nil)))) (by decide))) pfa_nil)) pf_int)))))
abbrev s__law_pick : Stmt := topS 27
theorem sc__law_pick : FnScope ["_law_script", "_law_k", "_law_many", "_law_cell", "_law_rest", "_law_again", "_law_drawn"] ["_law_script", "_law_k", "_law_many"] (defScope s__law_pick) := ⟨rfl, rfl, rfl, by decide +kernel, rfl, by decide +kernel, by decide +kernel⟩
theorem w0__law_pick (R : RF K w mg T) {f : Addr} {fd : FuncData} (F : Fun K "_law_pick" "_law_pick" s__law_pick f fd) : FnOk P w K mg base (L2.CX P w) 1 f fd ["_law_script", "_law_k", "_law_many"] (spDraw K) := by
  refine F.okX sc__law_pick (fun vs H Q E h => ?_) (fun cdv A outer s H vs Q E hr h => ?_)
  · obtain ⟨a, ns, k, m, rfl, _⟩ := h
    rfl
  · obtain ⟨a, ns, k, m, rfl, hS, hlen, hk, hm, hm2, q⟩ := h
    refine ⟨_, pss_cons (ps_set (i := 3) sc__law_pick.nd rfl (.inl rfl) (pe_ifExp (pt_cmpR (op_neD hr.units) (pv 0) (pe_lst pa_nil) (nomark _)) (pe_ix ix_list (pv 0) (pe_op op_mod (pv 1) (pe_callB call_len_seq (by rfl) R.b_len PySem.boot_len (pa_cons (pv 0) pa_nil))) (fun _ _ => rfl)) pe_int))
      (pss_cons (ps_par (i := 4) (j := 5) rfl sc__law_pick.nd rfl rfl (by decide) rfl rfl (pa_cons (pe_op op_fdivW (pv 3) (pe_op op_pow pe_int pe_int)) (pa_cons (pe_op op_fdiv (pv 1) (pe_callB (call_max2 rfl) (by rfl) R.b_max (by decide +kernel) (pa_cons (pe_callB call_len_seq (by rfl) R.b_len PySem.boot_len (pa_cons (pv 0) pa_nil)) (pa_cons pe_int pa_nil)))) pa_nil)) (by rfl))
      (pss_cons (ps_while (passes_of rfl) (PW.pt (pw_and (pt_cmpR op_gt (pv 4) pe_int (nomark _)) (pw_and1 (pt_cmpR op_gt (pv 5) pe_int (nomark _)))))
        (pss_one (ps_par (i := 4) (j := 5) rfl sc__law_pick.nd rfl rfl (by decide) rfl rfl (pa_cons (pe_op op_fdiv (pv 4) pe_int) (pa_cons (pe_op op_sub (pv 5) pe_int) pa_nil)) (by rfl))))
      (pss_cons (ps_if (pt_cmpR op_gt (pv 4) pe_int (nomark _)) (pss_one (ps_ret (pe_op op_mod (pe_op op_mod (pv 4) pe_int) (pv 2)))) pss_nil)
      (pss_cons (ps_set (i := 6) sc__law_pick.nd rfl (.inl rfl) (pe_op op_mod (pe_op op_mul (pe_op op_add (pe_op op_mul (pv 3) pe_int) (pe_op op_mul pe_int (pe_op op_add (pv 1) pe_int))) pe_int) pe_int))
      (pss_one (ps_ret (pe_op op_mod (pe_op op_mod (pe_op op_add (pe_op op_mul (pv 6) (pv 6)) (pe_op op_fdiv (pv 6) pe_int)) pe_int) (pv 2)))))))), ?_⟩
    -- from the cell on
    have fin : ∀ (cell : Int) (H1 : Hp), Same H H1 → L2.tSeq (L2.tPar 4 5 (L2.tCons (L2.tOp (rI CDivW fun i j => .int (i / j)) (L2.tVar 3) (L2.tOp (rI CPow fun i j => .int (i ^ j.toNat)) (L2.tC (.int 10)) (L2.tC (.int 18)))) (L2.tCons (L2.tOp (rI CDiv fun i j => .int (i / j)) (L2.tVar 1) (L2.tCB (fun xs H Q => ∃ i j, xs = [.int i, .int j] ∧ Q (.int (if j > i then j else i)) H) (L2.tCons (L2.tCB (fun xs H Q => ∃ p ys, xs = [.ref p] ∧ (SqL K H p ys ∨ SqT K H p ys) ∧ Q (.int ys.length) H) (L2.tCons (L2.tVar 0) L2.tNil)) (L2.tCons (L2.tC (.int 1)) L2.tNil)))) L2.tNil)))
        (L2.tSeq (L2.tWhile (L2.tAnd (L2.tTest (L2.tOp (rI0 fun i j => .bl (decide (j < i))) (L2.tVar 4) (L2.tC (.int 0)))) (L2.tTest (L2.tOp (rI0 fun i j => .bl (decide (j < i))) (L2.tVar 5) (L2.tC (.int 0))))) (L2.tPar 4 5 (L2.tCons (L2.tOp (rI CDiv fun i j => .int (i / j)) (L2.tVar 4) (L2.tC (.int 840))) (L2.tCons (L2.tOp (rI0 fun i j => .int (i - j)) (L2.tVar 5) (L2.tC (.int 1))) L2.tNil))))
        (L2.tSeq (L2.tIfS (L2.tTest (L2.tOp (rI0 fun i j => .bl (decide (j < i))) (L2.tVar 4) (L2.tC (.int 0)))) (L2.tRet (L2.tOp (rI (fun _ j => 0 < j) fun i j => .int (i % j)) (L2.tOp (rI (fun _ j => 0 < j) fun i j => .int (i % j)) (L2.tVar 4) (L2.tC (.int 840))) (L2.tVar 2))) L2.tNext)
        (L2.tSeq (L2.tAsg (L2.tOp (rI (fun _ j => 0 < j) fun i j => .int (i % j)) (L2.tOp (rI CMul fun i j => .int (i * j)) (L2.tOp (rI0 fun i j => .int (i + j)) (L2.tOp (rI CMul fun i j => .int (i * j)) (L2.tVar 3) (L2.tC (.int 31))) (L2.tOp (rI CMul fun i j => .int (i * j)) (L2.tC (.int 6151)) (L2.tOp (rI0 fun i j => .int (i + j)) (L2.tVar 1) (L2.tC (.int 1))))) (L2.tC (.int 40692))) (L2.tC (.int 2147483399))) (gName 6))
        (L2.tRet (L2.tOp (rI (fun _ j => 0 < j) fun i j => .int (i % j)) (L2.tOp (rI (fun _ j => 0 < j) fun i j => .int (i % j)) (L2.tOp (rI0 fun i j => .int (i + j)) (L2.tOp (rI CMul fun i j => .int (i * j)) (L2.tVar 6) (L2.tVar 6)) (L2.tOp (rI CDiv fun i j => .int (i / j)) (L2.tVar 6) (L2.tC (.int 31)))) (L2.tC (.int 2147483629))) (L2.tVar 2))))))
        { nx := fun _ H' => Q .non H', rt := Q } [some (.ref a), some (.int k), some (.int m), some (.int cell), none, none, none] H1 := fun cell H1 sm => by
      have hA : SqL K H1 a (ns.map V.int) := sm.seq hS
      refine ⟨.int cell, rfl, _, _, rfl, rfl, ⟨by decide, by decide, by decide⟩, cell, _, rfl, rfl, ⟨by decide, by decide⟩, ?_⟩
      refine ⟨.int k, rfl, .ref a, rfl, a, _, rfl, .inl hA, _, _, rfl, k, _, rfl, rfl, ⟨?_, ?_⟩, ?_⟩
      · rw [List.length_map]; split <;> omega
      · rw [List.length_map]; split <;> omega
      refine ⟨_, _, rfl, ?_⟩
      have h0 : 0 ≤ k / (if (1 : Int) > ((ns.map V.int).length : Int) then (1 : Int) else ((ns.map V.int).length : Int)) := Int.ediv_nonneg hk (by split <;> omega)
      refine ⟨fun n σ H' => ∃ r g : Int, σ = [some (.ref a), some (.int k), some (.int m), some (.int cell), some (.int r), some (.int g), none] ∧ 0 ≤ g ∧ n = g.toNat ∧ H' = H1, ⟨_, _, _, rfl, h0, rfl, rfl⟩, fun n σ H' ⟨r, g, e1, e2, e3, e4⟩ => ?_⟩
      subst e1 e4
      -- what stands behind the loop
      have post : L2.tSeq (L2.tIfS (L2.tTest (L2.tOp (rI0 fun i j => .bl (decide (j < i))) (L2.tVar 4) (L2.tC (.int 0)))) (L2.tRet (L2.tOp (rI (fun _ j => 0 < j) fun i j => .int (i % j)) (L2.tOp (rI (fun _ j => 0 < j) fun i j => .int (i % j)) (L2.tVar 4) (L2.tC (.int 840))) (L2.tVar 2))) L2.tNext)
        (L2.tSeq (L2.tAsg (L2.tOp (rI (fun _ j => 0 < j) fun i j => .int (i % j)) (L2.tOp (rI CMul fun i j => .int (i * j)) (L2.tOp (rI0 fun i j => .int (i + j)) (L2.tOp (rI CMul fun i j => .int (i * j)) (L2.tVar 3) (L2.tC (.int 31))) (L2.tOp (rI CMul fun i j => .int (i * j)) (L2.tC (.int 6151)) (L2.tOp (rI0 fun i j => .int (i + j)) (L2.tVar 1) (L2.tC (.int 1))))) (L2.tC (.int 40692))) (L2.tC (.int 2147483399))) (gName 6))
        (L2.tRet (L2.tOp (rI (fun _ j => 0 < j) fun i j => .int (i % j)) (L2.tOp (rI (fun _ j => 0 < j) fun i j => .int (i % j)) (L2.tOp (rI0 fun i j => .int (i + j)) (L2.tOp (rI CMul fun i j => .int (i * j)) (L2.tVar 6) (L2.tVar 6)) (L2.tOp (rI CDiv fun i j => .int (i / j)) (L2.tVar 6) (L2.tC (.int 31)))) (L2.tC (.int 2147483629))) (L2.tVar 2))))
        { nx := fun _ H' => Q .non H', rt := Q } [some (.ref a), some (.int k), some (.int m), some (.int cell), some (.int r), some (.int g), none] H' := by
        refine ⟨.int r, rfl, _, _, rfl, rfl, _, rfl, ite2 (fun e => ?_) (fun e => ?_)⟩
        · exact ⟨.int r, rfl, _, _, rfl, rfl, (by show (0 : Int) < 840; decide), .int m, rfl, _, _, rfl, rfl, hm, q _ _ sm (Int.emod_nonneg _ (by omega)) (Int.emod_lt_of_pos _ hm)⟩
        · refine ⟨.int cell, rfl, _, _, rfl, rfl, .inr ⟨by decide, by decide⟩, .int k, rfl, _, _, rfl, rfl, _, _, rfl, rfl, .inl ⟨by decide, by decide⟩, _, _, rfl, rfl, _, _, rfl, rfl, .inr ⟨by decide, by decide⟩, _, _, rfl, rfl, (by show (0 : Int) < 2147483399; decide), ?_⟩
          have d0 : 0 ≤ (cell * 31 + 6151 * (k + 1)) * 40692 % 2147483399 := Int.emod_nonneg _ (by decide)
          have d1 : (cell * 31 + 6151 * (k + 1)) * 40692 % 2147483399 < 2147483399 := Int.emod_lt_of_pos _ (by decide)
          refine ⟨_, rfl, _, rfl, _, _, rfl, rfl, ?_, _, rfl, _, _, rfl, rfl, ⟨by decide, by decide⟩, _, _, rfl, rfl, _, _, rfl, rfl, (by show (0 : Int) < 2147483629; decide), .int m, rfl, _, _, rfl, rfl, hm, q _ _ sm (Int.emod_nonneg _ (by omega)) (Int.emod_lt_of_pos _ hm)⟩
          exact .inl ⟨by omega, by omega⟩
      refine ⟨.int r, rfl, _, _, rfl, rfl, _, rfl, ite2 (fun e => ?_) (fun e => ?_)⟩
      · refine ⟨.int g, rfl, _, _, rfl, rfl, _, rfl, ite2 (fun e2 => ?_) (fun e2 => post)⟩
        have hg : 0 < g := of_decide_eq_true e2
        refine ⟨fun σ' H2 => ∃ r g' : Int, σ' = [some (.ref a), some (.int k), some (.int m), some (.int cell), some (.int r), some (.int g'), none] ∧ 0 ≤ g' ∧ g'.toNat < n ∧ H2 = H', fun σ' H2 ⟨r, g', a1, a2, a3, a4⟩ => ⟨g'.toNat, a3, r, g', a1, a2, rfl, a4⟩, ?_⟩
        exact ⟨.int r, rfl, _, _, rfl, rfl, ⟨by decide, by decide⟩, .int g, rfl, _, _, rfl, rfl, _, _, rfl, _, _, rfl, by omega, by omega, rfl⟩
      · exact iteF post
    -- cell
    refine ⟨.ref a, rfl, Nat.zero_le _, fun p hp => ?_⟩
    have sm : Same H (upd H p (.lst [])) := same_new hp
    have hA : SqL K (upd H p (.lst [])) a (ns.map V.int) := sm.seq hS
    refine ⟨_, _, .lst hA (dp_ints ns), .lst (SqL.of upd_same) .nil, shaped_ints ns, rfl, _, rfl, ite2 (fun e => ?_) (fun e => ?_)⟩
    · have hne : 0 < ns.length := by
        cases ns with
        | nil => cases e
        | cons x r => exact Nat.succ_pos _
      have h1 : 0 < ((ns.map V.int).length : Int) := by rw [List.length_map]; omega
      have h2 : (k % ((ns.map V.int).length : Int)).toNat < ns.length := by
        have b1 := Int.emod_nonneg k (Int.ne_of_gt h1)
        have b2 := Int.emod_lt_of_pos k h1
        rw [List.length_map] at b1 b2 ⊢
        omega
      have b1 := Int.emod_nonneg k (Int.ne_of_gt h1)
      obtain ⟨j, ej⟩ : ∃ j : Nat, k % ((ns.map V.int).length : Int) = (j : Int) := ⟨_, (Int.toNat_of_nonneg b1).symm⟩
      have hj : j < ns.length := by rw [ej] at h2; simpa using h2
      have ga : (ns.map V.int)[j]? = some (.int ns[j]) := by rw [List.getElem?_map, List.getElem?_eq_getElem hj]; rfl
      refine ⟨.ref a, rfl, .int k, rfl, .ref a, rfl, a, _, rfl, .inl hA, k, _, rfl, rfl, h1, a, _, _, .int ns[j], rfl, rfl, hA, by rw [ej]; exact atI_nat ga, ?_⟩
      exact fin ns[j] _ sm
    · exact fin 0 _ sm
theorem G__law_pick_mk (R : RF K w mg T) (t : TFn K mg "_law_pick" s__law_pick ["_law_script", "_law_k", "_law_many"]) : Gf P w K mg base T "_law_pick" 3 1 c_draw := gf_draw t fun F => w0__law_pick R F
abbrev s__law_cars : Stmt := topS 28
theorem sc__law_cars : FnScope ["_law_script", "_law_at", "_law_k"] ["_law_script", "_law_at"] (defScope s__law_cars) := ⟨rfl, rfl, rfl, by decide +kernel, rfl, by decide +kernel, by decide +kernel⟩
theorem w__law_cars (R : RF K w mg T) (G__law_pick : Gf P w K mg base T "_law_pick" 3 1 c__law_pick) (t : TFn K mg "_law_cars" s__law_cars ["_law_script", "_law_at"]) : Gf P w K mg base T "_law_cars" 2 2 g__law_cars :=
  gf2 (ρ := fun a_script a_at => [.va a_script, .va a_at, .un]) t sc__law_cars fun f cdv A outer s H E Hf jo hr a_script a_at => (pb_ret (pf_meth (t := 2) PySem.F.plainAttrs_str PySem.F.slot_str_join PySem.F.type_str_join mt_join snd_join (pf_str []) (pfa_cons (pf_lc [("_law_k", 2)] jo (pfi_range1 R.b_range (pfa_cons pf_int pfa_nil)) (blkOk_by (by rfl)) (fun _ _ _ _ _ => (pg_name (i := 2) (JOk.blk jo).nd rfl (by first | exact Or.inl rfl | exact Or.inr rfl))) (elt1 (ρ' := fun v_k1 => [.va a_script, .va a_at, .va v_k1]) (fun v_k1 _ _ _ _ _ => pts0) (fun v_k1 _ _ _ _ _ => (pf_ix (pf_str [46, 76, 83, 82, 76, 83]) (pf_call (G__law_pick.at hr) (JOk.blk jo).tk (pfa_cons (pf_var 0) (pfa_cons (pf_binop op_addX snd_add (pf_var 1) (pf_var 2)) (pfa_cons pf_int pfa_nil)))))) (by decide))) pfa_nil)))
abbrev s__law_path : Stmt := topS 29
theorem sc__law_path : FnScope ["_law_arm", "_law_turn", "_law_k"] ["_law_arm", "_law_turn"] (defScope s__law_path) := ⟨rfl, rfl, rfl, by decide +kernel, rfl, by decide +kernel, by decide +kernel⟩
theorem w__law_path (R : RF K w mg T) (t : TFn K mg "_law_path" s__law_path ["_law_arm", "_law_turn"]) : Gf P w K mg base T "_law_path" 2 1 g__law_path :=
  gf2 (ρ := fun a_arm a_turn => [.va a_arm, .va a_turn, .un]) t sc__law_path fun f cdv A outer s H E Hf jo hr a_arm a_turn => (pb_ret (pf_lc [("_law_k", 2)] jo (pfi_range1 R.b_range (pfa_cons (pf_binop op_addX snd_add (pf_meth (t := 2) PySem.F.plainAttrs_str PySem.F.slot_str_index PySem.F.type_str_index mt_sindex snd_index (pf_str [82, 83, 76]) (pfa_cons (pf_var 1) pfa_nil)) pf_int) pfa_nil)) (blkOk_by (by rfl)) (fun _ _ _ _ _ => (pg_name (i := 2) (JOk.blk jo).nd rfl (by first | exact Or.inl rfl | exact Or.inr rfl))) (elt1 (ρ' := fun v_k1 => [.va a_arm, .va a_turn, .va v_k1]) (fun v_k1 _ _ _ _ _ => pts0) (fun v_k1 _ _ _ _ _ => (pf_binop op_mod snd_mod (pf_binop op_sub snd_sub (pf_binop op_addX snd_add (pf_var 0) pf_int) (pf_var 2)) pf_int)) (by decide))))
abbrev s__law_meet : Stmt := topS 30
theorem sc__law_meet : FnScope ["_law_cars_here", "_law_one", "_law_other", "_law_here", "_law_quarter"] ["_law_cars_here", "_law_one", "_law_other"] (defScope s__law_meet) := ⟨rfl, rfl, rfl, by decide +kernel, rfl, by decide +kernel, by decide +kernel⟩
theorem w__law_meet (R : RF K w mg T) (G__law_path : Gf P w K mg base T "_law_path" 2 1 c__law_path) (t : TFn K mg "_law_meet" s__law_meet ["_law_cars_here", "_law_one", "_law_other"]) : Gf P w K mg base T "_law_meet" 3 2 g__law_meet :=
  gf3 (ρ := fun a_cars_here a_one a_other => [.va a_cars_here, .va a_one, .va a_other, .un, .un]) t sc__law_meet fun f cdv A outer s H E Hf jo hr a_cars_here a_one a_other => (pb_ifR (ptf_w (ptf_and (ptf_cmp (op_inX hr.units) snd_in (pf_var 1) (pf_tup (pfa_cons (pf_binop op_sub snd_sub (pf_var 2) pf_int) (pfa_cons (pf_binop op_addX snd_add (pf_var 2) pf_int) pfa_nil)))) (pw1 (ptf_cmp (op_eqX hr.units) snd_eq (pf_binop op_addX snd_add (pf_ix (pf_var 0) (pf_var 1)) (pf_ix (pf_var 0) (pf_var 2))) (pf_str [76, 76]))))) (pb_ret pf_bl) (pb_let 3 (ρ' := fun v_here1 => [.va a_cars_here, .va a_one, .va a_other, .va v_here1, .un]) jo (pf_call (G__law_path.at hr) jo.tk (pfa_cons (pf_var 2) (pfa_cons (pf_ix (pf_var 0) (pf_var 2)) pfa_nil))) fun v_here1 => (pb_ret (pf_cmp (op_neX hr.units) snd_ne (pf_lc [("_law_quarter", 4)] jo (pfi_list (pf_call (G__law_path.at hr) jo.tk (pfa_cons (pf_var 1) (pfa_cons (pf_ix (pf_var 0) (pf_var 1)) pfa_nil)))) (blkOk_by (by rfl)) (fun _ _ _ _ _ => (pg_name (i := 4) (JOk.blk jo).nd rfl (by first | exact Or.inl rfl | exact Or.inr rfl))) (elt1 (ρ' := fun v_quarter2 => [.va a_cars_here, .va a_one, .va a_other, .va v_here1, .va v_quarter2]) (fun v_quarter2 _ _ _ _ _ => (pts1 (ptf_cmp (op_inX hr.units) snd_in (pf_var 4) (pf_var 3)))) (fun v_quarter2 _ _ _ _ _ => (pf_var 4)) (by decide))) (pf_lst (x1 := 0) pfa_nil)))))
abbrev s_law : Stmt := topS 31
theorem sc_law : FnScope ["_law_script", "_law_i", "_law_cars_here", "_law_here", "_law_a", "_law_arm", "_law_pairs", "_law_sets", "_law_b", "_law_turn", "_law_told", "_law_more", "_law_some", "_law_one", "_law_other"] ["_law_script"] (defScope s_law) := ⟨rfl, rfl, rfl, by decide +kernel, rfl, by decide +kernel, by decide +kernel⟩
theorem w_law (R : RF K w mg T) (G_in_the_way : Gf P w K mg base T "in_the_way" 3 3 c_in_the_way) (G_conflicts : Gf P w K mg base T "conflicts" 1 3 c_conflicts) (G_can_join : Gf P w K mg base T "can_join" 3 3 c_can_join) (G_largest_free : Gf P w K mg base T "largest_free" 1 3 c_largest_free) (G__law_cars : Gf P w K mg base T "_law_cars" 2 2 c__law_cars) (G__law_meet : Gf P w K mg base T "_law_meet" 3 2 c__law_meet) (cut_97 : ∀ a, isScr a = true → g_law_cut97 a cutK = true) {f : Addr} {fd : FuncData} (F : Fun K "law" "law" s_law f fd) : FnOk P w K mg base (L2.CX P w) 4 f fd ["_law_script"] (spC T K 1 g_law) :=
  gfL (ρ := fun a_script => [.va a_script, .un, .un, .un, .un, .un, .un, .un, .un, .un, .un, .un, .un, .un, .un]) F sc_law fun cdv A outer s H E Hf jo hr a_script => (pb_cutC (i := 1) (ρb := [.va a_script, .va .nn, .un, .un, .un, .un, .un, .un, .un, .un, .un, .un, .un, .un, .un]) (cut_97 a_script) jo (.k (.f (.f (.f (.f (.f (.f (.f (.f (.f (.f (.f (.f (.f (.f .n))))))))))))))) (pfi_range1 R.b_range (pfa_cons pf_int pfa_nil)) (pg_name (i := 1) jo.nd rfl (by first | exact Or.inl rfl | exact Or.inr rfl)) (pb_let 2 (ρ' := fun v_cars_here3 => [.va a_script, .va .nn, .va v_cars_here3, .un, .un, .un, .un, .un, .un, .un, .un, .un, .un, .un, .un]) jo (pf_call (G__law_cars.at hr) jo.tk (pfa_cons (pf_var 0) (pfa_cons (pf_binop op_mul snd_mul pf_int (pf_var 1)) pfa_nil))) fun v_cars_here3 => (pb_setLc 3 (ρ' := fun v_here4 => [.va a_script, .va .nn, .va v_cars_here3, .va v_here4, .un, .un, .un, .un, .un, .un, .un, .un, .un, .un, .un]) [("_law_arm", 5)] jo (pfi_range1 R.b_range (pfa_cons pf_int pfa_nil)) (blkOk_by (by rfl)) (fun _ _ _ _ _ => (pg_name (i := 5) (JOk.blk jo).nd rfl (by first | exact Or.inl rfl | exact Or.inr rfl))) (elt1 (ρ' := fun v_arm5 => [.va a_script, .va .nn, .va v_cars_here3, .un, .un, .va v_arm5, .un, .un, .un, .un, .un, .un, .un, .un, .un]) (fun v_arm5 _ _ _ _ _ => (pts1 (ptf_cmp (op_neX hr.units) snd_ne (pf_ix (pf_var 2) (pf_var 5)) (pf_str [46])))) (fun v_arm5 _ _ _ _ _ => (pf_var 5)) (by decide)) fun v_here4 => (pb_par_ov 6 7 (ρ' := fun v_pairs6 v_sets7 => [.va a_script, .va .nn, .va v_cars_here3, .va v_here4, .un, .un, .ow v_pairs6, .va v_sets7, .un, .un, .un, .un, .un, .un, .un]) jo pfa_nil (pf_lst (x1 := 0) (pfa_cons (pf_tup pfa_nil) pfa_nil)) fun v_pairs6 v_sets7 => (pb_for (e0 := fun (v_s8 : List D × D) => [.va a_script, .va .nn, .va v_cars_here3, .va v_here4, .un, .un, .ow v_s8.1, .va v_s8.2, .un, .un, .un, .un, .un, .un, .un]) jo (.k (.k (.k (.k (.f (.f (.k (.k (.f (.f (.f (.f (.f (.f (.f .n))))))))))))))) (pfi_list (pf_var 3)) (pg_name (i := 4) jo.nd rfl (by first | exact Or.inl rfl | exact Or.inr rfl)) (turn1 (ρ' := fun v_a9 v_s8 => [.va a_script, .va .nn, .va v_cars_here3, .va v_here4, .va v_a9, .un, .ow v_s8.1, .va v_s8.2, .un, .un, .un, .un, .un, .un, .un]) fun v_a9 v_s8 => (pb_for (e0 := fun (v_s10 : List D) => [.va a_script, .va .nn, .va v_cars_here3, .va v_here4, .va v_a9, .un, .ow v_s10, .va v_s8.2, .un, .un, .un, .un, .un, .un, .un]) jo (.k (.k (.k (.k (.k (.f (.k (.k (.f (.f (.f (.f (.f (.f (.f .n))))))))))))))) (pfi_list (pf_var 3)) (pg_name (i := 8) jo.nd rfl (by first | exact Or.inl rfl | exact Or.inr rfl)) (turn1 (ρ' := fun v_b11 v_s10 => [.va a_script, .va .nn, .va v_cars_here3, .va v_here4, .va v_a9, .un, .ow v_s10, .va v_s8.2, .va v_b11, .un, .un, .un, .un, .un, .un]) fun v_b11 v_s10 => (pb_ifE (ptf_cmp (op_neX hr.units) snd_ne (pf_var 4) (pf_var 8)) (pb_let 10 (ρ' := fun v_told12 => [.va a_script, .va .nn, .va v_cars_here3, .va v_here4, .va v_a9, .un, .ow v_s10, .va v_s8.2, .va v_b11, .un, .va v_told12, .un, .un, .un, .un]) jo (pf_call (G__law_meet.at hr) jo.tk (pfa_cons (pf_var 2) (pfa_cons (pf_var 4) (pfa_cons (pf_var 8) pfa_nil)))) fun v_told12 => (pb_ifR (ptf_w (ptf_or (ptf_cmp (op_neX hr.units) snd_ne (pf_call (G_in_the_way.at hr) jo.tk (pfa_cons (pf_var 2) (pfa_cons (pf_var 4) (pfa_cons (pf_var 8) pfa_nil)))) (pf_var 10)) (pw1 (ptf_cmp (op_neX hr.units) snd_ne (pf_var 10) (pf_call (G__law_meet.at hr) jo.tk (pfa_cons (pf_var 2) (pfa_cons (pf_var 8) (pfa_cons (pf_var 4) pfa_nil)))))))) (pb_ret pf_bl) (pb_ifE (ptf_w (ptf_and (ptf_val (pf_var 10)) (pw1 (ptf_cmp op_ltX snd_lt (pf_var 4) (pf_var 8))))) (pb_append 6 (ρ' := fun v_pairs13 => [.va a_script, .va .nn, .va v_cars_here3, .va v_here4, .va v_a9, .un, .ow v_pairs13, .va v_s8.2, .va v_b11, .un, .va v_told12, .un, .un, .un, .un]) jo (pf_tup (pfa_cons (pf_var 4) (pfa_cons (pf_var 8) pfa_nil))) fun v_pairs13 => (pb_nil (s := v_pairs13) (.k (.k (.k (.k (.k (.f (.k (.k (.f (.f (.f (.f (.f (.f (.f .n))))))))))))))))) (pb_nil (s := v_s10) (.k (.k (.k (.k (.k (.f (.k (.k (.f (.f (.f (.f (.f (.f (.f .n))))))))))))))))))) (pb_nil (s := v_s10) (.k (.k (.k (.k (.k (.f (.k (.k (.f (.f (.f (.f (.f (.f (.f .n)))))))))))))))))) fun v_s10 => (pb_let 7 (ρ' := fun v_sets14 => [.va a_script, .va .nn, .va v_cars_here3, .va v_here4, .va v_a9, .un, .ow v_s10, .va v_sets14, .un, .un, .un, .un, .un, .un, .un]) jo (pf_binop op_addX snd_add (pf_var 7) (pf_lc [("_law_some", 12)] jo (pfi_list (pf_var 7)) (blkOk_by (by rfl)) (fun _ _ _ _ _ => (pg_name (i := 12) (JOk.blk jo).nd rfl (by first | exact Or.inl rfl | exact Or.inr rfl))) (elt1 (ρ' := fun v_some15 => [.va a_script, .va .nn, .va v_cars_here3, .va v_here4, .va v_a9, .un, .ow v_s10, .va v_s8.2, .un, .un, .un, .un, .va v_some15, .un, .un]) (fun v_some15 _ _ _ _ _ => (pts1 (ptf_not (ptf_val (pf_callB (cr_any (JOk.blk jo).calm) snd_any R.b_any (by decide +kernel) (pfa_cons (pf_lc [("_law_one", 13)] (JOk.blk jo) (pfi_tup (pf_var 12)) (blkOk_by (by rfl)) (fun _ _ _ _ _ => (pg_name (i := 13) (JOk.blk (JOk.blk jo)).nd rfl (by first | exact Or.inl rfl | exact Or.inr rfl))) (elt1 (ρ' := fun v_one16 => [.va a_script, .va .nn, .va v_cars_here3, .va v_here4, .va v_a9, .un, .ow v_s10, .va v_s8.2, .un, .un, .un, .un, .va v_some15, .va v_one16, .un]) (fun v_one16 _ _ _ _ _ => pts0) (fun v_one16 _ _ _ _ _ => (pf_call (G__law_meet.at hr) (JOk.blk (JOk.blk jo)).tk (pfa_cons (pf_var 2) (pfa_cons (pf_var 13) (pfa_cons (pf_var 4) pfa_nil))))) (by decide))) pfa_nil)))))) (fun v_some15 _ _ _ _ _ => (pf_binop op_addX snd_add (pf_var 12) (pf_tup (pfa_cons (pf_var 4) pfa_nil)))) (by decide)))) fun v_sets14 => (pb_nil (s := (v_s10, v_sets14)) (.k (.k (.k (.k (.f (.f (.k (.k (.f (.f (.f (.f (.f (.f (.f .n))))))))))))))))))) fun v_s8 => (pb_wk (.k (.k (.k (.k (.f (.f (.z (.k (.f (.f (.f (.f (.f (.f (.f .n))))))))))))))) (pb_ifR (ptf_cmp (op_neX hr.units) snd_ne (pf_call (G_conflicts.at hr) jo.tk (pfa_cons (pf_var 2) pfa_nil)) (pf_var 6)) (pb_ret pf_bl) (pb_ifR (ptf_cmp (op_neX hr.units) snd_ne (pf_call (G_largest_free.at hr) jo.tk (pfa_cons (pf_var 2) pfa_nil)) (pf_ix (pf_callB (cr_minX jo.calm hr.units) snd_minX R.b_min (by decide +kernel) (pfa_cons (pf_lc [("_law_some", 12)] jo (pfi_list (pf_var 7)) (blkOk_by (by rfl)) (fun _ _ _ _ _ => (pg_name (i := 12) (JOk.blk jo).nd rfl (by first | exact Or.inl rfl | exact Or.inr rfl))) (elt1 (ρ' := fun v_some17 => [.va a_script, .va .nn, .va v_cars_here3, .va v_here4, .un, .un, .va (.lst v_s8.1), .va v_s8.2, .un, .un, .un, .un, .va v_some17, .un, .un]) (fun v_some17 _ _ _ _ _ => pts0) (fun v_some17 _ _ _ _ _ => (pf_tup (pfa_cons (pf_binop op_sub snd_sub pf_int (pf_callB call_lenX snd_len R.b_len boot_len (pfa_cons (pf_var 12) pfa_nil))) (pfa_cons (pf_var 12) pfa_nil)))) (by decide))) pfa_nil)) pf_int)) (pb_ret pf_bl) (pb_for (e0 := fun (v_s18 : Unit) => [.va a_script, .va .nn, .va v_cars_here3, .va v_here4, .un, .un, .va (.lst v_s8.1), .va v_s8.2, .un, .un, .un, .un, .un, .un, .un]) jo (.k (.k (.k (.k (.f (.f (.k (.k (.f (.f (.f (.f (.f (.f (.f .n))))))))))))))) (pfi_list (pf_listRange1 jo R.b_list R.b_range pf_int)) (pg_name (i := 5) jo.nd rfl (by first | exact Or.inl rfl | exact Or.inr rfl)) (turn1 (ρ' := fun v_arm19 v_s18 => [.va a_script, .va .nn, .va v_cars_here3, .va v_here4, .un, .va v_arm19, .va (.lst v_s8.1), .va v_s8.2, .un, .un, .un, .un, .un, .un, .un]) fun v_arm19 v_s18 => (pb_ifE (ptf_cmp (op_eqX hr.units) snd_eq (pf_ix (pf_var 2) (pf_var 5)) (pf_str [46])) (pb_for (e0 := fun (v_s20 : Unit) => [.va a_script, .va .nn, .va v_cars_here3, .va v_here4, .un, .va v_arm19, .va (.lst v_s8.1), .va v_s8.2, .un, .un, .un, .un, .un, .un, .un]) jo (.k (.k (.k (.k (.f (.k (.k (.k (.f (.f (.f (.f (.f (.f (.f .n))))))))))))))) (pfi_tup (pf_tup (pfa_cons (pf_str [76]) (pfa_cons (pf_str [83]) (pfa_cons (pf_str [82]) pfa_nil))))) (pg_name (i := 9) jo.nd rfl (by first | exact Or.inl rfl | exact Or.inr rfl)) (turn1 (ρ' := fun v_turn21 v_s20 => [.va a_script, .va .nn, .va v_cars_here3, .va v_here4, .un, .va v_arm19, .va (.lst v_s8.1), .va v_s8.2, .un, .va v_turn21, .un, .un, .un, .un, .un]) fun v_turn21 v_s20 => (pb_let 11 (ρ' := fun v_more22 => [.va a_script, .va .nn, .va v_cars_here3, .va v_here4, .un, .va v_arm19, .va (.lst v_s8.1), .va v_s8.2, .un, .va v_turn21, .un, .va v_more22, .un, .un, .un]) jo (pf_binop op_addX snd_add (pf_binop op_addX snd_add (pf_sl (pf_var 2) pfo_none (pfo_some (pf_var 5))) (pf_var 9)) (pf_sl (pf_var 2) (pfo_some (pf_binop op_addX snd_add (pf_var 5) pf_int)) pfo_none)) fun v_more22 => (pb_ifR (ptf_cmp (op_neX hr.units) snd_ne (pf_call (G_can_join.at hr) jo.tk (pfa_cons (pf_var 2) (pfa_cons (pf_var 5) (pfa_cons (pf_var 9) pfa_nil)))) (pf_not (pf_callB (cr_any jo.calm) snd_any R.b_any (by decide +kernel) (pfa_cons (pf_lc [("_law_other", 14)] jo (pfi_list (pf_var 3)) (blkOk_by (by rfl)) (fun _ _ _ _ _ => (pg_name (i := 14) (JOk.blk jo).nd rfl (by first | exact Or.inl rfl | exact Or.inr rfl))) (elt1 (ρ' := fun v_other23 => [.va a_script, .va .nn, .va v_cars_here3, .va v_here4, .un, .va v_arm19, .va (.lst v_s8.1), .va v_s8.2, .un, .va v_turn21, .un, .va v_more22, .un, .un, .va v_other23]) (fun v_other23 _ _ _ _ _ => pts0) (fun v_other23 _ _ _ _ _ => (pf_call (G__law_meet.at hr) (JOk.blk jo).tk (pfa_cons (pf_var 11) (pfa_cons (pf_var 5) (pfa_cons (pf_var 14) pfa_nil))))) (by decide))) pfa_nil)))) (pb_ret pf_bl) (pb_nil (s := ()) (.k (.k (.k (.k (.f (.k (.k (.k (.f (.f (.f (.f (.f (.f (.f .n))))))))))))))))))) fun v_s20 => (pb_nil (s := ()) (.k (.k (.k (.k (.f (.f (.k (.k (.f (.f (.f (.f (.f (.f (.f .n))))))))))))))))) (pb_nil (s := ()) (.k (.k (.k (.k (.f (.f (.k (.k (.f (.f (.f (.f (.f (.f (.f .n)))))))))))))))))) fun v_s18 => (pb_nil (s := ()) (.k (.f (.f (.f (.f (.f (.f (.f (.f (.f (.f (.f (.f (.f (.f .n)))))))))))))))))))))))) (pb_ret (pf_and (pf_cmp (op_eqX hr.units) snd_eq (pf_call (G_conflicts.at hr) jo.tk (pfa_cons (pf_str [83, 83, 83, 83]) pfa_nil)) (pf_lst (x1 := 0) (pfa_cons (pf_tup (pfa_cons pf_int (pfa_cons pf_int pfa_nil))) (pfa_cons (pf_tup (pfa_cons pf_int (pfa_cons pf_int pfa_nil))) (pfa_cons (pf_tup (pfa_cons pf_int (pfa_cons pf_int pfa_nil))) (pfa_cons (pf_tup (pfa_cons pf_int (pfa_cons pf_int pfa_nil))) pfa_nil)))))) (pf_one (pf_cmp op_isX snd_is (pf_call (G_in_the_way.at hr) jo.tk (pfa_cons (pf_str [76, 46, 83, 46]) (pfa_cons pf_int (pfa_cons pf_int pfa_nil)))) pf_bl)))))
theorem law_fn (R : RF K w mg T) (t_is_traffic : TFn K mg "is_traffic" s_is_traffic ["candidate"]) (t_check_traffic : TFn K mg "check_traffic" s_check_traffic ["value"]) (t_check_arm : TFn K mg "check_arm" s_check_arm ["value"]) (t_check_turn : TFn K mg "check_turn" s_check_turn ["value"]) (t_find_quarters : TFn K mg "find_quarters" s_find_quarters ["arm", "turn"]) (t_find_vehicles : TFn K mg "find_vehicles" s_find_vehicles ["traffic"]) (t_do_meet : TFn K mg "do_meet" s_do_meet ["traffic", "one", "other"]) (t_check_vehicle : TFn K mg "check_vehicle" s_check_vehicle ["traffic", "arm"]) (t_in_the_way : TFn K mg "in_the_way" s_in_the_way ["traffic", "one", "other"]) (t_conflicts : TFn K mg "conflicts" s_conflicts ["traffic"]) (t_can_join : TFn K mg "can_join" s_can_join ["traffic", "arm", "turn"]) (t_largest_free : TFn K mg "largest_free" s_largest_free ["traffic"]) (t__law_pick : TFn K mg "_law_pick" s__law_pick ["_law_script", "_law_k", "_law_many"]) (t__law_cars : TFn K mg "_law_cars" s__law_cars ["_law_script", "_law_at"]) (t__law_path : TFn K mg "_law_path" s__law_path ["_law_arm", "_law_turn"]) (t__law_meet : TFn K mg "_law_meet" s__law_meet ["_law_cars_here", "_law_one", "_law_other"]) {fa : Addr} {fd : FuncData} (F : Fun K "law" "law" s_law fa fd) : FnOk P w K mg base (L2.CX P w) 4 fa fd ["_law_script"] (spLaw K) := by
  have G_is_traffic : Gf P w K mg base T "is_traffic" 1 1 c_is_traffic := w_is_traffic R  t_is_traffic
  have G_check_traffic : Gf P w K mg base T "check_traffic" 1 2 c_check_traffic := w_check_traffic R G_is_traffic t_check_traffic
  have G_check_arm : Gf P w K mg base T "check_arm" 1 1 c_check_arm := w_check_arm R  t_check_arm
  have G_check_turn : Gf P w K mg base T "check_turn" 1 1 c_check_turn := w_check_turn R  t_check_turn
  have G_find_quarters : Gf P w K mg base T "find_quarters" 2 1 c_find_quarters := w_find_quarters R  t_find_quarters
  have G_find_vehicles : Gf P w K mg base T "find_vehicles" 1 1 c_find_vehicles := w_find_vehicles R  t_find_vehicles
  have H_do_meet : Gf P w K mg base T "do_meet" 3 2 g_do_meet := w_do_meet R G_find_quarters t_do_meet
  have G_do_meet : Gf P w K mg base T "do_meet" 3 2 c_do_meet := Gf.imp H_do_meet (meet_imp h_do_meet)
  have G_check_vehicle : Gf P w K mg base T "check_vehicle" 2 1 c_check_vehicle := w_check_vehicle R  t_check_vehicle
  have G_in_the_way : Gf P w K mg base T "in_the_way" 3 3 c_in_the_way := w_in_the_way R G_check_traffic G_check_arm G_do_meet G_check_vehicle t_in_the_way
  have G_conflicts : Gf P w K mg base T "conflicts" 1 3 c_conflicts := w_conflicts R G_check_traffic G_find_vehicles G_do_meet t_conflicts
  have G_can_join : Gf P w K mg base T "can_join" 3 3 c_can_join := w_can_join R G_check_traffic G_check_arm G_check_turn G_find_vehicles G_do_meet t_can_join
  have G_largest_free : Gf P w K mg base T "largest_free" 1 3 c_largest_free := w_largest_free R G_check_traffic G_find_vehicles G_do_meet t_largest_free
  have G__law_pick : Gf P w K mg base T "_law_pick" 3 1 c__law_pick := G__law_pick_mk R t__law_pick
  have H__law_cars : Gf P w K mg base T "_law_cars" 2 2 g__law_cars := w__law_cars R G__law_pick t__law_cars
  have G__law_cars : Gf P w K mg base T "_law_cars" 2 2 c__law_cars := Gf.sub H__law_cars (sub_trs h_cars)
  have G__law_path : Gf P w K mg base T "_law_path" 2 1 c__law_path := w__law_path R  t__law_path
  have H__law_meet : Gf P w K mg base T "_law_meet" 3 2 g__law_meet := w__law_meet R G__law_path t__law_meet
  have G__law_meet : Gf P w K mg base T "_law_meet" 3 2 c__law_meet := Gf.imp H__law_meet (meet_imp h_law_meet)
  exact law_ok (w_law R G_in_the_way G_conflicts G_can_join G_largest_free G__law_cars G__law_meet (scr_only ok_g_law_cut97) F) law_true
end
theorem all_mk {w : World} {K : PySem.W.Frag} {h : Heap} {mg : Str → Option Value} {fa : Addr} (X : K.In h) (G : h.Ns mainGlobals mg) (hfa : mg "law" = some (.ref fa))
    {f0 : Addr} {oc0 kV0 dc0 pm0 cd0 ct0 : Value} {od0 an0 : Option Addr} {sl0 : Array (Option Value)}
    {f1 : Addr} {oc1 kV1 dc1 pm1 cd1 ct1 : Value} {od1 an1 : Option Addr} {sl1 : Array (Option Value)}
    {f2 : Addr} {oc2 kV2 dc2 pm2 cd2 ct2 : Value} {od2 an2 : Option Addr} {sl2 : Array (Option Value)}
    {f3 : Addr} {oc3 kV3 dc3 pm3 cd3 ct3 : Value} {od3 an3 : Option Addr} {sl3 : Array (Option Value)}
    {f4 : Addr} {oc4 kV4 dc4 pm4 cd4 ct4 : Value} {od4 an4 : Option Addr} {sl4 : Array (Option Value)}
    {f5 : Addr} {oc5 kV5 dc5 pm5 cd5 ct5 : Value} {od5 an5 : Option Addr} {sl5 : Array (Option Value)}
    {f6 : Addr} {oc6 kV6 dc6 pm6 cd6 ct6 : Value} {od6 an6 : Option Addr} {sl6 : Array (Option Value)}
    {f7 : Addr} {oc7 kV7 dc7 pm7 cd7 ct7 : Value} {od7 an7 : Option Addr} {sl7 : Array (Option Value)}
    {f8 : Addr} {oc8 kV8 dc8 pm8 cd8 ct8 : Value} {od8 an8 : Option Addr} {sl8 : Array (Option Value)}
    {f9 : Addr} {oc9 kV9 dc9 pm9 cd9 ct9 : Value} {od9 an9 : Option Addr} {sl9 : Array (Option Value)}
    {f10 : Addr} {oc10 kV10 dc10 pm10 cd10 ct10 : Value} {od10 an10 : Option Addr} {sl10 : Array (Option Value)}
    {f11 : Addr} {oc11 kV11 dc11 pm11 cd11 ct11 : Value} {od11 an11 : Option Addr} {sl11 : Array (Option Value)}
    {f12 : Addr} {oc12 kV12 dc12 pm12 cd12 ct12 : Value} {od12 an12 : Option Addr} {sl12 : Array (Option Value)}
    {f13 : Addr} {oc13 kV13 dc13 pm13 cd13 ct13 : Value} {od13 an13 : Option Addr} {sl13 : Array (Option Value)}
    {f14 : Addr} {oc14 kV14 dc14 pm14 cd14 ct14 : Value} {od14 an14 : Option Addr} {sl14 : Array (Option Value)}
    {f15 : Addr} {oc15 kV15 dc15 pm15 cd15 ct15 : Value} {od15 an15 : Option Addr} {sl15 : Array (Option Value)}
    {fl : Addr} {oc16 kV16 dc16 pm16 cd16 ct16 : Value} {od16 an16 : Option Addr} {sl16 : Array (Option Value)}
    {tk_EMPTY : Tok}
    {tk_LEFT : Tok}
    {tk_MANY : Tok}
    {tk_TURNS : Tok}
    {C_InvalidTraffic : Addr}
    {C_InvalidArm : Addr}
    {C_InvalidTurn : Addr}
    {C_NoVehicle : Addr}
    {C_SameArm : Addr}
    {C_ArmTaken : Addr}
    (a_is_traffic : PySem.W.nsIn K mainGlobals "is_traffic" = some (some (.ref f0)))
    (l_is_traffic : K.lookup f0 = some ⟨oc0, od0, .func (PySem.W.fnOf "is_traffic" "is_traffic" (defArgs s_is_traffic) (defBody s_is_traffic) (defScope s_is_traffic) .none kV0 dc0 pm0 an0 cd0 ct0), sl0⟩)
    (q_is_traffic : PySem.W.codeIn K cd0 "is_traffic" = true)
    (k_is_traffic : PySem.W.keepIn K (.ref f0) = true)
    (a_check_traffic : PySem.W.nsIn K mainGlobals "check_traffic" = some (some (.ref f1)))
    (l_check_traffic : K.lookup f1 = some ⟨oc1, od1, .func (PySem.W.fnOf "check_traffic" "check_traffic" (defArgs s_check_traffic) (defBody s_check_traffic) (defScope s_check_traffic) .none kV1 dc1 pm1 an1 cd1 ct1), sl1⟩)
    (q_check_traffic : PySem.W.codeIn K cd1 "check_traffic" = true)
    (k_check_traffic : PySem.W.keepIn K (.ref f1) = true)
    (a_check_arm : PySem.W.nsIn K mainGlobals "check_arm" = some (some (.ref f2)))
    (l_check_arm : K.lookup f2 = some ⟨oc2, od2, .func (PySem.W.fnOf "check_arm" "check_arm" (defArgs s_check_arm) (defBody s_check_arm) (defScope s_check_arm) .none kV2 dc2 pm2 an2 cd2 ct2), sl2⟩)
    (q_check_arm : PySem.W.codeIn K cd2 "check_arm" = true)
    (k_check_arm : PySem.W.keepIn K (.ref f2) = true)
    (a_check_turn : PySem.W.nsIn K mainGlobals "check_turn" = some (some (.ref f3)))
    (l_check_turn : K.lookup f3 = some ⟨oc3, od3, .func (PySem.W.fnOf "check_turn" "check_turn" (defArgs s_check_turn) (defBody s_check_turn) (defScope s_check_turn) .none kV3 dc3 pm3 an3 cd3 ct3), sl3⟩)
    (q_check_turn : PySem.W.codeIn K cd3 "check_turn" = true)
    (k_check_turn : PySem.W.keepIn K (.ref f3) = true)
    (a_find_quarters : PySem.W.nsIn K mainGlobals "find_quarters" = some (some (.ref f4)))
    (l_find_quarters : K.lookup f4 = some ⟨oc4, od4, .func (PySem.W.fnOf "find_quarters" "find_quarters" (defArgs s_find_quarters) (defBody s_find_quarters) (defScope s_find_quarters) .none kV4 dc4 pm4 an4 cd4 ct4), sl4⟩)
    (q_find_quarters : PySem.W.codeIn K cd4 "find_quarters" = true)
    (k_find_quarters : PySem.W.keepIn K (.ref f4) = true)
    (a_find_vehicles : PySem.W.nsIn K mainGlobals "find_vehicles" = some (some (.ref f5)))
    (l_find_vehicles : K.lookup f5 = some ⟨oc5, od5, .func (PySem.W.fnOf "find_vehicles" "find_vehicles" (defArgs s_find_vehicles) (defBody s_find_vehicles) (defScope s_find_vehicles) .none kV5 dc5 pm5 an5 cd5 ct5), sl5⟩)
    (q_find_vehicles : PySem.W.codeIn K cd5 "find_vehicles" = true)
    (k_find_vehicles : PySem.W.keepIn K (.ref f5) = true)
    (a_do_meet : PySem.W.nsIn K mainGlobals "do_meet" = some (some (.ref f6)))
    (l_do_meet : K.lookup f6 = some ⟨oc6, od6, .func (PySem.W.fnOf "do_meet" "do_meet" (defArgs s_do_meet) (defBody s_do_meet) (defScope s_do_meet) .none kV6 dc6 pm6 an6 cd6 ct6), sl6⟩)
    (q_do_meet : PySem.W.codeIn K cd6 "do_meet" = true)
    (k_do_meet : PySem.W.keepIn K (.ref f6) = true)
    (a_check_vehicle : PySem.W.nsIn K mainGlobals "check_vehicle" = some (some (.ref f7)))
    (l_check_vehicle : K.lookup f7 = some ⟨oc7, od7, .func (PySem.W.fnOf "check_vehicle" "check_vehicle" (defArgs s_check_vehicle) (defBody s_check_vehicle) (defScope s_check_vehicle) .none kV7 dc7 pm7 an7 cd7 ct7), sl7⟩)
    (q_check_vehicle : PySem.W.codeIn K cd7 "check_vehicle" = true)
    (k_check_vehicle : PySem.W.keepIn K (.ref f7) = true)
    (a_in_the_way : PySem.W.nsIn K mainGlobals "in_the_way" = some (some (.ref f8)))
    (l_in_the_way : K.lookup f8 = some ⟨oc8, od8, .func (PySem.W.fnOf "in_the_way" "in_the_way" (defArgs s_in_the_way) (defBody s_in_the_way) (defScope s_in_the_way) .none kV8 dc8 pm8 an8 cd8 ct8), sl8⟩)
    (q_in_the_way : PySem.W.codeIn K cd8 "in_the_way" = true)
    (k_in_the_way : PySem.W.keepIn K (.ref f8) = true)
    (a_conflicts : PySem.W.nsIn K mainGlobals "conflicts" = some (some (.ref f9)))
    (l_conflicts : K.lookup f9 = some ⟨oc9, od9, .func (PySem.W.fnOf "conflicts" "conflicts" (defArgs s_conflicts) (defBody s_conflicts) (defScope s_conflicts) .none kV9 dc9 pm9 an9 cd9 ct9), sl9⟩)
    (q_conflicts : PySem.W.codeIn K cd9 "conflicts" = true)
    (k_conflicts : PySem.W.keepIn K (.ref f9) = true)
    (a_can_join : PySem.W.nsIn K mainGlobals "can_join" = some (some (.ref f10)))
    (l_can_join : K.lookup f10 = some ⟨oc10, od10, .func (PySem.W.fnOf "can_join" "can_join" (defArgs s_can_join) (defBody s_can_join) (defScope s_can_join) .none kV10 dc10 pm10 an10 cd10 ct10), sl10⟩)
    (q_can_join : PySem.W.codeIn K cd10 "can_join" = true)
    (k_can_join : PySem.W.keepIn K (.ref f10) = true)
    (a_largest_free : PySem.W.nsIn K mainGlobals "largest_free" = some (some (.ref f11)))
    (l_largest_free : K.lookup f11 = some ⟨oc11, od11, .func (PySem.W.fnOf "largest_free" "largest_free" (defArgs s_largest_free) (defBody s_largest_free) (defScope s_largest_free) .none kV11 dc11 pm11 an11 cd11 ct11), sl11⟩)
    (q_largest_free : PySem.W.codeIn K cd11 "largest_free" = true)
    (k_largest_free : PySem.W.keepIn K (.ref f11) = true)
    (a__law_pick : PySem.W.nsIn K mainGlobals "_law_pick" = some (some (.ref f12)))
    (l__law_pick : K.lookup f12 = some ⟨oc12, od12, .func (PySem.W.fnOf "_law_pick" "_law_pick" (defArgs s__law_pick) (defBody s__law_pick) (defScope s__law_pick) .none kV12 dc12 pm12 an12 cd12 ct12), sl12⟩)
    (q__law_pick : PySem.W.codeIn K cd12 "_law_pick" = true)
    (k__law_pick : PySem.W.keepIn K (.ref f12) = true)
    (a__law_cars : PySem.W.nsIn K mainGlobals "_law_cars" = some (some (.ref f13)))
    (l__law_cars : K.lookup f13 = some ⟨oc13, od13, .func (PySem.W.fnOf "_law_cars" "_law_cars" (defArgs s__law_cars) (defBody s__law_cars) (defScope s__law_cars) .none kV13 dc13 pm13 an13 cd13 ct13), sl13⟩)
    (q__law_cars : PySem.W.codeIn K cd13 "_law_cars" = true)
    (k__law_cars : PySem.W.keepIn K (.ref f13) = true)
    (a__law_path : PySem.W.nsIn K mainGlobals "_law_path" = some (some (.ref f14)))
    (l__law_path : K.lookup f14 = some ⟨oc14, od14, .func (PySem.W.fnOf "_law_path" "_law_path" (defArgs s__law_path) (defBody s__law_path) (defScope s__law_path) .none kV14 dc14 pm14 an14 cd14 ct14), sl14⟩)
    (q__law_path : PySem.W.codeIn K cd14 "_law_path" = true)
    (k__law_path : PySem.W.keepIn K (.ref f14) = true)
    (a__law_meet : PySem.W.nsIn K mainGlobals "_law_meet" = some (some (.ref f15)))
    (l__law_meet : K.lookup f15 = some ⟨oc15, od15, .func (PySem.W.fnOf "_law_meet" "_law_meet" (defArgs s__law_meet) (defBody s__law_meet) (defScope s__law_meet) .none kV15 dc15 pm15 an15 cd15 ct15), sl15⟩)
    (q__law_meet : PySem.W.codeIn K cd15 "_law_meet" = true)
    (k__law_meet : PySem.W.keepIn K (.ref f15) = true)
    (a_law : PySem.W.nsIn K mainGlobals "law" = some (some (.ref fl)))
    (l_law : K.lookup fl = some ⟨oc16, od16, .func (PySem.W.fnOf "law" "law" (defArgs s_law) (defBody s_law) (defScope s_law) .none kV16 dc16 pm16 an16 cd16 ct16), sl16⟩)
    (q_law : PySem.W.codeIn K cd16 "law" = true)
    (k_law : PySem.W.keepIn K (.ref fl) = true)
    (z_all : PySem.W.nsIn K mainGlobals "all" = some none)
    (z_any : PySem.W.nsIn K mainGlobals "any" = some none)
    (z_bool : PySem.W.nsIn K mainGlobals "bool" = some none)
    (z_int : PySem.W.nsIn K mainGlobals "int" = some none)
    (z_isinstance : PySem.W.nsIn K mainGlobals "isinstance" = some none)
    (z_len : PySem.W.nsIn K mainGlobals "len" = some none)
    (z_list : PySem.W.nsIn K mainGlobals "list" = some none)
    (z_max : PySem.W.nsIn K mainGlobals "max" = some none)
    (z_min : PySem.W.nsIn K mainGlobals "min" = some none)
    (z_range : PySem.W.nsIn K mainGlobals "range" = some none)
    (z_sorted : PySem.W.nsIn K mainGlobals "sorted" = some none)
    (z_str : PySem.W.nsIn K mainGlobals "str" = some none)
    (m_EMPTY : PySem.W.nsIn K mainGlobals "EMPTY" = some (some (.str (mkS [46]) tk_EMPTY)))
    (m_LEFT : PySem.W.nsIn K mainGlobals "LEFT" = some (some (.str (mkS [76]) tk_LEFT)))
    (m_MANY : PySem.W.nsIn K mainGlobals "MANY" = some (some (.int 4 tk_MANY)))
    (m_TURNS : PySem.W.nsIn K mainGlobals "TURNS" = some (some (.str (mkS [76, 83, 82]) tk_TURNS)))
    (e1_InvalidTraffic : PySem.W.nsIn K mainGlobals "InvalidTraffic" = some (some (.ref C_InvalidTraffic)))
    (e2_InvalidTraffic : PySem.W.excIn K C_InvalidTraffic [.type "ValueError", .type "Exception", .type "BaseException", .type "object"] "ValueError.__new__" = true)
    (e3_InvalidTraffic : PySem.W.keepIn K (.ref C_InvalidTraffic) = true)
    (e4_InvalidTraffic : PySem.W.subIn K (.ref C_InvalidTraffic) (.type "BaseException") = some true)
    (e5_InvalidTraffic : PySem.W.typeIn K (.ref C_InvalidTraffic) = some (.type "type"))
    (e1_InvalidArm : PySem.W.nsIn K mainGlobals "InvalidArm" = some (some (.ref C_InvalidArm)))
    (e2_InvalidArm : PySem.W.excIn K C_InvalidArm [.type "ValueError", .type "Exception", .type "BaseException", .type "object"] "ValueError.__new__" = true)
    (e3_InvalidArm : PySem.W.keepIn K (.ref C_InvalidArm) = true)
    (e4_InvalidArm : PySem.W.subIn K (.ref C_InvalidArm) (.type "BaseException") = some true)
    (e5_InvalidArm : PySem.W.typeIn K (.ref C_InvalidArm) = some (.type "type"))
    (e1_InvalidTurn : PySem.W.nsIn K mainGlobals "InvalidTurn" = some (some (.ref C_InvalidTurn)))
    (e2_InvalidTurn : PySem.W.excIn K C_InvalidTurn [.type "ValueError", .type "Exception", .type "BaseException", .type "object"] "ValueError.__new__" = true)
    (e3_InvalidTurn : PySem.W.keepIn K (.ref C_InvalidTurn) = true)
    (e4_InvalidTurn : PySem.W.subIn K (.ref C_InvalidTurn) (.type "BaseException") = some true)
    (e5_InvalidTurn : PySem.W.typeIn K (.ref C_InvalidTurn) = some (.type "type"))
    (e1_NoVehicle : PySem.W.nsIn K mainGlobals "NoVehicle" = some (some (.ref C_NoVehicle)))
    (e2_NoVehicle : PySem.W.excIn K C_NoVehicle [.type "ValueError", .type "Exception", .type "BaseException", .type "object"] "ValueError.__new__" = true)
    (e3_NoVehicle : PySem.W.keepIn K (.ref C_NoVehicle) = true)
    (e4_NoVehicle : PySem.W.subIn K (.ref C_NoVehicle) (.type "BaseException") = some true)
    (e5_NoVehicle : PySem.W.typeIn K (.ref C_NoVehicle) = some (.type "type"))
    (e1_SameArm : PySem.W.nsIn K mainGlobals "SameArm" = some (some (.ref C_SameArm)))
    (e2_SameArm : PySem.W.excIn K C_SameArm [.type "ValueError", .type "Exception", .type "BaseException", .type "object"] "ValueError.__new__" = true)
    (e3_SameArm : PySem.W.keepIn K (.ref C_SameArm) = true)
    (e4_SameArm : PySem.W.subIn K (.ref C_SameArm) (.type "BaseException") = some true)
    (e5_SameArm : PySem.W.typeIn K (.ref C_SameArm) = some (.type "type"))
    (e1_ArmTaken : PySem.W.nsIn K mainGlobals "ArmTaken" = some (some (.ref C_ArmTaken)))
    (e2_ArmTaken : PySem.W.excIn K C_ArmTaken [.type "ValueError", .type "Exception", .type "BaseException", .type "object"] "ValueError.__new__" = true)
    (e3_ArmTaken : PySem.W.keepIn K (.ref C_ArmTaken) = true)
    (e4_ArmTaken : PySem.W.subIn K (.ref C_ArmTaken) (.type "BaseException") = some true)
    (e5_ArmTaken : PySem.W.typeIn K (.ref C_ArmTaken) = some (.type "type")) :
    ∃ fd : FuncData, (∀ (s : Shared) (u : Value), BindsTo s fd ⟨[u], []⟩ [("_law_script", u)]) ∧ ∀ base : Heap, K.In base → base.Ns mainGlobals mg → FnOk PySem.Challenge.pw_fourarms_k03_whole_conflicts w K mg base (L2.CX PySem.Challenge.pw_fourarms_k03_whole_conflicts w) 4 fa fd ["_law_script"] (spLaw K) := by
  have e := hfa.symm.trans (PySem.W.mg_of X G a_law)
  cases e
  have t_is_traffic : TFn K mg "is_traffic" s_is_traffic ["candidate"] := tfn_mk X G a_is_traffic l_is_traffic q_is_traffic k_is_traffic fun us hl => match us, hl with | [_], _ => rfl
  have t_check_traffic : TFn K mg "check_traffic" s_check_traffic ["value"] := tfn_mk X G a_check_traffic l_check_traffic q_check_traffic k_check_traffic fun us hl => match us, hl with | [_], _ => rfl
  have t_check_arm : TFn K mg "check_arm" s_check_arm ["value"] := tfn_mk X G a_check_arm l_check_arm q_check_arm k_check_arm fun us hl => match us, hl with | [_], _ => rfl
  have t_check_turn : TFn K mg "check_turn" s_check_turn ["value"] := tfn_mk X G a_check_turn l_check_turn q_check_turn k_check_turn fun us hl => match us, hl with | [_], _ => rfl
  have t_find_quarters : TFn K mg "find_quarters" s_find_quarters ["arm", "turn"] := tfn_mk X G a_find_quarters l_find_quarters q_find_quarters k_find_quarters fun us hl => match us, hl with | [_, _], _ => rfl
  have t_find_vehicles : TFn K mg "find_vehicles" s_find_vehicles ["traffic"] := tfn_mk X G a_find_vehicles l_find_vehicles q_find_vehicles k_find_vehicles fun us hl => match us, hl with | [_], _ => rfl
  have t_do_meet : TFn K mg "do_meet" s_do_meet ["traffic", "one", "other"] := tfn_mk X G a_do_meet l_do_meet q_do_meet k_do_meet fun us hl => match us, hl with | [_, _, _], _ => rfl
  have t_check_vehicle : TFn K mg "check_vehicle" s_check_vehicle ["traffic", "arm"] := tfn_mk X G a_check_vehicle l_check_vehicle q_check_vehicle k_check_vehicle fun us hl => match us, hl with | [_, _], _ => rfl
  have t_in_the_way : TFn K mg "in_the_way" s_in_the_way ["traffic", "one", "other"] := tfn_mk X G a_in_the_way l_in_the_way q_in_the_way k_in_the_way fun us hl => match us, hl with | [_, _, _], _ => rfl
  have t_conflicts : TFn K mg "conflicts" s_conflicts ["traffic"] := tfn_mk X G a_conflicts l_conflicts q_conflicts k_conflicts fun us hl => match us, hl with | [_], _ => rfl
  have t_can_join : TFn K mg "can_join" s_can_join ["traffic", "arm", "turn"] := tfn_mk X G a_can_join l_can_join q_can_join k_can_join fun us hl => match us, hl with | [_, _, _], _ => rfl
  have t_largest_free : TFn K mg "largest_free" s_largest_free ["traffic"] := tfn_mk X G a_largest_free l_largest_free q_largest_free k_largest_free fun us hl => match us, hl with | [_], _ => rfl
  have t__law_pick : TFn K mg "_law_pick" s__law_pick ["_law_script", "_law_k", "_law_many"] := tfn_mk X G a__law_pick l__law_pick q__law_pick k__law_pick fun us hl => match us, hl with | [_, _, _], _ => rfl
  have t__law_cars : TFn K mg "_law_cars" s__law_cars ["_law_script", "_law_at"] := tfn_mk X G a__law_cars l__law_cars q__law_cars k__law_cars fun us hl => match us, hl with | [_, _], _ => rfl
  have t__law_path : TFn K mg "_law_path" s__law_path ["_law_arm", "_law_turn"] := tfn_mk X G a__law_path l__law_path q__law_path k__law_path fun us hl => match us, hl with | [_, _], _ => rfl
  have t__law_meet : TFn K mg "_law_meet" s__law_meet ["_law_cars_here", "_law_one", "_law_other"] := tfn_mk X G a__law_meet l__law_meet q__law_meet k__law_meet fun us hl => match us, hl with | [_, _, _], _ => rfl
  let T : Tab := ⟨fun i => match i with
  | _ => 0, fun c => match c with
  | 2 => C_InvalidTraffic
  | 3 => C_InvalidArm
  | 4 => C_InvalidTurn
  | 5 => C_NoVehicle
  | 6 => C_SameArm
  | 7 => C_ArmTaken
  | _ => 0⟩
  have R : RF K w mg T := {
    b_all := PySem.W.mg_none_of X G z_all
    b_any := PySem.W.mg_none_of X G z_any
    b_bool := PySem.W.mg_none_of X G z_bool
    b_int := PySem.W.mg_none_of X G z_int
    b_isinstance := PySem.W.mg_none_of X G z_isinstance
    b_len := PySem.W.mg_none_of X G z_len
    b_list := PySem.W.mg_none_of X G z_list
    b_max := PySem.W.mg_none_of X G z_max
    b_min := PySem.W.mg_none_of X G z_min
    b_range := PySem.W.mg_none_of X G z_range
    b_sorted := PySem.W.mg_none_of X G z_sorted
    b_str := PySem.W.mg_none_of X G z_str
    m_EMPTY := ⟨_, PySem.W.mg_of X G m_EMPTY⟩
    m_LEFT := ⟨_, PySem.W.mg_of X G m_LEFT⟩
    m_MANY := ⟨_, PySem.W.mg_of X G m_MANY⟩
    m_TURNS := ⟨_, PySem.W.mg_of X G m_TURNS⟩
    e_InvalidTraffic := ⟨PySem.W.mg_of X G e1_InvalidTraffic, e2_InvalidTraffic, e3_InvalidTraffic, e4_InvalidTraffic, e5_InvalidTraffic⟩
    e_InvalidArm := ⟨PySem.W.mg_of X G e1_InvalidArm, e2_InvalidArm, e3_InvalidArm, e4_InvalidArm, e5_InvalidArm⟩
    e_InvalidTurn := ⟨PySem.W.mg_of X G e1_InvalidTurn, e2_InvalidTurn, e3_InvalidTurn, e4_InvalidTurn, e5_InvalidTurn⟩
    e_NoVehicle := ⟨PySem.W.mg_of X G e1_NoVehicle, e2_NoVehicle, e3_NoVehicle, e4_NoVehicle, e5_NoVehicle⟩
    e_SameArm := ⟨PySem.W.mg_of X G e1_SameArm, e2_SameArm, e3_SameArm, e4_SameArm, e5_SameArm⟩
    e_ArmTaken := ⟨PySem.W.mg_of X G e1_ArmTaken, e2_ArmTaken, e3_ArmTaken, e4_ArmTaken, e5_ArmTaken⟩ }
  exact ⟨PySem.W.fnOf "law" "law" (defArgs s_law) (defBody s_law) (defScope s_law) .none kV16 dc16 pm16 an16 cd16 ct16, fun s v => .of_eq rfl, fun base _ _ => law_fn R t_is_traffic t_check_traffic t_check_arm t_check_turn t_find_quarters t_find_vehicles t_do_meet t_check_vehicle t_in_the_way t_conflicts t_can_join t_largest_free t__law_pick t__law_cars t__law_path t__law_meet (fun_mk l_law q_law k_law)⟩
end DL
open PySem PySem.W PyProof.Rows
set_option maxRecDepth 100000 in
set_option maxHeartbeats 0 in
theorem PySem.Challenge.cw_fourarms_k03_whole_conflicts_holds : PySem.Challenge.rw_fourarms_k03_whole_conflicts.Holds := by
  w_on; o_law; k_head; (case hw => w_witness2)
  k_fill
  refine DL.walk_d (l := PySem.Challenge.rw_fourarms_k03_whole_conflicts) (k := 4) (x := "_law_script") rfl rfl ⟨rfl, by decide, by decide⟩ (fun w h Y => PySem.W.kIn_of Y) ?F
  case F =>
    intro w mg fa h KX G hmg
    refine' DL.all_mk KX G hmg ?a_is_traffic ?l_is_traffic ?q_is_traffic ?k_is_traffic ?a_check_traffic ?l_check_traffic ?q_check_traffic ?k_check_traffic ?a_check_arm ?l_check_arm ?q_check_arm ?k_check_arm ?a_check_turn ?l_check_turn ?q_check_turn ?k_check_turn ?a_find_quarters ?l_find_quarters ?q_find_quarters ?k_find_quarters ?a_find_vehicles ?l_find_vehicles ?q_find_vehicles ?k_find_vehicles ?a_do_meet ?l_do_meet ?q_do_meet ?k_do_meet ?a_check_vehicle ?l_check_vehicle ?q_check_vehicle ?k_check_vehicle ?a_in_the_way ?l_in_the_way ?q_in_the_way ?k_in_the_way ?a_conflicts ?l_conflicts ?q_conflicts ?k_conflicts ?a_can_join ?l_can_join ?q_can_join ?k_can_join ?a_largest_free ?l_largest_free ?q_largest_free ?k_largest_free ?a__law_pick ?l__law_pick ?q__law_pick ?k__law_pick ?a__law_cars ?l__law_cars ?q__law_cars ?k__law_cars ?a__law_path ?l__law_path ?q__law_path ?k__law_path ?a__law_meet ?l__law_meet ?q__law_meet ?k__law_meet ?a_law ?l_law ?q_law ?k_law ?z_all ?z_any ?z_bool ?z_int ?z_isinstance ?z_len ?z_list ?z_max ?z_min ?z_range ?z_sorted ?z_str ?m_EMPTY ?m_LEFT ?m_MANY ?m_TURNS ?e1_InvalidTraffic ?e2_InvalidTraffic ?e3_InvalidTraffic ?e4_InvalidTraffic ?e5_InvalidTraffic ?e1_InvalidArm ?e2_InvalidArm ?e3_InvalidArm ?e4_InvalidArm ?e5_InvalidArm ?e1_InvalidTurn ?e2_InvalidTurn ?e3_InvalidTurn ?e4_InvalidTurn ?e5_InvalidTurn ?e1_NoVehicle ?e2_NoVehicle ?e3_NoVehicle ?e4_NoVehicle ?e5_NoVehicle ?e1_SameArm ?e2_SameArm ?e3_SameArm ?e4_SameArm ?e5_SameArm ?e1_ArmTaken ?e2_ArmTaken ?e3_ArmTaken ?e4_ArmTaken ?e5_ArmTaken
    (case a_is_traffic => k_is); (case l_is_traffic => k_is); (case q_is_traffic => k_is); (case k_is_traffic => k_is); (case a_check_traffic => k_is); (case l_check_traffic => k_is); (case q_check_traffic => k_is); (case k_check_traffic => k_is)
    (case a_check_arm => k_is); (case l_check_arm => k_is); (case q_check_arm => k_is); (case k_check_arm => k_is); (case a_check_turn => k_is); (case l_check_turn => k_is); (case q_check_turn => k_is); (case k_check_turn => k_is)
    (case a_find_quarters => k_is); (case l_find_quarters => k_is); (case q_find_quarters => k_is); (case k_find_quarters => k_is); (case a_find_vehicles => k_is); (case l_find_vehicles => k_is); (case q_find_vehicles => k_is); (case k_find_vehicles => k_is)
    (case a_do_meet => k_is); (case l_do_meet => k_is); (case q_do_meet => k_is); (case k_do_meet => k_is); (case a_check_vehicle => k_is); (case l_check_vehicle => k_is); (case q_check_vehicle => k_is); (case k_check_vehicle => k_is)
    (case a_in_the_way => k_is); (case l_in_the_way => k_is); (case q_in_the_way => k_is); (case k_in_the_way => k_is); (case a_conflicts => k_is); (case l_conflicts => k_is); (case q_conflicts => k_is); (case k_conflicts => k_is)
    (case a_can_join => k_is); (case l_can_join => k_is); (case q_can_join => k_is); (case k_can_join => k_is); (case a_largest_free => k_is); (case l_largest_free => k_is); (case q_largest_free => k_is); (case k_largest_free => k_is)
    (case a__law_pick => k_is); (case l__law_pick => k_is); (case q__law_pick => k_is); (case k__law_pick => k_is); (case a__law_cars => k_is); (case l__law_cars => k_is); (case q__law_cars => k_is); (case k__law_cars => k_is)
    (case a__law_path => k_is); (case l__law_path => k_is); (case q__law_path => k_is); (case k__law_path => k_is); (case a__law_meet => k_is); (case l__law_meet => k_is); (case q__law_meet => k_is); (case k__law_meet => k_is)
    (case a_law => k_is); (case l_law => k_is); (case q_law => k_is); (case k_law => k_is); (case z_all => k_is); (case z_any => k_is); (case z_bool => k_is); (case z_int => k_is)
    (case z_isinstance => k_is); (case z_len => k_is); (case z_list => k_is); (case z_max => k_is); (case z_min => k_is); (case z_range => k_is); (case z_sorted => k_is); (case z_str => k_is)
    (case m_EMPTY => k_is); (case m_LEFT => k_is); (case m_MANY => k_is); (case m_TURNS => k_is); (case e1_InvalidTraffic => k_is); (case e2_InvalidTraffic => k_exc); (case e3_InvalidTraffic => k_is); (case e4_InvalidTraffic => k_is)
    (case e5_InvalidTraffic => k_is); (case e1_InvalidArm => k_is); (case e2_InvalidArm => k_exc); (case e3_InvalidArm => k_is); (case e4_InvalidArm => k_is); (case e5_InvalidArm => k_is); (case e1_InvalidTurn => k_is); (case e2_InvalidTurn => k_exc)
    (case e3_InvalidTurn => k_is); (case e4_InvalidTurn => k_is); (case e5_InvalidTurn => k_is); (case e1_NoVehicle => k_is); (case e2_NoVehicle => k_exc); (case e3_NoVehicle => k_is); (case e4_NoVehicle => k_is); (case e5_NoVehicle => k_is)
    (case e1_SameArm => k_is); (case e2_SameArm => k_exc); (case e3_SameArm => k_is); (case e4_SameArm => k_is); (case e5_SameArm => k_is); (case e1_ArmTaken => k_is); (case e2_ArmTaken => k_exc); (case e3_ArmTaken => k_is)
    (case e4_ArmTaken => k_is); (case e5_ArmTaken => k_is)
#print axioms PySem.Challenge.cw_fourarms_k03_whole_conflicts_holds
