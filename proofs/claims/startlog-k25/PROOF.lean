import PyProof.Rows.All
import HandS.ForMost
import KE.SortData
import HandS.ExcField
import HandS.ExcInit
import HandS.ExcIs
import HandS.Wide
import HandS.Exc
import HandS.HeadHook1
import HandS.TupAny
import HandS.Deep
import HandS.IsInst
import HandS.Style
import HandS.Flow
import HandS.RaiseMore
import PyProof.ReprRoads
import PyProof.ListStr
import HandS.SortInts
import HandS.WideBits
import HandS.SetFor
import HandS.SetKeys
import PyProof.Rows.SetFrom
import HandS.Defaults
import HandS.Walk
import HandS.Zip
import KE.GoesEnum
import HandS.Comp
import PyProof.CollectIter
import PyProof.WalksMore
import PyProof.MakeMany
import HandS.NoneIn
import HandS.More
import HandS.Replace
import HandS.Strs
import KE.KExcIs
import HandS.Conv
import HandS.Ends
import HandS.HeadEnd
import HandS.Codes
import HandS.Head0
import HandS.Head1
import HandS.Head2
import HandS.HeadHook2
import PyProof.StrLawsRepr
import PyProof.FitsInt
import PySem.Challenge.RW_startlog_k25_rows_that_no_board_tells_ap
set_option linter.all false
set_option Elab.async false
set_option maxRecDepth 100000
set_option maxHeartbeats 0
namespace Ev
open PySem

/-- a text by its signs' numbers -/
abbrev Tx := List Nat
/-- a thing as data; the flag of a list or dict: nobody else holds it -/
inductive D where
  | non | bl (b : Bool) | int (i : Int) | str (x : List Nat)
  | tup (xs : List D) | lst (o : Bool) (xs : List D) | dic (o : Bool) (ks vs : List D)
  | kst (xs : List D) | ptr (k : Nat) | fn (f : Nat) | ins (c : Nat) (fs : List D) | exc (c : Nat) (w : D)
  deriving Inhabited

mutual
/-- shared from now on -/
def fz : D → D
  | .tup xs => .tup (fzL xs)
  | .lst _ xs => .lst false (fzL xs)
  | .dic _ ks vs => .dic false (fzL ks) (fzL vs)
  | .kst xs => .kst (fzL xs)
  | .ins c fs => .ins c (fzL fs)
  | .exc c w => .exc c (fz w)
  | d => d
def fzL : List D → List D
  | [] => []
  | x :: xs => fz x :: fzL xs
end
mutual
/-- nothing in it is owned -/
def nf : D → Bool
  | .tup xs => nfL xs
  | .lst o xs => !o && nfL xs
  | .dic o ks vs => !o && (nfL ks && nfL vs)
  | .kst xs => nfL xs
  | .ins _ fs => nfL fs
  | .exc _ w => nf w
  | _ => true
def nfL : List D → Bool
  | [] => true
  | x :: xs => nf x && nfL xs
end
/-- its items may be handed on -/
def nfT : D → Bool
  | .lst _ xs => nfL xs
  | .dic _ ks vs => nfL ks && nfL vs
  | d => nf d
abbrev Env := List (Option D)
mutual
/-- no cell in it -/
def noP : D → Bool
  | .non | .bl _ | .int _ | .str _ => true
  | .tup xs => noPL xs
  | .lst _ xs => noPL xs
  | .kst xs => noPL xs
  | .ins _ fs => noPL fs
  | .exc _ w => noP w
  | _ => false
def noPL : List D → Bool
  | [] => true
  | x :: xs => noP x && noPL xs
end
def scalar : D → Bool
  | .non | .bl _ | .int _ | .str _ => true
  | _ => false
mutual
/-- all of it its own, numbers and the like aside -/
def ownD : D → Bool
  | .non | .bl _ | .int _ | .str _ => true
  | .lst true xs => ownL xs
  | _ => false
def ownL : List D → Bool
  | [] => true
  | x :: xs => ownD x && ownL xs
end
def tri3 : List D → Bool
  | [.int _, .int _, .int _] => true
  | _ => false
mutual
/-- no list of three numbers (as a box of draws is one) is owned in it -/
def noTri : D → Bool
  | .non | .bl _ | .int _ | .str _ | .ptr _ | .kst _ | .lst false _ | .ins _ _ => true
  | .tup xs => noTriL xs
  | .lst true xs => !tri3 xs && noTriL xs
  | _ => false
def noTriL : List D → Bool
  | [] => true
  | x :: xs => noTri x && noTriL xs
end
mutual
/-- numbers and the like, tuples of them -/
def tupD : D → Bool
  | .non | .bl _ | .int _ | .str _ => true
  | .tup xs => tupDL xs
  | _ => false
def tupDL : List D → Bool
  | [] => true
  | x :: xs => tupD x && tupDL xs
end

/-- a thing with an identity: a box of draws (so many are left), or what is changed by several -/
inductive Cell where
  | box (n : Nat) | val (d : D) | obj (c : Nat) (fs : List D) | gone
  deriving Inhabited
abbrev Stt := List Cell
def boxB : Cell → Bool
  | .box _ | .gone => true
  | _ => false
/-- the names of the fields that the program's own classes have -/
def fldT : List Str := ("width" :: "factor" :: "name" :: "body" :: "loads" :: "lies" :: "own_name" :: "own_key" :: "own_mixing" :: "own_many" :: "own_fixed" :: "own_plan" :: "own_hands" :: "own_at" :: "own_starts" :: "own_rows" :: "own_values" :: "own_policy" :: "own_asked" :: "own_last" :: "own_history" :: "own_life" :: "own_most" :: "own_entries" :: "own_ticks" :: "own_next" :: "log_rows" :: "rows_open" :: "own_book" :: "own_machines" :: "own_numbers" :: "own_way" :: "own_policies" :: "own_letters" :: "own_logs" :: "own_nexts" :: "what" :: [])
/-- a class of the program's own: its fields in the order in which they come to be; whether they stay -/
structure ClsI where
  name : Str
  flds : List Nat
  frz : Bool
def clsT : List ClsI := [⟨"Mixing", [0, 1], true⟩, ⟨"Hand", [2, 3, 4, 5], true⟩, ⟨"Machine", [6, 7, 8, 9, 10, 11, 12, 14, 13, 15, 16], false⟩, ⟨"Entry", [7, 8, 9, 10, 17, 11, 18, 19, 20], false⟩,
  ⟨"Book", [21, 22, 23, 24, 25, 26, 27], false⟩, ⟨"Yard", [28, 29, 30, 31], false⟩, ⟨"Pairs", [32, 33, 34], false⟩, ⟨"Ways", [15, 35], false⟩]
def fIx (n : Nat) : List Nat → Option Nat
  | [] => none
  | m :: r => if n = m then some 0 else (fIx n r).map (· + 1)
def fldsOf (c : Nat) : List Nat := match clsT[c]? with | some i => i.flds | none => []
def frzOf (c : Nat) : Bool := match clsT[c]? with | some i => i.frz | none => false
def fldIx (c n : Nat) : Option Nat := fIx n (fldsOf c)
/-- the program's own refusals -/
def excT : List Str := ("StartError" :: "NoName" :: "NoRow" :: "BadMixing" :: "NoBoard" :: "BadLog" :: "BadStep" :: "BadHand" :: "BadMachine" :: "NotYet" :: "Fixed" :: "BadText" :: "BadLine" :: "Known" :: "Unknown" :: "TooMany" :: "BadDeed" :: "NoNumber" :: "NoPacket" :: [])
abbrev Exn := Nat × D

inductive Op2 where | add | sub | mul | fdiv | mod | pow
  deriving DecidableEq
inductive Cm where | lt | le | gt | ge | eq | ne | is_ | isNot | in_ | notIn
  deriving DecidableEq
/-- what is walked -/
inductive Ik where | seq | rng | enum | zip | enumzip | items | vals
  deriving DecidableEq
/-- classes that things are asked for -/
inductive Ty where | int | str | bool | list | tuple | dict | own (c : Nat)
  deriving DecidableEq
/-- what is built in and only reads -/
inductive Blt where
  | len | abs | isi (ts : List Ty) | int1 | str1 | repr | tuple | list | range | listenum | listzip | max2 | min2 | max1 | min1 | sum1 | all | any | sorted | sortedset | divmod | isx (ks : List Nat)
  deriving DecidableEq
/-- methods that only read -/
inductive Mr where
  | index | indexT | join | split | count | get1 | get2 | partition | upper
  deriving DecidableEq
/-- methods that change their list or dict -/
inductive Mc where
  | append | pop0 | pop1 | insert | extend | reverse | clear | update | dpop
  deriving DecidableEq
/-- where an argument comes from -/
inductive Ar where | ix (i : Nat) | dv (d : D)

inductive Tg where
  | nm (i : Nat) | tup (ts : List Tg) | star (ts : List Tg) (i : Nat) (us : List Tg)

inductive IE where
  | con (d : D) | var (i : Nat)
  | op (o : Op2) (a b : IE) | neg (a : IE) | lrg (a : IE)
  | cmp (c : Cm) (a b : IE) | chain (c c' : Cm) (a b e : IE)
  | and_ (a b : IE) | or_ (a b : IE) | not_ (a : IE) | ite (t a b : IE)
  | tup (es : List IE) | lst (es : List IE) | dic (ks vs : List IE)
  | idx (a i : IE) | idxM (a i : IE) | vw (a i : IE) | idxL (v : Nat) (i : IE) | frz (a : IE) | slc (a : IE) (lo hi : Option IE) | rev (a : IE)
  | attr (a : IE) (n : Nat) | meth (tb : List (Nat × Nat × List Ar)) (o : IE) (es ks : List IE) | mk (f : Nat) (es ks : List IE) (pm : List Ar)
  | call (f : Nat) (es ks : List IE) (pm : List Ar) | callP (f : Nat) (es ks : List IE) (pm : List Ar) | callL (f : Nat) (es ks : List IE) (pm : List Ar)
  | blt (b : Blt) (es : List IE) | mr (m : Mr) (a : IE) (es : List IE) | mc (m : Mc) (a : IE) (es : List IE)
  | comp (ik : Ik) (its : List IE) (tg : Tg) (ifs : List IE) (elt : IE) (own : List Nat)
  | comp2 (ik : Ik) (its : List IE) (tg : Tg) (ifs : List IE) (ik1 : Ik) (its1 : List IE) (tg1 : Tg) (ifs1 : List IE) (elt : IE) (own own1 : List Nat)
  | fstr (es : List IE)

inductive IS where
  | asg (t : Tg) (e : IE) | asgP (i : Nat) (e : IE) | aug (i : Nat) (o : Op2) (e : IE) | setIx (a i e : IE) | setF (v n : Nat) (e : IE)
  | expr (e : IE) | ret (e : IE) | retN
  | ite (t : IE) (a b : List IS) | for_ (ik : Ik) (its : List IE) (tg : Tg) (body : List IS) | while_ (t : IE) (body : List IS)
  | pass | brk | cont | bad
  | swap (v i j : Nat) | raise_ (c : Nat) (e : IE) | tryS (body : List IS) (k i : Nat) (suite : List IS)

/-- the room of a list or a text -/
def Lim : Nat := 16777216
def sIx (n d : Nat) : Option Int → Nat
  | none => d
  | some v => if v < 0 then (v + (n : Int)).toNat else min v.toNat n
def cut {α : Type} (xs : List α) (lo hi : Option Int) : List α := (xs.drop (sIx xs.length 0 lo)).take (sIx xs.length xs.length hi - sIx xs.length 0 lo)
def ixn (n : Nat) (i : Int) : Option Nat := if 0 ≤ i then (if i < n then some i.toNat else none) else if -(n : Int) ≤ i then some (i + n).toNat else none
def atx {α : Type} (xs : List α) (i : Int) : Option α := (ixn xs.length i).bind fun j => xs[j]?

mutual
def eqd : D → D → Bool
  | .non, .non => true
  | .bl a, .bl b => a == b
  | .bl a, .int j => (if a then 1 else 0) == j
  | .int i, .bl b => i == (if b then 1 else 0)
  | .int i, .int j => i == j
  | .str x, .str y => x == y
  | .lst _ xs, .lst _ ys => eqds xs ys
  | .tup xs, .tup ys => eqds xs ys
  | _, _ => false
def eqds : List D → List D → Bool
  | [], [] => true
  | x :: xs, y :: ys => eqd x y && eqds xs ys
  | _, _ => false
end
mutual
/-- made of numbers, truths, none, texts, lists, tuples alone -/
def plain : D → Bool
  | .non | .bl _ | .int _ => true
  | .str x => x.all fun c => decide (c < 1114112)
  | .lst _ xs => plainL xs
  | .tup xs => plainL xs
  | _ => false
def plainL : List D → Bool
  | [] => true
  | x :: xs => plain x && plainL xs
end
mutual
def dep : D → Nat
  | .lst _ xs => depL xs + 1
  | .tup xs => depL xs + 1
  | _ => 0
def depL : List D → Nat
  | [] => 0
  | x :: xs => max (dep x) (depL xs)
end
/-- may be compared -/
def cmpOk (d : D) : Bool := plain d && decide (dep d ≤ 64)

def MulOk (i j : Int) : Prop := (-(2 ^ 64) < i ∧ i < 2 ^ 64) ∨ (-(2 ^ 64) < j ∧ j < 2 ^ 64) ∨ i.natAbs.log2 + j.natAbs.log2 < 1000000
def op2W (o : Op2) (x y : D) (K : D → Prop) : Prop :=
  match o, x, y with
  | .add, .int i, .int j => K (.int (i + j))
  | .sub, .int i, .int j => K (.int (i - j))
  | .mul, .int i, .int j => MulOk i j ∧ K (.int (i * j))
  | .fdiv, .int i, .int j => (0 < j ∧ j.natAbs.log2 < 9000) ∧ K (.int (i / j))
  | .mod, .int i, .int j => 0 < j ∧ K (.int (i % j))
  | .pow, .int i, .int j => (0 ≤ j ∧ j ≤ 1000000 ∧ i.natAbs < 2 ^ 64) ∧ K (.int (i ^ j.toNat))
  | .add, .str a, .str b => a.length + b.length ≤ Lim ∧ K (.str (a ++ b))
  | .add, .lst _ xs, .lst _ ys => xs.length + ys.length ≤ Lim ∧ (nfL xs && nfL ys) = true ∧ K (.lst true (xs ++ ys))
  | .add, .tup xs, .tup ys => xs.length + ys.length ≤ Lim ∧ (nfL xs && nfL ys) = true ∧ K (.tup (xs ++ ys))
  | .mul, .lst _ xs, .int n => ((-(2 ^ 63) ≤ n ∧ n < 2 ^ 63) ∧ xs.length * n.toNat ≤ Lim) ∧ nfL xs = true ∧ K (.lst true (List.replicate n.toNat xs).flatten)
  | _, _, _ => False
def scl : D → D → Bool
  | .bl _, .int _ => false
  | .int _, .bl _ => false
  | x, y => scalar x && scalar y
def inD (x : D) (ys : List D) : Bool := ys.any fun y => eqd y x
def isNonD : D → Bool
  | .non => true
  | _ => false
/-- a text of one sign -/
def sgW (a : Tx) (K : Nat → Prop) : Prop := match a with | [n] => K n | _ => False
def cmpW (c : Cm) (x y : D) (K : Bool → Prop) : Prop :=
  match c, x, y with
  | .lt, .int i, .int j => K (decide (i < j))
  | .le, .int i, .int j => K (decide (i ≤ j))
  | .gt, .int i, .int j => K (decide (j < i))
  | .ge, .int i, .int j => K (decide (j ≤ i))
  | .lt, .str a, .str b => K (decide (a < b))
  | .eq, x, y => (scl x y || (cmpOk x && cmpOk y)) = true ∧ K (eqd x y)
  | .ne, x, y => (scl x y || (cmpOk x && cmpOk y)) = true ∧ K (!eqd x y)
  | .is_, x, .non => K (isNonD x)
  | .isNot, x, .non => K (!isNonD x)
  | .is_, .bl b, .bl c => K (b == c)
  | .isNot, .bl b, .bl c => K (!(b == c))
  | .in_, .str a, .str b => sgW a fun n => K (decide (n ∈ b))
  | .notIn, .str a, .str b => sgW a fun n => K (!decide (n ∈ b))
  | .in_, x, .lst _ ys => (cmpOk x && cmpOk (.tup ys)) = true ∧ K (inD x ys)
  | .in_, .tup xs, .tup ys => (cmpOk (.tup xs) && cmpOk (.tup ys)) = true ∧ K (inD (.tup xs) ys)
  | .in_, x, .tup ys => (scalar x && ys.all scalar) = true ∧ K (inD x ys)
  | .notIn, x, .lst _ ys => (cmpOk x && cmpOk (.tup ys)) = true ∧ K (!inD x ys)
  | .notIn, .tup xs, .tup ys => (cmpOk (.tup xs) && cmpOk (.tup ys)) = true ∧ K (!inD (.tup xs) ys)
  | .notIn, x, .tup ys => (scalar x && ys.all scalar) = true ∧ K (!inD x ys)
  | _, _, _ => False
def truW (x : D) (K : Bool → Prop) : Prop :=
  match x with
  | .non => K false
  | .bl b => K b
  | .int i => K (i != 0)
  | .str y => y.length ≤ Lim ∧ K (!y.isEmpty)
  | .lst _ xs => K (!xs.isEmpty)
  | .tup xs => K (!xs.isEmpty)
  | _ => False
def onV (o : Option D) (K : D → Prop) : Prop := match o with | some d => K d | none => False
def onE (o : Option Env) (K : Env → Prop) : Prop := match o with | some d => K d | none => False
def natW (o : Option Nat) (K : Nat → Prop) : Prop := match o with | some j => K j | none => False
def nsW (o : Option (List Int)) (K : List Int → Prop) : Prop := match o with | some j => K j | none => False
def bsW (o : Option (List Bool)) (K : List Bool → Prop) : Prop := match o with | some j => K j | none => False
def idxW (x y : D) (K : D → Prop) : Prop :=
  match x, y with
  | .lst _ xs, .int i => onV (atx xs i) K
  | .kst xs, .int i => onV (atx xs i) K
  | .tup xs, .int i => onV (atx xs i) K
  | .str z, .int i => z.length ≤ Lim ∧ natW (atx z i) fun c => K (.str [c])
  | _, _ => False
def oInt : Option D → Option (Option Int)
  | none => some none
  | some (.int i) => some (some i)
  | _ => none
def slcL (xs : List D) (l h : Option (Option Int)) (K : List D → Prop) : Prop := match l, h with | some l, some h => nfL xs = true ∧ K (cut xs l h) | _, _ => False
def slcS (xs : Tx) (l h : Option (Option Int)) (K : Tx → Prop) : Prop := match l, h with | some l, some h => xs.length ≤ Lim ∧ K (cut xs l h) | _, _ => False
def slcW (x : D) (lo hi : Option D) (K : D → Prop) : Prop :=
  match x with
  | .lst _ xs => slcL xs (oInt lo) (oInt hi) fun ys => K (.lst true ys)
  | .kst xs => slcL xs (oInt lo) (oInt hi) fun ys => K (.lst true ys)
  | .tup xs => slcL xs (oInt lo) (oInt hi) fun ys => K (.tup ys)
  | .str xs => slcS xs (oInt lo) (oInt hi) fun ys => K (.str ys)
  | _ => False
def revW (x : D) (K : D → Prop) : Prop :=
  match x with
  | .lst _ xs => nfL xs = true ∧ K (.lst true xs.reverse)
  | _ => False
def isOk : D → Bool
  | .non | .bl _ | .int _ | .str _ | .tup _ | .lst _ _ => true
  | _ => false
def isTy (x : D) : Ty → Bool
  | .int => match x with | .int _ | .bl _ => true | _ => false
  | .str => match x with | .str _ => true | _ => false
  | .bool => match x with | .bl _ => true | _ => false
  | .list => match x with | .lst _ _ => true | .kst _ => true | _ => false
  | .tuple => match x with | .tup _ => true | _ => false
  | .dict => match x with | .dic _ _ _ => true | _ => false
  | .own c => match x with | .ins e _ => e == c | _ => false

mutual
/-- as the library's own data -/
def py : D → PyData
  | .non => .none
  | .bl b => .bool b
  | .int i => .int i
  | .str x => .str ⟨x.toArray⟩
  | .lst _ xs => .list (pyL xs)
  | .tup xs => .tuple (pyL xs)
  | _ => .none
def pyL : List D → List PyData
  | [] => []
  | x :: xs => py x :: pyL xs
end
/-- how a thing is shown -/
def shown (d : D) : Tx := (py d).shown.cps.toList
def showOk (d : D) : Prop := (plain d = true ∧ dep d ≤ 64) ∧ (py d).showable = true ∧ (shown d).length ≤ Lim
def digits (i : Int) : Tx := (toString i).toList.map Char.toNat
def bools : List D → Option (List Bool)
  | [] => some []
  | .bl b :: r => (bools r).map (b :: ·)
  | _ => none
def numsOf : List D → Option (List Int)
  | [] => some []
  | .int i :: r => (numsOf r).map (i :: ·)
  | _ => none
def maxI (a b : Int) : Int := if b > a then b else a
def minI (a b : Int) : Int := if b < a then b else a
def insI (a : Int) : List Int → List Int
  | [] => [a]
  | b :: r => if a ≤ b then a :: b :: r else b :: insI a r
def sortI : List Int → List Int
  | [] => []
  | a :: r => insI a (sortI r)
/-- texts alone -/
def strsOf : List D → Option (List Tx)
  | [] => some []
  | .str x :: r => (strsOf r).map (x :: ·)
  | _ => none
def joinT (sep : Tx) : List Tx → Tx
  | [] => []
  | [x] => x
  | x :: y :: r => x ++ (sep ++ joinT sep (y :: r))
def splitT (c : Nat) : Tx → List Tx
  | [] => [[]]
  | x :: r => if x = c then [] :: splitT c r else match splitT c r with
    | p :: q => (x :: p) :: q
    | [] => [[x]]
/-- each once -/
def dd {α : Type} [DecidableEq α] : List α → List α
  | [] => []
  | x :: xs => if x ∈ dd xs then dd xs else x :: dd xs
def leT (x y : Tx) : Bool := decide (x ≤ y)
/-- sorted(set(..)) of numbers, or of texts -/
def ssetW (xs : List D) (K : List D → Prop) : Prop := xs.length ≤ 1000 ∧ match numsOf xs with
  | some ns => K ((sortI (dd ns)).map D.int)
  | none => match strsOf xs with
    | some ss => K (((dd ss).mergeSort leT).map D.str)
    | none => False
/-- the order of things that can be compared -/
def leD (x y : D) : Bool := PySem.W.dataLe false py x y
/-- may be sorted -/
def SrtOk (xs : List D) : Prop := ((plainL xs = true ∧ depL xs ≤ 60) ∧ PySem.W.AllAlike (pyL xs) ∧ PySem.W.Sortable (pyL xs)) ∧ nfL xs = true
def srtW (xs : List D) (K : List D → Prop) : Prop := match numsOf xs with
  | some ns => K ((sortI ns).map D.int)
  | none => SrtOk xs ∧ K (xs.mergeSort leD)
def rangeD (a b : Int) : List D := (List.range (b - a).toNat).map fun i => .int (a + (i : Nat))
def enumFrom (n : Nat) : List D → List D
  | [] => []
  | x :: xs => .tup [.int n, x] :: enumFrom (n + 1) xs
def zipD : List D → List D → List D
  | x :: xs, y :: ys => .tup [x, y] :: zipD xs ys
  | _, _ => []
def InR (i : Int) : Prop := -(2 ^ 62) ≤ i ∧ i < 2 ^ 62
def seqOf : D → Option (List D)
  | .lst _ xs => some xs
  | .tup xs => some xs
  | _ => none
def itemsW (ik : Ik) (ds : List D) (K : List D → Prop) : Prop :=
  match ik, ds with
  | .seq, [.lst _ xs] => K xs
  | .seq, [.kst xs] => K xs
  | .seq, [.tup xs] => K xs
  | .seq, [.str z] => K (z.map fun c => .str [c])
  | .rng, [.int a] => InR a ∧ K (rangeD 0 a)
  | .rng, [.int a, .int b] => (InR a ∧ InR b) ∧ K (rangeD a b)
  | .enum, [.lst _ xs] => K (enumFrom 0 xs)
  | .enum, [.tup xs] => K (enumFrom 0 xs)
  | .zip, [.lst _ xs, .lst _ ys] => K (zipD xs ys)
  | .zip, [.tup xs, .tup ys] => K (zipD xs ys)
  | _, _ => False
def bltW (b : Blt) (ds : List D) (K : D → Prop) : Prop :=
  match b, ds with
  | .len, [.lst _ xs] => K (.int xs.length)
  | .len, [.kst xs] => K (.int xs.length)
  | .len, [.tup xs] => K (.int xs.length)
  | .len, [.str x] => x.length ≤ Lim ∧ K (.int x.length)
  | .abs, [.int i] => K (.int (if i < 0 then -i else i))
  | .isi ts, [x] => isOk x = true ∧ K (.bl (ts.any (isTy x)))
  | .isx ks, [.exc c w] => K (.bl (ks.any fun k => k == 0 || c == k))
  | .int1, [.int i] => K (.int i)
  | .int1, [.bl b] => K (.int (if b then 1 else 0))
  | .str1, [.int i] => i.natAbs.log2 < 1920 ∧ K (.str (digits i))
  | .str1, [.str x] => K (.str x)
  | .repr, [.int i] => i.natAbs.log2 < 1920 ∧ K (.str (digits i))
  | .repr, [.non] => K (.str (shown .non))
  | .repr, [.bl b] => K (.str (shown (.bl b)))
  | .repr, [.str x] => (shown (.str x)).length ≤ Lim ∧ K (.str (shown (.str x)))
  | .repr, [.lst o xs] => showOk (.lst o xs) ∧ K (.str (shown (.lst o xs)))
  | .repr, [.tup xs] => showOk (.tup xs) ∧ K (.str (shown (.tup xs)))
  | .tuple, [.lst _ xs] => nfL xs = true ∧ K (.tup xs)
  | .tuple, [.tup xs] => nfL xs = true ∧ K (.tup xs)
  | .list, [.lst _ xs] => nfL xs = true ∧ K (.lst true xs)
  | .list, [.kst xs] => nfL xs = true ∧ K (.lst true xs)
  | .list, [.tup xs] => nfL xs = true ∧ K (.lst true xs)
  | .max2, [.int i, .int j] => K (.int (if j > i then j else i))
  | .min2, [.int i, .int j] => K (.int (if j < i then j else i))
  | .list, [.str z] => z.length ≤ Lim ∧ K (.lst true (z.map fun c => .str [c]))
  | .max1, [.lst _ xs] => nsW (numsOf xs) fun ns => 0 < ns.length ∧ K (.int (ns.tail.foldl maxI (ns.headD 0)))
  | .min1, [.lst _ xs] => nsW (numsOf xs) fun ns => 0 < ns.length ∧ K (.int (ns.tail.foldl minI (ns.headD 0)))
  | .sum1, [.lst _ xs] => nsW (numsOf xs) fun ns => K (.int ns.sum)
  | .sorted, [.lst _ xs] => srtW xs fun ys => K (.lst true ys)
  | .sorted, [.tup xs] => SrtOk xs ∧ K (.lst true (xs.mergeSort leD))
  | .sortedset, [.lst _ xs] => ssetW xs fun ys => K (.lst true ys)
  | .divmod, [.int i, .int j] => (0 < j ∧ j.natAbs.log2 < 9000) ∧ K (.tup [.int (i / j), .int (i % j)])
  | .all, [.lst _ xs] => bsW (bools xs) fun bs => K (.bl (bs.all id))
  | .any, [.lst _ xs] => bsW (bools xs) fun bs => K (.bl (bs.any id))
  | _, _ => False
def ssW (o : Option (List Tx)) (K : List Tx → Prop) : Prop := match o with | some j => K j | none => False
/-- a small letter made great (of the plain signs) -/
def upC (c : Nat) : Nat := if 97 ≤ c ∧ c ≤ 122 then c - 32 else c
def mrW (m : Mr) (x : D) (ds : List D) (K : D → Prop) : Prop :=
  match m, x, ds with
  | .join, .str sep, [.lst _ xs] => ssW (strsOf xs) fun ys => (ys.map List.length).sum + ys.length * sep.length ≤ Lim ∧ K (.str (joinT sep ys))
  | .index, .str a, [.str b] => sgW b fun n => n ∈ a ∧ K (.int (a.idxOf n : Nat))
  | .indexT, .tup xs, [.str b] => ssW (strsOf xs) fun ys => b ∈ ys ∧ K (.int (ys.idxOf b : Nat))
  | .index, .lst _ xs, [d] => (scalar d && xs.all scalar) = true ∧ natW (xs.findIdx? fun y => eqd y d) fun j => K (.int (j : Nat))
  | .split, .str a, [.str b] => sgW b fun n => (n < 256 ∧ a.length + 2 ≤ Lim) ∧ K (.lst true ((splitT n a).map D.str))
  | .upper, .str a, [] => (a.all (fun c => decide (c < 128)) && decide (a.length ≤ 1000000)) = true ∧ K (.str (a.map upC))
  | _, _, _ => False
/-- whose method it is -/
def mrOk (m : Mr) (x : D) : Bool :=
  match m, x with
  | .join, .str _ => true
  | .index, .str _ => true
  | .index, .lst _ _ => true
  | .indexT, .tup _ => true
  | .split, .str _ => true
  | .upper, .str _ => true
  | _, _ => false
/-- a list changed: what is told, and the items behind -/
def mcW (m : Mc) (xs : List D) (ds : List D) (K : D → List D → Prop) : Prop :=
  match m, ds with
  | .append, [d] => xs.length < Lim ∧ K .non (xs ++ [d])
  | .reverse, [] => nfL xs = true ∧ K .non xs.reverse
  | .clear, [] => K .non []
  | .insert, [.int i, d] => (xs.length < Lim ∧ 0 ≤ i ∧ i < 2 ^ 63) ∧ nfL xs = true ∧ K .non (xs.take i.toNat ++ [d] ++ xs.drop i.toNat)
  | .pop0, [] => nfL xs = true ∧ onV xs[xs.length - 1]? fun d => K d xs.dropLast
  | .pop1, [.int i] => (-(2 ^ 63) ≤ i ∧ i < 2 ^ 63) ∧ nfL xs = true ∧ natW (ixn xs.length i) fun j => onV xs[j]? fun d => K d (xs.eraseIdx j)
  | .extend, [.lst _ ys] => xs.length + ys.length ≤ Lim ∧ (nfL xs && nfL ys) = true ∧ K .non (xs ++ ys)
  | _, _ => False
def join2 : List D → Option Tx
  | [] => some []
  | .str x :: r => (join2 r).map (x ++ ·)
  | .int i :: r => (join2 r).map (digits i ++ ·)
  | _ => none

abbrev KE := D → Env → Stt → Prop
abbrev KX := Exn → Env → Stt → Prop
abbrev FF := Nat → List D → Stt → (D → Stt → Prop) → (Exn → Stt → Prop) → Prop
structure Kn where
  nx : Env → Stt → Prop
  rt : D → Stt → Prop
  bk : Env → Stt → Prop
  ct : Env → Stt → Prop
  ex : KX
def getV (env : Env) (i : Nat) : Option D := match env[i]? with | some (some d) => some d | _ => none
def wipeE (env : Env) : List Nat → Env
  | [] => env
  | v :: vs => (wipeE env vs).set v none
def backE (old env : Env) : List Nat → Env
  | [] => env
  | v :: vs => (backE old env vs).set v (match old[v]? with | some o => o | none => none)
def hidOk (env : Env) (vs : List Nat) : Bool := vs.all fun v => match env[v]? with | some (some d) => nf d | some none => true | none => false
mutual
def wTg : Tg → D → Env → Option Env
  | .nm i, d, env => if i < env.length then some (env.set i (some d)) else none
  | .tup ts, .tup xs, env => wTgs ts xs env
  | .tup ts, .lst _ xs, env => if nfL xs = true then wTgs ts xs env else none
  | .star ts i us, .tup xs, env => if ts.length + us.length ≤ xs.length ∧ nfL xs = true then
      (wTgs ts (xs.take ts.length) env).bind fun e => (if i < e.length then some (e.set i (some (.lst true ((xs.drop ts.length).take (xs.length - us.length - ts.length))))) else none).bind fun e => wTgs us (xs.drop (xs.length - us.length)) e else none
  | _, _, _ => none
def wTgs : List Tg → List D → Env → Option Env
  | [], [], env => some env
  | t :: ts, x :: xs, env => (wTg t x env).bind fun e => wTgs ts xs e
  | _, _, _ => none
end
def isVar : IE → Bool
  | .var _ => true
  | .vw _ _ => true
  | _ => false
/-- nothing happens in it -/
def quiet : IE → Bool
  | .vw _ _ => true
  | .lst [] => true
  | .con _ => true
  | .var _ => true
  | .op _ (.var _) (.con _) => true
  | .op _ (.con _) (.var _) => true
  | .op _ (.var _) (.var _) => true
  | _ => false
def quietO : Option IE → Bool
  | none => true
  | some e => quiet e
def quietL : List IE → Bool
  | [] => true
  | e :: r => quiet e && quietL r
/-- a list's comprehension, item by item -/
def compL (body : D → Env → Stt → (Option D → Env → Stt → Prop) → Prop) : List D → Env → Stt → (List D → Env → Stt → Prop) → Prop
  | [], env, st, K => K [] env st
  | x :: xs, env, st, K => body x env st fun r e s => match r with
    | none => compL body xs e s K
    | some y => compL body xs e s fun ys => K (y :: ys)
/-- a comprehension of two walks: what each of the outer things brings, joined -/
def compLL (body : D → Env → Stt → (List D → Env → Stt → Prop) → Prop) : List D → Env → Stt → (List D → Env → Stt → Prop) → Prop
  | [], env, st, K => K [] env st
  | x :: xs, env, st, K => body x env st fun ys e s => compLL body xs e s fun zs => K (ys ++ zs)
def forL (body : D → Env → Stt → Kn → Prop) : List D → Env → Stt → Kn → Prop
  | [], env, st, Q => Q.nx env st
  | x :: xs, env, st, Q => body x env st { Q with nx := fun e s => forL body xs e s Q, ct := fun e s => forL body xs e s Q, bk := Q.nx }
def whileL (test : Env → Stt → (Bool → Env → Stt → Prop) → Prop) (body : Env → Stt → Kn → Prop) (Q : Kn) : Nat → Env → Stt → Prop
  | 0, _, _ => False
  | n + 1, env, st => test env st fun b e s => if b = true then body e s { Q with nx := whileL test body Q n, ct := whileL test body Q n, bk := Q.nx } else Q.nx e s
def argOf (vs : List D) : Ar → D
  | .ix i => vs.getD i .non
  | .dv d => d

/-- a cell that holds a thing, looked into -/
def derefD (st : Stt) : D → D
  | .ptr k => match st[k]? with
    | some (.val d) => d
    | _ => .ptr k
  | d => d
/-- a list, one's own or a cell's, changed by G (what comes, and the items behind) -/
def setW (env : Env) (st : Stt) (v : Nat) (x : D) (G : List D → (D → List D → Prop) → Prop) (K : D → Env → Stt → Prop) : Prop :=
  match x with
  | .lst true xs => G xs fun z ys => K z (env.set v (some (.lst true ys))) st
  | .ptr k => match st[k]? with
    | some (.val (.lst true xs)) => G xs fun z ys => K z env (st.set k (.val (.lst true ys)))
    | _ => False
  | _ => False
def isL : D → Bool
  | .lst _ _ => true
  | _ => false
/-- read, not handed on: a name as it lies; else what comes is shared -/
def intW (x : D) (K : Int → Prop) : Prop := match x with | .int i => K i | _ => False
/-- a whole number that is read without anything happening -/
def qv : IE → Env → (Int → Prop) → Prop
  | .con (.int n), _, k => k n
  | .var j, env, k => onV (getV env j) fun x => intW x k
  | .op .add (.var j) (.con (.int n)), env, k => onV (getV env j) fun x => intW x fun i => k (i + n)
  | .op .sub (.var j) (.con (.int n)), env, k => onV (getV env j) fun x => intW x fun i => k (i - n)
  | .idx (.var j) (.con (.int n)), env, k => onV (getV env j) fun x => idxW x (.int n) fun z => intW z k
  | _, _, _ => False
/-- a thing in a thing, looked at where it stands -/
def rdV : IE → Env → Stt → (D → Prop) → Prop
  | .var i, env, st, k => onV (getV env i) fun d => k (derefD st d)
  | .vw a i, env, st, k => rdV a env st fun x => qv i env fun n => idxW x (.int n) k
  | _, _, _, _ => False
def rdC (a : IE) (env : Env) (st : Stt) (run : KE → Prop) (K : KE) : Prop :=
  match a with
  | .var i => onV (getV env i) fun d => K (derefD st d) env st
  | .vw a i => rdV (.vw a i) env st fun d => K d env st
  | _ => run fun d e s => K (fz d) e s
/-- a name that is to be read while more happens: shared first -/
def shW (a : IE) (q : Bool) (env : Env) (k : Env → Prop) : Prop :=
  match q with
  | true => k env
  | false => match a with
    | .var i => onV (getV env i) fun d => k (env.set i (some (fz d)))
    | _ => k env
/-- a list of one's own -/
def ownW (x : D) (K : List D → Prop) : Prop := match x with | .lst true xs => K xs | _ => False
def txW (o : Option Tx) (K : Tx → Prop) : Prop := match o with | some j => K j | none => False
def forB (tg : Tg) (run : Env → Stt → Kn → Prop) (x : D) (env : Env) (st : Stt) (Q : Kn) : Prop := onE (wTg tg x env) fun e => run e st Q
def cmpB (tg : Tg) (own : List Nat) (ifs : Env → Stt → (Bool → Env → Stt → Prop) → KX → Prop) (elt : Env → Stt → KE → KX → Prop) (x : D) (env : Env) (st : Stt) (K : Option D → Env → Stt → Prop) : Prop :=
  onE (wTg tg x env) fun e2 => ifs e2 st (fun b e3 s3 => if b = true then elt e3 s3 (fun y e4 s4 => K (some y) (wipeE e4 own) s4) (fun _ _ _ => False) else K none (wipeE e3 own) s3) (fun _ _ _ => False)
def cmpB2 (tg : Tg) (own : List Nat) (ifs : Env → Stt → (Bool → Env → Stt → Prop) → KX → Prop) (inner : Env → Stt → (List D → Env → Stt → Prop) → Prop) (x : D) (env : Env) (st : Stt) (K : List D → Env → Stt → Prop) : Prop :=
  onE (wTg tg x env) fun e2 => ifs e2 st (fun b e3 s3 => if b = true then inner e3 s3 (fun ys e4 s4 => K ys (wipeE e4 own) s4) else K [] (wipeE e3 own) s3) (fun _ _ _ => False)
/-- may stand while the rest is reckoned -/
def stays (a : IE) (x : D) (q : Bool) : Prop := (!isVar a || nf x || q) = true

/-- a thing's field read -/
def attrW (s : Stt) (x : D) (n : Nat) (K : D → Stt → Prop) : Prop :=
  match x with
  | .exc _ w => n = 36 ∧ nf w = true ∧ K w s
  | .ins c fs => onV ((fldIx c n).bind fun i => fs[i]?) fun z => nf z = true ∧ K z s
  | .ptr k => match s[k]? with
    | some (.obj c fs) => onV ((fldIx c n).bind fun i => fs[i]?) fun z => nf z = true ∧ K z s
    | _ => False
  | _ => False
/-- a thing's field set, or set first -/
def putW (s : Stt) (x : D) (n : Nat) (d : D) (K : Stt → Prop) : Prop :=
  match x with
  | .ptr k => match s[k]? with
    | some (.obj c fs) => natW (fldIx c n) fun i => if i < fs.length then K (s.set k (.obj c (fs.set i d))) else if i = fs.length then K (s.set k (.obj c (fs ++ [d]))) else False
    | _ => False
  | _ => False
/-- a thing's class -/
def clsW (s : Stt) (x : D) (K : Nat → Prop) : Prop :=
  match x with
  | .ins c _ => K c
  | .ptr k => match s[k]? with
    | some (.obj c _) => K c
    | _ => False
  | _ => False
def tbW (tb : List (Nat × Nat × List Ar)) (c : Nat) (K : Nat → List Ar → Prop) : Prop := match tb.lookup c with
  | some (f, pm) => K f pm
  | none => False
/-- made: what is told of a thing whose fields are all set -/
def iniW (c k : Nat) (s : Stt) (K : D → Stt → Prop) : Prop := match s[k]? with
  | some (.obj c' fs) => (c' = c ∧ fs.length = (fldsOf c).length) ∧ if frzOf c = true then K (.ins c (fzL fs)) (s.set k .gone) else K (.ptr k) s
  | _ => False
mutual
/-- an expression's value, handed on -/
def wE (F : FF) : IE → Env → Stt → KE → KX → Prop
  | .con d, env, st, K, _ => K d env st
  | .var i, env, st, K, _ => onV (getV env i) fun d => K (fz d) (env.set i (some (fz d))) st
  | .op o a b, env, st, K, X => shW a (quiet b) env fun env => rdC a env st (fun k => wE F a env st k X) fun x e1 s1 => stays a x (quiet b) ∧ rdC b e1 s1 (fun k => wE F b e1 s1 k X) fun y e2 s2 => op2W o x y fun z => K z e2 s2
  | .neg a, env, st, K, X => rdC a env st (fun k => wE F a env st k X) fun x e s => intW x fun i => K (.int (-i)) e s
  | .lrg a, env, st, K, X => rdC a env st (fun k => wE F a env st k X) fun x e s => intW x fun n => (-(2 ^ 62) ≤ n ∧ n ≤ 16777216) ∧ K (.lst true (rangeD 0 n)) e s
  | .cmp c a b, env, st, K, X => shW a (quiet b) env fun env => rdC a env st (fun k => wE F a env st k X) fun x e1 s1 => stays a x (quiet b) ∧ rdC b e1 s1 (fun k => wE F b e1 s1 k X) fun y e2 s2 => cmpW c x y fun z => K (.bl z) e2 s2
  | .chain c c' a b d, env, st, K, X => rdC a env st (fun k => wE F a env st k X) fun x e1 s1 => nf x = true ∧ rdC b e1 s1 (fun k => wE F b e1 s1 k X) fun y e2 s2 => nf y = true ∧ cmpW c x y fun z =>
      if z = true then rdC d e2 s2 (fun k => wE F d e2 s2 k X) fun u e3 s3 => cmpW c' y u fun t => K (.bl t) e3 s3 else K (.bl false) e2 s2
  | .and_ a b, env, st, K, X => wE F a env st (fun x e s => truW x fun t => if t = true then wE F b e s K X else K x e s) X
  | .or_ a b, env, st, K, X => wE F a env st (fun x e s => truW x fun t => if t = true then K x e s else wE F b e s K X) X
  | .not_ a, env, st, K, X => rdC a env st (fun k => wE F a env st k X) fun x e s => truW x fun t => K (.bl (!t)) e s
  | .ite t a b, env, st, K, X => rdC t env st (fun k => wE F t env st k X) fun x e s => truW x fun c => if c = true then wE F a e s K X else wE F b e s K X
  | .tup es, env, st, K, X => wEs F es env st (fun ds e s => ds.length ≤ Lim ∧ K (.tup ds) e s) X
  | .lst es, env, st, K, X => wEs F es env st (fun ds e s => ds.length ≤ Lim ∧ K (.lst true ds) e s) X
  | .dic _ _, _, _, _, _ => False
  | .idx a i, env, st, K, X => shW a (quiet i) env fun env => rdC a env st (fun k => wE F a env st k X) fun x e1 s1 => stays a x (quiet i) ∧ rdC i e1 s1 (fun k => wE F i e1 s1 k X) fun y e2 s2 => idxW x y fun z => nf z = true ∧ K z e2 s2
  | .idxM a i, env, st, K, X => wE F a env st (fun x e1 s1 => rdC i e1 s1 (fun k => wE F i e1 s1 k X) fun y e2 s2 => idxW x y fun z => K z e2 s2) X
  | .frz a, env, st, K, X => wE F a env st (fun d e s => K (fz d) e s) X
  | .idxL v i, env, st, K, X => onV (getV env v) fun _ => rdC i env st (fun k => wE F i env st k X) fun y e2 s2 => onV (getV e2 v) fun x => idxW (derefD s2 x) y fun z => nf z = true ∧ K z e2 s2
  | .vw a i, env, st, K, _ => rdV (.vw a i) env st fun z => nf z = true ∧ K z env st
  | .slc a lo hi, env, st, K, X => shW a (quietO lo && quietO hi) env fun env => rdC a env st (fun k => wE F a env st k X) fun x e1 s1 => stays a x (quietO lo && quietO hi) ∧ wO F lo e1 s1 (fun l e2 s2 => (oInt l).isSome = true ∧ wO F hi e2 s2 (fun h e3 s3 => (oInt h).isSome = true ∧ slcW x l h fun z => K z e3 s3) X) X
  | .rev a, env, st, K, X => rdC a env st (fun k => wE F a env st k X) fun x e s => revW x fun z => K z e s
  | .attr a n, env, st, K, X => rdC a env st (fun k => wE F a env st k X) fun x e s => attrW s x n fun z s' => K z e s'
  | .meth tb o es ks, env, st, K, X => wE F o env st (fun x e0 s0 => clsW s0 x fun c => tbW tb c fun f pm => wEs F es e0 s0 (fun ds e s => ds.length = es.length ∧ wEs F ks e s (fun zs e2 s2 => zs.length = ks.length ∧ F f (pm.map (argOf (x :: (ds ++ zs)))) s2 (fun d s' => K d e2 s') (fun x s' => X x e2 s')) X) X) X
  | .mk f es ks pm, env, st, K, X => wEs F es env st (fun ds e s => ds.length = es.length ∧ wEs F ks e s (fun zs e2 s2 => zs.length = ks.length ∧ F f (pm.map (argOf (ds ++ zs))) s2 (fun d s' => K d e2 s') (fun x s' => X x e2 s')) X) X
  | .call f es ks pm, env, st, K, X => wEs F es env st (fun ds e s => ds.length = es.length ∧ wEs F ks e s (fun zs e2 s2 => zs.length = ks.length ∧ F f (pm.map (argOf (ds ++ zs))) s2 (fun d s' => K d e2 s') (fun x s' => X x e2 s')) X) X
  | .callP f es ks pm, env, st, K, X => wRs F es env st (fun ds e s => ds.length = es.length ∧ wRs F ks e s (fun zs e2 s2 => (zs.length = ks.length ∧ (nfL ds || quietL ks) = true ∧ (ds ++ zs).all noP = true) ∧ F f (pm.map fun a => fz (argOf (ds ++ zs) a)) [] (fun d _ => (scalar d || ownD d) = true ∧ K d e2 s2) (fun _ _ => False)) X) X
  | .callL f es ks pm, env, st, K, X => wRs F es env st (fun ds e s => ds.length = es.length ∧ wRs F ks e s (fun zs e2 s2 => (zs.length = ks.length ∧ (nfL ds || quietL ks) = true ∧ (ds ++ zs).all noTri = true ∧ s2.all boxB = true) ∧ F f (pm.map fun a => fz (argOf (ds ++ zs) a)) s2 (fun d s' => (s'.all boxB = true ∧ (tupD d || ownD d) = true) ∧ K d e2 s') (fun _ _ => False)) X) X
  | .blt b es, env, st, K, X => wRs F es env st (fun ds e s => bltW b ds fun z => K z e s) X
  | .mr m a es, env, st, K, X => rdC a env st (fun k => wE F a env st k X) fun x e1 s1 => (stays a x (quietL es) ∧ mrOk m x = true) ∧ wRs F es e1 s1 (fun ds e2 s2 => mrW m x ds fun z => K z e2 s2) X
  | .mc m a es, env, st, K, X => match a with
    | .var i => onV (getV env i) fun x0 => isL (derefD st x0) = true ∧ wEs F es env st (fun ds e s => onV (getV e i) fun x => setW e s i x (fun xs R => mcW m xs ds R) fun z e' s' => K z e' s') X
    | _ => False
  | .comp ik its tg ifs elt own, env, st, K, X => wZs F its env st (fun ds e s => itemsW ik ds fun xs => (xs.length ≤ Lim ∧ hidOk e own = true) ∧
      compL (cmpB tg own (fun e2 s2 K2 X2 => wIfs F ifs e2 s2 K2 X2) (fun e2 s2 K2 X2 => wE F elt e2 s2 K2 X2)) xs (wipeE e own) s (fun ys e' s' => K (.lst true ys) (backE e e' own) s')) X
  | .comp2 ik its tg ifs ik1 its1 tg1 ifs1 elt own own1, env, st, K, X => wZs F its env st (fun ds e s => itemsW ik ds fun xs => (xs.length ≤ 4096 ∧ hidOk e own = true) ∧
      compLL (cmpB2 tg own (fun e2 s2 K2 X2 => wIfs F ifs e2 s2 K2 X2) (fun e2 s2 K2 => wZs F its1 e2 s2 (fun ds e3 s3 => itemsW ik1 ds fun zs => zs.length ≤ 4096 ∧ compL (cmpB tg1 own1 (fun e2 s2 K2 X2 => wIfs F ifs1 e2 s2 K2 X2) (fun e2 s2 K2 X2 => wE F elt e2 s2 K2 X2)) zs (wipeE e3 own1) s3 K2) (fun _ _ _ => False))) xs (wipeE e own) s (fun ys e' s' => K (.lst true ys) (backE e e' own) s')) X
  | .fstr es, env, st, K, X => wRs F es env st (fun ds e s => txW (join2 ds) fun t => t.length ≤ Lim ∧ K (.str t) e s) X
def wEs (F : FF) : List IE → Env → Stt → (List D → Env → Stt → Prop) → KX → Prop
  | [], env, st, K, _ => K [] env st
  | a :: r, env, st, K, X => wE F a env st (fun d e s => wEs F r e s (fun ds e2 s2 => K (d :: ds) e2 s2) X) X
def wRs (F : FF) : List IE → Env → Stt → (List D → Env → Stt → Prop) → KX → Prop
  | [], env, st, K, _ => K [] env st
  | a :: r, env, st, K, X => shW a (quietL r) env fun env => rdC a env st (fun k => wE F a env st k X) fun d e s => stays a d (quietL r) ∧ wRs F r e s (fun ds e2 s2 => K (d :: ds) e2 s2) X
/-- handed on and shared -/
def wZs (F : FF) : List IE → Env → Stt → (List D → Env → Stt → Prop) → KX → Prop
  | [], env, st, K, _ => K [] env st
  | a :: r, env, st, K, X => wE F a env st (fun d e s => wZs F r e s (fun ds e2 s2 => K (fz d :: ds) e2 s2) X) X
def wIfs (F : FF) : List IE → Env → Stt → (Bool → Env → Stt → Prop) → KX → Prop
  | [], env, st, K, _ => K true env st
  | a :: r, env, st, K, X => rdC a env st (fun k => wE F a env st k X) fun x e s => truW x fun c => if c = true then wIfs F r e s K X else K false e s
def wO (F : FF) : Option IE → Env → Stt → (Option D → Env → Stt → Prop) → KX → Prop
  | none, env, st, K, _ => K none env st
  | some a, env, st, K, X => rdC a env st (fun k => wE F a env st k X) fun d e s => K (some d) e s
end
def augW (o : Op2) (a b : Int) (K : Int → Prop) : Prop := match o with
  | .add => K (a + b)
  | .sub => K (a - b)
  | .fdiv => (0 < b ∧ b.natAbs.log2 < 9000) ∧ K (a / b)
  | _ => False
/-- a test -/
def wT (F : FF) (a : IE) (env : Env) (st : Stt) (K : Bool → Env → Stt → Prop) (X : KX) : Prop := rdC a env st (fun k => wE F a env st k X) fun x e s => truW x fun b => K b e s
def wR (F : FF) (a : IE) (env : Env) (st : Stt) (K : KE) (X : KX) : Prop := rdC a env st (fun k => wE F a env st k X) K

/-- behind a suite: its name is gone -/
def unbE (i : Nat) (Q : Kn) : Kn := { nx := fun e s => Q.nx (e.set i none) s, rt := Q.rt, bk := fun e s => Q.bk (e.set i none) s, ct := fun e s => Q.ct (e.set i none) s, ex := fun _ _ _ => False }
/-- a clause takes it: all of them, or its own -/
def isExc (k : Nat) (x : Exn) : Bool := k == 0 || x.1 == k
mutual
def wS (F : FF) : IS → Env → Stt → Kn → Prop
  | .asg t e, env, st, Q => wE F e env st (fun d e1 s1 => onE (wTg t d e1) fun e2 => Q.nx e2 s1) Q.ex
  | .asgP i e, env, st, Q => wE F e env st (fun d e1 s1 => ownW d fun xs => i < e1.length ∧ Q.nx (e1.set i (some (.ptr s1.length))) (s1 ++ [.val (.lst true xs)])) Q.ex
  | .aug i o e, env, st, Q => onV (getV env i) fun x => intW x fun a => wR F e env st (fun y e1 s1 => intW y fun b => augW o a b fun z => Q.nx (e1.set i (some (.int z))) s1) Q.ex
  | .setIx a i e, env, st, Q => wE F e env st (fun d e1 s1 => match a with
      | .var v => onV (getV e1 v) fun _ => wR F i e1 s1 (fun y e2 s2 => intW y fun n => onV (getV e2 v) fun x => setW e2 s2 v x (fun xs R => natW (ixn xs.length n) fun j => R .non (xs.set j d)) fun _ e3 s3 => Q.nx e3 s3) Q.ex
      | _ => False) Q.ex
  | .setF v n e, env, st, Q => wE F e env st (fun d e1 s1 => onV (getV e1 v) fun x => putW s1 x n d fun s2 => Q.nx e1 s2) Q.ex
  | .expr e, env, st, Q => wE F e env st (fun _ e1 s1 => Q.nx e1 s1) Q.ex
  | .ret e, env, st, Q => match e with
      | .var i => onV (getV env i) fun d => Q.rt d st
      | _ => wE F e env st (fun d _ s1 => Q.rt d s1) Q.ex
  | .retN, _, st, Q => Q.rt .non st
  | .ite t a b, env, st, Q => wT F t env st (fun c e s => if c = true then wSs F a e s Q else wSs F b e s Q) Q.ex
  | .for_ ik its tg body, env, st, Q => wZs F its env st (fun ds e s => itemsW ik ds fun xs => forL (forB tg fun e2 s2 Q2 => wSs F body e2 s2 Q2) xs e s Q) Q.ex
  | .while_ t body, env, st, Q => ∃ n, whileL (fun e s K => wT F t e s K Q.ex) (fun e s Q1 => wSs F body e s Q1) Q n env st
  | .pass, env, st, Q => Q.nx env st
  | .brk, env, st, Q => Q.bk env st
  | .cont, env, st, Q => Q.ct env st
  | .bad, _, _, _ => False
  | .swap v i j, env, st, Q => onV (getV env i) fun ia => intW ia fun a => onV (getV env j) fun jb => intW jb fun b => onV (getV env v) fun x => ownW x fun xs => nfL xs = true ∧ natW (ixn xs.length a) fun p => natW (ixn xs.length b) fun q => onV xs[p]? fun y => onV xs[q]? fun z => Q.nx (env.set v (some (.lst true ((xs.set p z).set q y)))) st
  | .raise_ c e, env, st, Q => wE F e env st (fun d e1 s1 => Q.ex (c, fz d) e1 s1) Q.ex
  | .tryS body k i suite, env, st, Q => wSs F body env st { Q with ex := fun x e1 s1 => if isExc k x = true then wSs F suite (e1.set i (some (.exc x.1 x.2))) s1 (unbE i Q) else Q.ex x e1 s1 }
def wSs (F : FF) : List IS → Env → Stt → Kn → Prop
  | [], env, st, Q => Q.nx env st
  | a :: r, env, st, Q => wS F a env st { Q with nx := fun e s => wSs F r e s Q }
end

/-- a def: how many parameters, how many names, its text; or one of the draws' own two -/
inductive Fn where
  | body (np ns : Nat) (b : List IS)
  | take | box
  | init (c np ns : Nat) (b : List IS)
/-- a box's draws -/
def Draws : Nat := 2 ^ 36
def wC (P : List Fn) : Nat → FF
  | 0, _, _, _, _, _ => False
  | k + 1, f, ds, st, K, X => match P[f]? with
    | some (.body np ns b) => ds.length = np ∧ wSs (wC P k) b (ds.map some ++ List.replicate (ns - np) none) st ⟨fun _ s => K .non s, K, fun _ _ => False, fun _ _ => False, fun e _ s => X e s⟩
    | some .take => match ds with
      | [.ptr b, .int n] => match st[b]? with
        | some (.box (m + 1)) => (0 < n ∧ n < 10 ^ 70) ∧ ∀ r, 0 ≤ r → r < n → K (.int r) (st.set b (.box m))
        | _ => False
      | _ => False
    | some .box => match ds with
      | [.kst xs, .int j] => (numsOf xs).isSome = true ∧ (0 ≤ j ∧ j ≤ 1000) ∧ K (.ptr st.length) (st ++ [.box Draws])
      | _ => False
    | some (.init c np ns b) => match k with
      | 0 => False
      | j + 1 => ds.length = np ∧ wSs (wC P j) b (some (.ptr st.length) :: (ds.map some ++ List.replicate (ns - np - 1) none)) (st ++ [.obj c []]) ⟨fun _ s => iniW c st.length s K, fun _ _ => False, fun _ _ => False, fun _ _ => False, fun e _ s => X e s⟩
    | none => False
end Ev

namespace Ev
section
variable {F : FF} {env : Env} {st : Stt} {K : KE} {X : KX} {Q : Kn}
theorem onV_some (d : D) (K : D → Prop) : onV (some d) K = K d := (rfl)
theorem onE_some (d : Env) (K : Env → Prop) : onE (some d) K = K d := (rfl)
theorem natW_some (d : Nat) (K : Nat → Prop) : natW (some d) K = K d := (rfl)
theorem txW_some (d : Tx) (K : Tx → Prop) : txW (some d) K = K d := (rfl)
theorem intW_int (i : Int) (K : Int → Prop) : intW (.int i) K = K i := (rfl)
theorem ownW_lst (xs : List D) (K : List D → Prop) : ownW (.lst true xs) K = K xs := (rfl)
theorem getV_zero (d : D) (r : Env) : getV (some d :: r) 0 = some d := (rfl)
theorem getV_succ (d : Option D) (r : Env) (i : Nat) : getV (d :: r) (i + 1) = getV r i := (rfl)
theorem rdC_var (i : Nat) (env : Env) (st : Stt) (run : KE → Prop) (K : KE) : rdC (.var i) env st run K = onV (getV env i) fun d => K (derefD st d) env st := (rfl)
theorem wE_con (d : D) : wE F (.con d) env st K X = K d env st := (rfl)
theorem wE_var (i : Nat) : wE F (.var i) env st K X = onV (getV env i) fun d => K (fz d) (env.set i (some (fz d))) st := (rfl)
theorem fz_non : fz .non = .non := (rfl)
theorem fz_bl (b) : fz (.bl b) = .bl b := (rfl)
theorem fz_int (b) : fz (.int b) = .int b := (rfl)
theorem fz_str (b) : fz (.str b) = .str b := (rfl)
theorem fz_ptr (b) : fz (.ptr b) = .ptr b := (rfl)
theorem fz_tup (xs) : fz (.tup xs) = .tup (fzL xs) := (rfl)
theorem fz_lst (o xs) : fz (.lst o xs) = .lst false (fzL xs) := (rfl)
theorem fzL_nil : fzL [] = [] := (rfl)
theorem fzL_cons (x xs) : fzL (x :: xs) = fz x :: fzL xs := (rfl)
theorem nf_non : nf .non = true := (rfl)
theorem nf_bl (b) : nf (.bl b) = true := (rfl)
theorem nf_int (b) : nf (.int b) = true := (rfl)
theorem nf_str (b) : nf (.str b) = true := (rfl)
theorem nf_ptr (b) : nf (.ptr b) = true := (rfl)
theorem nf_tup (xs) : nf (.tup xs) = nfL xs := (rfl)
theorem nf_lstT (xs) : nf (.lst true xs) = false := (rfl)
theorem nf_lstF (xs) : nf (.lst false xs) = nfL xs := (rfl)
theorem fz_kst (xs) : fz (.kst xs) = .kst (fzL xs) := (rfl)
theorem nf_kst (xs) : nf (.kst xs) = nfL xs := (rfl)
theorem idx_kst (xs i) (K : D → Prop) : idxW (.kst xs) (.int i) K = onV (atx xs i) K := (rfl)
theorem slc_kst (xs l h) (K : D → Prop) : slcW (.kst xs) l h K = slcL xs (oInt l) (oInt h) (fun ys => K (.lst true ys)) := (rfl)
theorem it_kst (xs) (K : List D → Prop) : itemsW .seq [.kst xs] K = K xs := (rfl)
theorem len_kst (xs) (K : D → Prop) : bltW .len [.kst xs] K = K (.int xs.length) := (rfl)
theorem list_kst (xs) (K : D → Prop) : bltW .list [.kst xs] K = (nfL xs = true ∧ K (.lst true xs)) := (rfl)
theorem noP_non : noP .non = true := (rfl)
theorem noP_bl (b) : noP (.bl b) = true := (rfl)
theorem noP_int (b) : noP (.int b) = true := (rfl)
theorem noP_str (b) : noP (.str b) = true := (rfl)
theorem noP_ins (c xs) : noP (.ins c xs) = noPL xs := (rfl)
theorem noP_exc (c w) : noP (.exc c w) = noP w := (rfl)
theorem noP_tup (xs) : noP (.tup xs) = noPL xs := (rfl)
theorem noP_lst (o xs) : noP (.lst o xs) = noPL xs := (rfl)
theorem noPL_nil : noPL [] = true := (rfl)
theorem noPL_cons (x xs) : noPL (x :: xs) = (noP x && noPL xs) := (rfl)
theorem nfL_nil : nfL [] = true := (rfl)
theorem nfL_cons (x xs) : nfL (x :: xs) = (nf x && nfL xs) := (rfl)
theorem add_int (i j : Int) (K : D → Prop) : op2W .add (.int i) (.int j) K = (K (.int (i + j))) := (rfl)
theorem sub_int (i j : Int) (K : D → Prop) : op2W .sub (.int i) (.int j) K = (K (.int (i - j))) := (rfl)
theorem mul_int (i j : Int) (K : D → Prop) : op2W .mul (.int i) (.int j) K = (MulOk i j ∧ K (.int (i * j))) := (rfl)
theorem fdiv_int (i j : Int) (K : D → Prop) : op2W .fdiv (.int i) (.int j) K = ((0 < j ∧ j.natAbs.log2 < 9000) ∧ K (.int (i / j))) := (rfl)
theorem mod_int (i j : Int) (K : D → Prop) : op2W .mod (.int i) (.int j) K = (0 < j ∧ K (.int (i % j))) := (rfl)
theorem pow_int (i j : Int) (K : D → Prop) : op2W .pow (.int i) (.int j) K = ((0 ≤ j ∧ j ≤ 1000000 ∧ i.natAbs < 2 ^ 64) ∧ K (.int (i ^ j.toNat))) := (rfl)
theorem add_str (a b : Tx) (K : D → Prop) : op2W .add (.str a) (.str b) K = (a.length + b.length ≤ Lim ∧ K (.str (a ++ b))) := (rfl)
theorem add_lst (o o') (a b : List D) (K : D → Prop) : op2W .add (.lst o a) (.lst o' b) K = (a.length + b.length ≤ Lim ∧ (nfL a && nfL b) = true ∧ K (.lst true (a ++ b))) := (rfl)
theorem add_tup (a b : List D) (K : D → Prop) : op2W .add (.tup a) (.tup b) K = (a.length + b.length ≤ Lim ∧ (nfL a && nfL b) = true ∧ K (.tup (a ++ b))) := (rfl)
theorem mul_lst (o) (xs : List D) (n : Int) (K : D → Prop) : op2W .mul (.lst o xs) (.int n) K = (((-(2 ^ 63) ≤ n ∧ n < 2 ^ 63) ∧ xs.length * n.toNat ≤ Lim) ∧ nfL xs = true ∧ K (.lst true (List.replicate n.toNat xs).flatten)) := (rfl)
theorem lt_ii (i j : Int) (K : Bool → Prop) : cmpW .lt (.int i) (.int j) K = (K (decide (i < j))) := (rfl)
theorem le_ii (i j : Int) (K : Bool → Prop) : cmpW .le (.int i) (.int j) K = (K (decide (i ≤ j))) := (rfl)
theorem gt_ii (i j : Int) (K : Bool → Prop) : cmpW .gt (.int i) (.int j) K = (K (decide (j < i))) := (rfl)
theorem ge_ii (i j : Int) (K : Bool → Prop) : cmpW .ge (.int i) (.int j) K = (K (decide (j ≤ i))) := (rfl)
theorem lt_ss (a b : Tx) (K : Bool → Prop) : cmpW .lt (.str a) (.str b) K = (K (decide (a < b))) := (rfl)
theorem eq_ii (i j : Int) (K : Bool → Prop) : cmpW .eq (.int i) (.int j) K = K ((i == j)) := propext ⟨fun h => h.2, fun h => ⟨rfl, h⟩⟩
theorem eq_ss (i j : Tx) (K : Bool → Prop) : cmpW .eq (.str i) (.str j) K = K ((i == j)) := propext ⟨fun h => h.2, fun h => ⟨rfl, h⟩⟩
theorem eq_bb (i j : Bool) (K : Bool → Prop) : cmpW .eq (.bl i) (.bl j) K = K ((i == j)) := propext ⟨fun h => h.2, fun h => ⟨rfl, h⟩⟩
theorem eq_nint (i) (K : Bool → Prop) : cmpW .eq .non (.int i) K = K (false) := propext ⟨fun h => h.2, fun h => ⟨rfl, h⟩⟩
theorem eq_intn (i) (K : Bool → Prop) : cmpW .eq (.int i) .non K = K (false) := propext ⟨fun h => h.2, fun h => ⟨rfl, h⟩⟩
theorem eq_nbl (i) (K : Bool → Prop) : cmpW .eq .non (.bl i) K = K (false) := propext ⟨fun h => h.2, fun h => ⟨rfl, h⟩⟩
theorem eq_bln (i) (K : Bool → Prop) : cmpW .eq (.bl i) .non K = K (false) := propext ⟨fun h => h.2, fun h => ⟨rfl, h⟩⟩
theorem eq_nstr (i) (K : Bool → Prop) : cmpW .eq .non (.str i) K = K (false) := propext ⟨fun h => h.2, fun h => ⟨rfl, h⟩⟩
theorem eq_strn (i) (K : Bool → Prop) : cmpW .eq (.str i) .non K = K (false) := propext ⟨fun h => h.2, fun h => ⟨rfl, h⟩⟩
theorem eq_nn (K : Bool → Prop) : cmpW .eq .non .non K = K (true) := propext ⟨fun h => h.2, fun h => ⟨rfl, h⟩⟩
theorem eq_lstlst (o) (o') (xs ys) (K : Bool → Prop) : cmpW .eq (.lst o xs) (.lst o' ys) K = ((cmpOk (.lst o xs) && cmpOk (.lst o' ys)) = true ∧ K (eqd (.lst o xs) (.lst o' ys))) := (rfl)
theorem eq_tuptup (xs ys) (K : Bool → Prop) : cmpW .eq (.tup xs) (.tup ys) K = ((cmpOk (.tup xs) && cmpOk (.tup ys)) = true ∧ K (eqd (.tup xs) (.tup ys))) := (rfl)
theorem eq_lsttup (o) (xs ys) (K : Bool → Prop) : cmpW .eq (.lst o xs) (.tup ys) K = ((cmpOk (.lst o xs) && cmpOk (.tup ys)) = true ∧ K (eqd (.lst o xs) (.tup ys))) := (rfl)
theorem eq_tuplst (o') (xs ys) (K : Bool → Prop) : cmpW .eq (.tup xs) (.lst o' ys) K = ((cmpOk (.tup xs) && cmpOk (.lst o' ys)) = true ∧ K (eqd (.tup xs) (.lst o' ys))) := (rfl)
theorem eq_lstn (o) (xs) (K : Bool → Prop) : cmpW .eq (.lst o xs) .non K = ((cmpOk (.lst o xs) && cmpOk .non) = true ∧ K (false)) := (rfl)
theorem eq_tupn (xs) (K : Bool → Prop) : cmpW .eq (.tup xs) .non K = ((cmpOk (.tup xs) && cmpOk .non) = true ∧ K (false)) := (rfl)
theorem ne_ii (i j : Int) (K : Bool → Prop) : cmpW .ne (.int i) (.int j) K = K (!(i == j)) := propext ⟨fun h => h.2, fun h => ⟨rfl, h⟩⟩
theorem ne_ss (i j : Tx) (K : Bool → Prop) : cmpW .ne (.str i) (.str j) K = K (!(i == j)) := propext ⟨fun h => h.2, fun h => ⟨rfl, h⟩⟩
theorem ne_bb (i j : Bool) (K : Bool → Prop) : cmpW .ne (.bl i) (.bl j) K = K (!(i == j)) := propext ⟨fun h => h.2, fun h => ⟨rfl, h⟩⟩
theorem ne_nint (i) (K : Bool → Prop) : cmpW .ne .non (.int i) K = K (!false) := propext ⟨fun h => h.2, fun h => ⟨rfl, h⟩⟩
theorem ne_intn (i) (K : Bool → Prop) : cmpW .ne (.int i) .non K = K (!false) := propext ⟨fun h => h.2, fun h => ⟨rfl, h⟩⟩
theorem ne_nbl (i) (K : Bool → Prop) : cmpW .ne .non (.bl i) K = K (!false) := propext ⟨fun h => h.2, fun h => ⟨rfl, h⟩⟩
theorem ne_bln (i) (K : Bool → Prop) : cmpW .ne (.bl i) .non K = K (!false) := propext ⟨fun h => h.2, fun h => ⟨rfl, h⟩⟩
theorem ne_nstr (i) (K : Bool → Prop) : cmpW .ne .non (.str i) K = K (!false) := propext ⟨fun h => h.2, fun h => ⟨rfl, h⟩⟩
theorem ne_strn (i) (K : Bool → Prop) : cmpW .ne (.str i) .non K = K (!false) := propext ⟨fun h => h.2, fun h => ⟨rfl, h⟩⟩
theorem ne_nn (K : Bool → Prop) : cmpW .ne .non .non K = K (!true) := propext ⟨fun h => h.2, fun h => ⟨rfl, h⟩⟩
theorem ne_lstlst (o) (o') (xs ys) (K : Bool → Prop) : cmpW .ne (.lst o xs) (.lst o' ys) K = ((cmpOk (.lst o xs) && cmpOk (.lst o' ys)) = true ∧ K (!eqd (.lst o xs) (.lst o' ys))) := (rfl)
theorem ne_tuptup (xs ys) (K : Bool → Prop) : cmpW .ne (.tup xs) (.tup ys) K = ((cmpOk (.tup xs) && cmpOk (.tup ys)) = true ∧ K (!eqd (.tup xs) (.tup ys))) := (rfl)
theorem ne_lsttup (o) (xs ys) (K : Bool → Prop) : cmpW .ne (.lst o xs) (.tup ys) K = ((cmpOk (.lst o xs) && cmpOk (.tup ys)) = true ∧ K (!eqd (.lst o xs) (.tup ys))) := (rfl)
theorem ne_tuplst (o') (xs ys) (K : Bool → Prop) : cmpW .ne (.tup xs) (.lst o' ys) K = ((cmpOk (.tup xs) && cmpOk (.lst o' ys)) = true ∧ K (!eqd (.tup xs) (.lst o' ys))) := (rfl)
theorem ne_lstn (o) (xs) (K : Bool → Prop) : cmpW .ne (.lst o xs) .non K = ((cmpOk (.lst o xs) && cmpOk .non) = true ∧ K (!false)) := (rfl)
theorem ne_tupn (xs) (K : Bool → Prop) : cmpW .ne (.tup xs) .non K = ((cmpOk (.tup xs) && cmpOk .non) = true ∧ K (!false)) := (rfl)
theorem is__non (K : Bool → Prop) : cmpW .is_ .non .non K = K true := (rfl)
theorem is__int (b : Int) (K : Bool → Prop) : cmpW .is_ (.int b) .non K = K false := (rfl)
theorem is__bl (b : Bool) (K : Bool → Prop) : cmpW .is_ (.bl b) .non K = K false := (rfl)
theorem is__str (b : Tx) (K : Bool → Prop) : cmpW .is_ (.str b) .non K = K false := (rfl)
theorem is__tup (b : List D) (K : Bool → Prop) : cmpW .is_ (.tup b) .non K = K false := (rfl)
theorem is__ptr (b : Nat) (K : Bool → Prop) : cmpW .is_ (.ptr b) .non K = K false := (rfl)
theorem is__lst (o) (b : List D) (K : Bool → Prop) : cmpW .is_ (.lst o b) .non K = K false := (rfl)
theorem is__bb (b c : Bool) (K : Bool → Prop) : cmpW .is_ (.bl b) (.bl c) K = K ((b == c)) := (rfl)
theorem isNot_non (K : Bool → Prop) : cmpW .isNot .non .non K = K false := (rfl)
theorem isNot_int (b : Int) (K : Bool → Prop) : cmpW .isNot (.int b) .non K = K true := (rfl)
theorem isNot_bl (b : Bool) (K : Bool → Prop) : cmpW .isNot (.bl b) .non K = K true := (rfl)
theorem isNot_str (b : Tx) (K : Bool → Prop) : cmpW .isNot (.str b) .non K = K true := (rfl)
theorem is__ins (c) (b : List D) (K : Bool → Prop) : cmpW .is_ (.ins c b) .non K = K false := (rfl)
theorem is__exc (c) (b : D) (K : Bool → Prop) : cmpW .is_ (.exc c b) .non K = K false := (rfl)
theorem isNot_exc (c) (b : D) (K : Bool → Prop) : cmpW .isNot (.exc c b) .non K = K true := (rfl)
theorem isNot_ins (c) (b : List D) (K : Bool → Prop) : cmpW .isNot (.ins c b) .non K = K true := (rfl)
theorem isNot_tup (b : List D) (K : Bool → Prop) : cmpW .isNot (.tup b) .non K = K true := (rfl)
theorem isNot_ptr (b : Nat) (K : Bool → Prop) : cmpW .isNot (.ptr b) .non K = K true := (rfl)
theorem isNot_lst (o) (b : List D) (K : Bool → Prop) : cmpW .isNot (.lst o b) .non K = K true := (rfl)
theorem isNot_bb (b c : Bool) (K : Bool → Prop) : cmpW .isNot (.bl b) (.bl c) K = K (!(b == c)) := (rfl)
theorem in__ss (a b : Tx) (K : Bool → Prop) : cmpW .in_ (.str a) (.str b) K = (sgW a fun n => K (decide (n ∈ b))) := (rfl)
theorem in_l_n  (o) (ys : List D) (K : Bool → Prop) : cmpW .in_ .non (.lst o ys) K = ((cmpOk .non && cmpOk (.tup ys)) = true ∧ K (inD .non ys)) := (rfl)
theorem in_t_n  (ys : List D) (K : Bool → Prop) : cmpW .in_ .non (.tup ys) K = ((scalar .non && ys.all scalar) = true ∧ K (inD .non ys)) := (rfl)
theorem in_l_b (b : Bool) (o) (ys : List D) (K : Bool → Prop) : cmpW .in_ (.bl b) (.lst o ys) K = ((cmpOk (.bl b) && cmpOk (.tup ys)) = true ∧ K (inD (.bl b) ys)) := (rfl)
theorem in_t_b (b : Bool) (ys : List D) (K : Bool → Prop) : cmpW .in_ (.bl b) (.tup ys) K = ((scalar (.bl b) && ys.all scalar) = true ∧ K (inD (.bl b) ys)) := (rfl)
theorem in_l_i (b : Int) (o) (ys : List D) (K : Bool → Prop) : cmpW .in_ (.int b) (.lst o ys) K = ((cmpOk (.int b) && cmpOk (.tup ys)) = true ∧ K (inD (.int b) ys)) := (rfl)
theorem in_t_i (b : Int) (ys : List D) (K : Bool → Prop) : cmpW .in_ (.int b) (.tup ys) K = ((scalar (.int b) && ys.all scalar) = true ∧ K (inD (.int b) ys)) := (rfl)
theorem in_l_s (b : Tx) (o) (ys : List D) (K : Bool → Prop) : cmpW .in_ (.str b) (.lst o ys) K = ((cmpOk (.str b) && cmpOk (.tup ys)) = true ∧ K (inD (.str b) ys)) := (rfl)
theorem in_t_s (b : Tx) (ys : List D) (K : Bool → Prop) : cmpW .in_ (.str b) (.tup ys) K = ((scalar (.str b) && ys.all scalar) = true ∧ K (inD (.str b) ys)) := (rfl)
theorem in_l_t (b : List D) (o) (ys : List D) (K : Bool → Prop) : cmpW .in_ (.tup b) (.lst o ys) K = ((cmpOk (.tup b) && cmpOk (.tup ys)) = true ∧ K (inD (.tup b) ys)) := (rfl)
theorem in_t_t (b : List D) (ys : List D) (K : Bool → Prop) : cmpW .in_ (.tup b) (.tup ys) K = ((cmpOk (.tup b) && cmpOk (.tup ys)) = true ∧ K (inD (.tup b) ys)) := (rfl)
theorem in_l_l (q) (b : List D) (o) (ys : List D) (K : Bool → Prop) : cmpW .in_ (.lst q b) (.lst o ys) K = ((cmpOk (.lst q b) && cmpOk (.tup ys)) = true ∧ K (inD (.lst q b) ys)) := (rfl)
theorem in_t_l (q) (b : List D) (ys : List D) (K : Bool → Prop) : cmpW .in_ (.lst q b) (.tup ys) K = ((scalar (.lst q b) && ys.all scalar) = true ∧ K (inD (.lst q b) ys)) := (rfl)
theorem notIn_ss (a b : Tx) (K : Bool → Prop) : cmpW .notIn (.str a) (.str b) K = (sgW a fun n => K (!decide (n ∈ b))) := (rfl)
theorem notInl_n  (o) (ys : List D) (K : Bool → Prop) : cmpW .notIn .non (.lst o ys) K = ((cmpOk .non && cmpOk (.tup ys)) = true ∧ K (!inD .non ys)) := (rfl)
theorem notInt_n  (ys : List D) (K : Bool → Prop) : cmpW .notIn .non (.tup ys) K = ((scalar .non && ys.all scalar) = true ∧ K (!inD .non ys)) := (rfl)
theorem notInl_b (b : Bool) (o) (ys : List D) (K : Bool → Prop) : cmpW .notIn (.bl b) (.lst o ys) K = ((cmpOk (.bl b) && cmpOk (.tup ys)) = true ∧ K (!inD (.bl b) ys)) := (rfl)
theorem notInt_b (b : Bool) (ys : List D) (K : Bool → Prop) : cmpW .notIn (.bl b) (.tup ys) K = ((scalar (.bl b) && ys.all scalar) = true ∧ K (!inD (.bl b) ys)) := (rfl)
theorem notInl_i (b : Int) (o) (ys : List D) (K : Bool → Prop) : cmpW .notIn (.int b) (.lst o ys) K = ((cmpOk (.int b) && cmpOk (.tup ys)) = true ∧ K (!inD (.int b) ys)) := (rfl)
theorem notInt_i (b : Int) (ys : List D) (K : Bool → Prop) : cmpW .notIn (.int b) (.tup ys) K = ((scalar (.int b) && ys.all scalar) = true ∧ K (!inD (.int b) ys)) := (rfl)
theorem notInl_s (b : Tx) (o) (ys : List D) (K : Bool → Prop) : cmpW .notIn (.str b) (.lst o ys) K = ((cmpOk (.str b) && cmpOk (.tup ys)) = true ∧ K (!inD (.str b) ys)) := (rfl)
theorem notInt_s (b : Tx) (ys : List D) (K : Bool → Prop) : cmpW .notIn (.str b) (.tup ys) K = ((scalar (.str b) && ys.all scalar) = true ∧ K (!inD (.str b) ys)) := (rfl)
theorem notInl_t (b : List D) (o) (ys : List D) (K : Bool → Prop) : cmpW .notIn (.tup b) (.lst o ys) K = ((cmpOk (.tup b) && cmpOk (.tup ys)) = true ∧ K (!inD (.tup b) ys)) := (rfl)
theorem notInt_t (b : List D) (ys : List D) (K : Bool → Prop) : cmpW .notIn (.tup b) (.tup ys) K = ((cmpOk (.tup b) && cmpOk (.tup ys)) = true ∧ K (!inD (.tup b) ys)) := (rfl)
theorem notInl_l (q) (b : List D) (o) (ys : List D) (K : Bool → Prop) : cmpW .notIn (.lst q b) (.lst o ys) K = ((cmpOk (.lst q b) && cmpOk (.tup ys)) = true ∧ K (!inD (.lst q b) ys)) := (rfl)
theorem notInt_l (q) (b : List D) (ys : List D) (K : Bool → Prop) : cmpW .notIn (.lst q b) (.tup ys) K = ((scalar (.lst q b) && ys.all scalar) = true ∧ K (!inD (.lst q b) ys)) := (rfl)
theorem sgW_one (n) (K : Nat → Prop) : sgW [n] K = K n := (rfl)
theorem tru_non (K : Bool → Prop) : truW .non K = (K false) := (rfl)
theorem tru_bl (b) (K : Bool → Prop) : truW (.bl b) K = (K b) := (rfl)
theorem tru_int (b) (K : Bool → Prop) : truW (.int b) K = (K (b != 0)) := (rfl)
theorem tru_str (b) (K : Bool → Prop) : truW (.str b) K = (b.length ≤ Lim ∧ K (!b.isEmpty)) := (rfl)
theorem tru_lst (o b) (K : Bool → Prop) : truW (.lst o b) K = (K (!b.isEmpty)) := (rfl)
theorem tru_tup (b) (K : Bool → Prop) : truW (.tup b) K = (K (!b.isEmpty)) := (rfl)
theorem idx_lst (o xs i) (K : D → Prop) : idxW (.lst o xs) (.int i) K = (onV (atx xs i) K) := (rfl)
theorem idx_tup (xs i) (K : D → Prop) : idxW (.tup xs) (.int i) K = (onV (atx xs i) K) := (rfl)
theorem idx_str (z : Tx) (i) (K : D → Prop) : idxW (.str z) (.int i) K = (z.length ≤ Lim ∧ natW (atx z i) fun c => K (.str [c])) := (rfl)
theorem oInt_none  : oInt none = (some none) := (rfl)
theorem oInt_some (i) : oInt (some (.int i)) = (some (some i)) := (rfl)
theorem slc_lst (o xs l h) (K : D → Prop) : slcW (.lst o xs) l h K = (slcL xs (oInt l) (oInt h) fun ys => K (.lst true ys)) := (rfl)
theorem slc_tup (xs l h) (K : D → Prop) : slcW (.tup xs) l h K = (slcL xs (oInt l) (oInt h) fun ys => K (.tup ys)) := (rfl)
theorem slc_str (xs l h) (K : D → Prop) : slcW (.str xs) l h K = (slcS xs (oInt l) (oInt h) fun ys => K (.str ys)) := (rfl)
theorem slcL_some (xs l h) (K : List D → Prop) : slcL xs (some l) (some h) K = (nfL xs = true ∧ K (cut xs l h)) := (rfl)
theorem slcS_some (xs l h) (K : Tx → Prop) : slcS xs (some l) (some h) K = (xs.length ≤ Lim ∧ K (cut xs l h)) := (rfl)
theorem rev_lst (o xs) (K : D → Prop) : revW (.lst o xs) K = (nfL xs = true ∧ K (.lst true xs.reverse)) := (rfl)
theorem it_lst (o xs) (K : List D → Prop) : itemsW .seq [.lst o xs] K = (K xs) := (rfl)
theorem it_tup (xs) (K : List D → Prop) : itemsW .seq [.tup xs] K = (K xs) := (rfl)
theorem it_str (z) (K : List D → Prop) : itemsW .seq [.str z] K = (K (z.map fun c => .str [c])) := (rfl)
theorem it_rng1 (a) (K : List D → Prop) : itemsW .rng [.int a] K = (InR a ∧ K (rangeD 0 a)) := (rfl)
theorem it_rng2 (a b) (K : List D → Prop) : itemsW .rng [.int a, .int b] K = ((InR a ∧ InR b) ∧ K (rangeD a b)) := (rfl)
theorem it_enl (o xs) (K : List D → Prop) : itemsW .enum [.lst o xs] K = (K (enumFrom 0 xs)) := (rfl)
theorem it_zip_lst_lst (o o' xs ys) (K : List D → Prop) : itemsW .zip [.lst o xs, .lst o' ys] K = (K (zipD xs ys)) := (rfl)
theorem it_zip_tup_tup (xs ys) (K : List D → Prop) : itemsW .zip [.tup xs, .tup ys] K = (K (zipD xs ys)) := (rfl)
theorem len_lst (o xs) (K : D → Prop) : bltW .len [.lst o xs] K = (K (.int xs.length)) := (rfl)
theorem len_tup (xs) (K : D → Prop) : bltW .len [.tup xs] K = (K (.int xs.length)) := (rfl)
theorem len_str (xs) (K : D → Prop) : bltW .len [.str xs] K = (xs.length ≤ Lim ∧ K (.int xs.length)) := (rfl)
theorem abs_int (i) (K : D → Prop) : bltW .abs [.int i] K = (K (.int (if i < 0 then -i else i))) := (rfl)
theorem isx_any (ks c w) (K : D → Prop) : bltW (.isx ks) [.exc c w] K = K (.bl (ks.any fun k => k == 0 || c == k)) := (rfl)
theorem isi_any (ts x) (K : D → Prop) : bltW (.isi ts) [x] K = (isOk x = true ∧ K (.bl (ts.any (isTy x)))) := (rfl)
theorem int1_int (i) (K : D → Prop) : bltW .int1 [.int i] K = (K (.int i)) := (rfl)
theorem int1_bl (b : Bool) (K : D → Prop) : bltW .int1 [.bl b] K = (K (.int (if b then 1 else 0))) := (rfl)
theorem str1_int (i) (K : D → Prop) : bltW .str1 [.int i] K = (i.natAbs.log2 < 1920 ∧ K (.str (digits i))) := (rfl)
theorem str1_str (i) (K : D → Prop) : bltW .str1 [.str i] K = (K (.str i)) := (rfl)
theorem repr_int (i) (K : D → Prop) : bltW .repr [.int i] K = (i.natAbs.log2 < 1920 ∧ K (.str (digits i))) := (rfl)
theorem repr_non (K : D → Prop) : bltW .repr [.non] K = (K (.str (shown .non))) := (rfl)
theorem repr_bl (b) (K : D → Prop) : bltW .repr [.bl b] K = (K (.str (shown (.bl b)))) := (rfl)
theorem repr_str (x) (K : D → Prop) : bltW .repr [.str x] K = ((shown (.str x)).length ≤ Lim ∧ K (.str (shown (.str x)))) := (rfl)
theorem repr_lst (o xs) (K : D → Prop) : bltW .repr [.lst o xs] K = (showOk (.lst o xs) ∧ K (.str (shown (.lst o xs)))) := (rfl)
theorem repr_tup (xs) (K : D → Prop) : bltW .repr [.tup xs] K = (showOk (.tup xs) ∧ K (.str (shown (.tup xs)))) := (rfl)
theorem tuple_lst (o xs) (K : D → Prop) : bltW .tuple [.lst o xs] K = (nfL xs = true ∧ K (.tup xs)) := (rfl)
theorem tuple_tup (xs) (K : D → Prop) : bltW .tuple [.tup xs] K = (nfL xs = true ∧ K (.tup xs)) := (rfl)
theorem list_lst (o xs) (K : D → Prop) : bltW .list [.lst o xs] K = (nfL xs = true ∧ K (.lst true xs)) := (rfl)
theorem list_tup (xs) (K : D → Prop) : bltW .list [.tup xs] K = (nfL xs = true ∧ K (.lst true xs)) := (rfl)
theorem max2_ii (i j) (K : D → Prop) : bltW .max2 [.int i, .int j] K = (K (.int (if j > i then j else i))) := (rfl)
theorem min2_ii (i j) (K : D → Prop) : bltW .min2 [.int i, .int j] K = (K (.int (if j < i then j else i))) := (rfl)
theorem all_lst (o xs) (K : D → Prop) : bltW .all [.lst o xs] K = (bsW (bools xs) fun bs => K (.bl (bs.all id))) := (rfl)
theorem any_lst (o xs) (K : D → Prop) : bltW .any [.lst o xs] K = (bsW (bools xs) fun bs => K (.bl (bs.any id))) := (rfl)
theorem bsW_some (bs) (K : List Bool → Prop) : bsW (some bs) K = (K bs) := (rfl)
theorem nsW_some (ns) (K : List Int → Prop) : nsW (some ns) K = K ns := (rfl)
theorem ssW_some (ns) (K : List Tx → Prop) : ssW (some ns) K = K ns := (rfl)
theorem list_str (z) (K : D → Prop) : bltW .list [.str z] K = (z.length ≤ Lim ∧ K (.lst true (z.map fun c => .str [c]))) := (rfl)
theorem max1_lst (o xs) (K : D → Prop) : bltW .max1 [.lst o xs] K = (nsW (numsOf xs) fun ns => 0 < ns.length ∧ K (.int (ns.tail.foldl maxI (ns.headD 0)))) := (rfl)
theorem min1_lst (o xs) (K : D → Prop) : bltW .min1 [.lst o xs] K = (nsW (numsOf xs) fun ns => 0 < ns.length ∧ K (.int (ns.tail.foldl minI (ns.headD 0)))) := (rfl)
theorem sum1_lst (o xs) (K : D → Prop) : bltW .sum1 [.lst o xs] K = (nsW (numsOf xs) fun ns => K (.int ns.sum)) := (rfl)
theorem sorted_lst (o xs) (K : D → Prop) : bltW .sorted [.lst o xs] K = (srtW xs fun ys => K (.lst true ys)) := (rfl)
theorem sorted_tup (xs) (K : D → Prop) : bltW .sorted [.tup xs] K = (SrtOk xs ∧ K (.lst true (xs.mergeSort leD))) := (rfl)
theorem sset_lst (o xs) (K : D → Prop) : bltW .sortedset [.lst o xs] K = (ssetW xs fun ys => K (.lst true ys)) := (rfl)
theorem divmod_ii (i j) (K : D → Prop) : bltW .divmod [.int i, .int j] K = ((0 < j ∧ j.natAbs.log2 < 9000) ∧ K (.tup [.int (i / j), .int (i % j)])) := (rfl)
theorem join_lst (sep o xs) (K : D → Prop) : mrW .join (.str sep) [.lst o xs] K = (ssW (strsOf xs) fun ys => (ys.map List.length).sum + ys.length * sep.length ≤ Lim ∧ K (.str (joinT sep ys))) := (rfl)
theorem index_str (a b) (K : D → Prop) : mrW .index (.str a) [.str b] K = (sgW b fun n => n ∈ a ∧ K (.int (a.idxOf n : Nat))) := (rfl)
theorem index_tup (xs b) (K : D → Prop) : mrW .indexT (.tup xs) [.str b] K = (ssW (strsOf xs) fun ys => b ∈ ys ∧ K (.int (ys.idxOf b : Nat))) := (rfl)
theorem split_str (a b) (K : D → Prop) : mrW .split (.str a) [.str b] K = (sgW b fun n => (n < 256 ∧ a.length + 2 ≤ Lim) ∧ K (.lst true ((splitT n a).map D.str))) := (rfl)
theorem upper_str (a) (K : D → Prop) : mrW .upper (.str a) [] K = ((a.all (fun c => decide (c < 128)) && decide (a.length ≤ 1000000)) = true ∧ K (.str (a.map upC))) := (rfl)
theorem mrOk_upper (a) : mrOk .upper (.str a) = true := (rfl)
theorem mrOk_join (a) : mrOk .join (.str a) = true := (rfl)
theorem mrOk_index (a) : mrOk .index (.str a) = true := (rfl)
theorem mrOk_indexT (a) : mrOk .indexT (.tup a) = true := (rfl)
theorem mrOk_indexL (o a) : mrOk .index (.lst o a) = true := (rfl)
theorem index_lst (o xs d) (K : D → Prop) : mrW .index (.lst o xs) [d] K = ((scalar d && xs.all scalar) = true ∧ natW (xs.findIdx? fun y => eqd y d) fun j => K (.int (j : Nat))) := by cases d <;> rfl
theorem mrOk_split (a) : mrOk .split (.str a) = true := (rfl)
theorem it_ent (xs) (K : List D → Prop) : itemsW .enum [.tup xs] K = (K (enumFrom 0 xs)) := (rfl)
theorem wTg_star (ts i us xs env) : wTg (.star ts i us) (.tup xs) env = if ts.length + us.length ≤ xs.length ∧ nfL xs = true then
      (wTgs ts (xs.take ts.length) env).bind fun e => (if i < e.length then some (e.set i (some (.lst true ((xs.drop ts.length).take (xs.length - us.length - ts.length))))) else none).bind fun e => wTgs us (xs.drop (xs.length - us.length)) e else none := (rfl)
theorem strsOf_nil : strsOf [] = some [] := (rfl)
theorem strsOf_cons (x r) : strsOf (.str x :: r) = (strsOf r).map (x :: ·) := (rfl)
theorem numsOf_nil : numsOf [] = some [] := (rfl)
theorem numsOf_cons (x r) : numsOf (.int x :: r) = (numsOf r).map (x :: ·) := (rfl)
theorem app_one (xs d) (K : D → List D → Prop) : mcW .append xs [d] K = (xs.length < Lim ∧ K .non (xs ++ [d])) := (rfl)
theorem rev_zero (xs) (K : D → List D → Prop) : mcW .reverse xs [] K = (nfL xs = true ∧ K .non xs.reverse) := (rfl)
theorem clear_zero (xs) (K : D → List D → Prop) : mcW .clear xs [] K = (K .non []) := (rfl)
theorem forL_nil (b : D → Env → Stt → Kn → Prop) (env st Q) : forL b [] env st Q = (Q.nx env st) := (rfl)
theorem forL_cons (b : D → Env → Stt → Kn → Prop) (x xs env st Q) : forL b (x :: xs) env st Q = (b x env st { Q with nx := fun e s => forL b xs e s Q, ct := fun e s => forL b xs e s Q, bk := Q.nx }) := (rfl)
theorem forB_eq (tg run x env st Q) : forB tg run x env st Q = (onE (wTg tg x env) fun e => run e st Q) := (rfl)
theorem wTg_nm {i : Nat} {env : Env} (d : D) (h : i < env.length) : wTg (.nm i) d env = some (env.set i (some d)) := if_pos h
theorem wTg_tupL {o} {ts xs env} (h : nfL xs = true) : wTg (.tup ts) (.lst o xs) env = (wTgs ts xs env) := if_pos h
theorem wTg_tup (ts xs env) : wTg (.tup ts) (.tup xs) env = (wTgs ts xs env) := (rfl)
theorem wTgs_nil (env) : wTgs [] [] env = (some env) := (rfl)
theorem wTgs_cons (t ts x xs env) : wTgs (t :: ts) (x :: xs) env = ((wTg t x env).bind fun e => wTgs ts xs e) := (rfl)

theorem atx_nat {α : Type} (xs : List α) (n : Nat) : atx xs (n : Int) = xs[n]? := by
  unfold atx ixn
  rw [if_pos (Int.natCast_nonneg n)]
  by_cases h : n < xs.length
  · rw [if_pos (by omega)]; rfl
  · rw [if_neg (by omega), List.getElem?_eq_none (by omega)]; rfl
mutual
theorem nf_fz : ∀ d : D, nf (fz d) = true
  | .non | .bl _ | .int _ | .str _ | .ptr _ | .fn _ => rfl
  | .exc _ w => nf_fz w
  | .tup xs => nfL_fzL xs
  | .lst _ xs => nfL_fzL xs
  | .dic _ ks vs => by rw [fz, nf, nfL_fzL ks, nfL_fzL vs]; rfl
  | .kst xs => nfL_fzL xs
  | .ins _ fs => nfL_fzL fs
theorem nfL_fzL : ∀ xs : List D, nfL (fzL xs) = true
  | [] => rfl
  | x :: xs => by rw [fzL, nfL, nf_fz x, nfL_fzL xs]; rfl
end
theorem attr_ins (s c fs n) (K : D → Stt → Prop) : attrW s (.ins c fs) n K = onV ((fldIx c n).bind fun i => fs[i]?) fun z => nf z = true ∧ K z s := (rfl)
theorem attr_exc (s c w n) (K : D → Stt → Prop) : attrW s (.exc c w) n K = (n = 36 ∧ nf w = true ∧ K w s) := (rfl)
theorem fz_exc (c w) : fz (.exc c w) = .exc c (fz w) := (rfl)
theorem nf_exc (c w) : nf (.exc c w) = nf w := (rfl)
theorem der_exc (st c w) : derefD st (.exc c w) = .exc c w := (rfl)
theorem fz_ins (c fs) : fz (.ins c fs) = .ins c (fzL fs) := (rfl)
theorem nf_ins (c fs) : nf (.ins c fs) = nfL fs := (rfl)
theorem cls_ins (s c fs) (K : Nat → Prop) : clsW s (.ins c fs) K = K c := (rfl)
theorem tb_hit (c f pm r) (K : Nat → List Ar → Prop) : tbW ((c, f, pm) :: r) c K = K f pm := by
  unfold tbW
  rw [List.lookup_cons_self]
theorem der_ins (st c fs) : derefD st (.ins c fs) = .ins c fs := (rfl)
theorem wSs_cons (a : IS) (r : List IS) : wSs F (a :: r) env st Q = wS F a env st { Q with nx := fun e s => wSs F r e s Q } := (rfl)
theorem wSs_nil : wSs F [] env st Q = Q.nx env st := (rfl)
theorem env_zero (d : Option D) (r : Env) : (d :: r)[0]? = some d := (rfl)
theorem env_succ (d : Option D) (r : Env) (i : Nat) : (d :: r)[i + 1]? = r[i]? := (rfl)
theorem sca_non : scalar .non = true := (rfl)
theorem sca_bl (b) : scalar (.bl b) = true := (rfl)
theorem sca_int (b) : scalar (.int b) = true := (rfl)
theorem sca_lst (o b) : scalar (.lst o b) = false := (rfl)
theorem own_lst (b) : ownD (.lst true b) = ownL b := (rfl)
theorem own_nil : ownL [] = true := (rfl)
theorem own_cons (x xs) : ownL (x :: xs) = (ownD x && ownL xs) := (rfl)
theorem own_int (b) : ownD (.int b) = true := (rfl)
theorem sca_str (b) : scalar (.str b) = true := (rfl)
theorem der_non (st) : derefD st .non = .non := (rfl)
theorem der_bl (st b) : derefD st (.bl b) = .bl b := (rfl)
theorem der_int (st b) : derefD st (.int b) = .int b := (rfl)
theorem der_str (st b) : derefD st (.str b) = .str b := (rfl)
theorem der_tup (st b) : derefD st (.tup b) = .tup b := (rfl)
theorem der_lst (st o b) : derefD st (.lst o b) = .lst o b := (rfl)
theorem der_kst (st b) : derefD st (.kst b) = .kst b := (rfl)
theorem setW_lst (env : Env) (st : Stt) (v : Nat) (xs : List D) (G : List D → (D → List D → Prop) → Prop) (K : D → Env → Stt → Prop) : setW env st v (.lst true xs) G K = G xs (fun z ys => K z (env.set v (some (.lst true ys))) st) := (rfl)
theorem isL_lst (o xs) : isL (.lst o xs) = true := (rfl)
theorem aug_add (a b : Int) (K : Int → Prop) : augW .add a b K = K (a + b) := (rfl)
theorem aug_sub (a b : Int) (K : Int → Prop) : augW .sub a b K = K (a - b) := (rfl)
theorem aug_fdiv (a b : Int) (K : Int → Prop) : augW .fdiv a b K = ((0 < b ∧ b.natAbs.log2 < 9000) ∧ K (a / b)) := (rfl)
theorem der_at {st : Stt} {k : Nat} {d : D} (h : st[k]? = some (.val d)) : derefD st (.ptr k) = d := by show (match st[k]? with | some (.val d) => d | _ => .ptr k) = d; rw [h]
theorem der_box {st : Stt} {k n : Nat} (h : st[k]? = some (.box n)) : derefD st (.ptr k) = .ptr k := by show (match st[k]? with | some (.val d) => d | _ => .ptr k) = .ptr k; rw [h]
theorem setW_ptr {env : Env} {st : Stt} {v k : Nat} {xs : List D} {G : List D → (D → List D → Prop) → Prop} {K : D → Env → Stt → Prop} (h : st[k]? = some (.val (.lst true xs))) :
    setW env st v (.ptr k) G K = G xs (fun z ys => K z env (st.set k (.val (.lst true ys)))) := by
  show (match st[k]? with | some (.val (.lst true xs)) => G xs fun z ys => K z env (st.set k (.val (.lst true ys))) | _ => False) = _
  rw [h]
theorem sh_t (a : IE) (k : Env → Prop) : shW a true env k = k env := by cases a <;> rfl
theorem sh_f (i : Nat) (k : Env → Prop) : shW (.var i) false env k = onV (getV env i) fun d => k (env.set i (some (fz d))) := (rfl)
theorem sh_vw {a i : IE} {q : Bool} (k : Env → Prop) : shW (.vw a i) q env k = k env := by cases q <;> rfl
theorem sh_n {a : IE} {q : Bool} (k : Env → Prop) (h : isVar a = false) : shW a q env k = k env := by cases q <;> cases a <;> first | rfl | cases h
end
end Ev


namespace Ev
theorem e_wE_con {F : FF} {env : Env} {st : Stt} {K : KE} {X : KX} : wE F (.con d) env st K X = (K d env st) := (rfl)
theorem e_wE_var {F : FF} {env : Env} {st : Stt} {K : KE} {X : KX} : wE F (.var i) env st K X = (onV (getV env i) fun d => K (fz d) (env.set i (some (fz d))) st) := (rfl)
theorem e_wE_op {F : FF} {env : Env} {st : Stt} {K : KE} {X : KX} : wE F (.op o a b) env st K X = (shW a (quiet b) env fun env => rdC a env st (fun k => wE F a env st k X) fun x e1 s1 => stays a x (quiet b) ∧ rdC b e1 s1 (fun k => wE F b e1 s1 k X) fun y e2 s2 => op2W o x y fun z => K z e2 s2) := (rfl)
theorem e_wE_lrg {F : FF} {env : Env} {st : Stt} {K : KE} {X : KX} : wE F (.lrg a) env st K X = (rdC a env st (fun k => wE F a env st k X) fun x e s => intW x fun n => (-(2 ^ 62) ≤ n ∧ n ≤ 16777216) ∧ K (.lst true (rangeD 0 n)) e s) := (rfl)
theorem e_wE_neg {F : FF} {env : Env} {st : Stt} {K : KE} {X : KX} : wE F (.neg a) env st K X = (rdC a env st (fun k => wE F a env st k X) fun x e s => intW x fun i => K (.int (-i)) e s) := (rfl)
theorem e_wE_cmp {F : FF} {env : Env} {st : Stt} {K : KE} {X : KX} : wE F (.cmp c a b) env st K X = (shW a (quiet b) env fun env => rdC a env st (fun k => wE F a env st k X) fun x e1 s1 => stays a x (quiet b) ∧ rdC b e1 s1 (fun k => wE F b e1 s1 k X) fun y e2 s2 => cmpW c x y fun z => K (.bl z) e2 s2) := (rfl)
theorem e_wE_chain {F : FF} {env : Env} {st : Stt} {K : KE} {X : KX} : wE F (.chain c c' a b d) env st K X = (rdC a env st (fun k => wE F a env st k X) fun x e1 s1 => nf x = true ∧ rdC b e1 s1 (fun k => wE F b e1 s1 k X) fun y e2 s2 => nf y = true ∧ cmpW c x y fun z =>
      if z = true then rdC d e2 s2 (fun k => wE F d e2 s2 k X) fun u e3 s3 => cmpW c' y u fun t => K (.bl t) e3 s3 else K (.bl false) e2 s2) := (rfl)
theorem e_wE_and {F : FF} {env : Env} {st : Stt} {K : KE} {X : KX} : wE F (.and_ a b) env st K X = (wE F a env st (fun x e s => truW x fun t => if t = true then wE F b e s K X else K x e s) X) := (rfl)
theorem e_wE_or {F : FF} {env : Env} {st : Stt} {K : KE} {X : KX} : wE F (.or_ a b) env st K X = (wE F a env st (fun x e s => truW x fun t => if t = true then K x e s else wE F b e s K X) X) := (rfl)
theorem e_wE_not {F : FF} {env : Env} {st : Stt} {K : KE} {X : KX} : wE F (.not_ a) env st K X = (rdC a env st (fun k => wE F a env st k X) fun x e s => truW x fun t => K (.bl (!t)) e s) := (rfl)
theorem e_wE_ite {F : FF} {env : Env} {st : Stt} {K : KE} {X : KX} : wE F (.ite t a b) env st K X = (rdC t env st (fun k => wE F t env st k X) fun x e s => truW x fun c => if c = true then wE F a e s K X else wE F b e s K X) := (rfl)
theorem e_wE_tup {F : FF} {env : Env} {st : Stt} {K : KE} {X : KX} : wE F (.tup es) env st K X = (wEs F es env st (fun ds e s => ds.length ≤ Lim ∧ K (.tup ds) e s) X) := (rfl)
theorem e_wE_lst {F : FF} {env : Env} {st : Stt} {K : KE} {X : KX} : wE F (.lst es) env st K X = (wEs F es env st (fun ds e s => ds.length ≤ Lim ∧ K (.lst true ds) e s) X) := (rfl)
theorem e_wE_idx {F : FF} {env : Env} {st : Stt} {K : KE} {X : KX} : wE F (.idx a i) env st K X = (shW a (quiet i) env fun env => rdC a env st (fun k => wE F a env st k X) fun x e1 s1 => stays a x (quiet i) ∧ rdC i e1 s1 (fun k => wE F i e1 s1 k X) fun y e2 s2 => idxW x y fun z => nf z = true ∧ K z e2 s2) := (rfl)
theorem e_wE_idxL {F : FF} {env : Env} {st : Stt} {K : KE} {X : KX} {v : Nat} {i : IE} : wE F (.idxL v i) env st K X = (onV (getV env v) fun _ => rdC i env st (fun k => wE F i env st k X) fun y e2 s2 => onV (getV e2 v) fun x => idxW (derefD s2 x) y fun z => nf z = true ∧ K z e2 s2) := (rfl)
theorem e_wE_idxM {F : FF} {env : Env} {st : Stt} {K : KE} {X : KX} {a i : IE} : wE F (.idxM a i) env st K X = (wE F a env st (fun x e1 s1 => rdC i e1 s1 (fun k => wE F i e1 s1 k X) fun y e2 s2 => idxW x y fun z => K z e2 s2) X) := (rfl)
theorem e_wE_slc {F : FF} {env : Env} {st : Stt} {K : KE} {X : KX} : wE F (.slc a lo hi) env st K X = (shW a (quietO lo && quietO hi) env fun env => rdC a env st (fun k => wE F a env st k X) fun x e1 s1 => stays a x (quietO lo && quietO hi) ∧ wO F lo e1 s1 (fun l e2 s2 => (oInt l).isSome = true ∧ wO F hi e2 s2 (fun h e3 s3 => (oInt h).isSome = true ∧ slcW x l h fun z => K z e3 s3) X) X) := (rfl)
theorem e_wE_rev {F : FF} {env : Env} {st : Stt} {K : KE} {X : KX} : wE F (.rev a) env st K X = (rdC a env st (fun k => wE F a env st k X) fun x e s => revW x fun z => K z e s) := (rfl)
theorem e_wE_call {F : FF} {env : Env} {st : Stt} {K : KE} {X : KX} : wE F (.call f es ks pm) env st K X = (wEs F es env st (fun ds e s => ds.length = es.length ∧ wEs F ks e s (fun zs e2 s2 => zs.length = ks.length ∧ F f (pm.map (argOf (ds ++ zs))) s2 (fun d s' => K d e2 s') (fun x s' => X x e2 s')) X) X) := (rfl)
theorem e_wE_attr {F : FF} {env : Env} {st : Stt} {K : KE} {X : KX} {a : IE} {n : Nat} : wE F (.attr a n) env st K X = (rdC a env st (fun k => wE F a env st k X) fun x e s => attrW s x n fun z s' => K z e s') := (rfl)
theorem e_wE_meth {F : FF} {env : Env} {st : Stt} {K : KE} {X : KX} {tb : List (Nat × Nat × List Ar)} {o : IE} {es ks : List IE} : wE F (.meth tb o es ks) env st K X = (wE F o env st (fun x e0 s0 => clsW s0 x fun c => tbW tb c fun f pm => wEs F es e0 s0 (fun ds e s => ds.length = es.length ∧ wEs F ks e s (fun zs e2 s2 => zs.length = ks.length ∧ F f (pm.map (argOf (x :: (ds ++ zs)))) s2 (fun d s' => K d e2 s') (fun x s' => X x e2 s')) X) X) X) := (rfl)
theorem e_wE_mk {F : FF} {env : Env} {st : Stt} {K : KE} {X : KX} {f : Nat} {es ks : List IE} {pm : List Ar} : wE F (.mk f es ks pm) env st K X = (wEs F es env st (fun ds e s => ds.length = es.length ∧ wEs F ks e s (fun zs e2 s2 => zs.length = ks.length ∧ F f (pm.map (argOf (ds ++ zs))) s2 (fun d s' => K d e2 s') (fun x s' => X x e2 s')) X) X) := (rfl)
theorem e_wS_setF {F : FF} {env : Env} {st : Stt} {Q : Kn} {v n : Nat} {e : IE} : wS F (.setF v n e) env st Q = (wE F e env st (fun d e1 s1 => onV (getV e1 v) fun x => putW s1 x n d fun s2 => Q.nx e1 s2) Q.ex) := (rfl)
theorem e_wS_raise {F : FF} {env : Env} {st : Stt} {Q : Kn} {c : Nat} {e : IE} : wS F (.raise_ c e) env st Q = (wE F e env st (fun d e1 s1 => Q.ex (c, fz d) e1 s1) Q.ex) := (rfl)
theorem e_wS_try {F : FF} {env : Env} {st : Stt} {Q : Kn} {body suite : List IS} {k i : Nat} : wS F (.tryS body k i suite) env st Q = (wSs F body env st { Q with ex := fun x e1 s1 => if isExc k x = true then wSs F suite (e1.set i (some (.exc x.1 x.2))) s1 (unbE i Q) else Q.ex x e1 s1 }) := (rfl)
theorem e_iv_attr {a} {n} : isVar (.attr a n) = false := (rfl)
theorem e_iv_meth {t} {a} {b} {p} : isVar (.meth t a b p) = false := (rfl)
theorem e_iv_mk {f} {a} {b} {p} : isVar (.mk f a b p) = false := (rfl)
theorem e_wE_callP {F : FF} {env : Env} {st : Stt} {K : KE} {X : KX} : wE F (.callP f es ks pm) env st K X = (wRs F es env st (fun ds e s => ds.length = es.length ∧ wRs F ks e s (fun zs e2 s2 => (zs.length = ks.length ∧ (nfL ds || quietL ks) = true ∧ (ds ++ zs).all noP = true) ∧ F f (pm.map fun a => fz (argOf (ds ++ zs) a)) [] (fun d _ => (scalar d || ownD d) = true ∧ K d e2 s2) (fun _ _ => False)) X) X) := (rfl)
theorem e_wE_callL {F : FF} {env : Env} {st : Stt} {K : KE} {X : KX} : wE F (.callL f es ks pm) env st K X = (wRs F es env st (fun ds e s => ds.length = es.length ∧ wRs F ks e s (fun zs e2 s2 => (zs.length = ks.length ∧ (nfL ds || quietL ks) = true ∧ (ds ++ zs).all noTri = true ∧ s2.all boxB = true) ∧ F f (pm.map fun a => fz (argOf (ds ++ zs) a)) s2 (fun d s' => (s'.all boxB = true ∧ (tupD d || ownD d) = true) ∧ K d e2 s') (fun _ _ => False)) X) X) := (rfl)
theorem e_wE_blt {F : FF} {env : Env} {st : Stt} {K : KE} {X : KX} : wE F (.blt b es) env st K X = (wRs F es env st (fun ds e s => bltW b ds fun z => K z e s) X) := (rfl)
theorem e_wE_mr {F : FF} {env : Env} {st : Stt} {K : KE} {X : KX} : wE F (.mr m a es) env st K X = (rdC a env st (fun k => wE F a env st k X) fun x e1 s1 => (stays a x (quietL es) ∧ mrOk m x = true) ∧ wRs F es e1 s1 (fun ds e2 s2 => mrW m x ds fun z => K z e2 s2) X) := (rfl)
theorem e_wE_comp2 {F : FF} {env : Env} {st : Stt} {K : KE} {X : KX} : wE F (.comp2 ik its tg ifs ik1 its1 tg1 ifs1 elt own own1) env st K X = (wZs F its env st (fun ds e s => itemsW ik ds fun xs => (xs.length ≤ 4096 ∧ hidOk e own = true) ∧
      compLL (cmpB2 tg own (fun e2 s2 K2 X2 => wIfs F ifs e2 s2 K2 X2) (fun e2 s2 K2 => wZs F its1 e2 s2 (fun ds e3 s3 => itemsW ik1 ds fun zs => zs.length ≤ 4096 ∧ compL (cmpB tg1 own1 (fun e2 s2 K2 X2 => wIfs F ifs1 e2 s2 K2 X2) (fun e2 s2 K2 X2 => wE F elt e2 s2 K2 X2)) zs (wipeE e3 own1) s3 K2) (fun _ _ _ => False))) xs (wipeE e own) s (fun ys e' s' => K (.lst true ys) (backE e e' own) s')) X) := (rfl)
theorem e_wE_comp {F : FF} {env : Env} {st : Stt} {K : KE} {X : KX} : wE F (.comp ik its tg ifs elt own) env st K X = (wZs F its env st (fun ds e s => itemsW ik ds fun xs => (xs.length ≤ Lim ∧ hidOk e own = true) ∧
      compL (cmpB tg own (fun e2 s2 K2 X2 => wIfs F ifs e2 s2 K2 X2) (fun e2 s2 K2 X2 => wE F elt e2 s2 K2 X2)) xs (wipeE e own) s (fun ys e' s' => K (.lst true ys) (backE e e' own) s')) X) := (rfl)
theorem e_wE_fstr {F : FF} {env : Env} {st : Stt} {K : KE} {X : KX} : wE F (.fstr es) env st K X = (wRs F es env st (fun ds e s => txW (join2 ds) fun t => t.length ≤ Lim ∧ K (.str t) e s) X) := (rfl)
theorem e_wEs_nil {F : FF} {env : Env} {st : Stt} {K : List D → Env → Stt → Prop} {X : KX} : wEs F [] env st K X = (K [] env st) := (rfl)
theorem e_wEs_cons {F : FF} {env : Env} {st : Stt} {K : List D → Env → Stt → Prop} {X : KX} : wEs F (a :: r) env st K X = (wE F a env st (fun d e s => wEs F r e s (fun ds e2 s2 => K (d :: ds) e2 s2) X) X) := (rfl)
theorem e_wRs_nil {F : FF} {env : Env} {st : Stt} {K : List D → Env → Stt → Prop} {X : KX} : wRs F [] env st K X = (K [] env st) := (rfl)
theorem e_wRs_cons {F : FF} {env : Env} {st : Stt} {K : List D → Env → Stt → Prop} {X : KX} : wRs F (a :: r) env st K X = (shW a (quietL r) env fun env => rdC a env st (fun k => wE F a env st k X) fun d e s => stays a d (quietL r) ∧ wRs F r e s (fun ds e2 s2 => K (d :: ds) e2 s2) X) := (rfl)
theorem e_wZs_nil {F : FF} {env : Env} {st : Stt} {K : List D → Env → Stt → Prop} {X : KX} : wZs F [] env st K X = (K [] env st) := (rfl)
theorem e_wZs_cons {F : FF} {env : Env} {st : Stt} {K : List D → Env → Stt → Prop} {X : KX} : wZs F (a :: r) env st K X = (wE F a env st (fun d e s => wZs F r e s (fun ds e2 s2 => K (fz d :: ds) e2 s2) X) X) := (rfl)
theorem e_wIfs_nil {F : FF} {env : Env} {st : Stt} {K : Bool → Env → Stt → Prop} {X : KX} : wIfs F [] env st K X = (K true env st) := (rfl)
theorem e_wIfs_cons {F : FF} {env : Env} {st : Stt} {K : Bool → Env → Stt → Prop} {X : KX} : wIfs F (a :: r) env st K X = (rdC a env st (fun k => wE F a env st k X) fun x e s => truW x fun c => if c = true then wIfs F r e s K X else K false e s) := (rfl)
theorem e_wO_none {F : FF} {env : Env} {st : Stt} {K : Option D → Env → Stt → Prop} {X : KX} : wO F none env st K X = (K none env st) := (rfl)
theorem e_wO_some {F : FF} {env : Env} {st : Stt} {K : Option D → Env → Stt → Prop} {X : KX} : wO F (some a) env st K X = (rdC a env st (fun k => wE F a env st k X) fun d e s => K (some d) e s) := (rfl)
theorem e_wS_asg {F : FF} {env : Env} {st : Stt} {Q : Kn} : wS F (.asg t e) env st Q = (wE F e env st (fun d e1 s1 => onE (wTg t d e1) fun e2 => Q.nx e2 s1) Q.ex) := (rfl)
theorem e_wS_asgP {F : FF} {env : Env} {st : Stt} {Q : Kn} : wS F (.asgP i e) env st Q = (wE F e env st (fun d e1 s1 => ownW d fun xs => i < e1.length ∧ Q.nx (e1.set i (some (.ptr s1.length))) (s1 ++ [.val (.lst true xs)])) Q.ex) := (rfl)
theorem e_wS_aug {F : FF} {env : Env} {st : Stt} {Q : Kn} : wS F (.aug i o e) env st Q = (onV (getV env i) fun x => intW x fun a => wR F e env st (fun y e1 s1 => intW y fun b => augW o a b fun z => Q.nx (e1.set i (some (.int z))) s1) Q.ex) := (rfl)
theorem e_wS_expr {F : FF} {env : Env} {st : Stt} {Q : Kn} : wS F (.expr e) env st Q = (wE F e env st (fun _ e1 s1 => Q.nx e1 s1) Q.ex) := (rfl)
theorem e_wS_retN {F : FF} {env : Env} {st : Stt} {Q : Kn} : wS F .retN env st Q = (Q.rt .non st) := (rfl)
theorem e_wS_ite {F : FF} {env : Env} {st : Stt} {Q : Kn} : wS F (.ite t a b) env st Q = (wT F t env st (fun c e s => if c = true then wSs F a e s Q else wSs F b e s Q) Q.ex) := (rfl)
theorem e_wS_for {F : FF} {env : Env} {st : Stt} {Q : Kn} : wS F (.for_ ik its tg body) env st Q = (wZs F its env st (fun ds e s => itemsW ik ds fun xs => forL (forB tg fun e2 s2 Q2 => wSs F body e2 s2 Q2) xs e s Q) Q.ex) := (rfl)
theorem e_wS_while {F : FF} {env : Env} {st : Stt} {Q : Kn} : wS F (.while_ t body) env st Q = (∃ n, whileL (fun e s K => wT F t e s K Q.ex) (fun e s Q1 => wSs F body e s Q1) Q n env st) := (rfl)
theorem e_wS_pass {F : FF} {env : Env} {st : Stt} {Q : Kn} : wS F .pass env st Q = (Q.nx env st) := (rfl)
theorem e_wS_brk {F : FF} {env : Env} {st : Stt} {Q : Kn} : wS F .brk env st Q = (Q.bk env st) := (rfl)
theorem e_wS_bad {F : FF} {env : Env} {st : Stt} {Q : Kn} : wS F .bad env st Q = False := (rfl)
theorem e_wS_cont {F : FF} {env : Env} {st : Stt} {Q : Kn} : wS F .cont env st Q = (Q.ct env st) := (rfl)
theorem e_wE_mc {F : FF} {env : Env} {st : Stt} {K : KE} {X : KX} {m : Mc} {i : Nat} {es : List IE} : wE F (.mc m (.var i) es) env st K X = (onV (getV env i) fun x0 => isL (derefD st x0) = true ∧ wEs F es env st (fun ds e s => onV (getV e i) fun x => setW e s i x (fun xs R => mcW m xs ds R) fun z e' s' => K z e' s') X) := (rfl)
theorem e_wS_setIx {F : FF} {env : Env} {st : Stt} {Q : Kn} {v : Nat} {i e : IE} : wS F (.setIx (.var v) i e) env st Q = (wE F e env st (fun d e1 s1 => onV (getV e1 v) fun _ => wR F i e1 s1 (fun y e2 s2 => intW y fun n => onV (getV e2 v) fun x => setW e2 s2 v x (fun xs R => natW (ixn xs.length n) fun j => R .non (xs.set j d)) fun _ e3 s3 => Q.nx e3 s3) Q.ex) Q.ex) := (rfl)
theorem e_wS_retV {F : FF} {env : Env} {st : Stt} {Q : Kn} {i : Nat} : wS F (.ret (.var i)) env st Q = (onV (getV env i) fun d => Q.rt d st) := (rfl)
theorem e_wS_ret {F : FF} {env : Env} {st : Stt} {Q : Kn} {e : IE} (h : isVar e = false) : wS F (.ret e) env st Q = (wE F e env st (fun d _ s1 => Q.rt d s1) Q.ex) := by cases e <;> first | rfl | cases h
theorem e_rdC (a : IE) (env : Env) (st : Stt) (run : KE → Prop) (K : KE) (h : isVar a = false) : rdC a env st run K = run fun d e s => K (fz d) e s := by cases a <;> first | rfl | cases h
theorem e_wR {F : FF} {a : IE} {env : Env} {st : Stt} {K : KE} {X : KX} : wR F a env st K X = rdC a env st (fun k => wE F a env st k X) K := (rfl)
theorem e_wT {F : FF} {a : IE} {env : Env} {st : Stt} {K : Bool → Env → Stt → Prop} {X : KX} : wT F a env st K X = rdC a env st (fun k => wE F a env st k X) (fun x e s => truW x fun b => K b e s) := (rfl)
theorem e_stays (a : IE) (x : D) (q : Bool) : stays a x q = ((!isVar a || nf x || q) = true) := (rfl)
theorem e_wE_frz {F : FF} {env : Env} {st : Stt} {K : KE} {X : KX} {a : IE} : wE F (.frz a) env st K X = wE F a env st (fun d e s => K (fz d) e s) X := (rfl)
theorem e_iv_frz {a} : isVar (.frz a) = false := (rfl)
theorem e_wS_swap {F : FF} {env : Env} {st : Stt} {Q : Kn} {v i j : Nat} : wS F (.swap v i j) env st Q = (onV (getV env i) fun ia => intW ia fun a => onV (getV env j) fun jb => intW jb fun b => onV (getV env v) fun x => ownW x fun xs => nfL xs = true ∧ natW (ixn xs.length a) fun p => natW (ixn xs.length b) fun q => onV xs[p]? fun y => onV xs[q]? fun z => Q.nx (env.set v (some (.lst true ((xs.set p z).set q y)))) st) := (rfl)
theorem e_wE_vw {F : FF} {env : Env} {st : Stt} {K : KE} {X : KX} {a i : IE} : wE F (.vw a i) env st K X = rdV (.vw a i) env st (fun z => nf z = true ∧ K z env st) := (rfl)
theorem rdC_vw {env : Env} {st : Stt} {run : KE → Prop} {K : KE} {a i : IE} : rdC (.vw a i) env st run K = rdV (.vw a i) env st (fun d => K d env st) := (rfl)
theorem rdV_var {env : Env} {st : Stt} {i : Nat} {k : D → Prop} : rdV (.var i) env st k = onV (getV env i) (fun d => k (derefD st d)) := (rfl)
theorem rdV_vw {env : Env} {st : Stt} {a i : IE} {k : D → Prop} : rdV (.vw a i) env st k = rdV a env st (fun x => qv i env fun n => idxW x (.int n) k) := (rfl)
theorem qv_con {env : Env} {n : Int} {k : Int → Prop} : qv (.con (.int n)) env k = k n := (rfl)
theorem qv_var {env : Env} {j : Nat} {k : Int → Prop} : qv (.var j) env k = onV (getV env j) (fun x => intW x k) := (rfl)
theorem qv_add {env : Env} {j : Nat} {n : Int} {k : Int → Prop} : qv (.op .add (.var j) (.con (.int n))) env k = onV (getV env j) (fun x => intW x fun i => k (i + n)) := (rfl)
theorem qv_sub {env : Env} {j : Nat} {n : Int} {k : Int → Prop} : qv (.op .sub (.var j) (.con (.int n))) env k = onV (getV env j) (fun x => intW x fun i => k (i - n)) := (rfl)
theorem qv_idx {env : Env} {j : Nat} {n : Int} {k : Int → Prop} : qv (.idx (.var j) (.con (.int n))) env k = onV (getV env j) (fun x => idxW x (.int n) fun z => intW z k) := (rfl)
theorem e_iv_vw {a} {b} : isVar (.vw a b) = true := (rfl)
theorem q_vw {a} {b} : quiet (.vw a b) = true := (rfl)
theorem e_iv_con {d} : isVar (.con d) = false := (rfl)
theorem e_iv_op {o} {a} {b} : isVar (.op o a b) = false := (rfl)
theorem e_iv_lrg {a} : isVar (.lrg a) = false := (rfl)
theorem e_iv_neg {a} : isVar (.neg a) = false := (rfl)
theorem e_iv_cmp {o} {a} {b} : isVar (.cmp o a b) = false := (rfl)
theorem e_iv_chain {o} {p} {a} {b} {d} : isVar (.chain o p a b d) = false := (rfl)
theorem e_iv_and {a} {b} : isVar (.and_ a b) = false := (rfl)
theorem e_iv_or {a} {b} : isVar (.or_ a b) = false := (rfl)
theorem e_iv_not {a} : isVar (.not_ a) = false := (rfl)
theorem e_iv_ite {a} {b} {d} : isVar (.ite a b d) = false := (rfl)
theorem e_iv_tup {a} : isVar (.tup a) = false := (rfl)
theorem e_iv_lst {a} : isVar (.lst a) = false := (rfl)
theorem e_iv_idxL {a} {b} : isVar (.idxL a b) = false := (rfl)
theorem e_iv_idxM {a} {b} : isVar (.idxM a b) = false := (rfl)
theorem e_iv_idx {a} {b} : isVar (.idx a b) = false := (rfl)
theorem e_iv_slc {a} {b} {d} : isVar (.slc a b d) = false := (rfl)
theorem e_iv_rev {a} : isVar (.rev a) = false := (rfl)
theorem e_iv_call {f} {a} {b} {p} : isVar (.call f a b p) = false := (rfl)
theorem e_iv_callP {f} {a} {b} {p} : isVar (.callP f a b p) = false := (rfl)
theorem e_iv_callL {f} {a} {b} {p} : isVar (.callL f a b p) = false := (rfl)
theorem e_iv_blt {b} {a} : isVar (.blt b a) = false := (rfl)
theorem e_iv_mr {m} {a} {b} : isVar (.mr m a b) = false := (rfl)
theorem e_iv_mc {m} {a} {b} : isVar (.mc m a b) = false := (rfl)
theorem e_iv_comp2 {k} {i} {t} {f} {k1} {i1} {t1} {f1} {e} {o} {o1} : isVar (.comp2 k i t f k1 i1 t1 f1 e o o1) = false := (rfl)
theorem e_iv_comp {k} {i} {t} {f} {e} {o} : isVar (.comp k i t f e o) = false := (rfl)
theorem e_iv_fstr {a} : isVar (.fstr a) = false := (rfl)
theorem e_iv_var {i} : isVar (.var i) = true := (rfl)
theorem q_con {d} : quiet (.con d) = true := (rfl)
theorem q_var {i} : quiet (.var i) = true := (rfl)
theorem q_vc {o i d} : quiet (.op o (.var i) (.con d)) = true := (rfl)
theorem q_cv {o i d} : quiet (.op o (.con d) (.var i)) = true := (rfl)
theorem q_vv {o i j} : quiet (.op o (.var i) (.var j)) = true := (rfl)
theorem qL_nil : quietL [] = true := (rfl)
theorem qL_cons {a r} : quietL (a :: r) = (quiet a && quietL r) := (rfl)
theorem qO_none : quietO none = true := (rfl)
theorem qO_some {a} : quietO (some a) = quiet a := (rfl)
end Ev

namespace Ev
section
variable {F : FF} {env : Env} {st : Stt} {X : KX}
theorem truW_fzz (x : D) (K : Bool → Prop) : truW (fz x) K = truW x K := by
  cases x with
  | lst o xs => cases xs <;> rfl
  | tup xs => cases xs <;> rfl
  | _ => rfl
/-- a test of what is handed on -/
def wTE (F : FF) (a : IE) (env : Env) (st : Stt) (K : Bool → Env → Stt → Prop) (X : KX) : Prop := wE F a env st (fun x e s => truW x fun b => K b e s) X
theorem tru_form (x : D) : ∃ (p : Prop) (b : Bool), ∀ K : Bool → Prop, truW x K = (p ∧ K b) := by
  cases x with
  | non => exact ⟨True, false, fun K => (true_and _).symm⟩
  | bl b => exact ⟨True, b, fun K => (true_and _).symm⟩
  | int i => exact ⟨True, i != 0, fun K => (true_and _).symm⟩
  | str y => exact ⟨_, _, fun K => rfl⟩
  | lst o xs => exact ⟨True, !xs.isEmpty, fun K => (true_and _).symm⟩
  | tup xs => exact ⟨True, !xs.isEmpty, fun K => (true_and _).symm⟩
  | _ => exact ⟨False, false, fun K => (false_and _).symm⟩
theorem tru_tru (x : D) (A : Bool → Prop) (B : Prop) : truW x (fun t => if t = true then truW x A else B) = truW x (fun t => if t = true then A true else B) := by
  obtain ⟨p, b, h⟩ := tru_form x
  rw [h, h, h]; cases b <;> simp
theorem tru_truF (x : D) (A : Bool → Prop) (B : Prop) : truW x (fun t => if t = true then B else truW x A) = truW x (fun t => if t = true then B else A false) := by
  obtain ⟨p, b, h⟩ := tru_form x
  rw [h, h, h]; cases b <;> simp
variable {K : Bool → Env → Stt → Prop}
theorem tE_or {a b} : wTE F (.or_ a b) env st K X = wTE F a env st (fun t e s => if t = true then K true e s else wTE F b e s K X) X := by
  show wE F a env st (fun x e s => truW x fun t => if t = true then truW x (fun b => K b e s) else wE F b e s (fun x e s => truW x fun b => K b e s) X) X = _
  simp only [tru_tru]; rfl
theorem tE_and {a b} : wTE F (.and_ a b) env st K X = wTE F a env st (fun t e s => if t = true then wTE F b e s K X else K false e s) X := by
  show wE F a env st (fun x e s => truW x fun t => if t = true then wE F b e s (fun x e s => truW x fun b => K b e s) X else truW x (fun b => K b e s)) X = _
  simp only [tru_truF]; rfl
theorem tE_not {a} : wTE F (.not_ a) env st K X = wT F a env st (fun t e s => K (!t) e s) X := (rfl)
theorem wT_or {a b} : wT F (.or_ a b) env st K X = wTE F a env st (fun t e s => if t = true then K true e s else wTE F b e s K X) X := by
  rw [← tE_or]
  show wE F (.or_ a b) env st (fun x e s => truW (fz x) fun b => K b e s) X = _
  simp only [truW_fzz]; rfl
theorem wT_and {a b} : wT F (.and_ a b) env st K X = wTE F a env st (fun t e s => if t = true then wTE F b e s K X else K false e s) X := by
  rw [← tE_and]
  show wE F (.and_ a b) env st (fun x e s => truW (fz x) fun b => K b e s) X = _
  simp only [truW_fzz]; rfl
theorem wT_not {a} : wT F (.not_ a) env st K X = wT F a env st (fun t e s => K (!t) e s) X := (rfl)
theorem wT_var {i} : wT F (.var i) env st K X = onV (getV env i) fun d => truW (derefD st d) fun b => K b env st := (rfl)
theorem tE_var {i} : wTE F (.var i) env st K X = onV (getV env i) fun d => truW (fz d) fun b => K b (env.set i (some (fz d))) st := (rfl)
theorem e_ifs {a r} : wIfs F (a :: r) env st K X = wT F a env st (fun c e s => if c = true then wIfs F r e s K X else K false e s) X := (rfl)
theorem e_iteT {t a b} {K : KE} : wE F (.ite t a b) env st K X = wT F t env st (fun c e s => if c = true then wE F a e s K X else wE F b e s K X) X := (rfl)
theorem wT_e {a} (h : isVar a = false) : wT F a env st K X = wE F a env st (fun x e s => truW x fun b => K b e s) X := by
  have : wT F a env st K X = wE F a env st (fun x e s => truW (fz x) fun b => K b e s) X := by cases a <;> first | rfl | cases h
  rw [this]; simp only [truW_fzz]
theorem wT_con {d} : wT F (.con d) env st K X = wE F (.con d) env st (fun x e s => truW x fun b => K b e s) X := wT_e (rfl)
theorem tE_con {d} : wTE F (.con d) env st K X = wE F (.con d) env st (fun x e s => truW x fun b => K b e s) X := (rfl)
theorem wT_op {o} {a} {b} : wT F (.op o a b) env st K X = wE F (.op o a b) env st (fun x e s => truW x fun b => K b e s) X := wT_e (rfl)
theorem tE_op {o} {a} {b} : wTE F (.op o a b) env st K X = wE F (.op o a b) env st (fun x e s => truW x fun b => K b e s) X := (rfl)
theorem wT_lrg {a} : wT F (.lrg a) env st K X = wE F (.lrg a) env st (fun x e s => truW x fun b => K b e s) X := wT_e (rfl)
theorem tE_lrg {a} : wTE F (.lrg a) env st K X = wE F (.lrg a) env st (fun x e s => truW x fun b => K b e s) X := (rfl)
theorem wT_neg {a} : wT F (.neg a) env st K X = wE F (.neg a) env st (fun x e s => truW x fun b => K b e s) X := wT_e (rfl)
theorem tE_neg {a} : wTE F (.neg a) env st K X = wE F (.neg a) env st (fun x e s => truW x fun b => K b e s) X := (rfl)
theorem wT_cmp {c} {a} {b} : wT F (.cmp c a b) env st K X = wE F (.cmp c a b) env st (fun x e s => truW x fun b => K b e s) X := wT_e (rfl)
theorem tE_cmp {c} {a} {b} : wTE F (.cmp c a b) env st K X = wE F (.cmp c a b) env st (fun x e s => truW x fun b => K b e s) X := (rfl)
theorem wT_chain {c} {d} {a} {b} {e} : wT F (.chain c d a b e) env st K X = wE F (.chain c d a b e) env st (fun x e s => truW x fun b => K b e s) X := wT_e (rfl)
theorem tE_chain {c} {d} {a} {b} {e} : wTE F (.chain c d a b e) env st K X = wE F (.chain c d a b e) env st (fun x e s => truW x fun b => K b e s) X := (rfl)
theorem wT_ite {t} {a} {b} : wT F (.ite t a b) env st K X = wE F (.ite t a b) env st (fun x e s => truW x fun b => K b e s) X := wT_e (rfl)
theorem tE_ite {t} {a} {b} : wTE F (.ite t a b) env st K X = wE F (.ite t a b) env st (fun x e s => truW x fun b => K b e s) X := (rfl)
theorem wT_tup {es} : wT F (.tup es) env st K X = wE F (.tup es) env st (fun x e s => truW x fun b => K b e s) X := wT_e (rfl)
theorem tE_tup {es} : wTE F (.tup es) env st K X = wE F (.tup es) env st (fun x e s => truW x fun b => K b e s) X := (rfl)
theorem wT_lst {es} : wT F (.lst es) env st K X = wE F (.lst es) env st (fun x e s => truW x fun b => K b e s) X := wT_e (rfl)
theorem tE_lst {es} : wTE F (.lst es) env st K X = wE F (.lst es) env st (fun x e s => truW x fun b => K b e s) X := (rfl)
theorem wT_idxL {a} {i} : wT F (.idxL a i) env st K X = wE F (.idxL a i) env st (fun x e s => truW x fun b => K b e s) X := wT_e (rfl)
theorem tE_idxL {a} {i} : wTE F (.idxL a i) env st K X = wE F (.idxL a i) env st (fun x e s => truW x fun b => K b e s) X := (rfl)
theorem wT_idxM {a} {i} : wT F (.idxM a i) env st K X = wE F (.idxM a i) env st (fun x e s => truW x fun b => K b e s) X := wT_e (rfl)
theorem tE_idxM {a} {i} : wTE F (.idxM a i) env st K X = wE F (.idxM a i) env st (fun x e s => truW x fun b => K b e s) X := (rfl)
theorem wT_idx {a} {i} : wT F (.idx a i) env st K X = wE F (.idx a i) env st (fun x e s => truW x fun b => K b e s) X := wT_e (rfl)
theorem tE_idx {a} {i} : wTE F (.idx a i) env st K X = wE F (.idx a i) env st (fun x e s => truW x fun b => K b e s) X := (rfl)
theorem wT_slc {a} {l} {h} : wT F (.slc a l h) env st K X = wE F (.slc a l h) env st (fun x e s => truW x fun b => K b e s) X := wT_e (rfl)
theorem tE_slc {a} {l} {h} : wTE F (.slc a l h) env st K X = wE F (.slc a l h) env st (fun x e s => truW x fun b => K b e s) X := (rfl)
theorem wT_rev {a} : wT F (.rev a) env st K X = wE F (.rev a) env st (fun x e s => truW x fun b => K b e s) X := wT_e (rfl)
theorem tE_rev {a} : wTE F (.rev a) env st K X = wE F (.rev a) env st (fun x e s => truW x fun b => K b e s) X := (rfl)
theorem wT_call {f} {es} {ks} {pm} : wT F (.call f es ks pm) env st K X = wE F (.call f es ks pm) env st (fun x e s => truW x fun b => K b e s) X := wT_e (rfl)
theorem tE_call {f} {es} {ks} {pm} : wTE F (.call f es ks pm) env st K X = wE F (.call f es ks pm) env st (fun x e s => truW x fun b => K b e s) X := (rfl)
theorem wT_attr {a} {n} : wT F (.attr a n) env st K X = wE F (.attr a n) env st (fun x e s => truW x fun b => K b e s) X := wT_e (rfl)
theorem tE_attr {a} {n} : wTE F (.attr a n) env st K X = wE F (.attr a n) env st (fun x e s => truW x fun b => K b e s) X := (rfl)
theorem wT_meth {f} {es} {ks} {pm} : wT F (.meth f es ks pm) env st K X = wE F (.meth f es ks pm) env st (fun x e s => truW x fun b => K b e s) X := wT_e (rfl)
theorem tE_meth {f} {es} {ks} {pm} : wTE F (.meth f es ks pm) env st K X = wE F (.meth f es ks pm) env st (fun x e s => truW x fun b => K b e s) X := (rfl)
theorem wT_mk {f} {es} {ks} {pm} : wT F (.mk f es ks pm) env st K X = wE F (.mk f es ks pm) env st (fun x e s => truW x fun b => K b e s) X := wT_e (rfl)
theorem tE_mk {f} {es} {ks} {pm} : wTE F (.mk f es ks pm) env st K X = wE F (.mk f es ks pm) env st (fun x e s => truW x fun b => K b e s) X := (rfl)
theorem wT_vw {a} {i} : wT F (.vw a i) env st K X = rdV (.vw a i) env st (fun d => truW d fun b => K b env st) := (rfl)
theorem tE_vw {a} {i} : wTE F (.vw a i) env st K X = rdV (.vw a i) env st (fun d => nf d = true ∧ truW d fun b => K b env st) := (rfl)
theorem wT_callP {f} {es} {ks} {pm} : wT F (.callP f es ks pm) env st K X = wE F (.callP f es ks pm) env st (fun x e s => truW x fun b => K b e s) X := wT_e (rfl)
theorem wT_callL {f} {es} {ks} {pm} : wT F (.callL f es ks pm) env st K X = wE F (.callL f es ks pm) env st (fun x e s => truW x fun b => K b e s) X := wT_e (rfl)
theorem tE_callP {f} {es} {ks} {pm} : wTE F (.callP f es ks pm) env st K X = wE F (.callP f es ks pm) env st (fun x e s => truW x fun b => K b e s) X := (rfl)
theorem tE_callL {f} {es} {ks} {pm} : wTE F (.callL f es ks pm) env st K X = wE F (.callL f es ks pm) env st (fun x e s => truW x fun b => K b e s) X := (rfl)
theorem wT_blt {b} {es} : wT F (.blt b es) env st K X = wE F (.blt b es) env st (fun x e s => truW x fun b => K b e s) X := wT_e (rfl)
theorem tE_blt {b} {es} : wTE F (.blt b es) env st K X = wE F (.blt b es) env st (fun x e s => truW x fun b => K b e s) X := (rfl)
theorem wT_mr {m} {a} {es} : wT F (.mr m a es) env st K X = wE F (.mr m a es) env st (fun x e s => truW x fun b => K b e s) X := wT_e (rfl)
theorem tE_mr {m} {a} {es} : wTE F (.mr m a es) env st K X = wE F (.mr m a es) env st (fun x e s => truW x fun b => K b e s) X := (rfl)
theorem wT_mc {m} {a} {es} : wT F (.mc m a es) env st K X = wE F (.mc m a es) env st (fun x e s => truW x fun b => K b e s) X := wT_e (rfl)
theorem tE_mc {m} {a} {es} : wTE F (.mc m a es) env st K X = wE F (.mc m a es) env st (fun x e s => truW x fun b => K b e s) X := (rfl)
theorem wT_comp2 {k} {i} {t} {f} {k1} {i1} {t1} {f1} {e} {o} {o1} : wT F (.comp2 k i t f k1 i1 t1 f1 e o o1) env st K X = wE F (.comp2 k i t f k1 i1 t1 f1 e o o1) env st (fun x e s => truW x fun b => K b e s) X := wT_e (rfl)
theorem wT_comp {k} {i} {t} {f} {e} {o} : wT F (.comp k i t f e o) env st K X = wE F (.comp k i t f e o) env st (fun x e s => truW x fun b => K b e s) X := wT_e (rfl)
theorem tE_comp2 {k} {i} {t} {f} {k1} {i1} {t1} {f1} {e} {o} {o1} : wTE F (.comp2 k i t f k1 i1 t1 f1 e o o1) env st K X = wE F (.comp2 k i t f k1 i1 t1 f1 e o o1) env st (fun x e s => truW x fun b => K b e s) X := (rfl)
theorem tE_comp {k} {i} {t} {f} {e} {o} : wTE F (.comp k i t f e o) env st K X = wE F (.comp k i t f e o) env st (fun x e s => truW x fun b => K b e s) X := (rfl)
theorem wT_fstr {es} : wT F (.fstr es) env st K X = wE F (.fstr es) env st (fun x e s => truW x fun b => K b e s) X := wT_e (rfl)
theorem tE_fstr {es} : wTE F (.fstr es) env st K X = wE F (.fstr es) env st (fun x e s => truW x fun b => K b e s) X := (rfl)
end
end Ev

namespace Ev
section
variable {K K' : D → Prop} {B B' : Bool → Prop}
theorem onV_mono {o : Option D} (k : ∀ z, K z → K' z) (h : onV o K) : onV o K' := by cases o <;> first | exact h.elim | exact k _ h
theorem onE_mono {o : Option Env} {K K' : Env → Prop} (k : ∀ z, K z → K' z) (h : onE o K) : onE o K' := by cases o <;> first | exact h.elim | exact k _ h
theorem natW_mono {o : Option Nat} {K K' : Nat → Prop} (k : ∀ z, K z → K' z) (h : natW o K) : natW o K' := by cases o <;> first | exact h.elim | exact k _ h
theorem nsW_mono {o : Option (List Int)} {K K' : List Int → Prop} (k : ∀ z, K z → K' z) (h : nsW o K) : nsW o K' := by cases o <;> first | exact h.elim | exact k _ h
theorem bsW_mono {o : Option (List Bool)} {K K' : List Bool → Prop} (k : ∀ z, K z → K' z) (h : bsW o K) : bsW o K' := by cases o <;> first | exact h.elim | exact k _ h
theorem ssW_mono {o : Option (List Tx)} {K K' : List Tx → Prop} (k : ∀ z, K z → K' z) (h : ssW o K) : ssW o K' := by cases o <;> first | exact h.elim | exact k _ h
theorem txW_mono {o : Option Tx} {K K' : Tx → Prop} (k : ∀ z, K z → K' z) (h : txW o K) : txW o K' := by cases o <;> first | exact h.elim | exact k _ h
theorem sgW_mono {a : Tx} {K K' : Nat → Prop} (k : ∀ z, K z → K' z) (h : sgW a K) : sgW a K' := by unfold sgW at h; split at h <;> first | exact h.elim | exact k _ h
theorem intW_mono {x : D} {K K' : Int → Prop} (k : ∀ z, K z → K' z) (h : intW x K) : intW x K' := by cases x <;> first | exact h.elim | exact k _ h
theorem ownW_mono {x : D} {K K' : List D → Prop} (k : ∀ z, K z → K' z) (h : ownW x K) : ownW x K' := by unfold ownW at h; split at h <;> first | exact h.elim | exact k _ h
theorem op2W_mono {o x y} (k : ∀ z, K z → K' z) (h : op2W o x y K) : op2W o x y K' := by
  unfold op2W at h; split at h <;> first | exact h.elim | exact k _ h | exact ⟨h.1, k _ h.2⟩ | exact ⟨h.1, h.2.1, k _ h.2.2⟩
theorem cmpW_mono {o x y} (k : ∀ z, B z → B' z) (h : cmpW o x y B) : cmpW o x y B' := by
  by_cases e : o = .eq
  · subst e; cases x <;> exact ⟨h.1, k _ h.2⟩
  by_cases e : o = .ne
  · subst e; cases x <;> exact ⟨h.1, k _ h.2⟩
  by_cases e : o = .in_
  · subst e; cases x <;> cases y <;> first | exact h.elim | exact ⟨h.1, k _ h.2⟩ | exact sgW_mono (fun _ h => k _ h) h
  by_cases e : o = .notIn
  · subst e; cases x <;> cases y <;> first | exact h.elim | exact ⟨h.1, k _ h.2⟩ | exact sgW_mono (fun _ h => k _ h) h
  unfold cmpW at h; split at h <;> first | exact h.elim | (exact absurd rfl ‹¬Cm.in_ = Cm.in_›) | (exact absurd rfl ‹¬Cm.notIn = Cm.notIn›) | exact k _ h | exact ⟨h.1, k _ h.2⟩ | exact sgW_mono (fun _ h => k _ h) h | (exact absurd rfl ‹¬Cm.eq = Cm.eq›) | (exact absurd rfl ‹¬Cm.ne = Cm.ne›) | (cases x <;> exact ⟨h.1, k _ h.2⟩) | (cases x <;> exact k _ h)
theorem truW_mono {x} (k : ∀ z, B z → B' z) (h : truW x B) : truW x B' := by
  cases x <;> first | exact h.elim | exact k _ h | exact ⟨h.1, k _ h.2⟩
theorem idxW_mono {x y} (k : ∀ z, K z → K' z) (h : idxW x y K) : idxW x y K' := by
  unfold idxW at h; split at h <;> first | exact h.elim | exact onV_mono k h | exact ⟨h.1, natW_mono (fun _ h => k _ h) h.2⟩
theorem slcL_mono {xs l h'} {K K' : List D → Prop} (k : ∀ z, K z → K' z) (h : slcL xs l h' K) : slcL xs l h' K' := by
  unfold slcL at h; split at h <;> first | exact h.elim | exact ⟨h.1, k _ h.2⟩
theorem slcS_mono {xs l h'} {K K' : Tx → Prop} (k : ∀ z, K z → K' z) (h : slcS xs l h' K) : slcS xs l h' K' := by
  unfold slcS at h; split at h <;> first | exact h.elim | exact ⟨h.1, k _ h.2⟩
theorem slcW_mono {x lo hi} (k : ∀ z, K z → K' z) (h : slcW x lo hi K) : slcW x lo hi K' := by
  cases x <;> first | exact h.elim | exact slcL_mono (fun _ h => k _ h) h | exact slcS_mono (fun _ h => k _ h) h
theorem revW_mono {x} (k : ∀ z, K z → K' z) (h : revW x K) : revW x K' := by
  cases x <;> first | exact h.elim | exact ⟨h.1, k _ h.2⟩
theorem itemsW_mono {ik ds} {K K' : List D → Prop} (k : ∀ z, K z → K' z) (h : itemsW ik ds K) : itemsW ik ds K' := by
  unfold itemsW at h; split at h <;> first | exact h.elim | exact k _ h | exact ⟨h.1, k _ h.2⟩
theorem srtW_mono {xs : List D} {K K' : List D → Prop} (k : ∀ z, K z → K' z) (h : srtW xs K) : srtW xs K' := by unfold srtW at h ⊢; split at h <;> first | exact k _ h | exact ⟨h.1, k _ h.2⟩
theorem ssetW_mono {xs : List D} {K K' : List D → Prop} (k : ∀ z, K z → K' z) (h : ssetW xs K) : ssetW xs K' := by
  unfold ssetW at h ⊢
  refine ⟨h.1, ?_⟩
  have h := h.2
  split at h
  · exact k _ h
  · split at h
    · exact k _ h
    · exact h
theorem bltW_mono {b ds} (k : ∀ z, K z → K' z) (h : bltW b ds K) : bltW b ds K' := by
  unfold bltW at h; split at h <;> first | exact h.elim | exact k _ h | exact ⟨h.1, k _ h.2⟩ | exact bsW_mono (fun _ h => k _ h) h | exact srtW_mono (fun _ h => k _ h) h | exact ssetW_mono (fun _ h => k _ h) h | exact nsW_mono (fun _ h => k _ h) h | exact nsW_mono (fun _ h => ⟨h.1, k _ h.2⟩) h
theorem mrW_mono {m x ds} (k : ∀ z, K z → K' z) (h : mrW m x ds K) : mrW m x ds K' := by
  unfold mrW at h; split at h <;> first | exact h.elim | exact ssW_mono (fun _ h => ⟨h.1, k _ h.2⟩) h | exact sgW_mono (fun _ h => ⟨h.1, k _ h.2⟩) h | exact ⟨h.1, natW_mono (fun _ h => k _ h) h.2⟩ | exact ⟨h.1, k _ h.2⟩
theorem mcW_mono {m xs ds} {K K' : D → List D → Prop} (k : ∀ z y, K z y → K' z y) (h : mcW m xs ds K) : mcW m xs ds K' := by
  unfold mcW at h; split at h <;> first | exact h.elim | exact k _ _ h | exact ⟨h.1, k _ _ h.2⟩ | exact ⟨h.1, h.2.1, k _ _ h.2.2⟩ | exact ⟨h.1, onV_mono (fun _ h => k _ _ h) h.2⟩ | exact ⟨h.1, h.2.1, natW_mono (fun _ h => onV_mono (fun _ h => k _ _ h) h) h.2.2⟩
theorem augW_mono {o a b} {K K' : Int → Prop} (k : ∀ z, K z → K' z) (h : augW o a b K) : augW o a b K' := by
  cases o <;> first | exact h.elim | exact k _ h | exact ⟨h.1, k _ h.2⟩
theorem attrW_mono {s x n} {K K' : D → Stt → Prop} (k : ∀ z s, K z s → K' z s) (h : attrW s x n K) : attrW s x n K' := by
  cases x with
  | ins c fs => exact onV_mono (fun _ h => ⟨h.1, k _ _ h.2⟩) h
  | exc c w => exact ⟨h.1, h.2.1, k _ _ h.2.2⟩
  | ptr j =>
    unfold attrW at h ⊢
    simp only at h ⊢
    split at h
    · exact onV_mono (fun _ h => ⟨h.1, k _ _ h.2⟩) h
    · exact h.elim
  | _ => exact h.elim
theorem putW_mono {s x n d} {K K' : Stt → Prop} (k : ∀ s, K s → K' s) (h : putW s x n d K) : putW s x n d K' := by
  cases x with
  | ptr j =>
    unfold putW at h ⊢
    simp only at h ⊢
    split at h
    · refine natW_mono (fun i h => ?_) h
      split at h
      · rename_i e; rw [if_pos e]; exact k _ h
      · rename_i e; rw [if_neg e]
        split at h
        · rename_i e; rw [if_pos e]; exact k _ h
        · exact h.elim
    · exact h.elim
  | _ => exact h.elim
theorem clsW_mono {s x} {K K' : Nat → Prop} (k : ∀ z, K z → K' z) (h : clsW s x K) : clsW s x K' := by
  cases x with
  | ins c fs => exact k _ h
  | ptr j =>
    unfold clsW at h ⊢
    simp only at h ⊢
    split at h
    · exact k _ h
    · exact h.elim
  | _ => exact h.elim
theorem tbW_mono {tb c} {K K' : Nat → List Ar → Prop} (k : ∀ f pm, K f pm → K' f pm) (h : tbW tb c K) : tbW tb c K' := by
  unfold tbW at h ⊢
  split at h
  · exact k _ _ h
  · exact h.elim
theorem iniW_mono {c k s} {K K' : D → Stt → Prop} (g : ∀ z s, K z s → K' z s) (h : iniW c k s K) : iniW c k s K' := by
  unfold iniW at h ⊢
  split at h
  · refine ⟨h.1, ?_⟩
    have h := h.2
    split at h
    · rename_i e; rw [if_pos e]; exact g _ _ h
    · rename_i e; rw [if_neg e]; exact g _ _ h
  · exact h.elim
theorem setW_mono {env st v x} {G G' : List D → (D → List D → Prop) → Prop} {K K' : D → Env → Stt → Prop} (k : ∀ z e s, K z e s → K' z e s)
    (g : ∀ xs (R R' : D → List D → Prop), (∀ z y, R z y → R' z y) → G xs R → G' xs R') (h : setW env st v x G K) : setW env st v x G' K' := by
  cases x with
  | lst o xs => cases o <;> first | exact h.elim | exact g _ _ _ (fun z y h => k _ _ _ h) h
  | ptr j =>
    unfold setW at h ⊢
    simp only at h ⊢
    split at h
    · exact g _ _ _ (fun z y h => k _ _ _ h) h
    · exact h.elim
  | _ => exact h.elim
theorem qv_mono {i : IE} {env : Env} {k k' : Int → Prop} (g : ∀ n, k n → k' n) (h : qv i env k) : qv i env k' := by
  unfold qv at h ⊢
  split at h
  · exact g _ h
  · exact onV_mono (fun x h => intW_mono g h) h
  · exact onV_mono (fun x h => intW_mono (fun _ h => g _ h) h) h
  · exact onV_mono (fun x h => intW_mono (fun _ h => g _ h) h) h
  · exact onV_mono (fun x h => idxW_mono (fun z h => intW_mono g h) h) h
  · exact h.elim
theorem rdV_mono : ∀ (a : IE) {env : Env} {st : Stt} {k k' : D → Prop}, (∀ z, k z → k' z) → rdV a env st k → rdV a env st k'
  | .var i, env, st, k, k', g, h => onV_mono (fun _ h => g _ h) h
  | .vw a i, env, st, k, k', g, h => rdV_mono a (fun x h => qv_mono (fun n h => idxW_mono g h) h) h
  | .con _, _, _, _, _, _, h | .op _ _ _, _, _, _, _, _, h | .neg _, _, _, _, _, _, h | .lrg _, _, _, _, _, _, h | .cmp _ _ _, _, _, _, _, _, h | .chain _ _ _ _ _, _, _, _, _, _, h | .and_ _ _, _, _, _, _, _, h | .or_ _ _, _, _, _, _, _, h
  | .not_ _, _, _, _, _, _, h | .ite _ _ _, _, _, _, _, _, h | .tup _, _, _, _, _, _, h | .lst _, _, _, _, _, _, h | .dic _ _, _, _, _, _, _, h | .idx _ _, _, _, _, _, _, h | .idxM _ _, _, _, _, _, _, h | .idxL _ _, _, _, _, _, _, h | .slc _ _ _, _, _, _, _, _, h
  | .rev _, _, _, _, _, _, h | .attr _ _, _, _, _, _, _, h | .meth _ _ _ _, _, _, _, _, _, h | .mk _ _ _ _, _, _, _, _, _, h | .call _ _ _ _, _, _, _, _, _, h | .callP _ _ _ _, _, _, _, _, _, h | .callL _ _ _ _, _, _, _, _, _, h | .blt _ _, _, _, _, _, _, h
  | .mr _ _ _, _, _, _, _, _, h | .mc _ _ _, _, _, _, _, _, h | .comp _ _ _ _ _ _, _, _, _, _, _, h | .comp2 _ _ _ _ _ _ _ _ _ _ _, _, _, _, _, _, h | .fstr _, _, _, _, _, _, h | .frz _, _, _, _, _, _, h => h.elim
theorem rdC_mono {a env st} {run run' : KE → Prop} {K K' : KE} (k : ∀ z e s, K z e s → K' z e s) (r : ∀ R R' : KE, (∀ z e s, R z e s → R' z e s) → run R → run' R') (h : rdC a env st run K) : rdC a env st run' K' := by
  cases a
  case var i => exact onV_mono (fun _ h => k _ _ _ h) h
  case vw a i => exact rdV_mono (.vw a i) (fun _ h => k _ _ _ h) h
  all_goals exact r _ _ (fun z e s h => k _ _ _ h) h
theorem shW_mono {a q env} {k k' : Env → Prop} (g : ∀ e, k e → k' e) (h : shW a q env k) : shW a q env k' := by
  cases q
  · cases a <;> first | exact onV_mono (fun _ h => g _ h) h | exact g _ h
  · exact g _ h
end
section
variable {b b' : D → Env → Stt → (Option D → Env → Stt → Prop) → Prop}
theorem compL_mono (g : ∀ x e s R R', (∀ z e s, R z e s → R' z e s) → b x e s R → b' x e s R') : ∀ (xs : List D) (e : Env) (s : Stt) (K K' : List D → Env → Stt → Prop), (∀ z e s, K z e s → K' z e s) → compL b xs e s K → compL b' xs e s K'
  | [], e, s, K, K', k, h => k _ _ _ h
  | x :: xs, e, s, K, K', k, h => by
    refine g x e s _ _ (fun z e s h => ?_) h
    cases z with
    | none => exact compL_mono g xs e s K K' k h
    | some y => exact compL_mono g xs e s _ _ (fun z e s h => k _ _ _ h) h
theorem compLL_mono {b b' : D → Env → Stt → (List D → Env → Stt → Prop) → Prop} (g : ∀ x e s R R', (∀ z e s, R z e s → R' z e s) → b x e s R → b' x e s R') : ∀ (xs : List D) (e : Env) (s : Stt) (K K' : List D → Env → Stt → Prop), (∀ z e s, K z e s → K' z e s) → compLL b xs e s K → compLL b' xs e s K'
  | [], e, s, K, K', k, h => k _ _ _ h
  | x :: xs, e, s, K, K', k, h => g x e s _ _ (fun z e s h => compLL_mono g xs e s _ _ (fun z e s h => k _ _ _ h) h) h
/-- one follows where the other stands -/
structure Kn.Le (Q Q' : Kn) : Prop where
  nx : ∀ e s, Q.nx e s → Q'.nx e s
  rt : ∀ d s, Q.rt d s → Q'.rt d s
  bk : ∀ e s, Q.bk e s → Q'.bk e s
  ct : ∀ e s, Q.ct e s → Q'.ct e s
  ex : ∀ x e s, Q.ex x e s → Q'.ex x e s
theorem forL_mono {b b' : D → Env → Stt → Kn → Prop} (g : ∀ x e s Q Q', Kn.Le Q Q' → b x e s Q → b' x e s Q') : ∀ (xs : List D) (e : Env) (s : Stt) (Q Q' : Kn), Kn.Le Q Q' → forL b xs e s Q → forL b' xs e s Q'
  | [], e, s, Q, Q', k, h => k.nx _ _ h
  | x :: xs, e, s, Q, Q', k, h => by
    refine g x e s _ _ ?_ h
    exact ⟨fun e s h => forL_mono g xs e s Q Q' k h, k.rt, k.nx, fun e s h => forL_mono g xs e s Q Q' k h, k.ex⟩
theorem whileL_mono {t t' : Env → Stt → (Bool → Env → Stt → Prop) → Prop} {b b' : Env → Stt → Kn → Prop} {Q Q' : Kn} (gt : ∀ e s R R', (∀ z e s, R z e s → R' z e s) → t e s R → t' e s R')
    (g : ∀ e s Q Q', Kn.Le Q Q' → b e s Q → b' e s Q') (k : Kn.Le Q Q') : ∀ (n : Nat) (e : Env) (s : Stt), whileL t b Q n e s → whileL t' b' Q' n e s
  | 0, e, s, h => h.elim
  | n + 1, e, s, h => by
    refine gt e s _ _ (fun z e s h => ?_) h
    cases z with
    | true =>
      refine g e s _ _ ?_ h
      exact ⟨fun e s h => whileL_mono gt g k n e s h, k.rt, k.nx, fun e s h => whileL_mono gt g k n e s h, k.ex⟩
    | false => exact k.nx _ _ h
end
def FMono (F F' : FF) : Prop := ∀ f ds st (K K' : D → Stt → Prop) (X X' : Exn → Stt → Prop), (∀ d s, K d s → K' d s) → (∀ x s, X x s → X' x s) → F f ds st K X → F' f ds st K' X'
section
variable {F F' : FF} (hF : FMono F F')
include hF
mutual
theorem wE_mono : ∀ (a : IE) (env : Env) (st : Stt) (K K' : KE) (X X' : KX), (∀ z e s, K z e s → K' z e s) → (∀ z e s, X z e s → X' z e s) → wE F a env st K X → wE F' a env st K' X'
  | .con d, env, st, K, K', X, X', k, x, h => k _ _ _ h
  | .var i, env, st, K, K', X, X', k, x, h => onV_mono (fun _ h => k _ _ _ h) h
  | .op o a b, env, st, K, K', X, X', k, x, h => shW_mono (fun e h => rdC_mono (fun z e s h => ⟨h.1, rdC_mono (fun z e s h => op2W_mono (fun _ h => k _ _ _ h) h) (fun R R' g h => wE_mono b e s R R' X X' g x h) h.2⟩) (fun R R' g h => wE_mono a _ _ R R' X X' g x h) h) h
  | .lrg a, env, st, K, K', X, X', k, x, h => rdC_mono (fun z e s h => intW_mono (fun _ h => ⟨h.1, k _ _ _ h.2⟩) h) (fun R R' g h => wE_mono a _ _ R R' X X' g x h) h
  | .neg a, env, st, K, K', X, X', k, x, h => rdC_mono (fun z e s h => intW_mono (fun _ h => k _ _ _ h) h) (fun R R' g h => wE_mono a _ _ R R' X X' g x h) h
  | .cmp o a b, env, st, K, K', X, X', k, x, h => shW_mono (fun e h => rdC_mono (fun z e s h => ⟨h.1, rdC_mono (fun z e s h => cmpW_mono (fun _ h => k _ _ _ h) h) (fun R R' g h => wE_mono b e s R R' X X' g x h) h.2⟩) (fun R R' g h => wE_mono a _ _ R R' X X' g x h) h) h
  | .chain o o' a b d, env, st, K, K', X, X', k, x, h => rdC_mono (fun z e s h => ⟨h.1, rdC_mono (fun z e s h => ⟨h.1, cmpW_mono (fun z h => by
      cases z with
      | true =>
        rw [if_pos rfl] at h ⊢
        exact rdC_mono (fun z e s h => cmpW_mono (fun _ h => k _ _ _ h) h) (fun R R' g h => wE_mono d _ _ R R' X X' g x h) h
      | false => exact k _ _ _ h) h.2⟩) (fun R R' g h => wE_mono b e s R R' X X' g x h) h.2⟩) (fun R R' g h => wE_mono a _ _ R R' X X' g x h) h
  | .and_ a b, env, st, K, K', X, X', k, x, h => wE_mono a env st _ _ X X' (fun z e s h => truW_mono (fun t h => by
      cases t with
      | true => exact wE_mono b e s K K' X X' k x h
      | false => exact k _ _ _ h) h) x h
  | .or_ a b, env, st, K, K', X, X', k, x, h => wE_mono a env st _ _ X X' (fun z e s h => truW_mono (fun t h => by
      cases t with
      | true => exact k _ _ _ h
      | false => exact wE_mono b e s K K' X X' k x h) h) x h
  | .not_ a, env, st, K, K', X, X', k, x, h => rdC_mono (fun z e s h => truW_mono (fun _ h => k _ _ _ h) h) (fun R R' g h => wE_mono a _ _ R R' X X' g x h) h
  | .ite t a b, env, st, K, K', X, X', k, x, h => rdC_mono (fun z e s h => truW_mono (fun c h => by
      cases c with
      | true => exact wE_mono a e s K K' X X' k x h
      | false => exact wE_mono b e s K K' X X' k x h) h) (fun R R' g h => wE_mono t _ _ R R' X X' g x h) h
  | .tup es, env, st, K, K', X, X', k, x, h => wEs_mono es env st _ _ X X' (fun z e s h => ⟨h.1, k _ _ _ h.2⟩) x h
  | .lst es, env, st, K, K', X, X', k, x, h => wEs_mono es env st _ _ X X' (fun z e s h => ⟨h.1, k _ _ _ h.2⟩) x h
  | .dic _ _, env, st, K, K', X, X', k, x, h => h.elim
  | .idxL v i, env, st, K, K', X, X', k, x, h => onV_mono (fun _ h => rdC_mono (fun z e s h => onV_mono (fun _ h => idxW_mono (fun _ h => ⟨h.1, k _ _ _ h.2⟩) h) h) (fun R R' g h => wE_mono i _ _ R R' X X' g x h) h) h
  | .idxM a b, env, st, K, K', X, X', k, x, h => wE_mono a env st _ _ X X' (fun z e s h => rdC_mono (fun z e s h => idxW_mono (fun _ h => k _ _ _ h) h) (fun R R' g h => wE_mono b e s R R' X X' g x h) h) x h
  | .idx a b, env, st, K, K', X, X', k, x, h => shW_mono (fun e h => rdC_mono (fun z e s h => ⟨h.1, rdC_mono (fun z e s h => idxW_mono (fun _ h => ⟨h.1, k _ _ _ h.2⟩) h) (fun R R' g h => wE_mono b e s R R' X X' g x h) h.2⟩) (fun R R' g h => wE_mono a _ _ R R' X X' g x h) h) h
  | .frz a, env, st, K, K', X, X', k, x, h => wE_mono a env st _ _ X X' (fun d e s h => k _ _ _ h) x h
  | .vw a i, env, st, K, K', X, X', k, x, h => rdV_mono (.vw a i) (fun z h => ⟨h.1, k _ _ _ h.2⟩) h
  | .slc a lo hi, env, st, K, K', X, X', k, x, h => shW_mono (fun e h => rdC_mono (fun z e s h => ⟨h.1, wO_mono lo e s _ _ X X' (fun l e s h => ⟨h.1, wO_mono hi e s _ _ X X' (fun l e s h => ⟨h.1, slcW_mono (fun _ h => k _ _ _ h) h.2⟩) x h.2⟩) x h.2⟩) (fun R R' g h => wE_mono a _ _ R R' X X' g x h) h) h
  | .rev a, env, st, K, K', X, X', k, x, h => rdC_mono (fun z e s h => revW_mono (fun _ h => k _ _ _ h) h) (fun R R' g h => wE_mono a _ _ R R' X X' g x h) h
  | .call f es ks pm, env, st, K, K', X, X', k, x, h => wEs_mono es env st _ _ X X' (fun ds e s h => ⟨h.1, wEs_mono ks e s _ _ X X' (fun zs e2 s2 h => ⟨h.1, hF _ _ _ _ _ _ _ (fun d s h => k _ _ _ h) (fun y s h => x _ _ _ h) h.2⟩) x h.2⟩) x h
  | .attr a n, env, st, K, K', X, X', k, x, h => rdC_mono (fun z e s h => attrW_mono (fun _ _ h => k _ _ _ h) h) (fun R R' g h => wE_mono a _ _ R R' X X' g x h) h
  | .meth tb o es ks, env, st, K, K', X, X', k, x, h => wE_mono o env st _ _ X X' (fun y e0 s0 h => clsW_mono (fun c h => tbW_mono (fun f pm h => wEs_mono es e0 s0 _ _ X X' (fun ds e s h => ⟨h.1, wEs_mono ks e s _ _ X X' (fun zs e2 s2 h => ⟨h.1, hF _ _ _ _ _ _ _ (fun d s h => k _ _ _ h) (fun y s h => x _ _ _ h) h.2⟩) x h.2⟩) x h) h) h) x h
  | .mk f es ks pm, env, st, K, K', X, X', k, x, h => wEs_mono es env st _ _ X X' (fun ds e s h => ⟨h.1, wEs_mono ks e s _ _ X X' (fun zs e2 s2 h => ⟨h.1, hF _ _ _ _ _ _ _ (fun d s h => k _ _ _ h) (fun y s h => x _ _ _ h) h.2⟩) x h.2⟩) x h
  | .callP f es ks pm, env, st, K, K', X, X', k, x, h => wRs_mono es env st _ _ X X' (fun ds e s h => ⟨h.1, wRs_mono ks e s _ _ X X' (fun zs e2 s2 h => ⟨h.1, hF _ _ _ _ _ _ _ (fun d s h => ⟨h.1, k _ _ _ h.2⟩) (fun y s h => h) h.2⟩) x h.2⟩) x h
  | .callL f es ks pm, env, st, K, K', X, X', k, x, h => wRs_mono es env st _ _ X X' (fun ds e s h => ⟨h.1, wRs_mono ks e s _ _ X X' (fun zs e2 s2 h => ⟨h.1, hF _ _ _ _ _ _ _ (fun d s h => ⟨h.1, k _ _ _ h.2⟩) (fun y s h => h) h.2⟩) x h.2⟩) x h
  | .blt b es, env, st, K, K', X, X', k, x, h => wRs_mono es env st _ _ X X' (fun ds e s h => bltW_mono (fun _ h => k _ _ _ h) h) x h
  | .mr m a es, env, st, K, K', X, X', k, x, h => rdC_mono (fun z e s h => ⟨h.1, wRs_mono es e s _ _ X X' (fun ds e s h => mrW_mono (fun _ h => k _ _ _ h) h) x h.2⟩) (fun R R' g h => wE_mono a _ _ R R' X X' g x h) h
  | .mc m a es, env, st, K, K', X, X', k, x, h => by
    cases a
    case var i => exact onV_mono (fun x0 h => ⟨h.1, wEs_mono es env st _ _ X X' (fun ds e s h => onV_mono (fun y h => setW_mono (fun z e s h => k _ _ _ h) (fun xs R R' g h => mcW_mono g h) h) h) x h.2⟩) h
    all_goals exact h.elim
  | .comp ik its tg ifs elt own, env, st, K, K', X, X', k, x, h => wZs_mono its env st _ _ X X' (fun ds e s h => itemsW_mono (fun xs h => ⟨h.1, compL_mono (fun y e s R R' g h => onE_mono (fun e2 h => wIfs_mono ifs e2 s _ _ _ _ (fun b e3 s3 h => by
      cases b with
      | true => exact wE_mono elt e3 s3 _ _ _ _ (fun z e4 s4 h => g _ _ _ h) (fun z e s h => h) h
      | false => exact g _ _ _ h) (fun z e s h => h) h) h) xs _ _ _ _ (fun ys e s h => k _ _ _ h) h.2⟩) h) x h
  | .comp2 ik its tg ifs ik1 its1 tg1 ifs1 elt own own1, env, st, K, K', X, X', k, x, h => wZs_mono its env st _ _ X X' (fun ds e s h => itemsW_mono (fun xs h => ⟨h.1, compLL_mono (fun y e s R R' g h => onE_mono (fun e2 h => wIfs_mono ifs e2 s _ _ _ _ (fun b e3 s3 h => by
      cases b with
      | true => exact wZs_mono its1 e3 s3 _ _ _ _ (fun ds e s h => itemsW_mono (fun zs h => ⟨h.1, compL_mono (fun y e s R R' g h => onE_mono (fun e2 h => wIfs_mono ifs1 e2 s _ _ _ _ (fun b e3 s3 h => by
          cases b with
          | true => exact wE_mono elt e3 s3 _ _ _ _ (fun z e4 s4 h => g _ _ _ h) (fun z e s h => h) h
          | false => exact g _ _ _ h) (fun z e s h => h) h) h) zs _ _ _ _ (fun ys e s h => g _ _ _ h) h.2⟩) h) (fun z e s h => h) h
      | false => exact g _ _ _ h) (fun z e s h => h) h) h) xs _ _ _ _ (fun ys e s h => k _ _ _ h) h.2⟩) h) x h
  | .fstr es, env, st, K, K', X, X', k, x, h => wRs_mono es env st _ _ X X' (fun ds e s h => txW_mono (fun _ h => ⟨h.1, k _ _ _ h.2⟩) h) x h
theorem wEs_mono : ∀ (a : List IE) (env : Env) (st : Stt) (K K' : List D → Env → Stt → Prop) (X X' : KX), (∀ z e s, K z e s → K' z e s) → (∀ z e s, X z e s → X' z e s) → wEs F a env st K X → wEs F' a env st K' X'
  | [], env, st, K, K', X, X', k, x, h => k _ _ _ h
  | a :: r, env, st, K, K', X, X', k, x, h => wE_mono a env st _ _ X X' (fun d e s h => wEs_mono r e s _ _ X X' (fun ds e s h => k _ _ _ h) x h) x h
theorem wRs_mono : ∀ (a : List IE) (env : Env) (st : Stt) (K K' : List D → Env → Stt → Prop) (X X' : KX), (∀ z e s, K z e s → K' z e s) → (∀ z e s, X z e s → X' z e s) → wRs F a env st K X → wRs F' a env st K' X'
  | [], env, st, K, K', X, X', k, x, h => k _ _ _ h
  | a :: r, env, st, K, K', X, X', k, x, h => shW_mono (fun e h => rdC_mono (fun d e s h => ⟨h.1, wRs_mono r e s _ _ X X' (fun ds e s h => k _ _ _ h) x h.2⟩) (fun R R' g h => wE_mono a _ _ R R' X X' g x h) h) h
theorem wZs_mono : ∀ (a : List IE) (env : Env) (st : Stt) (K K' : List D → Env → Stt → Prop) (X X' : KX), (∀ z e s, K z e s → K' z e s) → (∀ z e s, X z e s → X' z e s) → wZs F a env st K X → wZs F' a env st K' X'
  | [], env, st, K, K', X, X', k, x, h => k _ _ _ h
  | a :: r, env, st, K, K', X, X', k, x, h => wE_mono a env st _ _ X X' (fun d e s h => wZs_mono r e s _ _ X X' (fun ds e s h => k _ _ _ h) x h) x h
theorem wIfs_mono : ∀ (a : List IE) (env : Env) (st : Stt) (K K' : Bool → Env → Stt → Prop) (X X' : KX), (∀ z e s, K z e s → K' z e s) → (∀ z e s, X z e s → X' z e s) → wIfs F a env st K X → wIfs F' a env st K' X'
  | [], env, st, K, K', X, X', k, x, h => k _ _ _ h
  | a :: r, env, st, K, K', X, X', k, x, h => rdC_mono (fun d e s h => truW_mono (fun c h => by
      cases c with
      | true => exact wIfs_mono r e s K K' X X' k x h
      | false => exact k _ _ _ h) h) (fun R R' g h => wE_mono a _ _ R R' X X' g x h) h
theorem wO_mono : ∀ (a : Option IE) (env : Env) (st : Stt) (K K' : Option D → Env → Stt → Prop) (X X' : KX), (∀ z e s, K z e s → K' z e s) → (∀ z e s, X z e s → X' z e s) → wO F a env st K X → wO F' a env st K' X'
  | none, env, st, K, K', X, X', k, x, h => k _ _ _ h
  | some a, env, st, K, K', X, X', k, x, h => by
    unfold wO at h ⊢
    exact rdC_mono (fun d e s h => k _ _ _ h) (fun R R' g h => wE_mono a _ _ R R' X X' g x h) h
end
theorem wT_mo (a : IE) (env : Env) (st : Stt) (K K' : Bool → Env → Stt → Prop) (X X' : KX) (k : ∀ z e s, K z e s → K' z e s) (x : ∀ z e s, X z e s → X' z e s) (h : wT F a env st K X) : wT F' a env st K' X' :=
  rdC_mono (fun d e s h => truW_mono (fun _ h => k _ _ _ h) h) (fun R R' g h => wE_mono hF a _ _ R R' X X' g x h) h
theorem wR_mono (a : IE) (env : Env) (st : Stt) (K K' : KE) (X X' : KX) (k : ∀ z e s, K z e s → K' z e s) (x : ∀ z e s, X z e s → X' z e s) (h : wR F a env st K X) : wR F' a env st K' X' :=
  rdC_mono k (fun R R' g h => wE_mono hF a _ _ R R' X X' g x h) h
mutual
theorem wS_mono : ∀ (a : IS) (env : Env) (st : Stt) (Q Q' : Kn), Kn.Le Q Q' → wS F a env st Q → wS F' a env st Q'
  | .asg t e, env, st, Q, Q', k, h => wE_mono hF e env st _ _ _ _ (fun d e1 s1 h => onE_mono (fun e2 h => k.nx _ _ h) h) k.ex h
  | .asgP i e, env, st, Q, Q', k, h => wE_mono hF e env st _ _ _ _ (fun d e1 s1 h => ownW_mono (fun xs h => ⟨h.1, k.nx _ _ h.2⟩) h) k.ex h
  | .aug i o e, env, st, Q, Q', k, h => onV_mono (fun x h => intW_mono (fun a h => wR_mono hF e env st _ _ _ _ (fun y e1 s1 h => intW_mono (fun b h => augW_mono (fun z h => k.nx _ _ h) h) h) k.ex h) h) h
  | .setF v n e, env, st, Q, Q', k, h => wE_mono hF e env st _ _ _ _ (fun d e1 s1 h => onV_mono (fun _ h => putW_mono (fun _ h => k.nx _ _ h) h) h) k.ex h
  | .setIx a i e, env, st, Q, Q', k, h => wE_mono hF e env st _ _ _ _ (fun d e1 s1 h => by
      cases a
      case var v => exact onV_mono (fun _ h => wR_mono hF i e1 s1 _ _ _ _ (fun y e2 s2 h => intW_mono (fun n h => onV_mono (fun x h => setW_mono (fun z e s h => k.nx _ _ h) (fun xs R R' g h => natW_mono (fun j h => g _ _ h) h) h) h) h) k.ex h) h
      all_goals exact h.elim) k.ex h
  | .expr e, env, st, Q, Q', k, h => wE_mono hF e env st _ _ _ _ (fun d e1 s1 h => k.nx _ _ h) k.ex h
  | .ret e, env, st, Q, Q', k, h => by
    cases e
    case var i => exact onV_mono (fun d h => k.rt _ _ h) h
    all_goals exact wE_mono hF _ env st _ _ _ _ (fun d e1 s1 h => k.rt _ _ h) k.ex h
  | .retN, env, st, Q, Q', k, h => k.rt _ _ h
  | .ite t a b, env, st, Q, Q', k, h => wT_mo hF t env st _ _ _ _ (fun c e s h => by
      cases c with
      | true => exact wSs_mono a e s Q Q' k h
      | false => exact wSs_mono b e s Q Q' k h) k.ex h
  | .for_ ik its tg body, env, st, Q, Q', k, h => wZs_mono hF its env st _ _ _ _ (fun ds e s h => itemsW_mono (fun xs h => forL_mono (fun x e s Q Q' k h => by
      unfold forB at h ⊢
      exact onE_mono (fun e2 h => wSs_mono body e2 s Q Q' k h) h) xs e s Q Q' k h) h) k.ex h
  | .while_ t body, env, st, Q, Q', k, ⟨n, h⟩ => ⟨n, whileL_mono (fun e s R R' g h => wT_mo hF t e s R R' _ _ g k.ex h) (fun e s Q Q' k h => wSs_mono body e s Q Q' k h) k n env st h⟩
  | .pass, env, st, Q, Q', k, h => k.nx _ _ h
  | .brk, env, st, Q, Q', k, h => k.bk _ _ h
  | .cont, env, st, Q, Q', k, h => k.ct _ _ h
  | .bad, env, st, Q, Q', k, h => h.elim
  | .swap v i j, env, st, Q, Q', k, h => onV_mono (fun _ h => intW_mono (fun _ h => onV_mono (fun _ h => intW_mono (fun _ h => onV_mono (fun _ h => ownW_mono (fun _ h => ⟨h.1, natW_mono (fun _ h => natW_mono (fun _ h => onV_mono (fun _ h => onV_mono (fun _ h => k.nx _ _ h) h) h) h) h.2⟩) h) h) h) h) h) h
  | .raise_ c e, env, st, Q, Q', k, h => wE_mono hF e env st _ _ _ _ (fun d e1 s1 h => k.ex _ _ _ h) k.ex h
  | .tryS body n i suite, env, st, Q, Q', k, h => wSs_mono body env st { Q with ex := fun x e1 s1 => if isExc n x = true then wSs F suite (e1.set i (some (.exc x.1 x.2))) s1 (unbE i Q) else Q.ex x e1 s1 }
      { Q' with ex := fun x e1 s1 => if isExc n x = true then wSs F' suite (e1.set i (some (.exc x.1 x.2))) s1 (unbE i Q') else Q'.ex x e1 s1 } ⟨k.nx, k.rt, k.bk, k.ct, fun x e1 s1 h => by
      show if isExc n x = true then wSs F' suite (e1.set i (some (.exc x.1 x.2))) s1 (unbE i Q') else Q'.ex x e1 s1
      by_cases z : isExc n x = true
      · have h : wSs F suite (e1.set i (some (.exc x.1 x.2))) s1 (unbE i Q) := by
          have h : if isExc n x = true then wSs F suite (e1.set i (some (.exc x.1 x.2))) s1 (unbE i Q) else Q.ex x e1 s1 := h
          rw [if_pos z] at h; exact h
        rw [if_pos z]
        exact wSs_mono suite _ s1 (unbE i Q) (unbE i Q') ⟨fun _ _ h => k.nx _ _ h, k.rt, fun _ _ h => k.bk _ _ h, fun _ _ h => k.ct _ _ h, fun _ _ _ h => h⟩ h
      · have h : Q.ex x e1 s1 := by
          have h : if isExc n x = true then wSs F suite (e1.set i (some (.exc x.1 x.2))) s1 (unbE i Q) else Q.ex x e1 s1 := h
          rw [if_neg z] at h; exact h
        rw [if_neg z]
        exact k.ex _ _ _ h⟩ h
theorem wSs_mono : ∀ (a : List IS) (env : Env) (st : Stt) (Q Q' : Kn), Kn.Le Q Q' → wSs F a env st Q → wSs F' a env st Q'
  | [], env, st, Q, Q', k, h => k.nx _ _ h
  | a :: r, env, st, Q, Q', k, h => by
    rw [wSs_cons] at h ⊢
    refine wS_mono a env st _ _ ?_ h
    exact ⟨fun e s h => wSs_mono r e s Q Q' k h, k.rt, k.bk, k.ct, k.ex⟩
end
end
theorem tk_mono {ds : List D} {st : Stt} {K K' : D → Stt → Prop} (k : ∀ d s, K d s → K' d s) : (match ds with
      | [.ptr b, .int n] => match st[b]? with
        | some (.box (m + 1)) => (0 < n ∧ n < 10 ^ 70) ∧ ∀ r, 0 ≤ r → r < n → K (.int r) (st.set b (.box m))
        | _ => False
      | _ => False) → (match ds with
      | [.ptr b, .int n] => match st[b]? with
        | some (.box (m + 1)) => (0 < n ∧ n < 10 ^ 70) ∧ ∀ r, 0 ≤ r → r < n → K' (.int r) (st.set b (.box m))
        | _ => False
      | _ => False) := by
  intro h
  split at h
  · rename_i b n
    cases e : st[b]? with
    | none => simp only [e] at h
    | some c =>
      simp only [e] at h ⊢
      split at h
      · exact ⟨h.1, fun r r0 r1 => k _ _ (h.2 r r0 r1)⟩
      · exact h.elim
  · exact h.elim
theorem bx_mono {ds : List D} {st : Stt} {K K' : D → Stt → Prop} (k : ∀ d s, K d s → K' d s) : (match ds with
      | [.kst xs, .int j] => (numsOf xs).isSome = true ∧ (0 ≤ j ∧ j ≤ 1000) ∧ K (.ptr st.length) (st ++ [.box Draws])
      | _ => False) → (match ds with
      | [.kst xs, .int j] => (numsOf xs).isSome = true ∧ (0 ≤ j ∧ j ≤ 1000) ∧ K' (.ptr st.length) (st ++ [.box Draws])
      | _ => False) := by
  intro h
  split at h
  · exact ⟨h.1, h.2.1, k _ _ h.2.2⟩
  · exact h.elim
theorem wC_mono {P : List Fn} : ∀ n : Nat, FMono (wC P n) (wC P n)
  | 0 => fun f ds st K K' X X' k x h => h.elim
  | n + 1 => fun f ds st K K' X X' k x h => by
    unfold wC at h ⊢
    cases e : P[f]? with
    | none => rw [e] at h; exact h.elim
    | some fn =>
      rw [e] at h
      cases fn with
      | body np ns b =>
        refine ⟨h.1, wSs_mono (wC_mono n) b _ _ _ _ ?_ h.2⟩
        exact ⟨fun e s h => k _ _ h, k, fun _ _ h => h, fun _ _ h => h, fun y _ s h => x _ _ h⟩
      | take =>
        exact tk_mono k h
      | box =>
        exact bx_mono k h
      | init c np ns b =>
        cases n with
        | zero => exact h.elim
        | succ j =>
          refine ⟨h.1, wSs_mono (wC_mono j) b _ _ _ _ ?_ h.2⟩
          exact ⟨fun e s h => iniW_mono k h, fun _ _ h => h, fun _ _ h => h, fun _ _ h => h, fun y _ s h => x _ _ h⟩
theorem wC_le_step {P : List Fn} : ∀ n : Nat, FMono (wC P n) (wC P (n + 1))
  | 0 => fun f ds st K K' X X' k x h => h.elim
  | n + 1 => fun f ds st K K' X X' k x h => by
    have ih := wC_le_step (P := P) n
    unfold wC at h ⊢
    cases e : P[f]? with
    | none => rw [e] at h; exact h.elim
    | some fn =>
      rw [e] at h
      cases fn with
      | body np ns b =>
        refine ⟨h.1, wSs_mono ih b _ _ _ _ ?_ h.2⟩
        exact ⟨fun e s h => k _ _ h, k, fun _ _ h => h, fun _ _ h => h, fun y _ s h => x _ _ h⟩
      | take =>
        exact tk_mono k h
      | box =>
        exact bx_mono k h
      | init c np ns b =>
        cases n with
        | zero => exact h.elim
        | succ j =>
          refine ⟨h.1, wSs_mono (wC_le_step j) b _ _ _ _ ?_ h.2⟩
          exact ⟨fun e s h => iniW_mono k h, fun _ _ h => h, fun _ _ h => h, fun _ _ h => h, fun y _ s h => x _ _ h⟩
/-- more steps do no harm -/
theorem wC_le {P : List Fn} {f : Nat} {ds : List D} {st : Stt} {K : D → Stt → Prop} {X : Exn → Stt → Prop} : ∀ {n : Nat}, wC P n f ds st K X → wC P (n + 1) f ds st K X := fun {n} h => wC_le_step n f ds st K K X X (fun _ _ h => h) (fun _ _ h => h) h
/-- a test that must fail, what is told then being False, and what comes behind -/
theorem if_not {P : List Fn} {n : Nat} {t : IE} {a r : List IS} {env : Env} {st : Stt} {Q : Kn} (R : Env → Stt → Prop) (h : wT (wC P n) t env st (fun b e s => b = false ∧ R e s) fun _ _ _ => False) (k : ∀ e s, R e s → wSs (wC P n) r e s Q) : wSs (wC P n) (.ite t a [] :: r) env st Q := by
  rw [wSs_cons]
  show wT (wC P n) t env st (fun c e s => if c = true then wSs (wC P n) a e s _ else wSs (wC P n) [] e s _) _
  refine wT_mo (wC_mono n) t env st _ _ _ _ (fun b e s h => ?_) (fun _ _ _ h => h.elim) h
  obtain ⟨rfl, h⟩ := h
  exact k e s h
theorem if_no {P : List Fn} {n : Nat} {t : IE} {a r : List IS} {env : Env} {st : Stt} {Q : Kn} (E : Env) (S : Stt) (h : wT (wC P n) t env st (fun b e s => b = false ∧ e = E ∧ s = S) fun _ _ _ => False) (k : wSs (wC P n) r E S Q) : wSs (wC P n) (.ite t a [] :: r) env st Q :=
  if_not (fun e s => e = E ∧ s = S) h fun _ _ h => by rw [h.1, h.2]; exact k
/-- a test, both ways to what comes behind -/
theorem if_join {P : List Fn} {n : Nat} {t : IE} {a b r : List IS} {env : Env} {st : Stt} {Q : Kn} (R : Env → Stt → Prop) (h : wS (wC P n) (.ite t a b) env st { Q with nx := R }) (k : ∀ e s, R e s → wSs (wC P n) r e s Q) : wSs (wC P n) (.ite t a b :: r) env st Q := by
  rw [wSs_cons]
  refine wS_mono (wC_mono n) _ _ _ _ _ ?_ h
  exact ⟨k, fun _ _ h => h, fun _ _ h => h, fun _ _ h => h, fun _ _ _ h => h⟩
theorem fn_mono {P : List Fn} {n f : Nat} {ds : List D} {st : Stt} {K K' : D → Stt → Prop} {X X' : Exn → Stt → Prop} (h : wC P n f ds st K X) (k : ∀ d s, K d s → K' d s) (x : ∀ e s, X e s → X' e s) : wC P n f ds st K' X' :=
  wC_mono n f ds st K K' X X' k x h
end Ev

namespace Ev
open PySem PySem.Spec PyProof.Rows L2
abbrev Frag := PySem.W.Frag
abbrev LSt := L2.St
/-- a tuple that is told, or of the written part -/
def TAt (K : Frag) (B : Hp) (a : Addr) (xs : List V) : Prop := B a = some (.tup xs) ∨ ∃ (o : Obj) (its : Array Value) (n : Nat), K.lookup a = some o ∧ o.cls = .type "tuple" ∧ o.dict = none ∧ o.data = .seq its n ∧ its.size ≤ sizeLine ∧ Vals xs its.toList
def clsN (c : Nat) : Str := match clsT[c]? with | some i => i.name | none => ""
def fldN (n : Nat) : Str := fldT.getD n ""
def clsA (K : Frag) (c : Nat) : Addr := He.ga K (clsN c)
def zipF (c : Nat) (vs : List V) : List (Str × V) := ((fldsOf c).map fldN).zip vs
def excA (K : Frag) (c : Nat) : Addr := He.ga K (excT.getD c "")
/-- a refusal that is kept: its class, where its dict is -/
def exq (a C dx : Addr) : HO := .ext fun h => ∃ o : Obj, h.get? a = some o ∧ o.cls = .ref C ∧ o.dict = some dx ∧ ∃ vs, o.data = .fields vs
structure ExcF (K : Frag) (c : Nat) : Prop where
  lt : c < excT.length
  xf : L2.XfC K (excA K c)
  no : PySem.W.findIn K (.ref (excA K c)) "what" = some none
  cl : (PySem.W.clsIn K (excA K c)).isSome = true
  ha : PySem.W.findIn K (.ref (excA K c)) "__class__" = some (some (.builtin "object.__class__"))
  hn : PySem.W.specialIn K (.builtin "object.__class__") "__get__" = some (some (.builtin "getset_descriptor.__get__"))
  ht : PySem.W.takesIn K (.builtin "object.__class__") = some true
  hm : PySem.W.mroIn K (excA K c) (.type "object") = some true
  ve : PySem.W.kitOne K (.ref (excA K c)) (.type "ValueError") = some true
def excCl (K : Frag) (c : Nat) : Bool := (PySem.W.clsIn K (excA K c)).isSome && (decide (PySem.W.findIn K (.ref (excA K c)) "__class__" = some (some (.builtin "object.__class__"))) && (decide (PySem.W.specialIn K (.builtin "object.__class__") "__get__" = some (some (.builtin "getset_descriptor.__get__"))) &&
  (decide (PySem.W.takesIn K (.builtin "object.__class__") = some true) && (decide (PySem.W.mroIn K (excA K c) (.type "object") = some true) && decide (PySem.W.kitOne K (.ref (excA K c)) (.type "ValueError") = some true)))))
theorem excF_of {K : Frag} {c : Nat} (lt : c < excT.length) (xf : L2.XfC K (excA K c)) (no : PySem.W.findIn K (.ref (excA K c)) "what" = some none) (h : excCl K c = true) : ExcF K c := by
  unfold excCl at h
  simp only [Bool.and_eq_true, decide_eq_true_eq] at h
  obtain ⟨h1, h2, h3, h4, h5, h6⟩ := h
  exact ⟨lt, xf, no, h1, h2, h3, h4, h5, h6⟩
/-- what a clause, or isinstance, says of a class of refusals -/
def ExcM (K : Frag) (k : Nat) : Prop := ∀ j, ExcF K j → PySem.W.exmOne K (.ref (excA K j)) (.ref (excA K k)) = some (k == 0 || j == k) ∧ PySem.W.kitOne K (.ref (excA K j)) (.ref (excA K k)) = some (k == 0 || j == k)
structure ClsF (K : Frag) (c : Nat) : Prop where
  cls : Cls K (clsA K c)
  noat : ∀ n ∈ fldsOf c, NoAttr K (clsA K c) (fldN n)
mutual
/-- d stands as v; what of it is owned stands at f -/
def Rep (K : Frag) (B H : Hp) (α : List Addr) : D → V → List Addr → Prop
  | .non, v, f => v = .non ∧ f = []
  | .bl b, v, f => v = .bl b ∧ f = []
  | .int i, v, f => v = .int i ∧ f = []
  | .str x, v, f => v = .str ⟨x.toArray⟩ ∧ f = []
  | .tup xs, v, f => ∃ a vs, v = .ref a ∧ TAt K B a vs ∧ RepL K B H α xs vs f
  | .kst xs, v, f => ∃ a vs, v = .ref a ∧ SqL K B a vs ∧ RepL K B H α xs vs [] ∧ f = []
  | .lst false xs, v, f => ∃ a vs, v = .ref a ∧ B a = some (.lst vs) ∧ RepL K B H α xs vs [] ∧ f = []
  | .lst true xs, v, f => ∃ a vs g, v = .ref a ∧ H a = some (.lst vs) ∧ RepL K B H α xs vs g ∧ f = a :: g
  | .ptr k, v, f => ∃ a, α[k]? = some a ∧ v = .ref a ∧ f = []
  | .ins c fs, v, f => ∃ a dx vs, v = .ref a ∧ B a = some (.ins (clsA K c) dx (zipF c vs)) ∧ ClsF K c ∧ RepL K B H α fs vs [] ∧ f = []
  | .exc c w, v, f => ∃ a dx u, v = .ref a ∧ B a = some (exq a (excA K c) dx) ∧ B dx = some (.xd [("what", u)]) ∧ ExcF K c ∧ Rep K B H α w u [] ∧ f = []
  | _, _, _ => False
def RepL (K : Frag) (B H : Hp) (α : List Addr) : List D → List V → List Addr → Prop
  | [], vs, f => vs = [] ∧ f = []
  | d :: ds, vs, f => ∃ v vr g h, vs = v :: vr ∧ Rep K B H α d v g ∧ RepL K B H α ds vr h ∧ f = g ++ h
end
def HLe (B H : Hp) : Prop := ∀ a o, B a = some o → H a = some o
theorem HLe.refl (B : Hp) : HLe B B := fun _ _ h => h
theorem HLe.trans {A B C : Hp} (h : HLe A B) (h' : HLe B C) : HLe A C := fun a o e => h' a o (h a o e)
theorem Rd.le {B B' : Hp} {a : Addr} {u : HO} (h : HLe B B') : Rd B a u → Rd B' a u
  | .inl e => .inl (h _ _ e)
  | .inr ⟨o, e⟩ => .inr ⟨o, h _ _ e⟩
theorem SqL.le {K : Frag} {B B' : Hp} {a : Addr} {xs : List V} (h : HLe B B') : SqL K B a xs → SqL K B' a xs
  | .inl e => .inl (Rd.le h e)
  | .inr e => .inr e
theorem TAt.le {K : Frag} {B B' : Hp} {a : Addr} {xs : List V} (h : HLe B B') : TAt K B a xs → TAt K B' a xs
  | .inl e => .inl (h _ _ e)
  | .inr e => .inr e
theorem TAt.sq {K : Frag} {B : Hp} {a : Addr} {xs : List V} : TAt K B a xs → SqT K B a xs
  | .inl e => .of e
  | .inr ⟨o, its, n, h1, h2, _, h3⟩ => .inr ⟨o, its, n, h1, h2, h3⟩
theorem SqT.le {K : Frag} {B B' : Hp} {a : Addr} {xs : List V} (h : HLe B B') : SqT K B a xs → SqT K B' a xs
  | .inl e => .inl (Rd.le h e)
  | .inr e => .inr e
section
variable {K : Frag} {B B' H H' : Hp} {α α' : List Addr}
mutual
theorem Rep.ext (hB : HLe B B') (ha : ∀ (k : Nat) a, α[k]? = some a → α'[k]? = some a) : ∀ (d : D) (v : V) (f : List Addr), (∀ a ∈ f, ∀ o, H a = some o → H' a = some o) → Rep K B H α d v f → Rep K B' H' α' d v f
  | .non, v, f, _, r => r
  | .bl _, v, f, _, r => r
  | .int _, v, f, _, r => r
  | .str _, v, f, _, r => r
  | .tup xs, v, f, hf, ⟨a, vs, e, q, r⟩ => ⟨a, vs, e, TAt.le hB q, RepL.ext hB ha xs vs f hf r⟩
  | .kst xs, v, f, hf, ⟨a, vs, e, q, r, z⟩ => ⟨a, vs, e, SqL.le hB q, RepL.ext hB ha xs vs [] (fun _ h => nomatch h) r, z⟩
  | .lst false xs, v, f, hf, ⟨a, vs, e, q, r, z⟩ => ⟨a, vs, e, hB _ _ q, RepL.ext hB ha xs vs [] (fun _ h => nomatch h) r, z⟩
  | .lst true xs, v, f, hf, ⟨a, vs, g, e, q, r, z⟩ => ⟨a, vs, g, e, hf a (by rw [z]; exact List.mem_cons_self) _ q, RepL.ext hB ha xs vs g (fun b hb => hf b (by rw [z]; exact List.mem_cons_of_mem _ hb)) r, z⟩
  | .ptr k, v, f, _, ⟨a, e, q⟩ => ⟨a, ha k a e, q⟩
  | .dic _ _ _, _, _, _, r => r.elim
  | .fn _, _, _, _, r => r.elim
  | .ins _ fs, v, f, _, ⟨a, dx, vs, e, q, cf, r, z⟩ => ⟨a, dx, vs, e, hB _ _ q, cf, RepL.ext hB ha fs vs [] (fun _ h => nomatch h) r, z⟩
  | .exc _ w, v, f, _, ⟨a, dx, u, e, q, q2, cf, r, z⟩ => ⟨a, dx, u, e, hB _ _ q, hB _ _ q2, cf, Rep.ext hB ha w u [] (fun _ h => nomatch h) r, z⟩
theorem RepL.ext (hB : HLe B B') (ha : ∀ (k : Nat) a, α[k]? = some a → α'[k]? = some a) : ∀ (ds : List D) (vs : List V) (f : List Addr), (∀ a ∈ f, ∀ o, H a = some o → H' a = some o) → RepL K B H α ds vs f → RepL K B' H' α' ds vs f
  | [], vs, f, _, r => r
  | d :: ds, vs, f, hf, ⟨v, vr, g, h, e, r, q, z⟩ => ⟨v, vr, g, h, e, Rep.ext hB ha d v g (fun a m => hf a (by rw [z]; exact List.mem_append_left _ m)) r, RepL.ext hB ha ds vr h (fun a m => hf a (by rw [z]; exact List.mem_append_right _ m)) q, z⟩
end
mutual
/-- what owns nothing -/
theorem Rep.nf : ∀ (d : D) (v : V) (f : List Addr), Ev.nf d = true → Rep K B H α d v f → f = []
  | .non, _, _, _, r => r.2
  | .bl _, _, _, _, r => r.2
  | .int _, _, _, _, r => r.2
  | .str _, _, _, _, r => r.2
  | .tup xs, _, f, h, ⟨_, vs, _, _, r⟩ => RepL.nf xs vs f h r
  | .kst xs, _, _, _, ⟨_, _, _, _, _, z⟩ => z
  | .lst false xs, _, _, _, ⟨_, _, _, _, _, z⟩ => z
  | .ptr _, _, _, _, ⟨_, _, _, z⟩ => z
  | .dic _ _ _, _, _, _, r => r.elim
  | .fn _, _, _, _, r => r.elim
  | .ins _ _, _, _, _, ⟨_, _, _, _, _, _, _, z⟩ => z
  | .exc _ _, _, _, _, ⟨_, _, _, _, _, _, _, _, z⟩ => z
theorem RepL.nf : ∀ (ds : List D) (vs : List V) (f : List Addr), nfL ds = true → RepL K B H α ds vs f → f = []
  | [], _, _, _, r => r.2
  | d :: ds, vs, f, h, ⟨v, vr, g, k, _, r, q, z⟩ => by
    rw [nfL, Bool.and_eq_true_iff] at h
    rw [z, Rep.nf d v g h.1 r, RepL.nf ds vr k h.2 q]; rfl
end
theorem RepL.length : ∀ {ds : List D} {vs : List V} {f : List Addr}, RepL K B H α ds vs f → ds.length = vs.length
  | [], _, _, ⟨e, _⟩ => by rw [e]; rfl
  | d :: ds, _, _, ⟨v, vr, g, h, e, r, q, _⟩ => by rw [e, List.length_cons, List.length_cons, RepL.length q]
theorem RepL.get : ∀ {ds : List D} {vs : List V} {f : List Addr} {i : Nat} {d : D}, RepL K B H α ds vs f → ds[i]? = some d → ∃ v g, vs[i]? = some v ∧ Rep K B H α d v g ∧ ∀ a ∈ g, a ∈ f
  | [], _, _, _, _, _, h => by simp at h
  | x :: ds, vs, f, 0, d, ⟨v, vr, g, k, e, r, q, z⟩, h => by
    simp at h; subst h; subst e
    exact ⟨v, g, by simp, r, fun a m => by rw [z]; exact List.mem_append_left _ m⟩
  | x :: ds, vs, f, i + 1, d, ⟨v, vr, g, k, e, r, q, z⟩, h => by
    subst e
    obtain ⟨v', g', h1, h2, h3⟩ := RepL.get (i := i) q (by simpa using h)
    exact ⟨v', g', by simpa using h1, h2, fun a m => by rw [z]; exact List.mem_append_right _ (h3 a m)⟩
theorem RepL.append : ∀ {ds : List D} {vs : List V} {f : List Addr} {ds' : List D} {vs' : List V} {f' : List Addr}, RepL K B H α ds vs f → RepL K B H α ds' vs' f' → RepL K B H α (ds ++ ds') (vs ++ vs') (f ++ f')
  | [], _, _, _, _, _, ⟨e, z⟩, q => by rw [e, z]; exact q
  | d :: ds, _, _, _, _, _, ⟨v, vr, g, h, e, r, q, z⟩, q' => by
    rw [e, z]
    exact ⟨v, vr ++ _, g, h ++ _, rfl, r, RepL.append q q', by rw [List.append_assoc]⟩
/-- the rep of a nothing-owning list is a matter of each item -/
theorem RepL.all {ds : List D} {vs : List V} : RepL K B H α ds vs [] ↔ ds.length = vs.length ∧ ∀ (i : Nat) d v, ds[i]? = some d → vs[i]? = some v → Rep K B H α d v [] := by
  induction ds generalizing vs with
  | nil =>
    constructor
    · rintro ⟨e, _⟩; rw [e]; exact ⟨rfl, fun i d v h => by simp at h⟩
    · rintro ⟨e, _⟩; exact ⟨List.eq_nil_of_length_eq_zero e.symm, rfl⟩
  | cons x xs ih =>
    constructor
    · rintro ⟨v, vr, g, h, e, r, q, z⟩
      have z' := List.append_eq_nil_iff.mp z.symm
      rw [z'.1] at r; rw [z'.2] at q; subst e
      obtain ⟨l, c⟩ := ih.mp q
      refine ⟨by rw [List.length_cons, List.length_cons, l], fun i d v' h1 h2 => ?_⟩
      cases i with
      | zero => simp at h1 h2; subst h1; subst h2; exact r
      | succ i => exact c i d v' (by simpa using h1) (by simpa using h2)
    · rintro ⟨l, c⟩
      cases vs with
      | nil => simp at l
      | cons v vr =>
        exact ⟨v, vr, [], [], rfl, c 0 x v (by simp) (by simp), ih.mpr ⟨by simpa using l, fun i d u h1 h2 => c (i + 1) d u (by simpa using h1) (by simpa using h2)⟩, rfl⟩
/-- what is owned stands there -/
theorem Rep.there : ∀ (d : D) (v : V) (f : List Addr), Rep K B H α d v f → ∀ a ∈ f, ∃ xs, H a = some (.lst xs) := by
  intro d
  exact Rep.rec' d
where
  Rep.rec' : ∀ (d : D) (v : V) (f : List Addr), Rep K B H α d v f → ∀ a ∈ f, ∃ xs, H a = some (.lst xs)
  | .non, _, _, r, a, m => by rw [r.2] at m; cases m
  | .bl _, _, _, r, a, m => by rw [r.2] at m; cases m
  | .int _, _, _, r, a, m => by rw [r.2] at m; cases m
  | .str _, _, _, r, a, m => by rw [r.2] at m; cases m
  | .tup xs, _, f, ⟨_, vs, _, _, r⟩, a, m => recL xs vs f r a m
  | .kst xs, _, _, ⟨_, _, _, _, _, z⟩, a, m => by rw [z] at m; cases m
  | .lst false xs, _, _, ⟨_, _, _, _, _, z⟩, a, m => by rw [z] at m; cases m
  | .lst true xs, _, _, ⟨b, vs, g, _, q, r, z⟩, a, m => by
    rw [z] at m
    rcases List.mem_cons.mp m with e | m
    · rw [e]; exact ⟨vs, q⟩
    · exact recL xs vs g r a m
  | .ptr _, _, _, ⟨_, _, _, z⟩, a, m => by rw [z] at m; cases m
  | .dic _ _ _, _, _, r, _, _ => r.elim
  | .fn _, _, _, r, _, _ => r.elim
  | .ins _ _, _, _, ⟨_, _, _, _, _, _, _, z⟩, a, m => by rw [z] at m; cases m
  | .exc _ _, _, _, ⟨_, _, _, _, _, _, _, _, z⟩, a, m => by rw [z] at m; cases m
  recL : ∀ (ds : List D) (vs : List V) (f : List Addr), RepL K B H α ds vs f → ∀ a ∈ f, ∃ xs, H a = some (.lst xs)
  | [], _, _, r, a, m => by rw [r.2] at m; cases m
  | d :: ds, vs, f, ⟨v, vr, g, k, _, r, q, z⟩, a, m => by
    rw [z] at m
    rcases List.mem_append.mp m with m | m
    · exact Rep.rec' d v g r a m
    · exact recL ds vr k q a m
mutual
/-- shared: what was owned is told in B' -/
theorem Rep.fz (hB : HLe B B') : ∀ (d : D) (v : V) (f : List Addr), (∀ a ∈ f, ∀ o, H a = some o → B' a = some o) → Rep K B H α d v f → Rep K B' H' α (Ev.fz d) v []
  | .non, v, f, _, r => ⟨r.1, rfl⟩
  | .bl _, v, f, _, r => ⟨r.1, rfl⟩
  | .int _, v, f, _, r => ⟨r.1, rfl⟩
  | .str _, v, f, _, r => ⟨r.1, rfl⟩
  | .tup xs, v, f, hf, ⟨a, vs, e, q, r⟩ => ⟨a, vs, e, TAt.le hB q, RepL.fz hB xs vs f hf r⟩
  | .kst xs, v, f, hf, ⟨a, vs, e, q, r, z⟩ => ⟨a, vs, e, SqL.le hB q, RepL.fz hB xs vs [] (fun _ h => nomatch h) r, rfl⟩
  | .lst false xs, v, f, hf, ⟨a, vs, e, q, r, z⟩ => ⟨a, vs, e, hB _ _ q, RepL.fz hB xs vs [] (fun _ h => nomatch h) r, rfl⟩
  | .lst true xs, v, f, hf, ⟨a, vs, g, e, q, r, z⟩ => ⟨a, vs, e, hf a (by rw [z]; exact List.mem_cons_self) _ q, RepL.fz hB xs vs g (fun b hb => hf b (by rw [z]; exact List.mem_cons_of_mem _ hb)) r, rfl⟩
  | .ptr k, v, f, _, ⟨a, e, q, _⟩ => ⟨a, e, q, rfl⟩
  | .dic _ _ _, _, _, _, r => r.elim
  | .fn _, _, _, _, r => r.elim
  | .ins _ fs, v, f, hf, ⟨a, dx, vs, e, q, cf, r, z⟩ => ⟨a, dx, vs, e, hB _ _ q, cf, RepL.fz hB fs vs [] (fun _ h => nomatch h) r, rfl⟩
  | .exc _ w, v, f, hf, ⟨a, dx, u, e, q, q2, cf, r, z⟩ => ⟨a, dx, u, e, hB _ _ q, hB _ _ q2, cf, Rep.fz hB w u [] (fun _ h => nomatch h) r, rfl⟩
theorem RepL.fz (hB : HLe B B') : ∀ (ds : List D) (vs : List V) (f : List Addr), (∀ a ∈ f, ∀ o, H a = some o → B' a = some o) → RepL K B H α ds vs f → RepL K B' H' α (fzL ds) vs []
  | [], vs, f, _, r => ⟨r.1, rfl⟩
  | d :: ds, vs, f, hf, ⟨v, vr, g, h, e, r, q, z⟩ => ⟨v, vr, [], [], e, Rep.fz hB d v g (fun a m => hf a (by rw [z]; exact List.mem_append_left _ m)) r, RepL.fz hB ds vr h (fun a m => hf a (by rw [z]; exact List.mem_append_right _ m)) q, rfl⟩
end
end

/-- who owns: a name by its place, a cell -/
abbrev Ow := Sum Nat Nat
abbrev Fp := Ow → List Addr
def CellR (K : Frag) (B H : Hp) (α : List Addr) (a : Addr) (f : List Addr) : Cell → Prop
  | .box n => ∃ x y z : Int, H a = some (.lst [.int x, .int y, .int z]) ∧ 0 ≤ x ∧ (0 ≤ y ∧ y < 2 ^ 33) ∧ (0 ≤ z ∧ z + n ≤ Draws) ∧ f = [a]
  | .val d => (∃ xs, d = .lst true xs) ∧ Rep K B H α d (.ref a) f
  | .obj c fs => ∃ dx vs g, H a = some (.ins (clsA K c) dx (zipF c vs)) ∧ ClsF K c ∧ RepL K B H α fs vs g ∧ f = a :: g
  | .gone => f = []
structure Wd (K : Frag) (B H : Hp) (σ : LSt) (α : List Addr) (φ : Fp) (env : Env) (st : Stt) : Prop where
  le : HLe B H
  len : σ.length = env.length
  slot : ∀ i d, env[i]? = some (some d) → ∃ v, σ[i]? = some (some v) ∧ Rep K B H α d v (φ (.inl i))
  bare : ∀ i, (∀ d, env[i]? ≠ some (some d)) → φ (.inl i) = []
  clen : α.length = st.length
  cell : ∀ (k : Nat) c a, st[k]? = some c → α[k]? = some a → CellR K B H α a (φ (.inr k)) c
  cbare : ∀ k, st.length ≤ k → φ (.inr k) = []
  nd : ∀ w, (φ w).Nodup
  dj : ∀ w w', w ≠ w' → ∀ a ∈ φ w, a ∉ φ w'
  out : ∀ w, ∀ a ∈ φ w, B a = none
structure Stp (q : Bool) (B H : Hp) (φ : Fp) (α : List Addr) (B' H' : Hp) (φ' : Fp) (α' : List Addr) : Prop where
  frame : ∀ a o, H a = some o → (∀ w, a ∉ φ w) → H' a = some o
  new : ∀ w, ∀ a ∈ φ' w, (∃ w', a ∈ φ w') ∨ H a = none
  bnew : ∀ a o, B' a = some o → B a = some o ∨ (∃ w, a ∈ φ w) ∨ H a = none
  mono : HLe B B'
  pre : ∀ (k : Nat) a, α[k]? = some a → α'[k]? = some a
  same : q = true → HLe H H'
/-- a thing that is in nobody's hands yet -/
structure Tmp (K : Frag) (B H : Hp) (φ : Fp) (B' H' : Hp) (φ' : Fp) (α' : List Addr) (d : D) (v : V) (f : List Addr) : Prop where
  rep : Rep K B' H' α' d v f
  nd : f.Nodup
  out : ∀ a ∈ f, B' a = none
  free : ∀ a ∈ f, ∀ w, a ∉ φ' w
  new : ∀ a ∈ f, (∃ w, a ∈ φ w) ∨ H a = none
section
variable {K : Frag} {B H B1 H1 B2 H2 : Hp} {σ : LSt} {α α1 α2 : List Addr} {φ φ1 φ2 : Fp} {env env1 : Env} {st st1 : Stt} {q q1 q2 : Bool}
theorem CellR.there {a : Addr} {f : List Addr} {c : Cell} (h : CellR K B H α a f c) : ∀ b ∈ f, ∃ o, H b = some o := by
  cases c with
  | box n =>
    obtain ⟨x, y, z, e, _, _, _, rfl⟩ := h
    exact fun b m => by rw [List.mem_singleton.mp m]; exact ⟨_, e⟩
  | val d => exact fun b m => let ⟨_, e⟩ := Rep.there _ _ _ h.2 b m; ⟨_, e⟩
  | obj c fs =>
    obtain ⟨dx, vs, g, e, _, r, rfl⟩ := h
    intro b m
    rcases List.mem_cons.mp m with rfl | m
    · exact ⟨_, e⟩
    · obtain ⟨_, e⟩ := Rep.there.recL fs vs g r b m
      exact ⟨_, e⟩
  | gone => rw [show f = [] from h]; exact fun _ m => nomatch m
theorem CellR.ext {a : Addr} {f : List Addr} {c : Cell} (hB : HLe B B1) (ha : ∀ (k : Nat) a, α[k]? = some a → α1[k]? = some a) (hf : ∀ a ∈ f, ∀ o, H a = some o → H1 a = some o) (h : CellR K B H α a f c) : CellR K B1 H1 α1 a f c := by
  cases c with
  | box n =>
    obtain ⟨x, y, z, e, p1, p2, p3, rfl⟩ := h
    exact ⟨x, y, z, hf a (List.mem_singleton.mpr rfl) _ e, p1, p2, p3, rfl⟩
  | val d => exact ⟨h.1, Rep.ext hB ha d _ f hf h.2⟩
  | obj c fs =>
    obtain ⟨dx, vs, g, e, cf, r, rfl⟩ := h
    exact ⟨dx, vs, g, hf a List.mem_cons_self _ e, cf, RepL.ext hB ha fs vs g (fun b m => hf b (List.mem_cons_of_mem _ m)) r, rfl⟩
  | gone => exact h
theorem Wd.there (W : Wd K B H σ α φ env st) (w : Ow) {a : Addr} (m : a ∈ φ w) : ∃ o, H a = some o := by
  cases w with
  | inl i =>
    by_cases h : ∃ d, env[i]? = some (some d)
    · obtain ⟨d, e⟩ := h
      obtain ⟨v, _, r⟩ := W.slot i d e
      obtain ⟨_, e2⟩ := Rep.there d v _ r a m
      exact ⟨_, e2⟩
    · rw [W.bare i fun d e => h ⟨d, e⟩] at m; cases m
  | inr k =>
    by_cases h : k < st.length
    · have hk : k < α.length := by rw [W.clen]; exact h
      exact (W.cell k st[k] α[k] (List.getElem?_eq_getElem h) (List.getElem?_eq_getElem hk)).there a m
    · rw [W.cbare k (by omega)] at m; cases m
/-- more is told, more stands; what is owned stays -/
theorem Wd.ext (W : Wd K B H σ α φ env st) (hB : HLe B B1) (hl : HLe B1 H1) (hf : ∀ w, ∀ a ∈ φ w, ∀ o, H a = some o → H1 a = some o) (ho : ∀ w, ∀ a ∈ φ w, B1 a = none) : Wd K B1 H1 σ α φ env st where
  le := hl
  len := W.len
  slot := fun i d e => let ⟨v, h1, h2⟩ := W.slot i d e; ⟨v, h1, Rep.ext hB (fun _ _ h => h) d v _ (hf (.inl i)) h2⟩
  bare := W.bare
  clen := W.clen
  cell := fun k c a h1 h2 => (W.cell k c a h1 h2).ext hB (fun _ _ h => h) (hf (.inr k))
  cbare := W.cbare
  nd := W.nd
  dj := W.dj
  out := ho
theorem Stp.refl : Stp true B H φ α B H φ α := ⟨fun _ _ e _ => e, fun w _ m => .inl ⟨w, m⟩, fun _ _ e => .inl e, HLe.refl B, fun _ _ h => h, fun _ => HLe.refl H⟩
theorem Stp.weak (s : Stp q B H φ α B1 H1 φ1 α1) (h : q2 = true → q = true) : Stp q2 B H φ α B1 H1 φ1 α1 := ⟨s.frame, s.new, s.bnew, s.mono, s.pre, fun e => s.same (h e)⟩
theorem Stp.trans (s : Stp q B H φ α B1 H1 φ1 α1) (t : Stp q1 B1 H1 φ1 α1 B2 H2 φ2 α2) : Stp (q && q1) B H φ α B2 H2 φ2 α2 := by
  have hn : ∀ a, H a ≠ none → (∀ w, a ∉ φ w) → ∀ w, a ∉ φ1 w := fun a h1 h2 w m => by
    rcases s.new w a m with ⟨w', h⟩ | h
    · exact h2 w' h
    · exact h1 h
  have hz : ∀ a, H1 a = none → (∃ w, a ∈ φ w) ∨ H a = none := fun a h => by
    by_cases hh : ∃ w, a ∈ φ w
    · exact .inl hh
    · refine .inr ?_
      cases e : H a with
      | none => rfl
      | some o => rw [s.frame a o e fun w m => hh ⟨w, m⟩] at h; cases h
  refine ⟨fun a o e n => t.frame a o (s.frame a o e n) (hn a (by rw [e]; exact fun z => nomatch z) n), fun w a m => ?_, fun a o e => ?_, s.mono.trans t.mono, fun k a h => t.pre k a (s.pre k a h), fun h => ?_⟩
  · rcases t.new w a m with ⟨w', h⟩ | h
    · exact s.new w' a h
    · exact hz a h
  · rcases t.bnew a o e with h | ⟨w, h⟩ | h
    · exact s.bnew a o h
    · exact .inr (s.new w a h)
    · exact .inr (hz a h)
  · rw [Bool.and_eq_true_iff] at h
    exact (s.same h.1).trans (t.same h.2)
/-- what is not in the world's hands stays as it stands -/
theorem Rep.step {d : D} {v : V} {f : List Addr} (r : Rep K B H α d v f) (s : Stp q B H φ α B1 H1 φ1 α1) (hf : ∀ a ∈ f, ∀ w, a ∉ φ w) : Rep K B1 H1 α1 d v f :=
  Rep.ext s.mono s.pre d v f (fun a m o e => s.frame a o e (hf a m)) r
theorem Tmp.step {d : D} {v : V} {f : List Addr} {B0 H0 : Hp} {φ0 : Fp} {α0 : List Addr} (t : Tmp K B0 H0 φ0 B H φ α d v f) (s0 : Stp q B0 H0 φ0 α0 B H φ α) (s : Stp q1 B H φ α B1 H1 φ1 α1) : Tmp K B0 H0 φ0 B1 H1 φ1 α1 d v f where
  rep := t.rep.step s t.free
  nd := t.nd
  out := fun a m => by
    cases e : B1 a with
    | none => rfl
    | some o =>
      obtain ⟨xs, hx⟩ := Rep.there _ _ _ t.rep a m
      rcases s.bnew a o e with h | ⟨w, h⟩ | h
      · rw [t.out a m] at h; cases h
      · exact (t.free a m w h).elim
      · rw [hx] at h; cases h
  free := fun a m w h => by
    obtain ⟨xs, hx⟩ := Rep.there _ _ _ t.rep a m
    rcases s.new w a h with ⟨w', h⟩ | h
    · exact t.free a m w' h
    · rw [hx] at h; cases h
  new := t.new
end
end Ev

namespace Ev
open PySem PySem.Spec PyProof.Rows L2
def setF (φ : Fp) (w : Ow) (f : List Addr) : Fp := fun u => if u = w then f else φ u
theorem setF_same {φ : Fp} {w : Ow} {f : List Addr} : setF φ w f w = f := if_pos rfl
theorem setF_ne {φ : Fp} {w u : Ow} {f : List Addr} (h : u ≠ w) : setF φ w f u = φ u := if_neg h
/-- what was owned is shared -/
def addB (B H : Hp) (f : List Addr) : Hp := fun a => if a ∈ f then H a else B a
theorem addB_le {B H : Hp} {f : List Addr} (h : ∀ a ∈ f, B a = none) : HLe B (addB B H f) := fun a o e => by
  unfold addB
  split
  · rename_i m; rw [h a m] at e; cases e
  · exact e
theorem addB_in {B H : Hp} {f : List Addr} {a : Addr} (m : a ∈ f) : addB B H f a = H a := if_pos m
theorem addB_out {B H : Hp} {f : List Addr} {a : Addr} (m : a ∉ f) : addB B H f a = B a := if_neg m
theorem addB_heap {B H : Hp} {f : List Addr} (h : HLe B H) : HLe (addB B H f) H := fun a o e => by
  unfold addB at e
  split at e
  · exact e
  · exact h a o e
/-- the cells alone -/
def cellsF (φ : Fp) : Fp := fun u => match u with | .inl _ => [] | .inr k => φ (.inr k)
section
variable {K : Frag} {B H B1 H1 : Hp} {σ : LSt} {α α1 : List Addr} {φ φ1 : Fp} {env : Env} {st : Stt} {q : Bool}
/-- a new object p, of nobody yet -/
theorem Wd.alloc (W : Wd K B H σ α φ env st) {p : Addr} (hp : H p = none) (o : HO) : Wd K B (upd H p o) σ α φ env st ∧ Stp true B H φ α B (upd H p o) φ α := by
  have k : HLe H (upd H p o) := fun a u e => by rw [upd_ne (ne_of_none e hp)]; exact e
  refine ⟨W.ext (HLe.refl B) (W.le.trans k) (fun w a _ u e => k a u e) W.out, ⟨fun a u e _ => k a u e, fun w a m => .inl ⟨w, m⟩, fun _ _ e => .inl e, HLe.refl B, fun _ _ h => h, fun _ => k⟩⟩
/-- a new object p, shared -/
theorem Wd.allocB (W : Wd K B H σ α φ env st) {p : Addr} (hp : H p = none) (o : HO) : Wd K (upd B p o) (upd H p o) σ α φ env st ∧ Stp true B H φ α (upd B p o) (upd H p o) φ α := by
  have k : HLe H (upd H p o) := fun a u e => by rw [upd_ne (ne_of_none e hp)]; exact e
  have hb : B p = none := by
    cases e : B p with
    | none => rfl
    | some u => rw [W.le p u e] at hp; cases hp
  have kb : HLe B (upd B p o) := fun a u e => by rw [upd_ne (ne_of_none e hb)]; exact e
  have kk : HLe (upd B p o) (upd H p o) := fun a u e => by
    by_cases h : a = p
    · subst h; rw [upd_same] at e ⊢; exact e
    · rw [upd_ne h] at e ⊢; exact W.le a u e
  have hf : ∀ w, ∀ a ∈ φ w, a ≠ p := fun w a m h => by
    obtain ⟨xs, e⟩ := W.there w m
    rw [h, hp] at e; cases e
  refine ⟨W.ext kb kk (fun w a _ u e => k a u e) (fun w a m => by rw [upd_ne (hf w a m)]; exact W.out w a m), ⟨fun a u e _ => k a u e, fun w a m => .inl ⟨w, m⟩, fun a u e => ?_, kb, fun _ _ h => h, fun _ => k⟩⟩
  by_cases h : a = p
  · subst h; exact .inr (.inr hp)
  · rw [upd_ne h] at e; exact .inl e
/-- what is in nobody's hands is shared -/
theorem Wd.share (W : Wd K B H σ α φ env st) {d : D} {v : V} {f : List Addr} {B0 H0 : Hp} {φ0 : Fp} (t : Tmp K B0 H0 φ0 B H φ α d v f) :
    Wd K (addB B H f) H σ α φ env st ∧ Rep K (addB B H f) H α (fz d) v [] ∧ HLe B (addB B H f) ∧ ∀ a o, addB B H f a = some o → B a = some o ∨ a ∈ f := by
  have hb := addB_le (H := H) t.out
  refine ⟨W.ext hb (addB_heap W.le) (fun _ _ _ _ e => e) (fun w a m => ?_), Rep.fz hb d v f (fun a m o e => by rw [addB_in m]; exact e) t.rep, hb, fun a o e => ?_⟩
  · rw [addB_out fun h => t.free a h w m]; exact W.out w a m
  · by_cases m : a ∈ f
    · exact .inr m
    · rw [addB_out m] at e; exact .inl e
/-- a name's thing is shared -/
theorem Wd.shareV (W : Wd K B H σ α φ env st) {i : Nat} {d : D} (e : env[i]? = some (some d)) :
    ∃ v, σ[i]? = some (some v) ∧ Rep K (addB B H (φ (.inl i))) H α (fz d) v [] ∧
      Wd K (addB B H (φ (.inl i))) H σ α (setF φ (.inl i) []) (env.set i (some (fz d))) st ∧ Stp true B H φ α (addB B H (φ (.inl i))) H (setF φ (.inl i) []) α := by
  obtain ⟨v, hv, r⟩ := W.slot i d e
  have hb := addB_le (B := B) (H := H) (W.out (.inl i))
  have hi : i < env.length := (List.getElem?_eq_some_iff.mp e).1
  have rf := Rep.fz hb d v _ (fun a m o e => by rw [addB_in m]; exact e) r (H' := H)
  refine ⟨v, hv, rf, ⟨addB_heap W.le, by rw [List.length_set]; exact W.len, fun j d' h => ?_, fun j h => ?_, W.clen, fun k c a h1 h2 => ?_, fun k h => ?_, fun w => ?_, fun w w' ne a m => ?_, fun w a m => ?_⟩, ⟨fun _ _ e _ => e, fun w a m => ?_, fun a o h => ?_, hb, fun _ _ h => h, fun _ => HLe.refl H⟩⟩
  · by_cases hj : j = i
    · subst hj
      rw [List.getElem?_set_self hi] at h; cases h
      exact ⟨v, hv, by rw [setF_same]; exact rf⟩
    · rw [List.getElem?_set_ne (Ne.symm hj)] at h
      obtain ⟨u, h1, h2⟩ := W.slot j d' h
      exact ⟨u, h1, by rw [setF_ne (fun z => hj (Sum.inl.inj z))]; exact Rep.ext hb (fun _ _ h => h) d' u _ (fun _ _ _ e => e) h2⟩
  · by_cases hj : j = i
    · subst hj; exact setF_same
    · rw [setF_ne (fun z => hj (Sum.inl.inj z))]
      exact W.bare j fun d' h' => h d' (by rw [List.getElem?_set_ne (Ne.symm hj)]; exact h')
  · rw [setF_ne (by intro z; cases z)]
    exact (W.cell k c a h1 h2).ext hb (fun _ _ h => h) fun _ _ _ e => e
  · rw [setF_ne (by intro z; cases z)]; exact W.cbare k h
  · by_cases h : w = .inl i
    · rw [h, setF_same]; exact List.nodup_nil
    · rw [setF_ne h]; exact W.nd w
  · by_cases h : w = .inl i
    · rw [h, setF_same] at m; cases m
    · rw [setF_ne h] at m
      by_cases h' : w' = .inl i
      · rw [h', setF_same]; exact fun z => nomatch z
      · rw [setF_ne h']; exact W.dj w w' ne a m
  · by_cases h : w = .inl i
    · rw [h, setF_same] at m; cases m
    · rw [setF_ne h] at m
      rw [addB_out (W.dj w (.inl i) h a m)]; exact W.out w a m
  · by_cases h : w = .inl i
    · rw [h, setF_same] at m; cases m
    · rw [setF_ne h] at m; exact .inl ⟨w, m⟩
  · by_cases m : a ∈ φ (.inl i)
    · exact .inr (.inl ⟨_, m⟩)
    · rw [addB_out m] at h; exact .inl h
/-- a thing comes into a name's hands -/
theorem Wd.put (W : Wd K B H σ α φ env st) {i : Nat} (hi : i < env.length) {d : D} {v : V} {f : List Addr} {B0 H0 : Hp} {φ0 : Fp} (t : Tmp K B0 H0 φ0 B H φ α d v f) :
    Wd K B H (σ.set i (some v)) α (setF φ (.inl i) f) (env.set i (some d)) st := by
  have hs : i < σ.length := by rw [W.len]; exact hi
  refine ⟨W.le, by rw [List.length_set, List.length_set]; exact W.len, fun j d' h => ?_, fun j h => ?_, W.clen, fun k c a h1 h2 => ?_, fun k h => ?_, fun w => ?_, fun w w' ne a m => ?_, fun w a m => ?_⟩
  · by_cases hj : j = i
    · subst hj
      rw [List.getElem?_set_self hi] at h; cases h
      exact ⟨v, by rw [List.getElem?_set_self hs], by rw [setF_same]; exact t.rep⟩
    · rw [List.getElem?_set_ne (Ne.symm hj)] at h
      obtain ⟨u, h1, h2⟩ := W.slot j d' h
      exact ⟨u, by rw [List.getElem?_set_ne (Ne.symm hj)]; exact h1, by rw [setF_ne (fun z => hj (Sum.inl.inj z))]; exact h2⟩
  · by_cases hj : j = i
    · subst hj; exact (h d (by rw [List.getElem?_set_self hi])).elim
    · rw [setF_ne (fun z => hj (Sum.inl.inj z))]
      exact W.bare j fun d' h' => h d' (by rw [List.getElem?_set_ne (Ne.symm hj)]; exact h')
  · rw [setF_ne (by intro z; cases z)]; exact W.cell k c a h1 h2
  · rw [setF_ne (by intro z; cases z)]; exact W.cbare k h
  · by_cases h : w = .inl i
    · rw [h, setF_same]; exact t.nd
    · rw [setF_ne h]; exact W.nd w
  · by_cases h : w = .inl i
    · rw [h, setF_same] at m
      rw [setF_ne (fun z => ne (by rw [h, z]))]
      exact t.free a m w'
    · rw [setF_ne h] at m
      by_cases h' : w' = .inl i
      · rw [h', setF_same]; exact fun z => t.free a z w m
      · rw [setF_ne h']; exact W.dj w w' ne a m
  · by_cases h : w = .inl i
    · rw [h, setF_same] at m; exact t.out a m
    · rw [setF_ne h] at m; exact W.out w a m
/-- .. the step, seen from where the thing was made -/
theorem Stp.put {B0 H0 : Hp} {φ0 : Fp} {α0 : List Addr} (s : Stp q B0 H0 φ0 α0 B H φ α) {i : Nat} {d : D} {v : V} {f : List Addr} (t : Tmp K B0 H0 φ0 B H φ α d v f) : Stp q B0 H0 φ0 α0 B H (setF φ (.inl i) f) α :=
  ⟨s.frame, fun w a m => by
    by_cases h : w = .inl i
    · rw [h, setF_same] at m; exact t.new a m
    · rw [setF_ne h] at m; exact s.new w a m, s.bnew, s.mono, s.pre, s.same⟩
/-- scalars stand by themselves -/
theorem Tmp.of_nil {B0 H0 : Hp} {φ0 : Fp} {d : D} {v : V} (r : Rep K B H α d v []) : Tmp K B0 H0 φ0 B H φ α d v [] := ⟨r, List.nodup_nil, (fun _ m => nomatch m), (fun _ m => nomatch m), (fun _ m => nomatch m)⟩
/-- a new list of shared things -/
theorem Tmp.newL (W : Wd K B H σ α φ env st) {p : Addr} (hp : H p = none) {ds : List D} {vs : List V} (r : RepL K B H α ds vs []) : Tmp K B H φ B (upd H p (.lst vs)) φ α (.lst true ds) (.ref p) [p] := by
  have hf : ∀ a ∈ [p], a = p := fun a m => List.mem_singleton.mp m
  have hb : B p = none := by
    cases e : B p with
    | none => rfl
    | some u => rw [W.le p u e] at hp; cases hp
  refine ⟨⟨p, vs, [], rfl, upd_same, RepL.ext (HLe.refl B) (fun _ _ h => h) ds vs [] (fun _ m => nomatch m) r, rfl⟩, by simp, fun a m => by rw [hf a m]; exact hb, fun a m w z => ?_, fun a m => .inr (by rw [hf a m]; exact hp)⟩
  rw [hf a m] at z
  obtain ⟨xs, e⟩ := W.there w z
  rw [hp] at e; cases e
end

structure Cg where
  K : Frag
  cs : List Addr
  F : FF
  W : WX
/-- a refusal as it flies: its class, its what -/
def ExR (c : Cg) (B H : Hp) (α : List Addr) (e : Exn) (cls : Value) (dx : Option Addr) : Prop :=
  ∃ d v, cls = .ref (excA c.K e.1) ∧ dx = some d ∧ B d = some (.xd [("what", v)]) ∧ ExcF c.K e.1 ∧ Rep c.K B H α e.2 v []
def PostX (c : Cg) (σ : LSt) (B H : Hp) (φ : Fp) (α : List Addr) (Xk : KX) : Prop :=
  ∀ e env' st', Xk e env' st' → ∀ B' H' φ' α' cls dx, Wd c.K B' H' σ α' φ' env' st' → Stp false B H φ α B' H' φ' α' → ExR c B' H' α' e cls dx → c.W cls dx σ H'
def PostE (c : Cg) (q : Bool) (σ : LSt) (B H : Hp) (φ : Fp) (α : List Addr) (Kk : KE) (Q : VK) : Prop :=
  ∀ d env' st', Kk d env' st' → ∀ v B' H' φ' α' f, Wd c.K B' H' σ α' φ' env' st' → Stp q B H φ α B' H' φ' α' → Tmp c.K B H φ B' H' φ' α' d v f → Q v H'
def PostR (c : Cg) (q va : Bool) (σ : LSt) (B H : Hp) (φ : Fp) (α : List Addr) (Kk : KE) (Q : VK) : Prop :=
  ∀ d env' st', Kk d env' st' → ∀ v B' H' φ' α' f, Wd c.K B' H' σ α' φ' env' st' → Stp q B H φ α B' H' φ' α' → Rep c.K B' H' α' d v f → (va = false → f = []) → Q v H'
/-- the value, handed on -/
def TE_ (c : Cg) (ie : IE) : TE := fun σ H Q => ∃ B φ α env st Kk Xk, Wd c.K B H σ α φ env st ∧ wE c.F ie env st Kk Xk ∧ PostE c (quiet ie) σ B H φ α Kk Q ∧ PostX c σ B H φ α Xk
/-- the value, read -/
def TR_ (c : Cg) (ie : IE) : TE := fun σ H Q => ∃ B φ α env st Kk Xk, Wd c.K B H σ α φ env st ∧ wR c.F ie env st Kk Xk ∧ PostR c (quiet ie) (isVar ie) σ B H φ α Kk Q ∧ PostX c σ B H φ α Xk
theorem PE.imp {X : Cx} {e : Expr} {t t' : TE} (h : PE X e t) (i : ∀ σ H Q, t' σ H Q → t σ H Q) : PE X e t' := ⟨fun pins s σ H Q I w => h.run pins s σ H Q I (i σ H Q w)⟩
theorem PT.imp {X : Cx} {e : Expr} {t t' : TT} (h : PT X e t) (i : ∀ σ H Q, t' σ H Q → t σ H Q) : PT X e t' := ⟨fun pins s σ H Q I w => h.run pins s σ H Q I (i σ H Q w)⟩
theorem getV_some {env : Env} {i : Nat} {K : D → Prop} (h : onV (getV env i) K) : ∃ d, env[i]? = some (some d) ∧ K d := by
  unfold getV at h
  split at h
  · rename_i d e; exact ⟨d, e, h⟩
  · exact h.elim
theorem wR_eq (F : FF) (a : IE) (ha : isVar a = false) (env : Env) (st : Stt) (K : KE) (X : KX) : wR F a env st K X = wE F a env st (fun d e s => K (fz d) e s) X := by
  cases a <;> first | rfl | cases ha
section
variable {X : Cx} {c : Cg}
/-- read, from handed on -/
theorem TR_of {e : Expr} {ie : IE} (hv : isVar ie = false) (h : PE X e (TE_ c ie)) : PE X e (TR_ c ie) := PE.imp h fun σ H Q => by
  rintro ⟨B, φ, α, env, st, Kk, Xk, W, w, p, x⟩
  rw [wR_eq _ _ hv] at w
  refine ⟨B, φ, α, env, st, _, Xk, W, w, fun d env' st' k v B' H' φ' α' f W' s t => ?_, x⟩
  obtain ⟨W2, r2, hb, hn⟩ := W'.share t
  refine p _ env' st' k v _ H' φ' α' [] W2 ⟨s.frame, s.new, fun a o e => ?_, s.mono.trans hb, s.pre, s.same⟩ r2 fun _ => rfl
  rcases hn a o e with e | m
  · exact s.bnew a o e
  · exact .inr (t.new a m)
theorem sE_frz {e : Expr} {ie : IE} (h : PE X e (TE_ c ie)) : PE X e (TE_ c (.frz ie)) := PE.imp h fun σ H Q => by
  rintro ⟨B, φ, α, env, st, Kk, Xk, W, w, p, x⟩
  refine ⟨B, φ, α, env, st, _, Xk, W, w, fun d env' st' k v B' H' φ' α' f W' s t => ?_, x⟩
  obtain ⟨W2, r2, hb, hn⟩ := W'.share t
  refine p _ env' st' k v _ H' φ' α' [] W2 ⟨s.frame, s.new, fun a o e => ?_, s.mono.trans hb, s.pre, fun h => nomatch h⟩ (Tmp.of_nil r2)
  rcases hn a o e with e | m
  · exact s.bnew a o e
  · exact .inr (t.new a m)
theorem sE_con {e : Expr} {d : D} {v : V} (h : PE X e (tC v)) (r : ∀ B H α, Rep c.K B H α d v []) : PE X e (TE_ c (.con d)) := PE.imp h fun σ H Q => by
  rintro ⟨B, φ, α, env, st, Kk, Xk, W, w, p, x⟩
  exact p d env st w v B H φ α [] W (Stp.refl.weak fun h => rfl) (Tmp.of_nil (r B H α))
theorem sE_var {e : Expr} {i : Nat} (h : PE X e (tVar i)) : PE X e (TE_ c (.var i)) := PE.imp h fun σ H Q => by
  rintro ⟨B, φ, α, env, st, Kk, Xk, W, w, p, x⟩
  obtain ⟨d, e1, w⟩ := getV_some w
  obtain ⟨v, hv, r, W2, s⟩ := W.shareV e1
  exact ⟨v, hv, p _ _ _ w v _ H _ α [] W2 s (Tmp.of_nil r)⟩
theorem deref_rep {K : Frag} {B H : Hp} {σ : LSt} {α : List Addr} {φ : Fp} {env : Env} {st : Stt} (W : Wd K B H σ α φ env st) {d : D} {v : V} {f : List Addr} (r : Rep K B H α d v f) : ∃ g, Rep K B H α (derefD st d) v g := by
  cases d with
  | ptr k =>
    show ∃ g, Rep K B H α (match st[k]? with | some (.val d) => d | _ => .ptr k) v g
    split
    · rename_i d' hk
      obtain ⟨a, ha, rfl, _⟩ := r
      exact ⟨_, (W.cell k _ a hk ha).2⟩
    · exact ⟨_, r⟩
  | _ => exact ⟨_, r⟩
theorem sR_var {e : Expr} {i : Nat} (h : PE X e (tVar i)) : PE X e (TR_ c (.var i)) := PE.imp h fun σ H Q => by
  rintro ⟨B, φ, α, env, st, Kk, Xk, W, w, p, x⟩
  obtain ⟨d, e1, w⟩ := getV_some w
  obtain ⟨v, hv, r⟩ := W.slot i d e1
  obtain ⟨g, r2⟩ := deref_rep W r
  exact ⟨v, hv, p _ _ _ w v B H φ α _ W (Stp.refl.weak fun h => rfl) r2 fun h => nomatch h⟩
end
end Ev

namespace Ev
open PySem PySem.Spec PyProof.Rows L2
theorem intW_inv {x : D} {K : Int → Prop} (h : intW x K) : ∃ i, x = .int i ∧ K i := by
  unfold intW at h
  split at h
  · exact ⟨_, rfl, h⟩
  · exact h.elim
theorem ownW_inv {x : D} {K : List D → Prop} (h : ownW x K) : ∃ i, x = .lst true i ∧ K i := by
  unfold ownW at h
  split at h
  · exact ⟨_, rfl, h⟩
  · exact h.elim
theorem onE_inv {x : Option Env} {K : Env → Prop} (h : onE x K) : ∃ i, x = some i ∧ K i := by
  unfold onE at h
  split at h
  · exact ⟨_, rfl, h⟩
  · exact h.elim
theorem onV_inv {x : Option D} {K : D → Prop} (h : onV x K) : ∃ i, x = some i ∧ K i := by
  unfold onV at h
  split at h
  · exact ⟨_, rfl, h⟩
  · exact h.elim
theorem natW_inv {x : Option Nat} {K : Nat → Prop} (h : natW x K) : ∃ i, x = some i ∧ K i := by
  unfold natW at h
  split at h
  · exact ⟨_, rfl, h⟩
  · exact h.elim
theorem txW_inv {x : Option Tx} {K : Tx → Prop} (h : txW x K) : ∃ i, x = some i ∧ K i := by
  unfold txW at h
  split at h
  · exact ⟨_, rfl, h⟩
  · exact h.elim
theorem bsW_inv {x : Option (List Bool)} {K : List Bool → Prop} (h : bsW x K) : ∃ i, x = some i ∧ K i := by
  unfold bsW at h
  split at h
  · exact ⟨_, rfl, h⟩
  · exact h.elim
/-- what comes of an operator: a thing of nobody's, the world but more -/
def OutOk (c : Cg) (σ : LSt) (B H : Hp) (φ : Fp) (α : List Addr) (env : Env) (st : Stt) (K : D → Prop) (Q : VK) : Prop :=
  ∀ d, K d → ∀ v B' H' f, Wd c.K B' H' σ α φ env st → Stp true B H φ α B' H' φ α → Tmp c.K B H φ B' H' φ α d v f → Q v H'
section
variable {c : Cg} {σ : LSt} {B H B1 H1 : Hp} {φ φ1 : Fp} {α α1 : List Addr} {env env1 : Env} {st st1 : Stt} {K : D → Prop} {Q : VK}
theorem OutOk.flat (o : OutOk c σ B H φ α env st K Q) (W : Wd c.K B H σ α φ env st) {d : D} {v : V} (k : K d) (r : Rep c.K B H α d v []) : Q v H :=
  o d k v B H [] W Stp.refl (Tmp.of_nil r)
theorem OutOk.newL (o : OutOk c σ B H φ α env st K Q) (W : Wd c.K B H σ α φ env st) {ds : List D} {vs : List V} (k : K (.lst true ds)) (r : RepL c.K B H α ds vs []) {p : Addr} (hp : H p = none) : Q (.ref p) (upd H p (.lst vs)) := by
  obtain ⟨W2, s⟩ := W.alloc hp (.lst vs)
  exact o _ k _ _ _ [p] W2 s (Tmp.newL W hp r)
theorem OutOk.newT (o : OutOk c σ B H φ α env st K Q) (W : Wd c.K B H σ α φ env st) {ds : List D} {vs : List V} (k : K (.tup ds)) (r : RepL c.K B H α ds vs []) {p : Addr} (hp : H p = none) : Q (.ref p) (upd H p (.tup vs)) := by
  obtain ⟨W2, s⟩ := W.allocB hp (.tup vs)
  exact o _ k _ _ _ [] W2 s (Tmp.of_nil ⟨p, vs, rfl, .inl upd_same, RepL.ext s.mono (fun _ _ h => h) ds vs [] (fun _ m => nomatch m) r⟩)
theorem Rep.lst' {o : Bool} {xs : List D} {v : V} {f : List Addr} (r : Rep c.K B H α (.lst o xs) v f) (le : HLe B H) : ∃ a vs g, v = .ref a ∧ H a = some (.lst vs) ∧ RepL c.K B H α xs vs g ∧ (nfL xs = true → g = []) := by
  cases o with
  | true => obtain ⟨a, vs, g, e, h, r, _⟩ := r; exact ⟨a, vs, g, e, h, r, fun n => RepL.nf xs vs g n r⟩
  | false => obtain ⟨a, vs, e, h, r, _⟩ := r; exact ⟨a, vs, [], e, le _ _ h, r, fun _ => rfl⟩
theorem Rep.tup' {xs : List D} {v : V} {f : List Addr} (r : Rep c.K B H α (.tup xs) v f) (le : HLe B H) : ∃ a vs, v = .ref a ∧ SqT c.K H a vs ∧ RepL c.K B H α xs vs f ∧ (nfL xs = true → f = []) := by
  obtain ⟨a, vs, e, h, r⟩ := r
  exact ⟨a, vs, e, SqT.le le h.sq, r, fun n => RepL.nf xs vs f n r⟩
theorem Rep.kst' {xs : List D} {v : V} {f : List Addr} (r : Rep c.K B H α (.kst xs) v f) (le : HLe B H) : ∃ a vs, v = .ref a ∧ SqL c.K H a vs ∧ RepL c.K B H α xs vs [] ∧ f = [] := by
  obtain ⟨a, vs, e, h, r⟩ := r
  exact ⟨a, vs, e, SqL.le le h, r⟩
theorem lim_line : Lim = sizeLine := rfl
theorem tx_app (a b : Tx) : (⟨a.toArray⟩ : Str) ++ (⟨b.toArray⟩ : Str) = ⟨(a ++ b).toArray⟩ := by
  show Str.mk (a.toArray ++ b.toArray) = _
  simp
theorem tx_len (a : Tx) : (⟨a.toArray⟩ : Str).length = a.length := by
  show a.toArray.size = _
  simp
theorem CMul_of {i j : Int} (h : MulOk i j) : CMul i j ∨ CMulW i j := by
  rcases h with h | h | h
  · exact .inl (.inl h)
  · exact .inl (.inr h)
  · exact .inr h
def rStrAdd : R2 := fun x y H Q => ∃ i j, x = .str i ∧ y = .str j ∧ i.length + j.length ≤ sizeLine ∧ Q (.str (i ++ j)) H
def rOf (K : Frag) : Op2 → R2
  | .add => fun x y H Q => rI0 (fun i j => .int (i + j)) x y H Q ∨ rStrAdd x y H Q ∨ rCat x y H Q ∨ rCatA K x y H Q
  | .sub => rI0 fun i j => .int (i - j)
  | .mul => fun x y H Q => rI CMul (fun i j => .int (i * j)) x y H Q ∨ rI CMulW (fun i j => .int (i * j)) x y H Q ∨ rRep x y H Q
  | .fdiv => rI CDivW fun i j => .int (i / j)
  | .mod => rI (fun _ j => 0 < j) fun i j => .int (i % j)
  | .pow => rI CPow fun i j => .int (i ^ j.toNat)
def opOf : Op2 → Operator
  | .add => .Add | .sub => .Sub | .mul => .Mult | .fdiv => .FloorDiv | .mod => .Mod | .pow => .Pow
theorem or_of {X : Cx} (o : Op2) : OpR X (binaryOp (opOf o)) (rOf X.K o) := by
  cases o with
  | add => exact OpR.or op_add (OpR.or op_add_str (OpR.or op_cat op_catA))
  | sub => exact op_sub
  | mul => exact OpR.or op_mul (OpR.or op_mulW op_rep)
  | fdiv => exact op_fdivW
  | mod => exact op_mod
  | pow => exact op_pow
theorem RepL.rep {ds : List D} {vs : List V} (r : RepL c.K B H α ds vs []) : ∀ n : Nat, RepL c.K B H α (List.replicate n ds).flatten (List.replicate n vs).flatten []
  | 0 => ⟨rfl, rfl⟩
  | n + 1 => by
    rw [List.replicate_succ, List.replicate_succ, List.flatten_cons, List.flatten_cons]
    exact RepL.append r (RepL.rep r n)
theorem op2_ok {o : Op2} {x y : D} {vx vy : V} {fx fy : List Addr} (W : Wd c.K B H σ α φ env st) (rx : Rep c.K B H α x vx fx) (ry : Rep c.K B H α y vy fy) (w : op2W o x y K) (out : OutOk c σ B H φ α env st K Q) : rOf c.K o vx vy H Q := by
  unfold op2W at w
  split at w
  · obtain ⟨rfl, _⟩ := rx; obtain ⟨rfl, _⟩ := ry
    exact .inl ⟨_, _, rfl, rfl, out.flat W w ⟨rfl, rfl⟩⟩
  · obtain ⟨rfl, _⟩ := rx; obtain ⟨rfl, _⟩ := ry
    exact ⟨_, _, rfl, rfl, out.flat W w ⟨rfl, rfl⟩⟩
  · obtain ⟨rfl, _⟩ := rx; obtain ⟨rfl, _⟩ := ry
    rcases CMul_of w.1 with h | h
    · exact .inl ⟨_, _, rfl, rfl, h, out.flat W w.2 ⟨rfl, rfl⟩⟩
    · exact .inr (.inl ⟨_, _, rfl, rfl, h, out.flat W w.2 ⟨rfl, rfl⟩⟩)
  · obtain ⟨rfl, _⟩ := rx; obtain ⟨rfl, _⟩ := ry
    exact ⟨_, _, rfl, rfl, w.1, out.flat W w.2 ⟨rfl, rfl⟩⟩
  · obtain ⟨rfl, _⟩ := rx; obtain ⟨rfl, _⟩ := ry
    exact ⟨_, _, rfl, rfl, w.1, out.flat W w.2 ⟨rfl, rfl⟩⟩
  · obtain ⟨rfl, _⟩ := rx; obtain ⟨rfl, _⟩ := ry
    exact ⟨_, _, rfl, rfl, w.1, out.flat W w.2 ⟨rfl, rfl⟩⟩
  · obtain ⟨rfl, _⟩ := rx; obtain ⟨rfl, _⟩ := ry
    refine .inr (.inl ⟨_, _, rfl, rfl, by rw [tx_len, tx_len]; exact w.1, ?_⟩)
    rw [tx_app]
    exact out.flat W w.2 ⟨rfl, rfl⟩
  · obtain ⟨hl, hn, k⟩ := w
    rw [Bool.and_eq_true_iff] at hn
    obtain ⟨a, vs, g, rfl, ha, r, z⟩ := rx.lst' W.le
    obtain ⟨b, ws, g', rfl, hb, r', z'⟩ := ry.lst' W.le
    rw [z hn.1] at r; rw [z' hn.2] at r'
    refine .inr (.inr (.inl ⟨a, b, vs, ws, rfl, rfl, ha, hb, by rw [← r.length, ← r'.length]; exact hl, fun p hp => ?_⟩))
    exact out.newL W k (RepL.append r r') hp
  · obtain ⟨hl, hn, k⟩ := w
    rw [Bool.and_eq_true_iff] at hn
    obtain ⟨a, vs, rfl, ha, r, z⟩ := rx.tup' W.le
    obtain ⟨b, ws, rfl, hb, r', z'⟩ := ry.tup' W.le
    obtain rfl := z hn.1
    obtain rfl := z' hn.2
    obtain ⟨a0, vs0, e0, ha0, r0⟩ := rx
    obtain ⟨b0, ws0, e1, hb0, r1⟩ := ry
    refine .inr (.inr (.inr ⟨a, b, vs, ws, rfl, rfl, ha, hb, by rw [← r.length, ← r'.length]; exact hl, fun e => ?_, fun _ e => ?_, fun _ _ p hp => ?_⟩))
    · have : (_ : List D) = [] := List.eq_nil_of_length_eq_zero (by rw [r.length, e]; rfl)
      rw [this, List.nil_append] at k
      exact out.flat W k ⟨b0, ws0, e1, hb0, r1⟩
    · have : (_ : List D) = [] := List.eq_nil_of_length_eq_zero (by rw [r'.length, e]; rfl)
      rw [this, List.append_nil] at k
      exact out.flat W k ⟨a0, vs0, e0, ha0, r0⟩
    · exact out.newT W k (RepL.append r r') hp
  · obtain ⟨rfl, _⟩ := ry
    obtain ⟨⟨⟨h1, h2⟩, h3⟩, hn, k⟩ := w
    obtain ⟨a, vs, g, rfl, ha, r, z⟩ := rx.lst' W.le
    rw [z hn] at r
    exact .inr (.inr ⟨a, _, vs, rfl, rfl, ha, h1, h2, by rw [← r.length]; exact h3, fun p hp => out.newL W k (r.rep _) hp⟩)
  · exact w.elim
theorem PostX.step {Xk : KX} {q : Bool} (s : Stp q B H φ α B1 H1 φ1 α1) (p : PostX c σ B H φ α Xk) : PostX c σ B1 H1 φ1 α1 Xk :=
  fun e env' st' k B' H' φ' α' cls dx W t x => p e env' st' k B' H' φ' α' cls dx W ((s.trans t).weak fun h => nomatch h) x
theorem quiet_op {o : Op2} {a b : IE} (h : quiet (.op o a b) = true) : (quiet a && quiet b) = true := by
  cases a <;> cases b <;> first | rfl | cases h
/-- two read, one behind the other -/
theorem shW_read {ia : IE} {q : Bool} {k : Env → Prop} (W : Wd c.K B H σ α φ env st) (w : shW ia q env k) : ∃ env' B' φ', k env' ∧ Wd c.K B' H σ α φ' env' st ∧ Stp true B H φ α B' H φ' α := by
  cases q
  · cases ia
    case var i =>
      obtain ⟨d, hd, k⟩ := getV_some w
      obtain ⟨v, _, _, W', s⟩ := W.shareV hd
      exact ⟨_, _, _, k, W', s⟩
    all_goals exact ⟨env, B, φ, w, W, Stp.refl⟩
  · exact ⟨env, B, φ, w, W, Stp.refl⟩
theorem wRs1 {F : FF} {ie : IE} {env : Env} {st : Stt} {K : List D → Env → Stt → Prop} {X : KX} (w : wRs F [ie] env st K X) : wR F ie env st (fun d e s => stays ie d (quietL []) ∧ K [d] e s) X := w
theorem two_read {X : Cx} {ia ib : IE} {qq : Bool} {Kk : D → D → Env → Stt → Prop} {Xk : KX} {R : V → V → Hp → Prop} (hq : qq = true → (quiet ia && quiet ib) = true)
    (W : Wd c.K B H σ α φ env st)
    (w : shW ia (quiet ib) env fun env => wR c.F ia env st (fun x e1 s1 => stays ia x (quiet ib) ∧ wR c.F ib e1 s1 (fun y e2 s2 => Kk x y e2 s2) Xk) Xk)
    (hx : PostX c σ B H φ α Xk)
    (h : ∀ x y e2 s2, Kk x y e2 s2 → ∀ vx vy B2 H2 φ2 α2 fx fy, Wd c.K B2 H2 σ α2 φ2 e2 s2 → Stp qq B H φ α B2 H2 φ2 α2 → Rep c.K B2 H2 α2 x vx fx → Rep c.K B2 H2 α2 y vy fy → R vx vy H2) :
    TR_ c ia σ H fun vx H1 => TR_ c ib σ H1 fun vy H2 => R vx vy H2 := by
  obtain ⟨env0, B0, φ0, w, W0, s0⟩ := shW_read W w
  refine ⟨B0, φ0, α, env0, st, _, Xk, W0, w, fun x e1 s1 ⟨hs, k⟩ vx B1 H1 φ1 α1 fx W1 s t hv => ?_, hx.step s0⟩
  refine ⟨B1, φ1, α1, e1, s1, _, Xk, W1, k, fun y e2 s2 k2 vy B2 H2 φ2 α2 fy W2 s' t' _ => ?_, (hx.step s0).step s⟩
  refine h x y e2 s2 k2 vx vy B2 H2 φ2 α2 fx fy W2 ((s0.trans (s.trans s')).weak fun z => by rw [Bool.true_and]; exact hq z) ?_ t'
  unfold stays at hs
  cases hva : isVar ia with
  | false =>
    rw [hv hva] at t ⊢
    exact Rep.ext s'.mono s'.pre x vx [] (fun _ m => nomatch m) t
  | true =>
    rw [hva] at hs
    rcases Bool.or_eq_true_iff.mp hs with hs | hs
    · rw [Bool.not_true, Bool.false_or] at hs
      have := Rep.nf x vx fx hs t
      subst this
      exact Rep.ext s'.mono s'.pre x vx [] (fun _ m => nomatch m) t
    · exact Rep.ext s'.mono s'.pre x vx fx (fun a _ o e => s'.same hs a o e) t
theorem OutOk.of {Kk : KE} {e2 : Env} {s2 : Stt} {B0 H0 : Hp} {φ0 : Fp} {α0 : List Addr} {q : Bool} (s : Stp q B0 H0 φ0 α0 B H φ α) (p : PostE c q σ B0 H0 φ0 α0 Kk Q) : OutOk c σ B H φ α e2 s2 (fun d => Kk d e2 s2) Q :=
  fun d k v B' H' f W' s' t => p d e2 s2 k v B' H' φ α f W' ((s.trans s').weak fun h => by rw [h]; rfl) ⟨t.rep, t.nd, t.out, t.free, fun a m => by
    rcases t.new a m with ⟨w, h⟩ | h
    · exact s.new w a h
    · by_cases hh : ∃ w, a ∈ φ0 w
      · exact .inl hh
      · refine .inr ?_
        cases e : H0 a with
        | none => rfl
        | some o => rw [s.frame a o e fun w m => hh ⟨w, m⟩] at h; cases h⟩
end
section
variable {X : Cx} {c : Cg} {a b : Expr} {ia ib : IE} {pos : Pos}
theorem sE_op (hK : X.K = c.K) (o : Op2) (ha : PE X a (TR_ c ia)) (hb : PE X b (TR_ c ib)) : PE X (.BinOp a (opOf o) b pos) (TE_ c (.op o ia ib)) := PE.imp (pe_op (or_of o) ha hb) fun σ H Q => by
  rintro ⟨B, φ, α, env, st, Kk, Xk, W, w, p, x⟩
  rw [hK]
  exact two_read (X := X) (qq := quiet (.op o ia ib)) quiet_op W w x fun dx dy e2 s2 k vx vy B2 H2 φ2 α2 fx fy W2 s r r' => op2_ok W2 r r' k (OutOk.of s p)
theorem sE_neg (ha : PE X a (TR_ c ia)) : PE X (.UnaryOp .USub a pos) (TE_ c (.neg ia)) := PE.imp (pe_un un_neg ha) fun σ H Q => by
  rintro ⟨B, φ, α, env, st, Kk, Xk, W, w, p, x⟩
  refine ⟨B, φ, α, env, st, _, Xk, W, w, fun d e1 s1 k v B1 H1 φ1 α1 f W1 s r _ => ?_, x⟩
  obtain ⟨i, rfl, k⟩ := intW_inv k
  obtain ⟨rfl, _⟩ := r
  exact ⟨_, rfl, p _ e1 s1 k _ B1 H1 φ1 α1 [] W1 (s.weak fun h => nomatch h) (Tmp.of_nil ⟨rfl, rfl⟩)⟩
end
end Ev

namespace Ev
open PySem PySem.Spec PyProof.Rows L2
section
variable {c : Cg} {σ : LSt} {B H B1 H1 : Hp} {φ φ1 : Fp} {α α1 : List Addr} {env env1 : Env} {st st1 : Stt}
mutual
theorem rep_dp (le : HLe B H) : ∀ (d : D) (v : V) (f : List Addr), plain d = true → Rep c.K B H α d v f → Dp c.K H v (py d)
  | .non, v, f, _, r => by rw [r.1]; exact .non
  | .bl b, v, f, _, r => by rw [r.1]; exact .bl b
  | .int b, v, f, _, r => by rw [r.1]; exact .int b
  | .str b, v, f, _, r => by rw [r.1]; exact .str _
  | .tup xs, v, f, p, r => by
    obtain ⟨a, vs, rfl, h, r⟩ := r
    exact .tup (SqT.le le h.sq) (rep_dps le xs vs f p r)
  | .lst o xs, v, f, p, r => by
    obtain ⟨a, vs, g, rfl, h, r, _⟩ := r.lst' (c := c) le
    exact .lst (.of h) (rep_dps le xs vs g p r)
  | .dic _ _ _, _, _, p, _ => by cases p
  | .kst _, _, _, p, _ => by cases p
  | .ptr _, _, _, p, _ => by cases p
  | .fn _, _, _, p, _ => by cases p
  | .ins _ _, _, _, p, _ => by cases p
  | .exc _ _, _, _, p, _ => by cases p
theorem rep_dps (le : HLe B H) : ∀ (ds : List D) (vs : List V) (f : List Addr), plainL ds = true → RepL c.K B H α ds vs f → DpAll c.K H vs (pyL ds)
  | [], vs, f, _, r => by rw [r.1]; exact .nil
  | d :: ds, vs, f, p, r => by
    obtain ⟨v, vr, g, h, rfl, r1, r2, _⟩ := r
    rw [plainL, Bool.and_eq_true_iff] at p
    exact .cons (rep_dp le d v g p.1 r1) (rep_dps le ds vr h p.2 r2)
end
mutual
theorem py_eqv : ∀ d e : D, plain d = true → plain e = true → (py d).eqv (py e) = eqd d e
  | .non, .non, _, _ => by rw [py, PyData.eqv, eqd]
  | .non, .bl _, _, _ => by rw [py, py, PyData.eqv]; rfl
  | .non, .int _, _, _ => by rw [py, py, PyData.eqv]; rfl
  | .non, .str _, _, _ => by rw [py, py, PyData.eqv]; rfl
  | .non, .tup _, _, _ => by rw [py, py, PyData.eqv]; rfl
  | .non, .lst _ _, _, _ => by rw [py, py, PyData.eqv]; rfl
  | .bl _, .non, _, _ => by rw [py, py, PyData.eqv]; rfl
  | .bl _, .bl _, _, _ => by rw [py, py, PyData.eqv]; rfl
  | .bl _, .int _, _, _ => by rw [py, py, PyData.eqv]; rfl
  | .bl _, .str _, _, _ => by rw [py, py, PyData.eqv]; rfl
  | .bl _, .tup _, _, _ => by rw [py, py, PyData.eqv]; rfl
  | .bl _, .lst _ _, _, _ => by rw [py, py, PyData.eqv]; rfl
  | .int _, .non, _, _ => by rw [py, py, PyData.eqv]; rfl
  | .int _, .bl _, _, _ => by rw [py, py, PyData.eqv]; rfl
  | .int _, .int _, _, _ => by rw [py, py, PyData.eqv]; rfl
  | .int _, .str _, _, _ => by rw [py, py, PyData.eqv]; rfl
  | .int _, .tup _, _, _ => by rw [py, py, PyData.eqv]; rfl
  | .int _, .lst _ _, _, _ => by rw [py, py, PyData.eqv]; rfl
  | .str _, .non, _, _ => by rw [py, py, PyData.eqv]; rfl
  | .str _, .bl _, _, _ => by rw [py, py, PyData.eqv]; rfl
  | .str _, .int _, _, _ => by rw [py, py, PyData.eqv]; rfl
  | .str x, .str y, _, _ => by
    rw [py, py, PyData.eqv]
    show _ = (x == y)
    by_cases h : x = y
    · subst h; simp
    · have : ¬ (⟨x.toArray⟩ : Str) = ⟨y.toArray⟩ := fun e => h (by injection e with e; simpa using congrArg Array.toList e)
      rw [beq_eq_false_iff_ne.mpr this, beq_eq_false_iff_ne.mpr h]
  | .str _, .tup _, _, _ => by rw [py, py, PyData.eqv]; rfl
  | .str _, .lst _ _, _, _ => by rw [py, py, PyData.eqv]; rfl
  | .tup _, .non, _, _ => by rw [py, py, PyData.eqv]; rfl
  | .tup _, .bl _, _, _ => by rw [py, py, PyData.eqv]; rfl
  | .tup _, .int _, _, _ => by rw [py, py, PyData.eqv]; rfl
  | .tup _, .str _, _, _ => by rw [py, py, PyData.eqv]; rfl
  | .tup xs, .tup ys, p, q => by rw [py, py, PyData.eqv, eqd]; exact py_eqvs xs ys p q
  | .tup _, .lst _ _, _, _ => by rw [py, py, PyData.eqv]; rfl
  | .lst _ _, .non, _, _ => by rw [py, py, PyData.eqv]; rfl
  | .lst _ _, .bl _, _, _ => by rw [py, py, PyData.eqv]; rfl
  | .lst _ _, .int _, _, _ => by rw [py, py, PyData.eqv]; rfl
  | .lst _ _, .str _, _, _ => by rw [py, py, PyData.eqv]; rfl
  | .lst _ _, .tup _, _, _ => by rw [py, py, PyData.eqv]; rfl
  | .lst _ xs, .lst _ ys, p, q => by rw [py, py, PyData.eqv, eqd]; exact py_eqvs xs ys p q
  | .dic _ _ _, _, p, _ => by cases p
  | .kst _, _, p, _ => by cases p
  | .ptr _, _, p, _ => by cases p
  | .fn _, _, p, _ => by cases p
  | .ins _ _, _, p, _ => by cases p
  | .exc _ _, _, p, _ => by cases p
  | _, .dic _ _ _, _, p => by cases p
  | _, .kst _, _, p => by cases p
  | _, .ptr _, _, p => by cases p
  | _, .fn _, _, p => by cases p
  | _, .ins _ _, _, p => by cases p
  | _, .exc _ _, _, p => by cases p
theorem py_eqvs : ∀ ds es : List D, plainL ds = true → plainL es = true → PyData.eqvAll (pyL ds) (pyL es) = eqds ds es
  | [], [], _, _ => by rw [pyL, PyData.eqvAll, eqds]
  | [], _ :: _, _, _ => by rw [pyL, pyL, PyData.eqvAll]; rfl
  | _ :: _, [], _, _ => by rw [pyL, pyL, PyData.eqvAll]; rfl
  | d :: ds, e :: es, p, q => by
    rw [plainL, Bool.and_eq_true_iff] at p q
    rw [pyL, pyL, PyData.eqvAll, eqds, py_eqv d e p.1 q.1, py_eqvs ds es p.2 q.2]
end
mutual
theorem py_lay : ∀ d : D, plain d = true → (py d).canLay0 = true ∧ (py d).depth = dep d
  | .non, _ => ⟨rfl, rfl⟩
  | .bl _, _ => ⟨rfl, rfl⟩
  | .int _, _ => ⟨rfl, rfl⟩
  | .str x, p => by
    refine ⟨?_, rfl⟩
    rw [py, PyData.canLay0]
    unfold plain at p
    unfold PyData.strOk
    rw [← Array.all_toList]
    exact p
  | .tup xs, p => by
    obtain ⟨h1, h2⟩ := py_lays xs p
    exact ⟨by rw [py, PyData.canLay0]; exact h1, by rw [py, PyData.depth, dep, h2]⟩
  | .lst _ xs, p => by
    obtain ⟨h1, h2⟩ := py_lays xs p
    exact ⟨by rw [py, PyData.canLay0]; exact h1, by rw [py, PyData.depth, dep, h2]⟩
  | .dic _ _ _, p => by cases p
  | .kst _, p => by cases p
  | .ptr _, p => by cases p
  | .fn _, p => by cases p
  | .ins _ _, p => by cases p
  | .exc _ _, p => by cases p
theorem py_lays : ∀ ds : List D, plainL ds = true → PyData.canLayAll0 (pyL ds) = true ∧ PyData.depthAll (pyL ds) = depL ds
  | [], _ => ⟨rfl, rfl⟩
  | d :: ds, p => by
    rw [plainL, Bool.and_eq_true_iff] at p
    obtain ⟨h1, h2⟩ := py_lay d p.1
    obtain ⟨h3, h4⟩ := py_lays ds p.2
    exact ⟨by rw [pyL, PyData.canLayAll0, h1, h3]; rfl, by rw [pyL, PyData.depthAll, depL, h2, h4]⟩
end
theorem py_shaped {d : D} (h : cmpOk d = true) : SeqAt.shaped (py d) = true := by
  unfold cmpOk at h
  rw [Bool.and_eq_true_iff] at h
  obtain ⟨h1, h2⟩ := py_lay d h.1
  unfold SeqAt.shaped
  rw [h1, h2, h.2]; rfl
theorem py_any : ∀ (x : D) (ys : List D), plain x = true → plainL ys = true → (pyL ys).any (fun z => PyData.eqv z (py x)) = inD x ys
  | _, [], _, _ => rfl
  | x, y :: ys, p, q => by
    rw [plainL, Bool.and_eq_true_iff] at q
    unfold inD
    rw [pyL, List.any_cons, List.any_cons, py_eqv y x q.1 p]
    have := py_any x ys p q.2
    unfold inD at this
    rw [this]
end

def rStrLt : R2 := fun x y H Q => ∃ i j : Str, x = .str i ∧ y = .str j ∧ Q (.bl (decide (i.cps.toList < j.cps.toList))) H
def rIsNon : R2 := fun x y H Q => y = .non ∧ Q (.bl (decide (x = .non))) H
def rNotNon : R2 := fun x y H Q => y = .non ∧ Q (.bl (!decide (x = .non))) H
def rSig : R2 := fun x y H Q => ∃ (n : Nat) (z : Str), x = .str ⟨#[n]⟩ ∧ y = .str z ∧ Q (.bl (decide (n ∈ z.cps.toList))) H
def rNSig : R2 := fun x y H Q => ∃ (n : Nat) (z : Str), x = .str ⟨#[n]⟩ ∧ y = .str z ∧ Q (.bl (!decide (n ∈ z.cps.toList))) H
def rInT (K : Frag) : R2 := fun x y H Q => ∃ d ds, Dp K H x d ∧ Dp K H y (.tuple ds) ∧ SeqAt.shaped d = true ∧ SeqAt.shaped (.tuple ds) = true ∧ Q (.bl (ds.any fun z => PyData.eqv z d)) H
def rNotInT (K : Frag) : R2 := fun x y H Q => ∃ d ds, Dp K H x d ∧ Dp K H y (.tuple ds) ∧ SeqAt.shaped d = true ∧ SeqAt.shaped (.tuple ds) = true ∧ Q (.bl (!ds.any fun z => PyData.eqv z d)) H
theorem op_inT {X : Cx} (hu : X.A.units + 65 < cLine) : OpR X (compareOp .In) (rInT X.K) := by
  intro pins s σ H x y v u Q I rx ry h
  obtain ⟨d, ds, hd, he, sd, se, q⟩ := h
  obtain ⟨as, r1⟩ := Dp.reads I d x v hd rx
  obtain ⟨bs, r2⟩ := Dp.reads I (.tuple ds) y u he ry
  exact SeqAt.in_tuple_reads r2 r1 (SeqAt.canLay_of_shaped se) (SeqAt.canLay_of_shaped sd) (room_in_shaped sd hu) ⟨.bl _, H, I, rfl, q⟩
theorem op_notInT {X : Cx} (hu : X.A.units + 65 < cLine) : OpR X (compareOp .NotIn) (rNotInT X.K) := by
  intro pins s σ H x y v u Q I rx ry h
  obtain ⟨d, ds, hd, he, sd, se, q⟩ := h
  obtain ⟨as, r1⟩ := Dp.reads I d x v hd rx
  obtain ⟨bs, r2⟩ := Dp.reads I (.tuple ds) y u he ry
  exact SeqAt.notIn_tuple_reads r2 r1 (SeqAt.canLay_of_shaped se) (SeqAt.canLay_of_shaped sd) (room_in_shaped sd hu) ⟨.bl _, H, I, rfl, q⟩
def rCm (K : Frag) : Cm → R2
  | .lt => fun x y H Q => rI0 (fun i j => .bl (decide (i < j))) x y H Q ∨ rStrLt x y H Q
  | .le => rI0 fun i j => .bl (decide (i ≤ j))
  | .gt => rI0 fun i j => .bl (decide (j < i))
  | .ge => rI0 fun i j => .bl (decide (j ≤ i))
  | .eq => fun x y H Q => rEq x y H Q ∨ rEqD K x y H Q
  | .ne => fun x y H Q => rNe x y H Q ∨ rNeD K x y H Q
  | .is_ => fun x y H Q => rIsNon x y H Q ∨ rIsB x y H Q
  | .isNot => fun x y H Q => rNotNon x y H Q ∨ rNotB x y H Q
  | .in_ => fun x y H Q => rSig x y H Q ∨ rInD K x y H Q ∨ rInT K x y H Q ∨ rIn K false x y H Q
  | .notIn => fun x y H Q => rNSig x y H Q ∨ rNotInD K x y H Q ∨ rNotInT K x y H Q ∨ rIn K true x y H Q
def cmOf : Cm → CmpOp
  | .lt => .Lt | .le => .LtE | .gt => .Gt | .ge => .GtE | .eq => .Eq | .ne => .NotEq | .is_ => .Is | .isNot => .IsNot | .in_ => .In | .notIn => .NotIn
theorem or_cm {X : Cx} (hu : X.A.units + 65 < cLine) (o : Cm) : OpR X (compareOp (cmOf o)) (rCm X.K o) := by
  have hu4 : X.A.units + 64 < cLine := by omega
  cases o with
  | lt => exact OpR.or op_lt op_lt_str
  | le => exact op_le
  | gt => exact op_gt
  | ge => exact op_ge
  | eq => exact OpR.or op_eq (op_eqD hu4)
  | ne => exact OpR.or op_ne (op_neD hu4)
  | is_ => exact OpR.or op_isN op_isBl
  | isNot => exact OpR.or op_notN op_notBl
  | in_ => exact OpR.or op_in_sign (OpR.or (op_inD hu) (OpR.or (op_inT hu) op_in_seq))
  | notIn => exact OpR.or op_notIn_sign (OpR.or (op_notInD hu) (OpR.or (op_notInT hu) op_notIn_seq))
section
variable {c : Cg} {σ : LSt} {B H B1 H1 : Hp} {φ φ1 : Fp} {α α1 : List Addr} {env env1 : Env} {st st1 : Stt}
theorem sgW_inv {a : Tx} {K : Nat → Prop} (h : sgW a K) : ∃ n, a = [n] ∧ K n := by
  unfold sgW at h
  split at h
  · exact ⟨_, rfl, h⟩
  · exact h.elim
theorem rep_scal {x y : D} {vx vy : V} {fx fy : List Addr} (rx : Rep c.K B H α x vx fx) (ry : Rep c.K B H α y vy fy) (h : scl x y = true) : scal vx vy = true ∧ decide (vx = vy) = eqd x y := by
  have hs : ∀ a b : Tx, decide (V.str ⟨a.toArray⟩ = V.str ⟨b.toArray⟩) = (a == b) := fun a b => by
    by_cases e : a = b
    · subst e; simp
    · have : ¬ V.str ⟨a.toArray⟩ = V.str ⟨b.toArray⟩ := fun z => e (by injection z with z; injection z with z; simpa using congrArg Array.toList z)
      rw [decide_eq_false this, beq_eq_false_iff_ne.mpr e]
  cases x <;> cases y <;> first
    | (cases h; done)
    | (rw [rx.1, ry.1]; exact ⟨rfl, rfl⟩)
    | (rw [rx.1, ry.1]; exact ⟨rfl, dec_int⟩)
    | (rw [rx.1, ry.1]; exact ⟨rfl, dec_bl⟩)
    | (rw [rx.1, ry.1]; exact ⟨rfl, hs _ _⟩)
    | (rw [rx.1, ry.1]; exact ⟨rfl, by simp [eqd]⟩)
theorem rep_flat {x : D} {v : V} {f : List Addr} (r : Rep c.K B H α x v f) (h : scalar x = true) : flatV v = true := by
  cases x <;> first | (cases h; done) | (rw [r.1]; rfl)
theorem rep_eqV {x y : D} {vx vy : V} {fx fy : List Addr} (rx : Rep c.K B H α x vx fx) (ry : Rep c.K B H α y vy fy) (h : scalar x = true) (h' : scalar y = true) : eqV vx vy = eqd x y := by
  have hs : ∀ a b : Tx, ((⟨a.toArray⟩ : Str) == ⟨b.toArray⟩) = (a == b) := fun a b => by
    by_cases e : a = b
    · subst e; simp
    · have : ¬ (⟨a.toArray⟩ : Str) = ⟨b.toArray⟩ := fun z => e (by injection z with z; simpa using congrArg Array.toList z)
      rw [beq_eq_false_iff_ne.mpr this, beq_eq_false_iff_ne.mpr e]
  cases x <;> first | (cases h; done) | (cases y <;> first | (cases h'; done) | (rw [rx.1, ry.1, eqV, eqd]; done) | (rw [rx.1, ry.1, eqV, eqd]; exact hs _ _) | (rw [rx.1, ry.1]; rfl) | (rw [rx.1, ry.1]; simp [eqV, eqd]))
theorem rep_any {x : D} {vx : V} {fx : List Addr} (rx : Rep c.K B H α x vx fx) (h : scalar x = true) : ∀ (ys : List D) (vs : List V) (f : List Addr), RepL c.K B H α ys vs f → ys.all scalar = true → vs.all flatV = true ∧ inV vx vs = inD x ys
  | [], vs, f, r, _ => by rw [r.1]; exact ⟨rfl, rfl⟩
  | y :: ys, vs, f, r, p => by
    obtain ⟨v, vr, g, k, rfl, r1, r2, _⟩ := r
    rw [List.all_cons, Bool.and_eq_true_iff] at p
    obtain ⟨h1, h2⟩ := rep_any rx h ys vr k r2 p.2
    refine ⟨by rw [List.all_cons, h1, rep_flat r1 p.1]; rfl, ?_⟩
    unfold inV inD at h2 ⊢
    rw [List.any_cons, List.any_cons, h2, rep_eqV r1 rx p.1 h]
theorem rep_non (le : HLe B H) {x : D} {v : V} {f : List Addr} (r : Rep c.K B H α x v f) : decide (v = .non) = isNonD x := by
  cases x with
  | lst o xs => obtain ⟨a, vs, g, e, _⟩ := r.lst' (c := c) le; rw [e]; rfl
  | dic _ _ _ => exact r.elim
  | fn _ => exact r.elim
  | ins _ _ => obtain ⟨a, dx, vs, e, _⟩ := r; rw [e]; rfl
  | exc _ _ => obtain ⟨a, dx, vs, e, _⟩ := r; rw [e]; rfl
  | tup xs => obtain ⟨a, vs, e, _⟩ := r; rw [e]; rfl
  | kst xs => obtain ⟨a, vs, e, _⟩ := r; rw [e]; rfl
  | ptr k => obtain ⟨a, _, e, _⟩ := r; rw [e]; rfl
  | non => rw [r.1]; rfl
  | bl b => rw [r.1]; rfl
  | int b => rw [r.1]; rfl
  | str b => rw [r.1]; rfl
theorem cmp_ok {o : Cm} {x y : D} {vx vy : V} {fx fy : List Addr} {K : Bool → Prop} {Q : VK} (W : Wd c.K B H σ α φ env st) (rx : Rep c.K B H α x vx fx) (ry : Rep c.K B H α y vy fy) (w : cmpW o x y K) (out : ∀ b, K b → Q (.bl b) H) : rCm c.K o vx vy H Q := by
  unfold cmpW at w
  split at w
  · obtain ⟨rfl, _⟩ := rx; obtain ⟨rfl, _⟩ := ry
    exact .inl ⟨_, _, rfl, rfl, out _ w⟩
  · obtain ⟨rfl, _⟩ := rx; obtain ⟨rfl, _⟩ := ry
    exact ⟨_, _, rfl, rfl, out _ w⟩
  · obtain ⟨rfl, _⟩ := rx; obtain ⟨rfl, _⟩ := ry
    exact ⟨_, _, rfl, rfl, out _ w⟩
  · obtain ⟨rfl, _⟩ := rx; obtain ⟨rfl, _⟩ := ry
    exact ⟨_, _, rfl, rfl, out _ w⟩
  · obtain ⟨rfl, _⟩ := rx; obtain ⟨rfl, _⟩ := ry
    refine .inr ⟨_, _, rfl, rfl, ?_⟩
    simpa using out _ w
  · obtain ⟨h, k⟩ := w
    rcases Bool.or_eq_true_iff.mp h with h | h
    · obtain ⟨h1, h2⟩ := rep_scal rx ry h
      exact .inl ⟨h1, by rw [h2]; exact out _ k⟩
    · rw [Bool.and_eq_true_iff] at h
      have p1 := (Bool.and_eq_true_iff.mp h.1).1
      have p2 := (Bool.and_eq_true_iff.mp h.2).1
      exact .inr ⟨_, _, rep_dp W.le _ _ _ p1 rx, rep_dp W.le _ _ _ p2 ry, py_shaped h.1, py_shaped h.2, by rw [py_eqv _ _ p1 p2]; exact out _ k⟩
  · obtain ⟨h, k⟩ := w
    rcases Bool.or_eq_true_iff.mp h with h | h
    · obtain ⟨h1, h2⟩ := rep_scal rx ry h
      exact .inl ⟨h1, by rw [h2]; exact out _ k⟩
    · rw [Bool.and_eq_true_iff] at h
      have p1 := (Bool.and_eq_true_iff.mp h.1).1
      have p2 := (Bool.and_eq_true_iff.mp h.2).1
      exact .inr ⟨_, _, rep_dp W.le _ _ _ p1 rx, rep_dp W.le _ _ _ p2 ry, py_shaped h.1, py_shaped h.2, by rw [py_eqv _ _ p1 p2]; exact out _ k⟩
  · obtain ⟨rfl, _⟩ := ry
    refine .inl ⟨rfl, ?_⟩
    rw [rep_non W.le rx]; exact out _ w
  · obtain ⟨rfl, _⟩ := ry
    refine .inl ⟨rfl, ?_⟩
    rw [rep_non W.le rx]; exact out _ w
  · obtain ⟨rfl, _⟩ := rx; obtain ⟨rfl, _⟩ := ry
    exact .inr ⟨_, _, rfl, rfl, by rw [← Bool.beq_eq_decide_eq]; exact out _ w⟩
  · obtain ⟨rfl, _⟩ := rx; obtain ⟨rfl, _⟩ := ry
    exact .inr ⟨_, _, rfl, rfl, by rw [← Bool.beq_eq_decide_eq]; exact out _ w⟩
  · obtain ⟨n, rfl, w⟩ := sgW_inv w
    obtain ⟨rfl, _⟩ := rx; obtain ⟨rfl, _⟩ := ry
    exact .inl ⟨n, _, rfl, rfl, by simpa using out _ w⟩
  · obtain ⟨n, rfl, w⟩ := sgW_inv w
    obtain ⟨rfl, _⟩ := rx; obtain ⟨rfl, _⟩ := ry
    exact .inl ⟨n, _, rfl, rfl, by simpa using out _ w⟩
  · obtain ⟨h, k⟩ := w
    rw [Bool.and_eq_true_iff] at h
    have p1 := (Bool.and_eq_true_iff.mp h.1).1
    have p2 := (Bool.and_eq_true_iff.mp h.2).1
    have dy := rep_dp W.le _ _ _ (show plain (.lst _ _) = true from p2) ry
    have sy : SeqAt.shaped (.list (pyL _)) = true := py_shaped (d := .lst true _) h.2
    exact .inr (.inl ⟨_, _, rep_dp W.le _ _ _ p1 rx, dy, py_shaped h.1, sy, by rw [py_any _ _ p1 p2]; exact out _ k⟩)
  · obtain ⟨h, k⟩ := w
    rw [Bool.and_eq_true_iff] at h
    have p1 := (Bool.and_eq_true_iff.mp h.1).1
    have p2 := (Bool.and_eq_true_iff.mp h.2).1
    have dy := rep_dp W.le _ _ _ p2 ry
    exact .inr (.inr (.inl ⟨_, _, rep_dp W.le _ _ _ p1 rx, dy, py_shaped h.1, py_shaped h.2, by rw [py_any _ _ p1 p2]; exact out _ k⟩))
  · obtain ⟨h, k⟩ := w
    rw [Bool.and_eq_true_iff] at h
    obtain ⟨a, vs, rfl, ha, r, _⟩ := ry.tup' (c := c) W.le
    obtain ⟨h1, h2⟩ := rep_any rx h.1 _ _ _ r h.2
    exact .inr (.inr (.inr ⟨a, vs, rfl, .inr ha, rep_flat rx h.1, h1, by rw [h2]; exact out _ k⟩))
  · obtain ⟨h, k⟩ := w
    rw [Bool.and_eq_true_iff] at h
    have p1 := (Bool.and_eq_true_iff.mp h.1).1
    have p2 := (Bool.and_eq_true_iff.mp h.2).1
    have dy := rep_dp W.le _ _ _ (show plain (.lst _ _) = true from p2) ry
    have sy : SeqAt.shaped (.list (pyL _)) = true := py_shaped (d := .lst true _) h.2
    exact .inr (.inl ⟨_, _, rep_dp W.le _ _ _ p1 rx, dy, py_shaped h.1, sy, by rw [py_any _ _ p1 p2]; exact out _ k⟩)
  · obtain ⟨h, k⟩ := w
    rw [Bool.and_eq_true_iff] at h
    have p1 := (Bool.and_eq_true_iff.mp h.1).1
    have p2 := (Bool.and_eq_true_iff.mp h.2).1
    have dy := rep_dp W.le _ _ _ p2 ry
    exact .inr (.inr (.inl ⟨_, _, rep_dp W.le _ _ _ p1 rx, dy, py_shaped h.1, py_shaped h.2, by rw [py_any _ _ p1 p2]; exact out _ k⟩))
  · obtain ⟨h, k⟩ := w
    rw [Bool.and_eq_true_iff] at h
    obtain ⟨a, vs, rfl, ha, r, _⟩ := ry.tup' (c := c) W.le
    obtain ⟨h1, h2⟩ := rep_any rx h.1 _ _ _ r h.2
    exact .inr (.inr (.inr ⟨a, vs, rfl, .inr ha, rep_flat rx h.1, h1, by rw [h2]; exact out _ k⟩))
  · exact w.elim
theorem tru_ok' {x : D} {v : V} {f : List Addr} {K : Bool → Prop} {Q : Bool → Hp → Prop} (W : Wd c.K B H σ α φ env st) (r : Rep c.K B H α x v f) (w : truW x K) (out : ∀ b, K b → Q b H) : ∃ k, TruV c.K v H k ∧ Q k H := by
  cases x with
  | non => rw [r.1]; exact ⟨false, rfl, out _ w⟩
  | bl b => rw [r.1]; exact ⟨b, rfl, out _ w⟩
  | int b => rw [r.1]; exact ⟨_, rfl, out _ w⟩
  | str z =>
    rw [r.1]
    refine ⟨_, ⟨by rw [tx_len]; exact w.1, rfl⟩, ?_⟩
    rw [tx_len]
    have : ((z.length : Int) != 0) = !z.isEmpty := by cases z <;> simp <;> omega
    rw [this]; exact out _ w.2
  | lst o xs =>
    obtain ⟨a, vs, g, rfl, h, r, _⟩ := r.lst' (c := c) W.le
    refine ⟨_, .inl ⟨vs, .of h, rfl⟩, ?_⟩
    have := r.length
    have : vs.isEmpty = xs.isEmpty := by cases xs <;> cases vs <;> simp_all
    rw [this]; exact out _ w
  | tup xs =>
    obtain ⟨a, vs, rfl, h, r, _⟩ := r.tup' (c := c) W.le
    refine ⟨_, .inr (.inl ⟨vs, h, rfl⟩), ?_⟩
    have := r.length
    have : vs.isEmpty = xs.isEmpty := by cases xs <;> cases vs <;> simp_all
    rw [this]; exact out _ w
  | dic _ _ _ => exact w.elim
  | kst _ => exact w.elim
  | ptr _ => exact w.elim
  | fn _ => exact w.elim
  | ins _ _ => exact w.elim
  | exc _ _ => exact w.elim
end
end Ev

namespace Ev
open PySem PySem.Spec PyProof.Rows L2
def PostB (c : Cg) (σ : LSt) (B H : Hp) (φ : Fp) (α : List Addr) (Kk : Bool → Env → Stt → Prop) (Q : Bool → Hp → Prop) : Prop :=
  ∀ b env' st', Kk b env' st' → ∀ B' H' φ' α', Wd c.K B' H' σ α' φ' env' st' → Stp false B H φ α B' H' φ' α' → Q b H'
def PostV (c : Cg) (σ : LSt) (B H : Hp) (φ : Fp) (α : List Addr) (Kk : KE) (Q : Bool → Hp → Prop) : Prop :=
  ∀ d env' st', Kk d env' st' → ∀ B' H' φ' α', Wd c.K B' H' σ α' φ' env' st' → Stp false B H φ α B' H' φ' α' → truW d fun b => Q b H'
/-- a test of what is handed on; of what is read -/
def TV_ (c : Cg) (ie : IE) : TT := fun σ H Q => ∃ B φ α env st Kk Xk, Wd c.K B H σ α φ env st ∧ wE c.F ie env st Kk Xk ∧ PostV c σ B H φ α Kk Q ∧ PostX c σ B H φ α Xk
def TT_ (c : Cg) (ie : IE) : TT := fun σ H Q => ∃ B φ α env st Kk Xk, Wd c.K B H σ α φ env st ∧ wT c.F ie env st Kk Xk ∧ PostB c σ B H φ α Kk Q ∧ PostX c σ B H φ α Xk
theorem fzL_isEmpty (xs : List D) : (fzL xs).isEmpty = xs.isEmpty := by cases xs <;> rfl
theorem fzL_length : ∀ xs : List D, (fzL xs).length = xs.length
  | [] => rfl
  | x :: xs => by rw [fzL, List.length_cons, List.length_cons, fzL_length xs]
theorem truW_fz (x : D) (K : Bool → Prop) : truW (fz x) K = truW x K := by
  cases x <;> first | rfl | (show K (!(fzL _).isEmpty) = K (!_); rw [fzL_isEmpty])
/-- the truth that x has -/
def truB : D → Option Bool
  | .non => some false
  | .bl b => some b
  | .int i => some (i != 0)
  | .str y => if y.length ≤ Lim then some (!y.isEmpty) else none
  | .lst _ xs => some (!xs.isEmpty)
  | .tup xs => some (!xs.isEmpty)
  | _ => none
theorem truW_iff (x : D) (K : Bool → Prop) : truW x K ↔ ∃ b, truB x = some b ∧ K b := by
  have key : ∀ (b : Bool), K b ↔ ∃ c, some b = some c ∧ K c := fun b => ⟨fun h => ⟨b, rfl, h⟩, fun ⟨c, e, h⟩ => by cases e; exact h⟩
  have no : False ↔ ∃ c, (none : Option Bool) = some c ∧ K c := ⟨False.elim, fun ⟨c, e, _⟩ => by cases e⟩
  cases x with
  | non => exact key _
  | bl b => exact key _
  | int i => exact key _
  | lst o y => exact key _
  | tup y => exact key _
  | dic _ _ _ => exact no
  | kst _ => exact no
  | ptr _ => exact no
  | fn _ => exact no
  | ins _ _ => exact no
  | exc _ _ => exact no
  | str y =>
    show (y.length ≤ Lim ∧ K _) ↔ ∃ b, (if y.length ≤ Lim then some (!y.isEmpty) else none) = some b ∧ K b
    by_cases h : y.length ≤ Lim
    · rw [if_pos h]; exact ⟨fun z => (key _).mp z.2, fun z => ⟨h, (key _).mpr z⟩⟩
    · rw [if_neg h]; exact ⟨fun z => (h z.1).elim, fun z => (no.mpr z).elim⟩
theorem truW_imp {x : D} {K K' : Bool → Prop} (h : truW x K) (i : ∀ b, K b → K' b) : truW x K' :=
  let ⟨b, e, k⟩ := (truW_iff x K).mp h; (truW_iff x K').mpr ⟨b, e, i b k⟩
theorem wT_eq (F : FF) (a : IE) (ha : isVar a = false) (env : Env) (st : Stt) (K : Bool → Env → Stt → Prop) (X : KX) : wT F a env st K X = wE F a env st (fun x e s => truW x fun b => K b e s) X := by
  have : (fun (d : D) (e : Env) (s : Stt) => truW (fz d) fun b => K b e s) = fun (x : D) (e : Env) (s : Stt) => truW x fun b => K b e s := by
    funext d e s; exact truW_fz d _
  cases a <;> first | (show wE F _ env st _ X = _; rw [this]) | cases ha
/-- whole: an expression's four readings -/
structure SE (X : Cx) (c : Cg) (e : Expr) (ie : IE) : Prop where
  E : PE X e (TE_ c ie)
  R : PE X e (TR_ c ie)
  V : PT X e (TV_ c ie)
  T : PT X e (TT_ c ie)
def PlainT (X : Cx) (e : Expr) : Prop := ∀ whole, isTrue e X.env whole = (do let v ← whole; standAt e.pos; holding [v] (truthy v))
theorem Tmp.back {K : Frag} {B H B1 H1 B2 H2 : Hp} {φ φ1 φ2 : Fp} {α α1 α2 : List Addr} {q : Bool} {d : D} {v : V} {f : List Addr} (t : Tmp K B1 H1 φ1 B2 H2 φ2 α2 d v f) (s : Stp q B H φ α B1 H1 φ1 α1) : Tmp K B H φ B2 H2 φ2 α2 d v f :=
  ⟨t.rep, t.nd, t.out, t.free, fun a m => by
    rcases t.new a m with ⟨w, h⟩ | h
    · exact s.new w a h
    · by_cases hh : ∃ w, a ∈ φ w
      · exact .inl hh
      · refine .inr ?_
        cases e : H a with
        | none => rfl
        | some o => rw [s.frame a o e fun w m => hh ⟨w, m⟩] at h; cases h⟩
section
variable {X : Cx} {c : Cg} {e a b d : Expr} {ia ib id ie : IE} {pos : Pos}
theorem sV_of (hK : X.K = c.K) (he : PlainT X e) (h : PE X e (TE_ c ie)) : PT X e (TV_ c ie) := PT.imp (pt_truth h he) fun σ H Q => by
  rintro ⟨B, φ, α, env, st, Kk, Xk, W, w, p, x⟩
  refine ⟨B, φ, α, env, st, _, Xk, W, w, fun d env' st' k v B' H' φ' α' f W' s t => ?_, x⟩
  rw [hK]
  exact tru_ok' W' t.rep (p d env' st' k B' H' φ' α' W' (s.weak fun h => nomatch h)) fun b k => k
theorem sT_of (hK : X.K = c.K) (he : PlainT X e) (h : PE X e (TR_ c ie)) : PT X e (TT_ c ie) := PT.imp (pt_truth h he) fun σ H Q => by
  rintro ⟨B, φ, α, env, st, Kk, Xk, W, w, p, x⟩
  refine ⟨B, φ, α, env, st, _, Xk, W, w, fun d env' st' k v B' H' φ' α' f W' s r _ => ?_, x⟩
  rw [hK]
  exact tru_ok' W' r k fun b k => p b env' st' k B' H' φ' α' W' (s.weak fun h => nomatch h)
theorem sT_V (hv : isVar ie = false) (h : PT X e (TV_ c ie)) : PT X e (TT_ c ie) := PT.imp h fun σ H Q => by
  rintro ⟨B, φ, α, env, st, Kk, Xk, W, w, p, x⟩
  rw [wT_eq _ _ hv] at w
  exact ⟨B, φ, α, env, st, _, Xk, W, w, fun d env' st' k B' H' φ' α' W' s => truW_imp k fun b k => p b env' st' k B' H' φ' α' W' s, x⟩
/-- of what is plain as a test -/
theorem SE.plain (hK : X.K = c.K) (hv : isVar ie = false) (he : PlainT X e) (h : PE X e (TE_ c ie)) : SE X c e ie :=
  ⟨h, TR_of hv h, sV_of hK he h, sT_V hv (sV_of hK he h)⟩
theorem SE.test (hv : isVar ie = false) (h : PE X e (TE_ c ie)) (t : PT X e (TV_ c ie)) : SE X c e ie := ⟨h, TR_of hv h, t, sT_V hv t⟩
theorem SE.var {i : Nat} (hK : X.K = c.K) (he : PlainT X e) (h : PE X e (tVar i)) : SE X c e (.var i) :=
  ⟨sE_var h, sR_var h, sV_of hK he (sE_var h), sT_of hK he (sR_var h)⟩
theorem sE_cmp (hK : X.K = c.K) (hu : X.A.units + 65 < cLine) (o : Cm) (ha : PE X a (TR_ c ia)) (hb : PE X b (TR_ c ib)) (hm : behindInMarks (cmOf o) b = false) : PE X (.Compare a [cmOf o] [b] pos) (TE_ c (.cmp o ia ib)) := PE.imp (pe_cmpR (or_cm hu o) ha hb hm) fun σ H Q => by
  rintro ⟨B, φ, α, env, st, Kk, Xk, W, w, p, x⟩
  rw [hK]
  exact two_read (X := X) (qq := quiet (.cmp o ia ib)) (fun h => nomatch h) W w x fun dx dy e2 s2 k vx vy B2 H2 φ2 α2 fx fy W2 s r r' =>
    cmp_ok W2 r r' k fun b k => p _ e2 s2 k _ B2 H2 φ2 α2 [] W2 s (Tmp.of_nil ⟨rfl, rfl⟩)
theorem sV_cmp (hK : X.K = c.K) (hu : X.A.units + 65 < cLine) (o : Cm) (ha : PE X a (TR_ c ia)) (hb : PE X b (TR_ c ib)) (hm : behindInMarks (cmOf o) b = false) : PT X (.Compare a [cmOf o] [b] pos) (TV_ c (.cmp o ia ib)) := PT.imp (pt_cmpR (or_cm hu o) ha hb hm) fun σ H Q => by
  rintro ⟨B, φ, α, env, st, Kk, Xk, W, w, p, x⟩
  rw [hK]
  exact two_read (X := X) (qq := false) (fun h => nomatch h) W w x fun dx dy e2 s2 k vx vy B2 H2 φ2 α2 fx fy W2 s r r' =>
    cmp_ok W2 r r' k fun b k => ⟨b, rfl, p (.bl b) e2 s2 k B2 H2 φ2 α2 W2 s⟩
theorem SE.cmp (hK : X.K = c.K) (hu : X.A.units + 65 < cLine) (o : Cm) (ha : SE X c a ia) (hb : SE X c b ib) (hm : behindInMarks (cmOf o) b = false) : SE X c (.Compare a [cmOf o] [b] pos) (.cmp o ia ib) :=
  .test rfl (sE_cmp hK hu o ha.R hb.R hm) (sV_cmp hK hu o ha.R hb.R hm)
/-- a < b < d: the reading under both ends -/
theorem chain_read (hK : X.K = c.K) {o o' : Cm} {σ : LSt} {H : Hp} {Q : VK} {B : Hp} {φ : Fp} {α : List Addr} {env : Env} {st : Stt} {Kb : Bool → Env → Stt → Prop} {Xk : KX} (W : Wd c.K B H σ α φ env st)
    (w : rdC ia env st (fun k => wE c.F ia env st k Xk) fun x e1 s1 => nf x = true ∧ rdC ib e1 s1 (fun k => wE c.F ib e1 s1 k Xk) fun y e2 s2 => nf y = true ∧ cmpW o x y fun z =>
      if z = true then rdC id e2 s2 (fun k => wE c.F id e2 s2 k Xk) fun u e3 s3 => cmpW o' y u fun t => Kb t e3 s3 else Kb false e2 s2)
    (hx : PostX c σ B H φ α Xk) (p : ∀ b e s, Kb b e s → ∀ B' H' φ' α', Wd c.K B' H' σ α' φ' e s → Stp false B H φ α B' H' φ' α' → Q (.bl b) H') :
    tChain (rCm X.K o) (rCm X.K o') (TR_ c ia) (TR_ c ib) (TR_ c id) σ H Q := by
  rw [hK]
  refine ⟨B, φ, α, env, st, _, Xk, W, w, fun x e1 s1 ⟨n1, k1⟩ vx B1 H1 φ1 α1 fx W1 t1 r1 _ => ?_, hx⟩
  refine ⟨B1, φ1, α1, e1, s1, _, Xk, W1, k1, fun y e2 s2 ⟨n2, k2⟩ vy B2 H2 φ2 α2 fy W2 t2 r2 _ => ?_, hx.step t1⟩
  have z1 := Rep.nf x vx fx n1 r1
  have z2 := Rep.nf y vy fy n2 r2
  subst z1; subst z2
  have r1' := Rep.ext t2.mono t2.pre x vx [] (fun _ m => nomatch m) r1 (H' := H2)
  have t12 := (t1.trans t2).weak (q2 := false) fun h => nomatch h
  refine cmp_ok W2 r1' r2 k2 fun z k3 => ⟨z, rfl, ?_⟩
  cases z with
  | false =>
    rw [if_neg Bool.false_ne_true] at k3 ⊢
    exact p false e2 s2 k3 B2 H2 φ2 α2 W2 t12
  | true =>
    rw [if_pos rfl] at k3 ⊢
    refine ⟨B2, φ2, α2, e2, s2, _, Xk, W2, k3, fun u e3 s3 k4 vu B3 H3 φ3 α3 fu W3 t3 r3 _ => ?_, hx.step t12⟩
    have r2' := Rep.ext t3.mono t3.pre y vy [] (fun _ m => nomatch m) r2 (H' := H3)
    exact cmp_ok W3 r2' r3 k4 fun t k5 => p t e3 s3 k5 B3 H3 φ3 α3 W3 ((t12.trans t3).weak fun h => nomatch h)
theorem SE.chain (hK : X.K = c.K) (hu : X.A.units + 65 < cLine) (o o' : Cm) (ha : SE X c a ia) (hb : SE X c b ib) (hd : SE X c d id) (hm : lastMarks [cmOf o, cmOf o'] [b, d] = false) : SE X c (.Compare a [cmOf o, cmOf o'] [b, d] pos) (.chain o o' ia ib id) := by
  refine .test rfl (PE.imp (pe_chain (or_cm hu o) (or_cm hu o') ha.R hb.R hd.R hm) fun σ H Q => ?_) (PT.imp (pt_chain (or_cm hu o) (or_cm hu o') ha.R hb.R hd.R hm) fun σ H Q => ?_)
  · rintro ⟨B, φ, α, env, st, Kk, Xk, W, w, p, x⟩
    exact chain_read hK W w x fun b e s k B' H' φ' α' W' t => p _ e s k _ B' H' φ' α' [] W' t (Tmp.of_nil ⟨rfl, rfl⟩)
  · rintro ⟨B, φ, α, env, st, Kk, Xk, W, w, p, x⟩
    exact chain_read (Kb := fun b e s => Kk (.bl b) e s) hK W w x fun b e s k B' H' φ' α' W' t => ⟨b, rfl, p _ e s k B' H' φ' α' W' t⟩
/-- and, or: over their lists -/
structure SB (X : Cx) (c : Cg) (op : BoolOp) (es : List Expr) (ie : IE) : Prop where
  E : ∀ pos, PE X (.BoolOp op es pos) (TE_ c ie)
  V : ∀ pos, PW X (.BoolOp op es pos) (TV_ c ie)
theorem PW.imp {X : Cx} {e : Expr} {t t' : TT} (h : PW X e t) (i : ∀ σ H Q, t' σ H Q → t σ H Q) : PW X e t' := ⟨fun wh pins s σ H Q I w => h.run wh pins s σ H Q I (i σ H Q w)⟩
theorem SB.one1 (h : SE X c a ia) : SB X c .And [a] ia := ⟨fun pos => pe_one h.E, fun pos => pw_and1 h.V⟩
theorem SB.one2 (h : SE X c a ia) : SB X c .Or [a] ia := ⟨fun pos => pe_one h.E, fun pos => pw_or1 h.V⟩
theorem SB.and {rest : List Expr} (hK : X.K = c.K) (h : SE X c a ia) (h' : SB X c .And (b :: rest) ib) : SB X c .And (a :: b :: rest) (.and_ ia ib) := by
  refine ⟨fun pos => PE.imp (pe_andT h.E (h'.E pos)) fun σ H Q => ?_, fun pos => PW.imp (pw_and h.V (h'.V pos)) fun σ H Q => ?_⟩
  · rintro ⟨B, φ, α, env, st, Kk, Xk, W, w, p, x⟩
    refine ⟨B, φ, α, env, st, _, Xk, W, w, fun d env' st' k v B' H' φ' α' f W' s t => ?_, x⟩
    obtain ⟨z, hz, kz⟩ := tru_ok' (Q := fun z _ => if z = true then wE c.F ib env' st' Kk Xk else Kk d env' st') W' t.rep k fun b k => k
    rw [hK]
    refine ⟨z, hz, ?_⟩
    cases z with
    | false => exact p d env' st' kz v B' H' φ' α' f W' (s.weak fun h => nomatch h) t
    | true =>
      refine ⟨B', φ', α', env', st', Kk, Xk, W', kz, fun d2 e2 s2 k2 v2 B2 H2 φ2 α2 f2 W2 s' t' => ?_, x.step s⟩
      exact p d2 e2 s2 k2 v2 B2 H2 φ2 α2 f2 W2 ((s.trans s').weak fun h => nomatch h) (t'.back s)
  · rintro ⟨B, φ, α, env, st, Kk, Xk, W, w, p, x⟩
    refine ⟨B, φ, α, env, st, _, Xk, W, w, fun d env' st' k B' H' φ' α' W' s => ?_, x⟩
    obtain ⟨z, hz, kz⟩ := (truW_iff d _).mp k
    refine (truW_iff d _).mpr ⟨z, hz, ?_⟩
    cases z with
    | false =>
      obtain ⟨z2, hz2, k2⟩ := (truW_iff d _).mp (p d env' st' kz B' H' φ' α' W' s)
      rw [hz] at hz2; cases hz2
      exact k2
    | true => exact ⟨B', φ', α', env', st', Kk, Xk, W', kz, fun d2 e2 s2 k2 B2 H2 φ2 α2 W2 s' => p d2 e2 s2 k2 B2 H2 φ2 α2 W2 ((s.trans s').weak fun h => nomatch h), x.step s⟩
theorem SB.or {rest : List Expr} (hK : X.K = c.K) (h : SE X c a ia) (h' : SB X c .Or (b :: rest) ib) : SB X c .Or (a :: b :: rest) (.or_ ia ib) := by
  refine ⟨fun pos => PE.imp (pe_orT h.E (h'.E pos)) fun σ H Q => ?_, fun pos => PW.imp (pw_or h.V (h'.V pos)) fun σ H Q => ?_⟩
  · rintro ⟨B, φ, α, env, st, Kk, Xk, W, w, p, x⟩
    refine ⟨B, φ, α, env, st, _, Xk, W, w, fun d env' st' k v B' H' φ' α' f W' s t => ?_, x⟩
    obtain ⟨z, hz, kz⟩ := tru_ok' (Q := fun z _ => if z = true then Kk d env' st' else wE c.F ib env' st' Kk Xk) W' t.rep k fun b k => k
    rw [hK]
    refine ⟨z, hz, ?_⟩
    cases z with
    | true => exact p d env' st' kz v B' H' φ' α' f W' (s.weak fun h => nomatch h) t
    | false =>
      refine ⟨B', φ', α', env', st', Kk, Xk, W', kz, fun d2 e2 s2 k2 v2 B2 H2 φ2 α2 f2 W2 s' t' => ?_, x.step s⟩
      exact p d2 e2 s2 k2 v2 B2 H2 φ2 α2 f2 W2 ((s.trans s').weak fun h => nomatch h) (t'.back s)
  · rintro ⟨B, φ, α, env, st, Kk, Xk, W, w, p, x⟩
    refine ⟨B, φ, α, env, st, _, Xk, W, w, fun d env' st' k B' H' φ' α' W' s => ?_, x⟩
    obtain ⟨z, hz, kz⟩ := (truW_iff d _).mp k
    refine (truW_iff d _).mpr ⟨z, hz, ?_⟩
    cases z with
    | true =>
      obtain ⟨z2, hz2, k2⟩ := (truW_iff d _).mp (p d env' st' kz B' H' φ' α' W' s)
      rw [hz] at hz2; cases hz2
      exact k2
    | false => exact ⟨B', φ', α', env', st', Kk, Xk, W', kz, fun d2 e2 s2 k2 B2 H2 φ2 α2 W2 s' => p d2 e2 s2 k2 B2 H2 φ2 α2 W2 ((s.trans s').weak fun h => nomatch h), x.step s⟩
theorem SB.se1 (h : SB X c .And (a :: b :: []) ie) (hv : isVar ie = false) : SE X c (.BoolOp .And (a :: b :: []) pos) ie := .test hv (h.E pos) (h.V pos).pt
theorem SB.se {op : BoolOp} {es : List Expr} (h : SB X c op es ie) (hv : isVar ie = false) : SE X c (.BoolOp op es pos) ie := .test hv (h.E pos) (h.V pos).pt
/-- not -/
theorem SE.not (hK : X.K = c.K) (h : SE X c a ia) : SE X c (.UnaryOp .Not a pos) (.not_ ia) := by
  refine .test rfl (PE.imp (pe_notT h.R) fun σ H Q => ?_) (PT.imp (pt_not h.T) fun σ H Q => ?_)
  · rintro ⟨B, φ, α, env, st, Kk, Xk, W, w, p, x⟩
    refine ⟨B, φ, α, env, st, _, Xk, W, w, fun d env' st' k v B' H' φ' α' f W' s r _ => ?_, x⟩
    rw [hK]
    exact tru_ok' W' r k fun b k => p _ env' st' k _ B' H' φ' α' [] W' (s.weak fun h => nomatch h) (Tmp.of_nil ⟨rfl, rfl⟩)
  · rintro ⟨B, φ, α, env, st, Kk, Xk, W, w, p, x⟩
    exact ⟨B, φ, α, env, st, fun b e s => Kk (.bl (!b)) e s, Xk, W, w, fun b env' st' k B' H' φ' α' W' s => p _ env' st' k B' H' φ' α' W' s, x⟩
/-- a if t else b -/
theorem SE.ite {t : Expr} {it : IE} (hK : X.K = c.K) (ht : SE X c t it) (ha : SE X c a ia) (hb : SE X c b ib) (hv : PT X (.IfExp t a b pos) (TV_ c (.ite it ia ib))) : SE X c (.IfExp t a b pos) (.ite it ia ib) := by
  refine .test rfl (PE.imp (pe_ifExp ht.T ha.E hb.E) fun σ H Q => ?_) hv
  rintro ⟨B, φ, α, env, st, Kk, Xk, W, w, p, x⟩
  refine ⟨B, φ, α, env, st, fun z e s => if z = true then wE c.F ia e s Kk Xk else wE c.F ib e s Kk Xk, Xk, W, w, fun z env' st' k B' H' φ' α' W' s => ?_, x⟩
  have go : ∀ {ic : IE}, wE c.F ic env' st' Kk Xk → TE_ c ic σ H' Q := fun {ic} k => ⟨B', φ', α', env', st', Kk, Xk, W', k, fun d2 e2 s2 k2 v2 B2 H2 φ2 α2 f2 W2 s' t' =>
    p d2 e2 s2 k2 v2 B2 H2 φ2 α2 f2 W2 ((s.trans s').weak fun h => nomatch h) (t'.back s), x.step s⟩
  cases z with
  | true => exact go k
  | false => exact go k
theorem sV_ite {t : Expr} {it : IE} (hK : X.K = c.K) (ht : SE X c t it) (ha : SE X c a ia) (hb : SE X c b ib) : PT X (.IfExp t a b pos) (TV_ c (.ite it ia ib)) := by
  have core : PT X (.IfExp t a b pos) (fun σ H Q => TT_ c it σ H fun z H1 => if z = true then TV_ c ia σ H1 Q else TV_ c ib σ H1 Q) := ⟨fun pins s σ H Q I h => by
    show wpAny _ _ (do if ← isTrue t X.env (eval t X.env) then isTrue a X.env (eval a X.env) else isTrue b X.env (eval b X.env)) _ _ _
    refine wpAny_bind (thn (ht.T.run pins s σ H _ I h) fun z s1 ⟨H1, I1, q1⟩ => ?_)
    cases z with
    | true => exact ha.V.run pins s1 σ H1 Q I1 q1
    | false => exact hb.V.run pins s1 σ H1 Q I1 q1⟩
  refine PT.imp core fun σ H Q => ?_
  rintro ⟨B, φ, α, env, st, Kk, Xk, W, w, p, x⟩
  refine ⟨B, φ, α, env, st, fun z e s => if z = true then wE c.F ia e s Kk Xk else wE c.F ib e s Kk Xk, Xk, W, w, fun z env' st' k B' H' φ' α' W' s => ?_, x⟩
  have go : ∀ {ic : IE}, wE c.F ic env' st' Kk Xk → TV_ c ic σ H' Q := fun {ic} k => ⟨B', φ', α', env', st', Kk, Xk, W', k, fun d2 e2 s2 k2 B2 H2 φ2 α2 W2 s' =>
    p d2 e2 s2 k2 B2 H2 φ2 α2 W2 ((s.trans s').weak fun h => nomatch h), x.step s⟩
  cases z with
  | true => exact go k
  | false => exact go k
end
end Ev

namespace Ev
open PySem PySem.Spec PyProof.Rows L2
structure TmpL (K : Frag) (B H : Hp) (φ : Fp) (B' H' : Hp) (φ' : Fp) (α' : List Addr) (ds : List D) (vs : List V) (f : List Addr) : Prop where
  rep : RepL K B' H' α' ds vs f
  nd : f.Nodup
  out : ∀ a ∈ f, B' a = none
  free : ∀ a ∈ f, ∀ w, a ∉ φ' w
  new : ∀ a ∈ f, (∃ w, a ∈ φ w) ∨ H a = none
/-- things read, each as it lies -/
def RdL (K : Frag) (B H : Hp) (α : List Addr) : List D → List V → Prop
  | [], vs => vs = []
  | d :: ds, vs => ∃ v vr f, vs = v :: vr ∧ Rep K B H α d v f ∧ RdL K B H α ds vr
def TAs_ (c : Cg) (es : List IE) : TA := fun σ H Q => ∃ B φ α env st Kk Xk, Wd c.K B H σ α φ env st ∧ wEs c.F es env st Kk Xk ∧
  (∀ ds env' st', Kk ds env' st' → ∀ vs B' H' φ' α' f, Wd c.K B' H' σ α' φ' env' st' → Stp false B H φ α B' H' φ' α' → TmpL c.K B H φ B' H' φ' α' ds vs f → Q vs H') ∧ PostX c σ B H φ α Xk
def TRs_ (c : Cg) (es : List IE) : TA := fun σ H Q => ∃ B φ α env st Kk Xk, Wd c.K B H σ α φ env st ∧ wRs c.F es env st Kk Xk ∧
  (∀ ds env' st', Kk ds env' st' → ∀ vs B' H' φ' α', Wd c.K B' H' σ α' φ' env' st' → Stp (quietL es) B H φ α B' H' φ' α' → RdL c.K B' H' α' ds vs → Q vs H') ∧ PostX c σ B H φ α Xk
theorem RepL.there {K : Frag} {B H : Hp} {α : List Addr} {ds : List D} {vs : List V} {f : List Addr} (r : RepL K B H α ds vs f) : ∀ a ∈ f, ∃ xs, H a = some (.lst xs) := Rep.there.recL ds vs f r
theorem RepL.step {K : Frag} {B H B1 H1 : Hp} {α α1 : List Addr} {φ φ1 : Fp} {q : Bool} {ds : List D} {vs : List V} {f : List Addr} (r : RepL K B H α ds vs f) (s : Stp q B H φ α B1 H1 φ1 α1) (hf : ∀ a ∈ f, ∀ w, a ∉ φ w) : RepL K B1 H1 α1 ds vs f :=
  RepL.ext s.mono s.pre ds vs f (fun a m o e => s.frame a o e (hf a m)) r
section
variable {K : Frag} {B H B1 H1 B2 H2 : Hp} {σ : LSt} {α α1 α2 : List Addr} {φ φ1 φ2 : Fp} {env : Env} {st : Stt} {q : Bool}
theorem Tmp.cons {d : D} {v : V} {f g : List Addr} {ds : List D} {vs : List V} (s0 : Stp false B H φ α B1 H1 φ1 α1) (t : Tmp K B H φ B1 H1 φ1 α1 d v f) (s : Stp false B1 H1 φ1 α1 B2 H2 φ2 α2) (r : TmpL K B1 H1 φ1 B2 H2 φ2 α2 ds vs g) :
    TmpL K B H φ B2 H2 φ2 α2 (d :: ds) (v :: vs) (f ++ g) := by
  have t2 := t.step s0 s
  have hd : ∀ a ∈ f, a ∉ g := fun a m m' => by
    rcases r.new a m' with ⟨w, h⟩ | h
    · exact t.free a m w h
    · obtain ⟨xs, e⟩ := Rep.there _ _ _ t.rep a m
      rw [e] at h; cases h
  refine ⟨⟨v, vs, f, g, rfl, t2.rep, r.rep, rfl⟩, List.nodup_append.mpr ⟨t2.nd, r.nd, fun a m b m' e => hd a m (e ▸ m')⟩, fun a m => ?_, fun a m => ?_, fun a m => ?_⟩
  · rcases List.mem_append.mp m with m | m
    · exact t2.out a m
    · exact r.out a m
  · rcases List.mem_append.mp m with m | m
    · exact t2.free a m
    · exact r.free a m
  · rcases List.mem_append.mp m with m | m
    · exact t2.new a m
    · rcases r.new a m with ⟨w, h⟩ | h
      · exact s0.new w a h
      · by_cases hh : ∃ w, a ∈ φ w
        · exact .inl hh
        · refine .inr ?_
          cases e : H a with
          | none => rfl
          | some o => rw [s0.frame a o e fun w m => hh ⟨w, m⟩] at h; cases h
/-- the display of a list, of a tuple -/
theorem TmpL.list (W : Wd K B1 H1 σ α1 φ1 env st) (s0 : Stp false B H φ α B1 H1 φ1 α1) {ds : List D} {vs : List V} {f : List Addr} (t : TmpL K B H φ B1 H1 φ1 α1 ds vs f) {p : Addr} (hp : H1 p = none) :
    Tmp K B H φ B1 (upd H1 p (.lst vs)) φ1 α1 (.lst true ds) (.ref p) (p :: f) := by
  have hne : ∀ a ∈ f, a ≠ p := fun a m e => by
    obtain ⟨xs, h⟩ := t.rep.there a m
    rw [e, hp] at h; cases h
  have hb : B1 p = none := by
    cases e : B1 p with
    | none => rfl
    | some u => rw [W.le p u e] at hp; cases hp
  have hn : (∃ w, p ∈ φ w) ∨ H p = none := by
    by_cases hh : ∃ w, p ∈ φ w
    · exact .inl hh
    · refine .inr ?_
      cases e : H p with
      | none => rfl
      | some o => rw [s0.frame p o e fun w m => hh ⟨w, m⟩] at hp; cases hp
  refine ⟨⟨p, vs, f, rfl, upd_same, RepL.ext (HLe.refl B1) (fun _ _ h => h) ds vs f (fun a m o e => by rw [upd_ne (hne a m)]; exact e) t.rep, rfl⟩, List.nodup_cons.mpr ⟨fun m => hne p m rfl, t.nd⟩, fun a m => ?_, fun a m w z => ?_, fun a m => ?_⟩
  · rcases List.mem_cons.mp m with e | m
    · rw [e]; exact hb
    · exact t.out a m
  · rcases List.mem_cons.mp m with e | m
    · rw [e] at z
      obtain ⟨xs, e'⟩ := W.there w z
      rw [hp] at e'; cases e'
    · exact t.free a m w z
  · rcases List.mem_cons.mp m with e | m
    · rw [e]; exact hn
    · exact t.new a m
theorem TmpL.tuple (W : Wd K B1 H1 σ α1 φ1 env st) {ds : List D} {vs : List V} {f : List Addr} (t : TmpL K B H φ B1 H1 φ1 α1 ds vs f) {p : Addr} (hp : H1 p = none) :
    Tmp K B H φ (upd B1 p (.tup vs)) (upd H1 p (.tup vs)) φ1 α1 (.tup ds) (.ref p) f := by
  have hne : ∀ a ∈ f, a ≠ p := fun a m e => by
    obtain ⟨xs, h⟩ := t.rep.there a m
    rw [e, hp] at h; cases h
  obtain ⟨W2, s2⟩ := W.allocB hp (.tup vs)
  exact ⟨⟨p, vs, rfl, .inl upd_same, RepL.ext s2.mono (fun _ _ h => h) ds vs f (fun a m o e => by rw [upd_ne (hne a m)]; exact e) t.rep⟩, t.nd, fun a m => by rw [upd_ne (hne a m)]; exact t.out a m, t.free, t.new⟩
theorem TmpL.nil : TmpL K B H φ B1 H1 φ1 α1 [] [] [] := ⟨⟨rfl, rfl⟩, List.nodup_nil, (fun _ m => nomatch m), (fun _ m => nomatch m), (fun _ m => nomatch m)⟩
end
theorem PA.imp {X : Cx} {es : List Expr} {t t' : TA} (h : PA X es t) (i : ∀ σ H Q, t' σ H Q → t σ H Q) : PA X es t' := ⟨fun pos pins s σ H Q I w => h.run pos pins s σ H Q I (i σ H Q w)⟩
section
variable {X : Cx} {c : Cg} {e a b : Expr} {es : List Expr} {ia ib ie : IE} {ies : List IE} {pos : Pos}
theorem sA_nil : PA X [] (TAs_ c []) := PA.imp pa_nil fun σ H Q => by
  rintro ⟨B, φ, α, env, st, Kk, Xk, W, w, p, x⟩
  exact p [] env st w [] B H φ α [] W (Stp.refl.weak fun h => nomatch h) TmpL.nil
theorem sA_cons (h : PE X e (TE_ c ie)) (r : PA X es (TAs_ c ies)) (hs : starEach (e :: es) X.env = (false, eval e X.env) :: starEach es X.env) : PA X (e :: es) (TAs_ c (ie :: ies)) := PA.imp (pa_cons h r hs) fun σ H Q => by
  rintro ⟨B, φ, α, env, st, Kk, Xk, W, w, p, x⟩
  refine ⟨B, φ, α, env, st, _, Xk, W, w, fun d env' st' k v B' H' φ' α' f W' s t => ?_, x⟩
  refine ⟨B', φ', α', env', st', _, Xk, W', k, fun ds e2 s2 k2 vs B2 H2 φ2 α2 g W2 s' t' => ?_, x.step s⟩
  exact p _ e2 s2 k2 _ B2 H2 φ2 α2 _ W2 ((s.trans s').weak fun h => nomatch h) (Tmp.cons (s.weak fun h => nomatch h) t s' t')
theorem sR_nil : PA X [] (TRs_ c []) := PA.imp pa_nil fun σ H Q => by
  rintro ⟨B, φ, α, env, st, Kk, Xk, W, w, p, x⟩
  exact p [] env st w [] B H φ α W Stp.refl rfl
theorem sR_cons (h : PE X e (TR_ c ie)) (r : PA X es (TRs_ c ies)) (hs : starEach (e :: es) X.env = (false, eval e X.env) :: starEach es X.env) : PA X (e :: es) (TRs_ c (ie :: ies)) := PA.imp (pa_cons h r hs) fun σ H Q => by
  rintro ⟨B, φ, α, env, st, Kk, Xk, W, w, p, x⟩
  obtain ⟨env0, B0, φ0, w, W0, s0⟩ := shW_read W w
  refine ⟨B0, φ0, α, env0, st, _, Xk, W0, w, fun d e1 s1 ⟨hs, k⟩ v B1 H1 φ1 α1 f W1 s t hv => ?_, x.step s0⟩
  refine ⟨B1, φ1, α1, e1, s1, _, Xk, W1, k, fun ds e2 s2 k2 vs B2 H2 φ2 α2 W2 s' t' => ?_, (x.step s0).step s⟩
  refine p _ e2 s2 k2 _ B2 H2 φ2 α2 W2 (s0.trans (s.trans s')) ⟨v, vs, f, rfl, ?_, t'⟩
  unfold stays at hs
  cases hva : isVar ie with
  | false =>
    rw [hv hva] at t ⊢
    exact Rep.ext s'.mono s'.pre d v [] (fun _ m => nomatch m) t
  | true =>
    rw [hva] at hs
    rcases Bool.or_eq_true_iff.mp hs with hs | hs
    · rw [Bool.not_true, Bool.false_or] at hs
      have := Rep.nf d v f hs t
      subst this
      exact Rep.ext s'.mono s'.pre d v [] (fun _ m => nomatch m) t
    · exact Rep.ext s'.mono s'.pre d v f (fun a _ o e => s'.same hs a o e) t
theorem sE_tup {x1} (h : PA X es (TAs_ c ies)) : PE X (.Tuple es x1 pos) (TE_ c (.tup ies)) := PE.imp (pe_tup h) fun σ H Q => by
  rintro ⟨B, φ, α, env, st, Kk, Xk, W, w, p, x⟩
  refine ⟨B, φ, α, env, st, _, Xk, W, w, fun ds e1 s1 ⟨hl, k⟩ vs B1 H1 φ1 α1 f W1 s t => ⟨by rw [← t.rep.length]; exact hl, fun q hq => ?_⟩, x⟩
  obtain ⟨W2, s2⟩ := W1.allocB hq (.tup vs)
  exact p _ e1 s1 k _ _ _ φ1 α1 f W2 ((s.trans s2).weak fun h => nomatch h) (t.tuple W1 hq)
theorem sE_lst0 : PE X (.List [] pos) (TE_ c (.lst [])) := PE.imp (pe_lst pa_nil) fun σ H Q => by
  rintro ⟨B, φ, α, env, st, Kk, Xk, W, w, p, x⟩
  obtain ⟨_, k⟩ := (show ([] : List D).length ≤ Lim ∧ Kk (.lst true []) env st from w)
  refine ⟨Nat.zero_le _, fun q hq => ?_⟩
  obtain ⟨W2, s2⟩ := W.alloc hq (.lst [])
  exact p _ env st k _ _ _ φ α _ W2 s2 (TmpL.nil.list W (Stp.refl.weak fun h => nomatch h) hq)
theorem sE_lst {ie : IE} (h : PA X es (TAs_ c (ie :: ies))) : PE X (.List es pos) (TE_ c (.lst (ie :: ies))) := PE.imp (pe_lst h) fun σ H Q => by
  rintro ⟨B, φ, α, env, st, Kk, Xk, W, w, p, x⟩
  refine ⟨B, φ, α, env, st, _, Xk, W, w, fun ds e1 s1 ⟨hl, k⟩ vs B1 H1 φ1 α1 f W1 s t => ⟨by rw [← t.rep.length]; exact hl, fun q hq => ?_⟩, x⟩
  obtain ⟨W2, s2⟩ := W1.alloc hq (.lst vs)
  exact p _ e1 s1 k _ _ _ φ1 α1 _ W2 ((s.trans s2).weak fun h => nomatch h) (t.list W1 s hq)
theorem ixn_eq (n : Nat) (i : Int) : ixn n i = ixN n i := rfl
theorem atx_eq {α : Type} (xs : List α) (i : Int) : atx xs i = atI xs i := rfl
theorem RepL.atI {K : Frag} {B H : Hp} {α : List Addr} {ds : List D} {vs : List V} {f : List Addr} {i : Int} {d : D} (r : RepL K B H α ds vs f) (h : atx ds i = some d) : ∃ v g, L2.atI vs i = some v ∧ Rep K B H α d v g ∧ ∀ a ∈ g, a ∈ f := by
  unfold atx at h
  cases e : ixn ds.length i with
  | none => rw [e] at h; cases h
  | some j =>
    rw [e] at h
    obtain ⟨v, g, h1, h2, h3⟩ := r.get (show ds[j]? = some d from h)
    refine ⟨v, g, ?_, h2, h3⟩
    unfold L2.atI
    rw [← r.length, ← ixn_eq, e]
    exact h1
theorem RepL.getN {K : Frag} {B H : Hp} {α : List Addr} : ∀ {ds : List D} {vs : List V} {f : List Addr} {i : Nat} {d : D}, RepL K B H α ds vs f → f.Nodup → ds[i]? = some d → ∃ v g, vs[i]? = some v ∧ Rep K B H α d v g ∧ g.Nodup ∧ ∀ a ∈ g, a ∈ f
  | [], _, _, _, _, _, _, e => by cases e
  | x :: xs, vs, f, i, d, r, n, e => by
    obtain ⟨u, ur, f1, f2, rfl, r1, r2, rfl⟩ := r
    have nd := List.nodup_append.mp n
    cases i with
    | zero => cases e; exact ⟨u, f1, rfl, r1, nd.1, fun a m => List.mem_append_left _ m⟩
    | succ i =>
      obtain ⟨v, g, h1, h2, h3, h4⟩ := RepL.getN r2 nd.2.1 (show xs[i]? = some d from e)
      exact ⟨v, g, h1, h2, h3, fun a m => List.mem_append_right _ (h4 a m)⟩
theorem RepL.atN {K : Frag} {B H : Hp} {α : List Addr} {ds : List D} {vs : List V} {f : List Addr} {i : Int} {d : D} (r : RepL K B H α ds vs f) (n : f.Nodup) (h : atx ds i = some d) : ∃ v g, L2.atI vs i = some v ∧ Rep K B H α d v g ∧ g.Nodup ∧ ∀ a ∈ g, a ∈ f := by
  unfold atx at h
  cases e : ixn ds.length i with
  | none => rw [e] at h; cases h
  | some j =>
    rw [e] at h
    obtain ⟨v, g, h1, h2, h3⟩ := r.getN n (show ds[j]? = some d from h)
    refine ⟨v, g, ?_, h2, h3⟩
    unfold L2.atI
    rw [← r.length, ← ixn_eq, e]
    exact h1
theorem Rep.lstAny {K : Frag} {B H : Hp} {α : List Addr} {o : Bool} {xs : List D} {v : V} {f : List Addr} (r : Rep K B H α (.lst o xs) v f) (le : HLe B H) : ∃ a vs g, v = .ref a ∧ H a = some (.lst vs) ∧ RepL K B H α xs vs g ∧ (f.Nodup → g.Nodup) ∧ ∀ a ∈ g, a ∈ f := by
  cases o with
  | false =>
    obtain ⟨a, vs, rfl, h, r, rfl⟩ := r
    exact ⟨a, vs, [], rfl, le _ _ h, r, fun h => h, fun _ h => h⟩
  | true =>
    obtain ⟨a, vs, g, rfl, h, r, rfl⟩ := r
    exact ⟨a, vs, g, rfl, h, r, fun h => (List.nodup_cons.mp h).2, fun b m => List.mem_cons_of_mem _ m⟩
/-- an item moved out of what nobody else holds -/
theorem sE_idxM (hK : X.K = c.K) (ha : PE X a (TE_ c ia)) (hb : PE X b (TR_ c ib)) (hs : PlainIx b) : PE X (.Subscript a b pos) (TE_ c (.idxM ia ib)) := PE.imp (pe_ix ix_seq ha hb hs) fun σ H Q => by
  rintro ⟨B, φ, α, env, st, Kk, Xk, W, w, p, x⟩
  rw [hK]
  refine ⟨B, φ, α, env, st, _, Xk, W, w, fun dx e1 s1 k vx B1 H1 φ1 α1 fx W1 s1' t => ?_, x⟩
  have sw := s1'.weak (q2 := false) fun h => nomatch h
  refine ⟨B1, φ1, α1, e1, s1, _, Xk, W1, k, fun dy e2 s2 k vy B2 H2 φ2 α2 fy W2 s2' r' _ => ?_, x.step sw⟩
  have st2 := (sw.trans (s2'.weak (q2 := false) fun h => nomatch h)).weak (q2 := false) fun h => nomatch h
  have t2 := t.step s1' s2'
  have fin : ∀ {z : D} {v : V} {g : List Addr}, Kk z e2 s2 → Rep c.K B2 H2 α2 z v g → g.Nodup → (∀ a ∈ g, a ∈ fx) → Q v H2 := fun {z v g} k r n m =>
    p z e2 s2 k v B2 H2 φ2 α2 g W2 st2 ⟨r, n, fun a h => t2.out a (m a h), fun a h w => t2.free a (m a h) w, fun a h => t2.new a (m a h)⟩
  have r := t2.rep
  have nd := t2.nd
  have k : idxW dx dy fun z => Kk z e2 s2 := k
  unfold idxW at k
  split at k
  · obtain ⟨rfl, _⟩ := r'
    obtain ⟨z, e, k⟩ := onV_inv k
    obtain ⟨a, vs, g, rfl, h, r, hn, hg⟩ := r.lstAny W2.le
    obtain ⟨v, g', h1, h2, h3, h4⟩ := r.atN (hn nd) e
    exact .inl ⟨a, vs, _, v, rfl, rfl, .of h, h1, fin k h2 h3 fun b m => hg b (h4 b m)⟩
  · obtain ⟨rfl, _⟩ := r'
    obtain ⟨z, e, k⟩ := onV_inv k
    obtain ⟨a, vs, rfl, h, r, rfl⟩ := r
    obtain ⟨v, g', h1, h2, h3, h4⟩ := r.atN List.nodup_nil e
    exact .inl ⟨a, vs, _, v, rfl, rfl, SqL.le W2.le h, h1, fin k h2 h3 h4⟩
  · obtain ⟨rfl, _⟩ := r'
    obtain ⟨z, e, k⟩ := onV_inv k
    obtain ⟨a, vs, rfl, h, r⟩ := r
    obtain ⟨v, g', h1, h2, h3, h4⟩ := r.atN nd e
    exact .inr (.inl ⟨a, vs, _, v, rfl, rfl, SqT.le W2.le h.sq, h1, fin k h2 h3 h4⟩)
  · obtain ⟨rfl, _⟩ := r'
    obtain ⟨hl, k⟩ := k
    obtain ⟨z, e, k⟩ := natW_inv k
    obtain ⟨rfl, _⟩ := r
    exact .inr (.inr ⟨_, _, z, rfl, rfl, by rw [tx_len]; exact hl, by rw [← atx_eq]; simpa using e, fin (z := .str [z]) (g := []) k ⟨by simp, rfl⟩ List.nodup_nil fun _ m => nomatch m⟩)
  · exact k.elim
theorem sE_idx (hK : X.K = c.K) (ha : PE X a (TR_ c ia)) (hb : PE X b (TR_ c ib)) (hs : PlainIx b) : PE X (.Subscript a b pos) (TE_ c (.idx ia ib)) := PE.imp (pe_ix ix_seq ha hb hs) fun σ H Q => by
  rintro ⟨B, φ, α, env, st, Kk, Xk, W, w, p, x⟩
  rw [hK]
  refine two_read (X := X) (qq := false) (fun h => nomatch h) W w x fun dx dy e2 s2 k vx vy B2 H2 φ2 α2 fx fy W2 s r r' => ?_
  have fin : ∀ {z : D} {v : V} {g : List Addr}, nf z = true → Kk z e2 s2 → Rep c.K B2 H2 α2 z v g → Q v H2 := fun {z v g} n k r => by
    have := Rep.nf z v g n r
    subst this
    exact p z e2 s2 k v B2 H2 φ2 α2 [] W2 s (Tmp.of_nil r)
  unfold idxW at k
  split at k
  · obtain ⟨rfl, _⟩ := r'
    obtain ⟨z, e, n, k⟩ := onV_inv k
    obtain ⟨a, vs, g, rfl, h, r, _⟩ := r.lst' (c := c) W2.le
    obtain ⟨v, g', h1, h2, _⟩ := r.atI e
    exact .inl ⟨a, vs, _, v, rfl, rfl, .of h, h1, fin n k h2⟩
  · obtain ⟨rfl, _⟩ := r'
    obtain ⟨z, e, n, k⟩ := onV_inv k
    obtain ⟨a, vs, rfl, h, r, _⟩ := r.kst' (c := c) W2.le
    obtain ⟨v, g', h1, h2, _⟩ := r.atI e
    exact .inl ⟨a, vs, _, v, rfl, rfl, h, h1, fin n k h2⟩
  · obtain ⟨rfl, _⟩ := r'
    obtain ⟨z, e, n, k⟩ := onV_inv k
    obtain ⟨a, vs, rfl, h, r, _⟩ := r.tup' (c := c) W2.le
    obtain ⟨v, g', h1, h2, _⟩ := r.atI e
    exact .inr (.inl ⟨a, vs, _, v, rfl, rfl, h, h1, fin n k h2⟩)
  · obtain ⟨rfl, _⟩ := r'
    obtain ⟨hl, k⟩ := k
    obtain ⟨z, e, n, k⟩ := natW_inv k
    obtain ⟨rfl, _⟩ := r
    exact .inr (.inr ⟨_, _, z, rfl, rfl, by rw [tx_len]; exact hl, by rw [← atx_eq]; simpa using e, fin (z := .str [z]) (g := []) n k ⟨by simp, rfl⟩⟩)
  · exact k.elim
def TL_ (c : Cg) (a : IE) : TE := fun σ H Q => ∃ B φ α env st k, Wd c.K B H σ α φ env st ∧ rdV a env st k ∧ ∀ z v f, k z → Rep c.K B H α z v f → Q v H
def TQ_ (c : Cg) (i : IE) : TE := fun σ H Q => ∃ B φ α env st k, Wd c.K B H σ α φ env st ∧ qv i env k ∧ ∀ n, k n → Q (.int n) H
theorem sL_var {e : Expr} {i : Nat} (h : PE X e (tVar i)) : PE X e (TL_ c (.var i)) := PE.imp h fun σ H Q => by
  rintro ⟨B, φ, α, env, st, k, W, w, p⟩
  obtain ⟨d, e1, w⟩ := getV_some w
  obtain ⟨v, hv, r⟩ := W.slot i d e1
  obtain ⟨g, r2⟩ := deref_rep W r
  exact ⟨v, hv, p _ _ _ w r2⟩
theorem sQ_con {e : Expr} {n : Int} (h : PE X e (tC (.int n))) : PE X e (TQ_ c (.con (.int n))) := PE.imp h fun σ H Q => by
  rintro ⟨B, φ, α, env, st, k, W, w, p⟩
  exact p _ w
theorem sQ_neg {e : Expr} {n : Int} {pos : Pos} (h : PE X e (tC (.int n))) : PE X (.UnaryOp .USub e pos) (TQ_ c (.con (.int (-n)))) := PE.imp (pe_un un_neg h) fun σ H Q => by
  rintro ⟨B, φ, α, env, st, k, W, w, p⟩
  exact ⟨_, rfl, p _ w⟩
theorem var_int {σ : LSt} {H B : Hp} {φ : Fp} {α : List Addr} {env : Env} {st : Stt} {j : Nat} {k : Int → Prop} (W : Wd c.K B H σ α φ env st) (w : onV (getV env j) fun x => intW x k) : ∃ i, σ[j]? = some (some (.int i)) ∧ k i := by
  obtain ⟨d, e1, w⟩ := getV_some w
  obtain ⟨v, hv, r⟩ := W.slot j d e1
  obtain ⟨i, rfl, w⟩ := intW_inv w
  obtain ⟨rfl, _⟩ := r
  exact ⟨i, hv, w⟩
theorem sQ_var {e : Expr} {j : Nat} (h : PE X e (tVar j)) : PE X e (TQ_ c (.var j)) := PE.imp h fun σ H Q => by
  rintro ⟨B, φ, α, env, st, k, W, w, p⟩
  obtain ⟨i, h1, w⟩ := var_int W w
  exact ⟨_, h1, p _ w⟩
theorem sQ_add {j : Nat} {n : Int} (ha : PE X a (tVar j)) (hb : PE X b (tC (.int n))) : PE X (.BinOp a .Add b pos) (TQ_ c (.op .add (.var j) (.con (.int n)))) := PE.imp (pe_op (or_of .add) ha hb) fun σ H Q => by
  rintro ⟨B, φ, α, env, st, k, W, w, p⟩
  obtain ⟨i, h1, w⟩ := var_int W w
  exact ⟨_, h1, .inl ⟨_, _, rfl, rfl, p _ w⟩⟩
theorem sQ_sub {j : Nat} {n : Int} (ha : PE X a (tVar j)) (hb : PE X b (tC (.int n))) : PE X (.BinOp a .Sub b pos) (TQ_ c (.op .sub (.var j) (.con (.int n)))) := PE.imp (pe_op (or_of .sub) ha hb) fun σ H Q => by
  rintro ⟨B, φ, α, env, st, k, W, w, p⟩
  obtain ⟨i, h1, w⟩ := var_int W w
  exact ⟨_, h1, ⟨_, _, rfl, rfl, p _ w⟩⟩
theorem look_ix {σ : LSt} {H B : Hp} {φ : Fp} {α : List Addr} {env : Env} {st : Stt} {Q : VK} {dx : D} {vx : V} {fx : List Addr} {n : Int} {k : D → Prop} (W : Wd c.K B H σ α φ env st) (r : Rep c.K B H α dx vx fx) (k1 : idxW dx (.int n) k) (p : ∀ z v f, k z → Rep c.K B H α z v f → Q v H) :
    rIx c.K vx (.int n) H Q := by
  unfold idxW at k1
  split at k1
  · rename_i e; cases e
    obtain ⟨z, e, k⟩ := onV_inv k1
    obtain ⟨a, vs, g, rfl, h, r, _⟩ := r.lst' (c := c) W.le
    obtain ⟨v, g', h1, h2, _⟩ := r.atI e
    exact .inl ⟨a, vs, _, v, rfl, rfl, .of h, h1, p _ _ _ k h2⟩
  · rename_i e; cases e
    obtain ⟨z, e, k⟩ := onV_inv k1
    obtain ⟨a, vs, rfl, h, r, _⟩ := r.kst' (c := c) W.le
    obtain ⟨v, g', h1, h2, _⟩ := r.atI e
    exact .inl ⟨a, vs, _, v, rfl, rfl, h, h1, p _ _ _ k h2⟩
  · rename_i e; cases e
    obtain ⟨z, e, k⟩ := onV_inv k1
    obtain ⟨a, vs, rfl, h, r, _⟩ := r.tup' (c := c) W.le
    obtain ⟨v, g', h1, h2, _⟩ := r.atI e
    exact .inr (.inl ⟨a, vs, _, v, rfl, rfl, h, h1, p _ _ _ k h2⟩)
  · rename_i e; cases e
    obtain ⟨hl, k⟩ := k1
    obtain ⟨z, e, k⟩ := natW_inv k
    obtain ⟨rfl, _⟩ := r
    exact .inr (.inr ⟨_, _, z, rfl, rfl, by rw [tx_len]; exact hl, by rw [← atx_eq]; simpa using e, p (.str [z]) _ [] k ⟨by simp, rfl⟩⟩)
  · exact k1.elim
theorem sQ_idx {j : Nat} {n : Int} (hK : X.K = c.K) (ha : PE X a (tVar j)) (hb : PE X b (tC (.int n))) (hs : PlainIx b) : PE X (.Subscript a b pos) (TQ_ c (.idx (.var j) (.con (.int n)))) := PE.imp (pe_ix ix_seq ha hb hs) fun σ H Q => by
  rintro ⟨B, φ, α, env, st, k, W, w, p⟩
  rw [hK]
  obtain ⟨d, e1, w⟩ := getV_some w
  obtain ⟨v, hv, r⟩ := W.slot j d e1
  refine ⟨v, hv, look_ix W r w fun z v f k r => ?_⟩
  obtain ⟨i, rfl, k⟩ := intW_inv k
  obtain ⟨rfl, _⟩ := r
  exact p _ k
theorem sL_vw (hK : X.K = c.K) (ha : PE X a (TL_ c ia)) (hb : PE X b (TQ_ c ib)) (hs : PlainIx b) : PE X (.Subscript a b pos) (TL_ c (.vw ia ib)) := PE.imp (pe_ix ix_seq ha hb hs) fun σ H Q => by
  rintro ⟨B, φ, α, env, st, k, W, w, p⟩
  rw [hK]
  exact ⟨B, φ, α, env, st, _, W, w, fun x vx fx w r => ⟨B, φ, α, env, st, _, W, w, fun n w => look_ix W r w p⟩⟩
theorem sR_vw {e : Expr} (h : PE X e (TL_ c (.vw ia ib))) : PE X e (TR_ c (.vw ia ib)) := PE.imp h fun σ H Q => by
  rintro ⟨B, φ, α, env, st, Kk, Xk, W, w, p, x⟩
  exact ⟨B, φ, α, env, st, _, W, w, fun z v f k r => p z env st k v B H φ α f W (Stp.refl.weak fun _ => rfl) r fun h => nomatch h⟩
theorem sE_vw {e : Expr} (h : PE X e (TL_ c (.vw ia ib))) : PE X e (TE_ c (.vw ia ib)) := PE.imp h fun σ H Q => by
  rintro ⟨B, φ, α, env, st, Kk, Xk, W, w, p, x⟩
  refine ⟨B, φ, α, env, st, _, W, w, fun z v f ⟨n, k⟩ r => ?_⟩
  have := Rep.nf z v f n r
  subst this
  exact p z env st k v B H φ α [] W (Stp.refl.weak fun _ => rfl) (Tmp.of_nil r)
theorem SE.vw {e : Expr} (hK : X.K = c.K) (he : PlainT X e) (h : PE X e (TL_ c (.vw ia ib))) : SE X c e (.vw ia ib) :=
  ⟨sE_vw h, sR_vw h, sV_of hK he (sE_vw h), sT_of hK he (sR_vw h)⟩
theorem cut_eq {α : Type} (xs : List α) (lo hi : Option Int) : cut xs lo hi = (xs.drop (HT.sIx xs.length 0 lo)).take (HT.sIx xs.length xs.length hi - HT.sIx xs.length 0 lo) := by
  have h : ∀ n d o, sIx n d o = HT.sIx n d o := fun n d o => by cases o <;> rfl
  unfold cut
  rw [h, h]
theorem cut_whole {α : Type} {xs : List α} {n : Nat} {lo hi : Option Int} (l : xs.length = n) (c1 : HT.sIx n 0 lo = 0) (c2 : HT.sIx n n hi = n) : cut xs lo hi = xs := by
  rw [cut_eq, l, c1, c2, List.drop_zero, Nat.sub_zero, ← l, List.take_length]
theorem RepL.drop {K : Frag} {B H : Hp} {α : List Addr} : ∀ (n : Nat) {ds : List D} {vs : List V}, RepL K B H α ds vs [] → RepL K B H α (ds.drop n) (vs.drop n) [] := fun n ds vs r => by
  obtain ⟨l, h⟩ := RepL.all.mp r
  exact RepL.all.mpr ⟨by rw [List.length_drop, List.length_drop, l], fun i d v h1 h2 => h (n + i) d v (by rw [List.getElem?_drop] at h1; exact h1) (by rw [List.getElem?_drop] at h2; exact h2)⟩
theorem RepL.take {K : Frag} {B H : Hp} {α : List Addr} (n : Nat) {ds : List D} {vs : List V} (r : RepL K B H α ds vs []) : RepL K B H α (ds.take n) (vs.take n) [] := by
  obtain ⟨l, h⟩ := RepL.all.mp r
  refine RepL.all.mpr ⟨by rw [List.length_take, List.length_take, l], fun i d v h1 h2 => ?_⟩
  rw [List.getElem?_take] at h1 h2
  split at h1
  · rename_i hi
    rw [if_pos hi] at h2
    exact h i d v h1 h2
  · cases h1
theorem RepL.cut {K : Frag} {B H : Hp} {α : List Addr} {ds : List D} {vs : List V} (lo hi : Option Int) (r : RepL K B H α ds vs []) : RepL K B H α (Ev.cut ds lo hi) (cutV vs lo hi) [] := by
  rw [cut_eq, r.length]
  exact RepL.take _ (RepL.drop _ r)
theorem RepL.reverse {K : Frag} {B H : Hp} {α : List Addr} {ds : List D} {vs : List V} (r : RepL K B H α ds vs []) : RepL K B H α ds.reverse vs.reverse [] := by
  obtain ⟨l, h⟩ := RepL.all.mp r
  refine RepL.all.mpr ⟨by rw [List.length_reverse, List.length_reverse, l], fun i d v h1 h2 => ?_⟩
  have hi : i < ds.length := by
    have := (List.getElem?_eq_some_iff.mp h1).1
    rw [List.length_reverse] at this; exact this
  rw [List.getElem?_reverse hi] at h1
  rw [List.getElem?_reverse (by rw [← l]; exact hi), ← l] at h2
  exact h _ d v h1 h2
theorem sE_rev {k : Nat} {p1 p2 p3 : Pos} (hK : X.K = c.K) (ha : PE X a (TR_ c ia)) : PE X (.Subscript a (.Slice none none (some (.UnaryOp .USub (.Constant (.int 1) k p1) p2)) p3) pos) (TE_ c (.rev ia)) := PE.imp (pe_revL ha) fun σ H Q => by
  rintro ⟨B, φ, α, env, st, Kk, Xk, W, w, p, x⟩
  refine ⟨B, φ, α, env, st, _, Xk, W, w, fun d e1 s1 k v B1 H1 φ1 α1 f W1 s r _ => ?_, x⟩
  rw [hK]
  have out := OutOk.of (e2 := e1) (s2 := s1) (s.weak (q2 := false) fun h => nomatch h) p
  cases d with
  | lst o xs =>
    obtain ⟨n, k⟩ := k
    obtain ⟨a, vs, g, rfl, h, r, z⟩ := r.lst' (c := c) W1.le
    rw [z n] at r
    exact ⟨a, vs, rfl, .of h, fun q hq => out.newL W1 k r.reverse hq⟩
  | _ => exact k.elim
theorem slcL_inv {xs : List D} {l h : Option (Option Int)} {K : List D → Prop} (w : slcL xs l h K) : ∃ i j, l = some i ∧ h = some j ∧ nfL xs = true ∧ K (cut xs i j) := by
  unfold slcL at w
  split at w
  · exact ⟨_, _, rfl, rfl, w⟩
  · exact w.elim
theorem slcS_inv {xs : Tx} {l h : Option (Option Int)} {K : Tx → Prop} (w : slcS xs l h K) : ∃ i j, l = some i ∧ h = some j ∧ xs.length ≤ Lim ∧ K (cut xs i j) := by
  unfold slcS at w
  split at w
  · exact ⟨_, _, rfl, rfl, w⟩
  · exact w.elim
theorem oInt_inv {o : Option D} {r : Option Int} (h : oInt o = some r) : (o = none ∧ r = none) ∨ ∃ i, o = some (.int i) ∧ r = some i := by
  unfold oInt at h
  split at h
  · exact .inl ⟨rfl, (Option.some.inj h).symm⟩
  · exact .inr ⟨_, rfl, (Option.some.inj h).symm⟩
  · cases h
/-- a slice's end -/
def TO_ (c : Cg) (ie : Option IE) : L2.TO := fun σ H Q => ∃ B φ α env st, ∃ (Kk : Option D → Env → Stt → Prop) (Xk : KX), Wd c.K B H σ α φ env st ∧ wO c.F ie env st (fun d e s => (oInt d).isSome = true ∧ Kk d e s) Xk ∧
  (∀ d env' st', Kk d env' st' → ∀ r, oInt d = some r → ∀ B' H' φ' α', Wd c.K B' H' σ α' φ' env' st' → Stp (quietO ie) B H φ α B' H' φ' α' → Q r H') ∧ PostX c σ B H φ α Xk
theorem PO.imp {X : Cx} {e : Option Expr} {t t' : L2.TO} (h : PO X e t) (i : ∀ σ H Q, t' σ H Q → t σ H Q) : PO X e t' := ⟨fun pins s σ H Q I w => h.run pins s σ H Q I (i σ H Q w)⟩
theorem sO_none : PO X none (TO_ c none) := PO.imp po_none fun σ H Q => by
  rintro ⟨B, φ, α, env, st, Kk, Xk, W, w, p, _⟩
  exact p none env st w.2 none rfl B H φ α W Stp.refl
theorem sO_some (h : PE X e (TR_ c ie)) : PO X (some e) (TO_ c (some ie)) := PO.imp (po_some h) fun σ H Q => by
  rintro ⟨B, φ, α, env, st, Kk, Xk, W, w, p, x⟩
  refine ⟨B, φ, α, env, st, _, Xk, W, w, fun d env' st' ⟨z, k⟩ v B' H' φ' α' f W' s r _ => ?_, x⟩
  cases d with
  | int n => rw [r.1]; exact ⟨n, rfl, p _ env' st' k _ rfl B' H' φ' α' W' s⟩
  | _ => cases z
def rSlc (K : Frag) : V → Option Int → Option Int → Hp → VK → Prop := fun x lo hi H Q => rSlL K x lo hi H Q ∨ rSlA K x lo hi H Q ∨ rSlS x lo hi H Q
theorem sl_any {X : Cx} : SlR X (rSlc X.K) := SlR.or sl_list (SlR.or sl_tupA sl_str)
theorem cut_str (z : Tx) (lo hi : Option Int) : cutS ⟨z.toArray⟩ lo hi = ⟨(cut z lo hi).toArray⟩ := by
  have h : (⟨z.toArray⟩ : Str).length = z.length := tx_len z
  unfold cutS
  rw [cut_eq, h]
theorem sE_slc {lo hi : Option Expr} {il ih : Option IE} {p2 : Pos} (hK : X.K = c.K) (ha : PE X a (TR_ c ia)) (hl : PO X lo (TO_ c il)) (hh : PO X hi (TO_ c ih)) : PE X (.Subscript a (.Slice lo hi none p2) pos) (TE_ c (.slc ia il ih)) := PE.imp (pe_slice sl_any ha hl hh) fun σ H Q => by
  rintro ⟨B, φ, α, env, st, Kk, Xk, W, w, p, x⟩
  rw [hK]
  obtain ⟨env0, B0, φ0, w, W0, t0⟩ := shW_read W w
  refine ⟨B0, φ0, α, env0, st, _, Xk, W0, w, fun dx e1 s1 ⟨hs, k⟩ vx B1 H1 φ1 α1 fx W1 t1 r1 hv => ?_, x.step t0⟩
  refine ⟨B1, φ1, α1, e1, s1, _, Xk, W1, k, fun l e2 s2 k2 rl hrl B2 H2 φ2 α2 W2 t2 => ?_, (x.step t0).step t1⟩
  refine ⟨B2, φ2, α2, e2, s2, _, Xk, W2, k2, fun h e3 s3 k3 rh hrh B3 H3 φ3 α3 W3 t3 => ?_, ((x.step t0).step t1).step t2⟩
  have t23 := t2.trans t3
  have t13 := (t0.trans (t1.trans t23)).weak (q2 := false) fun h => nomatch h
  -- the thing read first still lies as it did
  have r3 : ∃ f, Rep c.K B3 H3 α3 dx vx f := by
    unfold stays at hs
    cases hva : isVar ia with
    | false =>
      rw [hv hva] at r1
      exact ⟨[], Rep.ext t23.mono t23.pre dx vx [] (fun _ m => nomatch m) r1⟩
    | true =>
      rw [hva] at hs
      rcases Bool.or_eq_true_iff.mp hs with hs | hs
      · rw [Bool.not_true, Bool.false_or] at hs
        have := Rep.nf dx vx fx hs r1
        subst this
        exact ⟨[], Rep.ext t23.mono t23.pre dx vx [] (fun _ m => nomatch m) r1⟩
      · exact ⟨fx, Rep.ext t23.mono t23.pre dx vx fx (fun a _ o e => t23.same hs a o e) r1⟩
  obtain ⟨f3, r3⟩ := r3
  have out := OutOk.of (e2 := e3) (s2 := s3) t13 p
  unfold slcW at k3
  split at k3
  · obtain ⟨i, j, e1, e2, n, k⟩ := slcL_inv k3
    rw [e1] at hrl; cases hrl
    rw [e2] at hrh; cases hrh
    obtain ⟨a, vs, g, rfl, h, r, z⟩ := r3.lst' (c := c) W3.le
    rw [z n] at r
    exact .inl ⟨a, vs, rfl, .of h, fun q hq => out.newL W3 k (r.cut _ _) hq⟩
  · obtain ⟨i, j, e1, e2, n, k⟩ := slcL_inv k3
    rw [e1] at hrl; cases hrl
    rw [e2] at hrh; cases hrh
    obtain ⟨a, vs, rfl, h, r, _⟩ := r3.kst' (c := c) W3.le
    exact .inl ⟨a, vs, rfl, h, fun q hq => out.newL W3 k (r.cut _ _) hq⟩
  · obtain ⟨i, j, e1, e2, n, k⟩ := slcL_inv k3
    rw [e1] at hrl; cases hrl
    rw [e2] at hrh; cases hrh
    obtain ⟨a0, vs0, e0, h0, r0⟩ := r3
    obtain ⟨a, vs, rfl, h, r, z⟩ := Rep.tup' (c := c) ⟨a0, vs0, e0, h0, r0⟩ W3.le
    obtain rfl := z n
    refine .inr (.inl ⟨a, vs, rfl, h, fun ⟨c1, c2⟩ => ?_, fun _ q hq => out.newT W3 k (r.cut _ _) hq⟩)
    rw [cut_whole r.length c1 c2] at k
    exact out.flat W3 k ⟨a0, vs0, e0, h0, r0⟩
  · obtain ⟨i, j, e1, e2, n, k⟩ := slcS_inv k3
    rw [e1] at hrl; cases hrl
    rw [e2] at hrh; cases hrh
    obtain ⟨rfl, _⟩ := r3
    refine .inr (.inr ⟨_, rfl, by rw [tx_len]; exact n, ?_⟩)
    rw [cut_str]
    exact out.flat W3 k ⟨rfl, rfl⟩
  · exact k3.elim
end
end Ev

namespace Ev
open PySem PySem.Spec PyProof.Rows L2
theorem digits_str (i : Int) : (toString i : Str) = ⟨(digits i).toArray⟩ := by
  show Str.ofString (toString i) = _
  have := cpsOfBytes_string (toString i)
  unfold Str.ofString digits
  rw [this]
theorem shown_len (d : D) : (shown d).length = (py d).shown.length := Array.length_toList
theorem bools_map : ∀ {xs : List D} {bs : List Bool}, bools xs = some bs → xs = bs.map D.bl
  | [], bs, h => by cases h; rfl
  | .bl b :: r, bs, h => by
    unfold bools at h
    cases e : bools r with
    | none => rw [e] at h; cases h
    | some cs =>
      rw [e] at h
      cases h
      rw [List.map_cons, bools_map e]
  | .non :: r, bs, h => by cases h
  | .int _ :: r, bs, h => by cases h
  | .str _ :: r, bs, h => by cases h
  | .tup _ :: r, bs, h => by cases h
  | .lst _ _ :: r, bs, h => by cases h
  | .dic _ _ _ :: r, bs, h => by cases h
  | .kst _ :: r, bs, h => by cases h
  | .ptr _ :: r, bs, h => by cases h
  | .fn _ :: r, bs, h => by cases h
  | .ins _ _ :: r, bs, h => by cases h
  | .exc _ _ :: r, bs, h => by cases h
theorem RepL.bls {K : Frag} {B H : Hp} {α : List Addr} : ∀ (bs : List Bool) {vs : List V} {f : List Addr}, RepL K B H α (bs.map D.bl) vs f → vs = bs.map V.bl
  | [], _, _, r => r.1
  | b :: bs, _, _, r => by
    obtain ⟨v, vr, g, h, rfl, r1, r2, _⟩ := r
    rw [r1.1, RepL.bls bs r2]; rfl
theorem RepL.chars {K : Frag} {B H : Hp} {α : List Addr} : ∀ (z : Tx), RepL K B H α (z.map fun c => .str [c]) (z.map fun c => V.str ⟨#[c]⟩) []
  | [] => ⟨rfl, rfl⟩
  | c :: z => ⟨_, _, [], [], rfl, ⟨rfl, rfl⟩, RepL.chars z, rfl⟩
theorem nsW_inv {x : Option (List Int)} {K : List Int → Prop} (h : nsW x K) : ∃ i, x = some i ∧ K i := by
  unfold nsW at h
  split at h
  · exact ⟨_, rfl, h⟩
  · exact h.elim
theorem ssW_inv {x : Option (List Tx)} {K : List Tx → Prop} (h : ssW x K) : ∃ i, x = some i ∧ K i := by
  unfold ssW at h
  split at h
  · exact ⟨_, rfl, h⟩
  · exact h.elim
theorem nums_map : ∀ {xs : List D} {bs : List Int}, numsOf xs = some bs → xs = bs.map D.int
  | [], bs, h => by cases h; rfl
  | .int b :: r, bs, h => by
    unfold numsOf at h
    obtain ⟨cs, e, rfl⟩ := Option.map_eq_some_iff.mp h
    rw [List.map_cons, nums_map e]
  | .non :: r, bs, h => by cases h
  | .bl _ :: r, bs, h => by cases h
  | .str _ :: r, bs, h => by cases h
  | .tup _ :: r, bs, h => by cases h
  | .lst _ _ :: r, bs, h => by cases h
  | .dic _ _ _ :: r, bs, h => by cases h
  | .kst _ :: r, bs, h => by cases h
  | .ptr _ :: r, bs, h => by cases h
  | .fn _ :: r, bs, h => by cases h
  | .ins _ _ :: r, bs, h => by cases h
  | .exc _ _ :: r, bs, h => by cases h
theorem strs_map : ∀ {xs : List D} {bs : List Tx}, strsOf xs = some bs → xs = bs.map D.str
  | [], bs, h => by cases h; rfl
  | .str b :: r, bs, h => by
    unfold strsOf at h
    obtain ⟨cs, e, rfl⟩ := Option.map_eq_some_iff.mp h
    rw [List.map_cons, strs_map e]
  | .non :: r, bs, h => by cases h
  | .bl _ :: r, bs, h => by cases h
  | .int _ :: r, bs, h => by cases h
  | .tup _ :: r, bs, h => by cases h
  | .lst _ _ :: r, bs, h => by cases h
  | .dic _ _ _ :: r, bs, h => by cases h
  | .kst _ :: r, bs, h => by cases h
  | .ptr _ :: r, bs, h => by cases h
  | .fn _ :: r, bs, h => by cases h
  | .ins _ _ :: r, bs, h => by cases h
  | .exc _ _ :: r, bs, h => by cases h
theorem RepL.ints {K : Frag} {B H : Hp} {α : List Addr} : ∀ (bs : List Int) {vs : List V} {f : List Addr}, RepL K B H α (bs.map D.int) vs f → vs = bs.map V.int
  | [], _, _, r => r.1
  | b :: bs, _, _, r => by
    obtain ⟨v, vr, g, h, rfl, r1, r2, _⟩ := r
    rw [r1.1, RepL.ints bs r2]; rfl
theorem RepL.strs {K : Frag} {B H : Hp} {α : List Addr} : ∀ (bs : List Tx) {vs : List V} {f : List Addr}, RepL K B H α (bs.map D.str) vs f → vs = bs.map fun z => V.str ⟨z.toArray⟩
  | [], _, _, r => r.1
  | b :: bs, _, _, r => by
    obtain ⟨v, vr, g, h, rfl, r1, r2, _⟩ := r
    rw [r1.1, RepL.strs bs r2]; rfl
theorem ints_repL {K : Frag} {B H : Hp} {α : List Addr} : ∀ ns : List Int, RepL K B H α (ns.map D.int) (ns.map V.int) []
  | [] => ⟨rfl, rfl⟩
  | n :: r => ⟨_, _, [], [], rfl, ⟨rfl, rfl⟩, ints_repL r, rfl⟩
theorem strs_repL {K : Frag} {B H : Hp} {α : List Addr} : ∀ ns : List Tx, RepL K B H α (ns.map D.str) (ns.map fun z => V.str ⟨z.toArray⟩) []
  | [] => ⟨rfl, rfl⟩
  | n :: r => ⟨_, _, [], [], rfl, ⟨rfl, rfl⟩, strs_repL r, rfl⟩
theorem maxI_le (a b : Int) : a ≤ maxI a b ∧ b ≤ maxI a b ∧ (maxI a b = a ∨ maxI a b = b) := by unfold maxI; split <;> omega
theorem minI_le (a b : Int) : minI a b ≤ a ∧ minI a b ≤ b ∧ (minI a b = a ∨ minI a b = b) := by unfold minI; split <;> omega
theorem fold_max : ∀ (r : List Int) (n : Int), r.foldl maxI n ∈ n :: r ∧ ∀ y ∈ n :: r, y ≤ r.foldl maxI n
  | [], n => ⟨by simp, fun y h => by simp at h; subst h; exact Int.le_refl _⟩
  | a :: r, n => by
    obtain ⟨h1, h2⟩ := fold_max r (maxI n a)
    obtain ⟨m1, m2, m3⟩ := maxI_le n a
    rw [List.foldl_cons]
    refine ⟨?_, fun y hy => ?_⟩
    · rcases List.mem_cons.mp h1 with e | m
      · rcases m3 with z | z <;> rw [e, z] <;> simp
      · exact List.mem_cons_of_mem _ (List.mem_cons_of_mem _ m)
    · have h3 := h2 _ List.mem_cons_self
      rcases List.mem_cons.mp hy with rfl | hy
      · omega
      · rcases List.mem_cons.mp hy with rfl | hy
        · omega
        · exact h2 y (List.mem_cons_of_mem _ hy)
theorem fold_min : ∀ (r : List Int) (n : Int), r.foldl minI n ∈ n :: r ∧ ∀ y ∈ n :: r, r.foldl minI n ≤ y
  | [], n => ⟨by simp, fun y h => by simp at h; subst h; exact Int.le_refl _⟩
  | a :: r, n => by
    obtain ⟨h1, h2⟩ := fold_min r (minI n a)
    obtain ⟨m1, m2, m3⟩ := minI_le n a
    rw [List.foldl_cons]
    refine ⟨?_, fun y hy => ?_⟩
    · rcases List.mem_cons.mp h1 with e | m
      · rcases m3 with z | z <;> rw [e, z] <;> simp
      · exact List.mem_cons_of_mem _ (List.mem_cons_of_mem _ m)
    · have h3 := h2 _ List.mem_cons_self
      rcases List.mem_cons.mp hy with rfl | hy
      · omega
      · rcases List.mem_cons.mp hy with rfl | hy
        · omega
        · exact h2 y (List.mem_cons_of_mem _ hy)
theorem max_is {ns : List Int} {m : Int} (h0 : 0 < ns.length) (hm : m ∈ ns) (ha : ∀ y ∈ ns, y ≤ m) : m = ns.tail.foldl maxI (ns.headD 0) := by
  match ns, h0 with
  | n :: r, _ =>
    obtain ⟨h1, h2⟩ := fold_max r n
    have a1 := ha _ h1
    have a2 := h2 _ hm
    exact Int.le_antisymm a2 a1
theorem min_is {ns : List Int} {m : Int} (h0 : 0 < ns.length) (hm : m ∈ ns) (ha : ∀ y ∈ ns, m ≤ y) : m = ns.tail.foldl minI (ns.headD 0) := by
  match ns, h0 with
  | n :: r, _ =>
    obtain ⟨h1, h2⟩ := fold_min r n
    have a1 := ha _ h1
    have a2 := h2 _ hm
    exact Int.le_antisymm a1 a2
theorem insI_perm (a : Int) : ∀ r : List Int, (insI a r).Perm (a :: r)
  | [] => .refl _
  | b :: r => by
    unfold insI
    split
    · exact .refl _
    · exact ((insI_perm a r).cons b).trans (.swap a b r)
theorem sortI_perm : ∀ r : List Int, (sortI r).Perm r
  | [] => .refl _
  | a :: r => (insI_perm a (sortI r)).trans ((sortI_perm r).cons a)
theorem insI_sorted (a : Int) : ∀ r : List Int, r.Pairwise (· ≤ ·) → (insI a r).Pairwise (· ≤ ·)
  | [], _ => by simp [insI]
  | b :: r, h => by
    unfold insI
    obtain ⟨h1, h2⟩ := List.pairwise_cons.mp h
    split
    · rename_i hab
      exact List.pairwise_cons.mpr ⟨fun y hy => by
        rcases List.mem_cons.mp hy with rfl | hy
        · exact hab
        · exact Int.le_trans hab (h1 y hy), h⟩
    · rename_i hab
      refine List.pairwise_cons.mpr ⟨fun y hy => ?_, insI_sorted a r h2⟩
      rcases List.mem_cons.mp ((insI_perm a r).mem_iff.mp hy) with rfl | hy
      · omega
      · exact h1 y hy
theorem sortI_sorted : ∀ r : List Int, (sortI r).Pairwise (· ≤ ·)
  | [] => .nil
  | a :: r => insI_sorted a _ (sortI_sorted r)
theorem sorted_uniq : ∀ {xs ys : List Int}, xs.Perm ys → xs.Pairwise (· ≤ ·) → ys.Pairwise (· ≤ ·) → xs = ys
  | [], ys, p, _, _ => (List.nil_perm.mp p).symm ▸ rfl
  | x :: xs, [], p, _, _ => absurd p.length_eq (by simp)
  | x :: xs, y :: ys, p, h1, h2 => by
    obtain ⟨a1, a2⟩ := List.pairwise_cons.mp h1
    obtain ⟨b1, b2⟩ := List.pairwise_cons.mp h2
    have e : x = y := by
      have m1 : x ∈ y :: ys := p.mem_iff.mp List.mem_cons_self
      have m2 : y ∈ x :: xs := p.mem_iff.mpr List.mem_cons_self
      rcases List.mem_cons.mp m1 with e | m1
      · exact e
      · rcases List.mem_cons.mp m2 with e | m2
        · exact e.symm
        · exact Int.le_antisymm (a1 y m2) (b1 x m1)
    subst e
    rw [sorted_uniq (List.Perm.cons_inv p) a2 b2]
theorem sort_is {ns ns' : List Int} (p : ns'.Perm ns) (h : ns'.Pairwise (· ≤ ·)) : ns' = sortI ns := sorted_uniq (p.trans (sortI_perm ns).symm) h (sortI_sorted ns)
section
variable {X : Cx}
/-- repr of what is a list or a tuple -/
def rRepr (K : Frag) : List V → Hp → VK → Prop := fun xs H Q => ∃ (a : Addr) (d : PyData), xs = [.ref a] ∧ Dp K H (.ref a) d ∧ d.showable = true ∧ d.hasDict = false ∧ d.depth ≤ 64 ∧ d.shown.length ≤ sizeLine ∧ Q (.str d.shown) H
theorem cr_repr (hg : X.A.guards = some []) (hu : X.A.units + 65 < cLine) : CallR X (.builtin "repr") (rRepr X.K) := fun pins s σ H xs us Q I r h => by
  obtain ⟨a, d, rfl, dp, hs, hd, hp, hz, q⟩ := h
  obtain ⟨u, rfl, rfl⟩ := vals1 r
  obtain ⟨as, rd⟩ := Dp.reads I d (.ref a) (.ref a) dp rfl
  exact repr_of_reads' rd hs (fun z => by rw [hd] at z; cases z) hg (by omega) (fun _ _ e => e)
    (fun h' u tk k => ⟨.str _, H, I.kept (t' := tk) k, ⟨u, rfl⟩, q⟩) hz
/-- .. of None, a truth, a text -/
def rReprF : List V → Hp → VK → Prop := fun xs H Q => (xs = [.non] ∧ Q (.str "None") H) ∨ (∃ b, xs = [.bl b] ∧ Q (.str (if b then "True" else "False")) H) ∨ ∃ x : Str, xs = [.str x] ∧ (reprText x).length ≤ sizeLine ∧ Q (.str (reprText x)) H
theorem cr_reprF : CallR X (.builtin "repr") rReprF := fun pins s σ H xs us Q I r h => by
  rcases h with ⟨rfl, q⟩ | ⟨b, rfl, q⟩ | ⟨x, rfl, hz, q⟩
  · obtain ⟨u, rfl, rx⟩ := vals1 r
    cases rx
    exact P.repr_of_none ⟨.str _, H, I.tok _, ⟨_, rfl⟩, q⟩
  · obtain ⟨u, rfl, rx⟩ := vals1 r
    cases rx
    exact P.repr_of_bool ⟨.str _, H, I.tok _, ⟨_, rfl⟩, q⟩
  · obtain ⟨u, rfl, t, rfl⟩ := vals1 r
    exact P.repr_of_str ⟨.str _, H, I.tok _, ⟨_, rfl⟩, q⟩ hz
theorem pe_callK1 {f : Value} {x : Str} {r : List V → Hp → VK → Prop} {e : Expr} {es : List Expr} {t : TA} {p pos : Pos} (hc : CallR X f r) (hg : Gl X x) (hm : X.mg x = none) (hv : bootBuiltins x = some f) (hf : (∃ id, f = .builtin id) ∨ ∃ T, f = .type T) (ha : PA X (e :: es) t) (hn : x ≠ "__name__")
    (hdb : (x == ("__debug__" : Str)) = false) (he : starEach (e :: es) X.env = (false, eval e X.env) :: starEach es X.env) (hpl : (backTo pos (starEach es X.env)).any (·.1) = false) : PE X (.Call (.Name x p) (e :: es) [] pos) (tCB r t) := by
  rcases hf with ⟨id, rfl⟩ | ⟨T, rfl⟩
  · exact pe_callB hc hg hm hv ha hn hdb he hpl
  · exact pe_callTy hc hg hm hv ha hn hdb he hpl
end
/-- the built-in's name, its value, its reading -/
def bName : Blt → Str
  | .len => "len" | .abs => "abs" | .int1 => "int" | .str1 => "str" | .repr => "repr" | .tuple => "tuple" | .list => "list" | .max2 => "max" | .min2 => "min" | .all => "all" | .any => "any" | .max1 => "max" | .min1 => "min" | .sum1 => "sum" | .sorted => "sorted" | .divmod => "divmod"
  | _ => "?"
def bVal : Blt → Value
  | .len => .builtin "len" | .abs => .builtin "abs" | .int1 => .type "int" | .str1 => .type "str" | .repr => .builtin "repr" | .tuple => .type "tuple" | .list => .type "list" | .max2 => .builtin "max" | .min2 => .builtin "min" | .all => .builtin "all" | .any => .builtin "any" | .max1 => .builtin "max" | .min1 => .builtin "min" | .sum1 => .builtin "sum" | .sorted => .builtin "sorted" | .divmod => .builtin "divmod"
  | _ => .none
def bSup : Blt → Bool
  | .len | .abs | .int1 | .str1 | .repr | .tuple | .list | .max2 | .min2 | .all | .any | .max1 | .min1 | .sum1 | .sorted | .divmod => true
  | _ => false
/-- sorted(xs), xs a list of data that can be compared, of any length -/
def rSortedD (K : PySem.W.Frag) : List V → Hp → VK → Prop := fun vs H Q => ∃ (a : Addr) (bs : List (V × PyData)), vs = [V.ref a] ∧ SqL K H a (bs.map (·.1)) ∧ DpAll K H (bs.map (·.1)) (bs.map (·.2)) ∧ PySem.W.AllAlike (bs.map (·.2)) ∧ PySem.W.Sortable (bs.map (·.2)) ∧ (∀ b ∈ bs, b.2.depth ≤ 60) ∧
  ∀ p, H p = none → Q (.ref p) (upd H p (.lst ((bs.mergeSort (PySem.W.dataLe false (·.2))).map (·.1))))
section
variable {X : Cx}
theorem each_v : ∀ {bs : List (V × PyData)} {us : List Value}, Vals (bs.map (·.1)) us → PySem.W.EachIs (fun v b => RelV b.1 v) us bs
  | [], us, h => by cases h; exact .nil
  | b :: bs, us, h => by
    have h : Vals (b.1 :: bs.map (·.1)) us := h
    cases h with
    | cons h1 h2 => exact .cons h1 (each_v h2)
theorem each_back : ∀ {bs : List (V × PyData)} {us : List Value}, PySem.W.EachIs (fun v b => RelV b.1 v) us bs → Vals (bs.map (·.1)) us
  | [], us, h => by cases h; exact .nil
  | b :: bs, us, h => by cases h with
    | cons h1 h2 => exact .cons h1 (each_back h2)
theorem each_reads {pins : List (Addr × Obj)} {σ : L2.St} {H : Hp} {s : Shared} (I : Inv X pins σ H s) : ∀ {bs : List (V × PyData)} {us : List Value}, Vals (bs.map (·.1)) us → DpAll X.K H (bs.map (·.1)) (bs.map (·.2)) → PySem.W.EachIs (fun v b => ∃ as, Reads s.heap v b.2 as) us bs
  | [], us, h, _ => by cases h; exact .nil
  | b :: bs, us, h, d => by
    have h : Vals (b.1 :: bs.map (·.1)) us := h
    have d : DpAll X.K H (b.1 :: bs.map (·.1)) (b.2 :: bs.map (·.2)) := d
    cases h with
    | cons h1 h2 => cases d with
      | cons d1 d2 => exact .cons (Dp.reads I _ _ _ d1 h1) (each_reads I h2 d2)
theorem cr_sortedD (hu : X.A.units + 65 < cLine) : CallR X (.builtin "sorted") (rSortedD X.K) := by
  intro pins s σ H vs us Q I r h
  obtain ⟨a, bs, rfl, hs, hd, hal, hk, hdp, q⟩ := h
  obtain ⟨its, rv, hl, hz⟩ := I.list hs
  obtain ⟨u, rfl, ru⟩ := vals1 r
  obtain rfl : u = Value.ref a := ru
  rw [List.length_map] at hz
  refine PySem.W.sorted_data (R := fun v b => RelV b.1 v) (enc := (·.2)) hl.isList (each_v rv) (each_reads I rv hd) hal hk hz (fun b hb => by have := hdp b hb; omega) fun out ho eo => ?_
  obtain ⟨c, hc⟩ := PyProof.Rows.sortedAll_at s.heap its out.toArray
  refine ⟨.ref _, upd H (s.heap.objs.size + 1) (.lst _), I.laid (t' := s.toks) (fun _ _ => PyProof.Rows.sortedAll_old) (Nat.le_succ _) ⟨?_, out, c, each_back eo, hc⟩, rfl, q _ (I.hok.fresh (Nat.le_succ _))⟩
  rw [List.length_map, List.length_mergeSort]
  exact hz
end
section
variable {prog : Program} {w : World} {A : Around} {E : Value → Shared → Prop} {s : Shared}
/-- what a tuple's walk collects -/
theorem collect_tp {l : Addr} {vs : List Value} {Q : List Value → Shared → Prop} (hl : s.heap.IsTuple l vs.toArray)
    (h : Q vs { s with heap := (s.heap.push (seqObj "list" #[] 0)).update s.heap.objs.size (Obj.mapSeq (· ++ vs.toArray)) }) (hsz : vs.length ≤ sizeLine) :
    wpAny (model prog w) A (collect (.ref l)) Q E s := by
  obtain ⟨o, ho, hc, n, hd⟩ := id hl
  unfold collect
  refine wpAny_bind (wpAny_runValue (codeAny_builtin entry_proto_collect' ?_))
  show wpAny _ _ (do again (.builtin "list.__iadd__" ⟨[← newList [], .ref l], []⟩)) _ _ s
  refine wpAny_bind (wpAny_newList (wpAny_pure ⟨Code.quiet_builtin _ (by decide +kernel), codeAny_builtin entry_list_iadd' ?_⟩))
  show wpAny _ _ (Builtin.List.listExtendWith (.ref s.heap.objs.size) (.ref l) (.ref s.heap.objs.size)) _ _ { s with heap := s.heap.push (seqObj "list" #[] 0) }
  unfold Builtin.List.listExtendWith
  have ho' : (s.heap.push (seqObj "list" #[] 0)).get? l = some o := Heap.get?_push_of_some _ ho
  refine wpAny_bind (wpAny_typeOf (T := "tuple") ⟨o, ho', hc⟩ ?_)
  have ht : (Value.type "tuple" == Value.type "tuple") = true := by rfl
  rw [if_pos (by rw [ht]; simp)]
  refine wpAny_bind (listItems_at ho' hd ?_)
  refine wpAny_bind (listItems_at (xs := #[]) (n := 0) (Heap.get?_push_size _ rfl) rfl ?_)
  rw [if_neg (by simp)]
  refine wpAny_bind (listUpdate_at (xs := #[]) (n := 0) (Heap.get?_push_size _ rfl) rfl ?_ (Nat.zero_le _) (by show (#[] ++ vs.toArray).size ≤ sizeLine + 1; simp only [Array.size_append, List.size_toArray, List.length_nil]; omega))
  refine wpAny_pure ?_
  show wpAny (model prog w) A (do
      let o ← load s.heap.objs.size
      match o.data with
      | .seq xs _ => pure xs.toList
      | _ => unsupported "internal:collect") Q E { s with heap := (s.heap.push (seqObj "list" #[] 0)).update s.heap.objs.size (Obj.mapSeq (· ++ vs.toArray)) }
  refine wpAny_bind (wpAny_load (get?_update_seq (Heap.get?_push_size _ rfl) _) ?_)
  show wpAny _ _ (pure ((#[] : Array Value) ++ vs.toArray).toList) Q E _
  rw [show ((#[] : Array Value) ++ vs.toArray).toList = vs by simp]
  exact wpAny_pure h
open PySem.W PySem.Calls in
/-- sorted(t): list.sort on a new list of the tuple's items -/
theorem sorted_tp {R : Value → (V × PyData) → Prop} {l : Addr} {vs : List Value} {bs : List (V × PyData)} {Q : Value → Shared → Prop} (hl : s.heap.IsTuple l vs.toArray) (e : EachIs R vs bs) (er : EachIs (fun v b => ∃ as, Reads s.heap v b.2 as) vs bs) (hal : AllAlike (bs.map (·.2))) (hk : Sortable (bs.map (·.2)))
    (hL : bs.length ≤ sizeLine) (hu : ∀ b, b ∈ bs → A.units + 2 + b.2.depth < cLine) (h : ∀ out : List Value, out.length = bs.length → EachIs R out (bs.mergeSort (dataLe false fun b : V × PyData => b.2)) → Q (.ref (s.heap.objs.size + 1)) { s with heap := sortedAll s.heap vs (List.toArray out) }) :
    wpAny (model prog w) A (call (.builtin "sorted") [.ref l]) Q E s := by
  have hl2 : vs.length ≤ sizeLine := by rw [e.length]; exact hL
  have er' : EachIs (fun v b => ∃ as, Reads (sortingHeap (copyHeap s.heap vs) (s.heap.objs.size + 1) vs) v b.2 as) vs bs := er.mono fun _ _ ⟨as, r⟩ => ⟨as, PyProof.Rows.Reads.keeps (fun _ _ => sorting_copy_old) r⟩
  refine Calls.call_function_entry kind_sorted plain_sorted entry_sorted (args_sorted1 _) ?_
  unfold Builtin.«sorted»
  refine wpAny_bind (m := checkCount "sorted" 1 1 _) (wpAny_pure ?_)
  refine wpAny_bind (collect_tp hl ?_ hl2)
  refine wpAny_bind (wpAny_newList ?_ hl2)
  have hsz : ((s.heap.push (seqObj "list" #[] 0)).update s.heap.objs.size (Obj.mapSeq (· ++ vs.toArray))).objs.size = s.heap.objs.size + 1 := by
    rw [Heap.size_update, size_push']
  show wpAny _ _ _ _ _ { s with heap := copyHeap s.heap vs }
  rw [hsz]
  refine wpAny_bind (wpAny_holding (wpAny_call_entry_kw slot_list_sort ⟨_, copyHeap_at s.heap vs, rfl⟩ entry_list_sort ?body (args_list_sort _)))
  case body =>
    refine wpAny_mono (list_sort_vals (s := { s with heap := copyHeap s.heap vs }) (P := fun f s' => f = .done (.ret .none) ∧ Q (.ref (s.heap.objs.size + 1)) s') (copyHeap_at s.heap vs) (SortsAt.data (s := { s with heap := sortingHeap (copyHeap s.heap vs) (s.heap.objs.size + 1) vs }) (each_map (R := fun v d => ∃ as, Reads (sortingHeap (copyHeap s.heap vs) (s.heap.objs.size + 1) vs) v d as) (fun b : V × PyData => b.2) er') hal hk (bound_map hu)) hl2
      ⟨rfl, h _ (by rw [sortVals_length false rfl]; exact e.length) (sortVals_data false e er' hal)⟩) (fun f s' hf => ?_) fun _ _ e => e
    obtain ⟨rfl, hq⟩ := hf
    exact ⟨_, rfl, wpAny_pure ⟨_, rfl, hq⟩⟩
end
/-- sorted(t), t a tuple of data that can be compared -/
def rSortedT (K : PySem.W.Frag) : List V → Hp → VK → Prop := fun vs H Q => ∃ (a : Addr) (bs : List (V × PyData)), vs = [V.ref a] ∧ SqT K H a (bs.map (·.1)) ∧ DpAll K H (bs.map (·.1)) (bs.map (·.2)) ∧ PySem.W.AllAlike (bs.map (·.2)) ∧ PySem.W.Sortable (bs.map (·.2)) ∧ (∀ b ∈ bs, b.2.depth ≤ 60) ∧
  ∀ p, H p = none → Q (.ref p) (upd H p (.lst ((bs.mergeSort (PySem.W.dataLe false (·.2))).map (·.1))))
theorem cr_sortedT {X : Cx} (hu : X.A.units + 65 < cLine) : CallR X (.builtin "sorted") (rSortedT X.K) := by
  intro pins s σ H vs us Q I r h
  obtain ⟨a, bs, rfl, hs, hd, hal, hk, hdp, q⟩ := h
  obtain ⟨its, rv, hl, hz⟩ := I.tuple hs
  obtain ⟨u, rfl, ru⟩ := vals1 r
  obtain rfl : u = Value.ref a := ru
  rw [List.length_map] at hz
  refine sorted_tp (R := fun v b => RelV b.1 v) (show s.heap.IsTuple a its.toArray from hl) (each_v rv) (each_reads I rv hd) hal hk hz (fun b hb => by have := hdp b hb; omega) fun out ho eo => ?_
  obtain ⟨c, hc⟩ := PyProof.Rows.sortedAll_at s.heap its out.toArray
  refine ⟨.ref _, upd H (s.heap.objs.size + 1) (.lst _), I.laid (t' := s.toks) (fun _ _ => PyProof.Rows.sortedAll_old) (Nat.le_succ _) ⟨?_, out, c, each_back eo, hc⟩, rfl, q _ (I.hok.fresh (Nat.le_succ _))⟩
  rw [List.length_map, List.length_mergeSort]
  exact hz
def rListS : List V → Hp → VK → Prop := fun xs H Q => ∃ z : Tx, xs = [.str ⟨z.toArray⟩] ∧ z.length ≤ Lim ∧ ∀ l, H l = none → Q (.ref l) (upd H l (.lst (z.map fun c => V.str ⟨#[c]⟩)))
def rBl (K : Frag) : Blt → List V → Hp → VK → Prop
  | .len => fun xs H Q => ∃ x n, xs = [x] ∧ LenV K x H n ∧ Q (.int n) H
  | .abs => fun xs H Q => ∃ i, xs = [.int i] ∧ Q (.int (if i < 0 then -i else i)) H
  | .int1 => fun xs H Q => (∃ i, xs = [.int i] ∧ Q (.int i) H) ∨ ∃ k, xs = [.bl k] ∧ Q (.int (if k then 1 else 0)) H
  | .str1 => fun xs H Q => (∃ i : Int, xs = [.int i] ∧ i.natAbs.log2 < 1920 ∧ Q (.str (toString i)) H) ∨ ∃ a, xs = [.str a] ∧ Q (.str a) H
  | .repr => fun xs H Q => (rRepr K xs H Q ∨ ∃ i : Int, xs = [.int i] ∧ i.natAbs.log2 < 1920 ∧ Q (.str (toString i)) H) ∨ rReprF xs H Q
  | .tuple => fun xs H Q => ∃ p ys, xs = [.ref p] ∧ ((SqL K H p ys ∧ ∀ l, H l = none → Q (.ref l) (upd H l (.tup ys))) ∨ (SqT K H p ys ∧ Q (.ref p) H))
  | .list => fun xs H Q => (∃ p ys, xs = [.ref p] ∧ (SqL K H p ys ∨ SqT K H p ys) ∧ ∀ l, H l = none → Q (.ref l) (upd H l (.lst ys))) ∨ rListS xs H Q
  | .max2 => fun xs H Q => ∃ i j, xs = [.int i, .int j] ∧ Q (.int (if j > i then j else i)) H
  | .min2 => fun xs H Q => ∃ i j, xs = [.int i, .int j] ∧ Q (.int (if j < i then j else i)) H
  | .all => rAll K
  | .any => rAny K
  | .max1 => rMax K
  | .min1 => rMin K
  | .sum1 => rSum K
  | .sorted => fun xs H Q => rSortedI K xs H Q ∨ rSortedD K xs H Q ∨ rSortedT K xs H Q
  | .divmod => fun xs H Q => ∃ i j, xs = [.int i, .int j] ∧ CDivP i j ∧ ∀ p, H p = none → Q (.ref p) (upd H p (.tup [.int (i / j), .int (i % j)]))
  | _ => fun _ _ _ => False
section
variable {X : Cx}
theorem signs_vals (z : Tx) (acc : Array Value) (h : ItemsOf (SignAt ⟨z.toArray⟩) acc z.length) : Vals (z.map fun c => V.str ⟨#[c]⟩) acc.toList := by
  have key : ∀ (l : List Value) (z : Tx), l.length = z.length → (∀ (j : Nat) v, l[j]? = some v → ∃ c u, z[j]? = some c ∧ v = Value.str ⟨#[c]⟩ u) → Vals (z.map fun c => V.str ⟨#[c]⟩) l := by
    intro l
    induction l with
    | nil => intro z hl _; cases z with
      | nil => exact .nil
      | cons => cases hl
    | cons v r ih => intro z hl h; cases z with
      | nil => cases hl
      | cons c q =>
        obtain ⟨c', u, h1, h2⟩ := h 0 v rfl
        cases h1
        exact .cons ⟨u, h2⟩ (ih q (by simpa using hl) fun j v hv => by simpa using h (j + 1) v (by simpa using hv))
  refine key acc.toList z (by simpa using h.1) fun j v hv => ?_
  obtain ⟨c, u, h1, h2⟩ := h.2 j v (by simpa using hv)
  exact ⟨c, u, by simpa using h1, h2⟩
theorem call_listS (hc : X.calm = true) : CallR X (.type "list") rListS := by
  intro pins s σ H xs us Q I r h
  obtain ⟨z, rfl, hz, q⟩ := h
  obtain ⟨u, rfl, rx⟩ := vals1 r
  obtain ⟨t, rfl⟩ := rx
  refine call_list_str (I.ok.hd hc) _ t (fun h' tk acc' c' kp e hi => ?_) (by show z.toArray.size ≤ _; rw [List.size_toArray]; exact hz)
  have hi : ItemsOf (SignAt ⟨z.toArray⟩) acc' z.length := by
    have : (⟨z.toArray⟩ : Str).cps.size = z.length := by simp
    rw [this] at hi; exact hi
  exact ⟨.ref s.heap.objs.size, _, I.laid (t' := tk) kp (Nat.le_refl _) (show ObjOk X.prog X.w _ h' _ (.lst (z.map fun c => V.str ⟨#[c]⟩)) from ⟨by rw [List.length_map]; exact hz, acc'.toList, c', signs_vals z acc' hi, by simpa using e⟩), rfl, q _ (I.hok.fresh (Nat.le_refl _))⟩
end
theorem cr_bl {X : Cx} (hc : X.calm = true) (hg : X.A.guards = some []) (hu : X.A.units + 65 < cLine) (b : Blt) (hb : bSup b = true) : CallR X (bVal b) (rBl X.K b) := by
  cases b with
  | len => exact call_len
  | abs => exact call_abs
  | int1 => exact call_int1
  | str1 => exact CallR.or call_str_int SkE.call_str_str
  | repr => exact CallR.or (CallR.or (cr_repr hg hu) SkE.call_repr_int) cr_reprF
  | tuple => exact call_tuple_of
  | list => exact CallR.or call_list_of (call_listS hc)
  | max2 => exact call_max2 hc
  | min2 => exact call_min2 hc
  | all => exact cr_all hc
  | any => exact cr_any hc
  | max1 => exact cr_max hc
  | min1 => exact cr_min hc
  | sum1 => exact cr_sum hc
  | sorted => exact CallR.or cr_sortedI (CallR.or (cr_sortedD hu) (cr_sortedT hu))
  | divmod => exact call_divmodW
  | _ => cases hb
mutual
theorem py_nodict : ∀ d : D, (py d).hasDict = false
  | .non => rfl | .bl _ => rfl | .int _ => rfl | .str _ => rfl
  | .tup xs => by rw [py, PyData.hasDict]; exact py_nodicts xs
  | .lst _ xs => by rw [py, PyData.hasDict]; exact py_nodicts xs
  | .dic _ _ _ => rfl | .kst _ => rfl | .ptr _ => rfl | .fn _ => rfl | .ins _ _ => rfl | .exc _ _ => rfl
theorem py_nodicts : ∀ ds : List D, PyData.hasDictAll (pyL ds) = false
  | [] => rfl
  | d :: ds => by rw [pyL, PyData.hasDictAll, py_nodict d, py_nodicts ds]; rfl
end
/-- things beside their data -/
def zipP : List V → List D → List (V × PyData)
  | v :: vs, d :: ds => (v, py d) :: zipP vs ds
  | _, _ => []
theorem zip_parts : ∀ {ds : List D} {vs : List V}, ds.length = vs.length → (zipP vs ds).map (·.1) = vs ∧ (zipP vs ds).map (·.2) = pyL ds
  | [], [], _ => ⟨rfl, rfl⟩
  | d :: ds, v :: vs, h => by
    obtain ⟨h1, h2⟩ := zip_parts (ds := ds) (vs := vs) (by simpa using h)
    exact ⟨by rw [zipP, List.map_cons, h1], by rw [zipP, List.map_cons, h2, pyL]⟩
  | [], _ :: _, h => by simp at h
  | _ :: _, [], h => by simp at h
theorem zipP_mem : ∀ {ds : List D} {vs : List V} {b : V × PyData}, b ∈ zipP vs ds → ∃ d, d ∈ ds ∧ b.2 = py d
  | [], vs, b, h => by cases vs <;> cases h
  | d :: ds, [], b, h => by cases h
  | d :: ds, v :: vs, b, h => by
    rw [zipP] at h
    rcases List.mem_cons.mp h with rfl | h
    · exact ⟨d, List.mem_cons_self, rfl⟩
    · obtain ⟨e, h1, h2⟩ := zipP_mem h
      exact ⟨e, List.mem_cons_of_mem _ h1, h2⟩
theorem plainL_mem : ∀ {ds : List D} {d : D}, plainL ds = true → d ∈ ds → plain d = true
  | x :: ds, d, h, m => by
    rw [plainL, Bool.and_eq_true_iff] at h
    rcases List.mem_cons.mp m with rfl | m
    · exact h.1
    · exact plainL_mem h.2 m
theorem depL_mem : ∀ {ds : List D} {d : D}, d ∈ ds → dep d ≤ depL ds
  | x :: ds, d, m => by
    rw [depL]
    rcases List.mem_cons.mp m with rfl | m
    · exact Nat.le_max_left _ _
    · exact Nat.le_trans (depL_mem m) (Nat.le_max_right _ _)
theorem zipP_map : ∀ (zs : List (V × D)), zipP (zs.map (·.1)) (zs.map (·.2)) = zs.map fun z => (z.1, py z.2)
  | [] => rfl
  | z :: zs => by rw [List.map_cons, List.map_cons, zipP, zipP_map zs, List.map_cons]
theorem repL_zs {K : Frag} {B H : Hp} {α : List Addr} : ∀ (zs : List (V × D)), (∀ z ∈ zs, Rep K B H α z.2 z.1 []) → RepL K B H α (zs.map (·.2)) (zs.map (·.1)) []
  | [], _ => ⟨rfl, rfl⟩
  | z :: zs, h => ⟨_, _, [], [], rfl, h z List.mem_cons_self, repL_zs zs fun y m => h y (List.mem_cons_of_mem _ m), rfl⟩
theorem repL_zip {K : Frag} {B H : Hp} {α : List Addr} : ∀ {ds : List D} {vs : List V}, RepL K B H α ds vs [] → ∃ zs : List (V × D), vs = zs.map (·.1) ∧ ds = zs.map (·.2) ∧ ∀ z ∈ zs, Rep K B H α z.2 z.1 []
  | [], vs, r => ⟨[], r.1, rfl, fun z m => nomatch m⟩
  | d :: ds, vs, r => by
    obtain ⟨v, vr, g, h, rfl, r1, r2, z⟩ := r
    have z := List.append_eq_nil_iff.mp z.symm
    rw [z.1] at r1
    rw [z.2] at r2
    obtain ⟨zs, e1, e2, e3⟩ := repL_zip r2
    refine ⟨(v, d) :: zs, by rw [e1]; rfl, by rw [e2]; rfl, fun y m => ?_⟩
    rcases List.mem_cons.mp m with rfl | m
    · exact r1
    · exact e3 y m
theorem zipP_sort {K : Frag} {B H : Hp} {α : List Addr} {ds : List D} {vs : List V} (r : RepL K B H α ds vs []) : RepL K B H α (ds.mergeSort leD) (((zipP vs ds).mergeSort (PySem.W.dataLe false (·.2))).map (·.1)) [] := by
  obtain ⟨zs, rfl, rfl, hz⟩ := repL_zip r
  rw [zipP_map]
  rw [← List.map_mergeSort (f := fun z : V × D => (z.1, py z.2)) (r := fun x y => leD x.2 y.2) (s := PySem.W.dataLe false (·.2)) (fun _ _ _ _ => rfl)]
  rw [← List.map_mergeSort (f := fun z : V × D => z.2) (r := fun x y => leD x.2 y.2) (s := leD) (fun _ _ _ _ => rfl), List.map_map]
  exact repL_zs _ fun z m => hz z ((List.mergeSort_perm _ _).mem_iff.mp m)
section
variable {c : Cg} {σ : LSt} {B H : Hp} {φ : Fp} {α : List Addr} {env : Env} {st : Stt} {K : D → Prop} {Q : VK}
theorem RdL.one {d : D} {vs : List V} (h : RdL c.K B H α [d] vs) : ∃ v f, vs = [v] ∧ Rep c.K B H α d v f := by
  obtain ⟨v, vr, f, e, r, q⟩ := h
  have q : vr = [] := q
  exact ⟨v, f, by rw [e, q], r⟩
theorem RdL.two {d e : D} {vs : List V} (h : RdL c.K B H α [d, e] vs) : ∃ v f u g, vs = [v, u] ∧ Rep c.K B H α d v f ∧ Rep c.K B H α e u g := by
  obtain ⟨v, vr, f, e1, r, q⟩ := h
  obtain ⟨u, g, e2, q⟩ := RdL.one q
  exact ⟨v, f, u, g, by rw [e1, e2], r, q⟩
theorem blt_ok {b : Blt} (hb : bSup b = true) {ds : List D} {vs : List V} (W : Wd c.K B H σ α φ env st) (r : RdL c.K B H α ds vs) (w : bltW b ds K) (out : OutOk c σ B H φ α env st K Q) : rBl c.K b vs H Q := by
  unfold bltW at w
  split at w
  · obtain ⟨v, f, rfl, r1⟩ := r.one
    obtain ⟨a, ws, g, rfl, h, r2, _⟩ := Rep.lst' (c := c) r1 W.le
    refine ⟨_, ws.length, rfl, .inl ⟨ws, .of h, rfl⟩, ?_⟩
    rw [← r2.length]; exact out.flat W w ⟨rfl, rfl⟩
  · obtain ⟨v, f, rfl, r1⟩ := r.one
    obtain ⟨a, ws, rfl, h, r2, _⟩ := Rep.kst' (c := c) r1 W.le
    refine ⟨_, ws.length, rfl, .inl ⟨ws, h, rfl⟩, ?_⟩
    rw [← r2.length]; exact out.flat W w ⟨rfl, rfl⟩
  · obtain ⟨v, f, rfl, r1⟩ := r.one
    obtain ⟨a, ws, rfl, h, r2, _⟩ := Rep.tup' (c := c) r1 W.le
    refine ⟨_, ws.length, rfl, .inr ⟨ws, h, rfl⟩, ?_⟩
    rw [← r2.length]; exact out.flat W w ⟨rfl, rfl⟩
  · obtain ⟨v, f, rfl, rfl, _⟩ := r.one
    refine ⟨_, _, rfl, ⟨by rw [tx_len]; exact w.1, rfl⟩, ?_⟩
    rw [tx_len]; exact out.flat W w.2 ⟨rfl, rfl⟩
  · obtain ⟨v, f, rfl, rfl, _⟩ := r.one
    exact ⟨_, rfl, out.flat W w ⟨rfl, rfl⟩⟩
  · cases hb
  · cases hb
  · obtain ⟨v, f, rfl, rfl, _⟩ := r.one
    exact .inl ⟨_, rfl, out.flat W w ⟨rfl, rfl⟩⟩
  · obtain ⟨v, f, rfl, rfl, _⟩ := r.one
    exact .inr ⟨_, rfl, out.flat W w ⟨rfl, rfl⟩⟩
  · obtain ⟨v, f, rfl, rfl, _⟩ := r.one
    exact .inl ⟨_, rfl, w.1, by rw [digits_str]; exact out.flat W w.2 ⟨rfl, rfl⟩⟩
  · obtain ⟨v, f, rfl, rfl, _⟩ := r.one
    exact .inr ⟨_, rfl, out.flat W w ⟨rfl, rfl⟩⟩
  · obtain ⟨v, f, rfl, rfl, _⟩ := r.one
    exact .inl (.inr ⟨_, rfl, w.1, by rw [digits_str]; exact out.flat W w.2 ⟨rfl, rfl⟩⟩)
  · obtain ⟨v, f, rfl, rfl, _⟩ := r.one
    exact .inr (.inl ⟨rfl, out.flat W w ⟨by unfold shown; simp [py, PyData.shown], rfl⟩⟩)
  · obtain ⟨v, f, rfl, rfl, _⟩ := r.one
    exact .inr (.inr (.inl ⟨_, rfl, out.flat W w ⟨by unfold shown; simp [py, PyData.shown], rfl⟩⟩))
  · obtain ⟨v, f, rfl, rfl, _⟩ := r.one
    refine .inr (.inr (.inr ⟨_, rfl, ?_, out.flat W w.2 ⟨by unfold shown; simp [py, PyData.shown], rfl⟩⟩))
    have h := w.1
    rw [shown_len] at h
    rw [← lim_line]
    simpa [py, PyData.shown] using h
  · obtain ⟨v, f, rfl, r1⟩ := r.one
    obtain ⟨⟨⟨hp, hd⟩, hs, hl⟩, k⟩ := w
    have dp := rep_dp W.le _ _ _ hp r1
    obtain ⟨a, ws, g, rfl, h, r2, _⟩ := Rep.lst' (c := c) r1 W.le
    exact .inl (.inl ⟨a, _, rfl, dp, hs, py_nodict _, by rw [(py_lay _ hp).2]; exact hd, by rw [← shown_len]; exact hl, out.flat W k ⟨by unfold shown; simp, rfl⟩⟩)
  · obtain ⟨v, f, rfl, r1⟩ := r.one
    obtain ⟨⟨⟨hp, hd⟩, hs, hl⟩, k⟩ := w
    have dp := rep_dp W.le _ _ _ hp r1
    obtain ⟨a, ws, rfl, h, r2, _⟩ := Rep.tup' (c := c) r1 W.le
    exact .inl (.inl ⟨a, _, rfl, dp, hs, py_nodict _, by rw [(py_lay _ hp).2]; exact hd, by rw [← shown_len]; exact hl, out.flat W k ⟨by unfold shown; simp, rfl⟩⟩)
  · obtain ⟨v, f, rfl, r1⟩ := r.one
    obtain ⟨a, ws, g, rfl, h, r2, z⟩ := Rep.lst' (c := c) r1 W.le
    rw [z w.1] at r2
    exact ⟨a, ws, rfl, .inl ⟨.of h, fun l hl => out.newT W w.2 r2 hl⟩⟩
  · obtain ⟨v, f, rfl, r0⟩ := r.one
    obtain ⟨a, ws, rfl, h, r2, z⟩ := Rep.tup' (c := c) r0 W.le
    obtain rfl := z w.1
    exact ⟨a, ws, rfl, .inr ⟨h, out.flat W w.2 r0⟩⟩
  · obtain ⟨v, f, rfl, r1⟩ := r.one
    obtain ⟨a, ws, g, rfl, h, r2, z⟩ := Rep.lst' (c := c) r1 W.le
    rw [z w.1] at r2
    exact .inl ⟨a, ws, rfl, .inl (.of h), fun l hl => out.newL W w.2 r2 hl⟩
  · obtain ⟨v, f, rfl, r1⟩ := r.one
    obtain ⟨a, ws, rfl, h, r2, _⟩ := Rep.kst' (c := c) r1 W.le
    exact .inl ⟨a, ws, rfl, .inl h, fun l hl => out.newL W w.2 r2 hl⟩
  · obtain ⟨v, f, rfl, r1⟩ := r.one
    obtain ⟨a, ws, rfl, h, r2, z⟩ := Rep.tup' (c := c) r1 W.le
    obtain rfl := z w.1
    exact .inl ⟨a, ws, rfl, .inr h, fun l hl => out.newL W w.2 r2 hl⟩
  · obtain ⟨v, f, u, g, rfl, ⟨rfl, _⟩, ⟨rfl, _⟩⟩ := r.two
    exact ⟨_, _, rfl, out.flat W w ⟨rfl, rfl⟩⟩
  · obtain ⟨v, f, u, g, rfl, ⟨rfl, _⟩, ⟨rfl, _⟩⟩ := r.two
    exact ⟨_, _, rfl, out.flat W w ⟨rfl, rfl⟩⟩
  · obtain ⟨v, f, rfl, rfl, _⟩ := r.one
    exact .inr ⟨_, rfl, w.1, fun l hl => out.newL W w.2 (RepL.chars _) hl⟩
  · obtain ⟨v, f, rfl, r1⟩ := r.one
    obtain ⟨ns, e, k⟩ := nsW_inv w
    obtain ⟨a, ws, g, rfl, h, r2, z⟩ := Rep.lst' (c := c) r1 W.le
    rw [nums_map e] at r2
    obtain rfl := RepL.ints ns r2
    refine ⟨a, ns, rfl, .of h, k.1, fun m hm ha => ?_⟩
    rw [show m = ns.tail.foldl maxI (ns.headD 0) from max_is k.1 hm ha]
    exact out.flat W k.2 ⟨rfl, rfl⟩
  · obtain ⟨v, f, rfl, r1⟩ := r.one
    obtain ⟨ns, e, k⟩ := nsW_inv w
    obtain ⟨a, ws, g, rfl, h, r2, z⟩ := Rep.lst' (c := c) r1 W.le
    rw [nums_map e] at r2
    obtain rfl := RepL.ints ns r2
    refine ⟨a, ns, rfl, .of h, k.1, fun m hm ha => ?_⟩
    rw [show m = ns.tail.foldl minI (ns.headD 0) from min_is k.1 hm ha]
    exact out.flat W k.2 ⟨rfl, rfl⟩
  · obtain ⟨v, f, rfl, r1⟩ := r.one
    obtain ⟨ns, e, k⟩ := nsW_inv w
    obtain ⟨a, ws, g, rfl, h, r2, z⟩ := Rep.lst' (c := c) r1 W.le
    rw [nums_map e] at r2
    obtain rfl := RepL.ints ns r2
    exact ⟨a, ns, rfl, .of h, out.flat W k ⟨rfl, rfl⟩⟩
  · obtain ⟨v, f, rfl, r1⟩ := r.one
    obtain ⟨a, ws, g, rfl, h, r2, z⟩ := Rep.lst' (c := c) r1 W.le
    unfold srtW at w
    split at w
    · rename_i ns e
      rw [nums_map e] at r2
      obtain rfl := RepL.ints ns r2
      refine .inl ⟨a, ns, rfl, .of h, fun ns' p hp hs hn => ?_⟩
      rw [show ns' = sortI ns from sort_is hp hs]
      exact out.newL W w (ints_repL _) hn
    · obtain ⟨⟨⟨⟨hp, hd⟩, hal, hk⟩, nfl⟩, k⟩ := w
      have dps := rep_dps W.le _ _ _ hp r2
      rw [z nfl] at r2
      obtain ⟨m1, m2⟩ := zip_parts r2.length
      refine .inr (.inl ⟨a, zipP ws _, rfl, .of (by rw [m1]; exact h), by rw [m1, m2]; exact dps, by rw [m2]; exact hal, by rw [m2]; exact hk, fun b hb => ?_, fun p hn => ?_⟩)
      · obtain ⟨d, hdm, e⟩ := zipP_mem hb
        rw [e, (py_lay d (plainL_mem hp hdm)).2]
        exact Nat.le_trans (depL_mem hdm) hd
      · exact out.newL W k (zipP_sort r2) hn
  · obtain ⟨v, f, rfl, r1⟩ := r.one
    obtain ⟨a, ws, rfl, h, r2, z⟩ := Rep.tup' (c := c) r1 W.le
    obtain ⟨⟨⟨⟨hp, hd⟩, hal, hk⟩, nfl⟩, k⟩ := w
    have dps := rep_dps W.le _ _ _ hp r2
    rw [show f = [] from RepL.nf _ _ _ nfl r2] at r2
    obtain ⟨m1, m2⟩ := zip_parts r2.length
    refine .inr (.inr ⟨a, zipP ws _, rfl, (by rw [m1]; exact h), by rw [m1, m2]; exact dps, by rw [m2]; exact hal, by rw [m2]; exact hk, fun b hb => ?_, fun p hn => ?_⟩)
    · obtain ⟨d, hdm, e⟩ := zipP_mem hb
      rw [e, (py_lay d (plainL_mem hp hdm)).2]
      exact Nat.le_trans (depL_mem hdm) hd
    · exact out.newL W k (zipP_sort r2) hn
  · cases hb
  · obtain ⟨v, f, u, g, rfl, ⟨rfl, _⟩, ⟨rfl, _⟩⟩ := r.two
    exact ⟨_, _, rfl, ⟨w.1.1, PyProof.noPylong_of_log2 w.1.2⟩, fun p hp => out.newT W w.2 ⟨_, _, [], [], rfl, ⟨rfl, rfl⟩, ⟨_, _, [], [], rfl, ⟨rfl, rfl⟩, ⟨rfl, rfl⟩, rfl⟩, rfl⟩ hp⟩
  · obtain ⟨v, f, rfl, r1⟩ := r.one
    obtain ⟨bs, e, k⟩ := bsW_inv w
    obtain ⟨a, ws, g, rfl, h, r2, z⟩ := Rep.lst' (c := c) r1 W.le
    rw [bools_map e] at r2
    have := RepL.bls bs r2
    subst this
    exact ⟨a, bs, rfl, .of h, out.flat W k ⟨rfl, rfl⟩⟩
  · obtain ⟨v, f, rfl, r1⟩ := r.one
    obtain ⟨bs, e, k⟩ := bsW_inv w
    obtain ⟨a, ws, g, rfl, h, r2, z⟩ := Rep.lst' (c := c) r1 W.le
    rw [bools_map e] at r2
    have := RepL.bls bs r2
    subst this
    exact ⟨a, bs, rfl, .of h, out.flat W k ⟨rfl, rfl⟩⟩
  · exact w.elim
end

def tyStr : Ty → String
  | .int => "int" | .str => "str" | .bool => "bool" | .list => "list" | .tuple => "tuple" | .dict => "dict" | .own _ => "?"
def tySup : Ty → Bool
  | .own _ => false
  | _ => true
def tnm : D → String
  | .non => "NoneType" | .bl _ => "bool" | .int _ => "int" | .str _ => "str" | .tup _ => "tuple" | .lst _ _ => "list" | _ => "?"
theorem kit_non_int : kitB "NoneType" "int" = some false := by decide +kernel
theorem kit_non_str : kitB "NoneType" "str" = some false := by decide +kernel
theorem kit_non_bool : kitB "NoneType" "bool" = some false := by decide +kernel
theorem kit_non_list : kitB "NoneType" "list" = some false := by decide +kernel
theorem kit_non_tuple : kitB "NoneType" "tuple" = some false := by decide +kernel
theorem kit_non_dict : kitB "NoneType" "dict" = some false := by decide +kernel
theorem kit_bl_int : kitB "bool" "int" = some true := by decide +kernel
theorem kit_bl_str : kitB "bool" "str" = some false := by decide +kernel
theorem kit_bl_bool : kitB "bool" "bool" = some true := by decide +kernel
theorem kit_bl_list : kitB "bool" "list" = some false := by decide +kernel
theorem kit_bl_tuple : kitB "bool" "tuple" = some false := by decide +kernel
theorem kit_bl_dict : kitB "bool" "dict" = some false := by decide +kernel
theorem kit_int_int : kitB "int" "int" = some true := by decide +kernel
theorem kit_int_str : kitB "int" "str" = some false := by decide +kernel
theorem kit_int_bool : kitB "int" "bool" = some false := by decide +kernel
theorem kit_int_list : kitB "int" "list" = some false := by decide +kernel
theorem kit_int_tuple : kitB "int" "tuple" = some false := by decide +kernel
theorem kit_int_dict : kitB "int" "dict" = some false := by decide +kernel
theorem kit_str_int : kitB "str" "int" = some false := by decide +kernel
theorem kit_str_str : kitB "str" "str" = some true := by decide +kernel
theorem kit_str_bool : kitB "str" "bool" = some false := by decide +kernel
theorem kit_str_list : kitB "str" "list" = some false := by decide +kernel
theorem kit_str_tuple : kitB "str" "tuple" = some false := by decide +kernel
theorem kit_str_dict : kitB "str" "dict" = some false := by decide +kernel
theorem kit_tup_int : kitB "tuple" "int" = some false := by decide +kernel
theorem kit_tup_str : kitB "tuple" "str" = some false := by decide +kernel
theorem kit_tup_bool : kitB "tuple" "bool" = some false := by decide +kernel
theorem kit_tup_list : kitB "tuple" "list" = some false := by decide +kernel
theorem kit_tup_tuple : kitB "tuple" "tuple" = some true := by decide +kernel
theorem kit_tup_dict : kitB "tuple" "dict" = some false := by decide +kernel
theorem kit_lst_int : kitB "list" "int" = some false := by decide +kernel
theorem kit_lst_str : kitB "list" "str" = some false := by decide +kernel
theorem kit_lst_bool : kitB "list" "bool" = some false := by decide +kernel
theorem kit_lst_list : kitB "list" "list" = some true := by decide +kernel
theorem kit_lst_tuple : kitB "list" "tuple" = some false := by decide +kernel
theorem kit_lst_dict : kitB "list" "dict" = some false := by decide +kernel
theorem kit_tnm {x : D} (hx : isOk x = true) {t : Ty} (ht : tySup t = true) : kitB (tnm x) (tyStr t) = some (isTy x t) := by
  cases x with
  | non => cases t with
    | int => exact kit_non_int
    | str => exact kit_non_str
    | bool => exact kit_non_bool
    | list => exact kit_non_list
    | tuple => exact kit_non_tuple
    | dict => exact kit_non_dict
    | own _ => cases ht
  | bl _ => cases t with
    | int => exact kit_bl_int
    | str => exact kit_bl_str
    | bool => exact kit_bl_bool
    | list => exact kit_bl_list
    | tuple => exact kit_bl_tuple
    | dict => exact kit_bl_dict
    | own _ => cases ht
  | int _ => cases t with
    | int => exact kit_int_int
    | str => exact kit_int_str
    | bool => exact kit_int_bool
    | list => exact kit_int_list
    | tuple => exact kit_int_tuple
    | dict => exact kit_int_dict
    | own _ => cases ht
  | str _ => cases t with
    | int => exact kit_str_int
    | str => exact kit_str_str
    | bool => exact kit_str_bool
    | list => exact kit_str_list
    | tuple => exact kit_str_tuple
    | dict => exact kit_str_dict
    | own _ => cases ht
  | tup _ => cases t with
    | int => exact kit_tup_int
    | str => exact kit_tup_str
    | bool => exact kit_tup_bool
    | list => exact kit_tup_list
    | tuple => exact kit_tup_tuple
    | dict => exact kit_tup_dict
    | own _ => cases ht
  | lst _ _ => cases t with
    | int => exact kit_lst_int
    | str => exact kit_lst_str
    | bool => exact kit_lst_bool
    | list => exact kit_lst_list
    | tuple => exact kit_lst_tuple
    | dict => exact kit_lst_dict
    | own _ => cases ht
  | _ => cases hx
section
variable {c : Cg} {σ : LSt} {B H : Hp} {φ : Fp} {α : List Addr} {env : Env} {st : Stt}
theorem rep_ty (le : HLe B H) {d : D} {v : V} {f : List Addr} (h : isOk d = true) (r : Rep c.K B H α d v f) : TyX c.K H v (.type (tnm d)) := by
  cases d with
  | non => rw [r.1]; exact .base .non
  | bl b => rw [r.1]; exact .base (.bl b)
  | int b => rw [r.1]; exact .base (.int b)
  | str b => rw [r.1]; exact .base (.str _)
  | tup xs =>
    obtain ⟨a, vs, rfl, t, _⟩ := r
    rcases t with t | ⟨o, its, n, h1, h2, _⟩
    · exact .base (.tup (le _ _ t))
    · exact .kTuple h1 h2
  | lst o xs =>
    obtain ⟨a, vs, g, rfl, t, _⟩ := Rep.lst' (c := c) r le
    exact .base (.lst t)
  | _ => cases h
theorem kit_any {K : Frag} {x : D} (hx : isOk x = true) : ∀ {ts : List Ty}, ts.all tySup = true → PySem.W.kitAny K (.type (tnm x)) (ts.map fun t => Value.type (tyStr t)) = some (ts.any (isTy x))
  | [], _ => kitAny_nil
  | t :: ts, h => by
    rw [List.all_cons, Bool.and_eq_true_iff] at h
    have h1 := kit_ty (K := K) (kit_tnm hx h.1)
    have h2 := kit_any (K := K) hx h.2
    refine kitAny_cons h1 (fun e => by rw [List.any_cons, e]; exact h2) fun e => by rw [List.any_cons, e]; rfl
end
end Ev

namespace Ev
open PySem PySem.Spec PyProof.Rows L2
/-- a kind of keys with the values that stand for them -/
structure Ks (P : Program) (w : World) (K : Type) [DecidableEq K] where
  kd : KeyKind P w K
  vl : K → Tok → Value
  ism : ∀ k t, kd.is k (vl k t) = true
  scn : ∀ k t, (vl k t).scannable = true
theorem perm_back {α β : Type} {f : α → β} {xs ys : List β} (p : xs.Perm ys) : ∀ {l : List α}, ys = l.map f → ∃ m : List α, xs = m.map f ∧ m.Perm l := by
  induction p with
  | nil => intro l e; exact ⟨[], rfl, by rw [List.map_eq_nil_iff.mp e.symm]⟩
  | cons x _ ih =>
    intro l e
    cases l with
    | nil => cases e
    | cons a l =>
      injection e with e1 e2
      obtain ⟨m, h1, h2⟩ := ih e2
      exact ⟨a :: m, by rw [List.map_cons, ← e1, h1], h2.cons a⟩
  | swap x y zs =>
    intro l e
    match l, e with
    | a :: b :: l, e =>
      injection e with e1 e2
      injection e2 with e2 e3
      exact ⟨b :: a :: l, by rw [List.map_cons, List.map_cons, ← e1, ← e2, ← e3], .swap a b l⟩
    | [_], e => simp at e
    | [], e => simp at e
  | trans _ _ i1 i2 =>
    intro l e
    obtain ⟨m, h1, h2⟩ := i2 e
    obtain ⟨n, h3, h4⟩ := i1 h1
    exact ⟨n, h3, h4.trans h2⟩
section
variable {P : Program} {w : World} {K : Type} [DecidableEq K] {c : Ks P w K} {A : Around} {E : Value → Shared → Prop} {s : Shared} {a : Addr}
def Ks.ent (c : Ks P w K) (p : K × Tok) : Int × Value := (c.kd.hash p.1, c.vl p.1 p.2)
/-- es holds the keys ks, each once -/
structure Ents (c : Ks P w K) (es : Array (Int × Value)) (ks : List K) : Prop where
  ex : ∃ l : List (K × Tok), es.toList = l.map c.ent ∧ (l.map (·.1)).Nodup ∧ (∀ k, k ∈ l.map (·.1) ↔ k ∈ ks) ∧ l.length ≤ ks.length
/-- its table can be walked -/
structure TabW (w : World) (n : Nat) (t : SetTable) : Prop where
  fit : t.fits n = true
  ris : Ris t.place.toList
  led : w.params.followText "set-order" = true ∨ t.led = true
def SetG (c : Ks P w K) (h : Heap) (a : Addr) (ks : List K) : Prop := ∃ o es ep t, (h.get? a = some o ∧ o.ExactSet ∧ o.data = .set es ep t) ∧ Ents c es ks ∧ es.size < scanBound ∧ TabW w es.size t
theorem SetG.keep {h h' : Heap} {ks : List K} (R : SetG c h a ks) (k : ∀ o, h.get? a = some o → h'.get? a = some o) : SetG c h' a ks := by
  obtain ⟨o, es, ep, t, ⟨ho, r⟩, q⟩ := R
  exact ⟨o, es, ep, t, ⟨k o ho, r⟩, q⟩
theorem Ents.elems {es : Array (Int × Value)} {ks : List K} (h : Ents c es ks) : ElemsOf c.kd es.toList := fun e he => by
  obtain ⟨l, hl, _⟩ := h.ex
  rw [hl] at he
  obtain ⟨p, _, rfl⟩ := List.mem_map.mp he
  exact ⟨⟨p.1, c.ism p.1 p.2, rfl⟩, c.scn p.1 p.2⟩
theorem Ents.perm {es es' : Array (Int × Value)} {ks : List K} (h : Ents c es ks) (p : es'.toList.Perm es.toList) : Ents c es' ks := by
  obtain ⟨l, hl, h1, h2, h3⟩ := h.ex
  obtain ⟨m, e, pm⟩ := perm_back p hl
  exact ⟨m, e, (pm.map _).nodup_iff.mpr h1, fun k => ((pm.map _).mem_iff).trans (h2 k), by rw [pm.length_eq]; exact h3⟩
theorem Ents.size {es : Array (Int × Value)} {ks : List K} (h : Ents c es ks) : es.size ≤ ks.length := by
  obtain ⟨l, hl, _, _, h3⟩ := h.ex
  have := congrArg List.length hl
  rw [Array.length_toList, List.length_map] at this
  omega
theorem Ents.more {es es' : Array (Int × Value)} {ks : List K} {k : K} {tk : Tok} (h : Ents c es ks) (hk : k ∉ ks) (p : es'.toList.Perm (es.toList ++ [c.ent (k, tk)])) : Ents c es' (ks ++ [k]) := by
  obtain ⟨l, hl, h1, h2, h3⟩ := h.ex
  obtain ⟨m, e, pm⟩ := perm_back p (l := l ++ [(k, tk)]) (by rw [hl, List.map_append]; rfl)
  refine ⟨m, e, (pm.map _).nodup_iff.mpr ?_, fun j => ((pm.map _).mem_iff).trans ?_, by rw [pm.length_eq, List.length_append, List.length_append]; simpa using h3⟩
  · rw [List.map_append, List.nodup_append]
    refine ⟨h1, by simp, fun x hx y hy e => hk ?_⟩
    have hy : y = k := List.mem_singleton.mp hy
    rw [← hy, ← e]
    exact (h2 x).mp hx
  · rw [List.map_append, List.mem_append, List.mem_append, h2 j]; rfl
theorem Ents.again {es : Array (Int × Value)} {ks : List K} {k : K} (h : Ents c es ks) (hk : k ∈ ks) : Ents c es (ks ++ [k]) := by
  obtain ⟨l, hl, h1, h2, h3⟩ := h.ex
  refine ⟨l, hl, h1, fun j => (h2 j).trans ?_, by rw [List.length_append]; omega⟩
  rw [List.mem_append, List.mem_singleton]
  exact ⟨.inl, fun z => z.elim id fun e => e ▸ hk⟩
theorem put_at {h : Heap} {o : Obj} {es es' : Array (Int × Value)} {ep : Nat} {t t' : SetTable} (ho : h.get? a = some o) (hd : o.data = .set es ep t) : (h.update a (Obj.putSet es' t')).get? a = some { o with data := .set es' (ep + 1) t' } := by
  have e := putSet_of es' t' hd
  rw [← e]
  exact Heap.get?_update_self (Obj.putSet es' t') ho (by rw [e]; rfl)
theorem addG_end {g : Bool → Sem Unit} {ks : List K} (hg : ∀ (b : Bool) (s1 : Shared) (Q1 : Unit → Shared → Prop), Q1 () s1 → wpAny (model P w) A (g b) Q1 E s1) {o : Obj} {es xs : Array (Int × Value)} {ep : Nat} {t u : SetTable} (ho : s.heap.get? a = some o ∧ o.ExactSet ∧ o.data = .set es ep t)
    (hx : Ents c xs ks) (hn : xs.size < scanBound) (hu : TabW w xs.size u) {dm : Bool} {R : Option Bool → Shared → Prop} (hR : ∀ h', Heap.SameBut a s.heap h' → SetG c h' a ks → R (some true) { s with heap := h' }) :
    wpAny (model P w) A (storeSet a xs u >>= fun _ => if (!dm && u.tooFull) = true then (g (relayAll u xs (SetTable.grown xs.size)).2.2 >>= fun _ => storeSet a (relayAll u xs (SetTable.grown xs.size)).1 (relayAll u xs (SetTable.grown xs.size)).2.1 >>= fun _ => pure (some true)) else pure (some true)) R E s := by
  obtain ⟨h1, hex, h2⟩ := ho
  refine wpAny_bind (wpAny_storeSet_of h1 h2 ?_ (fits_of_scanBound hn))
  have p1 := put_at (es' := xs) (t' := u) h1 h2
  have b1 := Heap.SameBut.update s.heap a (Obj.putSet xs u)
  by_cases hc : (!dm && u.tooFull) = true
  · rw [if_pos hc]
    have q1 := relayAll_perm u xs (SetTable.grown xs.size)
    have q2 := relayAll_fits u xs (SetTable.grown xs.size)
    have q3 := relayAll_ris u xs (SetTable.grown xs.size)
    have q4 := relayAll_led u xs (SetTable.grown xs.size)
    generalize relayAll u xs (SetTable.grown xs.size) = Z at q1 q2 q3 q4 ⊢
    obtain ⟨ys, v, gv⟩ := Z
    dsimp only at q1 q2 q3 q4 ⊢
    have hy := hx.perm q1
    have hz : ys.size = xs.size := by rw [← Array.length_toList, q1.length_eq, Array.length_toList]
    have hn2 : ys.size < scanBound := hz ▸ hn
    refine wpAny_bind (hg gv _ _ (wpAny_bind (wpAny_storeSet_of p1 rfl (wpAny_pure (hR _ (b1.trans (Heap.SameBut.update _ a _)) ?_)) (fits_of_scanBound hn2))))
    exact ⟨_, ys, _, v, ⟨put_at p1 rfl, hex, rfl⟩, hy, hn2, ⟨q2, q3, hu.led.imp id fun z => by rw [q4]; exact z⟩⟩
  · rw [if_neg hc]
    exact wpAny_pure (hR _ b1 ⟨_, xs, _, u, ⟨p1, hex, rfl⟩, hx, hn, hu⟩)
theorem addG {k : K} {tk : Tok} {ks : List K} {Q : Bool → Shared → Prop} (R : SetG c s.heap a ks) (room : ks.length + 1 < scanBound) (hQ : ∀ h' b, Heap.SameBut a s.heap h' → SetG c h' a (ks ++ [k]) → Q b { s with heap := h' }) :
    wpAny (model P w) A (setAddHashed a (c.vl k tk) (c.kd.hash k)) Q E s := by
  obtain ⟨o, es, ep, t, ⟨ho, hex, hd⟩, he, hb, hT⟩ := R
  have hel := he.elems
  unfold setAddHashed setAddHashedIn
  refine wpAny_holding (wpAny_bind (wpAny_setState_of ho hd hT.fit ?_))
  dsimp only
  rw [byScan_of (c.scn k tk) hb hel]
  simp only [↓reduceIte]
  unfold setAddByScan
  refine wpAny_bind (wpAny_bind (wpAny_rule (wpAny_bind (wpAny_setScan_of (c.ism k tk) ho hd hT.fit hel ?_))))
  have hmem : ∀ e ∈ es.toList, c.kd.is k e.2 = true → k ∈ ks := fun e m z => by
    obtain ⟨l, hl, _, h2, _⟩ := he.ex
    rw [hl] at m
    obtain ⟨p, pm, rfl⟩ := List.mem_map.mp m
    have : k = p.1 := c.kd.inj _ _ _ z (c.ism p.1 p.2)
    exact (h2 k).mp (List.mem_map.mpr ⟨p, pm, this.symm⟩)
  have hmem2 : k ∈ ks → ∃ e ∈ es.toList, c.kd.is k e.2 = true := fun m => by
    obtain ⟨l, hl, _, h2, _⟩ := he.ex
    obtain ⟨p, pm, e⟩ := List.mem_map.mp ((h2 k).mpr m)
    exact ⟨c.ent p, by rw [hl]; exact List.mem_map.mpr ⟨p, pm, rfl⟩, by rw [← e]; exact c.ism p.1 p.2⟩
  cases hf : List.findIdx? (fun e => c.kd.is k e.2) es.toList with
  | some j =>
    obtain ⟨hj, pj, _⟩ := List.findIdx?_eq_some_iff_getElem.mp hf
    have := hQ s.heap false (Heap.SameBut.refl a s.heap) ⟨o, es, ep, t, ⟨ho, hex, hd⟩, he.again (hmem _ (List.getElem_mem hj) pj), hb, hT⟩
    exact wpAny_pure (wpAny_pure this)
  | none =>
    have hk : k ∉ ks := fun m => by
      obtain ⟨e, em, z⟩ := hmem2 m
      have := List.findIdx?_eq_none_iff.mp hf e em
      rw [z] at this
      cases this
    have gw : ∀ (b : Bool) {s1 : Shared} {Q1 : Unit → Shared → Prop}, Q1 () s1 → wpAny (model P w) A (match b with | true => rule "set.scan.the-table-gave-way" | false => pure ()) Q1 E s1 := fun b s1 Q1 q => by
      cases b
      · exact wpAny_pure q
      · exact wpAny_rule q
    have q1 := layNew_perm t es (c.kd.hash k) (c.vl k tk)
    have q2 := layNew_fits t es (c.kd.hash k) (c.vl k tk)
    have q3 := layNew_ris t es (c.kd.hash k) (c.vl k tk) hT.ris
    have q4 := layNew_led t es (c.kd.hash k) (c.vl k tk)
    dsimp only
    generalize layNew t es (c.kd.hash k) (c.vl k tk) = Z at q1 q2 q3 q4 ⊢
    obtain ⟨xs, u, dm, gv⟩ := Z
    dsimp only at q1 q2 q3 q4 ⊢
    rw [Array.toList_push] at q1
    have hx : Ents c xs (ks ++ [k]) := he.more hk q1
    have hn : xs.size < scanBound := by
      have := hx.size
      rw [List.length_append] at this
      exact Nat.lt_of_le_of_lt this room
    have hl : w.params.followText "set-order" = true ∨ u.led = true := hT.led.imp id fun z => by rw [q4]; exact z
    refine wpAny_bind (gw _ ?_)
    split
    · refine wpAny_bind ?_
      rw [hashByValue_scannable 8 (c.scn k tk)]
      refine wpAny_pure ?_
      refine addG_end (c := c) (ks := ks ++ [k]) (g := fun b => match b with | true => rule "set.scan.the-table-gave-way" | false => pure ()) ?_ ⟨ho, hex, hd⟩ hx hn ?_ ?_
      · intro b s1 Q1 q; exact gw b q
      · split
        · exact ⟨q2, q3, hl⟩
        · exact ⟨SetTable.fits_plain_off q2, q3, hl⟩
      · intro h' sb r; exact wpAny_pure (hQ h' true sb r)
    · refine wpAny_bind (wpAny_pure ?_)
      simp only [↓reduceIte]
      refine addG_end (c := c) (ks := ks ++ [k]) (g := fun b => match b with | true => rule "set.scan.the-table-gave-way" | false => pure ()) ?_ ⟨ho, hex, hd⟩ hx hn ⟨q2, q3, hl⟩ ?_
      · intro b s1 Q1 q; exact gw b q
      · intro h' sb r; exact wpAny_pure (hQ h' true sb r)
theorem freshG {h : Heap} (ho : h.get? a = some { cls := .type "set", dict := none, data := .set #[] 0 (.fresh 0 0 (!w.params.followText "set-order")) }) : SetG c h a [] := by
  refine ⟨_, #[], 0, _, ⟨ho, ⟨rfl, rfl, rfl⟩, rfl⟩, ⟨[], rfl, List.Pairwise.nil, fun k => Iff.rfl, Nat.le_refl 0⟩, by decide, ⟨rfl, List.Pairwise.nil, ?_⟩⟩
  show _ ∨ (!w.params.followText "set-order") = true
  cases w.params.followText "set-order" <;> simp
theorem loopG {I : Addr} {fp wr : List Addr} {G : Array GenState → Array GenState → Prop} {n : Nat} {Pv : Nat → Value → Prop} {St : Nat → Shared → Prop} {R : Result → Shared → Prop} (W : WalksS P w A.in1 I fp wr G n Pv St) (S : Addr) (hS : S ∉ fp) (ks : List K) (hn : ks.length = n) (hb : n + 1 < scanBound)
    (hv : ∀ i v, Pv i v → ∃ k t, ks[i]? = some k ∧ v = c.vl k t) : ∀ (d i : Nat) (s : Shared), n - i = d → i ≤ n → St i s → SetG c s.heap S (ks.take i) →
      (∀ s', Moved (S :: wr) G s s' → SetG c s'.heap S ks → R (.ok (.ret .none)) s') → codeAny (model P w) A (.builtin "set.update.loop" ⟨[.ref S, .ref I], []⟩) R s := by
  have hw : S ∉ wr := fun m => hS (W.sub _ m)
  have up : ∀ b ∈ wr, b ∈ S :: wr := fun b m => List.mem_cons_of_mem _ m
  intro d
  induction d with
  | zero =>
    intro i s e hi hst hs hR
    obtain rfl : i = n := by omega
    refine codeAny_builtin PyProof.Rows.F.entry_set_update_loop ?_
    rw [Around.under_plainId PyProof.Rows.F.plain_set_update_loop _]
    refine wpAny_bind (m := pyNext (.ref I)) (W.done s _ _ hst fun s' hm => wpAny_pure (hR s' (hm.mono up) ?_))
    rw [List.take_of_length_le (Nat.le_of_eq hn)] at hs
    exact hs.keep fun o e => hm.heap S o hw e
  | succ d ih =>
    intro i s e hi hst hs hR
    have lt : i < n := by omega
    refine codeAny_builtin PyProof.Rows.F.entry_set_update_loop ?_
    rw [Around.under_plainId PyProof.Rows.F.plain_set_update_loop _]
    refine wpAny_bind (m := pyNext (.ref I)) (W.item i s _ _ lt hst fun v s' hp hst' hm => ?_)
    obtain ⟨k, t, hk, rfl⟩ := hv i v hp
    have hs1 : SetG c s'.heap S (ks.take i) := hs.keep fun o e => hm.heap S o hw e
    refine wpAny_bind (m := holding [c.vl k t] (setAdd S (c.vl k t))) (wpAny_holding ?_)
    unfold setAdd
    refine wpAny_holding (wpAny_bind (c.kd.pyHash (c.ism k t) ?_))
    refine addG (c := c) (s := { s' with toks := s'.toks + 1 }) hs1 (by rw [List.length_take]; omega) fun h' b sb hs2 => ?_
    have hs3 : SetG c h' S (ks.take (i + 1)) := by rw [List.take_add_one, hk]; exact hs2
    refine wpAny_pure ⟨plainId_quiet PyProof.Rows.F.plain_set_update_loop _, ih (i + 1) _ (by omega) lt (W.frame _ s' _ _ hst' (Nat.le_succ _) fun b m o e => ?_) hs3 fun s2 hm2 hs4 => hR s2 (Moved.trans W.gtrans ((hm.mono up).then_heap (Nat.le_succ _) fun b o m e => ?_) hm2) hs4⟩
    · rw [sb.2 b fun z => hS (z ▸ m)]; exact e
    · rw [sb.2 b fun z => m (z ▸ List.mem_cons_self)]; exact e
/-- a set just made -/
abbrev setO0 (w : World) : Obj := { cls := .type "set", dict := none, data := .set #[] 0 (.fresh 0 0 (!w.params.followText "set-order")) }
local macro_rules | `(tactic| walk_at "stp") => `(tactic| repeat (any_goals (first | assumption | wp_step)))
/-- set.__init__ of a set just made, by a list -/
theorem initG {l S : Addr} {its : List Value} {ks : List K} {Q : Value → Shared → Prop} (hh : A.handled = none) (hS : s.heap.get? S = some (setO0 w)) (hl : s.heap.IsList l its.toArray) (hlen : ks.length = its.length) (hv : ∀ (i : Nat) v, its[i]? = some v → ∃ k t, ks[i]? = some k ∧ v = c.vl k t) (hb : ks.length + 1 < scanBound)
    (h : ∀ (h' : Heap) (tk : Nat), SetG c h' S ks → (∀ b o, b ≠ S → s.heap.get? b = some o → h'.get? b = some o) → Q .none { s with heap := h', toks := tk }) :
    codeAny (model P w) A (.call (.builtin "set.__init__") ⟨[.ref S, .ref l], []⟩) (wants Q E) s := by
  have hT : s.TypeIs (.ref S) "set" := ⟨_, hS, rfl⟩
  refine codeAny_call_builtin F.called_set.init.plain F.entry_set_init (check_set_init_1 hT ?_)
  obtain ⟨⟨oc, od, ob, os⟩, ho, h1, n, h2⟩ := hl
  simp only at h1 h2
  subst h1
  subst h2
  have s1 := F.sub_list_set
  have s2 := F.sub_list_frozenset
  have ne : (Value.type "list" == Value.type "dict") = false := by decide
  have hl1 : s.heap.IsList l its.toArray := ⟨_, ho, rfl, n, rfl⟩
  unfold Builtin.«set.__init__» noKeywords Builtin.Frozenset.updateFrom
  generalize hZ : pyIter = Z
  wp_walk
  subst hZ
  refine wpAny_pyIter_list hl1 (wpAny_bind (wpAny_runValue ?_))
  have lt : l < s.heap.objs.size := Heap.lt_size ho
  have ltS : S < s.heap.objs.size := Heap.lt_size hS
  have hl2 : l ≠ S := fun e => by rw [e, hS] at ho; injection ho with ho; injection ho with ho; exact absurd ho (by decide)
  have len : ks.length = its.toArray.size := by rw [hlen, List.size_toArray]
  have val : ∀ (i : Nat) (v : Value), its.toArray[i]? = some v → ∃ k t, ks[i]? = some k ∧ v = c.vl k t := fun i v e => hv i v (by simpa using e)
  have h3 : A.in1.in1.handled = none := by simp [hh]
  have neI : l ≠ s.heap.objs.size := Nat.ne_of_lt lt
  have nS : S ∉ [s.heap.objs.size, l] := by
    simp only [List.mem_cons, List.not_mem_nil, or_false, not_or]
    exact ⟨Nat.ne_of_lt ltS, Ne.symm hl2⟩
  have hS1 : (s.heap.push { cls := .type "list_iterator", data := .fields #[.ref l, .int 0 0] }).get? S = some (setO0 w) := Heap.get?_push_of_some _ hS
  refine loopG (c := c) ((Walks.list h3 _ l neI its.toArray).toS) S nS ks len (by rw [← len]; exact hb) val (its.toArray.size - 0) 0 _ rfl (Nat.zero_le _) ⟨⟨_, Heap.get?_push_size _ rfl, rfl, rfl⟩, hl1.push _⟩ (freshG hS1) fun s' hm hR => ?_
  obtain ⟨h', g', d', tk', os'⟩ := s'
  obtain rfl : g' = s.gens := hm.gens
  obtain rfl : d' = s.drawn := hm.drawn
  obtain rfl : os' = s.os := hm.os
  refine wpAny_pure (wpAny_pure (h h' tk' hR fun b o nb e => ?_))
  exact hm.heap b o (by
    simp only [List.mem_cons, List.not_mem_nil, or_false, not_or]
    exact ⟨nb, Nat.ne_of_lt (Heap.lt_size e)⟩) (Heap.get?_push_of_some _ e)
/-- set(xs) of a list -/
theorem callG {l : Addr} {its : List Value} {ks : List K} {Q : Value → Shared → Prop} (hh : A.handled = none) (hl : s.heap.IsList l its.toArray) (hlen : ks.length = its.length) (hv : ∀ (i : Nat) v, its[i]? = some v → ∃ k t, ks[i]? = some k ∧ v = c.vl k t) (hb : ks.length + 1 < scanBound)
    (h : ∀ (h' : Heap) (tk : Nat), SetG c h' s.heap.objs.size ks → (∀ b o, s.heap.get? b = some o → h'.get? b = some o) → Q (.ref s.heap.objs.size) { s with heap := h', toks := tk }) : wpAny (model P w) A (call (.type "set") [.ref l]) Q E s := by
  obtain ⟨b0, tl, mro⟩ := F.called_set.mro
  have made := F.called_set.made
  have sub := F.called_set.sub
  refine wpAny_call (codeAny_of_tree (show wpAny _ _ (callAny (.type "set") ⟨[.ref l], []⟩) _ _ _ from ?_))
  refine wpAny_pure ⟨Code.quiet_builtin _ (by decide +kernel), codeAny_builtin F.entry_type_call ?_⟩
  rw [Around.under_plain (weight_type_call_type "set" [.ref l] []) rfl]
  have n1 := F.called_set.notType
  have n2 := F.called_set.canCreate
  have n3 := F.typeCall_set_1 (.ref l)
  walk_at "stp"
  refine codeAny_mono (code_set_led1 (.ref l) (E := E) (Q₁ := fun obj s1 => obj = .ref s.heap.objs.size ∧ s1 = { s with heap := s.heap.push (setO0 w) }) ⟨rfl, rfl⟩) fun r s1 hr => ?_
  match r, hr with
  | .error e, hr => exact hr
  | .ok (.ret obj), hr =>
    obtain ⟨rfl, rfl⟩ := hr
    have hS : (s.heap.push (setO0 w)).get? s.heap.objs.size = some (setO0 w) := Heap.get?_push_size _ rfl
    have hT : Shared.TypeIs { s with heap := s.heap.push (setO0 w) } (.ref s.heap.objs.size) "set" := ⟨_, hS, rfl⟩
    have lk := F.called_set.init.lookup
    have bd := F.called_set.init.bind (.ref s.heap.objs.size)
    walk_at "stp"
    refine codeAny_mono (initG (c := c) (E := E) (s := { s with heap := s.heap.push (setO0 w) }) (Q := fun r s2 => r = .none ∧ ∃ h' tk, s2 = { s with heap := h', toks := tk } ∧ SetG c h' s.heap.objs.size ks ∧ ∀ b o, s.heap.get? b = some o → h'.get? b = some o) (by simp [hh]) hS (hl.push _) hlen hv hb fun h' tk hs kp => ⟨rfl, h', tk, rfl, hs, fun b o e => kp b o (Nat.ne_of_lt (Heap.lt_size e)) (Heap.get?_push_of_some _ e)⟩) fun r2 s2 hr2 => ?_
    match r2, hr2 with
    | .error e, hr2 => exact hr2
    | .ok (.ret v), hr2 =>
      obtain ⟨rfl, h', tk, rfl, hs, kp⟩ := hr2
      walk_at "stp"
      exact h _ _ hs kp
theorem each_ent : ∀ m : List (K × Tok), PySem.W.EachIs (fun v k => ∃ t, v = c.vl k t) (m.map fun p => c.vl p.1 p.2) (m.map (·.1))
  | [] => .nil
  | x :: m => .cons ⟨x.2, rfl⟩ (each_ent m)
/-- sorted of such a set: ms are its keys, each once -/
theorem sortG {ks : List K} {enc : K → PyData} {Q : Value → Shared → Prop} (R : SetG c s.heap a ks) (hh : A.handled = none) (hrd : ∀ h k t, ∃ as, Reads h (c.vl k t) (enc k) as) (hna : ∀ (h : Heap) k t as b, Reads h (c.vl k t) (enc k) as → b ∉ as) (hal : ∀ k k', PySem.W.alike (enc k) (enc k') = true) (hok : ∀ k, enc k ≠ .none ∧ ∀ xs, enc k ≠ .tuple xs) (hdp : ∀ k, (enc k).depth = 0) (hu : A.units + 65 < cLine)
    (hQ : ∀ s' p (out : List Value) (n : Nat) (ms : List K), (∀ b o, s.heap.get? b = some o → s'.heap.get? b = some o) → s'.gens = s.gens → s'.os = s.os → s.heap.objs.size ≤ p → s'.heap.get? p = some (seqObj "list" out.toArray n) → ms.Nodup → (∀ k, k ∈ ms ↔ k ∈ ks) →
      PySem.W.EachIs (fun v k => ∃ t, v = c.vl k t) out (ms.mergeSort (PySem.W.dataLe false enc)) → Q (.ref p) s') : wpAny (model P w) A (call (.builtin "sorted") [.ref a]) Q E s := by
  obtain ⟨o, es, ep, t, ⟨ho, hex, hd⟩, he, hb, hT⟩ := R
  obtain ⟨l, hl, nd, hm, _⟩ := he.ex
  refine Calls.call_function_entry kind_sorted plain_sorted entry_sorted (args_sorted1 _) ?_
  unfold Builtin.«sorted»
  refine wpAny_bind (m := checkCount "sorted" 1 1 _) (wpAny_pure (wpAny_bind (collect_set (A := A.in1) hh ⟨o, ho, hex.1, hd⟩ hT.fit hb hT.ris hT.led fun s1 vs k1 hz g1 o1 pm => ?_)))
  have pm : vs.Perm (l.map fun p => c.vl p.1 p.2) := by
    rw [hl, List.map_map] at pm; exact pm
  obtain ⟨m, rfl, p2⟩ := perm_back pm rfl
  have hsz : (m.map fun p => c.vl p.1 p.2).length ≤ sizeLine := by
    have := congrArg List.length hl
    rw [List.length_map, p2.length_eq, sizeLine_eq]
    rw [Array.length_toList, List.length_map] at this
    have : scanBound ≤ 16777216 := by decide
    omega
  refine wpAny_bind (wpAny_newList ?_ hsz)
  have hL : (s1.heap.push (seqObj "list" (m.map fun p => c.vl p.1 p.2).toArray 0)).get? s1.heap.objs.size = some (seqObj "list" (m.map fun p => c.vl p.1 p.2).toArray 0) := Heap.get?_push_size _ rfl
  have e1 : PySem.W.EachIs (fun v k => ∃ t, v = c.vl k t) (m.map fun p => c.vl p.1 p.2) (m.map (·.1)) := by
    exact each_ent m
  have hlen : (m.map (·.1)).length ≤ sizeLine := by rw [List.length_map] at hsz ⊢; exact hsz
  refine wpAny_bind (wpAny_holding (PySem.W.list_sort_data (enc := enc) hL e1 (e1.mono fun v k z => by
      obtain ⟨t, rfl⟩ := z
      obtain ⟨as, r⟩ := hrd (s1.heap.push (seqObj "list" (m.map fun p => c.vl p.1 p.2).toArray 0)) k t
      exact ⟨as, r, hna _ _ _ _ _ r⟩) (PySem.W.AllAlike.of hal) (PySem.W.Sortable.others hok) hlen (fun k _ => by rw [hdp]; show A.units + 1 + 1 + 0 < cLine; omega) fun out lo eo => ?_))
  · obtain ⟨n, hn⟩ := sortedHeap_at (vs := m.map fun p => c.vl p.1 p.2) (out := out.toArray) hL
    refine wpAny_pure ⟨_, rfl, hQ _ s1.heap.objs.size out n (m.map (·.1)) (fun b u e => ?_) g1 o1 hz hn ((p2.map _).nodup_iff.mpr nd) (fun k => ((p2.map _).mem_iff).trans (hm k)) eo⟩
    have q := k1 b u e
    have lt := Heap.lt_size q
    rw [sortedHeap_old (Nat.ne_of_lt lt) (by rw [size_push']; exact Nat.lt_succ_of_lt lt)]
    exact Heap.get?_push_of_some _ q
end
def setHO {P : Program} {w : World} {K : Type} [DecidableEq K] (c : Ks P w K) (a : Addr) (ks : List K) : HO := .ext fun h => SetG c h a ks
def ksI (P : Program) (w : World) : Ks P w Int := ⟨intKind P w, Value.int, intKind_is P w, fun _ _ => rfl⟩
def ksS (P : Program) (w : World) : Ks P w Str := ⟨strKind P w, Value.str, strKind_is P w, fun _ _ => rfl⟩
section
variable {X : Cx} {K : Type} [DecidableEq K] {c : Ks X.prog X.w K} {mkV : K → V} {enc : K → PyData}
theorem setHO_ok {P : Program} {w : World} {c : Ks P w K} {H : Hp} {h : Heap} {a : Addr} {ks : List K} (R : SetG c h a ks) : ObjOk P w H h a (setHO c a ks) := by
  have ⟨o, _, _, _, ⟨ho, _⟩, _⟩ := R
  exact ⟨R, ⟨o, ho⟩, fun h1 h2 p k => SetG.keep p k⟩
/-- set(xs), xs a list of keys -/
def rSetG (K0 : PySem.W.Frag) {P : Program} {w : World} (c : Ks P w K) (mkV : K → V) : List V → Hp → VK → Prop := fun xs H Q => ∃ l ks, xs = [.ref l] ∧ SqL K0 H l (ks.map mkV) ∧ ks.length ≤ 1000 ∧ ∀ p, H p = none → Q (.ref p) (upd H p (setHO c p ks))
/-- sorted(s), s such a set -/
def rSortG {P : Program} {w : World} (c : Ks P w K) (mkV : K → V) (enc : K → PyData) : List V → Hp → VK → Prop := fun xs H Q => ∃ a ks, xs = [.ref a] ∧ H a = some (setHO c a ks) ∧
  ∀ p (ms : List K), ms.Nodup → (∀ k, k ∈ ms ↔ k ∈ ks) → H p = none → Q (.ref p) (upd H p (.lst ((ms.mergeSort (PySem.W.dataLe false enc)).map mkV)))
theorem vals_keys (hv : ∀ k v, RelV (mkV k) v → ∃ t, v = c.vl k t) : ∀ {ks : List K} {its : List Value}, Vals (ks.map mkV) its → ks.length = its.length ∧ ∀ (i : Nat) v, its[i]? = some v → ∃ k t, ks[i]? = some k ∧ v = c.vl k t
  | [], its, h => by cases h; exact ⟨rfl, fun i v e => by simp at e⟩
  | k :: ks, its, h => by
    have h : Vals (mkV k :: ks.map mkV) its := h
    cases h with
    | cons h1 h2 =>
      obtain ⟨e1, e2⟩ := vals_keys hv h2
      refine ⟨by rw [List.length_cons, List.length_cons, e1], fun i v e => ?_⟩
      cases i with
      | zero =>
        have e := Option.some.inj e
        subst e
        obtain ⟨t, rfl⟩ := hv _ _ h1
        exact ⟨k, t, rfl, rfl⟩
      | succ i => exact e2 i v e
theorem keys_vals (hr : ∀ k t, RelV (mkV k) (c.vl k t)) : ∀ {out : List Value} {ks : List K}, PySem.W.EachIs (fun v k => ∃ t, v = c.vl k t) out ks → Vals (ks.map mkV) out
  | _, _, .nil => .nil
  | _, _, .cons ⟨t, e⟩ h => by subst e; exact .cons (hr _ t) (keys_vals hr h)
theorem cr_setG (hc : X.calm = true) (hv : ∀ k v, RelV (mkV k) v → ∃ t, v = c.vl k t) : CallR X (.type "set") (rSetG X.K c mkV) := by
  intro pins s σ H vs us Q I r h
  obtain ⟨l, ks, rfl, hs, hk, q⟩ := h
  obtain ⟨its, rv, hl, _⟩ := I.list hs
  obtain ⟨u, rfl, ru⟩ := vals1 r
  obtain rfl : u = Value.ref l := ru
  obtain ⟨e1, e2⟩ := vals_keys hv rv
  have hsc : 1001 < scanBound := by decide
  refine callG (c := c) (I.ok.hd hc) hl.isList e1 e2 (by omega) fun h' tk hS kp => ?_
  exact ⟨.ref _, upd H s.heap.objs.size (setHO c s.heap.objs.size ks), I.laid (t' := tk) kp (Nat.le_refl _) (setHO_ok hS), rfl, q _ (I.hok.fresh (Nat.le_refl _))⟩
theorem cr_sortG (hc : X.calm = true) (hu : X.A.units + 65 < cLine) (hr : ∀ k t, RelV (mkV k) (c.vl k t)) (hrd : ∀ h k t, ∃ as, Reads h (c.vl k t) (enc k) as) (hna : ∀ (h : Heap) k t as b, Reads h (c.vl k t) (enc k) as → b ∉ as) (hal : ∀ k k', PySem.W.alike (enc k) (enc k') = true) (hok : ∀ k, enc k ≠ .none ∧ ∀ xs, enc k ≠ .tuple xs)
    (hdp : ∀ k, (enc k).depth = 0) : CallR X (.builtin "sorted") (rSortG c mkV enc) := by
  intro pins s σ H vs us Q I r h
  obtain ⟨a, ks, rfl, ha, q⟩ := h
  obtain ⟨u, rfl, ru⟩ := vals1 r
  obtain rfl : u = Value.ref a := ru
  have R : SetG c s.heap a ks := (I.hok a _ ha).1
  refine sortG (c := c) R (I.ok.hd hc) hrd hna hal hok hdp hu fun s' p out n ms kp g1 o1 hp hg nd hm eo => ?_
  have hn : H p = none := I.hok.fresh hp
  have hlen : ((ms.mergeSort (PySem.W.dataLe false enc)).map mkV).length ≤ sizeLine := by
    obtain ⟨o, es, ep, t, _, he, hb, _⟩ := R
    obtain ⟨l, hl, nd2, hm2, _⟩ := he.ex
    have pl : ms.Perm (l.map (·.1)) := (List.perm_ext_iff_of_nodup nd nd2).mpr fun k => (hm k).trans (hm2 k).symm
    have e := congrArg List.length hl
    rw [Array.length_toList, List.length_map] at e
    rw [List.length_map, List.length_mergeSort, pl.length_eq, List.length_map, ← e, sizeLine_eq]
    have : scanBound ≤ 16777216 := by decide
    omega
  have J : Inv X pins σ (upd H p (.lst ((ms.mergeSort (PySem.W.dataLe false enc)).map mkV))) { s with heap := s'.heap, gens := s'.gens, drawn := s'.drawn, toks := s'.toks } :=
    I.call (ch := []) (Un.laid kp hp hn) (I.hok.laid kp hp ⟨hlen, out, n, keys_vals hr eo, hg⟩) (by rw [g1]; exact I.bare) (fun _ z => nomatch z)
  have e : s' = { s with heap := s'.heap, gens := s'.gens, drawn := s'.drawn, toks := s'.toks } := by
    obtain ⟨h1, h2, h3, h4, h5⟩ := s'
    obtain rfl : h5 = s.os := o1
    rfl
  rw [e]
  exact ⟨.ref p, _, J, rfl, q p ms nd hm hn⟩
end
section
variable {X : Cx}
abbrev encI (k : Int) : PyData := .int k
abbrev encS (k : Str) : PyData := .str k
def rSet2 (X : Cx) : List V → Hp → VK → Prop := fun xs H Q => rSetG X.K (ksI X.prog X.w) V.int xs H Q ∨ rSetG X.K (ksS X.prog X.w) V.str xs H Q
def rSort2 (X : Cx) : List V → Hp → VK → Prop := fun xs H Q => rSortG (ksI X.prog X.w) V.int encI xs H Q ∨ rSortG (ksS X.prog X.w) V.str encS xs H Q
theorem cr_set2 (hc : X.calm = true) : CallR X (.type "set") (rSet2 X) := CallR.or (cr_setG hc fun _ _ h => h) (cr_setG hc fun _ _ h => h)
theorem cr_sort2 (hc : X.calm = true) (hu : X.A.units + 65 < cLine) : CallR X (.builtin "sorted") (rSort2 X) :=
  CallR.or (cr_sortG hc hu (fun k t => ⟨t, rfl⟩) (fun _ k t => ⟨[], Reads.int k t⟩) (fun _ _ _ _ _ r => by cases r; exact fun h => nomatch h) (fun _ _ => rfl) (fun _ => ⟨fun h => (nomatch h), fun _ h => (nomatch h)⟩) fun _ => by simp [PyData.depth])
    (cr_sortG hc hu (fun k t => ⟨t, rfl⟩) (fun _ k t => ⟨[], Reads.str k t⟩) (fun _ _ _ _ _ r => by cases r; exact fun h => nomatch h) (fun _ _ => rfl) (fun _ => ⟨fun h => (nomatch h), fun _ h => (nomatch h)⟩) fun _ => by simp [PyData.depth])
/-- sorted(set(a)) -/
theorem pe_sset {a : Expr} {ta : TE} {p p2 pos pos2 : Pos} (hc : X.calm = true) (hu : X.A.units + 65 < cLine) (hg : Gl X "sorted") (hm : X.mg "sorted" = none) (hg2 : Gl X "set") (hm2 : X.mg "set" = none) (ha : PE X a ta) (na : starEach [a] X.env = (false, eval a X.env) :: starEach [] X.env) :
    PE X (.Call (.Name "sorted" p) [.Call (.Name "set" p2) [a] [] pos2] [] pos) (fun σ H Q => ta σ H fun x H1 => rSet2 X [x] H1 fun y H2 => rSort2 X [y] H2 Q) := by
  have h1 := pe_callTy (p := p2) (pos := pos2) (cr_set2 hc) hg2 hm2 (by rfl) (pa_cons ha pa_nil na) (he := na)
  exact pe_callB (p := p) (pos := pos) (cr_sort2 hc hu) hg hm (by rfl) (pa_cons h1 pa_nil)
end
end Ev

namespace Ev
open PySem PySem.Spec PyProof.Rows L2
section
variable {X : Cx} {c : Cg} {e : Expr} {es : List Expr} {ie : IE} {ies : List IE} {p pos : Pos} {x : Str}
theorem sE_blt {b : Blt} (hb : bSup b = true) (hK : X.K = c.K) (hc : X.calm = true) (gd : X.A.guards = some []) (hu : X.A.units + 65 < cLine) (hg : Gl X x) (hm : X.mg x = none) (hv : bootBuiltins x = some (bVal b)) (ha : PA X (e :: es) (TRs_ c ies)) (hn : x ≠ "__name__")
    (hdb : (x == ("__debug__" : Str)) = false) (he : starEach (e :: es) X.env = (false, eval e X.env) :: starEach es X.env) (hpl : (backTo pos (starEach es X.env)).any (·.1) = false) : PE X (.Call (.Name x p) (e :: es) [] pos) (TE_ c (.blt b ies)) := by
  have hf : (∃ id, bVal b = .builtin id) ∨ ∃ T, bVal b = .type T := by
    cases b <;> first | (cases hb; done) | exact .inl ⟨_, rfl⟩ | exact .inr ⟨_, rfl⟩
  refine PE.imp (pe_callK1 (cr_bl hc gd hu b hb) hg hm hv hf ha hn hdb he hpl) fun σ H Q => ?_
  rintro ⟨B, φ, α, env, st, Kk, Xk, W, w, q, xk⟩
  rw [hK]
  exact ⟨B, φ, α, env, st, _, Xk, W, w, fun ds e1 s1 k vs B1 H1 φ1 α1 W1 s r => blt_ok hb W1 r k (OutOk.of (s.weak (q2 := false) fun h => nomatch h) q), xk⟩
/-- classes as arguments: their names alone, or a tuple of them -/
def TTy (ts : List Ty) : TA := fun _ H Q => Q (ts.map fun t => V.ty (tyStr t)) H
theorem tys_cls : ∀ ts : List Ty, Paired ClsV (ts.map fun t => V.ty (tyStr t)) (ts.map fun t => Value.type (tyStr t))
  | [] => .nil
  | t :: ts => .cons (.ty _) (tys_cls ts)
theorem sTy_nil : PA X [] (TTy []) := pa_nil
theorem sTy_cons {t : Ty} {ts : List Ty} {y : Str} {py : Pos} (hg : Gl X y) (hm : X.mg y = none) (hv : bootBuiltins y = some (.type (tyStr t))) (r : PA X es (TTy ts)) (hdb : (y == ("__debug__" : Str)) = false) (hn : y ≠ "__name__")
    (hs : starEach (.Name y py :: es) X.env = (false, eval (.Name y py) X.env) :: starEach es X.env) : PA X (.Name y py :: es) (TTy (t :: ts)) :=
  PA.imp (pa_cons (pe_bltn (v := V.ty (tyStr t)) hg hm hv rfl hn hdb) r hs) fun _ _ _ h => h
theorem sE_isi {t : Ty} {y : Str} {py : Pos} (ht : tySup t = true) (hK : X.K = c.K) (hg : Gl X x) (hm : X.mg x = none) (hv : bootBuiltins x = some (.builtin "isinstance")) (hgy : Gl X y) (hmy : X.mg y = none) (hvy : bootBuiltins y = some (.type (tyStr t)))
    (ha : PE X e (TR_ c ie)) (hn : x ≠ "__name__") (hdb : (x == ("__debug__" : Str)) = false) (hny : y ≠ "__name__") (hdy : (y == ("__debug__" : Str)) = false)
    (h1 : starEach (e :: [.Name y py]) X.env = (false, eval e X.env) :: starEach [.Name y py] X.env) (h2 : starEach [.Name y py] X.env = (false, eval (.Name y py) X.env) :: starEach [] X.env) (hpl : (backTo pos (starEach [.Name y py] X.env)).any (·.1) = false) :
    PE X (.Call (.Name x p) [e, .Name y py] [] pos) (TE_ c (.blt (.isi [t]) [ie])) := by
  refine PE.imp (pe_callK1 call_isi hg hm hv (.inl ⟨_, rfl⟩) (pa_cons ha (sTy_cons hgy hmy hvy sTy_nil hdy hny h2) h1) hn hdb h1 hpl) fun σ H Q => ?_
  rintro ⟨B, φ, α, env, st, Kk, Xk, W, w, q, xk⟩
  rw [hK]
  refine ⟨B, φ, α, env, st, _, Xk, W, wRs1 w, fun d e1 s1 ⟨_, ok, k⟩ v B1 H1 φ1 α1 f W1 s r _ => ?_, xk⟩
  refine ⟨v, _, _, _, _, rfl, .ty _, rep_ty W1.le ok r, kit_ty (kit_tnm ok ht), ?_⟩
  refine q (.bl (isTy d t)) e1 s1 ?_ (.bl (isTy d t)) B1 H1 φ1 α1 [] W1 (s.weak fun h => nomatch h) (Tmp.of_nil ⟨rfl, rfl⟩)
  have : [t].any (isTy d) = isTy d t := by simp
  rw [← this]; exact k
theorem isTy_fz (x : D) (t : Ty) : isTy (fz x) t = isTy x t := by cases t <;> cases x <;> rfl
theorem sE_isiT {ts : List Ty} {tys : List Expr} {k1 : Nat} {p1 : Pos} (ht : ts.all tySup = true) (hK : X.K = c.K) (hg : Gl X x) (hm : X.mg x = none) (hv : bootBuiltins x = some (.builtin "isinstance")) (hty : PA X tys (TTy ts)) (hl : ts.length ≤ Lim)
    (ha : PE X e (TR_ c ie)) (hn : x ≠ "__name__") (hdb : (x == ("__debug__" : Str)) = false)
    (h1 : starEach (e :: [.Tuple tys k1 p1]) X.env = (false, eval e X.env) :: starEach [.Tuple tys k1 p1] X.env) (h2 : starEach [.Tuple tys k1 p1] X.env = (false, eval (.Tuple tys k1 p1) X.env) :: starEach [] X.env) (hpl : (backTo pos (starEach [.Tuple tys k1 p1] X.env)).any (·.1) = false) :
    PE X (.Call (.Name x p) [e, .Tuple tys k1 p1] [] pos) (TE_ c (.blt (.isi ts) [ie])) := by
  refine PE.imp (pe_callK1 call_isiT hg hm hv (.inl ⟨_, rfl⟩) (pa_cons ha (pa_cons (pe_tup hty) pa_nil h2) h1) hn hdb h1 hpl) fun σ H Q => ?_
  rintro ⟨B, φ, α, env, st, Kk, Xk, W, w, q, xk⟩
  rw [hK]
  refine ⟨B, φ, α, env, st, _, Xk, W, wRs1 w, fun d e1 s1 ⟨_, ok, k⟩ v B1 H1 φ1 α1 f W1 s r _ => ⟨by rw [List.length_map]; exact hl, fun pt hp => ?_⟩, xk⟩
  obtain ⟨W2, s2⟩ := W1.allocB hp (.tup (ts.map fun t => V.ty (tyStr t)))
  have r2 := Rep.ext s2.mono s2.pre d v f (fun a m o e => s2.same rfl a o e) r
  refine ⟨v, pt, _, _, _, _, rfl, upd_same, tys_cls ts, rep_ty W2.le ok r2, kit_any ok ht, ?_⟩
  exact q _ e1 s1 k _ _ _ φ1 α1 [] W2 ((s.trans s2).weak fun h => nomatch h) (Tmp.of_nil ⟨rfl, rfl⟩)
end

/-- what leaves a def: its value, or a refusal -/
def CRx (outer : List PySem.Env) (P : Program) (w : World) (H : Hp) (s : Shared) (Q : VK) (E : XK) (r : Result) (s' : Shared) : Prop := CR (CX P w) outer P w H s Q E r s'
/-- a def's promise, asked where no repr runs -/
structure FnE (P : Program) (w : World) (K : Frag) (mg : Str → Option Value) (base : Heap) (k : Nat) (f : Addr) (fd : FuncData) (ps : List Str) (sp : Sp) : Prop where
  len : ∀ vs H Q E, sp vs H Q E → vs.length = ps.length
  run : ∀ (A : Around) (outer : List PySem.Env) (s : Shared) (H : Hp) (args : Args) (us : List Value) (vs : List V) (Q : VK) (E : XK),
    Room k A → A.guards = some [] → Env0 P w K mg base A outer s H → BindsTo s fd args (ps.zip us) → Vals vs us → sp vs H Q E →
    codeAny (model P w) A (.call (.ref f) args) (CRx outer P w H s Q E) s
theorem FnE.mono {P : Program} {w : World} {K : Frag} {mg : Str → Option Value} {base : Heap} {j k : Nat} {f : Addr} {fd : FuncData} {ps : List Str} {sp : Sp} (F : FnE P w K mg base j f fd ps sp) (h : j ≤ k) : FnE P w K mg base k f fd ps sp :=
  ⟨F.len, fun A outer s H args us vs Q E hr => F.run A outer s H args us vs Q E (hr.mono h)⟩
/-- how a call's things come to a def's names: n by place, then those named; pm tells where each comes from -/
structure Shp (K : Frag) (fd : FuncData) (ps : List Str) (n : Nat) (ks : List Str) (g : List V → List V) : Prop where
  to : ∀ (s : Shared) (us ws : List Value), K.In s.heap → us.length = n → ws.length = ks.length →
    ∃ full : List Value, BindsTo s fd ⟨us, ks.zip ws⟩ (ps.zip full) ∧ ∀ vs zs, Vals vs us → Vals zs ws → Vals (g (vs ++ zs)) full
def tCallE (n m : Nat) (sp : Sp) (g : List V → List V) (W : WX) (t tk : TA) : TE := fun σ H Q => t σ H fun vs H1 => tk σ H1 fun zs H2 => vs.length = n ∧ zs.length = m ∧ sp (g (vs ++ zs)) H2 Q fun cls d H' => W cls d σ H'
section
variable {X : Cx} {e : Expr} {es : List Expr} {kws : List Keyword} {p pos : Pos} {x : Str} {k n : Nat} {f : Addr} {fd : FuncData} {ps ks : List Str} {sp : Sp} {g : List V → List V} {W : WX} {t tk : TA}
theorem run_fnE {pins : List (Addr × Obj)} {σ : LSt} {H : Hp} {s : Shared} {Q : VK} {us ws : List Value} {vs zs : List V} (F : FnE X.prog X.w X.K X.mg X.base k f fd ps sp) (hr : Room k X.A) (hg : X.A.guards = some []) (hb : Shp X.K fd ps n ks g) (hx : Takes X W)
    (I : Inv X pins σ H s) (r : Vals vs us) (rz : Vals zs ws) (l1 : vs.length = n) (l2 : zs.length = ks.length) (h : sp (g (vs ++ zs)) H Q fun cls d H' => W cls d σ H') : wpAny (model X.prog X.w) X.A (call (.ref f) us (ks.zip ws)) (EP X pins σ Q) X.xe s := by
  obtain ⟨full, b, rel⟩ := hb.to s us ws I.kIn (r.length ▸ l1) (rz.length ▸ l2)
  have step := F.run X.A X.stack s H ⟨us, ks.zip ws⟩ full (g (vs ++ zs)) Q _ hr hg I.env0 b (rel vs zs r rz) h
  refine wpAny_call (codeAny_mono step fun res s' hq => ?_)
  match res, hq with
  | .error e, hq => exact hx e s' (XE.of_call I (fun _ _ _ z => z) hq)
  | .ok (.ret u), hq => exact I.after hq
  | .ok .next, hq => exact False.elim hq
  | .ok .brk, hq => exact False.elim hq
  | .ok .cont, hq => exact False.elim hq
/-- the keywords' things, then the def -/
theorem kw_callE {pins : List (Addr × Obj)} {σ : LSt} {Q : VK} {us : List Value} {vs : List V} {H1 : Hp} {s1 : Shared} (F : FnE X.prog X.w X.K X.mg X.base k f fd ps sp) (hr : Room k X.A) (hg : X.A.guards = some []) (hb : Shp X.K fd ps n ks g) (hx : Takes X W)
    (hkw : PK X kws tk) (hks : (backToKw pos (keywordEach kws X.env)).filterMap (·.1) = ks) (I1 : Inv X pins σ H1 s1) (r : Vals vs us) (q : tk σ H1 (fun zs H2 => vs.length = n ∧ zs.length = ks.length ∧ sp (g (vs ++ zs)) H2 Q fun cls d H' => W cls d σ H')) :
    wpAny (model X.prog X.w) X.A (evalAll ((backToKw pos (keywordEach kws X.env)).map (·.2))) (fun kv s₂ => X.K.In s₂.heap ∧ wpAny (model X.prog X.w) X.A (call (.ref f) us (((backToKw pos (keywordEach kws X.env)).filterMap (·.1)).zip kv)) (EP X pins σ Q) X.xe s₂) X.xe s1 :=
  thn (hkw.run pos pins s1 σ H1 _ I1 q) fun ws s2 ⟨zs, H2, I2, rz, l1, l2, q2⟩ => ⟨I2.kIn, by rw [hks]; exact run_fnE F hr hg hb hx I2 r rz l1 l2 q2⟩
theorem pe_callE (F : FnE X.prog X.w X.K X.mg X.base k f fd ps sp) (hr : Room k X.A) (hg : X.A.guards = some []) (hb : Shp X.K fd ps n ks g) (hx : Takes X W) (hgl : Gl X x) (hm : X.mg x = some (.ref f)) (hk : PySem.W.keepIn X.K (.ref f) = true)
    (ha : PA X (e :: es) t) (hkw : PK X kws tk) (hall : (backToKw pos (keywordEach kws X.env)).all (·.1.isSome) = true) (hks : (backToKw pos (keywordEach kws X.env)).filterMap (·.1) = ks) (hdb : (x == ("__debug__" : Str)) = false)
    (he : starEach (e :: es) X.env = (false, eval e X.env) :: starEach es X.env) (hpl : ((backTo pos (starEach (e :: es) X.env)).any (·.1) || (backToKw pos (keywordEach kws X.env)).any (·.1.isNone)) = false) :
    PE X (.Call (.Name x p) (e :: es) kws pos) (tCallE n ks.length sp g W t tk) :=
  ⟨fun pins s σ H Q I h => wpAny_Call_Name_kw (ld_glob I hgl hm
    (PySem.W.callWith_KW (h₀ := X.base) I.ok.mod.kin hk hall (thn (ha.run pos pins s σ H _ I h) fun us s1 ⟨vs, H1, I1, r, q⟩ => kw_callE F hr hg hb hx hkw hks I1 r q) hpl he) hdb)⟩
theorem pe_callE0 (F : FnE X.prog X.w X.K X.mg X.base k f fd ps sp) (hr : Room k X.A) (hg : X.A.guards = some []) (hb : Shp X.K fd ps 0 ks g) (hx : Takes X W) (hgl : Gl X x) (hm : X.mg x = some (.ref f)) (hk : PySem.W.keepIn X.K (.ref f) = true)
    (hkw : PK X kws tk) (hall : (backToKw pos (keywordEach kws X.env)).all (·.1.isSome) = true) (hks : (backToKw pos (keywordEach kws X.env)).filterMap (·.1) = ks) (hdb : (x == ("__debug__" : Str)) = false)
    (hpl : ((backTo pos (starEach [] X.env)).any (·.1) || (backToKw pos (keywordEach kws X.env)).any (·.1.isNone)) = false) :
    PE X (.Call (.Name x p) [] kws pos) (tCallE 0 ks.length sp g W tNil tk) :=
  ⟨fun pins s σ H Q I h => wpAny_Call_Name_kw (ld_glob I hgl hm
    (PySem.W.callWith_KW0 (h₀ := X.base) I.ok.mod.kin hk hall (kw_callE F hr hg hb hx hkw hks I .nil h) hpl) hdb)⟩
end

/-- vs as a frame's names -/
def spE (K : Frag) (c : Cg) (f : Nat) (np : Nat) : Sp := fun vs H Q E => ∃ B φ α st ds Kk Xk, ds.length = np ∧ Wd K B H (vs.map some) α φ (ds.map some) st ∧ c.F f ds st Kk Xk ∧
  (∀ d st', Kk d st' → ∀ v B' H' φ' α' g, Wd K B' H' [] α' φ' [] st' → Stp false B H φ α B' H' φ' α' → Tmp K B H φ B' H' φ' α' d v g → Q v H') ∧
  (∀ e st', Xk e st' → ∀ B' H' φ' α' cls dx, Wd K B' H' [] α' φ' [] st' → Stp false B H φ α B' H' φ' α' → ExR c B' H' α' e cls dx → E cls dx H')
theorem spE_len {K : Frag} {c : Cg} {f np : Nat} {vs : List V} {H : Hp} {Q : VK} {E : XK} (h : spE K c f np vs H Q E) : vs.length = np := by
  obtain ⟨B, φ, α, st, ds, Kk, Xk, l, W, _⟩ := h
  have := W.len
  rw [List.length_map, List.length_map] at this
  rw [this, l]
section
variable {K : Frag} {B H B1 H1 : Hp} {σ : LSt} {α α1 : List Addr} {φ φ1 : Fp} {env : Env} {st : Stt} {q : Bool}
/-- the footprints of a list of things, one behind the other -/
theorem RepL.parts : ∀ {ds : List D} {vs : List V} {f : List Addr}, RepL K B H α ds vs f → f.Nodup → ∃ gs : Nat → List Addr,
    (∀ (i : Nat) d, ds[i]? = some d → ∃ v, vs[i]? = some v ∧ Rep K B H α d v (gs i)) ∧ (∀ i, ds.length ≤ i → gs i = []) ∧ (∀ i, ∀ a ∈ gs i, a ∈ f) ∧ (∀ i, (gs i).Nodup) ∧ ∀ i j, i ≠ j → ∀ a ∈ gs i, a ∉ gs j
  | [], vs, f, r, _ => ⟨fun _ => [], fun i d h => by simp at h, fun _ _ => rfl, (fun _ _ m => nomatch m), fun _ => List.nodup_nil, fun _ _ _ _ m => nomatch m⟩
  | d :: ds, vs, f, ⟨v, vr, g, h, e, r, q, z⟩, nd => by
    subst z; subst e
    obtain ⟨n1, n2, n3⟩ := List.nodup_append.mp nd
    obtain ⟨gs, p1, p2, p3, p4, p5⟩ := RepL.parts q n2
    refine ⟨fun i => match i with | 0 => g | i + 1 => gs i, fun i d' hd => ?_, fun i hi => ?_, fun i a m => ?_, fun i => ?_, fun i j ne a m m' => ?_⟩
    · cases i with
      | zero => simp at hd; subst hd; exact ⟨v, by simp, r⟩
      | succ i => obtain ⟨u, h1, h2⟩ := p1 i d' (by simpa using hd); exact ⟨u, by simpa using h1, h2⟩
    · cases i with
      | zero => simp at hi
      | succ i => exact p2 i (by simpa using hi)
    · cases i with
      | zero => exact List.mem_append_left _ m
      | succ i => exact List.mem_append_right _ (p3 i a m)
    · cases i with
      | zero => exact n1
      | succ i => exact p4 i
    · cases i with
      | zero => cases j with
        | zero => exact ne rfl
        | succ j => exact n3 a m a (p3 j a m') rfl
      | succ i => cases j with
        | zero => exact n3 a m' a (p3 i a m) rfl
        | succ j => exact p5 i j (fun z => ne (by rw [z])) a m m'
/-- constants among a def's parameters -/
def vOf : D → V
  | .bl b => .bl b
  | .int i => .int i
  | .str x => .str ⟨x.toArray⟩
  | _ => .non
def argV (vs : List V) : Ar → V
  | .ix i => vs.getD i .non
  | .dv d => vOf d
def ixs : List Ar → List Nat
  | [] => []
  | .ix i :: r => i :: ixs r
  | .dv _ :: r => ixs r
/-- each thing comes to one name at most; the others are plain -/
def pmOk (n : Nat) (pm : List Ar) : Bool := (pm.all fun a => match a with | .ix i => decide (i < n) | .dv d => scalar d) && decide (ixs pm).Nodup
theorem rep_vOf {d : D} (h : scalar d = true) : Rep K B H α d (vOf d) [] := by
  cases d <;> first | (cases h; done) | exact ⟨rfl, rfl⟩
theorem mem_ixs {pm : List Ar} {i : Nat} {k : Nat} (h : pm[k]? = some (.ix i)) : i ∈ ixs pm := by
  induction pm generalizing k with
  | nil => simp at h
  | cons a r ih =>
    cases k with
    | zero => simp at h; subst h; exact List.mem_cons_self
    | succ k =>
      have := ih (k := k) (by simpa using h)
      cases a with
      | ix j => exact List.mem_cons_of_mem _ this
      | dv d => exact this
theorem ixs_inj {pm : List Ar} (nd : (ixs pm).Nodup) {i j k : Nat} (h : pm[i]? = some (.ix k)) (h' : pm[j]? = some (.ix k)) : i = j := by
  induction pm generalizing i j with
  | nil => simp at h
  | cons a r ih =>
    cases a with
    | dv d =>
      cases i with
      | zero => simp at h
      | succ i => cases j with
        | zero => simp at h'
        | succ j => exact congrArg (· + 1) (ih nd (i := i) (j := j) (by simpa using h) (by simpa using h'))
    | ix m =>
      have nd' := List.nodup_cons.mp nd
      cases i with
      | zero =>
        simp at h; subst h
        cases j with
        | zero => rfl
        | succ j => exact (nd'.1 (mem_ixs (k := j) (by simpa using h'))).elim
      | succ i => cases j with
        | zero => simp at h'; subst h'; exact (nd'.1 (mem_ixs (k := i) (by simpa using h))).elim
        | succ j => exact congrArg (· + 1) (ih nd'.2 (i := i) (j := j) (by simpa using h) (by simpa using h'))
/-- into a def: its parameters in hand -/
theorem Wd.enter (W : Wd K B H σ α φ env st) {B0 H0 : Hp} {φ0 : Fp} {ds : List D} {vs : List V} {f : List Addr} (t : TmpL K B0 H0 φ0 B H φ α ds vs f) {pm : List Ar} (ok : pmOk ds.length pm = true) :
    ∃ φc : Fp, Wd K B H ((pm.map (argV vs)).map some) α φc ((pm.map (argOf ds)).map some) st ∧ (∀ k, φc (.inr k) = φ (.inr k)) ∧ ∀ i, ∀ a ∈ φc (.inl i), a ∈ f := by
  obtain ⟨gs, p1, p2, p3, p4, p5⟩ := t.rep.parts t.nd
  unfold pmOk at ok
  rw [Bool.and_eq_true_iff] at ok
  have nd := of_decide_eq_true ok.2
  have hall := List.all_eq_true.mp ok.1
  refine ⟨fun w => match w with | .inl i => (match pm[i]? with | some (.ix j) => gs j | _ => []) | .inr k => φ (.inr k), ⟨W.le, by simp, fun i d h => ?_, fun i h => ?_, W.clen, W.cell, W.cbare, fun w => ?_, fun w w' ne a m => ?_, fun w a m => ?_⟩, fun _ => rfl, fun i a m => ?_⟩
  · rw [List.getElem?_map, List.getElem?_map] at h
    rw [List.getElem?_map, List.getElem?_map]
    cases e : pm[i]? with
    | none => rw [e] at h; cases h
    | some a =>
      rw [e] at h
      have hd : argOf ds a = d := by simpa using h
      have hm := hall a (List.mem_of_getElem? e)
      cases a with
      | ix j =>
        have hj : j < ds.length := of_decide_eq_true hm
        have hdj : ds[j]? = some d := by
          have : ds.getD j .non = d := hd
          rw [List.getD_eq_getElem?_getD, List.getElem?_eq_getElem hj] at this
          rw [List.getElem?_eq_getElem hj]; exact congrArg some this
        obtain ⟨v, h1, h2⟩ := p1 j d hdj
        refine ⟨v, ?_, by simpa [e] using h2⟩
        show some (some (vs.getD j .non)) = some (some v)
        rw [List.getD_eq_getElem?_getD, h1]; rfl
      | dv d' =>
        have : d' = d := hd
        subst this
        exact ⟨vOf d', rfl, by simpa [e] using rep_vOf hm⟩
  · cases e : pm[i]? with
    | none => simp [e]
    | some a => exact (h (argOf ds a) (by rw [List.getElem?_map, List.getElem?_map, e]; rfl)).elim
  · cases w with
    | inr k => exact W.nd _
    | inl i =>
      cases e : pm[i]? with
      | none => simp [e]
      | some a => cases a with
        | ix j => simpa [e] using p4 j
        | dv d => simp [e]
  · cases w with
    | inr k => cases w' with
      | inr k' => exact W.dj _ _ ne a m
      | inl i =>
        intro m'
        cases e : pm[i]? with
        | none => simp [e] at m'
        | some b => cases b with
          | ix j => exact t.free a (p3 j a (by simpa [e] using m')) _ m
          | dv d => simp [e] at m'
    | inl i =>
      cases e : pm[i]? with
      | none => simp [e] at m
      | some b => cases b with
        | dv d => simp [e] at m
        | ix j =>
          have mj : a ∈ gs j := by simpa [e] using m
          cases w' with
          | inr k' => exact fun m' => t.free a (p3 j a mj) _ m'
          | inl i' =>
            intro m'
            cases e' : pm[i']? with
            | none => simp [e'] at m'
            | some b' => cases b' with
              | dv d => simp [e'] at m'
              | ix j' =>
                have mj' : a ∈ gs j' := by simpa [e'] using m'
                by_cases hj : j = j'
                · subst hj
                  exact ne (by rw [ixs_inj nd e e'])
                · exact p5 j j' hj a mj mj'
  · cases w with
    | inr k => exact W.out _ a m
    | inl i =>
      cases e : pm[i]? with
      | none => simp [e] at m
      | some b => cases b with
        | dv d => simp [e] at m
        | ix j => exact t.out a (p3 j a (by simpa [e] using m))
  · cases e : pm[i]? with
    | none => simp [e] at m
    | some b => cases b with
      | dv d => simp [e] at m
      | ix j => exact p3 j a (by simpa [e] using m)
/-- back from a def: the names as they were, the cells as they are -/
theorem Wd.back (W : Wd K B H σ α φ env st) {φc : Fp} (hc : ∀ k, φc (.inr k) = φ (.inr k)) {f : List Addr} (hf : ∀ i, ∀ a ∈ φc (.inl i), a ∈ f) (free : ∀ a ∈ f, ∀ w, a ∉ φ w) (hold : ∀ a ∈ f, ∃ o, H a = some o)
    {B2 H2 : Hp} {φ2 : Fp} {α2 : List Addr} {st2 : Stt} (W2 : Wd K B2 H2 [] α2 φ2 [] st2) (s : Stp false B H φc α B2 H2 φ2 α2) :
    ∃ φ' : Fp, Wd K B2 H2 σ α2 φ' env st2 ∧ (∀ i, φ' (.inl i) = φ (.inl i)) ∧ (∀ k, φ' (.inr k) = φ2 (.inr k)) ∧
      (∀ a o, H a = some o → (∀ w, a ∉ φ w) → a ∉ f → H2 a = some o) ∧ (∀ w, ∀ a ∈ φ' w, (∃ w', a ∈ φ w') ∨ a ∈ f ∨ H a = none) ∧ ∀ a o, B2 a = some o → B a = some o ∨ (∃ w, a ∈ φ w) ∨ a ∈ f ∨ H a = none := by
  have nin : ∀ i, ∀ a ∈ φ (.inl i), ∀ w, a ∉ φc w := fun i a m w m' => by
    cases w with
    | inl j => exact free a (hf j a m') _ m
    | inr k => rw [hc] at m'; exact W.dj (.inl i) (.inr k) (fun z => nomatch z) a m m'
  have keep : ∀ i, ∀ a ∈ φ (.inl i), ∀ o, H a = some o → H2 a = some o := fun i a m o e => s.frame a o e (nin i a m)
  refine ⟨fun w => match w with | .inl i => φ (.inl i) | .inr k => φ2 (.inr k), ⟨W2.le, W.len, fun i d h => ?_, W.bare, W2.clen, W2.cell, W2.cbare, fun w => ?_, fun w w' ne a m => ?_, fun w a m => ?_⟩, fun _ => rfl, fun _ => rfl, fun a o e n nf => ?_, fun w a m => ?_, fun a o e => ?_⟩
  · obtain ⟨v, h1, h2⟩ := W.slot i d h
    exact ⟨v, h1, Rep.ext s.mono s.pre d v _ (keep i) h2⟩
  · cases w with
    | inl i => exact W.nd _
    | inr k => exact W2.nd _
  · cases w with
    | inl i => cases w' with
      | inl j => exact W.dj _ _ ne a m
      | inr k =>
        intro m'
        rcases s.new (.inr k) a m' with ⟨w, h⟩ | h
        · exact nin i a m w h
        · obtain ⟨xs, e⟩ := W.there (.inl i) m
          rw [e] at h; cases h
    | inr k => cases w' with
      | inl i =>
        intro m'
        rcases s.new (.inr k) a m with ⟨w, h⟩ | h
        · exact nin i a m' w h
        · obtain ⟨xs, e⟩ := W.there (.inl i) m'
          rw [e] at h; cases h
      | inr k' => exact W2.dj _ _ ne a m
  · cases w with
    | inr k => exact W2.out _ a m
    | inl i =>
      have m : a ∈ φ (.inl i) := m
      cases e : B2 a with
      | none => rfl
      | some o =>
        rcases s.bnew a o e with h | ⟨w, h⟩ | h
        · rw [W.out _ a m] at h; cases h
        · exact (nin i a m w h).elim
        · obtain ⟨xs, e'⟩ := W.there (.inl i) m
          rw [e'] at h; cases h
  · refine s.frame a o e fun w m => ?_
    cases w with
    | inl j => exact nf (hf j a m)
    | inr k => rw [hc] at m; exact n _ m
  · cases w with
    | inl i => exact .inl ⟨_, m⟩
    | inr k =>
      rcases s.new (.inr k) a m with ⟨w, h⟩ | h
      · cases w with
        | inl j => exact .inr (.inl (hf j a h))
        | inr k' => rw [hc] at h; exact .inl ⟨_, h⟩
      · exact .inr (.inr h)
  · rcases s.bnew a o e with h | ⟨w, h⟩ | h
    · exact .inl h
    · cases w with
      | inl j => exact .inr (.inr (.inl (hf j a h)))
      | inr k => rw [hc] at h; exact .inr (.inl ⟨_, h⟩)
    · exact .inr (.inr (.inr h))
end

theorem TmpL.step {K : Frag} {B0 H0 B H B1 H1 : Hp} {φ0 φ φ1 : Fp} {α α1 : List Addr} {q : Bool} {ds : List D} {vs : List V} {f : List Addr} (t : TmpL K B0 H0 φ0 B H φ α ds vs f) (s : Stp q B H φ α B1 H1 φ1 α1) : TmpL K B0 H0 φ0 B1 H1 φ1 α1 ds vs f where
  rep := t.rep.step s t.free
  nd := t.nd
  out := fun a m => by
    cases e : B1 a with
    | none => rfl
    | some o =>
      obtain ⟨xs, hx⟩ := t.rep.there a m
      rcases s.bnew a o e with h | ⟨w, h⟩ | h
      · rw [t.out a m] at h; cases h
      · exact (t.free a m w h).elim
      · rw [hx] at h; cases h
  free := fun a m w h => by
    obtain ⟨xs, hx⟩ := t.rep.there a m
    rcases s.new w a h with ⟨w', h⟩ | h
    · exact t.free a m w' h
    · rw [hx] at h; cases h
  new := t.new
theorem new_back {B H B1 H1 : Hp} {φ φ1 : Fp} {α α1 : List Addr} {q : Bool} (s : Stp q B H φ α B1 H1 φ1 α1) {a : Addr} (h : (∃ w, a ∈ φ1 w) ∨ H1 a = none) : (∃ w, a ∈ φ w) ∨ H a = none := by
  rcases h with ⟨w, h⟩ | h
  · exact s.new w a h
  · by_cases hh : ∃ w, a ∈ φ w
    · exact .inl hh
    · refine .inr ?_
      cases e : H a with
      | none => rfl
      | some o => rw [s.frame a o e fun w m => hh ⟨w, m⟩] at h; cases h
theorem TmpL.app {K : Frag} {B H B1 H1 B2 H2 : Hp} {φ φ1 φ2 : Fp} {α α1 α2 : List Addr} {ds es : List D} {vs ws : List V} {f g : List Addr} (s0 : Stp false B H φ α B1 H1 φ1 α1) (t : TmpL K B H φ B1 H1 φ1 α1 ds vs f) (s : Stp false B1 H1 φ1 α1 B2 H2 φ2 α2) (r : TmpL K B1 H1 φ1 B2 H2 φ2 α2 es ws g) :
    TmpL K B H φ B2 H2 φ2 α2 (ds ++ es) (vs ++ ws) (f ++ g) := by
  have t2 := t.step s
  refine ⟨RepL.append t2.rep r.rep, List.nodup_append.mpr ⟨t2.nd, r.nd, fun a m b m' e => ?_⟩, fun a m => ?_, fun a m => ?_, fun a m => ?_⟩
  · subst e
    rcases r.new a m' with ⟨w, h⟩ | h
    · exact t.free a m w h
    · obtain ⟨xs, e⟩ := t.rep.there a m
      rw [e] at h; cases h
  · exact (List.mem_append.mp m).elim (t2.out a) (r.out a)
  · exact (List.mem_append.mp m).elim (t2.free a) (r.free a)
  · exact (List.mem_append.mp m).elim (t2.new a) fun m => new_back s0 (r.new a m)
section
variable {X : Cx} {c : Cg} {e : Expr} {es : List Expr} {kws : List Keyword} {ie : IE} {ies iks : List IE} {p pos : Pos} {x : Str}
theorem PK.imp {t t' : TA} (h : PK X kws t) (i : ∀ σ H Q, t' σ H Q → t σ H Q) : PK X kws t' := ⟨fun pos pins s σ H Q I w => h.run pos pins s σ H Q I (i σ H Q w)⟩
theorem sK_nil : PK X [] (TAs_ c []) := PK.imp pk_nil fun σ H Q => by
  rintro ⟨B, φ, α, env, st, Kk, Xk, W, w, p, x⟩
  exact p [] env st w [] B H φ α [] W (Stp.refl.weak fun h => nomatch h) TmpL.nil
theorem sK_cons {nm : Option Str} {kp : Pos} (h : PE X e (TE_ c ie)) (r : PK X kws (TAs_ c ies)) : PK X (⟨nm, e, kp⟩ :: kws) (TAs_ c (ie :: ies)) := PK.imp (pk_cons h r) fun σ H Q => by
  rintro ⟨B, φ, α, env, st, Kk, Xk, W, w, p, x⟩
  refine ⟨B, φ, α, env, st, _, Xk, W, w, fun d env' st' k v B' H' φ' α' f W' s t => ?_, x⟩
  refine ⟨B', φ', α', env', st', _, Xk, W', k, fun ds e2 s2 k2 vs B2 H2 φ2 α2 g W2 s' t' => ?_, x.step s⟩
  exact p _ e2 s2 k2 _ B2 H2 φ2 α2 _ W2 ((s.trans s').weak fun h => nomatch h) (Tmp.cons (s.weak fun h => nomatch h) t s' t')
/-- the reading of a call: things, then the def's promise -/
theorem call_read {f np : Nat} {pm : List Ar} (hp : pmOk (ies.length + iks.length) pm = true) (hl : pm.length = np) {σ : LSt} {H : Hp} {Q : VK} {B : Hp} {φ : Fp} {α : List Addr} {env : Env} {st : Stt} {Kk : KE} {Xk : KX} (W : Wd c.K B H σ α φ env st)
    (w : wE c.F (.call f ies iks pm) env st Kk Xk) (p : PostE c false σ B H φ α Kk Q) (xk : PostX c σ B H φ α Xk) :
    tCallE ies.length iks.length (spE c.K c f np) (fun vs => pm.map (argV vs)) c.W (TAs_ c ies) (TAs_ c iks) σ H Q := by
  refine ⟨B, φ, α, env, st, _, Xk, W, w, fun ds e1 s1 ⟨l1, k1⟩ vs B1 H1 φ1 α1 f1 W1 t1 r1 => ?_, xk⟩
  refine ⟨B1, φ1, α1, e1, s1, _, Xk, W1, k1, fun zs e2 s2 ⟨l2, k2⟩ us B2 H2 φ2 α2 f2 W2 t2 r2 => ?_, xk.step t1⟩
  have r12 := TmpL.app t1 r1 t2 r2
  have t12 := (t1.trans t2).weak (q2 := false) fun h => nomatch h
  refine ⟨by rw [← r1.rep.length]; exact l1, by rw [← r2.rep.length]; exact l2, ?_⟩
  obtain ⟨φc, Wc, hc, hf⟩ := W2.enter r12 (pm := pm) (by rw [List.length_append, l1, l2]; exact hp)
  have hold : ∀ a ∈ f1 ++ f2, ∃ o, H2 a = some o := fun a m => let ⟨xs, e⟩ := r12.rep.there a m; ⟨_, e⟩
  refine ⟨B2, φc, α2, s2, pm.map (argOf (ds ++ zs)), _, _, by rw [List.length_map]; exact hl, Wc, k2, fun d st' k v B' H' φ' α' g W' s t => ?_, fun e st' k B' H' φ' α' cls dx W' s x => ?_⟩
  · obtain ⟨φ3, W3, a1, a2, a3, a4, a5⟩ := W2.back hc hf r12.free hold W' s
    have s3 : Stp false B H φ α B' H' φ3 α' := by
      refine ⟨fun a o e n => a3 a o (t12.frame a o e n) (fun w m => ?_) (fun m => ?_), fun w a m => ?_, fun a o e => ?_, t12.mono.trans s.mono, fun k a h => s.pre k a (t12.pre k a h), fun h => nomatch h⟩
      · rcases t12.new w a m with ⟨w', h⟩ | h
        · exact n w' h
        · rw [e] at h; cases h
      · rcases r12.new a m with ⟨w', h⟩ | h
        · exact n w' h
        · rw [e] at h; cases h
      · rcases a4 w a m with ⟨w', h⟩ | h | h
        · exact t12.new w' a h
        · exact r12.new a h
        · exact new_back t12 (.inr h)
      · rcases a5 a o e with h | ⟨w, h⟩ | h | h
        · exact t12.bnew a o h
        · exact .inr (t12.new w a h)
        · exact .inr (r12.new a h)
        · exact .inr (new_back t12 (.inr h))
    refine p d e2 st' k v B' H' φ3 α' g W3 s3 ⟨t.rep, t.nd, t.out, fun a m w mw => ?_, fun a m => ?_⟩
    · cases w with
      | inr k => rw [a2] at mw; exact t.free a m _ mw
      | inl i =>
        rw [a1] at mw
        rcases t.new a m with ⟨w', h⟩ | h
        · cases w' with
          | inl j => exact r12.free a (hf j a h) _ mw
          | inr k => rw [hc] at h; exact W2.dj (.inl i) (.inr k) (fun z => nomatch z) a mw h
        · obtain ⟨xs, e⟩ := W2.there (.inl i) mw
          rw [e] at h; cases h
    · rcases t.new a m with ⟨w', h⟩ | h
      · cases w' with
        | inl j => exact r12.new a (hf j a h)
        | inr k => rw [hc] at h; exact t12.new _ a h
      · exact new_back t12 (.inr h)
  · obtain ⟨φ3, W3, a1, a2, a3, a4, a5⟩ := W2.back hc hf r12.free hold W' s
    have s3 : Stp false B H φ α B' H' φ3 α' := by
      refine ⟨fun a o e n => a3 a o (t12.frame a o e n) (fun w m => ?_) (fun m => ?_), fun w a m => ?_, fun a o e => ?_, t12.mono.trans s.mono, fun k a h => s.pre k a (t12.pre k a h), fun h => nomatch h⟩
      · rcases t12.new w a m with ⟨w', h⟩ | h
        · exact n w' h
        · rw [e] at h; cases h
      · rcases r12.new a m with ⟨w', h⟩ | h
        · exact n w' h
        · rw [e] at h; cases h
      · rcases a4 w a m with ⟨w', h⟩ | h | h
        · exact t12.new w' a h
        · exact r12.new a h
        · exact new_back t12 (.inr h)
      · rcases a5 a o e with h | ⟨w, h⟩ | h | h
        · exact t12.bnew a o h
        · exact .inr (t12.new w a h)
        · exact .inr (r12.new a h)
        · exact .inr (new_back t12 (.inr h))
    exact xk e e2 st' k B' H' φ3 α' cls dx W3 s3 x
theorem sE_call {k f np : Nat} {fa : Addr} {fd : FuncData} {ps ks : List Str} {pm : List Ar} (hK : X.K = c.K) (F : FnE X.prog X.w X.K X.mg X.base k fa fd ps (spE c.K c f np)) (hr : Room k X.A) (hg : X.A.guards = some []) (hb : Shp X.K fd ps ies.length ks fun vs => pm.map (argV vs)) (hx : Takes X c.W)
    (hgl : Gl X x) (hm : X.mg x = some (.ref fa)) (hk : PySem.W.keepIn X.K (.ref fa) = true) (hp : pmOk (ies.length + iks.length) pm = true) (hl : pm.length = np) (hik : ks.length = iks.length)
    (ha : PA X es (TAs_ c ies)) (hkw : PK X kws (TAs_ c iks)) (hall : (backToKw pos (keywordEach kws X.env)).all (·.1.isSome) = true) (hks : (backToKw pos (keywordEach kws X.env)).filterMap (·.1) = ks) (hdb : (x == ("__debug__" : Str)) = false)
    (he : ∀ e r, es = e :: r → starEach (e :: r) X.env = (false, eval e X.env) :: starEach r X.env) (h0 : es = [] → ies = []) (hpl : ((backTo pos (starEach es X.env)).any (·.1) || (backToKw pos (keywordEach kws X.env)).any (·.1.isNone)) = false) :
    PE X (.Call (.Name x p) es kws pos) (TE_ c (.call f ies iks pm)) := by
  match es, ha, he, h0, hpl with
  | [], ha, he, h0, hpl =>
    have z := h0 rfl
    subst z
    refine PE.imp (pe_callE0 F hr hg hb hx hgl hm hk hkw hall hks hdb hpl) fun σ H Q => ?_
    rintro ⟨B, φ, α, env, st, Kk, Xk, W, w, q, xk⟩
    rw [hik]
    obtain ⟨B1, φ1, α1, e1, s1, K1, X1, W1, w1, q1, _⟩ := call_read hp hl W w q xk
    exact q1 [] e1 s1 w1 [] B1 H φ1 α1 [] W1 (Stp.refl.weak fun h => nomatch h) TmpL.nil
  | e :: r, ha, he, h0, hpl =>
    refine PE.imp (pe_callE F hr hg hb hx hgl hm hk ha hkw hall hks hdb (he e r rfl) hpl) fun σ H Q => ?_
    rintro ⟨B, φ, α, env, st, Kk, Xk, W, w, q, xk⟩
    rw [hik]
    exact call_read hp hl W w q xk
end
mutual
theorem Rep.cells {K : Frag} {B H : Hp} {α α' : List Addr} : ∀ (d : D) (v : V) (f : List Addr), noP d = true → Rep K B H α d v f → Rep K B H α' d v f
  | .non, v, f, _, r => r
  | .bl _, v, f, _, r => r
  | .int _, v, f, _, r => r
  | .str _, v, f, _, r => r
  | .tup xs, v, f, h, ⟨a, vs, e, q, r⟩ => ⟨a, vs, e, q, RepL.cells xs vs f h r⟩
  | .kst xs, v, f, h, ⟨a, vs, e, q, r, z⟩ => ⟨a, vs, e, q, RepL.cells xs vs [] h r, z⟩
  | .lst false xs, v, f, h, ⟨a, vs, e, q, r, z⟩ => ⟨a, vs, e, q, RepL.cells xs vs [] h r, z⟩
  | .lst true xs, v, f, h, ⟨a, vs, g, e, q, r, z⟩ => ⟨a, vs, g, e, q, RepL.cells xs vs g h r, z⟩
  | .ptr _, _, _, h, _ => by cases h
  | .dic _ _ _, _, _, h, _ => by cases h
  | .fn _, _, _, h, _ => by cases h
  | .ins _ fs, v, f, h, ⟨a, dx, vs, e, q, cf, r, z⟩ => ⟨a, dx, vs, e, q, cf, RepL.cells fs vs [] h r, z⟩
  | .exc _ w, v, f, h, ⟨a, dx, u, e, q, q2, cf, r, z⟩ => ⟨a, dx, u, e, q, q2, cf, Rep.cells w u [] h r, z⟩
theorem RepL.cells {K : Frag} {B H : Hp} {α α' : List Addr} : ∀ (ds : List D) (vs : List V) (f : List Addr), noPL ds = true → RepL K B H α ds vs f → RepL K B H α' ds vs f
  | [], vs, f, _, r => r
  | d :: ds, vs, f, h, ⟨v, vr, g, k, e, r, q, z⟩ => by
    rw [noPL, Bool.and_eq_true_iff] at h
    exact ⟨v, vr, g, k, e, Rep.cells d v g h.1 r, RepL.cells ds vr k h.2 q, z⟩
end
mutual
theorem noP_fz : ∀ d : D, noP d = true → noP (fz d) = true
  | .non, h => h
  | .bl _, h => h
  | .int _, h => h
  | .str _, h => h
  | .tup xs, h => noPL_fzL xs h
  | .lst _ xs, h => noPL_fzL xs h
  | .kst xs, h => noPL_fzL xs h
  | .ptr _, h => by cases h
  | .dic _ _ _, h => by cases h
  | .fn _, h => by cases h
  | .ins _ fs, h => noPL_fzL fs h
  | .exc _ w, h => noP_fz w h
theorem noPL_fzL : ∀ ds : List D, noPL ds = true → noPL (fzL ds) = true
  | [], h => h
  | d :: ds, h => by
    rw [noPL, Bool.and_eq_true_iff] at h
    rw [fzL, noPL, noP_fz d h.1, noPL_fzL ds h.2]; rfl
end
theorem Rep.there_ne {K : Frag} {B H : Hp} {α : List Addr} {d : D} {v : V} {f : List Addr} (r : Rep K B H α d v f) : ∀ a ∈ f, H a ≠ none := fun a m e => by
  obtain ⟨xs, h⟩ := Rep.there _ _ _ r a m
  rw [e] at h; cases h
/-- all that is read, as if it were shared -/
theorem RdL.share {K : Frag} {B H : Hp} {α : List Addr} (le : HLe B H) : ∀ {ds : List D} {vs : List V}, RdL K B H α ds vs → ∃ B' : Hp, HLe B B' ∧ HLe B' H ∧ ds.length = vs.length ∧ ∀ (i : Nat) d v, ds[i]? = some d → vs[i]? = some v → Rep K B' H α (fz d) v []
  | [], vs, r => ⟨B, HLe.refl B, le, by rw [show vs = [] from r]; rfl, fun i d v h => by simp at h⟩
  | d :: ds, vs, r => by
    obtain ⟨v, vr, f, e, r1, r2⟩ := r
    subst e
    obtain ⟨B', h1, h2, h3, h4⟩ := RdL.share le r2
    refine ⟨addB B' H f, fun a o e => ?_, addB_heap h2, by rw [List.length_cons, List.length_cons, h3], fun i d' v' g1 g2 => ?_⟩
    · unfold addB
      split
      · exact le a o e
      · exact h1 a o e
    · have hb : HLe B' (addB B' H f) := fun a o e => by
        unfold addB
        split
        · exact h2 a o e
        · exact e
      cases i with
      | zero =>
        simp at g1 g2
        subst g1; subst g2
        exact Rep.fz (fun a o e => hb a o (h1 a o e)) d v f (fun a m o e => by rw [addB_in m]; exact e) r1
      | succ i => exact Rep.ext hb (fun _ _ h => h) _ _ [] (fun _ m => nomatch m) (h4 i d' v' (by simpa using g1) (by simpa using g2))
theorem RdL.app {K : Frag} {B H : Hp} {α : List Addr} : ∀ {ds es : List D} {vs ws : List V}, RdL K B H α ds vs → RdL K B H α es ws → RdL K B H α (ds ++ es) (vs ++ ws)
  | [], _, vs, _, r, q => by rw [show vs = [] from r]; exact q
  | d :: ds, _, vs, _, ⟨v, vr, f, e, r1, r2⟩, q => by subst e; exact ⟨v, vr ++ _, f, rfl, r1, RdL.app r2 q⟩
theorem RdL.ext {K : Frag} {B H B' H' : Hp} {α α' : List Addr} (hB : HLe B B') (hH : HLe H H') (ha : ∀ (k : Nat) a, α[k]? = some a → α'[k]? = some a) : ∀ {ds : List D} {vs : List V}, RdL K B H α ds vs → RdL K B' H' α' ds vs
  | [], _, r => r
  | _ :: _, _, ⟨v, vr, f, e, r1, r2⟩ => ⟨v, vr, f, e, Rep.ext hB ha _ _ f (fun a _ o e => hH a o e) r1, RdL.ext hB hH ha r2⟩
theorem RdL.nf {K : Frag} {B H B' H' : Hp} {α α' : List Addr} (hB : HLe B B') (ha : ∀ (k : Nat) a, α[k]? = some a → α'[k]? = some a) : ∀ {ds : List D} {vs : List V}, nfL ds = true → RdL K B H α ds vs → RdL K B' H' α' ds vs
  | [], _, _, r => r
  | _ :: _, _, h, ⟨v, vr, f, e, r1, r2⟩ => by
    rw [nfL, Bool.and_eq_true_iff] at h
    have := Rep.nf _ _ _ h.1 r1
    subst this
    exact ⟨v, vr, [], e, Rep.ext hB ha _ _ [] (fun _ m => nomatch m) r1, RdL.nf hB ha h.2 r2⟩
theorem RdL.length {K : Frag} {B H : Hp} {α : List Addr} : ∀ {ds : List D} {vs : List V}, RdL K B H α ds vs → ds.length = vs.length
  | [], vs, r => by rw [show vs = [] from r]; rfl
  | d :: ds, vs, ⟨v, vr, f, e, _, r2⟩ => by rw [e, List.length_cons, List.length_cons, RdL.length r2]
mutual
/-- what is all its own leans on nothing that is told -/
theorem Rep.own {K : Frag} {B B' H : Hp} {α α' : List Addr} : ∀ (d : D) (v : V) (f : List Addr), ownD d = true → Rep K B H α d v f → Rep K B' H α' d v f
  | .non, _, _, _, r | .bl _, _, _, _, r | .int _, _, _, _, r | .str _, _, _, _, r => r
  | .lst true xs, _, _, h, ⟨a, vs, g, e, q, r, z⟩ => ⟨a, vs, g, e, q, RepL.own xs vs g h r, z⟩
  | .lst false _, _, _, h, _ | .tup _, _, _, h, _ | .kst _, _, _, h, _ | .ptr _, _, _, h, _ | .dic _ _ _, _, _, h, _ | .fn _, _, _, h, _ | .ins _ _, _, _, h, _ | .exc _ _, _, _, h, _ => nomatch h
theorem RepL.own {K : Frag} {B B' H : Hp} {α α' : List Addr} : ∀ (ds : List D) (vs : List V) (f : List Addr), ownL ds = true → RepL K B H α ds vs f → RepL K B' H α' ds vs f
  | [], _, _, _, r => r
  | d :: ds, _, _, h, ⟨v, vr, g, k, e, r, q, z⟩ => by
    rw [ownL, Bool.and_eq_true_iff] at h
    exact ⟨v, vr, g, k, e, Rep.own d v g h.1 r, RepL.own ds vr k h.2 q, z⟩
end
theorem scalar_rep {K : Frag} {B H B' H' : Hp} {α α' : List Addr} {d : D} {v : V} {f : List Addr} (h : scalar d = true) (r : Rep K B H α d v f) : Rep K B' H' α' d v [] := by
  cases d <;> first | (cases h; done) | exact ⟨r.1, rfl⟩
theorem rep_int {K : Frag} {B H : Hp} {α : List Addr} {d : D} {x : Int} {f : List Addr} (r : Rep K B H α d (.int x) f) : ∃ i, d = .int i := by
  cases d with
  | int i => exact ⟨i, rfl⟩
  | non => cases r.1
  | bl b => cases r.1
  | str s => cases r.1
  | tup xs => obtain ⟨_, _, e, _⟩ := r; cases e
  | kst xs => obtain ⟨_, _, e, _⟩ := r; cases e
  | lst o xs => cases o with
    | false => obtain ⟨_, _, e, _⟩ := r; cases e
    | true => obtain ⟨_, _, _, e, _⟩ := r; cases e
  | ptr k => obtain ⟨_, _, e, _⟩ := r; cases e
  | ins c fs => obtain ⟨_, _, _, e, _⟩ := r; cases e
  | exc c w => obtain ⟨_, _, _, e, _⟩ := r; cases e
  | dic _ _ _ => exact r.elim
  | fn _ => exact r.elim
theorem tri_no {K : Frag} {B H : Hp} {α : List Addr} : ∀ {xs : List D} {x y z : Int} {g : List Addr}, tri3 xs = false → RepL K B H α xs [.int x, .int y, .int z] g → False
  | [], _, _, _, _, _, r => nomatch r.1
  | [_], _, _, _, _, _, ⟨_, _, _, _, e, _, q, _⟩ => by cases e; exact nomatch q.1
  | [_, _], _, _, _, _, _, ⟨_, _, _, _, e, _, ⟨_, _, _, _, e2, _, q, _⟩, _⟩ => by cases e; cases e2; exact nomatch q.1
  | [a, b, c], _, _, _, _, h, ⟨_, _, _, _, e, r1, ⟨_, _, _, _, e2, r2, ⟨_, _, _, _, e3, r3, q, _⟩, _⟩, _⟩ => by
    cases e; cases e2; cases e3
    obtain ⟨_, rfl⟩ := rep_int r1
    obtain ⟨_, rfl⟩ := rep_int r2
    obtain ⟨_, rfl⟩ := rep_int r3
    cases h
  | _ :: _ :: _ :: _ :: _, _, _, _, _, _, ⟨_, _, _, _, e, _, ⟨_, _, _, _, e2, _, ⟨_, _, _, _, e3, _, ⟨_, _, _, _, e4, _⟩, _⟩, _⟩, _⟩ => by
    cases e; cases e2; cases e3; cases e4
mutual
/-- what is owned is no list of three numbers -/
theorem Rep.tri {K : Frag} {B H : Hp} {α : List Addr} : ∀ (d : D) (v : V) (f : List Addr), noTri d = true → Rep K B H α d v f → ∀ a ∈ f, ∀ x y z : Int, H a ≠ some (.lst [.int x, .int y, .int z])
  | .non, _, _, _, r, a, m | .bl _, _, _, _, r, a, m | .int _, _, _, _, r, a, m | .str _, _, _, _, r, a, m => by rw [r.2] at m; cases m
  | .tup xs, _, f, h, ⟨_, vs, _, _, r⟩, a, m => RepL.tri xs vs f h r a m
  | .kst xs, _, _, _, ⟨_, _, _, _, _, z⟩, a, m => by rw [z] at m; cases m
  | .lst false xs, _, _, _, ⟨_, _, _, _, _, z⟩, a, m => by rw [z] at m; cases m
  | .lst true xs, _, _, h, ⟨b, vs, g, _, q, r, z⟩, a, m => by
    unfold noTri at h
    rw [Bool.and_eq_true, Bool.not_eq_true'] at h
    rw [z] at m
    rcases List.mem_cons.mp m with e | m
    · intro x y w hh
      rw [e, q] at hh
      have hv : vs = [.int x, .int y, .int w] := by cases hh; rfl
      rw [hv] at r
      exact tri_no h.1 r
    · exact RepL.tri xs vs g h.2 r a m
  | .ptr _, _, _, _, ⟨_, _, _, z⟩, a, m => by rw [z] at m; cases m
  | .dic _ _ _, _, _, _, r, _, _ => r.elim
  | .fn _, _, _, _, r, _, _ => r.elim
  | .ins _ _, _, _, _, ⟨_, _, _, _, _, _, _, z⟩, a, m => by rw [z] at m; cases m
  | .exc _ _, _, _, h, _, _, _ => by cases h
theorem RepL.tri {K : Frag} {B H : Hp} {α : List Addr} : ∀ (ds : List D) (vs : List V) (f : List Addr), noTriL ds = true → RepL K B H α ds vs f → ∀ a ∈ f, ∀ x y z : Int, H a ≠ some (.lst [.int x, .int y, .int z])
  | [], _, _, _, r, a, m => by rw [r.2] at m; cases m
  | d :: ds, vs, f, h, ⟨v, vr, g, k, _, r, q, z⟩, a, m => by
    rw [noTriL, Bool.and_eq_true_iff] at h
    rw [z] at m
    rcases List.mem_append.mp m with m | m
    · exact Rep.tri d v g h.1 r a m
    · exact RepL.tri ds vr k h.2 q a m
end
/-- what is told anew is lists, none of three numbers -/
def ToldL (B B' : Hp) : Prop := ∀ a o, B' a = some o → B a = some o ∨ ((∃ xs, o = .lst xs) ∧ ∀ x y z : Int, o ≠ .lst [.int x, .int y, .int z])
theorem RdL.shareT {K : Frag} {B H : Hp} {α : List Addr} (le : HLe B H) : ∀ {ds : List D} {vs : List V}, ds.all noTri = true → RdL K B H α ds vs → ∃ B' : Hp, HLe B B' ∧ HLe B' H ∧ ds.length = vs.length ∧ (∀ (i : Nat) d v, ds[i]? = some d → vs[i]? = some v → Rep K B' H α (fz d) v []) ∧ ToldL B B'
  | [], vs, _, r => ⟨B, HLe.refl B, le, by rw [show vs = [] from r]; rfl, fun i d v h => by simp at h, fun a o e => .inl e⟩
  | d :: ds, vs, ht, r => by
    obtain ⟨v, vr, f, e, r1, r2⟩ := r
    subst e
    rw [List.all_cons, Bool.and_eq_true] at ht
    obtain ⟨B', h1, h2, h3, h4, h5⟩ := RdL.shareT le ht.2 r2
    have th := Rep.there _ _ _ r1
    have tr := Rep.tri _ _ _ ht.1 r1
    refine ⟨addB B' H f, fun a o e => ?_, addB_heap h2, by rw [List.length_cons, List.length_cons, h3], fun i d' v' g1 g2 => ?_, fun a o e => ?_⟩
    · unfold addB
      split
      · exact le a o e
      · exact h1 a o e
    · have hb : HLe B' (addB B' H f) := fun a o e => by
        unfold addB
        split
        · exact h2 a o e
        · exact e
      cases i with
      | zero =>
        simp at g1 g2
        subst g1; subst g2
        exact Rep.fz (fun a o e => hb a o (h1 a o e)) d v f (fun a m o e => by rw [addB_in m]; exact e) r1
      | succ i => exact Rep.ext hb (fun _ _ h => h) _ _ [] (fun _ m => nomatch m) (h4 i d' v' (by simpa using g1) (by simpa using g2))
    · unfold addB at e
      split at e
      · rename_i m
        obtain ⟨xs, hx⟩ := th a m
        refine .inr ⟨⟨xs, by rw [hx] at e; exact (Option.some.inj e).symm⟩, fun x y z q => tr a m x y z (by rw [e, q])⟩
      · exact h5 a o e
mutual
theorem tupD_nf : ∀ d : D, tupD d = true → Ev.nf d = true
  | .non, _ | .bl _, _ | .int _, _ | .str _, _ => rfl
  | .tup xs, h => tupDL_nf xs h
  | .lst _ _, h | .kst _, h | .ptr _, h | .dic _ _ _, h | .fn _, h | .ins _ _, h | .exc _ _, h => nomatch h
theorem tupDL_nf : ∀ ds : List D, tupDL ds = true → nfL ds = true
  | [], _ => rfl
  | d :: ds, h => by
    rw [tupDL, Bool.and_eq_true_iff] at h
    rw [nfL, tupD_nf d h.1, tupDL_nf ds h.2]; rfl
end
mutual
/-- numbers and tuples of them lean on told tuples alone -/
theorem Rep.tupB {K : Frag} {B B' H H' : Hp} {α α' : List Addr} (hB : ∀ a xs, B a = some (.tup xs) → B' a = some (.tup xs)) : ∀ (d : D) (v : V) (f : List Addr), tupD d = true → Rep K B H α d v f → Rep K B' H' α' d v f
  | .non, _, _, _, r | .bl _, _, _, _, r | .int _, _, _, _, r | .str _, _, _, _, r => r
  | .tup xs, v, f, h, ⟨a, vs, e, q, r⟩ => ⟨a, vs, e, q.imp (hB a vs) id, RepL.tupB hB xs vs f h r⟩
  | .lst _ _, _, _, h, _ | .kst _, _, _, h, _ | .ptr _, _, _, h, _ | .dic _ _ _, _, _, h, _ | .fn _, _, _, h, _ | .ins _ _, _, _, h, _ | .exc _ _, _, _, h, _ => nomatch h
theorem RepL.tupB {K : Frag} {B B' H H' : Hp} {α α' : List Addr} (hB : ∀ a xs, B a = some (.tup xs) → B' a = some (.tup xs)) : ∀ (ds : List D) (vs : List V) (f : List Addr), tupDL ds = true → RepL K B H α ds vs f → RepL K B' H' α' ds vs f
  | [], _, _, _, r => r
  | d :: ds, _, _, h, ⟨v, vr, g, k, e, r, q, z⟩ => by
    rw [tupDL, Bool.and_eq_true_iff] at h
    exact ⟨v, vr, g, k, e, Rep.tupB hB d v g h.1 r, RepL.tupB hB ds vr k h.2 q, z⟩
end
theorem CellR.boxB {K : Frag} {B B' H H' : Hp} {α α' : List Addr} {a : Addr} {f : List Addr} {c : Cell} (h : boxB c = true) (hH : ∀ b ∈ f, ∀ o, H b = some o → H' b = some o) (r : CellR K B H α a f c) : CellR K B' H' α' a f c := by
  cases c with
  | box n =>
    obtain ⟨x, y, z, e, r⟩ := r
    exact ⟨x, y, z, hH a (by rw [r.2.2.2]; exact List.mem_singleton_self a) _ e, r⟩
  | gone => exact r
  | val d => cases h
  | obj c fs => cases h
/-- B and the tuples of B' -/
def tupsB (B B' : Hp) : Hp := fun a => match B a with
  | some o => some o
  | none => match B' a with
    | some (.tup xs) => some (.tup xs)
    | _ => none
theorem tupsB_ge (B B' : Hp) : HLe B (tupsB B B') := fun a o e => by unfold tupsB; rw [e]
theorem tupsB_inv {B B' : Hp} {a : Addr} {o : HO} (e : tupsB B B' a = some o) : B a = some o ∨ (B' a = some o ∧ ∃ xs, o = .tup xs) := by
  unfold tupsB at e
  split at e
  · rename_i o' h; exact .inl (by rw [h]; exact e)
  · split at e
    · rename_i xs h; cases e; exact .inr ⟨h, xs, rfl⟩
    · cases e
theorem tupsB_tup {B B' : Hp} (le : HLe B B') (a : Addr) (xs : List V) (h : B' a = some (.tup xs)) : tupsB B B' a = some (.tup xs) := by
  unfold tupsB
  split
  · rename_i o e; rw [← h, le a o e]
  · rw [h]
section
variable {X : Cx} {c : Cg} {e : Expr} {es : List Expr} {kws : List Keyword} {ie : IE} {ies iks : List IE} {p pos : Pos} {x : Str}
theorem sKR_nil : PK X [] (TRs_ c []) := PK.imp pk_nil fun σ H Q => by
  rintro ⟨B, φ, α, env, st, Kk, Xk, W, w, p, x⟩
  exact p [] env st w [] B H φ α W Stp.refl rfl
theorem sKR_cons {nm : Option Str} {kp : Pos} (h : PE X e (TR_ c ie)) (r : PK X kws (TRs_ c ies)) : PK X (⟨nm, e, kp⟩ :: kws) (TRs_ c (ie :: ies)) := PK.imp (pk_cons h r) fun σ H Q => by
  rintro ⟨B, φ, α, env, st, Kk, Xk, W, w, p, x⟩
  obtain ⟨env0, B0, φ0, w, W0, s0⟩ := shW_read W w
  refine ⟨B0, φ0, α, env0, st, _, Xk, W0, w, fun d e1 s1 ⟨hs, k⟩ v B1 H1 φ1 α1 f W1 s t hv => ?_, x.step s0⟩
  refine ⟨B1, φ1, α1, e1, s1, _, Xk, W1, k, fun ds e2 s2 k2 vs B2 H2 φ2 α2 W2 s' t' => ?_, (x.step s0).step s⟩
  refine p _ e2 s2 k2 _ B2 H2 φ2 α2 W2 (s0.trans (s.trans s')) ⟨v, vs, f, rfl, ?_, t'⟩
  unfold stays at hs
  cases hva : isVar ie with
  | false =>
    rw [hv hva] at t ⊢
    exact Rep.ext s'.mono s'.pre d v [] (fun _ m => nomatch m) t
  | true =>
    rw [hva] at hs
    rcases Bool.or_eq_true_iff.mp hs with hs | hs
    · rw [Bool.not_true, Bool.false_or] at hs
      have := Rep.nf d v f hs t
      subst this
      exact Rep.ext s'.mono s'.pre d v [] (fun _ m => nomatch m) t
    · exact Rep.ext s'.mono s'.pre d v f (fun a _ o e => s'.same hs a o e) t
theorem look_read {f np : Nat} {pm : List Ar} (hp : pmOk (ies.length + iks.length) pm = true) (hl : pm.length = np) {σ : LSt} {H : Hp} {Q : VK} {B : Hp} {φ : Fp} {α : List Addr} {env : Env} {st : Stt} {Kk : KE} {Xk : KX} (W : Wd c.K B H σ α φ env st)
    (w : wE c.F (.callP f ies iks pm) env st Kk Xk) (p : PostE c false σ B H φ α Kk Q) (xk : PostX c σ B H φ α Xk) :
    tCallE ies.length iks.length (spE c.K c f np) (fun vs => pm.map (argV vs)) c.W (TRs_ c ies) (TRs_ c iks) σ H Q := by
  refine ⟨B, φ, α, env, st, _, Xk, W, w, fun ds e1 s1 ⟨l1, k1⟩ vs B1 H1 φ1 α1 W1 t1 r1 => ?_, xk⟩
  refine ⟨B1, φ1, α1, e1, s1, _, Xk, W1, k1, fun zs e2 s2 ⟨⟨l2, hq, hn⟩, k2⟩ us B2 H2 φ2 α2 W2 t2 r2 => ?_, xk.step t1⟩
  have t12 := (t1.trans t2).weak (q2 := false) fun h => nomatch h
  have r1' : RdL c.K B2 H2 α2 ds vs := by
    rcases Bool.or_eq_true_iff.mp hq with h | h
    · exact RdL.nf t2.mono t2.pre h r1
    · exact RdL.ext t2.mono (t2.same h) t2.pre r1
  have r12 := RdL.app r1' r2
  refine ⟨by rw [← r1.length]; exact l1, by rw [← r2.length]; exact l2, ?_⟩
  obtain ⟨B3, b1, b2, b3, b4⟩ := r12.share W2.le
  have pl : (pm.all fun a => match a with | .ix i => decide (i < (ds ++ zs).length) | .dv d => scalar d) = true := by
    have := hp
    unfold pmOk at this
    rw [List.length_append, l1, l2]
    exact (Bool.and_eq_true_iff.mp this).1
  have Wc : Wd c.K B3 H2 ((pm.map (argV (vs ++ us))).map some) [] (fun _ => []) ((pm.map fun a => fz (argOf (ds ++ zs) a)).map some) [] := by
    refine ⟨b2, by simp, fun i d h => ?_, fun _ _ => rfl, rfl, fun k cc a h => by simp at h, fun _ _ => rfl, fun _ => List.nodup_nil, (fun _ _ _ _ m => nomatch m), (fun _ _ m => nomatch m)⟩
    rw [List.getElem?_map, List.getElem?_map] at h
    rw [List.getElem?_map, List.getElem?_map]
    cases e : pm[i]? with
    | none => rw [e] at h; cases h
    | some a =>
      rw [e] at h
      have hd : fz (argOf (ds ++ zs) a) = d := by simpa using h
      have hm := List.all_eq_true.mp pl a (List.mem_of_getElem? e)
      cases a with
      | ix j =>
        have hj : j < (ds ++ zs).length := of_decide_eq_true hm
        have hj' : j < (vs ++ us).length := by rw [← b3]; exact hj
        have e1 : argOf (ds ++ zs) (.ix j) = (ds ++ zs)[j] := by
          show (ds ++ zs).getD j .non = _
          rw [List.getD_eq_getElem?_getD, List.getElem?_eq_getElem hj]; rfl
        have e2 : argV (vs ++ us) (.ix j) = (vs ++ us)[j] := by
          show (vs ++ us).getD j .non = _
          rw [List.getD_eq_getElem?_getD, List.getElem?_eq_getElem hj']; rfl
        refine ⟨(vs ++ us)[j], by rw [Option.map_some, Option.map_some, e2], ?_⟩
        have r := b4 j _ _ (List.getElem?_eq_getElem hj) (List.getElem?_eq_getElem hj')
        rw [← hd, e1]
        refine Rep.cells _ _ _ ?_ r
        exact noP_fz _ (List.all_eq_true.mp hn _ (List.getElem_mem hj))
      | dv d' =>
        have hd : fz d' = d := hd
        have hz : fz d' = d' := by cases d' <;> first | rfl | (cases hm; done)
        rw [← hd, hz]
        exact ⟨vOf d', rfl, rep_vOf hm⟩
  refine ⟨B3, fun _ => [], [], [], _, _, _, by rw [List.length_map]; exact hl, Wc, k2, fun d st' ⟨sc, k⟩ v B' H' φ' α' g W' s t => ?_, fun _ _ h => h.elim⟩
  have keep : HLe H2 H' := fun a o e => s.frame a o e fun _ m => nomatch m
  have Wf : Wd c.K B2 H' σ α2 φ2 e2 s2 := W2.ext (HLe.refl B2) (W2.le.trans keep) (fun _ a _ o e => keep a o e) W2.out
  have stp : Stp false B H φ α B2 H' φ2 α2 := ⟨fun a o e n => keep a o (t12.frame a o e n), t12.new, t12.bnew, t12.mono, t12.pre, fun h => nomatch h⟩
  rcases Bool.or_eq_true_iff.mp sc with sc | sc
  · exact p d e2 s2 k v B2 H' φ2 α2 [] Wf stp (Tmp.of_nil (scalar_rep sc t.rep))
  · have fresh : ∀ a ∈ g, H2 a = none := fun a m => (t.new a m).resolve_left fun ⟨_, h⟩ => nomatch h
    refine p d e2 s2 k v B2 H' φ2 α2 g Wf stp ⟨Rep.own d v g sc t.rep, t.nd, fun a m => ?_, fun a m w h => ?_, fun a m => ?_⟩
    · cases e : B2 a with
      | none => rfl
      | some o => have := W2.le a o e; rw [fresh a m] at this; cases this
    · obtain ⟨o, e⟩ := W2.there w h
      rw [fresh a m] at e; cases e
    · by_cases hh : ∃ w, a ∈ φ w
      · exact .inl hh
      · refine .inr ?_
        cases e : H a with
        | none => rfl
        | some o =>
          have := t12.frame a o e fun w m => hh ⟨w, m⟩
          rw [fresh a m] at this; cases this
theorem lend_read {f np : Nat} {pm : List Ar} (hp : pmOk (ies.length + iks.length) pm = true) (hl : pm.length = np) {σ : LSt} {H : Hp} {Q : VK} {B : Hp} {φ : Fp} {α : List Addr} {env : Env} {st : Stt} {Kk : KE} {Xk : KX} (W : Wd c.K B H σ α φ env st)
    (w : wE c.F (.callL f ies iks pm) env st Kk Xk) (p : PostE c false σ B H φ α Kk Q) (xk : PostX c σ B H φ α Xk) :
    tCallE ies.length iks.length (spE c.K c f np) (fun vs => pm.map (argV vs)) c.W (TRs_ c ies) (TRs_ c iks) σ H Q := by
  refine ⟨B, φ, α, env, st, _, Xk, W, w, fun ds e1 s1 ⟨l1, k1⟩ vs B1 H1 φ1 α1 W1 t1 r1 => ?_, xk⟩
  refine ⟨B1, φ1, α1, e1, s1, _, Xk, W1, k1, fun zs e2 s2 ⟨⟨l2, hq, hn, hbx⟩, k2⟩ us B2 H2 φ2 α2 W2 t2 r2 => ?_, xk.step t1⟩
  have t12 := (t1.trans t2).weak (q2 := false) fun h => nomatch h
  have r1' : RdL c.K B2 H2 α2 ds vs := by
    rcases Bool.or_eq_true_iff.mp hq with h | h
    · exact RdL.nf t2.mono t2.pre h r1
    · exact RdL.ext t2.mono (t2.same h) t2.pre r1
  have r12 := RdL.app r1' r2
  refine ⟨by rw [← r1.length]; exact l1, by rw [← r2.length]; exact l2, ?_⟩
  obtain ⟨B3, b1, b2, b3, b4, b5⟩ := r12.shareT W2.le hn
  have pl : (pm.all fun a => match a with | .ix i => decide (i < (ds ++ zs).length) | .dv d => scalar d) = true := by
    have := hp
    unfold pmOk at this
    rw [List.length_append, l1, l2]
    exact (Bool.and_eq_true_iff.mp this).1
  have boxes : ∀ (k : Nat) cc, s2[k]? = some cc → boxB cc = true := fun k cc h => List.all_eq_true.mp hbx cc (List.mem_of_getElem? h)
  have cellA : ∀ (k : Nat), ∀ a ∈ φ2 (.inr k), ∃ x y z : Int, H2 a = some (.lst [.int x, .int y, .int z]) := fun k a m => by
    by_cases hk : k < s2.length
    · have hk' : k < α2.length := by rw [W2.clen]; exact hk
      have hc := W2.cell k _ _ (List.getElem?_eq_getElem hk) (List.getElem?_eq_getElem hk')
      have hb := boxes k _ (List.getElem?_eq_getElem hk)
      generalize s2[k] = cc at hc hb
      cases cc with
      | box n =>
        obtain ⟨x, y, z, e, r⟩ := hc
        rw [r.2.2.2] at m
        rw [List.mem_singleton.mp m]
        exact ⟨x, y, z, e⟩
      | gone => rw [show φ2 (.inr k) = [] from hc] at m; cases m
      | val d => cases hb
      | obj c fs => cases hb
    · rw [W2.cbare k (Nat.le_of_not_lt hk)] at m; cases m
  have Wc : Wd c.K B3 H2 ((pm.map (argV (vs ++ us))).map some) α2 (fun | .inl _ => [] | .inr k => φ2 (.inr k)) ((pm.map fun a => fz (argOf (ds ++ zs) a)).map some) s2 := by
    refine ⟨b2, by simp, fun i d h => ?_, fun _ _ => rfl, W2.clen, fun k cc a h h' => CellR.boxB (boxes k cc h) (fun _ _ _ e => e) (W2.cell k cc a h h'), fun k h => W2.cbare k h, fun w => ?_, fun w w' ne a m => ?_, fun w a m => ?_⟩
    · rw [List.getElem?_map, List.getElem?_map] at h
      rw [List.getElem?_map, List.getElem?_map]
      cases e : pm[i]? with
      | none => rw [e] at h; cases h
      | some a =>
        rw [e] at h
        have hd : fz (argOf (ds ++ zs) a) = d := by simpa using h
        have hm := List.all_eq_true.mp pl a (List.mem_of_getElem? e)
        cases a with
        | ix j =>
          have hj : j < (ds ++ zs).length := of_decide_eq_true hm
          have hj' : j < (vs ++ us).length := by rw [← b3]; exact hj
          have e1 : argOf (ds ++ zs) (.ix j) = (ds ++ zs)[j] := by
            show (ds ++ zs).getD j .non = _
            rw [List.getD_eq_getElem?_getD, List.getElem?_eq_getElem hj]; rfl
          have e2 : argV (vs ++ us) (.ix j) = (vs ++ us)[j] := by
            show (vs ++ us).getD j .non = _
            rw [List.getD_eq_getElem?_getD, List.getElem?_eq_getElem hj']; rfl
          refine ⟨(vs ++ us)[j], by rw [Option.map_some, Option.map_some, e2], ?_⟩
          have r := b4 j _ _ (List.getElem?_eq_getElem hj) (List.getElem?_eq_getElem hj')
          rw [← hd, e1]
          exact r
        | dv d' =>
          have hd : fz d' = d := hd
          have hz : fz d' = d' := by cases d' <;> first | rfl | (cases hm; done)
          rw [← hd, hz]
          exact ⟨vOf d', rfl, rep_vOf hm⟩
    · cases w with
      | inl i => exact List.nodup_nil
      | inr k => exact W2.nd (.inr k)
    · cases w with
      | inl i => cases m
      | inr k => cases w' with
        | inl i => exact fun m' => nomatch m'
        | inr k' => exact W2.dj (.inr k) (.inr k') (fun z => ne (by rw [Sum.inr.inj z])) a m
    · cases w with
      | inl i => cases m
      | inr k =>
        cases e : B3 a with
        | none => rfl
        | some o =>
          rcases b5 a o e with h | ⟨_, h⟩
          · rw [W2.out (.inr k) a m] at h; cases h
          · obtain ⟨x, y, z, hx⟩ := cellA k a m
            rw [b2 a o e] at hx
            exact absurd (Option.some.inj hx) (h x y z)
  refine ⟨B3, _, α2, s2, _, _, _, by rw [List.length_map]; exact hl, Wc, k2, fun d st' ⟨⟨bx, sc⟩, k⟩ v B' H' φ' α' g W' s t => ?_, fun _ _ h => h.elim⟩
  have keep : ∀ a o, H2 a = some o → (∀ k, a ∉ φ2 (.inr k)) → H' a = some o := fun a o e h => s.frame a o e fun w m => by
    cases w with
    | inl i => cases m
    | inr k => exact h k m
  have le2 : HLe B2 B' := fun a o e => s.mono a o (b1 a o e)
  have slotA : ∀ i, ∀ a ∈ φ2 (.inl i), ∀ k, a ∉ φ2 (.inr k) := fun i a m k m' => W2.dj (.inl i) (.inr k) (fun z => nomatch z) a m m'
  have boxes' : ∀ (k : Nat) cc, st'[k]? = some cc → boxB cc = true := fun k cc h => List.all_eq_true.mp bx cc (List.mem_of_getElem? h)
  have newc : ∀ w, ∀ a ∈ φ' w, (∃ k, a ∈ φ2 (.inr k)) ∨ H2 a = none := fun w a m => by
    rcases s.new w a m with ⟨w', h⟩ | h
    · cases w' with
      | inl i => cases h
      | inr k => exact .inl ⟨k, h⟩
    · exact .inr h
  have noB4 : ∀ a, B2 a = none → (∀ xs, B' a ≠ some (.tup xs)) → tupsB B2 B' a = none := fun a h1 h2 => by
    cases e : tupsB B2 B' a with
    | none => rfl
    | some o =>
      rcases tupsB_inv e with h | ⟨h, xs, rfl⟩
      · rw [h1] at h; cases h
      · exact absurd h (h2 xs)
  have Wf : Wd c.K (tupsB B2 B') H' σ α' (fun | .inl i => φ2 (.inl i) | .inr k => φ' (.inr k)) e2 st' := by
    refine ⟨fun a o e => ?_, W2.len, fun i d h => ?_, fun i h => W2.bare i h, W'.clen, fun k cc a h h' => CellR.boxB (boxes' k cc h) (fun _ _ _ e => e) (W'.cell k cc a h h'), fun k h => W'.cbare k h, fun w => ?_, fun w w' ne a m => ?_, fun w a m => ?_⟩
    · rcases tupsB_inv e with h | ⟨h, _⟩
      · exact W'.le a o (le2 a o h)
      · exact W'.le a o h
    · obtain ⟨v, h1, r⟩ := W2.slot i d h
      exact ⟨v, h1, Rep.ext (tupsB_ge B2 B') s.pre d v _ (fun a m o e => keep a o e (slotA i a m)) r⟩
    · cases w with
      | inl i => exact W2.nd (.inl i)
      | inr k => exact W'.nd (.inr k)
    · cases w with
      | inl i => cases w' with
        | inl j => exact W2.dj (.inl i) (.inl j) (fun z => ne (by rw [Sum.inl.inj z])) a m
        | inr k =>
          intro m'
          rcases newc _ a m' with ⟨k', h⟩ | h
          · exact slotA i a m k' h
          · obtain ⟨xs, e⟩ := W2.there (.inl i) m
            rw [e] at h; cases h
      | inr k => cases w' with
        | inl i =>
          intro m'
          rcases newc _ a m with ⟨k', h⟩ | h
          · exact slotA i a m' k' h
          · obtain ⟨xs, e⟩ := W2.there (.inl i) m'
            rw [e] at h; cases h
        | inr k' => exact W'.dj (.inr k) (.inr k') (fun z => ne (by rw [Sum.inr.inj z])) a m
    · cases w with
      | inl i =>
        refine noB4 a (W2.out (.inl i) a m) fun xs h => ?_
        have m : a ∈ φ2 (.inl i) := m
        obtain ⟨d, v, r⟩ : ∃ d v, Rep c.K B2 H2 α2 d v (φ2 (.inl i)) := by
          by_cases hd : ∃ d, e2[i]? = some (some d)
          · obtain ⟨d, hd⟩ := hd
            obtain ⟨v, _, r⟩ := W2.slot i d hd
            exact ⟨d, v, r⟩
          · rw [W2.bare i fun d hh => hd ⟨d, hh⟩] at m; cases m
        obtain ⟨ys, e⟩ := Rep.there _ _ _ r a m
        have := keep a _ e (slotA i a m)
        rw [W'.le a _ h] at this
        cases this
      | inr k =>
        have h := W'.out (.inr k) a m
        refine noB4 a ?_ fun xs h' => by rw [h] at h'; cases h'
        cases e : B2 a with
        | none => rfl
        | some o => rw [le2 a o e] at h; cases h
  have stp : Stp false B H φ α (tupsB B2 B') H' (fun | .inl i => φ2 (.inl i) | .inr k => φ' (.inr k)) α' := by
    refine ⟨fun a o e n => keep a o (t12.frame a o e n) fun k m => ?_, fun w a m => ?_, fun a o e => ?_, fun a o e => tupsB_ge B2 B' a o (t12.mono a o e), fun k a h => s.pre k a (t12.pre k a h), fun h => nomatch h⟩
    · rcases t12.new _ a m with ⟨w', h⟩ | h
      · exact n w' h
      · rw [e] at h; cases h
    · cases w with
      | inl i => exact t12.new _ a m
      | inr k =>
        rcases newc _ a m with ⟨k', h⟩ | h
        · exact t12.new _ a h
        · exact new_back t12 (.inr h)
    · rcases tupsB_inv e with h | ⟨h, xs, rfl⟩
      · exact t12.bnew a o h
      · rcases s.bnew a _ h with h | ⟨w, h⟩ | h
        · rcases b5 a _ h with h | ⟨⟨ys, h⟩, _⟩
          · exact t12.bnew a _ h
          · cases h
        · cases w with
          | inl i => cases h
          | inr k => exact .inr (t12.new _ a h)
        · exact .inr (new_back t12 (.inr h))
  rcases Bool.or_eq_true_iff.mp sc with sc | sc
  · have hg := Rep.nf d v g (tupD_nf d sc) t.rep
    subst hg
    exact p d e2 st' k v _ H' _ α' [] Wf stp (Tmp.of_nil (Rep.tupB (tupsB_tup le2) d v [] sc t.rep))
  · refine p d e2 st' k v _ H' _ α' g Wf stp ⟨Rep.own d v g sc t.rep, t.nd, fun a m => ?_, fun a m w h => ?_, fun a m => ?_⟩
    · have h := t.out a m
      refine noB4 a ?_ fun xs h' => by rw [h] at h'; cases h'
      cases e : B2 a with
      | none => rfl
      | some o => rw [le2 a o e] at h; cases h
    · cases w with
      | inl i =>
        rcases t.new a m with ⟨w', h'⟩ | h'
        · cases w' with
          | inl j => cases h'
          | inr k => exact slotA i a h k h'
        · obtain ⟨xs, e⟩ := W2.there (.inl i) h
          rw [e] at h'; cases h'
      | inr k => exact t.free a m _ h
    · rcases t.new a m with ⟨w', h'⟩ | h'
      · cases w' with
        | inl j => cases h'
        | inr k => exact t12.new _ a h'
      · exact new_back t12 (.inr h')
theorem sE_callP {k f np : Nat} {fa : Addr} {fd : FuncData} {ps ks : List Str} {pm : List Ar} (F : FnE X.prog X.w X.K X.mg X.base k fa fd ps (spE c.K c f np)) (hr : Room k X.A) (hg : X.A.guards = some []) (hb : Shp X.K fd ps ies.length ks fun vs => pm.map (argV vs)) (hx : Takes X c.W)
    (hgl : Gl X x) (hm : X.mg x = some (.ref fa)) (hk : PySem.W.keepIn X.K (.ref fa) = true) (hp : pmOk (ies.length + iks.length) pm = true) (hl : pm.length = np) (hik : ks.length = iks.length)
    (ha : PA X es (TRs_ c ies)) (hkw : PK X kws (TRs_ c iks)) (hall : (backToKw pos (keywordEach kws X.env)).all (·.1.isSome) = true) (hks : (backToKw pos (keywordEach kws X.env)).filterMap (·.1) = ks) (hdb : (x == ("__debug__" : Str)) = false)
    (he : ∀ e r, es = e :: r → starEach (e :: r) X.env = (false, eval e X.env) :: starEach r X.env) (h0 : es = [] → ies = []) (hpl : ((backTo pos (starEach es X.env)).any (·.1) || (backToKw pos (keywordEach kws X.env)).any (·.1.isNone)) = false) :
    PE X (.Call (.Name x p) es kws pos) (TE_ c (.callP f ies iks pm)) := by
  match es, ha, he, h0, hpl with
  | [], ha, he, h0, hpl =>
    have z := h0 rfl
    subst z
    refine PE.imp (pe_callE0 F hr hg hb hx hgl hm hk hkw hall hks hdb hpl) fun σ H Q => ?_
    rintro ⟨B, φ, α, env, st, Kk, Xk, W, w, q, xk⟩
    rw [hik]
    obtain ⟨B1, φ1, α1, e1, s1, K1, X1, W1, w1, q1, _⟩ := look_read hp hl W w q xk
    exact q1 [] e1 s1 w1 [] B1 H φ1 α1 W1 Stp.refl rfl
  | e :: r, ha, he, h0, hpl =>
    refine PE.imp (pe_callE F hr hg hb hx hgl hm hk ha hkw hall hks hdb (he e r rfl) hpl) fun σ H Q => ?_
    rintro ⟨B, φ, α, env, st, Kk, Xk, W, w, q, xk⟩
    rw [hik]
    exact look_read hp hl W w q xk
theorem sE_callL {k f np : Nat} {fa : Addr} {fd : FuncData} {ps ks : List Str} {pm : List Ar} (F : FnE X.prog X.w X.K X.mg X.base k fa fd ps (spE c.K c f np)) (hr : Room k X.A) (hg : X.A.guards = some []) (hb : Shp X.K fd ps ies.length ks fun vs => pm.map (argV vs)) (hx : Takes X c.W)
    (hgl : Gl X x) (hm : X.mg x = some (.ref fa)) (hk : PySem.W.keepIn X.K (.ref fa) = true) (hp : pmOk (ies.length + iks.length) pm = true) (hl : pm.length = np) (hik : ks.length = iks.length)
    (ha : PA X es (TRs_ c ies)) (hkw : PK X kws (TRs_ c iks)) (hall : (backToKw pos (keywordEach kws X.env)).all (·.1.isSome) = true) (hks : (backToKw pos (keywordEach kws X.env)).filterMap (·.1) = ks) (hdb : (x == ("__debug__" : Str)) = false)
    (he : ∀ e r, es = e :: r → starEach (e :: r) X.env = (false, eval e X.env) :: starEach r X.env) (h0 : es = [] → ies = []) (hpl : ((backTo pos (starEach es X.env)).any (·.1) || (backToKw pos (keywordEach kws X.env)).any (·.1.isNone)) = false) :
    PE X (.Call (.Name x p) es kws pos) (TE_ c (.callL f ies iks pm)) := by
  match es, ha, he, h0, hpl with
  | [], ha, he, h0, hpl =>
    have z := h0 rfl
    subst z
    refine PE.imp (pe_callE0 F hr hg hb hx hgl hm hk hkw hall hks hdb hpl) fun σ H Q => ?_
    rintro ⟨B, φ, α, env, st, Kk, Xk, W, w, q, xk⟩
    rw [hik]
    obtain ⟨B1, φ1, α1, e1, s1, K1, X1, W1, w1, q1, _⟩ := lend_read hp hl W w q xk
    exact q1 [] e1 s1 w1 [] B1 H φ1 α1 W1 Stp.refl rfl
  | e :: r, ha, he, h0, hpl =>
    refine PE.imp (pe_callE F hr hg hb hx hgl hm hk ha hkw hall hks hdb (he e r rfl) hpl) fun σ H Q => ?_
    rintro ⟨B, φ, α, env, st, Kk, Xk, W, w, q, xk⟩
    rw [hik]
    exact lend_read hp hl W w q xk
end
end Ev

namespace Ev
open PySem PySem.Spec PyProof.Rows L2
/-- an iterator hands out the things xs, one by one, while what B tells stands -/
structure WkOk (K : Frag) (B : Hp) (α : List Addr) (xs : List D) (J : It) : Prop where
  goes : ∀ i H, i < xs.length → HLe B H → J.go i H
  stops : ∀ H, HLe B H → J.stop xs.length H
  yields : ∀ i H x H', i < xs.length → HLe B H → J.yld i H x H' → ∃ d, xs[i]? = some d ∧ ((H' = H ∧ Rep K B H α d x []) ∨
    ∃ T vs ds, x = .ref T ∧ H T = none ∧ H' = upd H T (.tup vs) ∧ d = .tup ds ∧ RepL K B H α ds vs [])
def TI_ (c : Cg) (ik : Ik) (its : List IE) : TI := fun σ H R => ∃ B φ α env st, ∃ (Kk : List D → Env → Stt → Prop) (Xk : KX), Wd c.K B H σ α φ env st ∧ wZs c.F its env st (fun ds e s => itemsW ik ds fun xs => Kk xs e s) Xk ∧
  (∀ xs e s, Kk xs e s → ∀ J B' H' φ' α', Wd c.K B' H' σ α' φ' e s → Stp false B H φ α B' H' φ' α' → WkOk c.K B' α' xs J → R J H') ∧ PostX c σ B H φ α Xk
theorem PI.imp {X : Cx} {tg e : Expr} {t t' : TI} (h : PI X tg e t) (i : ∀ σ H R, t' σ H R → t σ H R) : PI X tg e t' := ⟨fun pins s σ H R I w => h.run pins s σ H R I (i σ H R w)⟩
section
variable {K : Frag} {B H : Hp} {α : List Addr} {xs ys : List D} {vs ws : List V} {a b : Addr}
theorem rep_back {d : D} {v : V} (r : Rep K B H α d v []) {H' : Hp} : Rep K B H' α d v [] := Rep.ext (HLe.refl B) (fun _ _ h => h) d v [] (fun _ m => nomatch m) r
theorem repl_back {ds : List D} {vs : List V} (r : RepL K B H α ds vs []) {H' : Hp} : RepL K B H' α ds vs [] := RepL.ext (HLe.refl B) (fun _ _ h => h) ds vs [] (fun _ m => nomatch m) r
theorem WkOk.of {J : It} {n : Nat} {G : Hp → Prop} {Y : Nat → Hp → V → Hp → Prop} (w : Walk J n G Y) (hn : n = xs.length) (hG : ∀ H, HLe B H → G H)
    (hy : ∀ i H x H', i < n → HLe B H → Y i H x H' → ∃ d, xs[i]? = some d ∧ ((H' = H ∧ Rep K B H α d x []) ∨ ∃ T vs ds, x = .ref T ∧ H T = none ∧ H' = upd H T (.tup vs) ∧ d = .tup ds ∧ RepL K B H α ds vs [])) : WkOk K B α xs J :=
  ⟨fun i H hi hH => w.goes i H (by rw [hn]; exact hi) (hG H hH), fun H hH => by rw [← hn]; exact w.stops H (hG H hH), fun i H x H' hi hH y => hy i H x H' (by rw [hn]; exact hi) hH (w.yields i H x H' (by rw [hn]; exact hi) (hG H hH) y)⟩
theorem items_at (r : RepL K B H α xs vs []) {i : Nat} (hi : i < vs.length) {x : V} (hx : vs[i]? = some x) {H' : Hp} : ∃ d, xs[i]? = some d ∧ Rep K B H' α d x [] := by
  obtain ⟨l, h⟩ := RepL.all.mp r
  have hi' : i < xs.length := by rw [l]; exact hi
  exact ⟨xs[i], List.getElem?_eq_getElem hi', rep_back (h i _ _ (List.getElem?_eq_getElem hi') hx)⟩
theorem wk_list (hs : ∀ H, HLe B H → SqL K H a vs) (r : RepL K B H α xs vs []) : WkOk K B α xs (Itl K a) :=
  .of (walk_list (xs := vs)) r.length.symm hs fun i H x H' hi hH ⟨e, y⟩ => let ⟨d, h1, h2⟩ := items_at r hi y; ⟨d, h1, .inl ⟨e, h2⟩⟩
theorem wk_tup (hs : ∀ H, HLe B H → SqT K H a vs) (r : RepL K B H α xs vs []) : WkOk K B α xs (Itt K a) :=
  .of (walk_tup (xs := vs)) r.length.symm hs fun i H x H' hi hH ⟨e, y⟩ => let ⟨d, h1, h2⟩ := items_at r hi y; ⟨d, h1, .inl ⟨e, h2⟩⟩
theorem wk_str {z : Tx} : WkOk K B α (z.map fun c => .str [c]) (Its ⟨z.toArray⟩) :=
  .of (walk_str (z := ⟨z.toArray⟩)) (by simp) (fun _ _ => trivial) fun i H x H' hi hH ⟨e, c, h, y⟩ => by
    have h' : z[i]? = some c := by simpa using h
    exact ⟨.str [c], by rw [List.getElem?_map, h']; rfl, .inl ⟨e, by rw [y]; exact ⟨by simp, rfl⟩⟩⟩
theorem rangeD_length (a b : Int) : (rangeD a b).length = (b - a).toNat := by unfold rangeD; rw [List.length_map, List.length_range]
theorem wk_range {lo hi : Int} : WkOk K B α (rangeD lo hi) (Itr lo (hi - lo).toNat) :=
  .of walk_range (rangeD_length lo hi).symm (fun _ _ => trivial) fun i H x H' hi hH ⟨e, y⟩ => by
    refine ⟨.int (lo + (i : Nat)), ?_, .inl ⟨e, by rw [y]; exact ⟨rfl, rfl⟩⟩⟩
    unfold rangeD
    rw [List.getElem?_map, List.getElem?_range hi]; rfl
theorem enum_at : ∀ (xs : List D) (n i : Nat), (enumFrom n xs)[i]? = (xs[i]?).map fun d => .tup [.int (n + i : Nat), d]
  | [], n, i => by simp [enumFrom]
  | x :: xs, n, 0 => by simp [enumFrom]
  | x :: xs, n, i + 1 => by
    rw [enumFrom, List.getElem?_cons_succ, List.getElem?_cons_succ, enum_at xs (n + 1) i]
    have : n + 1 + i = n + (i + 1) := by omega
    rw [this]
theorem enum_len : ∀ (xs : List D) (n : Nat), (enumFrom n xs).length = xs.length
  | [], _ => rfl
  | x :: xs, n => by rw [enumFrom, List.length_cons, List.length_cons, enum_len xs]
theorem wk_enum (hs : ∀ H, HLe B H → SqL K H a vs) (r : RepL K B H α xs vs []) : WkOk K B α (enumFrom 0 xs) (Ite K a) :=
  .of (walk_enum (xs := vs)) (by rw [enum_len, r.length]) hs fun i H x H' hi hH ⟨T, x1, x2, e1, e2, e3, e4, e5⟩ => by
    obtain ⟨d, h1, h2⟩ := items_at r hi e5 (H' := H)
    refine ⟨.tup [.int (0 + i : Nat), d], by rw [enum_at, h1]; rfl, .inr ⟨T, [x1, x2], [.int (0 + i : Nat), d], e1, e2, e3, rfl, ?_⟩⟩
    have : x1 = .int (i : Nat) := (Option.some.inj e4).symm
    subst this
    exact ⟨_, _, [], [], rfl, ⟨by rw [Nat.zero_add], rfl⟩, ⟨_, _, [], [], rfl, h2, ⟨rfl, rfl⟩, rfl⟩, rfl⟩
theorem zip_at : ∀ (xs ys : List D) (i : Nat) (x y : D), xs[i]? = some x → ys[i]? = some y → (zipD xs ys)[i]? = some (.tup [x, y])
  | [], _, i, _, _, h, _ => by simp at h
  | _ :: _, [], i, _, _, _, h => by simp at h
  | x :: xs, y :: ys, 0, a, b, h, h' => by simp at h h'; subst h; subst h'; rfl
  | x :: xs, y :: ys, i + 1, a, b, h, h' => by rw [zipD, List.getElem?_cons_succ]; exact zip_at xs ys i a b (by simpa using h) (by simpa using h')
theorem zip_len : ∀ (xs ys : List D), (zipD xs ys).length = min xs.length ys.length
  | [], ys => by simp [zipD]
  | x :: xs, [] => by simp [zipD]
  | x :: xs, y :: ys => by rw [zipD, List.length_cons, List.length_cons, List.length_cons, zip_len xs ys]; omega
theorem zip_yield (r : RepL K B H α xs vs []) (r' : RepL K B H α ys ws []) {i : Nat} {x y : V} (hx : vs[i]? = some x) (hy : ws[i]? = some y) {T : Addr} {H1 H2 : Hp} (hT : H1 T = none) (e : H2 = upd H1 T (.tup [x, y])) :
    ∃ d, (zipD xs ys)[i]? = some d ∧ ((H2 = H1 ∧ Rep K B H1 α d (.ref T) []) ∨ ∃ T' us ds, V.ref T = .ref T' ∧ H1 T' = none ∧ H2 = upd H1 T' (.tup us) ∧ d = .tup ds ∧ RepL K B H1 α ds us []) := by
  obtain ⟨d, h1, h2⟩ := items_at r (List.getElem?_eq_some_iff.mp hx).1 hx (H' := H1)
  obtain ⟨d', h1', h2'⟩ := items_at r' (List.getElem?_eq_some_iff.mp hy).1 hy (H' := H1)
  exact ⟨_, zip_at xs ys i d d' h1 h1', .inr ⟨T, [x, y], [d, d'], rfl, hT, e, rfl, ⟨_, _, [], [], rfl, h2, ⟨_, _, [], [], rfl, h2', ⟨rfl, rfl⟩, rfl⟩, rfl⟩⟩⟩
theorem wk_zip (hs : ∀ H, HLe B H → SqL K H a vs) (hs' : ∀ H, HLe B H → SqL K H b ws) (r : RepL K B H α xs vs []) (r' : RepL K B H α ys ws []) : WkOk K B α (zipD xs ys) (Itz K a b) :=
  .of (walk_zip (xs := vs) (ys := ws) rfl) (by rw [zip_len, r.length, r'.length]) (fun H h => ⟨hs H h, hs' H h⟩) fun i H x H' hi hH ⟨T, x1, x2, e1, e2, e3, e4, e5⟩ => by
    subst e1; exact zip_yield r r' e4 e5 e2 e3
theorem wk_zipT (hs : ∀ H, HLe B H → SqT K H a vs) (hs' : ∀ H, HLe B H → SqT K H b ws) (r : RepL K B H α xs vs []) (r' : RepL K B H α ys ws []) : WkOk K B α (zipD xs ys) (RZ.ItzT K a b) := by
  have l := zip_len xs ys
  rw [r.length, r'.length] at l
  refine ⟨fun i H hi hH => ?_, fun H hH => ?_, fun i H x H' hi hH ⟨T, x1, x2, e1, e2, e3, e4, e5⟩ => ?_⟩
  · have h1 : i < vs.length := by omega
    have h2 : i < ws.length := by omega
    exact ⟨vs, ws, vs[i], ws[i], hs H hH, hs' H hH, List.getElem?_eq_getElem h1, List.getElem?_eq_getElem h2⟩
  · exact ⟨vs, ws, hs H hH, hs' H hH, by omega⟩
  · subst e1; exact zip_yield r r' (e4 vs (hs H hH)) (e5 ws (hs' H hH)) e2 e3
end
section
variable {X : Cx} {c : Cg} {tg e : Expr} {ie : IE}
/-- over a list, a tuple or a text -/
def iSeq (K : Frag) (tl : TE) : TI := fun σ H R => tl σ H fun x H1 => (∃ a, x = .ref a ∧ (∃ xs, SqL K H1 a xs) ∧ R (Itl K a) H1) ∨ (∃ a, x = .ref a ∧ (∃ xs, SqT K H1 a xs) ∧ R (Itt K a) H1) ∨ ∃ z, x = .str z ∧ R (Its z) H1
theorem pi_seq {tl : TE} (hl : PE X e tl) : PI X tg e (iSeq X.K tl) := by
  constructor
  intro pins s σ H R I h
  refine thn (hl.run pins s σ H _ I h) fun v s1 ⟨x, H1, I1, r1, q1⟩ => ?_
  have one : ∀ b ∈ [s1.heap.objs.size], FpOk X pins H1 b := fun b hb => by
    have e' : b = s1.heap.objs.size := List.mem_singleton.mp hb
    rw [e']
    exact I1.fpOk (Nat.le_refl _) (I1.hok.fresh (Nat.le_refl _))
  rcases q1 with ⟨a, rfl, ⟨xs, hq⟩, q⟩ | ⟨a, rfl, ⟨xs, hq⟩, q⟩ | ⟨z, rfl, q⟩
  · cases r1
    obtain ⟨its, rv, p, hz⟩ := I1.list hq
    exact wpAny_pyIter_list p.isList ⟨_, [_], _, _, H1, rfl, I1.kept (t' := s1.toks) fun b o e => Heap.get?_push_of_some _ e, turn_list a _, ⟨_, Heap.get?_push_size _ rfl, rfl, rfl⟩, one, q⟩
  · cases r1
    obtain ⟨its, rv, ht, hz⟩ := I1.tuple hq
    exact wpAny_pyIter_tuple (show s1.heap.IsTuple a its.toArray from ht) ⟨_, [_], _, _, H1, rfl, I1.kept (t' := s1.toks) fun b o e => Heap.get?_push_of_some _ e, turn_tuple a _, ⟨_, Heap.get?_push_size _ rfl, rfl, rfl⟩, one, q⟩
  · obtain ⟨t, rfl⟩ := r1
    by_cases ha : (z.cps.all fun k => decide (k < 128)) = true
    · exact wpAny_pyIter_ascii ha (pi_one (tk := s1.toks) I1 _ (turn_str _ z t "str_ascii_iterator" (.inl rfl)) ⟨_, Heap.get?_push_size _ rfl, rfl, rfl⟩ q)
    · exact wpAny_pyIter_wide (by simpa using ha) (pi_one (tk := s1.toks) I1 _ (turn_str _ z t "str_iterator" (.inr rfl)) ⟨_, Heap.get?_push_size _ rfl, rfl, rfl⟩ q)
/-- one thing walked, shared first -/
theorem share_one {σ : LSt} {B H B0 H0 : Hp} {φ φ0 : Fp} {α α0 : List Addr} {env : Env} {st : Stt} {q : Bool} {d : D} {v : V} {f : List Addr} (s : Stp q B0 H0 φ0 α0 B H φ α) (W : Wd c.K B H σ α φ env st) (t : Tmp c.K B0 H0 φ0 B H φ α d v f) :
    ∃ B', Wd c.K B' H σ α φ env st ∧ Rep c.K B' H α (fz d) v [] ∧ Stp q B0 H0 φ0 α0 B' H φ α := by
  obtain ⟨W2, r2, hb, hn⟩ := W.share t
  refine ⟨_, W2, r2, s.frame, s.new, fun a o e => ?_, s.mono.trans hb, s.pre, s.same⟩
  rcases hn a o e with e | m
  · exact s.bnew a o e
  · exact .inr (t.new a m)
theorem Rep.lstF {B H : Hp} {α : List Addr} {o : Bool} {xs : List D} {v : V} (r : Rep c.K B H α (.lst o xs) v []) : ∃ a vs, v = .ref a ∧ B a = some (.lst vs) ∧ RepL c.K B H α xs vs [] := by
  cases o with
  | true => obtain ⟨a, vs, g, _, _, _, z⟩ := r; cases z
  | false => obtain ⟨a, vs, e, h, r, _⟩ := r; exact ⟨a, vs, e, h, r⟩
theorem sI_seq (hK : X.K = c.K) (h : PE X e (TE_ c ie)) : PI X tg e (TI_ c .seq [ie]) := PI.imp (pi_seq h) fun σ H R => by
  rintro ⟨B, φ, α, env, st, Kk, Xk, W, w, p, x⟩
  refine ⟨B, φ, α, env, st, _, Xk, W, w, fun d e1 s1 k v B1 H1 φ1 α1 f W1 s t => ?_, x⟩
  obtain ⟨B2, W2, r, s2⟩ := share_one (s.weak (q2 := false) fun h => nomatch h) W1 t
  rw [hK]
  have k' : itemsW .seq [fz d] fun xs => Kk xs e1 s1 := k
  cases d with
  | lst o xs =>
    obtain ⟨a, vs, rfl, ha, r⟩ := Rep.lstF (c := c) r
    exact .inl ⟨a, rfl, ⟨vs, .of (W2.le _ _ ha)⟩, p _ e1 s1 k' _ B2 H1 φ1 α1 W2 s2 (wk_list (fun H' hH => .of (hH _ _ ha)) r)⟩
  | kst xs =>
    obtain ⟨a, vs, rfl, ha, r, _⟩ := r
    exact .inl ⟨a, rfl, ⟨vs, SqL.le W2.le ha⟩, p _ e1 s1 k' _ B2 H1 φ1 α1 W2 s2 (wk_list (fun H' hH => SqL.le hH ha) r)⟩
  | tup xs =>
    obtain ⟨a, vs, rfl, ha, r⟩ := r
    exact .inr (.inl ⟨a, rfl, ⟨vs, (TAt.le W2.le ha).sq⟩, p _ e1 s1 k' _ B2 H1 φ1 α1 W2 s2 (wk_tup (fun H' hH => (TAt.le hH ha).sq) r)⟩)
  | str z =>
    obtain ⟨rfl, _⟩ := r
    exact .inr (.inr ⟨_, rfl, p _ e1 s1 k' _ B2 H1 φ1 α1 W2 s2 wk_str⟩)
  | _ => exact k'.elim
end
end Ev

namespace Ev
open PySem PySem.Spec PyProof.Rows L2
theorem meets_enum1 {v : Value} {o : Obj} {Hh : Heap → Prop} (B : Begins v o Hh) :
    Meets (Builtin.«enumerate.__new__» ⟨[.type "enumerate", v], []⟩) (fun _ R s => Hh s.heap ∧
      R (.ok (.ret (.ref (s.heap.push o).objs.size))) { s with heap := (s.heap.push o).push { cls := .type "enumerate", data := .fields #[.none, .bool false, .ref s.heap.objs.size, rawInt 0, .none, .none] } }) :=
  .of_wp fun prog w A R s h => by
    obtain ⟨hp, g, d, tk, os⟩ := s; obtain ⟨h1, h⟩ := h
    have hsub := sub_enumerate
    have q1 : ∀ {A' : Around} {E : Value → Shared → Prop} {Q : Value → Shared → Prop}, Q (.ref hp.objs.size) ⟨hp.push o, g, d, tk, os⟩ → wpAny (model prog w) A' (pyIter v) Q E ⟨hp, g, d, tk, os⟩ :=
      fun q => B.iter prog w _ _ ⟨hp, g, d, tk, os⟩ _ h1 q
    wp_walk
    refine wpAny_stack_any fun st => wpAny_pure ?_
    split
    · rename_i c _ _ _ _ _
      cases (c == Value.type "enumerate")
      · wp_walk using q1
        exact ⟨_, rfl, h⟩
      · wp_walk using q1
        exact ⟨_, rfl, h⟩
    · wp_walk using q1
      exact ⟨_, rfl, h⟩
section
variable {prog : Program} {w : World} {A : Around} {E : Value → Shared → Prop} {s : Shared}
theorem enum_begins1 {v : Value} {o : Obj} {Hh : Heap → Prop} {Q : Value → Shared → Prop} (B : Begins v o Hh) (h1 : Hh s.heap)
    (h : ∀ h', IsEnum h' (s.heap.objs.size + 1) s.heap.objs.size 0 .none → h'.get? s.heap.objs.size = some o → h'.objs.size = s.heap.objs.size + 2 →
      (∀ b o, s.heap.get? b = some o → h'.get? b = some o) → Q (.ref (s.heap.objs.size + 1)) { s with heap := h' }) :
    wpAny (model prog w) A (call (.type "enumerate") [v]) Q E s := by
  refine callType_new F.called_enumerate (by decide) (F.typeCall_enumerate_1 _) (F.newCall_enumerate_1 _) (fun obj => F.args_object_init_2 obj _) F.entry_enumerate_new
    (meets_enum1 B) ⟨h1, ?_⟩
  have hz : (s.heap.push o).objs.size = s.heap.objs.size + 1 := Heap.size_push ..
  show _ ∧ _
  rw [hz]
  have he : IsEnum ((s.heap.push o).push { cls := .type "enumerate", data := .fields #[.none, .bool false, .ref s.heap.objs.size, rawInt 0, .none, .none] }) (s.heap.objs.size + 1) s.heap.objs.size 0 .none := by
    have := Heap.get?_push_size (s.heap.push o) (o := { cls := .type "enumerate", data := .fields #[.none, .bool false, .ref s.heap.objs.size, rawInt 0, .none, .none] }) rfl
    rw [hz] at this; exact this
  refine ⟨⟨_, he, rfl⟩, h _ he (Heap.get?_push_of_some _ (Heap.get?_push_size _ B.free)) (by rw [Heap.size_push, hz]) fun b o x => Heap.get?_push_of_some _ (Heap.get?_push_of_some _ x)⟩
theorem enum_end_tuple {e it l : Addr} {i : Nat} {items : Array Value} {old : Value} {Q : Option Value → Shared → Prop} (hh : A.handled = none)
    (he : IsEnum s.heap e it i old) (hit : s.heap.IsTupleIter it l i) (hl : s.heap.IsTuple l items) (hx : items[i]? = none)
    (hQ : ∀ h', Heap.ExtBut it s.heap h' → Q none { s with heap := h' }) : wpAny (model prog w) A (pyNext (.ref e)) Q E s := by
  have hT : s.TypeIs (.ref e) "enumerate" := ⟨_, he, rfl⟩
  unfold pyNext
  refine wpAny_bind (wpAny_attempt (wpAny_callSpecial?_slot (name := Str.ofString "__next__") hT F.slot_enumerate_next
    (wpAny_call_entry F.slot_enumerate_next hT F.entry_enumerate_next ?_ (F.args_enumerate_next_1 _))))
  show wpAny _ _ (field (.ref e) 2 >>= _) _ _ _
  refine wpAny_bind (wpAny_field he rfl (x := .ref it) rfl ?_)
  refine wpAny_bind (wpAny_nextOf_tuple_end hh hit hl hx fun h' x he' hx' => ?_)
  obtain ⟨o, ho, hc⟩ := hx'
  refine wpAny_bind (wpAny_isInstance (T := "StopIteration") (b := true) ⟨o, ho, hc⟩ isSubtype_stop ?_)
  exact wpAny_pure (hQ _ he')
end
def IteT (K : PySem.W.Frag) (a : Addr) : It :=
  ⟨fun i H => ∃ (xs : List V) (x : V), SqT K H a xs ∧ xs[i]? = some x, fun i H v H' => ∃ T x, v = .ref T ∧ H T = none ∧ H' = upd H T (.tup [.int (i : Nat), x]) ∧ ∀ xs, SqT K H a xs → xs[i]? = some x, fun i H => ∃ xs : List V, SqT K H a xs ∧ xs.length ≤ i⟩
theorem turn_enumT {P : Program} {w : World} {K : PySem.W.Frag} {elts : List Expr} {kk : Nat} {tpos : Pos} (a e it : Addr) (hai : a ≠ it) :
    Turn P w K (.Tuple elts kk tpos) (IteT K a) [e, it] e (fun i h => (∃ old, IsEnum h e it ((i : Nat) : Int) old) ∧ h.IsTupleIter it a i ∧ e ≠ it ∧ e ≠ a) where
  mem := by simp
  obj := fun i h st b hb => by
    obtain ⟨⟨old, he⟩, ⟨o, ho, hc, hd⟩, _⟩ := st
    have e' : b = e ∨ b = it := by simpa using hb
    rcases e' with z | z
    · rw [z]; exact ⟨_, he, fun v q => nomatch q⟩
    · rw [z]; exact ⟨o, ho, fun v q => by rw [hd] at q; cases q⟩
  keep := fun i h h' st k => let ⟨⟨old, he⟩, hi, hne, hna⟩ := st; ⟨⟨old, k e (by simp) _ he⟩, hi.at fun o q => k it (by simp) o q, hne, hna⟩
  item := by
    intro X hP hw hK hc i pins s σ H E I hf st hg
    subst hP hw hK
    obtain ⟨⟨old, he⟩, hit, hne, hna⟩ := st
    obtain ⟨xs, x, hq, hx⟩ := hg
    obtain ⟨its, rv, p, hz⟩ := I.tuple hq
    obtain ⟨u, hu, ru⟩ := rv.get hx
    have hel : e < s.heap.objs.size := Heap.lt_size he
    have hil : it < s.heap.objs.size := by obtain ⟨_, q, _⟩ := hit; exact Heap.lt_size q
    have hin : i < its.toArray.size := by
      have := (List.getElem?_eq_some_iff.mp hu).1
      simpa using this
    refine wpAny_pyNext_enum_itemD (Draws.tuple (show X.A.in1.handled = none from I.ok.hd hc) it a hai its.toArray) he ⟨hit, p⟩ hin hne (by simp [hne, hna]) fun u' h' tk hP' ho hit' hT hsz hk => ?_
    have eu : u' = u := by
      have h2 : its.toArray[i]? = some u := by simpa using hu
      rw [hP'] at h2; exact Option.some.inj h2
    subst eu
    refine ⟨_, rfl, wpAny_letOwnedTupleGo_enum (s := { s with heap := h', toks := tk + 1 }) ho fun h'' he' sb => ?_⟩
    have hT2 : h''.get? s.heap.objs.size = some { cls := .type "tuple", data := .seq #[.int i tk, u'] } := (sb.2 _ (Nat.ne_of_gt hel)).trans hT
    have new : ObjOk X.prog X.w (upd H s.heap.objs.size (.tup [.int (i : Nat), x])) h'' s.heap.objs.size (.tup [.int (i : Nat), x]) :=
      ⟨by show 2 ≤ sizeLine; decide, [.int i tk, u'], .cons ⟨_, rfl⟩ (.cons ru .nil), ⟨_, hT2, rfl, _, rfl⟩⟩
    have I1 : Inv X pins σ (upd H s.heap.objs.size (.tup [.int (i : Nat), x])) { s with heap := h'', toks := tk + 1 } :=
      I.turnedNew (ch := [e, it]) (fun b ob hb q => (sb.2 b (fun z => hb (by simp [z]))).trans (hk b ob (fun z => hb (by simp [z])) (fun z => hb (by simp [z])) q)) hf (Nat.le_refl _) new
    refine ⟨.ref s.heap.objs.size, _, I1, rfl, ⟨_, x, rfl, I.hok.fresh (Nat.le_refl _), rfl, fun ys hy => by rw [I.tuple_inj hy hq]; exact hx⟩, ⟨⟨u', ?_⟩, hit'.1.at fun o q => (sb.2 it (Ne.symm hne)).trans q, hne, hna⟩, fun b hb => ?_⟩
    · have e1 : ((i + 1 : Nat) : Int) = (i : Int) + 1 := by omega
      rw [e1]; exact he'
    · have hb' : b < s.heap.objs.size := by
        have e' : b = e ∨ b = it := by simpa using hb
        rcases e' with z | z
        · rw [z]; exact hel
        · rw [z]; exact hil
      rw [upd_ne (Nat.ne_of_lt hb')]
      exact (hf b hb).1
  done := by
    intro X hP hw hK hc i pins s σ H E I hf st hg
    subst hP hw hK
    obtain ⟨⟨old, he⟩, hit, hne, hna⟩ := st
    obtain ⟨xs, hq, hx⟩ := hg
    obtain ⟨its, rv, p, hz⟩ := I.tuple hq
    obtain ⟨f0, f1, f2, f3, f4, f5⟩ := hf it (by simp)
    have hl := rv.length
    have hT : s.TypeIs (.ref e) "enumerate" := ⟨_, he, rfl⟩
    refine enum_end_tuple (I.ok.hd hc) he hit p (by simp; omega) fun h' eb => ⟨rfl, I.turned (t' := s.toks) (fun b o hb q => eb b o hb q) f0 f1 f3 f4 f5⟩
  self := fun A i s Q E st h => let ⟨⟨_, he⟩, _⟩ := st; wpAny_pyIter_enum he h
def iEnumA (K : PySem.W.Frag) (ta : TA) : TI := fun σ H R => ta σ H fun vs H1 => ∃ a xs, vs = [.ref a] ∧ ((SqL K H1 a xs ∧ R (Ite K a) H1) ∨ (SqT K H1 a xs ∧ R (IteT K a) H1))
theorem pi_enumA {X : Cx} {e : Expr} {ta : TA} {p pos tpos : Pos} {elts : List Expr} {kk : Nat} (hg : Gl X "enumerate") (hm : X.mg "enumerate" = none) (ha : PA X [e] ta) (hs : starEach [e] X.env = [(false, eval e X.env)] := by rfl) :
    PI X (.Tuple elts kk tpos) (.Call (.Name "enumerate" p) [e] [] pos) (iEnumA X.K ta) := by
  refine ⟨fun pins s σ H R I h => ?_⟩
  refine Call_ (ld_blt I hg hm boot_enumerate (PyProof.Rows.callWith_type1 (thn (ha.run pos pins s σ H _ I h) fun us s1 ⟨vs, H1, I1, r1, q1⟩ => ?_) hs rfl))
  obtain ⟨a, xs, ex, q1⟩ := q1
  subst ex
  cases r1 with
  | cons r rr =>
    cases rr
    cases r
    have two : ∀ b, b ∈ [s1.heap.objs.size + 1, s1.heap.objs.size] → FpOk X pins H1 b := fun b hb => by
      have e' : b = s1.heap.objs.size + 1 ∨ b = s1.heap.objs.size := by simpa using hb
      have hle : s1.heap.objs.size ≤ b := by
        rcases e' with z | z
        · rw [z]; exact Nat.le_add_right _ _
        · rw [z]; exact Nat.le_refl _
      exact I1.fpOk hle (I1.hok.fresh hle)
    rcases q1 with ⟨hq, q⟩ | ⟨hq, q⟩
    · obtain ⟨its, rv, p', hz⟩ := I1.list hq
      refine call_enumerate_list p'.isList fun h' he hit hsz hk => wpAny_pyIter_enum he ?_
      have I2 : Inv X pins σ H1 { s1 with heap := h' } := I1.kept (t' := s1.toks) hk
      exact ⟨s1.heap.objs.size + 1, [s1.heap.objs.size + 1, s1.heap.objs.size], _, _, H1, rfl, I2, turn_enum a (s1.heap.objs.size + 1) s1.heap.objs.size, ⟨⟨.none, he⟩, hit, Nat.succ_ne_self _⟩, two, q⟩
    · obtain ⟨its, rv, p', hz⟩ := I1.tuple hq
      obtain ⟨ot, hot, _⟩ := id p'
      have hlt := Heap.lt_size hot
      refine enum_begins1 (begins_tuple a its.toArray) p' fun h' he hit hsz hk => wpAny_pyIter_enum he ?_
      have I2 : Inv X pins σ H1 { s1 with heap := h' } := I1.kept (t' := s1.toks) hk
      exact ⟨s1.heap.objs.size + 1, [s1.heap.objs.size + 1, s1.heap.objs.size], _, _, H1, rfl, I2, turn_enumT a (s1.heap.objs.size + 1) s1.heap.objs.size (Nat.ne_of_lt hlt), ⟨⟨.none, he⟩, ⟨_, hit, rfl, rfl⟩, Nat.succ_ne_self _, Nat.ne_of_gt (Nat.lt_succ_of_lt hlt)⟩, two, q⟩
section
variable {K : Frag} {B H : Hp} {α : List Addr} {xs : List D} {vs : List V} {a : Addr}
theorem wk_enumT (hs : ∀ H, HLe B H → SqT K H a vs) (r : RepL K B H α xs vs []) : WkOk K B α (enumFrom 0 xs) (IteT K a) := by
  have l : (enumFrom 0 xs).length = vs.length := by rw [enum_len, r.length]
  refine ⟨fun i H hi hH => ?_, fun H hH => ⟨vs, hs H hH, by rw [l]; exact Nat.le_refl _⟩, fun i H x H' hi hH ⟨T, x2, e1, e2, e3, e5⟩ => ?_⟩
  · have h1 : i < vs.length := by omega
    exact ⟨vs, vs[i], hs H hH, List.getElem?_eq_getElem h1⟩
  · have e5 := e5 vs (hs H hH)
    obtain ⟨d, h1, h2⟩ := items_at r (List.getElem?_eq_some_iff.mp e5).1 e5 (H' := H)
    refine ⟨.tup [.int (0 + i : Nat), d], by rw [enum_at, h1]; rfl, .inr ⟨T, [.int (i : Nat), x2], [.int (0 + i : Nat), d], e1, e2, e3, rfl, ?_⟩⟩
    exact ⟨_, _, [], [], rfl, ⟨by rw [Nat.zero_add], rfl⟩, ⟨_, _, [], [], rfl, h2, ⟨rfl, rfl⟩, rfl⟩, rfl⟩
end
end Ev

namespace Ev
open PySem PySem.Spec PyProof.Rows L2
section
variable {X : Cx} {c : Cg} {e a b tg : Expr} {ie ia ib : IE} {es : List Expr} {ies : List IE} {pos p tpos : Pos} {elts : List Expr} {kk : Nat}
theorem RepL.one {K : Frag} {B H : Hp} {α : List Addr} {d : D} {vs : List V} (h : RepL K B H α [d] vs []) : ∃ v, vs = [v] ∧ Rep K B H α d v [] := by
  obtain ⟨v, vr, g, g2, e1, r, ⟨e2, e3⟩, e4⟩ := h
  subst e2 e3
  rw [List.append_nil] at e4; subst e4
  exact ⟨v, e1, r⟩
theorem RepL.two {K : Frag} {B H : Hp} {α : List Addr} {d e : D} {vs : List V} (h : RepL K B H α [d, e] vs []) : ∃ v u, vs = [v, u] ∧ Rep K B H α d v [] ∧ Rep K B H α e u [] := by
  obtain ⟨v, vr, g, g2, e1, r, ⟨u, ur, g3, g4, e2, r', ⟨e5, e6⟩, e7⟩, e4⟩ := h
  subst e5 e6 e7 e2
  rw [List.append_nil] at e4
  obtain ⟨z5, z6⟩ := List.nil_eq_append_iff.mp e4; subst z5; subst z6
  exact ⟨v, u, e1, r, r'⟩
theorem rng1_inv {d : D} {K : List D → Prop} (h : itemsW .rng [d] K) : ∃ i, d = .int i ∧ InR i ∧ K (rangeD 0 i) := by
  cases d <;> first | exact h.elim | exact ⟨_, rfl, h⟩
theorem rng2_inv {d e : D} {K : List D → Prop} (h : itemsW .rng [d, e] K) : ∃ i j, d = .int i ∧ e = .int j ∧ (InR i ∧ InR j) ∧ K (rangeD i j) := by
  cases d <;> first | exact h.elim | (cases e <;> first | exact h.elim | exact ⟨_, _, rfl, rfl, h⟩)
theorem enum_inv {d : D} {K : List D → Prop} (h : itemsW .enum [d] K) : (∃ o xs, d = .lst o xs ∧ K (enumFrom 0 xs)) ∨ ∃ xs, d = .tup xs ∧ K (enumFrom 0 xs) := by
  cases d <;> first | exact h.elim | exact .inl ⟨_, _, rfl, h⟩ | exact .inr ⟨_, rfl, h⟩
theorem zip_inv {d e : D} {K : List D → Prop} (h : itemsW .zip [d, e] K) : (∃ o xs o' ys, d = .lst o xs ∧ e = .lst o' ys ∧ K (zipD xs ys)) ∨ ∃ xs ys, d = .tup xs ∧ e = .tup ys ∧ K (zipD xs ys) := by
  cases d <;> first | exact h.elim | (cases e <;> first | exact h.elim | exact .inl ⟨_, _, _, _, rfl, rfl, h⟩ | exact .inr ⟨_, _, rfl, rfl, h⟩)
/-- handed on, then shared -/
def TZs_ (c : Cg) (es : List IE) : TA := fun σ H Q => ∃ B φ α env st Kk Xk, Wd c.K B H σ α φ env st ∧ wZs c.F es env st Kk Xk ∧
  (∀ ds env' st', Kk ds env' st' → ∀ vs B' H' φ' α', Wd c.K B' H' σ α' φ' env' st' → Stp false B H φ α B' H' φ' α' → RepL c.K B' H' α' ds vs [] → ds.length = es.length → Q vs H') ∧ PostX c σ B H φ α Xk
theorem sZ_nil : PA X [] (TZs_ c []) := PA.imp pa_nil fun σ H Q => by
  rintro ⟨B, φ, α, env, st, Kk, Xk, W, w, p, x⟩
  exact p _ env st w _ B H φ α W (Stp.refl.weak fun h => nomatch h) ⟨rfl, rfl⟩ rfl
theorem sZ_cons (h : PE X e (TE_ c ie)) (r : PA X es (TZs_ c ies)) (hs : starEach (e :: es) X.env = (false, eval e X.env) :: starEach es X.env) : PA X (e :: es) (TZs_ c (ie :: ies)) := PA.imp (pa_cons h r hs) fun σ H Q => by
  rintro ⟨B, φ, α, env, st, Kk, Xk, W, w, p, x⟩
  refine ⟨B, φ, α, env, st, _, Xk, W, w, fun d env' st' k v B' H' φ' α' f W' s t => ?_, x⟩
  obtain ⟨B2, W2, r2, s2⟩ := share_one (s.weak (q2 := false) fun h => nomatch h) W' t
  refine ⟨B2, φ', α', env', st', _, Xk, W2, k, fun ds e2 st2 k2 vs B3 H3 φ3 α3 W3 s3 r3 l3 => ?_, x.step s2⟩
  exact p _ e2 st2 k2 _ B3 H3 φ3 α3 W3 ((s2.trans s3).weak fun h => nomatch h) ⟨_, _, [], [], rfl, r2.step s3 (fun _ m => nomatch m), r3, rfl⟩ (by rw [List.length_cons, l3, List.length_cons])
theorem sI_rng1 (hg : Gl X "range") (hm : X.mg "range" = none) (ha : PE X a (TE_ c ia)) (hs : starEach [a] X.env = [(false, eval a X.env)]) : PI X tg (.Call (.Name "range" p) [a] [] pos) (TI_ c .rng [ia]) :=
  PI.imp (pi_range1 hg hm (sZ_cons ha sZ_nil (by rw [hs]; rfl)) hs) fun σ H R => by
    rintro ⟨B, φ, α, env, st, Kk, Xk, W, w, p, x⟩
    refine ⟨B, φ, α, env, st, _, Xk, W, w, fun ds e1 s1 k vs B1 H1 φ1 α1 W1 s r l => ?_, x⟩
    match ds, l with
    | [d], _ =>
      obtain ⟨i, rfl, k1, k2⟩ := rng1_inv k
      obtain ⟨v, rfl, r1, _⟩ := r.one
      subst r1
      refine ⟨i, rfl, k1.1, k1.2, p _ _ _ k2 _ B1 H1 φ1 α1 W1 s ?_⟩
      have := wk_range (K := c.K) (B := B1) (α := α1) (lo := 0) (hi := i)
      rwa [Int.sub_zero] at this
theorem sI_rng2 (hg : Gl X "range") (hm : X.mg "range" = none) (ha : PE X a (TE_ c ia)) (hb : PE X b (TE_ c ib)) (hs : starEach [a, b] X.env = [(false, eval a X.env), (false, eval b X.env)]) (hs2 : starEach [b] X.env = [(false, eval b X.env)]) :
    PI X tg (.Call (.Name "range" p) [a, b] [] pos) (TI_ c .rng [ia, ib]) :=
  PI.imp (pi_range2 hg hm (sZ_cons ha (sZ_cons hb sZ_nil (by rw [hs2]; rfl)) (by rw [hs, hs2])) hs hs2) fun σ H R => by
    rintro ⟨B, φ, α, env, st, Kk, Xk, W, w, p, x⟩
    refine ⟨B, φ, α, env, st, _, Xk, W, w, fun ds e1 s1 k vs B1 H1 φ1 α1 W1 s r l => ?_, x⟩
    match ds, l with
    | [d, d'], _ =>
      obtain ⟨i, j, rfl, rfl, k1, k2⟩ := rng2_inv k
      obtain ⟨v, u, rfl, ⟨r1, _⟩, r2, _⟩ := r.two
      subst r1 r2
      exact ⟨i, j, rfl, ⟨k1.1.1, k1.1.2, k1.2.1, k1.2.2⟩, p _ _ _ k2 _ B1 H1 φ1 α1 W1 s wk_range⟩
theorem sI_enum (hK : X.K = c.K) (hg : Gl X "enumerate") (hm : X.mg "enumerate" = none) (ha : PE X a (TE_ c ia)) (hs : starEach [a] X.env = [(false, eval a X.env)]) :
    PI X (.Tuple elts kk tpos) (.Call (.Name "enumerate" p) [a] [] pos) (TI_ c .enum [ia]) :=
  PI.imp (pi_enumA hg hm (sZ_cons ha sZ_nil (by rw [hs]; rfl)) hs) fun σ H R => by
    rintro ⟨B, φ, α, env, st, Kk, Xk, W, w, p, x⟩
    refine ⟨B, φ, α, env, st, _, Xk, W, w, fun ds e1 s1 k vs B1 H1 φ1 α1 W1 s r l => ?_, x⟩
    rw [hK]
    match ds, l with
    | [d], _ =>
      obtain ⟨v, rfl, r1⟩ := r.one
      rcases enum_inv k with ⟨o, xs, rfl, k⟩ | ⟨xs, rfl, k⟩
      · obtain ⟨q, vs, rfl, hq, r⟩ := Rep.lstF (c := c) r1
        exact ⟨q, vs, rfl, .inl ⟨.of (W1.le _ _ hq), p _ _ _ k _ B1 H1 φ1 α1 W1 s (wk_enum (fun H' hH => .of (hH _ _ hq)) r)⟩⟩
      · obtain ⟨q, vs, rfl, hq, r⟩ := r1
        exact ⟨q, vs, rfl, .inr ⟨(TAt.le W1.le hq).sq, p _ _ _ k _ B1 H1 φ1 α1 W1 s (wk_enumT (fun H' hH => (TAt.le hH hq).sq) r)⟩⟩
theorem sI_zip (hK : X.K = c.K) (hg : Gl X "zip") (hm : X.mg "zip" = none) (ha : PE X a (TE_ c ia)) (hb : PE X b (TE_ c ib)) (hs : starEach [a, b] X.env = (false, eval a X.env) :: starEach [b] X.env) (hs2 : starEach [b] X.env = [(false, eval b X.env)])
    (hpl : (backTo pos (starEach [b] X.env)).any (·.1) = false) :
    PI X (.Tuple elts kk tpos) (.Call (.Name "zip" p) [a, b] [] pos) (TI_ c .zip [ia, ib]) :=
  PI.imp (RZ.pi_zipA hg hm (sZ_cons ha (sZ_cons hb sZ_nil (by rw [hs2]; rfl)) hs) hs hpl) fun σ H R => by
    rintro ⟨B, φ, α, env, st, Kk, Xk, W, w, p, x⟩
    refine ⟨B, φ, α, env, st, _, Xk, W, w, fun ds e1 s1 k vs B1 H1 φ1 α1 W1 s r l => ?_, x⟩
    rw [hK]
    match ds, l with
    | [d, d'], _ =>
      obtain ⟨v, u, rfl, r1, r2⟩ := r.two
      rcases zip_inv k with ⟨o, xs, o', ys, rfl, rfl, k⟩ | ⟨xs, ys, rfl, rfl, k⟩
      · obtain ⟨q, vs, rfl, hq, rr⟩ := Rep.lstF (c := c) r1
        obtain ⟨q', vs', rfl, hq', r'⟩ := Rep.lstF (c := c) r2
        exact ⟨q, q', vs, vs', rfl, .inl ⟨.of (W1.le _ _ hq), .of (W1.le _ _ hq'), p _ _ _ k _ B1 H1 φ1 α1 W1 s (wk_zip (fun H' hH => .of (hH _ _ hq)) (fun H' hH => .of (hH _ _ hq')) rr r')⟩⟩
      · obtain ⟨q, vs, rfl, hq, rr⟩ := r1
        obtain ⟨q', vs', rfl, hq', r'⟩ := r2
        exact ⟨q, q', vs, vs', rfl, .inr ⟨(TAt.le W1.le hq).sq, (TAt.le W1.le hq').sq, p _ _ _ k _ B1 H1 φ1 α1 W1 s (wk_zipT (fun H' hH => (TAt.le hH hq).sq) (fun H' hH => (TAt.le hH hq').sq) rr r')⟩⟩
end
end Ev

namespace Ev
open PySem PySem.Spec PyProof.Rows L2
theorem walks_shift {prog : Program} {w : World} {A : Around} {I : Addr} {fp wr : List Addr} {n : Nat} {P : Nat → Value → Prop} {St : Nat → Heap → Prop} (W : Walks prog w A I fp wr n P St) (k : Nat) (hk : k ≤ n) :
    Walks prog w A I fp wr (n - k) (fun i v => P (k + i) v) (fun i h => St (k + i) h) where
  sub := W.sub
  frame := fun i h h' => W.frame (k + i) h h'
  item := fun i s Q E hi st hQ => W.item (k + i) s Q E (by omega) st fun v h' tk p st' => hQ v h' tk p (by rw [show k + (i + 1) = k + i + 1 by omega]; exact st')
  done := fun s Q E st hQ => W.done s Q E (by rw [show k + (n - k) = n by omega] at st; exact st) hQ
  self := fun i s Q E st hQ => W.self (k + i) s Q E st hQ
section
variable {prog : Program} {w : World} {A : Around} {E : Value → Shared → Prop} {s : Shared}
theorem items_list {items : Array Value} {acc : Array Value} {k : Nat} (h : ItemsOf (fun i v => items[k + i]? = some v) acc (items.size - k)) : acc.toList = items.toList.drop k := by
  apply List.ext_getElem?
  intro i
  rw [List.getElem?_drop]
  have e1 : acc.toList[i]? = acc[i]? := by simp
  have e2 : items.toList[k + i]? = items[k + i]? := by simp
  rw [e1, e2]
  cases q : acc[i]? with
  | some v => exact (h.2 i v q).symm
  | none =>
    have hi : items.size - k ≤ i := by
      have := h.1
      have := Array.getElem?_eq_none_iff.mp q
      omega
    symm
    exact Array.getElem?_eq_none_iff.mpr (by omega)
theorem unpack_star {t : Addr} {items : Array Value} {targets : List (Bool × (Value → Sem Unit))} {i : Nat} {Q : Unit → Shared → Prop} (hh : A.handled = none) (ht : IsTup s.heap t items) (hz : items.size ≤ sizeLine)
    (hi : targets.findIdx? (·.1) = some i) (hin : i < targets.length) (hn : targets.length ≤ items.size + 1)
    (h : ∀ s' : Shared, (∀ b o, s.heap.get? b = some o → s'.heap.get? b = some o) → s'.gens = s.gens → s'.drawn = s.drawn → s'.os = s.os →
      wpAny (model prog w) A (assignInOrder (targets.map (·.2)) (items.toList.take i ++ [.ref s'.heap.objs.size] ++ items.toList.drop (items.size - (targets.length - 1 - i)))) Q E
        { s' with heap := s'.heap.push { cls := .type "list", data := .seq ((items.toList.drop i).take (items.size - (targets.length - 1))).toArray } }) :
    wpAny (model prog w) A (unpack (.ref t) targets) Q E s := by
  have hlt : t ≠ s.heap.objs.size := by obtain ⟨o, ho, _⟩ := ht; exact Nat.ne_of_lt (Heap.lt_size ho)
  have htl : t < s.heap.objs.size := by obtain ⟨o, ho, _⟩ := ht; exact Heap.lt_size ho
  unfold unpack
  rw [hi]
  refine wpAny_bind (wpAny_holding ?_)
  unfold unpackItems
  refine wpAny_bind ?_
  unfold notIterableAtAll
  refine wpAny_bind (wpAny_specialOf ht.typeIs slot_tuple_iter.lookup ?_)
  refine wpAny_pure ?_
  simp only [Bool.false_eq_true, if_false]
  refine wpAny_bind (wpAny_holding (iter_tuple ht ?_))
  have hle : 0 + i ≤ items.size := by omega
  refine wpAny_bind (wpAny_holding (draw_tuple hlt i 0 _ _ ⟨_, Heap.get?_push_size _ rfl, rfl, rfl⟩ (ht.push _) hle fun h₁ hit₁ hs₁ => ?_))
  rw [Nat.zero_add] at hit₁
  have hfirst : List.take i (List.drop 0 items.toList) = items.toList.take i := by rw [List.drop_zero]
  rw [hfirst]
  have hlen : (items.toList.take i).length = i := by rw [List.length_take, Array.length_toList]; omega
  rw [if_neg (by rw [hlen]; omega)]
  have ht₁ : IsTup h₁ t items := (ht.push _).extBut hs₁.extBut hlt
  have W := (walks_shift (Walks.tuple (prog := prog) (w := w) (A := A.in1) (show A.in1.handled = none from hh) s.heap.objs.size t hlt items) i (by omega)).toS
  have hit₁' : h₁.IsTupleIter s.heap.objs.size t (i + 0) := hit₁
  have ht₁' : h₁.IsTuple t items := ht₁
  have hz1 : s.heap.objs.size < h₁.objs.size := by obtain ⟨o, ho, _⟩ := hit₁; exact Heap.lt_size ho
  refine wpAny_bind (wpAny_holding (wpAny_collect_iter (s := { s with heap := h₁ }) (.inr (.inr (.inr rfl))) W (fun j s' st => by obtain ⟨o, ho, hc, _⟩ := st.1; exact ⟨o, ho, hc⟩) ⟨hit₁', ht₁'⟩ (fun b hb => ?_) (by simp) (fun s' acc hm hacc => ?_) (by omega)))
  · have e' : b = s.heap.objs.size ∨ b = t := by simpa using hb
    rcases e' with e | e
    · rw [e]; exact hz1
    · rw [e]; exact Nat.lt_trans htl hz1
  have hal := items_list hacc
  have hrl : acc.toList.length = items.size - i := by rw [hal, List.length_drop, Array.length_toList]
  rw [if_neg (by rw [hrl]; omega)]
  refine wpAny_bind (wpAny_newList ?_)
  refine wpAny_pure ?_
  have kp : ∀ b o, s.heap.get? b = some o → s'.heap.get? b = some o := fun b o e => by
    have hb : b ≠ s.heap.objs.size := Nat.ne_of_lt (Heap.lt_size e)
    exact hm.heap b o (by simpa using hb) (hs₁.extBut b o hb (Heap.get?_push_of_some _ e))
  have fin := h s' kp hm.gens hm.drawn hm.os
  have e1 : acc.toList.length - (targets.length - 1 - i) = items.size - (targets.length - 1) := by rw [hrl]; omega
  have e2 : List.drop (items.size - (targets.length - 1)) (items.toList.drop i) = items.toList.drop (items.size - (targets.length - 1 - i)) := by
    rw [List.drop_drop]; congr 1; omega
  rw [e1, hal, e2]
  exact fin
end
/-- (a, *b, c) = a tuple: n targets, the star at i -/
def gStar (K : PySem.W.Frag) (n i : Nat) (t : TGs) : TG := fun v σ H Q => ∃ a xs, v = .ref a ∧ SqT K H a xs ∧ n ≤ xs.length + 1 ∧
  ∀ p, H p = none → t (xs.take i ++ [.ref p] ++ xs.drop (xs.length - (n - 1 - i))) σ (upd H p (.lst ((xs.drop i).take (xs.length - (n - 1))))) Q
theorem vals_take {vs : List V} {us : List Value} (r : Vals vs us) : ∀ n : Nat, Vals (vs.take n) (us.take n) ∧ Vals (vs.drop n) (us.drop n) := by
  induction r with
  | nil => intro n; rw [List.take_nil, List.take_nil, List.drop_nil, List.drop_nil]; exact ⟨.nil, .nil⟩
  | cons r t ih =>
    intro n
    cases n with
    | zero => exact ⟨.nil, .cons r t⟩
    | succ n => obtain ⟨h1, h2⟩ := ih n; exact ⟨.cons r h1, h2⟩
section
variable {X : Cx} {pos : Pos}
theorem pg_star {es : List Expr} {k : Nat} {t : TGs} {n i : Nat} (hc : X.calm = true) (h : PGs X es t)
    (hn : (assignEach es X.env).length = n) (hst : (assignEach es X.env).findIdx? (·.1) = some i) (hin : i < n) : PG X (.Tuple es k pos) (gStar X.K n i t) := by
  refine ⟨fun pins s σ H v u Q I r hw => ?_⟩
  obtain ⟨a, xs, e1, hq, hl, hw⟩ := hw
  subst e1
  cases r
  obtain ⟨its, rv, ht, hz⟩ := I.tuple hq
  have hlen := rv.length
  rw [PyProof.Rows.assign_Tuple]
  refine wpAny_bind (wpAny_standAt (unpack_star (I.ok.hd hc) ht (by simp; omega) hst (by rw [hn]; exact hin) (by simp [hn]; omega) fun s' kp hg hd ho => ?_))
  obtain ⟨hp', g', d', tk', os'⟩ := s'
  obtain ⟨hp, g, d, tk, os⟩ := s
  simp only at kp hg hd ho
  subst hg hd ho
  have I1 : Inv X pins σ H { heap := hp', gens := g', drawn := d', toks := tk', os := os' } := I.kept (t' := tk') kp
  have rmid : Vals ((xs.drop i).take (xs.length - (n - 1))) ((its.drop i).take (xs.length - (n - 1))) := (vals_take (vals_take rv i).2 _).1
  have new : ObjOk X.prog X.w (upd H hp'.objs.size (.lst ((xs.drop i).take (xs.length - (n - 1))))) (hp'.push { cls := .type "list", data := .seq ((its.drop i).take (xs.length - (n - 1))).toArray }) hp'.objs.size (.lst ((xs.drop i).take (xs.length - (n - 1)))) :=
    ⟨by rw [List.length_take, List.length_drop]; omega, _, 0, rmid, Heap.get?_push_size _ rfl⟩
  have I2 := I1.laid (t' := tk') (fun b o e => Heap.get?_push_of_some _ e) (Nat.le_refl _) new
  have fresh : H hp'.objs.size = none := I1.hok.fresh (Nat.le_refl _)
  have rall : Vals (xs.take i ++ [V.ref hp'.objs.size] ++ xs.drop (xs.length - (n - 1 - i))) (its.take i ++ [Value.ref hp'.objs.size] ++ its.drop (xs.length - (n - 1 - i))) :=
    ((vals_take rv i).1.append (.cons (show RelV (.ref _) (.ref _) from rfl) .nil)).append (vals_take rv _).2
  have fin := h.run pins _ σ _ _ _ Q I2 rall (hw _ fresh)
  have es : its.toArray.size = xs.length := by simp; omega
  rw [es, hn]
  simpa using fin
theorem pgs_star {e : Expr} {es : List Expr} {p : Pos} {t : TG} {u : TGs} (h1 : PG X e t) (h2 : PGs X es u) : PGs X (.Starred e p :: es) (gCons t u) := by
  refine ⟨fun pins s σ H vs us Q I r h => ?_⟩
  obtain ⟨v, vr, e1, h⟩ := h
  subst e1
  cases r with
  | cons r rr =>
    show wpAny _ _ (assignInOrder (assign e X.env :: (assignEach es X.env).map (·.2)) _) _ _ s
    refine assignInOrder_cons (thn (h1.run pins s σ H _ _ _ I r h) fun _ s1 ⟨σ1, H1, I1, q1⟩ => ?_)
    exact h2.run pins s1 σ1 H1 _ _ Q I1 rr q1
end
end Ev

namespace Ev
open PySem PySem.Spec PyProof.Rows L2
mutual
def tgIx : Tg → List Nat
  | .nm i => [i]
  | .tup ts => tgsIx ts
  | .star ts i us => tgsIx ts ++ (i :: tgsIx us)
def tgsIx : List Tg → List Nat
  | [] => []
  | t :: ts => tgIx t ++ tgsIx ts
end
/-- a store's reading is that of the target -/
def GOk (c : Cg) (tg : Tg) (g : TG) : Prop := ∀ {q : Bool} {B0 H0 B H : Hp} {φ0 φ : Fp} {α0 α : List Addr} {σ : LSt} {env env2 : Env} {st : Stt} {d : D} {v : V} {f : List Addr} {Q : LSt → Hp → Prop},
  wTg tg d env = some env2 → Wd c.K B H σ α φ env st → Stp q B0 H0 φ0 α0 B H φ α → Tmp c.K B0 H0 φ0 B H φ α d v f →
  (∀ σ2 φ2 H2, Wd c.K B H2 σ2 α φ2 env2 st → Stp q B0 H0 φ0 α0 B H2 φ2 α → HLe H H2 → (∀ i, i ∉ tgIx tg → σ2[i]? = σ[i]?) → σ2.length = σ.length → (∀ a, H a ≠ none → (∀ w, a ∉ φ w) → a ∉ f → ∀ w, a ∉ φ2 w) → Q σ2 H2) → g v σ H Q
def GsOk (c : Cg) (ts : List Tg) (g : TGs) : Prop := ∀ {q : Bool} {B0 H0 B H : Hp} {φ0 φ : Fp} {α0 α : List Addr} {σ : LSt} {env env2 : Env} {st : Stt} {ds : List D} {vs : List V} {f : List Addr} {Q : LSt → Hp → Prop},
  wTgs ts ds env = some env2 → Wd c.K B H σ α φ env st → Stp q B0 H0 φ0 α0 B H φ α → TmpL c.K B0 H0 φ0 B H φ α ds vs f →
  (∀ σ2 φ2 H2, Wd c.K B H2 σ2 α φ2 env2 st → Stp q B0 H0 φ0 α0 B H2 φ2 α → HLe H H2 → (∀ i, i ∉ tgsIx ts → σ2[i]? = σ[i]?) → σ2.length = σ.length → (∀ a, H a ≠ none → (∀ w, a ∉ φ w) → a ∉ f → ∀ w, a ∉ φ2 w) → Q σ2 H2) → g vs σ H Q
section
variable {X : Cx} {c : Cg} {e tg : Expr} {ie : IE} {pos : Pos}
theorem setF_free {φ : Fp} {w0 : Ow} {f : List Addr} {a : Addr} (h : ∀ w, a ∉ φ w) (h' : a ∉ f) : ∀ w, a ∉ setF φ w0 f w := fun w m => by
  unfold setF at m
  split at m
  · exact h' m
  · exact h w m
theorem g_nm {i : Nat} : GOk c (.nm i) (gName i) := by
  intro q B0 H0 B H φ0 φ α0 α σ env env2 st d v f Q e W s t k
  have hi : i < env.length := by
    unfold wTg at e; split at e
    · assumption
    · cases e
  have e' : env2 = env.set i (some d) := by
    unfold wTg at e; rw [if_pos hi] at e; exact (Option.some.inj e).symm
  subst e'
  refine k _ _ H (W.put hi t) (s.put t) (HLe.refl H) (fun j hj => ?_) (by rw [List.length_set]) fun a _ h h' => setF_free h h'
  have : i ≠ j := fun z => hj (by rw [z]; exact List.mem_singleton.mpr rfl)
  rw [List.getElem?_set_ne this]
theorem gs_nil : GsOk c [] gNil := by
  intro q B0 H0 B H φ0 φ α0 α σ env env2 st d v f Q e W s t k
  cases d with
  | nil =>
    have e' : env2 = env := by unfold wTgs at e; exact (Option.some.inj e).symm
    subst e'
    exact ⟨t.rep.1, k _ _ H W s (HLe.refl H) (fun _ _ => rfl) rfl fun _ _ h _ => h⟩
  | cons => unfold wTgs at e; cases e
theorem gs_cons {t : Tg} {ts : List Tg} {g : TG} {gs : TGs} (h : GOk c t g) (h' : GsOk c ts gs) : GsOk c (t :: ts) (gCons g gs) := by
  intro q B0 H0 B H φ0 φ α0 α σ env env2 st d v f Q e W s t1 k
  cases d with
  | nil => unfold wTgs at e; cases e
  | cons d ds =>
    unfold wTgs at e
    obtain ⟨em, e1, e2⟩ := Option.bind_eq_some_iff.mp e
    obtain ⟨x, xr, g1, g2, rfl, r1, r2, rfl⟩ := t1.rep
    have nd := List.nodup_append.mp t1.nd
    have th1 : ∀ a ∈ g1, H a ≠ none := fun a m e => by obtain ⟨_, e'⟩ := Rep.there _ _ _ r1 a m; rw [e] at e'; cases e'
    have th2 : ∀ a ∈ g2, H a ≠ none := fun a m e => by obtain ⟨_, e'⟩ := r2.there a m; rw [e] at e'; cases e'
    refine ⟨x, xr, rfl, h e1 W s ⟨r1, nd.1, fun a m => t1.out a (List.mem_append_left _ m), fun a m => t1.free a (List.mem_append_left _ m), fun a m => t1.new a (List.mem_append_left _ m)⟩ fun σ1 φ1 H1 W1 s1 le1 o1 l1 fr1 => ?_⟩
    refine h' e2 W1 s1 ⟨RepL.ext (HLe.refl B) (fun _ _ h => h) _ _ _ (fun a _ o e => le1 a o e) r2, nd.2.1, fun a m => t1.out a (List.mem_append_right _ m), fun a m => fr1 a (th2 a m) (t1.free a (List.mem_append_right _ m)) (fun m' => nd.2.2 a m' a m rfl), fun a m => t1.new a (List.mem_append_right _ m)⟩ fun σ2 φ2 H2 W2 s2 le2 o2 l2 fr2 => ?_
    refine k σ2 φ2 H2 W2 s2 (le1.trans le2) (fun i hi => ?_) (l2.trans l1) fun a hn ha hf => fr2 a (fun e => by
      cases q : H a with
      | none => exact hn q
      | some o => rw [le1 a o q] at e; cases e) (fr1 a hn ha fun m => hf (List.mem_append_left _ m)) fun m => hf (List.mem_append_right _ m)
    rw [o2 i fun m => hi (List.mem_append_right _ m), o1 i fun m => hi (List.mem_append_left _ m)]
theorem wTgs_len : ∀ {ts : List Tg} {ds : List D} {env env2 : Env}, wTgs ts ds env = some env2 → ts.length = ds.length
  | [], [], _, _, _ => rfl
  | [], _ :: _, _, _, h => by unfold wTgs at h; cases h
  | _ :: _, [], _, _, h => by unfold wTgs at h; cases h
  | t :: ts, d :: ds, env, env2, h => by
    unfold wTgs at h
    obtain ⟨em, e1, e2⟩ := Option.bind_eq_some_iff.mp h
    rw [List.length_cons, List.length_cons, wTgs_len e2]
/-- a tuple's parts, or a list's -/
def gTL (K : Frag) (n : Nat) (t : TGs) : TG := fun v σ H Q => gTup K n t v σ H Q ∨ gUnl K n t v σ H Q
theorem pg_tl {X : Cx} {e : Expr} {n : Nat} {t : TGs} (h1 : PG X e (gTup X.K n t)) (h2 : PG X e (gUnl X.K n t)) : PG X e (gTL X.K n t) := ⟨fun pins s σ H v u Q I r hw => hw.elim (h1.run pins s σ H v u Q I r) (h2.run pins s σ H v u Q I r)⟩
theorem g_tup {ts : List Tg} {gs : TGs} (h : GsOk c ts gs) : GOk c (.tup ts) (gTL c.K ts.length gs) := by
  intro q B0 H0 B H φ0 φ α0 α σ env env2 st d v f Q e W s t1 k
  cases d with
  | tup xs =>
    obtain ⟨a, vs, rfl, ha, r⟩ := t1.rep
    have e : wTgs ts xs env = some env2 := e
    exact .inl ⟨a, vs, rfl, (TAt.le W.le ha).sq, by rw [← r.length, wTgs_len e], h e W s ⟨r, t1.nd, t1.out, t1.free, t1.new⟩ k⟩
  | lst o xs =>
    unfold wTg at e
    split at e
    · rename_i hnf
      cases o with
      | false =>
        obtain ⟨a, vs, rfl, ha, r, rfl⟩ := t1.rep
        exact .inr ⟨a, vs, rfl, .inl (.inl (W.le _ _ ha)), by rw [← r.length, wTgs_len e], h e W s ⟨r, List.nodup_nil, (fun _ m => nomatch m), (fun _ m => nomatch m), (fun _ m => nomatch m)⟩ k⟩
      | true =>
        obtain ⟨a, vs, g, rfl, ha, r, rfl⟩ := t1.rep
        have hg := RepL.nf _ _ _ hnf r
        subst hg
        exact .inr ⟨a, vs, rfl, .inl (.inl ha), by rw [← r.length, wTgs_len e], h e W s ⟨r, List.nodup_nil, (fun _ m => nomatch m), (fun _ m => nomatch m), (fun _ m => nomatch m)⟩ fun σ2 φ2 H2 W2 s2 le o l fr => k σ2 φ2 H2 W2 s2 le o l fun b hn hb _ => fr b hn hb fun m => nomatch m⟩
    · cases e
  | _ => unfold wTg at e; cases e
theorem wTgs_app : ∀ {ts us : List Tg} {xs ys : List D} {env : Env}, ts.length = xs.length → wTgs (ts ++ us) (xs ++ ys) env = (wTgs ts xs env).bind fun e => wTgs us ys e
  | [], us, [], ys, env, _ => rfl
  | [], _, _ :: _, _, _, h => by cases h
  | _ :: _, _, [], _, _, h => by cases h
  | t :: ts, us, x :: xs, ys, env, h => by
    have ih := fun e => wTgs_app (ts := ts) (us := us) (xs := xs) (ys := ys) (env := e) (Nat.succ.inj h)
    show (wTg t x env).bind (fun e => wTgs (ts ++ us) (xs ++ ys) e) = ((wTg t x env).bind fun e => wTgs ts xs e).bind fun e => wTgs us ys e
    cases wTg t x env with
    | none => rfl
    | some e => exact ih e
theorem tgsIx_app : ∀ ts us : List Tg, tgsIx (ts ++ us) = tgsIx ts ++ tgsIx us
  | [], _ => rfl
  | t :: ts, us => by show tgIx t ++ tgsIx (ts ++ us) = tgIx t ++ tgsIx ts ++ tgsIx us; rw [tgsIx_app ts us, List.append_assoc]
theorem g_star {ts us : List Tg} {i : Nat} {gs : TGs} (h : GsOk c (ts ++ .nm i :: us) gs) : GOk c (.star ts i us) (gStar c.K (ts.length + us.length + 1) ts.length gs) := by
  intro q B0 H0 B H φ0 φ α0 α σ env env2 st d v f Q e W s t1 k
  cases d with
  | tup xs =>
    unfold wTg at e
    split at e
    · rename_i hc
      obtain ⟨h1, h3⟩ := hc
      obtain ⟨a, vs, rfl, ha, r⟩ := t1.rep
      have hf := RepL.nf _ _ _ h3 r
      subst hf
      have l := r.length
      refine ⟨a, vs, rfl, (TAt.le W.le ha).sq, by omega, fun p hp => ?_⟩
      have em : ts.length + us.length + 1 - 1 - ts.length = us.length := by omega
      have em2 : vs.length - (ts.length + us.length + 1 - 1) = xs.length - us.length - ts.length := by omega
      rw [em, em2, ← l]
      obtain ⟨W2, sa⟩ := W.alloc hp (.lst ((vs.drop ts.length).take (xs.length - us.length - ts.length)))
      have s2 : Stp q B0 H0 φ0 α0 B (upd H p (.lst ((vs.drop ts.length).take (xs.length - us.length - ts.length)))) φ α := (s.trans sa).weak fun z => by rw [z]; rfl
      have hb : B p = none := by
        cases q : B p with
        | none => rfl
        | some o => rw [W.le p o q] at hp; cases hp
      have fr : ∀ w, p ∉ φ w := fun w m => by
        obtain ⟨_, e'⟩ := W.there w m
        rw [hp] at e'; cases e'
      have nw : (∃ w, p ∈ φ0 w) ∨ H0 p = none := by
        by_cases hw : ∃ w, p ∈ φ0 w
        · exact .inl hw
        · refine .inr ?_
          cases e0 : H0 p with
          | none => rfl
          | some o => rw [s.frame p o e0 fun w m => hw ⟨w, m⟩] at hp; cases hp
      have ext : ∀ {ds : List D} {ws : List V}, RepL c.K B H α ds ws [] → RepL c.K B (upd H p (.lst ((vs.drop ts.length).take (xs.length - us.length - ts.length)))) α ds ws [] := fun r => RepL.ext (HLe.refl B) (fun _ _ h => h) _ _ [] (fun _ m => nomatch m) r
      have rm : RepL c.K B (upd H p (.lst ((vs.drop ts.length).take (xs.length - us.length - ts.length)))) α [D.lst true ((xs.drop ts.length).take (xs.length - us.length - ts.length))] [V.ref p] [p] :=
        ⟨_, [], [p], [], rfl, ⟨p, _, [], rfl, upd_same, ext ((r.drop _).take _), rfl⟩, ⟨rfl, rfl⟩, rfl⟩
      have rr := RepL.append (RepL.append (ext (r.take ts.length)) rm) (ext (r.drop (xs.length - us.length)))
      rw [List.nil_append, List.append_nil] at rr
      refine h (env2 := env2) ?_ W2 s2 ⟨rr, by simp, fun b m => by rw [List.mem_singleton.mp m]; exact hb, fun b m w => by rw [List.mem_singleton.mp m]; exact fr w, fun b m => by rw [List.mem_singleton.mp m]; exact nw⟩ fun σ2 φ2 H2 W3 s3 le3 o3 l3 f3 => ?_
      · rw [List.append_assoc, List.singleton_append, wTgs_app (by rw [List.length_take]; omega)]
        rw [← e]
        rfl
      · refine k σ2 φ2 H2 W3 s3 (fun b o eb => le3 b o (by rw [upd_ne (ne_of_none eb hp)]; exact eb)) (fun j hj => o3 j ?_) l3 fun b hn hb' _ => f3 b (fun z => ?_) hb' fun m => ?_
        · rw [tgsIx_app]; exact hj
        · cases q : H b with
          | none => exact hn q
          | some o => rw [upd_ne (ne_of_none q hp), q] at z; cases z
        · rw [List.mem_singleton.mp m] at hn; exact hn hp
    · cases e
  | _ => unfold wTg at e; cases e

theorem wipe_get (σ : LSt) (i : Nat) : ∀ vs : List Nat, (wipe σ vs)[i]? = if i ∈ vs ∧ i < σ.length then some none else σ[i]?
  | [] => by simp [wipe]
  | v :: vs => by
    unfold wipe
    by_cases h : v = i
    · subst h
      by_cases hl : v < σ.length
      · rw [if_pos ⟨List.mem_cons_self, hl⟩, List.getElem?_set_self (by rw [wipe_length]; exact hl)]
      · rw [if_neg fun z => hl z.2, List.getElem?_eq_none (by rw [List.length_set, wipe_length]; omega), List.getElem?_eq_none (by omega)]
    · rw [List.getElem?_set_ne h, wipe_get σ i vs]
      have : i ∈ v :: vs ↔ i ∈ vs := by simp [Ne.symm h]
      simp only [this]
theorem wipeE_length (env : Env) : ∀ vs : List Nat, (wipeE env vs).length = env.length
  | [] => rfl
  | v :: vs => by unfold wipeE; rw [List.length_set, wipeE_length env vs]
theorem wipeE_get (env : Env) (i : Nat) : ∀ vs : List Nat, (wipeE env vs)[i]? = if i ∈ vs ∧ i < env.length then some none else env[i]?
  | [] => by simp [wipeE]
  | v :: vs => by
    unfold wipeE
    by_cases h : v = i
    · subst h
      by_cases hl : v < env.length
      · rw [if_pos ⟨List.mem_cons_self, hl⟩, List.getElem?_set_self (by rw [wipeE_length]; exact hl)]
      · rw [if_neg fun z => hl z.2, List.getElem?_eq_none (by rw [List.length_set, wipeE_length]; omega), List.getElem?_eq_none (by omega)]
    · rw [List.getElem?_set_ne h, wipeE_get env i vs]
      have : i ∈ v :: vs ↔ i ∈ vs := by simp [Ne.symm h]
      simp only [this]
theorem backE_length (old env : Env) : ∀ vs : List Nat, (backE old env vs).length = env.length
  | [] => rfl
  | v :: vs => by unfold backE; rw [List.length_set, backE_length old env vs]
theorem backE_get (old env : Env) (i : Nat) : ∀ vs : List Nat, (backE old env vs)[i]? = if i ∈ vs ∧ i < env.length then some (match old[i]? with | some o => o | none => none) else env[i]?
  | [] => by simp [backE]
  | v :: vs => by
    unfold backE
    by_cases h : v = i
    · subst h
      by_cases hl : v < env.length
      · rw [if_pos ⟨List.mem_cons_self, hl⟩, List.getElem?_set_self (by rw [backE_length]; exact hl)]
        all_goals (cases old[v]? <;> rfl)
      · rw [if_neg fun z => hl z.2, List.getElem?_eq_none (by rw [List.length_set, backE_length]; omega), List.getElem?_eq_none (by omega)]
    · rw [List.getElem?_set_ne h, backE_get old env i vs]
      have : i ∈ v :: vs ↔ i ∈ vs := by simp [Ne.symm h]
      simp only [this]
def wipeF (φ : Fp) (vs : List Nat) : Fp := fun w => match w with | .inl i => if i ∈ vs then [] else φ (.inl i) | .inr k => φ (.inr k)
theorem wipeF_sub {φ : Fp} {vs : List Nat} {w : Ow} {a : Addr} (h : a ∈ wipeF φ vs w) : a ∈ φ w := by
  cases w with
  | inl i => unfold wipeF at h; simp only at h; split at h; · cases h
             · exact h
  | inr k => exact h
theorem Wd.wipe {K : Frag} {B H : Hp} {σ : LSt} {α : List Addr} {φ : Fp} {env : Env} {st : Stt} (W : Wd K B H σ α φ env st) (vs : List Nat) : Wd K B H (wipe σ vs) α (wipeF φ vs) (wipeE env vs) st where
  le := W.le
  len := by rw [wipe_length, wipeE_length, W.len]
  slot := fun i d e => by
    rw [wipeE_get] at e
    split at e
    · cases e
    · rename_i hn
      obtain ⟨v, e1, r⟩ := W.slot i d e
      have hl : i < env.length := (List.getElem?_eq_some_iff.mp e).1
      have hi : i ∉ vs := fun m => hn ⟨m, hl⟩
      refine ⟨v, by rw [wipe_get, if_neg fun z => hi z.1]; exact e1, ?_⟩
      show Rep K B H α d v (if i ∈ vs then [] else φ (.inl i))
      rw [if_neg hi]; exact r
  bare := fun i h => by
    show (if i ∈ vs then [] else φ (.inl i)) = []
    split
    · rfl
    · rename_i hi
      refine W.bare i fun d e => h d ?_
      rw [wipeE_get, if_neg fun z => hi z.1]; exact e
  clen := W.clen
  cell := W.cell
  cbare := W.cbare
  nd := fun w => by
    cases w with
    | inl i => show (if i ∈ vs then [] else φ (.inl i)).Nodup; split; · exact List.nodup_nil
               · exact W.nd _
    | inr k => exact W.nd _
  dj := fun w w' hw a m m' => W.dj w w' hw a (wipeF_sub m) (wipeF_sub m')
  out := fun w a m => W.out w a (wipeF_sub m)
theorem Stp.wipe {B H B1 H1 : Hp} {φ φ1 : Fp} {α α1 : List Addr} {q : Bool} (s : Stp q B H φ α B1 H1 φ1 α1) (vs : List Nat) : Stp q B H φ α B1 H1 (wipeF φ1 vs) α1 :=
  ⟨s.frame, fun w a m => s.new w a (wipeF_sub m), s.bnew, s.mono, s.pre, s.same⟩
theorem Tmp.wipe {K : Frag} {B H B1 H1 : Hp} {φ φ1 : Fp} {α1 : List Addr} {d : D} {v : V} {f : List Addr} (t : Tmp K B H φ B1 H1 φ1 α1 d v f) (vs : List Nat) : Tmp K B H φ B1 H1 (wipeF φ1 vs) α1 d v f :=
  ⟨t.rep, t.nd, t.out, fun a m w m' => t.free a m w (wipeF_sub m'), t.new⟩
theorem Wd.unwipe {K : Frag} {B H : Hp} {σ : LSt} {α : List Addr} {φ : Fp} {env e0 : Env} {st : Stt} {vs : List Nat} (W : Wd K B H (L2.wipe σ vs) α φ env st) (hold : ∀ i ∈ vs, ∀ d, e0[i]? = some (some d) → ∃ v, σ[i]? = some (some v) ∧ Rep K B H α d v []) :
    Wd K B H σ α φ (backE e0 env vs) st where
  le := W.le
  len := by rw [backE_length, ← W.len, wipe_length]
  slot := fun i d e => by
    rw [backE_get] at e
    split at e
    · rename_i hn
      have hb : φ (.inl i) = [] := W.bare i fun d' e' => by
        obtain ⟨v, e1, _⟩ := W.slot i d' e'
        exact (wipe_some e1).2 hn.1
      rw [hb]
      cases h : e0[i]? with
      | none => rw [h] at e; cases e
      | some o =>
        rw [h] at e
        cases o with
        | none => cases e
        | some d' => cases e; exact hold i hn.1 d h
    · obtain ⟨v, e1, r⟩ := W.slot i d e
      exact ⟨v, (wipe_some e1).1, r⟩
  bare := fun i h => by
    by_cases hi : i ∈ vs
    · refine W.bare i fun d' e' => ?_
      obtain ⟨v, e1, _⟩ := W.slot i d' e'
      exact (wipe_some e1).2 hi
    · refine W.bare i fun d e => h d ?_
      rw [backE_get, if_neg fun z => hi z.1]; exact e
  clen := W.clen
  cell := W.cell
  cbare := W.cbare
  nd := W.nd
  dj := W.dj
  out := W.out
theorem turn_in {K : Frag} {B1 B H H' : Hp} {α1 α : List Addr} {φ : Fp} {σ : LSt} {env : Env} {st : Stt} {xs : List D} {J : It} {i : Nat} {x : V} (W : Wd K B H σ α φ env st) (wk : WkOk K B1 α1 xs J) (m : HLe B1 B) (pr : ∀ (k : Nat) a, α1[k]? = some a → α[k]? = some a)
    (hi : i < xs.length) (y : J.yld i H x H') : ∃ d B', xs[i]? = some d ∧ Wd K B' H' σ α φ env st ∧ Stp true B H φ α B' H' φ α ∧ Rep K B' H' α d x [] := by
  obtain ⟨d, hd, h⟩ := wk.yields i H x H' hi (m.trans W.le) y
  rcases h with ⟨rfl, r⟩ | ⟨T, vs, ds, rfl, hT, rfl, rfl, r⟩
  · exact ⟨d, B, hd, W, Stp.refl, Rep.ext m pr _ _ _ (fun _ z => nomatch z) r⟩
  · obtain ⟨W2, s2⟩ := W.allocB hT (.tup vs)
    exact ⟨_, _, hd, W2, s2, T, vs, rfl, .inl (by unfold upd; exact if_pos rfl), RepL.ext (m.trans s2.mono) pr _ _ _ (fun _ z => nomatch z) r⟩
def TIf_ (c : Cg) (ifs : List IE) : TT := fun σ H Q => ∃ B φ α env st Kk Xk, Wd c.K B H σ α φ env st ∧ wIfs c.F ifs env st Kk Xk ∧ PostB c σ B H φ α Kk Q ∧ PostX c σ B H φ α Xk
theorem PTs.imp {X : Cx} {es : List Expr} {t t' : TT} (h : PTs X es t) (i : ∀ σ H Q, t' σ H Q → t σ H Q) : PTs X es t' := ⟨fun pins s σ H Q I w => h.run pins s σ H Q I (i σ H Q w)⟩
theorem sIf_nil : PTs X [] (TIf_ c []) := PTs.imp pts_nil fun σ H Q => by
  rintro ⟨B, φ, α, env, st, Kk, Xk, W, w, p, x⟩
  exact p _ env st w B H φ α W (Stp.refl.weak fun h => nomatch h)
theorem wT_mono {F : FF} {a : IE} {env : Env} {st : Stt} {K : Bool → Env → Stt → Prop} {X : KX} (h : wIfs F [a] env st K X) : wT F a env st K X := by
  have e : ∀ (x : D) (e : Env) (s : Stt), (truW x fun c => if c = true then wIfs F [] e s K X else K false e s) = truW x fun b => K b e s := fun x e s => by
    congr 1; funext b; cases b <;> rfl
  have h : rdC a env st (fun k => wE F a env st k X) (fun x e s => truW x fun c => if c = true then wIfs F [] e s K X else K false e s) := h
  simp only [e] at h
  exact h
theorem sIf_one {t : Expr} {it : IE} (h : PT X t (TT_ c it)) : PTs X [t] (TIf_ c [it]) := PTs.imp (pts_one h) fun σ H Q => by
  rintro ⟨B, φ, α, env, st, Kk, Xk, W, w, p, x⟩
  exact ⟨B, φ, α, env, st, Kk, Xk, W, wT_mono w, p, x⟩
/-- the same, where nothing may be raised -/
def Cg.still (c : Cg) : Cg := { c with W := fun _ _ _ _ => False }
theorem PostX.none {c : Cg} {σ : LSt} {B H : Hp} {φ : Fp} {α : List Addr} : PostX c σ B H φ α (fun _ _ _ => False) := fun _ _ _ h => h.elim
theorem wipe_sub {σ σ2 : LSt} {vs : List Nat} (h : ∀ i, i ∉ vs → σ2[i]? = (L2.wipe σ vs)[i]?) (l : σ2.length = (L2.wipe σ vs).length) : L2.wipe σ2 vs = L2.wipe σ vs := by
  apply List.ext_getElem?
  intro i
  rw [wipe_get]
  by_cases hi : i ∈ vs
  · rw [wipe_get, l, wipe_length]
    by_cases hl : i < σ.length
    · rw [if_pos ⟨hi, hl⟩, if_pos ⟨hi, hl⟩]
    · rw [if_neg fun z => hl z.2, if_neg fun z => hl z.2, List.getElem?_eq_none (by rw [l, wipe_length]; omega), List.getElem?_eq_none (by omega)]
  · rw [if_neg fun z => hi z.1, h i hi]
theorem upd_self {H : Hp} {a : Addr} {o : HO} : upd H a o a = some o := by unfold upd; exact if_pos rfl
theorem upd_oth {H : Hp} {a b : Addr} {o : HO} (h : b ≠ a) : upd H a o b = H b := by unfold upd; exact if_neg h
/-- an own list, changed -/
theorem Tmp.chg {K : Frag} {B0 H0 B H : Hp} {φ0 φ : Fp} {α α0 : List Addr} {σ : LSt} {env : Env} {st : Stt} {q : Bool} {a : Addr} {f g : List Addr} {xs ys : List D} {vs ws : List V} (W : Wd K B H σ α φ env st) (s : Stp q B0 H0 φ0 α0 B H φ α)
    (ha : ∀ w, a ∉ φ w) (hB : B a = none) (hn : H0 a = none ∨ ∃ w, a ∈ φ0 w) (r : RepL K B H α ys ws g) (nd : g.Nodup) (ag : a ∉ g) (out : ∀ b ∈ g, B b = none) (free : ∀ b ∈ g, ∀ w, b ∉ φ w) (new : ∀ b ∈ g, (∃ w, b ∈ φ0 w) ∨ H0 b = none) :
    Wd K B (upd H a (.lst ws)) σ α φ env st ∧ Stp false B0 H0 φ0 α0 B (upd H a (.lst ws)) φ α ∧ Tmp K B0 H0 φ0 B (upd H a (.lst ws)) φ α (.lst true ys) (.ref a) (a :: g) := by
  have ne : ∀ {b : Addr} {o : HO}, B b = some o → b ≠ a := fun e z => by rw [z, hB] at e; cases e
  refine ⟨W.ext (HLe.refl B) (fun b o e => by rw [upd_oth (ne e)]; exact W.le b o e) (fun w b m o e => by
    have hb : b ≠ a := fun z => by subst z; exact ha w m
    rw [upd_oth hb]; exact e) W.out, ⟨fun b o e hb => ?_, s.new, s.bnew, s.mono, s.pre, fun z => nomatch z⟩, ⟨⟨a, ws, g, rfl, upd_self, ?_, rfl⟩, List.nodup_cons.mpr ⟨ag, nd⟩, ?_, ?_, ?_⟩⟩
  · have : b ≠ a := fun z => by
      subst z
      rcases hn with hn | ⟨w, hn⟩
      · rw [hn] at e; cases e
      · exact hb w hn
    rw [upd_oth this]; exact s.frame b o e hb
  · exact RepL.ext (HLe.refl B) (fun _ _ h => h) _ _ _ (fun b m o e => by
      have hb : b ≠ a := fun z => by subst z; exact ag m
      rw [upd_oth hb]; exact e) r
  · intro b m
    rcases List.mem_cons.mp m with rfl | m
    · exact hB
    · exact out b m
  · intro b m
    rcases List.mem_cons.mp m with rfl | m
    · exact ha
    · exact free b m
  · intro b m
    rcases List.mem_cons.mp m with rfl | m
    · exact hn.symm
    · exact new b m
theorem Tmp.grow {K : Frag} {B0 H0 B H B2 H2 : Hp} {φ0 φ φ2 : Fp} {α α0 α2 : List Addr} {σ : LSt} {env : Env} {st : Stt} {a : Addr} {f g : List Addr} {xs : List D} {y : D} {u : V}
    (s0 : Stp false B0 H0 φ0 α0 B H φ α) (t : Tmp K B0 H0 φ0 B H φ α (.lst true xs) (.ref a) f) (hn : H0 a = none) (s : Stp false B H φ α B2 H2 φ2 α2) (W : Wd K B2 H2 σ α2 φ2 env st) (t2 : Tmp K B H φ B2 H2 φ2 α2 y u g) :
    ∃ vs, H2 a = some (.lst vs) ∧ vs.length = xs.length ∧ ∃ h, Wd K B2 (upd H2 a (.lst (vs ++ [u]))) σ α2 φ2 env st ∧ Stp false B0 H0 φ0 α0 B2 (upd H2 a (.lst (vs ++ [u]))) φ2 α2 ∧ Tmp K B0 H0 φ0 B2 (upd H2 a (.lst (vs ++ [u]))) φ2 α2 (.lst true (xs ++ [y])) (.ref a) h := by
  have t' := t.step s0 s
  obtain ⟨a', vs, f', e, ha, r, rfl⟩ := t'.rep
  cases e
  have nd := List.nodup_cons.mp t'.nd
  have sep : ∀ b ∈ a :: f', b ∉ g := fun b m m' => by
    rcases t2.new b m' with ⟨w, z⟩ | z
    · exact t.free b m w z
    · have : ∀ b ∈ a :: f', ∃ xs, H b = some (.lst xs) := Rep.there (K := K) (B := B) (H := H) (α := α) _ _ _ t.rep
      obtain ⟨_, e⟩ := this b m
      rw [z] at e; cases e
  refine ⟨vs, ha, r.length.symm, a :: (f' ++ g), ?_⟩
  have st := (s0.trans s).weak (q2 := false) fun z => nomatch z
  refine Tmp.chg (f := []) (xs := []) (vs := []) W st (t'.free a List.mem_cons_self) (t'.out a List.mem_cons_self) (.inl hn) (RepL.append r ⟨u, [], g, [], rfl, t2.rep, ⟨rfl, rfl⟩, (List.append_nil g).symm⟩) (List.nodup_append.mpr ⟨nd.2, t2.nd, fun b m b' m' e => sep b (List.mem_cons_of_mem _ m) (e ▸ m')⟩)
    (fun m => (List.mem_append.mp m).elim nd.1 fun m => sep a List.mem_cons_self m) (fun b m => (List.mem_append.mp m).elim (fun m => t'.out b (List.mem_cons_of_mem _ m)) (t2.out b)) (fun b m => (List.mem_append.mp m).elim (fun m => t'.free b (List.mem_cons_of_mem _ m)) (t2.free b))
    fun b m => (List.mem_append.mp m).elim (fun m => t'.new b (List.mem_cons_of_mem _ m)) fun m => ?_
  rcases t2.new b m with ⟨w, z⟩ | z
  · exact s0.new w b z
  · by_cases hw : ∃ w, b ∈ φ0 w
    · exact .inl hw
    · refine .inr ?_
      cases e : H0 b with
      | none => rfl
      | some o => rw [s0.frame b o e fun w m => hw ⟨w, m⟩] at z; cases z
end
end Ev

namespace Ev
open PySem PySem.Spec PyProof.Rows L2
section
variable {X : Cx} {c : Cg} {elt tgx iter : Expr} {ielt : IE} {tg : Tg} {its iifs : List IE} {ik : Ik} {own : List Nat} {g : TG} {pos : Pos}
theorem hidOk_at {env : Env} {vs : List Nat} (h : hidOk env vs = true) {i : Nat} (hi : i ∈ vs) {d : D} (e : env[i]? = some (some d)) : nf d = true := by
  unfold hidOk at h
  have := List.all_eq_true.mp h i hi
  rw [e] at this; exact this
theorem lc_ev {σ : LSt} {H : Hp} {Q : VK} (hg : GOk c tg g) (hsub : ∀ i ∈ tgIx tg, i ∈ own) (h : TE_ c (.comp ik its tg iifs ielt own) σ H Q) :
    tLc (TI_ c ik its) g (TIf_ c.still iifs) (TE_ c.still ielt) own σ H Q := by
  obtain ⟨B0, φ0, α0, env0, st0, Kk, Xk, W0, w0, p0, x0⟩ := h
  refine ⟨B0, φ0, α0, env0, st0, _, Xk, W0, w0, fun xs e s k J B1 H1 φ1 α1 W1 s1 wk => ?_, x0⟩
  obtain ⟨⟨hlen, hid⟩, k⟩ := k
  intro D hD
  have D0 : H D = none ∨ ∃ w, D ∈ φ0 w := by
    cases e0 : H D with
    | none => exact .inl rfl
    | some o =>
      by_cases hw : ∃ w, D ∈ φ0 w
      · exact .inr hw
      · have := s1.frame D o e0 fun w m => hw ⟨w, m⟩
        rw [hD] at this; cases this
  -- at turn i
  let Pv : Nat → Hp → Prop := fun i H' => ∃ B φ α env st ys f, Wd c.K B H' (wipe σ own) α φ env st ∧ Stp false B1 H1 φ1 α1 B H' φ α ∧ Tmp c.K B1 H1 φ1 B H' φ α (.lst true ys) (.ref D) f ∧ ys.length ≤ i ∧
    compL (cmpB tg own (fun e2 s2 K2 X2 => wIfs c.F iifs e2 s2 K2 X2) (fun e2 s2 K2 X2 => wE c.F ielt e2 s2 K2 X2)) (xs.drop i) env st (fun zs e' s' => Kk (.lst true (ys ++ zs)) (backE e e' own) s')
  have hP0 : Pv 0 (upd H1 D (.lst [])) := by
    obtain ⟨Wa, sa⟩ := W1.alloc hD (.lst [])
    have ta : Tmp c.K B1 H1 φ1 B1 (upd H1 D (.lst [])) φ1 α1 (.lst true []) (.ref D) [D] := Tmp.newL W1 hD (ds := []) (vs := []) ⟨rfl, rfl⟩
    exact ⟨B1, wipeF φ1 own, α1, wipeE e own, s, [], [D], Wa.wipe own, (sa.weak (q2 := false) fun z => nomatch z).wipe own, ta.wipe own, Nat.zero_le _, k⟩
  refine ⟨fun i m H' => m = xs.length - i ∧ i ≤ xs.length ∧ Pv i H', ⟨_, rfl, Nat.zero_le _, hP0⟩, ?_⟩
  rintro i m Hc ⟨rfl, hi, B, φ, α, env, st, ys, f, W, sp, t, hy, cl⟩
  by_cases hlt : i < xs.length
  · refine .inr ⟨wk.goes i Hc hlt (sp.mono.trans W.le), Pv (i + 1), fun H' p' => ⟨xs.length - (i + 1), by omega, rfl, hlt, p'⟩, fun x H' y => ?_⟩
    obtain ⟨d, B2, hd, W2, s2, r2⟩ := turn_in W wk sp.mono sp.pre hlt y
    rw [List.drop_eq_getElem_cons hlt, show xs[i] = d from Option.some.inj ((List.getElem?_eq_getElem hlt).symm.trans hd)] at cl
    have cl : onE (wTg tg d env) fun e2 => wIfs c.F iifs e2 st (fun b e3 s3 => if b = true then wE c.F ielt e3 s3 (fun y e4 s4 => compL (cmpB tg own (fun e2 s2 K2 X2 => wIfs c.F iifs e2 s2 K2 X2) (fun e2 s2 K2 X2 => wE c.F ielt e2 s2 K2 X2)) (xs.drop (i + 1)) (wipeE e4 own) s4 (fun zs e' s' => Kk (.lst true (ys ++ y :: zs)) (backE e e' own) s')) (fun _ _ _ => False)
      else compL (cmpB tg own (fun e2 s2 K2 X2 => wIfs c.F iifs e2 s2 K2 X2) (fun e2 s2 K2 X2 => wE c.F ielt e2 s2 K2 X2)) (xs.drop (i + 1)) (wipeE e3 own) s3 (fun zs e' s' => Kk (.lst true (ys ++ zs)) (backE e e' own) s')) (fun _ _ _ => False) := cl
    obtain ⟨e2, he2, cl⟩ := onE_inv cl
    have s12 := (sp.trans s2).weak (q2 := false) fun z => nomatch z
    have t2 := t.step sp s2
    refine hg he2 W2 s12 (Tmp.of_nil r2) fun σ2 φ2 H2 W3 s3 le3 same l3 fr3 => ?_
    have hw : wipe σ2 own = wipe σ own := wipe_sub (fun j hj => same j fun z => hj (hsub j z)) l3
    have t3 : Tmp c.K B1 H1 φ1 B2 H2 φ2 α (.lst true ys) (.ref D) f := ⟨Rep.ext (HLe.refl B2) (fun _ _ h => h) _ _ _ (fun a _ o e => le3 a o e) t2.rep, t2.nd, t2.out, fun a m => fr3 a (fun e => by obtain ⟨_, e'⟩ := Rep.there _ _ _ t2.rep a m; rw [e] at e'; cases e') (t2.free a m) (fun z => nomatch z), t2.new⟩
    refine ⟨hw, B2, φ2, α, e2, st, _, _, W3, cl, fun b e3 st3 cl B3 H3 φ3 α3 W4 s4 => ?_, PostX.none⟩
    have s34 := (s3.trans s4).weak (q2 := false) fun z => nomatch z
    have t4 := t3.step s3 s4
    cases b with
    | false =>
      simp only [Bool.false_eq_true, if_false] at cl ⊢
      refine ⟨B3, wipeF φ3 own, α3, wipeE e3 own, st3, ys, f, ?_, s34.wipe own, t4.wipe own, Nat.le_succ_of_le hy, cl⟩
      rw [← hw]; exact W4.wipe own
    | true =>
      simp only [if_true] at cl ⊢
      refine ⟨B3, φ3, α3, e3, st3, _, _, W4, cl, fun y e4 st4 cl u B4 H4 φ4 α4 fy W5 s5 ty => ?_, PostX.none⟩
      obtain ⟨vs, hvs, hl, h, W6, s6, t6⟩ := Tmp.grow s34 t4 hD (s5.weak fun z => nomatch z) W5 ty
      refine ⟨vs, hvs, by rw [hl, ← lim_line]; omega, B4, wipeF φ4 own, α4, wipeE e4 own, st4, ys ++ [y], h, ?_, s6.wipe own, t6.wipe own, by rw [List.length_append]; exact Nat.succ_le_succ hy, ?_⟩
      · rw [← hw]; exact W6.wipe own
      · simp only [List.append_assoc, List.singleton_append]; exact cl
  · have e' : i = xs.length := by omega
    subst e'
    refine .inl ⟨wk.stops Hc (sp.mono.trans W.le), ?_⟩
    rw [List.drop_length] at cl
    have cl : Kk (.lst true (ys ++ [])) (backE e env own) st := cl
    rw [List.append_nil] at cl
    refine p0 _ _ _ cl (.ref D) B Hc φ α f (W.unwipe fun j hj d ed => ?_) ((s1.trans sp).weak fun z => nomatch z) (t.back s1)
    obtain ⟨v, e1, r⟩ := W1.slot j d ed
    have z := Rep.nf _ _ _ (hidOk_at hid hj ed) r
    rw [z] at r
    exact ⟨v, e1, r.step sp fun _ m => nomatch m⟩
theorem sE_comp {scope : Scope} {ownN : List (Str × Nat)} {ifs : List Expr} (hc : X.calm = true) (hN : X.N.Nodup) (hi : PI X tgx iter (TI_ c ik its)) (ok : BlkOk X.N X.env.scope scope ownN) (ho : own = ownN.map (·.2))
    (hg : ∀ (s : Shared) (H : Hp) (C : Addr) (cl : List (Str × Addr)) (fp : List Addr), PG (X.blk s H scope (compEnvC scope cl C X.env) fp) tgx g)
    (ht : ∀ (s : Shared) (H : Hp) (C : Addr) (cl : List (Str × Addr)) (fp : List Addr), PTs (X.blk s H scope (compEnvC scope cl C X.env) fp) ifs (TIf_ c.still iifs))
    (he : ∀ (s : Shared) (H : Hp) (C : Addr) (cl : List (Str × Addr)) (fp : List Addr), PE (X.blk s H scope (compEnvC scope cl C X.env) fp) elt (TE_ c.still ielt)) (hs : ∀ x, foldedSetIterable iter X.env x = pure x)
    (gk : GOk c tg g) (hsub : ∀ i ∈ tgIx tg, i ∈ own) : PE X (.ListComp elt [⟨tgx, iter, ifs, 0⟩] scope pos) (TE_ c (.comp ik its tg iifs ielt own)) :=
  PE.imp (pe_lc hc hN hi ok hg ht he hs) fun σ H Q h => by rw [← ho]; exact lc_ev gk hsub h
end
section
variable {X : Cx} {c : Cg} {elt tgx iter tgx1 iter1 : Expr} {ielt : IE} {tg tg1 : Tg} {its iifs its1 iifs1 : List IE} {ik ik1 : Ik} {own own1 : List Nat} {g g1 : TG} {pos : Pos}
theorem wipe_wipe {σ : LSt} {vs ws : List Nat} (h : ∀ i ∈ vs, i ∈ ws) : wipe (wipe σ vs) ws = wipe σ ws := by
  apply List.ext_getElem?
  intro i
  rw [wipe_get, wipe_get, wipe_get, wipe_length]
  by_cases hi : i ∈ ws ∧ i < σ.length
  · rw [if_pos hi, if_pos hi]
  · rw [if_neg hi, if_neg hi, if_neg fun z => hi ⟨h i z.1, z.2⟩]
theorem lc2_ev {σ : LSt} {H : Hp} {Q : VK} (hg : GOk c tg g) (hsub : ∀ i ∈ tgIx tg, i ∈ own) (hg1 : GOk c tg1 g1) (hsub1 : ∀ i ∈ tgIx tg1, i ∈ own1) (hv : ∀ i ∈ own1, i ∈ own) (h : TE_ c (.comp2 ik its tg iifs ik1 its1 tg1 iifs1 ielt own own1) σ H Q) :
    tLc2 (TI_ c ik its) g (TIf_ c.still iifs) (TI_ c.still ik1 its1) g1 (TIf_ c.still iifs1) (TE_ c.still ielt) own own1 σ H Q := by
  obtain ⟨B0, φ0, α0, env0, st0, Kk, Xk, W0, w0, p0, x0⟩ := h
  refine ⟨B0, φ0, α0, env0, st0, _, Xk, W0, w0, fun xs e s k J B1 H1 φ1 α1 W1 s1 wk => ?_, x0⟩
  obtain ⟨⟨hlen, hid⟩, k⟩ := k
  intro D hD
  have D0 : H D = none ∨ ∃ w, D ∈ φ0 w := by
    cases e0 : H D with
    | none => exact .inl rfl
    | some o =>
      by_cases hw : ∃ w, D ∈ φ0 w
      · exact .inr hw
      · have := s1.frame D o e0 fun w m => hw ⟨w, m⟩
        rw [hD] at this; cases this
  let inb : Ev.D → Env → Stt → (Option Ev.D → Env → Stt → Prop) → Prop := cmpB tg1 own1 (fun e2 s2 K2 X2 => wIfs c.F iifs1 e2 s2 K2 X2) (fun e2 s2 K2 X2 => wE c.F ielt e2 s2 K2 X2)
  let inn : Env → Stt → (List Ev.D → Env → Stt → Prop) → Prop := fun e2 s2 K2 => wZs c.F its1 e2 s2 (fun ds e3 s3 => itemsW ik1 ds fun zs => zs.length ≤ 4096 ∧ compL inb zs (wipeE e3 own1) s3 K2) (fun _ _ _ => False)
  let out : Ev.D → Env → Stt → (List Ev.D → Env → Stt → Prop) → Prop := cmpB2 tg own (fun e2 s2 K2 X2 => wIfs c.F iifs e2 s2 K2 X2) inn
  -- at turn i
  let Pv : Nat → Hp → Prop := fun i H' => ∃ B φ α env st ys f, Wd c.K B H' (wipe σ own) α φ env st ∧ Stp false B1 H1 φ1 α1 B H' φ α ∧ Tmp c.K B1 H1 φ1 B H' φ α (.lst true ys) (.ref D) f ∧ ys.length ≤ 4096 * i ∧
    compLL out (xs.drop i) env st (fun zs e' s' => Kk (.lst true (ys ++ zs)) (backE e e' own) s')
  have hP0 : Pv 0 (upd H1 D (.lst [])) := by
    obtain ⟨Wa, sa⟩ := W1.alloc hD (.lst [])
    have ta : Tmp c.K B1 H1 φ1 B1 (upd H1 D (.lst [])) φ1 α1 (.lst true []) (.ref D) [D] := Tmp.newL W1 hD (ds := []) (vs := []) ⟨rfl, rfl⟩
    exact ⟨B1, wipeF φ1 own, α1, wipeE e own, s, [], [D], Wa.wipe own, (sa.weak (q2 := false) fun z => nomatch z).wipe own, ta.wipe own, Nat.zero_le _, k⟩
  refine ⟨fun i m H' => m = xs.length - i ∧ i ≤ xs.length ∧ Pv i H', ⟨_, rfl, Nat.zero_le _, hP0⟩, ?_⟩
  rintro i m Hc ⟨rfl, hi, B, φ, α, env, st, ys, f, W, sp, t, hy, cl⟩
  by_cases hlt : i < xs.length
  · refine .inr ⟨wk.goes i Hc hlt (sp.mono.trans W.le), Pv (i + 1), fun H' p' => ⟨xs.length - (i + 1), by omega, rfl, hlt, p'⟩, fun x H' y => ?_⟩
    obtain ⟨d, B2, hd, W2, s2, r2⟩ := turn_in W wk sp.mono sp.pre hlt y
    rw [List.drop_eq_getElem_cons hlt, show xs[i] = d from Option.some.inj ((List.getElem?_eq_getElem hlt).symm.trans hd)] at cl
    have cl : onE (wTg tg d env) fun e2 => wIfs c.F iifs e2 st (fun b e3 s3 => if b = true then inn e3 s3 (fun zs e4 s4 => compLL out (xs.drop (i + 1)) (wipeE e4 own) s4 (fun vs e' s' => Kk (.lst true (ys ++ (zs ++ vs))) (backE e e' own) s'))
      else compLL out (xs.drop (i + 1)) (wipeE e3 own) s3 (fun vs e' s' => Kk (.lst true (ys ++ ([] ++ vs))) (backE e e' own) s')) (fun _ _ _ => False) := cl
    obtain ⟨e2, he2, cl⟩ := onE_inv cl
    have s12 := (sp.trans s2).weak (q2 := false) fun z => nomatch z
    have t2 := t.step sp s2
    refine hg he2 W2 s12 (Tmp.of_nil r2) fun σ2 φ2 H2 W3 s3 le3 same l3 fr3 => ?_
    have hw : wipe σ2 own = wipe σ own := wipe_sub (fun j hj => same j fun z => hj (hsub j z)) l3
    have t3 : Tmp c.K B1 H1 φ1 B2 H2 φ2 α (.lst true ys) (.ref D) f := ⟨Rep.ext (HLe.refl B2) (fun _ _ h => h) _ _ _ (fun a _ o e => le3 a o e) t2.rep, t2.nd, t2.out, fun a m => fr3 a (fun e => by obtain ⟨_, e'⟩ := Rep.there _ _ _ t2.rep a m; rw [e] at e'; cases e') (t2.free a m) (fun z => nomatch z), t2.new⟩
    refine ⟨hw, B2, φ2, α, e2, st, _, _, W3, cl, fun b e3 st3 cl B3 H3 φ3 α3 W4 s4 => ?_, PostX.none⟩
    have s34 := (s3.trans s4).weak (q2 := false) fun z => nomatch z
    have t4 := t3.step s3 s4
    cases b with
    | false =>
      simp only [Bool.false_eq_true, if_false] at cl ⊢
      simp only [List.nil_append] at cl
      refine ⟨B3, wipeF φ3 own, α3, wipeE e3 own, st3, ys, f, ?_, s34.wipe own, t4.wipe own, by omega, cl⟩
      rw [← hw]; exact W4.wipe own
    | true =>
      simp only [if_true] at cl ⊢
      refine ⟨B3, φ3, α3, e3, st3, _, _, W4, cl, fun zs e5 st5 cl J1 B5 H5 φ5 α5 W5 s5 wk1 => ?_, PostX.none⟩
      obtain ⟨zlen, cl⟩ := cl
      have s35 := (s34.trans s5).weak (q2 := false) fun z => nomatch z
      have t5 := t4.step s34 s5
      let Pw : Nat → Hp → Prop := fun j H' => ∃ B φ α env st ws f, Wd c.K B H' (wipe σ2 own1) α φ env st ∧ Stp false B1 H1 φ1 α1 B H' φ α ∧ (HLe B5 B ∧ ∀ (k : Nat) a, α5[k]? = some a → α[k]? = some a) ∧ Tmp c.K B1 H1 φ1 B H' φ α (.lst true (ys ++ ws)) (.ref D) f ∧ ws.length ≤ j ∧
        compL inb (zs.drop j) env st (fun us e4 s4 => compLL out (xs.drop (i + 1)) (wipeE e4 own) s4 (fun vs e' s' => Kk (.lst true (ys ++ (ws ++ us ++ vs))) (backE e e' own) s'))
      have hQ0 : Pw 0 H5 := by
        refine ⟨B5, wipeF φ5 own1, α5, wipeE e5 own1, st5, [], f, W5.wipe own1, s35.wipe own1, ⟨HLe.refl _, fun _ _ h => h⟩, ?_, Nat.le_refl _, cl⟩
        rw [List.append_nil]; exact t5.wipe own1
      refine ⟨fun j k H' => k = zs.length - j ∧ j ≤ zs.length ∧ Pw j H', ⟨_, rfl, Nat.zero_le _, hQ0⟩, ?_⟩
      rintro j k Hd ⟨rfl, hj, B, φ, α, env, st, ws, f, W, sp, ⟨sqm, sqp⟩, t, hws, cl⟩
      by_cases hlj : j < zs.length
      · refine .inr ⟨wk1.goes j Hd hlj (sqm.trans W.le), Pw (j + 1), fun H' p' => ⟨zs.length - (j + 1), by omega, rfl, hlj, p'⟩, fun x H' y => ?_⟩
        obtain ⟨d, B2, hd, W2, s2, r2⟩ := turn_in W wk1 sqm sqp hlj y
        rw [List.drop_eq_getElem_cons hlj, show zs[j] = d from Option.some.inj ((List.getElem?_eq_getElem hlj).symm.trans hd)] at cl
        have cl : onE (wTg tg1 d env) fun e2 => wIfs c.F iifs1 e2 st (fun b e3 s3 => if b = true then wE c.F ielt e3 s3 (fun y e4 s4 => compL inb (zs.drop (j + 1)) (wipeE e4 own1) s4 (fun us e4 s4 => compLL out (xs.drop (i + 1)) (wipeE e4 own) s4 (fun vs e' s' => Kk (.lst true (ys ++ (ws ++ (y :: us) ++ vs))) (backE e e' own) s'))) (fun _ _ _ => False)
          else compL inb (zs.drop (j + 1)) (wipeE e3 own1) s3 (fun us e4 s4 => compLL out (xs.drop (i + 1)) (wipeE e4 own) s4 (fun vs e' s' => Kk (.lst true (ys ++ (ws ++ us ++ vs))) (backE e e' own) s'))) (fun _ _ _ => False) := cl
        obtain ⟨e2, he2, cl⟩ := onE_inv cl
        have s12 := (sp.trans s2).weak (q2 := false) fun z => nomatch z
        have t2 := t.step sp s2
        refine hg1 he2 W2 s12 (Tmp.of_nil r2) fun σ3 φ2 H2 W3 s3 le3 same l3 fr3 => ?_
        have hw3 : wipe σ3 own1 = wipe σ2 own1 := wipe_sub (fun j hj => same j fun z => hj (hsub1 j z)) l3
        have t3 : Tmp c.K B1 H1 φ1 B2 H2 φ2 α (.lst true (ys ++ ws)) (.ref D) f := ⟨Rep.ext (HLe.refl B2) (fun _ _ h => h) _ _ _ (fun a _ o e => le3 a o e) t2.rep, t2.nd, t2.out, fun a m => fr3 a (fun e => by obtain ⟨_, e'⟩ := Rep.there _ _ _ t2.rep a m; rw [e] at e'; cases e') (t2.free a m) (fun z => nomatch z), t2.new⟩
        refine ⟨hw3, B2, φ2, α, e2, st, _, _, W3, cl, fun b e3 st3 cl B3 H3 φ3 α3 W4 s4 => ?_, PostX.none⟩
        have s34 := (s3.trans s4).weak (q2 := false) fun z => nomatch z
        have t4 := t3.step s3 s4
        have m34 : HLe B5 B3 := (sqm.trans s2.mono).trans s4.mono
        have p34 : ∀ (k : Nat) a, α5[k]? = some a → α3[k]? = some a := fun k a h => s4.pre k a (s2.pre k a (sqp k a h))
        cases b with
        | false =>
          simp only [Bool.false_eq_true, if_false] at cl ⊢
          refine ⟨B3, wipeF φ3 own1, α3, wipeE e3 own1, st3, ws, f, ?_, s34.wipe own1, ⟨m34, p34⟩, t4.wipe own1, Nat.le_succ_of_le hws, cl⟩
          rw [← hw3]; exact W4.wipe own1
        | true =>
          simp only [if_true] at cl ⊢
          refine ⟨B3, φ3, α3, e3, st3, _, _, W4, cl, fun y e4 st4 cl u B4 H4 φ4 α4 fy W5 s5 ty => ?_, PostX.none⟩
          obtain ⟨vs, hvs, hl, h, W6, s6, t6⟩ := Tmp.grow s34 t4 hD (s5.weak fun z => nomatch z) W5 ty
          refine ⟨vs, hvs, ?_, B4, wipeF φ4 own1, α4, wipeE e4 own1, st4, ws ++ [y], h, ?_, s6.wipe own1, ⟨m34.trans s5.mono, fun k a h => s5.pre k a (p34 k a h)⟩, ?_, by rw [List.length_append]; exact Nat.succ_le_succ hws, ?_⟩
          · rw [hl, ← lim_line, List.length_append]; unfold Lim
            have : 4096 * i ≤ 4096 * 4095 := Nat.mul_le_mul_left _ (by omega)
            omega
          · rw [← hw3]; exact W6.wipe own1
          · rw [← List.append_assoc]; exact t6.wipe own1
          · simp only [List.append_assoc, List.singleton_append] at cl ⊢; exact cl
      · have e' : j = zs.length := by omega
        subst e'
        refine .inl ⟨wk1.stops Hd (sqm.trans W.le), ?_⟩
        rw [List.drop_length] at cl
        have hi' : ws.length ≤ zs.length := hws
        have cl : compLL out (xs.drop (i + 1)) (wipeE env own) st (fun vs e' s' => Kk (.lst true (ys ++ (ws ++ [] ++ vs))) (backE e e' own) s') := cl
        simp only [List.append_nil] at cl
        refine ⟨B, wipeF φ own, α, wipeE env own, st, ys ++ ws, f, ?_, sp.wipe own, t.wipe own, by rw [List.length_append]; omega, ?_⟩
        · rw [← hw, ← wipe_wipe hv]; exact W.wipe own
        · simp only [List.append_assoc]; exact cl
  · have e' : i = xs.length := by omega
    subst e'
    refine .inl ⟨wk.stops Hc (sp.mono.trans W.le), ?_⟩
    rw [List.drop_length] at cl
    have cl : Kk (.lst true (ys ++ [])) (backE e env own) st := cl
    rw [List.append_nil] at cl
    refine p0 _ _ _ cl (.ref D) B Hc φ α f (W.unwipe fun j hj d ed => ?_) ((s1.trans sp).weak fun z => nomatch z) (t.back s1)
    obtain ⟨v, e1, r⟩ := W1.slot j d ed
    have z := Rep.nf _ _ _ (hidOk_at hid hj ed) r
    rw [z] at r
    exact ⟨v, e1, r.step sp fun _ m => nomatch m⟩
theorem sE_comp2 {scope : Scope} {ownN : List (Str × Nat)} {ifs ifs1 : List Expr} (hc : X.calm = true) (hN : X.N.Nodup) (hi : PI X tgx iter (TI_ c ik its)) (ok : BlkOk X.N X.env.scope scope ownN) (ho : own = ownN.map (·.2)) (hv : ∀ i ∈ own1, i ∈ own)
    (hg : ∀ (s : Shared) (H : Hp) (C : Addr) (cl : List (Str × Addr)) (fp : List Addr), PG (X.blk s H scope (compEnvC scope cl C X.env) fp) tgx g)
    (ht : ∀ (s : Shared) (H : Hp) (C : Addr) (cl : List (Str × Addr)) (fp : List Addr), PTs (X.blk s H scope (compEnvC scope cl C X.env) fp) ifs (TIf_ c.still iifs))
    (hi1 : ∀ (s : Shared) (H : Hp) (C : Addr) (cl : List (Str × Addr)) (fp : List Addr), PI (X.blk s H scope (compEnvC scope cl C X.env) fp) tgx1 iter1 (TI_ c.still ik1 its1))
    (hg1 : ∀ (s : Shared) (H : Hp) (C : Addr) (cl : List (Str × Addr)) (fp : List Addr), PG (X.blk s H scope (compEnvC scope cl C X.env) fp) tgx1 g1)
    (ht1 : ∀ (s : Shared) (H : Hp) (C : Addr) (cl : List (Str × Addr)) (fp : List Addr), PTs (X.blk s H scope (compEnvC scope cl C X.env) fp) ifs1 (TIf_ c.still iifs1))
    (he : ∀ (s : Shared) (H : Hp) (C : Addr) (cl : List (Str × Addr)) (fp : List Addr), PE (X.blk s H scope (compEnvC scope cl C X.env) fp) elt (TE_ c.still ielt)) (hs : ∀ x, foldedSetIterable iter X.env x = pure x) (hs1 : ∀ env x, foldedSetIterable iter1 env x = pure x)
    (gk : GOk c tg g) (hsub : ∀ i ∈ tgIx tg, i ∈ own) (gk1 : GOk c tg1 g1) (hsub1 : ∀ i ∈ tgIx tg1, i ∈ own1) : PE X (.ListComp elt [⟨tgx, iter, ifs, 0⟩, ⟨tgx1, iter1, ifs1, 0⟩] scope pos) (TE_ c (.comp2 ik its tg iifs ik1 its1 tg1 iifs1 ielt own own1)) :=
  PE.imp (pe_lc2 (vs1 := own1) hc hN hi ok (by rw [← ho]; exact hv) hg ht hi1 hg1 ht1 he hs hs1) fun σ H Q h => by rw [← ho]; exact lc2_ev gk hsub gk1 hsub1 hv h
end
end Ev

namespace Ev
open PySem PySem.Spec PyProof.Rows L2
section
variable {X : Cx} {c : Cg} {e o : Expr} {es : List Expr} {ies : List IE} {pos apos : Pos} {i : Nat}
def mcName : Mc → Str
  | .append => "append" | .reverse => "reverse" | .clear => "clear" | .pop0 => "pop" | .pop1 => "pop" | .insert => "insert" | .extend => "extend" | _ => "?"
def mcId : Mc → String
  | .append => "list.append" | .reverse => "list.reverse" | .clear => "list.clear" | .pop0 => "list.pop" | .pop1 => "list.pop" | .insert => "list.insert" | .extend => "list.extend" | _ => "?"
def mcSup : Mc → Bool
  | .append | .reverse | .clear | .pop0 | .pop1 | .insert | .extend => true
  | _ => false
def rIns : V → List V → Hp → VK → Prop := fun x vs H Q => ∃ (l : Addr) (xs : List V) (i : Int) (y : V), x = .ref l ∧ vs = [.int i, y] ∧ H l = some (.lst xs) ∧ xs.length < sizeLine ∧ 0 ≤ i ∧ i < 2 ^ 63 ∧
    Q .non (upd H l (.lst (xs.take i.toNat ++ [y] ++ xs.drop i.toNat)))
def rMc : Mc → V → List V → Hp → VK → Prop
  | .append => rAppend | .reverse => rReverse | .clear => rClear | .pop0 => rPop | .pop1 => rPopAt | .insert => rIns | .extend => rExtend
  | _ => fun _ _ _ _ => False
theorem mt_mc {m : Mc} (h : mcSup m = true) : MtR X (mcId m) (rMc m) := by
  cases m with
  | append => exact mt_append
  | reverse => exact mt_reverse
  | clear => exact mt_clear
  | pop0 => exact mt_pop
  | pop1 => exact mt_popAt
  | insert => exact mt_insert
  | extend => exact mt_extend
  | _ => cases h
theorem slot_mc {m : Mc} (h : mcSup m = true) : Slot "list" (mcName m) (mcId m) := by
  cases m with
  | append => exact PySem.F.slot_list_append
  | reverse => exact PySem.F.slot_list_reverse
  | clear => exact PySem.F.slot_list_clear
  | pop0 => exact PySem.F.slot_list_pop
  | pop1 => exact PySem.F.slot_list_pop
  | insert => exact PySem.F.slot_list_insert
  | extend => exact PySem.F.slot_list_extend
  | _ => cases h
theorem type_mc {m : Mc} (h : mcSup m = true) : typeOf (.builtin (mcId m)) = pure (.type "method_descriptor") := by
  cases m with
  | append => exact PySem.F.type_list_append
  | reverse => exact PySem.F.type_list_reverse
  | clear => exact PySem.F.type_list_clear
  | pop0 => exact PySem.F.type_list_pop
  | pop1 => exact PySem.F.type_list_pop
  | insert => exact PySem.F.type_list_insert
  | extend => exact PySem.F.type_list_extend
  | _ => cases h
/-- where a list lies: a name's own, or a cell's -/
def HoldsAt (w : Ow) (σ : LSt) (α : List Addr) (env : Env) (st : Stt) (a : Addr) (xs : List D) : Prop := match w with
  | .inl i => env[i]? = some (some (.lst true xs)) ∧ σ[i]? = some (some (.ref a))
  | .inr k => st[k]? = some (.val (.lst true xs)) ∧ α[k]? = some a
def putE (w : Ow) (env : Env) (d : D) : Env := match w with
  | .inl i => env.set i (some d)
  | .inr _ => env
def putS (w : Ow) (st : Stt) (d : D) : Stt := match w with
  | .inl _ => st
  | .inr k => st.set k (.val d)
theorem HoldsAt.fp {K : Frag} {B H : Hp} {σ : LSt} {α : List Addr} {φ : Fp} {env : Env} {st : Stt} {w : Ow} {a : Addr} {xs : List D} (W : Wd K B H σ α φ env st) (h : HoldsAt w σ α env st a xs) : ∃ vs g, H a = some (.lst vs) ∧ RepL K B H α xs vs g ∧ φ w = a :: g := by
  cases w with
  | inl i =>
    obtain ⟨v, hs, q, vs, g, e, hq, r, hf⟩ := W.slot i _ h.1
    rw [h.2] at hs; cases hs; cases e
    exact ⟨vs, g, hq, r, hf⟩
  | inr k =>
    obtain ⟨_, q, vs, g, e, hq, r, hf⟩ := W.cell k _ a h.1 h.2
    cases e
    exact ⟨vs, g, hq, r, hf⟩
theorem Wd.chg {K : Frag} {B H : Hp} {σ : LSt} {α : List Addr} {φ : Fp} {env : Env} {st : Stt} {w : Ow} {a : Addr} {xs ys : List D} {ws : List V} {g h : List Addr} (W : Wd K B H σ α φ env st) (ha : HoldsAt w σ α env st a xs) (hf : φ w = a :: g)
    (r : RepL K B H α ys ws h) (nd : h.Nodup) (ah : a ∉ h) (out : ∀ b ∈ h, B b = none) (free : ∀ b ∈ h, ∀ u, u ≠ w → b ∉ φ u) :
    Wd K B (upd H a (.lst ws)) σ α (setF φ w (a :: h)) (putE w env (.lst true ys)) (putS w st (.lst true ys)) := by
  have ma : a ∈ φ w := by rw [hf]; exact List.mem_cons_self
  have hB : B a = none := W.out w a ma
  have ne : ∀ u, u ≠ w → ∀ b ∈ φ u, ∀ o, H b = some o → upd H a (.lst ws) b = some o := fun u hu b m o e => by
    have : b ≠ a := fun z => by subst z; exact W.dj u w hu b m ma
    rw [upd_oth this]; exact e
  have here : Rep K B (upd H a (.lst ws)) α (.lst true ys) (.ref a) (a :: h) := ⟨a, ws, h, rfl, upd_self, RepL.ext (HLe.refl B) (fun _ _ h => h) _ _ _ (fun b m o e => by
    have : b ≠ a := fun z => by subst z; exact ah m
    rw [upd_oth this]; exact e) r, rfl⟩
  have fp : ∀ u, setF φ w (a :: h) u = if u = w then a :: h else φ u := fun u => rfl
  refine ⟨fun b o e => ?_, ?_, fun i d e => ?_, fun i hb => ?_, ?_, fun k c q hk hq => ?_, fun k hk => ?_, fun u => ?_, fun u u' hu b m => ?_, fun u b m => ?_⟩
  · have : b ≠ a := fun z => by subst z; rw [hB] at e; cases e
    rw [upd_oth this]; exact W.le b o e
  · cases w with
    | inl i => show σ.length = (env.set i _).length; rw [List.length_set]; exact W.len
    | inr k => exact W.len
  · cases w with
    | inl j =>
      have e : (env.set j (some (D.lst true ys)))[i]? = some (some d) := e
      by_cases hj : j = i
      · subst hj
        have hl : j < env.length := (List.getElem?_eq_some_iff.mp ha.1).1
        rw [List.getElem?_set_self hl] at e; cases e
        refine ⟨_, ha.2, ?_⟩
        rw [fp, if_pos rfl]; exact here
      · rw [List.getElem?_set_ne hj] at e
        obtain ⟨v, hv, rv⟩ := W.slot i d e
        have hu : (Sum.inl i : Ow) ≠ .inl j := fun z => hj (Sum.inl.inj z).symm
        refine ⟨v, hv, ?_⟩
        rw [fp, if_neg hu]
        exact Rep.ext (HLe.refl B) (fun _ _ h => h) _ _ _ (ne _ hu) rv
    | inr k =>
      obtain ⟨v, hv, rv⟩ := W.slot i d e
      have hu : (Sum.inl i : Ow) ≠ .inr k := fun z => nomatch z
      refine ⟨v, hv, ?_⟩
      rw [fp, if_neg hu]
      exact Rep.ext (HLe.refl B) (fun _ _ h => h) _ _ _ (ne _ hu) rv
  · cases w with
    | inl j =>
      have hb : ∀ d, (env.set j (some (D.lst true ys)))[i]? ≠ some (some d) := hb
      have hl : j < env.length := (List.getElem?_eq_some_iff.mp ha.1).1
      by_cases hj : j = i
      · subst hj; exact (hb _ (List.getElem?_set_self hl)).elim
      · rw [fp, if_neg fun z => hj (Sum.inl.inj z).symm]
        exact W.bare i fun d e => hb d (by rw [List.getElem?_set_ne hj]; exact e)
    | inr k => rw [fp, if_neg fun z => nomatch z]; exact W.bare i hb
  · cases w with
    | inl j => exact W.clen
    | inr k => show α.length = (st.set k _).length; rw [List.length_set]; exact W.clen
  · cases w with
    | inl j =>
      have hu : (Sum.inr k : Ow) ≠ .inl j := fun z => nomatch z
      rw [fp, if_neg hu]
      exact (W.cell k c q hk hq).ext (HLe.refl B) (fun _ _ h => h) (ne _ hu)
    | inr j =>
      have hk : (st.set j (Cell.val (.lst true ys)))[k]? = some c := hk
      by_cases hj : j = k
      · subst hj
        have hl : j < st.length := (List.getElem?_eq_some_iff.mp ha.1).1
        rw [List.getElem?_set_self hl] at hk; cases hk
        rw [ha.2] at hq; cases hq
        rw [fp, if_pos rfl]
        exact ⟨⟨ys, rfl⟩, here⟩
      · rw [List.getElem?_set_ne hj] at hk
        have hu : (Sum.inr k : Ow) ≠ .inr j := fun z => hj (Sum.inr.inj z).symm
        rw [fp, if_neg hu]
        exact (W.cell k c q hk hq).ext (HLe.refl B) (fun _ _ h => h) (ne _ hu)
  · cases w with
    | inl j => rw [fp, if_neg fun z => nomatch z]; exact W.cbare k hk
    | inr j =>
      have hl : j < st.length := (List.getElem?_eq_some_iff.mp ha.1).1
      have hk : (st.set j (Cell.val (.lst true ys))).length ≤ k := hk
      rw [List.length_set] at hk
      rw [fp, if_neg fun z => by have := Sum.inr.inj z; omega]
      exact W.cbare k hk
  · rw [fp]; split
    · exact List.nodup_cons.mpr ⟨ah, nd⟩
    · exact W.nd u
  · rw [fp] at m ⊢
    split at m
    · rename_i h1
      subst h1
      rw [if_neg (Ne.symm hu)]
      rcases List.mem_cons.mp m with rfl | m
      · exact W.dj u u' hu b ma
      · exact free b m u' (Ne.symm hu)
    · rename_i h1
      split
      · rename_i h2; subst h2
        intro m'
        rcases List.mem_cons.mp m' with rfl | m'
        · exact W.dj u u' hu b m ma
        · exact free b m' u hu m
      · exact W.dj u u' hu b m
  · rw [fp] at m
    split at m
    · rcases List.mem_cons.mp m with rfl | m
      · exact hB
      · exact out b m
    · exact W.out u b m
theorem mc_fin {B H B2 H2 : Hp} {φ φ2 : Fp} {α α2 : List Addr} {σ : LSt} {e2 : Env} {s2 : Stt} {w : Ow} {a : Addr} {g f h : List Addr} {xs ys ds : List D} {ws us : List V} {z : D} {v : V} {Q : VK} {q : Bool}
    (W : Wd c.K B2 H2 σ α2 φ2 e2 s2) (s : Stp q B H φ α B2 H2 φ2 α2) (he : HoldsAt w σ α2 e2 s2 a xs) (hf : φ2 w = a :: g) (t : TmpL c.K B H φ B2 H2 φ2 α2 ds us f)
    (r : RepL c.K B2 H2 α2 ys ws h) (nd : h.Nodup) (hsub : ∀ b ∈ h, b ∈ g ∨ b ∈ f) (rz : Rep c.K B2 H2 α2 z v [])
    (out : ∀ v B' H' φ' f', Wd c.K B' H' σ α2 φ' (putE w e2 (.lst true ys)) (putS w s2 (.lst true ys)) → Stp false B H φ α B' H' φ' α2 → Tmp c.K B H φ B' H' φ' α2 z v f' → Q v H') : Q v (upd H2 a (.lst ws)) := by
  have nda : (a :: g).Nodup := hf ▸ W.nd w
  have ma : a ∈ φ2 w := by rw [hf]; exact List.mem_cons_self
  have mg : ∀ b ∈ g, b ∈ φ2 w := fun b m => by rw [hf]; exact List.mem_cons_of_mem _ m
  have hB : B2 a = none := W.out w a ma
  have ah : a ∉ h := fun m => (hsub a m).elim (List.nodup_cons.mp nda).1 fun m => t.free a m w ma
  have W3 := W.chg he hf r nd ah (fun b m => (hsub b m).elim (fun m => W.out w b (mg b m)) (t.out b)) fun b m u hu => (hsub b m).elim (fun m => W.dj w u (Ne.symm hu) b (mg b m)) fun m => t.free b m u
  have s3 : Stp false B H φ α B2 (upd H2 a (.lst ws)) (setF φ2 w (a :: h)) α2 := by
    refine ⟨fun b o e hb => ?_, fun u b m => ?_, s.bnew, s.mono, s.pre, fun z => nomatch z⟩
    · have : b ≠ a := fun z => by
        subst z
        rcases s.new w b ma with ⟨u, m⟩ | n
        · exact hb u m
        · rw [n] at e; cases e
      rw [upd_oth this]; exact s.frame b o e hb
    · unfold setF at m
      split at m
      · rcases List.mem_cons.mp m with rfl | m
        · exact s.new w b ma
        · exact (hsub b m).elim (fun m => s.new w b (mg b m)) (t.new b)
      · exact s.new u b m
  exact out v B2 _ _ [] W3 s3 (Tmp.of_nil (Rep.ext (HLe.refl _) (fun _ _ h => h) _ _ _ (fun _ m => nomatch m) rz))
theorem RepL.erase {K : Frag} {B H : Hp} {α : List Addr} {ds : List D} {vs : List V} (r : RepL K B H α ds vs []) (n : Nat) : RepL K B H α (ds.eraseIdx n) (vs.eraseIdx n) [] := by
  rw [List.eraseIdx_eq_take_drop_succ, List.eraseIdx_eq_take_drop_succ]
  exact RepL.append (f := []) (f' := []) (r.take n) (r.drop (n + 1))
theorem seqIx (i : Int) (n : Nat) : seqIndex? i n = ixn n i := by
  unfold seqIndex? ixn
  by_cases h : i < 0
  · have h0 : ¬ 0 ≤ i := by omega
    simp only [if_pos h, if_neg h0]
    by_cases h1 : -(n : Int) ≤ i
    · rw [if_pos h1, if_pos (by simp only [Bool.and_eq_true, decide_eq_true_eq]; omega)]
    · rw [if_neg h1, if_neg (by simp only [Bool.and_eq_true, decide_eq_true_eq]; omega)]
  · have h0 : 0 ≤ i := by omega
    simp only [if_neg h, if_pos h0]
    by_cases h1 : i < n
    · rw [if_pos h1, if_pos (by simp only [Bool.and_eq_true, decide_eq_true_eq]; omega)]
    · rw [if_neg h1, if_neg (by simp only [Bool.and_eq_true, decide_eq_true_eq]; omega)]
theorem RepL.nf0 {K : Frag} {B H : Hp} {α : List Addr} {ds : List D} {vs : List V} {f : List Addr} (h : nfL ds = true) (r : RepL K B H α ds vs f) : RepL K B H α ds vs [] := by
  have := RepL.nf _ _ _ h r; subst this; exact r
theorem mc_ok {m : Mc} {B H B2 H2 : Hp} {φ φ2 : Fp} {α α2 : List Addr} {σ : LSt} {e2 : Env} {s2 : Stt} {xs ds : List D} {us : List V} {f : List Addr} {Q : VK} {q : Bool} {K : D → List D → Prop}
    {w : Ow} {a : Addr} (W : Wd c.K B2 H2 σ α2 φ2 e2 s2) (s : Stp q B H φ α B2 H2 φ2 α2) (he : HoldsAt w σ α2 e2 s2 a xs) (t : TmpL c.K B H φ B2 H2 φ2 α2 ds us f) (hw : mcW m xs ds K)
    (out : ∀ z ys, K z ys → ∀ v B' H' φ' f', Wd c.K B' H' σ α2 φ' (putE w e2 (.lst true ys)) (putS w s2 (.lst true ys)) → Stp false B H φ α B' H' φ' α2 → Tmp c.K B H φ B' H' φ' α2 z v f' → Q v H') : rMc m (.ref a) us H2 Q := by
  obtain ⟨vs, g, ha, r, hf⟩ := he.fp W
  have nda : (a :: g).Nodup := hf ▸ W.nd w
  have ndg := (List.nodup_cons.mp nda).2
  have hl := r.length
  have non : Rep c.K B2 H2 α2 .non .non [] := ⟨rfl, rfl⟩
  cases m with
  | append =>
    match ds, hw with
    | [d], ⟨w1, k⟩ =>
      obtain ⟨u, ur, f1, f2, rfl, r1, ⟨rfl, rfl⟩, rfl⟩ := t.rep
      refine ⟨a, vs, u, rfl, rfl, ha, by rw [← hl, ← lim_line]; exact w1, ?_⟩
      refine mc_fin W s he hf t (RepL.append (ds' := [d]) r ⟨u, [], f1, [], rfl, r1, ⟨rfl, rfl⟩, rfl⟩) (List.nodup_append.mpr ⟨ndg, t.nd, fun b m b' m' e => ?_⟩) (fun b m => List.mem_append.mp m) non (out _ _ k)
      subst e
      exact t.free b m' w (by rw [hf]; exact List.mem_cons_of_mem _ m)
  | reverse =>
    match ds, hw with
    | [], ⟨w1, k⟩ =>
      obtain ⟨rfl, rfl⟩ := t.rep
      exact ⟨a, vs, rfl, rfl, ha, mc_fin W s he hf t (r.nf0 w1).reverse List.nodup_nil (fun _ m => nomatch m) non (out _ _ k)⟩
  | clear =>
    match ds, hw with
    | [], k =>
      obtain ⟨rfl, rfl⟩ := t.rep
      exact ⟨a, vs, rfl, rfl, ha, mc_fin W s he hf t (ys := []) ⟨rfl, rfl⟩ List.nodup_nil (fun _ m => nomatch m) non (out _ _ k)⟩
  | pop0 =>
    match ds, hw with
    | [], ⟨w1, k⟩ =>
      obtain ⟨rfl, rfl⟩ := t.rep
      obtain ⟨d, hd, k⟩ := onV_inv k
      have r0 := r.nf0 w1
      obtain ⟨x, g', e1, r1, m1⟩ := RepL.get r0 hd
      have : g' = [] := List.eq_nil_iff_forall_not_mem.mpr fun a z => nomatch m1 a z
      subst this
      rw [hl] at e1
      refine ⟨a, vs, x, rfl, rfl, ha, e1, mc_fin W s he hf t ?_ List.nodup_nil (fun _ m => nomatch m) r1 (out _ _ k)⟩
      rw [List.dropLast_eq_take, List.dropLast_eq_take, hl]
      exact r0.take _
  | pop1 =>
    match ds, hw with
    | [.int j], ⟨w0, w1, k⟩ =>
      obtain ⟨u, ur, f1, f2, rfl, ⟨rfl, rfl⟩, ⟨rfl, rfl⟩, rfl⟩ := t.rep
      obtain ⟨n, hn, k⟩ := natW_inv k
      obtain ⟨d, hd, k⟩ := onV_inv k
      have r0 := r.nf0 w1
      obtain ⟨x, g', e1, r1, m1⟩ := RepL.get r0 hd
      have : g' = [] := List.eq_nil_iff_forall_not_mem.mpr fun a z => nomatch m1 a z
      subst this
      exact ⟨a, vs, j, n, x, rfl, rfl, ha, w0.1, w0.2, by rw [seqIx, ← hl]; exact hn, e1, mc_fin W s he hf t (r0.erase n) List.nodup_nil (fun _ m => nomatch m) r1 (out _ _ k)⟩
  | insert =>
    match ds, hw with
    | [.int j, d], ⟨w0, w1, k⟩ =>
      obtain ⟨u, ur, f1, f2, rfl, ⟨rfl, rfl⟩, ⟨u', ur', f3, f4, rfl, r1, ⟨rfl, rfl⟩, rfl⟩, rfl⟩ := t.rep
      have r0 := r.nf0 w1
      refine ⟨a, vs, j, u', rfl, rfl, ha, by rw [← hl, ← lim_line]; exact w0.1, w0.2.1, w0.2.2, mc_fin W s he hf t (h := [] ++ f3 ++ []) (RepL.append (RepL.append (ds' := [d]) (r0.take _) ⟨u', [], f3, [], rfl, r1, ⟨rfl, rfl⟩, (List.append_nil _).symm⟩) (r0.drop _)) ?_ ?_ non (out _ _ k)⟩
      · simpa using t.nd
      · intro b m; exact .inr (by simpa using m)
  | extend =>
    match ds, hw with
    | [.lst o ys], ⟨w0, w1, k⟩ =>
      have w1 := Bool.and_eq_true_iff.mp w1
      obtain ⟨u, ur, f1, f2, rfl, r1, ⟨rfl, rfl⟩, rfl⟩ := t.rep
      obtain ⟨b, vs', g', rfl, hb, r2, z⟩ := Rep.lst' (c := c) r1 W.le
      rw [z w1.2] at r2
      have hl2 := r2.length
      refine ⟨a, b, vs, vs', rfl, rfl, ha, hb, by rw [← hl, ← hl2, ← lim_line]; exact w0, mc_fin W s he hf t (RepL.append (r.nf0 w1.1) r2) List.nodup_nil (fun _ m => nomatch m) non (out _ _ k)⟩
  | _ => exact hw.elim
theorem isL_inv {d : D} (h : isL d = true) : ∃ o xs, d = .lst o xs := by cases d <;> first | exact ⟨_, _, rfl⟩ | cases h
theorem lst_at {K : Frag} {B H : Hp} {σ : LSt} {α : List Addr} {φ : Fp} {env : Env} {st : Stt} {x : D} {v : V} {G : List D → (D → List D → Prop) → Prop} {Kk : D → Env → Stt → Prop} (W : Wd K B H σ α φ env st) (hx : env[i]? = some (some x)) (hv : σ[i]? = some (some v)) (h : setW env st i x G Kk) :
    ∃ w a xs, v = .ref a ∧ HoldsAt w σ α env st a xs ∧ G xs fun z ys => Kk z (putE w env (.lst true ys)) (putS w st (.lst true ys)) := by
  obtain ⟨v', hv', r⟩ := W.slot i x hx
  rw [hv] at hv'; cases hv'
  unfold setW at h
  split at h
  · rename_i xs
    obtain ⟨a, vs, g, rfl, _⟩ := r
    exact ⟨.inl i, a, xs, rfl, ⟨hx, hv⟩, h⟩
  · rename_i k
    obtain ⟨a, ha, rfl, _⟩ := r
    split at h
    · rename_i xs hk
      exact ⟨.inr k, a, xs, rfl, ⟨hk, ha⟩, h⟩
    · exact h.elim
  · exact h.elim
theorem mc_ev {m : Mc} {σ : LSt} {H : Hp} {Q : VK} (h : TE_ c (.mc m (.var i) ies) σ H Q) : tVar i σ H fun x H1 => tyV c.K "list" x H1 ∧ TAs_ c ies σ H1 fun xs H2 => rMc m x xs H2 Q := by
  obtain ⟨B, φ, α, env, st, Kk, Xk, W, w, p, x⟩ := h
  have w : onV (getV env i) fun x0 => isL (derefD st x0) = true ∧ wEs c.F ies env st (fun ds e s => onV (getV e i) fun x => setW e s i x (fun xs R => mcW m xs ds R) fun z e' s' => Kk z e' s') Xk := w
  obtain ⟨d0, h0, hl, w⟩ := getV_some w
  obtain ⟨v, hv, r0⟩ := W.slot i _ h0
  obtain ⟨g0, r1⟩ := deref_rep W r0
  obtain ⟨o, xs0, el⟩ := isL_inv hl
  rw [el] at r1
  obtain ⟨a0, vs0, g1, e1, ha0, _⟩ := Rep.lst' (c := c) r1 W.le
  refine ⟨v, hv, ?_, B, φ, α, env, st, _, Xk, W, w, fun ds e2 s2 k us B2 H2 φ2 α2 f W2 s t => ?_, x⟩
  · subst e1; exact .inl ⟨rfl, vs0, .of ha0⟩
  · obtain ⟨d, hd, k1⟩ := getV_some k
    obtain ⟨w, a, xs, rfl, hat, k2⟩ := lst_at W2 hd hv k1
    exact mc_ok W2 s hat t k2 fun z ys k v B' H' φ' f' W' s' t' => p z _ _ k v B' H' φ' α2 f' W' (s'.weak fun h => nomatch h) t'
/-- the index first, then the name looked at -/
theorem sE_idxL {a b : Expr} {ib : IE} (hK : X.K = c.K) (ha : PE X a (tVar i)) (hb : PE X b (TR_ c ib)) (hs : PlainIx b) : PE X (.Subscript a b pos) (TE_ c (.idxL i ib)) := PE.imp (pe_ix ix_seq ha hb hs) fun σ H Q => by
  rintro ⟨B, φ, α, env, st, Kk, Xk, W, w, p, x⟩
  rw [hK]
  have w : onV (getV env i) fun _ => wR c.F ib env st (fun y e2 s2 => onV (getV e2 i) fun d => idxW (derefD s2 d) y fun z => nf z = true ∧ Kk z e2 s2) Xk := w
  obtain ⟨d0, h0, w⟩ := getV_some w
  obtain ⟨v0, hv, r0⟩ := W.slot i _ h0
  refine ⟨v0, hv, B, φ, α, env, st, _, Xk, W, w, fun dy e2 s2 k vy B2 H2 φ2 α2 fy W2 s r' _ => ?_, x⟩
  obtain ⟨d, hd, k⟩ := getV_some k
  obtain ⟨v1, hv1, r1⟩ := W2.slot i _ hd
  obtain rfl : v1 = v0 := by rw [hv] at hv1; cases hv1; rfl
  obtain ⟨g0, r⟩ := deref_rep W2 r1
  have sw := s.weak (q2 := false) fun h => nomatch h
  have fin : ∀ {z : D} {v : V} {g : List Addr}, nf z = true → Kk z e2 s2 → Rep c.K B2 H2 α2 z v g → Q v H2 := fun {z v g} n k r => by
    have := Rep.nf z v g n r
    subst this
    exact p z e2 s2 k v B2 H2 φ2 α2 [] W2 sw (Tmp.of_nil r)
  unfold idxW at k
  generalize derefD s2 d = dx at k r
  split at k
  · obtain ⟨rfl, _⟩ := r'
    obtain ⟨z, e, n, k⟩ := onV_inv k
    obtain ⟨a, vs, g, rfl, h, r, _⟩ := r.lst' (c := c) W2.le
    obtain ⟨v, g', h1, h2, _⟩ := r.atI e
    exact .inl ⟨a, vs, _, v, rfl, rfl, .of h, h1, fin n k h2⟩
  · obtain ⟨rfl, _⟩ := r'
    obtain ⟨z, e, n, k⟩ := onV_inv k
    obtain ⟨a, vs, rfl, h, r, _⟩ := r.kst' (c := c) W2.le
    obtain ⟨v, g', h1, h2, _⟩ := r.atI e
    exact .inl ⟨a, vs, _, v, rfl, rfl, h, h1, fin n k h2⟩
  · obtain ⟨rfl, _⟩ := r'
    obtain ⟨z, e, n, k⟩ := onV_inv k
    obtain ⟨a, vs, rfl, h, r, _⟩ := r.tup' (c := c) W2.le
    obtain ⟨v, g', h1, h2, _⟩ := r.atI e
    exact .inr (.inl ⟨a, vs, _, v, rfl, rfl, h, h1, fin n k h2⟩)
  · obtain ⟨rfl, _⟩ := r'
    obtain ⟨hl, k⟩ := k
    obtain ⟨z, e, n, k⟩ := natW_inv k
    obtain ⟨rfl, _⟩ := r
    exact .inr (.inr ⟨_, _, z, rfl, rfl, by rw [tx_len]; exact hl, by rw [← atx_eq]; simpa using e, fin (z := .str [z]) (g := []) n k ⟨by simp, rfl⟩⟩)
  · exact k.elim
theorem tyV_K (hK : X.K = c.K) {T : String} {x : V} {H : Hp} (h : tyV c.K T x H) : tyV X.K T x H := by rw [hK]; exact h
theorem sE_mc {m : Mc} (hm : mcSup m = true) (hK : X.K = c.K) (ho : PE X o (tVar i)) (ha : PA X (e :: es) (TAs_ c ies))
    (hbase : attributeBase o (mcName m) X.env (eval o X.env) = eval o X.env)
    (hfew : ((backTo pos (starEach (e :: es) X.env)).all (fun x => !x.1) && (backToKw pos (keywordEach [] X.env)).all (fun x => x.1.isSome)
      && decide ((e :: es).length + ([] : List Keyword).length + (if ([] : List Keyword).isEmpty then 0 else 1) < 30)) = true)
    (hline : (apos.endLine == pos.line) = true) (hs : starEach (e :: es) X.env = (false, eval e X.env) :: starEach es X.env) (hplain : (backTo pos (starEach es X.env)).any (·.1) = false) :
    PE X (.Call (.Attribute o (mcName m) apos) (e :: es) [] pos) (TE_ c (.mc m (.var i) ies)) :=
  PE.imp (pe_bm PySem.F.plainAttrs_list (slot_mc hm) (type_mc hm) (mt_mc hm) ho ha hbase hfew hline hs hplain) fun σ H Q h => by
    obtain ⟨v, h1, h2, h3⟩ := mc_ev h
    exact ⟨v, h1, tyV_K hK h2, h3⟩
theorem sE_mc0 {m : Mc} (hm : mcSup m = true) (hK : X.K = c.K) (ho : PE X o (tVar i)) (hbase : attributeBase o (mcName m) X.env (eval o X.env) = eval o X.env) (hline : (apos.endLine == pos.line) = true) :
    PE X (.Call (.Attribute o (mcName m) apos) [] [] pos) (TE_ c (.mc m (.var i) [])) :=
  PE.imp (pe_bm0 PySem.F.plainAttrs_list (slot_mc hm) (type_mc hm) (mt_mc hm) ho hbase hline) fun σ H Q h => by
    obtain ⟨v, h1, h2, B, φ, α, env, st, Kk, Xk, W, w, p, x⟩ := mc_ev h
    exact ⟨v, h1, tyV_K hK h2, p [] env st w [] B H φ α [] W (Stp.refl.weak fun h => nomatch h) TmpL.nil⟩
end
end Ev

namespace Ev
open PySem PySem.Spec PyProof.Rows L2 TL
/-- a method of the kind that comes -/
structure Alt (X : Cx) (name : Str) (T : String) (r : V → List V → Hp → VK → Prop) : Prop where
  ex : ∃ id, PlainAttrs T ∧ Slot T name id ∧ typeOf (.builtin id) = pure (.type "method_descriptor") ∧ MtR X id r
def tBMD (X : Cx) (name : Str) (to : TE) (t : TA) : TE := fun σ H Q => to σ H fun x H1 => ∃ T r, Alt X name T r ∧ tyV X.K T x H1 ∧ t σ H1 fun xs H2 => r x xs H2 Q
def tBMD0 (X : Cx) (name : Str) (to : TE) : TE := fun σ H Q => to σ H fun x H1 => ∃ T r, Alt X name T r ∧ tyV X.K T x H1 ∧ r x [] H1 Q
section
variable {X : Cx} {o e : Expr} {es : List Expr} {to : TE} {t : TA} {name : Str} {cpos apos : Pos}
theorem pe_bmD0 (ho : PE X o to) (hbase : attributeBase o name X.env (eval o X.env) = eval o X.env) (hline : (apos.endLine == cpos.line) = true) : PE X (.Call (.Attribute o name apos) [] [] cpos) (tBMD0 X name to) := by
  refine ⟨fun pins s σ H Q I h => ?_⟩
  refine wpAny_Call_method0_late hbase hline (thn (ho.run pins s σ H _ I h) fun v s1 ⟨x, H1, I1, r1, T, r, ⟨id, pa, slot, hty, hm⟩, ty, q1⟩ => ?_)
  obtain ⟨h1, h2⟩ := tyV_is I1 r1 ty
  exact ⟨T, id, pa, slot, hty, h1, h2, Calls.callWith_builtin rfl (PySem.evalArgs_none (hm pins s1 σ H1 x [] v [] Q I1 r1 .nil q1))⟩
theorem pe_bmD (ho : PE X o to) (ha : PA X (e :: es) t)
    (hbase : attributeBase o name X.env (eval o X.env) = eval o X.env)
    (hfew : ((backTo cpos (starEach (e :: es) X.env)).all (fun x => !x.1) && (backToKw cpos (keywordEach [] X.env)).all (fun x => x.1.isSome)
      && decide ((e :: es).length + ([] : List Keyword).length + (if ([] : List Keyword).isEmpty then 0 else 1) < 30)) = true)
    (hline : (apos.endLine == cpos.line) = true) (hs : starEach (e :: es) X.env = (false, eval e X.env) :: starEach es X.env) (hplain : (backTo cpos (starEach es X.env)).any (·.1) = false) :
    PE X (.Call (.Attribute o name apos) (e :: es) [] cpos) (tBMD X name to t) := by
  refine ⟨fun pins s σ H Q I h => ?_⟩
  refine wpAny_Call_method_late hbase hfew hline rfl (thn (ho.run pins s σ H _ I h) fun v s1 ⟨x, H1, I1, r1, T, r, ⟨id, pa, slot, hty, hm⟩, ty, q1⟩ => ?_)
  obtain ⟨h1, h2⟩ := tyV_is I1 r1 ty
  refine ⟨T, id, pa, slot, hty, h1, h2, ?_⟩
  have hA := ha.run cpos pins s1 σ H1 _ I1 q1
  rw [hs] at hA ⊢
  refine Calls.callWith_builtin (by show (false || (backTo cpos (starEach es X.env)).any (·.1)) = false; rw [hplain] <;> rfl) (Calls.evalArgs_plain ?_)
  exact thn hA fun us s2 ⟨vs, H2, I2, r2, q2⟩ => hm pins s2 σ H2 x vs v us Q I2 r1 r2 q2
end
theorem joinL_eq (S : Tx) : ∀ ys : List Tx, joinL S ys = joinT S ys
  | [] => rfl
  | [_] => rfl
  | x :: y :: r => by show x ++ (S ++ joinL S (y :: r)) = x ++ (S ++ joinT S (y :: r)); rw [joinL_eq S (y :: r)]
theorem tl_mk (a : Tx) : tl (⟨a.toArray⟩ : Str) = a := by simp [tl]
theorem mk_eq {x : Str} {a : Tx} (h : tl x = a) : x = ⟨a.toArray⟩ := ext_tl (by rw [h, tl_mk])
theorem join_tx (sep : Tx) (ys : List Tx) : Txt.join ⟨sep.toArray⟩ (ys.map fun z => (⟨z.toArray⟩ : Str)) = ⟨(joinT sep ys).toArray⟩ := by
  refine mk_eq ?_
  rw [join_eq, tl_join, tl_mk, List.map_map, ← joinL_eq]
  congr 1
  conv => rhs; rw [← List.map_id ys]
  exact List.map_congr_left fun z _ => tl_mk z
theorem idx_is {a : Tx} {n i : Nat} (h : a[i]? = some n) (hn : ∀ k, k < i → a[k]? ≠ some n) : i = a.idxOf n := by
  induction a generalizing i with
  | nil => simp at h
  | cons x r ih =>
    cases i with
    | zero => simp at h; subst h; simp
    | succ i =>
      have hx : x ≠ n := fun e => hn 0 (Nat.succ_pos _) (by simp [e])
      rw [List.idxOf_cons]
      rw [beq_eq_false_iff_ne.mpr hx]
      show i + 1 = r.idxOf n + 1
      rw [ih (i := i) (by simpa using h) fun k hk => by have := hn (k + 1) (Nat.succ_lt_succ hk); simpa using this]
theorem occ_idx {a : Tx} {n : Nat} (h : n ∈ a) : ∃ rest, Builtin.Str.occurrences ⟨a.toArray⟩ ⟨#[n]⟩ 0 (⟨a.toArray⟩ : Str).length 1 = a.idxOf n :: rest := by
  have at_iff' : ∀ i, StrLaws.At ⟨a.toArray⟩ ⟨#[n]⟩ (⟨a.toArray⟩ : Str).length i ↔ a[i]? = some n := fun i => by
    have := StrLaws.subAt_one ⟨a.toArray⟩ n i
    unfold StrLaws.At
    simpa using this
  rcases StrLaws.occ_head ⟨a.toArray⟩ ⟨#[n]⟩ 1 (Nat.le_refl _) with ⟨_, hn⟩ | ⟨i, r, e, hi, hn⟩
  · obtain ⟨i, hi⟩ := List.getElem?_of_mem h
    exact absurd ((at_iff' i).mpr hi) (hn i)
  · refine ⟨r, ?_⟩
    rw [e, idx_is ((at_iff' i).mp hi) fun k hk z => hn k hk ((at_iff' k).mpr z)]
theorem spl_one (c : Nat) : ∀ (x acc : Tx), spl [c] 0 acc x = match splitT c x with | p :: q => (acc ++ p) :: q | [] => [acc]
  | [], acc => by simp [spl, splitT]
  | d :: r, acc => by
    have ih := spl_one c r
    have hp : pre [c] (d :: r) = (d == c) := by simp [pre]
    unfold spl splitT
    rw [hp]
    by_cases h : d = c
    · subst h
      simp only [beq_self_eq_true, if_true]
      show acc :: spl [d] 0 [] r = _
      rw [ih []]
      cases e : splitT d r with
      | nil => simp [e]; cases r <;> simp [splitT] at e <;> (try split at e) <;> (try cases e) <;> (split at e <;> cases e)
      | cons p q => simp
    · rw [beq_eq_false_iff_ne.mpr h, if_neg (by simp), if_neg h, ih]
      cases e : splitT c r with
      | nil => simp
      | cons p q => simp
theorem split_tx {a : Tx} {c : Nat} (hc : c < 256) : Txt.split ⟨a.toArray⟩ ⟨#[c]⟩ = (splitT c a).map fun z => (⟨z.toArray⟩ : Str) := by
  have h := split_spl ⟨a.toArray⟩ ⟨#[c]⟩ (by simp [tl]) (kind_ok (by simp [hc]))
  have e1 : tl (⟨#[c]⟩ : Str) = [c] := by simp [tl]
  rw [e1, tl_mk, spl_one] at h
  have h2 : (Txt.split ⟨a.toArray⟩ ⟨#[c]⟩).map tl = splitT c a := by
    rw [h]
    cases e : splitT c a with
    | nil => cases a <;> simp [splitT] at e <;> (try split at e) <;> (try cases e) <;> (split at e <;> cases e)
    | cons p q => simp
  rw [← h2, List.map_map]
  conv => lhs; rw [← List.map_id (Txt.split ⟨a.toArray⟩ ⟨#[c]⟩)]
  exact List.map_congr_left fun z _ => mk_eq rfl
def mrName : Mr → Str
  | .join => "join" | .index => "index" | .indexT => "index" | .split => "split" | .upper => "upper" | _ => "?"
def rJoin (K : Frag) : V → List V → Hp → VK → Prop := fun x xs H Q => ∃ a p, ∃ ys : List Str, x = .str a ∧ xs = [.ref p] ∧ (SqL K H p (ys.map V.str) ∨ SqT K H p (ys.map V.str)) ∧ (ys.map (·.length)).sum + ys.length * a.length ≤ 16777216 ∧ Q (.str (Txt.join a ys)) H
def rSIdx : V → List V → Hp → VK → Prop := fun x xs H Q => ∃ a b i rest, x = .str a ∧ xs = [.str b] ∧ Builtin.Str.occurrences a b 0 a.length 1 = i :: rest ∧ Q (.int (i : Nat)) H
def rTIdx (K : Frag) : V → List V → Hp → VK → Prop := fun x xs H Q => ∃ p, ∃ ys : List Str, ∃ z j, x = .ref p ∧ xs = [.str z] ∧ SqT K H p (ys.map V.str) ∧ ys[j]? = some z ∧ (∀ m, m < j → ys[m]? ≠ some z) ∧ Q (.int (j : Nat)) H
def rSplit : V → List V → Hp → VK → Prop := fun x xs H Q => ∃ a b, x = .str a ∧ xs = [.str b] ∧ (b.length == 0) = false ∧ a.length + 2 ≤ sizeLine ∧ rNewStrs (Txt.split a b) H Q
def rUpper : V → List V → Hp → VK → Prop := fun x xs H Q => ∃ a, x = .str a ∧ xs = [] ∧ a.length ≤ 5592405 ∧ Q (.str (Txt.upper a)) H
theorem alt_upper {X : Cx} : Alt X "upper" "str" rUpper := ⟨_, PySem.F.plainAttrs_str, PySem.F.slot_str_upper, PySem.F.type_str_upper, mt_upper⟩
theorem upperOf_asc : ∀ c : Nat, c < 128 → Unicode.upperOf c = [upC c] := by decide +kernel
theorem upper_tx {x : Tx} (h : ∀ c ∈ x, c < 128) : Txt.upper ⟨x.toArray⟩ = ⟨(x.map upC).toArray⟩ := by
  have e : ∀ (l : List Nat) (k : Nat), (∀ c ∈ l, c < 128) → (l.map (fun c => Unicode.upperOf c)).flatten = l.map upC := by
    intro l
    induction l with
    | nil => intro _ _; rfl
    | cons c l ih =>
      intro k hl
      rw [List.map_cons, List.flatten_cons, upperOf_asc c (hl c List.mem_cons_self), List.map_cons, ih k fun y hy => hl y (List.mem_cons_of_mem _ hy)]
      rfl
  show (⟨placed _ _⟩ : Str) = _
  unfold placed
  congr 1
  apply Array.ext'
  simp
  rw [← e x 0 h]
  have m : ∀ l : List Nat, (l.mapIdx fun _ c => (Unicode.upperOf c).toArray) = l.map fun c => (Unicode.upperOf c).toArray := by
    intro l
    induction l with
    | nil => rfl
    | cons c l ih => rw [List.mapIdx_cons, ih]; rfl
  rw [m, List.map_map]
  rfl
theorem alt_join {X : Cx} : Alt X "join" "str" (rJoin X.K) := ⟨_, PySem.F.plainAttrs_str, PySem.F.slot_str_join, PySem.F.type_str_join, mt_join⟩
theorem alt_sidx {X : Cx} : Alt X "index" "str" rSIdx := ⟨_, PySem.F.plainAttrs_str, PySem.F.slot_str_index, PySem.F.type_str_index, mt_sindex⟩
theorem alt_tidx {X : Cx} : Alt X "index" "tuple" (rTIdx X.K) := ⟨_, PySem.F.plainAttrs_tuple, PySem.F.slot_tuple_index, PySem.F.type_tuple_index, mt_tup_index⟩
theorem alt_split {X : Cx} : Alt X "split" "str" rSplit := ⟨_, PySem.F.plainAttrs_str, PySem.F.slot_str_split, PySem.F.type_str_split, mt_split⟩
def mrTy : Mr → D → String
  | .index, .lst _ _ => "list"
  | .indexT, _ => "tuple"
  | _, _ => "str"
def mrRu (K : Frag) : Mr → D → V → List V → Hp → VK → Prop
  | .join, _ => rJoin K
  | .indexT, _ => rTIdx K
  | .index, .lst _ _ => rIndex K
  | .index, _ => rSIdx
  | .split, _ => rSplit
  | .upper, _ => rUpper
  | _, _ => fun _ _ _ _ => False
theorem alt_lidx {X : Cx} : Alt X "index" "list" (rIndex X.K) := ⟨_, PySem.F.plainAttrs_list, PySem.F.slot_list_index, PySem.F.type_list_index, mt_index⟩
theorem alt_mr {X : Cx} {m : Mr} {x : D} (h : mrOk m x = true) : Alt X (mrName m) (mrTy m x) (mrRu X.K m x) := by
  cases m <;> cases x <;> first | (cases h; done) | exact alt_join | exact alt_sidx | exact alt_tidx | exact alt_split | exact alt_lidx | exact alt_upper
section
variable {c : Cg} {σ : LSt} {B H : Hp} {φ : Fp} {α : List Addr} {env : Env} {st : Stt} {K : D → Prop} {Q : VK}
theorem sgW_inv' {a : Tx} {K : Nat → Prop} (h : sgW a K) : ∃ n, a = [n] ∧ K n := by
  unfold sgW at h
  split at h
  · exact ⟨_, rfl, h⟩
  · exact h.elim
theorem idx_tx {ys : List Tx} {b : Tx} (h : b ∈ ys) : (ys.map fun z => (⟨z.toArray⟩ : Str))[ys.idxOf b]? = some ⟨b.toArray⟩ ∧ ∀ m, m < ys.idxOf b → (ys.map fun z => (⟨z.toArray⟩ : Str))[m]? ≠ some ⟨b.toArray⟩ := by
  have hl := List.idxOf_lt_length_of_mem h
  refine ⟨by rw [List.getElem?_map, List.getElem?_eq_getElem hl, List.getElem_idxOf hl]; rfl, fun m hm e => ?_⟩
  rw [List.getElem?_map] at e
  obtain ⟨z, hz, e⟩ := Option.map_eq_some_iff.mp e
  have ez : z = b := by injection e with e; simpa using congrArg Array.toList e
  subst ez
  have hm' : m < ys.length := (List.getElem?_eq_some_iff.mp hz).1
  have := List.not_of_lt_findIdx (p := (· == z)) (xs := ys) (i := m) hm
  rw [(List.getElem?_eq_some_iff.mp hz).2] at this
  simp at this
theorem mr_ok {m : Mr} {x : D} {v : V} {f : List Addr} {ds : List D} {vs : List V} (W : Wd c.K B H σ α φ env st) (rx : Rep c.K B H α x v f) (r : RdL c.K B H α ds vs) (w : mrW m x ds K) (out : OutOk c σ B H φ α env st K Q) : mrRu c.K m x v vs H Q := by
  unfold mrW at w
  split at w
  · obtain ⟨rfl, _⟩ := rx
    obtain ⟨u, g, rfl, r1⟩ := r.one
    obtain ⟨ys, e, hl, k⟩ := ssW_inv w
    obtain ⟨a, ws, g', rfl, h, r2, _⟩ := Rep.lst' (c := c) r1 W.le
    rw [strs_map e] at r2
    obtain rfl := RepL.strs ys r2
    refine ⟨_, a, ys.map fun z => (⟨z.toArray⟩ : Str), rfl, rfl, .inl ?_, ?_, ?_⟩
    · rw [List.map_map]; exact .of h
    · rw [List.map_map, List.length_map]
      have e2 : (ys.map ((fun x : Str => x.length) ∘ fun z : Tx => (⟨z.toArray⟩ : Str))) = ys.map List.length := List.map_congr_left fun z _ => tx_len z
      rw [e2, tx_len]; exact hl
    · rw [join_tx]; exact out.flat W k ⟨rfl, rfl⟩
  · obtain ⟨rfl, _⟩ := rx
    obtain ⟨u, g, rfl, rfl, _⟩ := r.one
    obtain ⟨n, rfl, hn, k⟩ := sgW_inv' w
    obtain ⟨rest, e⟩ := occ_idx hn
    exact ⟨_, _, _, rest, rfl, rfl, e, out.flat W k ⟨rfl, rfl⟩⟩
  · obtain ⟨u, g, rfl, rfl, _⟩ := r.one
    obtain ⟨ys, e, hb, k⟩ := ssW_inv w
    obtain ⟨a, ws, rfl, h, r2⟩ := rx
    rw [strs_map e] at r2
    obtain rfl := RepL.strs ys r2
    obtain ⟨h1, h2⟩ := idx_tx hb
    refine ⟨a, ys.map fun z => (⟨z.toArray⟩ : Str), _, _, rfl, rfl, ?_, h1, h2, out.flat W k ⟨rfl, rfl⟩⟩
    rw [List.map_map]
    exact (TAt.le W.le h).sq
  · obtain ⟨u, g, rfl, r1⟩ := r.one
    obtain ⟨hs, w⟩ := w
    rw [Bool.and_eq_true_iff] at hs
    obtain ⟨j, hj, k⟩ := natW_inv w
    obtain ⟨a, ws, g', rfl, h, r2, _⟩ := Rep.lst' (c := c) rx W.le
    obtain ⟨h1, _⟩ := rep_any r1 hs.1 _ _ _ r2 hs.2
    obtain ⟨d1, d2, d3⟩ := List.findIdx?_eq_some_iff_getElem.mp hj
    obtain ⟨z, g2, hz, rz, _⟩ := RepL.get r2 (List.getElem?_eq_getElem d1)
    refine ⟨a, ws, u, j, z, rfl, rfl, .of h, rep_flat r1 hs.1, h1, hz, ?_, fun m z' hm hz' => ?_, out.flat W k ⟨rfl, rfl⟩⟩
    · rw [rep_eqV rz r1 (List.all_eq_true.mp hs.2 _ (List.getElem_mem d1)) hs.1]; exact d2
    · have hml := Nat.lt_trans hm d1
      obtain ⟨z2, g3, hz2, rz2, _⟩ := RepL.get r2 (List.getElem?_eq_getElem hml)
      rw [hz'] at hz2; cases hz2
      rw [rep_eqV rz2 r1 (List.all_eq_true.mp hs.2 _ (List.getElem_mem hml)) hs.1]
      have := d3 m hm
      simpa using this
  · obtain ⟨rfl, _⟩ := rx
    obtain ⟨u, g, rfl, rfl, _⟩ := r.one
    obtain ⟨n, rfl, ⟨hn, hl⟩, k⟩ := sgW_inv' w
    refine ⟨_, _, rfl, rfl, rfl, by rw [tx_len]; exact hl, fun p hp => ?_⟩
    rw [split_tx hn, List.map_map]
    exact out.newL W k (strs_repL _) hp
  · obtain ⟨rfl, _⟩ := rx
    obtain ⟨ha, k⟩ := w
    rw [Bool.and_eq_true_iff, decide_eq_true_eq] at ha
    obtain rfl : vs = [] := r
    refine ⟨_, rfl, rfl, by rw [tx_len]; omega, ?_⟩
    rw [upper_tx fun c m => of_decide_eq_true (List.all_eq_true.mp ha.1 c m)]
    exact out.flat W k ⟨rfl, rfl⟩
  · exact w.elim
end
section
variable {X : Cx} {c : Cg} {o e : Expr} {es : List Expr} {io : IE} {ies : List IE} {pos apos : Pos} {m : Mr}
/-- the call's base is the object alone -/
def plainBase : Expr → Bool
  | .Call (.Name _ _) _ _ _ => false
  | _ => true
theorem base_ok (h : plainBase o = true) (name : Str) (env : PySem.Env) (w : Sem Value) : attributeBase o name env w = w := by
  unfold attributeBase
  cases o with
  | Call f es kws p => cases f <;> first | rfl | (cases h; done)
  | _ => rfl
theorem mr_ty (hK : X.K = c.K) {x : D} {v : V} {f : List Addr} {B H : Hp} {σ : LSt} {φ : Fp} {α : List Addr} {env : Env} {st : Stt} (W : Wd c.K B H σ α φ env st) (hm : m ≠ .indexT) (h : mrOk m x = true) (r : Rep c.K B H α x v f) : tyV X.K (mrTy m x) v H := by
  rw [hK]
  cases m <;> first | (exact absurd rfl hm) | skip
  all_goals cases x <;> first | (cases h; done) | skip
  all_goals first
    | (rw [r.1]; rfl)
    | (obtain ⟨a, ws, g', rfl, h, r2, _⟩ := Rep.lst' (c := c) r W.le
       exact .inl ⟨rfl, ws, .of h⟩)
theorem mr_ev (hK : X.K = c.K) (hm : m ≠ .indexT) {σ : LSt} {H : Hp} {Q : VK} (h : TE_ c (.mr m io ies) σ H Q) : tBMD X (mrName m) (TR_ c io) (TRs_ c ies) σ H Q := by
  obtain ⟨B, φ, α, env, st, Kk, Xk, W, w, p, x⟩ := h
  refine ⟨B, φ, α, env, st, _, Xk, W, w, fun d e1 s1 ⟨⟨hs, ok⟩, k⟩ v B1 H1 φ1 α1 f W1 s r hv => ?_, x⟩
  refine ⟨_, _, alt_mr ok, mr_ty hK W1 hm ok r, B1, φ1, α1, e1, s1, _, Xk, W1, k, fun ds e2 s2 k2 vs B2 H2 φ2 α2 W2 s' r' => ?_, x.step s⟩
  rw [hK]
  have r2 : ∃ g, Rep c.K B2 H2 α2 d v g := by
    unfold stays at hs
    cases hva : isVar io with
    | false =>
      rw [hv hva] at r
      exact ⟨_, Rep.ext s'.mono s'.pre d v [] (fun _ m => nomatch m) r⟩
    | true =>
      rw [hva] at hs
      rcases Bool.or_eq_true_iff.mp hs with hs | hs
      · rw [Bool.not_true, Bool.false_or] at hs
        have := Rep.nf d v f hs r
        subst this
        exact ⟨_, Rep.ext s'.mono s'.pre d v [] (fun _ m => nomatch m) r⟩
      · exact ⟨_, Rep.ext s'.mono s'.pre d v f (fun a _ o e => s'.same hs a o e) r⟩
  obtain ⟨g, r2⟩ := r2
  exact mr_ok W2 r2 r' k2 (OutOk.of ((s.trans s').weak (q2 := false) fun h => nomatch h) p)
theorem sE_mr (hK : X.K = c.K) (hm : m ≠ .indexT) (ho : PE X o (TR_ c io)) (ha : PA X (e :: es) (TRs_ c ies)) (hb : plainBase o = true)
    (hfew : ((backTo pos (starEach (e :: es) X.env)).all (fun x => !x.1) && (backToKw pos (keywordEach [] X.env)).all (fun x => x.1.isSome)
      && decide ((e :: es).length + ([] : List Keyword).length + (if ([] : List Keyword).isEmpty then 0 else 1) < 30)) = true)
    (hline : (apos.endLine == pos.line) = true) (hs : starEach (e :: es) X.env = (false, eval e X.env) :: starEach es X.env) (hplain : (backTo pos (starEach es X.env)).any (·.1) = false) :
    PE X (.Call (.Attribute o (mrName m) apos) (e :: es) [] pos) (TE_ c (.mr m io ies)) :=
  PE.imp (pe_bmD ho ha (base_ok hb _ _ _) hfew hline hs hplain) fun σ H Q h => mr_ev hK hm h
theorem sE_mr0 (hK : X.K = c.K) (hm : m ≠ .indexT) (ho : PE X o (TR_ c io)) (hb : plainBase o = true) (hline : (apos.endLine == pos.line) = true) :
    PE X (.Call (.Attribute o (mrName m) apos) [] [] pos) (TE_ c (.mr m io [])) :=
  PE.imp (pe_bmD0 ho (base_ok hb _ _ _) hline) fun σ H Q h => by
    obtain ⟨B, φ, α, env, st, Kk, Xk, W, w, p, x⟩ := mr_ev hK hm h
    refine ⟨B, φ, α, env, st, Kk, Xk, W, w, fun d e1 s1 k v B1 H1 φ1 α1 f W1 s r hv => ?_, x⟩
    obtain ⟨T, r, A, ty, B2, φ2, α2, e2, s2, K2, X2, W2, w2, p2, x2⟩ := p d e1 s1 k v B1 H1 φ1 α1 f W1 s r hv
    exact ⟨T, r, A, ty, p2 [] e2 s2 w2 [] B2 H1 φ2 α2 W2 Stp.refl rfl⟩
/-- index of a tuple of the module's -/
theorem sE_mrT {xs : List D} {v : V} (hK : X.K = c.K) (ho : PE X o (tC v)) (hr : ∀ B H α, Rep c.K B H α (.tup xs) v []) (ha : PA X (e :: es) (TRs_ c ies)) (hb : plainBase o = true)
    (hfew : ((backTo pos (starEach (e :: es) X.env)).all (fun x => !x.1) && (backToKw pos (keywordEach [] X.env)).all (fun x => x.1.isSome)
      && decide ((e :: es).length + ([] : List Keyword).length + (if ([] : List Keyword).isEmpty then 0 else 1) < 30)) = true)
    (hline : (apos.endLine == pos.line) = true) (hs : starEach (e :: es) X.env = (false, eval e X.env) :: starEach es X.env) (hplain : (backTo pos (starEach es X.env)).any (·.1) = false) :
    PE X (.Call (.Attribute o "index" apos) (e :: es) [] pos) (TE_ c (.mr .indexT (.con (.tup xs)) ies)) :=
  PE.imp (pe_bmD ho ha (base_ok hb _ _ _) hfew hline hs hplain) fun σ H Q h => by
    obtain ⟨B, φ, α, env, st, Kk, Xk, W, w, p, x⟩ := h
    have w : (stays (.con (.tup xs)) (fz (.tup xs)) (quietL ies) ∧ mrOk .indexT (fz (.tup xs)) = true) ∧ wRs c.F ies env st (fun ds e2 s2 => mrW .indexT (fz (.tup xs)) ds fun z => Kk z e2 s2) Xk := w
    obtain ⟨a, vs, rfl, hq, _⟩ := hr (fun _ => none) (fun _ => none) []
    rcases hq with hq | ⟨ob, its, n, h1, h2, h3, _⟩
    · cases hq
    refine ⟨_, _, alt_mr (m := .indexT) (x := .tup xs) rfl, ?_, B, φ, α, env, st, _, Xk, W, w.2, fun ds e2 s2 k2 us B2 H2 φ2 α2 W2 s' r' => ?_, x⟩
    · rw [hK]; exact .inr (.inl ⟨rfl, ob, h1, h2, h3⟩)
    · rw [hK]
      have r0 := Rep.fz (HLe.refl B2) (.tup xs) (.ref a) [] (fun _ m => nomatch m) (hr B2 H2 α2) (H' := H2)
      show mrRu c.K .indexT (fz (.tup xs)) _ _ _ _
      exact mr_ok (m := .indexT) W2 r0 r' k2 (OutOk.of ((Stp.refl.trans s').weak (q2 := false) fun h => nomatch h) p)
end
end Ev

namespace Ev
open PySem PySem.Spec PyProof.Rows L2
section
variable {X : Cx} {c : Cg}
structure PostS (c : Cg) (B H : Hp) (φ : Fp) (α : List Addr) (Q : Kn) (D : Ends) : Prop where
  nx : ∀ env' st', Q.nx env' st' → ∀ σ' B' H' φ' α', Wd c.K B' H' σ' α' φ' env' st' → Stp false B H φ α B' H' φ' α' → D.nx σ' H'
  bk : ∀ env' st', Q.bk env' st' → ∀ σ' B' H' φ' α', Wd c.K B' H' σ' α' φ' env' st' → Stp false B H φ α B' H' φ' α' → D.bk σ' H'
  ct : ∀ env' st', Q.ct env' st' → ∀ σ' B' H' φ' α', Wd c.K B' H' σ' α' φ' env' st' → Stp false B H φ α B' H' φ' α' → D.ct σ' H'
  rt : ∀ d st', Q.rt d st' → ∀ v B' H' φ' α' f, Wd c.K B' H' [] α' φ' [] st' → Stp false B H φ α B' H' φ' α' → Tmp c.K B H φ B' H' φ' α' d v f → D.rt v H'
  ex : ∀ σ', PostX c σ' B H φ α Q.ex
def TS_ (c : Cg) (i : IS) : TS := fun D σ H => ∃ B φ α env st Q, Wd c.K B H σ α φ env st ∧ wS c.F i env st Q ∧ PostS c B H φ α Q D
def TSs_ (c : Cg) (is : List IS) : TS := fun D σ H => ∃ B φ α env st Q, Wd c.K B H σ α φ env st ∧ wSs c.F is env st Q ∧ PostS c B H φ α Q D
theorem PS.imp {s : Stmt} {t t' : TS} (h : PS X s t) (i : ∀ D σ H, t' D σ H → t D σ H) : PS X s t' := ⟨fun pins s σ H D I w => h.run pins s σ H D I (i D σ H w)⟩
theorem PSs.imp {s : List Stmt} {t t' : TS} (h : PSs X s t) (i : ∀ D σ H, t' D σ H → t D σ H) : PSs X s t' := ⟨fun pins s σ H D I w => h.run pins s σ H D I (i D σ H w)⟩
theorem PostS.step {B H B1 H1 : Hp} {φ φ1 : Fp} {α α1 : List Addr} {Q : Kn} {D : Ends} {q : Bool} (p : PostS c B H φ α Q D) (s : Stp q B H φ α B1 H1 φ1 α1) : PostS c B1 H1 φ1 α1 Q D where
  nx := fun e st k σ' B' H' φ' α' W s' => p.nx e st k σ' B' H' φ' α' W ((s.trans s').weak fun h => nomatch h)
  bk := fun e st k σ' B' H' φ' α' W s' => p.bk e st k σ' B' H' φ' α' W ((s.trans s').weak fun h => nomatch h)
  ct := fun e st k σ' B' H' φ' α' W s' => p.ct e st k σ' B' H' φ' α' W ((s.trans s').weak fun h => nomatch h)
  rt := fun d st k v B' H' φ' α' f W s' t => p.rt d st k v B' H' φ' α' f W ((s.trans s').weak fun h => nomatch h) (t.back s)
  ex := fun σ' => (p.ex σ').step s
theorem ss_nil : PSs X [] (TSs_ c []) := PSs.imp pss_nil fun D σ H => by
  rintro ⟨B, φ, α, env, st, Q, W, w, p⟩
  exact p.nx env st w σ B H φ α W (Stp.refl.weak fun h => nomatch h)
theorem ss_cons {s : Stmt} {ss : List Stmt} {i : IS} {is : List IS} (h : PS X s (TS_ c i)) (h' : PSs X ss (TSs_ c is)) : PSs X (s :: ss) (TSs_ c (i :: is)) := PSs.imp (pss_cons h h') fun D σ H => by
  rintro ⟨B, φ, α, env, st, Q, W, w, p⟩
  exact ⟨B, φ, α, env, st, { Q with nx := fun e s => wSs c.F is e s Q }, W, w, { p with nx := fun e s k σ' B' H' φ' α' W' s' => ⟨B', φ', α', e, s, Q, W', k, p.step s'⟩ }⟩
theorem Wd.gone {K : Frag} {B H : Hp} {σ : LSt} {α : List Addr} {φ : Fp} {env : Env} {st : Stt} (W : Wd K B H σ α φ env st) : Wd K B H [] α (cellsF φ) [] st where
  le := W.le
  len := rfl
  slot := fun i d e => by simp at e
  bare := fun i h => rfl
  clen := W.clen
  cell := W.cell
  cbare := W.cbare
  nd := fun w => by cases w with
    | inl i => exact List.nodup_nil
    | inr k => exact W.nd _
  dj := fun w w' hw a m => by
    cases w with
    | inl i => cases m
    | inr k => cases w' with
      | inl i => exact fun m => nomatch m
      | inr k' => exact W.dj _ _ hw a m
  out := fun w a m => by
    cases w with
    | inl i => cases m
    | inr k => exact W.out _ a m
theorem cells_sub {φ : Fp} {w : Ow} {a : Addr} (m : a ∈ cellsF φ w) : a ∈ φ w := by
  cases w with
  | inl i => cases m
  | inr k => exact m
theorem Stp.gone {B H B1 H1 : Hp} {φ φ1 : Fp} {α α1 : List Addr} {q : Bool} (s : Stp q B H φ α B1 H1 φ1 α1) : Stp q B H φ α B1 H1 (cellsF φ1) α1 :=
  ⟨s.frame, fun w a m => s.new w a (cells_sub m), s.bnew, s.mono, s.pre, s.same⟩
theorem Tmp.gone {K : Frag} {B H B1 H1 : Hp} {φ φ1 : Fp} {α1 : List Addr} {d : D} {v : V} {f : List Addr} (t : Tmp K B H φ B1 H1 φ1 α1 d v f) : Tmp K B H φ B1 H1 (cellsF φ1) α1 d v f :=
  ⟨t.rep, t.nd, t.out, fun a m w m' => t.free a m w (cells_sub m'), t.new⟩
variable {e : Expr} {ie : IE} {pos : Pos} {tg : Expr}
/-- name(s) = e -/
theorem asg_ev {t : Tg} {g : TG} {te : TE} (gk : GOk c t g) (he : ∀ σ H Q, TE_ c ie σ H Q → te σ H Q) {D : Ends} {σ : LSt} {H : Hp} (h : TS_ c (.asg t ie) D σ H) : tAsg te g D σ H := by
  obtain ⟨B, φ, α, env, st, Q, W, w, p⟩ := h
  refine he _ _ _ ⟨B, φ, α, env, st, _, _, W, w, fun d e1 s1 k v B1 H1 φ1 α1 f W1 s tt => ?_, p.ex σ⟩
  obtain ⟨e2, h2, k⟩ := onE_inv k
  exact gk h2 W1 (s.weak (q2 := false) fun h => nomatch h) tt fun σ2 φ2 H2 W2 s2 _ _ _ _ => p.nx _ _ k _ _ _ _ _ W2 s2
theorem ss_asg {t : Tg} {g : TG} (he : PE X e (TE_ c ie)) (hg : PG X tg g) (gk : GOk c t g) (hs : swapsWithSole [tg] e pos.line X.env = pure false) (hw : swappedStores [tg] e X.env = pure none)
    (h1 : (assignEach [tg] X.env).map (·.2) = [assign tg X.env]) : PS X (.Assign [tg] e pos) (TS_ c (.asg t ie)) := PS.imp (ps_asg he hg hs hw h1) fun D σ H h => asg_ev gk (fun _ _ _ h => h) h
theorem ss_set {i : Nat} {x : Str} {pos' : Pos} (hN : X.N.Nodup) (hi : X.N[i]? = some x) (hx : Loc X.env.scope x) (he : PE X e (TE_ c ie)) (hs : swapsWith e (some (.Name x pos')) pos.line X.env = pure false) (hf : X.fn x = true ∨ X.env.scope.names.lookup x = some .local) :
    PS X (.Assign [.Name x pos'] e pos) (TS_ c (.asg (.nm i) ie)) := PS.imp (ps_set hN hi hx he hs hf) fun D σ H h => asg_ev g_nm (fun _ _ _ h => h) h
/-- a, b = e, e' -/
theorem par_ev {ts : List Tg} {gs : TGs} {ies : List IE} (gk : GsOk c ts gs) {D : Ends} {σ : LSt} {H : Hp} (h : TS_ c (.asg (.tup ts) (.tup ies)) D σ H) : TAs_ c ies σ H fun vs H1 => gs vs σ H1 D.nx := by
  obtain ⟨B, φ, α, env, st, Q, W, w, p⟩ := h
  refine ⟨B, φ, α, env, st, _, _, W, w, fun ds e1 s1 k vs B1 H1 φ1 α1 f W1 s tt => ?_, p.ex σ⟩
  obtain ⟨_, k⟩ := k
  obtain ⟨e2, h2, k⟩ := onE_inv k
  exact gk h2 W1 (s.weak (q2 := false) fun h => nomatch h) tt fun σ2 φ2 H2 W2 s2 _ _ _ _ => p.nx _ _ k _ _ _ _ _ W2 s2
theorem ss_par {i j : Nat} {x y : Str} {a b : Expr} {ia ib : IE} {px py pt : Pos} {kt k2 pt2} (hc : X.calm = true) (hN : X.N.Nodup) (hi : X.N[i]? = some x) (hj : X.N[j]? = some y) (hij : i ≠ j)
    (hx : X.env.scope.names.lookup x = some .local) (hy : X.env.scope.names.lookup y = some .local) (ha : PA X [a, b] (TAs_ c [ia, ib]))
    (hw : swappedStores [.Tuple [.Name x px, .Name y py] kt pt] (.Tuple [a, b] k2 pt2) X.env = pure (some [x, y]))
    (hs : swapsWithSole [.Tuple [.Name x px, .Name y py] kt pt] (.Tuple [a, b] k2 pt2) pos.line X.env = pure false) :
    PS X (.Assign [.Tuple [.Name x px, .Name y py] kt pt] (.Tuple [a, b] k2 pt2) pos) (TS_ c (.asg (.tup [.nm i, .nm j]) (.tup [ia, ib]))) :=
  PS.imp (ps_par hc hN hi hj hij hx hy ha hw hs) fun D σ H h => by
    obtain ⟨B, φ, α, env, st, Kk, Xk, W, w, p, xx⟩ := par_ev (gs_cons g_nm (gs_cons g_nm gs_nil)) h
    refine ⟨B, φ, α, env, st, Kk, Xk, W, w, fun ds e1 s1 k vs B1 H1 φ1 α1 f W1 s tt => ?_, xx⟩
    obtain ⟨v, r, rfl, u, r', rfl, rfl, q⟩ := p ds e1 s1 k vs B1 H1 φ1 α1 f W1 s tt
    exact ⟨v, u, rfl, q⟩
theorem ss_par3 {i j l : Nat} {x y z : Str} {a b d : Expr} {ia ib id : IE} {px py pz pt : Pos} {kt k2 pt2} (hc : X.calm = true) (hN : X.N.Nodup) (hi : X.N[i]? = some x) (hj : X.N[j]? = some y) (hl : X.N[l]? = some z) (hij : i ≠ j) (hil : i ≠ l) (hjl : j ≠ l)
    (hx : X.env.scope.names.lookup x = some .local) (hy : X.env.scope.names.lookup y = some .local) (hz : X.env.scope.names.lookup z = some .local) (ha : PA X [a, b, d] (TAs_ c [ia, ib, id]))
    (hw : swappedStores [.Tuple [.Name x px, .Name y py, .Name z pz] kt pt] (.Tuple [a, b, d] k2 pt2) X.env = pure (some [x, y, z]))
    (hs : swapsWithSole [.Tuple [.Name x px, .Name y py, .Name z pz] kt pt] (.Tuple [a, b, d] k2 pt2) pos.line X.env = pure false) :
    PS X (.Assign [.Tuple [.Name x px, .Name y py, .Name z pz] kt pt] (.Tuple [a, b, d] k2 pt2) pos) (TS_ c (.asg (.tup [.nm i, .nm j, .nm l]) (.tup [ia, ib, id]))) :=
  PS.imp (ps_par3 hc hN hi hj hl hij hil hjl hx hy hz ha hw hs) fun D σ H h => by
    obtain ⟨B, φ, α, env, st, Kk, Xk, W, w, p, xx⟩ := par_ev (gs_cons g_nm (gs_cons g_nm (gs_cons g_nm gs_nil))) h
    refine ⟨B, φ, α, env, st, Kk, Xk, W, w, fun ds e1 s1 k vs B1 H1 φ1 α1 f W1 s tt => ?_, xx⟩
    obtain ⟨v, r, rfl, u, r', rfl, t, r'', rfl, rfl, q⟩ := p ds e1 s1 k vs B1 H1 φ1 α1 f W1 s tt
    exact ⟨v, u, t, rfl, q⟩
theorem ss_expr (he : PE X e (TE_ c ie)) (hs : swapsWith e none pos.line X.env = pure false) : PS X (.Expr e pos) (TS_ c (.expr ie)) := PS.imp (ps_expr he hs) fun D σ H => by
  rintro ⟨B, φ, α, env, st, Q, W, w, p⟩
  exact ⟨B, φ, α, env, st, _, _, W, w, fun d e1 s1 k v B1 H1 φ1 α1 f W1 s tt => p.nx _ _ k _ _ _ _ _ W1 (s.weak fun h => nomatch h), p.ex σ⟩
theorem ret_eq {F : FF} {e : IE} (h : isVar e = false) (env : Env) (st : Stt) (Q : Kn) : wS F (.ret e) env st Q = wE F e env st (fun d _ s1 => Q.rt d s1) Q.ex := by
  cases e <;> first | rfl | cases h
theorem ss_ret (hv : isVar ie = false) (he : PE X e (TE_ c ie)) : PS X (.Return (some e) pos) (TS_ c (.ret ie)) := PS.imp (ps_ret he) fun D σ H => by
  rintro ⟨B, φ, α, env, st, Q, W, w, p⟩
  rw [ret_eq hv] at w
  exact ⟨B, φ, α, env, st, _, _, W, w, fun d e1 s1 k v B1 H1 φ1 α1 f W1 s tt => p.rt _ _ k _ _ _ _ _ _ W1.gone (s.gone.weak fun h => nomatch h) tt.gone, p.ex σ⟩
theorem ss_retV {i : Nat} (he : PE X e (tVar i)) : PS X (.Return (some e) pos) (TS_ c (.ret (.var i))) := PS.imp (ps_ret he) fun D σ H => by
  rintro ⟨B, φ, α, env, st, Q, W, w, p⟩
  have w : onV (getV env i) fun d => Q.rt d st := w
  obtain ⟨d, hd, k⟩ := getV_some w
  obtain ⟨v, hv, r⟩ := W.slot i d hd
  refine ⟨v, hv, p.rt _ _ k v B H (cellsF φ) α _ W.gone (Stp.refl.gone.weak fun h => nomatch h) ⟨r, W.nd _, W.out _, fun a m w m' => ?_, fun a m => .inl ⟨_, m⟩⟩⟩
  cases w with
  | inl j => cases m'
  | inr k => exact W.dj (.inl i) (.inr k) (fun z => nomatch z) a m m'
theorem ss_retN : PS X (.Return none pos) (TS_ c .retN) := PS.imp ps_retN fun D σ H => by
  rintro ⟨B, φ, α, env, st, Q, W, w, p⟩
  exact p.rt _ _ w _ B H (cellsF φ) α [] W.gone (Stp.refl.gone.weak fun h => nomatch h) (Tmp.of_nil ⟨rfl, rfl⟩)
theorem ss_pass : PS X (.Pass pos) (TS_ c .pass) := PS.imp ps_pass fun D σ H => by
  rintro ⟨B, φ, α, env, st, Q, W, w, p⟩
  exact p.nx _ _ w _ B H φ α W (Stp.refl.weak fun h => nomatch h)
theorem ss_doc {x j pos pos'} : PS X (.Expr (.Constant (.str x) j pos) pos') (TS_ c .pass) := PS.imp ps_doc fun D σ H => by
  rintro ⟨B, φ, α, env, st, Q, W, w, p⟩
  exact p.nx _ _ w _ B H φ α W (Stp.refl.weak fun h => nomatch h)
theorem ss_bad {s : Stmt} : PS X s (TS_ c .bad) := PS.imp ps_never fun D σ H => by
  rintro ⟨B, φ, α, env, st, Q, W, w, p⟩
  exact w.elim
theorem ss_brk : PS X (.Break pos) (TS_ c .brk) := PS.imp ps_break fun D σ H => by
  rintro ⟨B, φ, α, env, st, Q, W, w, p⟩
  exact p.bk _ _ w _ B H φ α W (Stp.refl.weak fun h => nomatch h)
theorem ss_cont : PS X (.Continue pos) (TS_ c .cont) := PS.imp ps_continue fun D σ H => by
  rintro ⟨B, φ, α, env, st, Q, W, w, p⟩
  exact p.ct _ _ w _ B H φ α W (Stp.refl.weak fun h => nomatch h)
theorem ss_if {t : Expr} {it : IE} {a b : List Stmt} {ia ib : List IS} (ht : PT X t (TT_ c it)) (ha : PSs X a (TSs_ c ia)) (hb : PSs X b (TSs_ c ib)) : PS X (.If t a b pos) (TS_ c (.ite it ia ib)) := PS.imp (ps_if ht ha hb) fun D σ H => by
  rintro ⟨B, φ, α, env, st, Q, W, w, p⟩
  refine ⟨B, φ, α, env, st, _, _, W, w, fun b e1 s1 k B1 H1 φ1 α1 W1 s => ?_, p.ex σ⟩
  cases b with
  | true =>
    simp only [if_true] at k ⊢
    exact ⟨B1, φ1, α1, e1, s1, Q, W1, k, p.step s⟩
  | false =>
    simp only [Bool.false_eq_true, if_false] at k ⊢
    exact ⟨B1, φ1, α1, e1, s1, Q, W1, k, p.step s⟩
theorem aug_get {i : Nat} {o : Op2} {env : Env} {st : Stt} {Q : Kn} (w : wS c.F (.aug i o ie) env st Q) : ∃ a, env[i]? = some (some (.int a)) ∧ wR c.F ie env st (fun y e1 s1 => intW y fun b => augW o a b fun z => Q.nx (e1.set i (some (.int z))) s1) Q.ex := by
  have w : onV (getV env i) fun x => intW x fun a => wR c.F ie env st (fun y e1 s1 => intW y fun b => augW o a b fun z => Q.nx (e1.set i (some (.int z))) s1) Q.ex := w
  obtain ⟨d, hd, k⟩ := getV_some w
  obtain ⟨a, rfl, k⟩ := intW_inv k
  exact ⟨a, hd, k⟩
def augOf : Op2 → Operator := opOf
def augTI : Op2 → TIp
  | .add => ipI fun i j => i + j
  | .sub => ipI fun i j => i - j
  | .fdiv => fun x y H Q => ∃ i j, x = .int i ∧ y = .int j ∧ (0 < j ∧ j.natAbs.log2 < 9000) ∧ Q (.int (i / j)) H
  | _ => fun _ _ _ _ => False
theorem ip_fdiv : PIp X .FloorDiv (fun x y H Q => ∃ i j, x = .int i ∧ y = .int j ∧ (0 < j ∧ j.natAbs.log2 < 9000) ∧ Q (.int (i / j)) H) := by
  intro pins s σ H x y v u Q I r1 r2 h
  obtain ⟨i, j, e1, e2, hj, q⟩ := h
  subst e1; subst e2
  obtain ⟨t, rfl⟩ := r1
  obtain ⟨t', rfl⟩ := r2
  exact ifloordiv_int (by omega) ⟨.int _, H, I.tok _, ⟨_, by rw [Int.fdiv_eq_ediv_of_nonneg i (by omega)]⟩, q⟩ (.inl (PyProof.noPylong_of_log2 hj.2))
theorem ip_aug (o : Op2) : PIp X (opOf o) (augTI o) := by
  cases o with
  | add => exact ip_add
  | sub => exact ip_sub
  | fdiv => exact ip_fdiv
  | _ => exact fun _ _ _ _ _ _ _ _ _ _ _ _ h => h.elim
theorem ss_aug {i : Nat} {x : Str} {o : Op2} {pos' : Pos} (hN : X.N.Nodup) (hi : X.N[i]? = some x) (hx : Loc X.env.scope x) (he : PE X e (TR_ c ie)) (hf : X.fn x = true ∨ X.env.scope.names.lookup x = some .local) :
    PS X (.AugAssign (.Name x pos') (opOf o) e pos) (TS_ c (.aug i o ie)) := PS.imp (ps_aug hN hi hx he (ip_aug o) hf) fun D σ H => by
  rintro ⟨B, φ, α, env, st, Q, W, w, p⟩
  obtain ⟨a, ha, w⟩ := aug_get w
  obtain ⟨v, hv, rfl, hφ⟩ := W.slot i _ ha
  have hl : i < env.length := (List.getElem?_eq_some_iff.mp ha).1
  refine ⟨_, hv, B, φ, α, env, st, _, _, W, w, fun d e1 s1 k u B1 H1 φ1 α1 f W1 s r hf => ?_, p.ex σ⟩
  obtain ⟨b, rfl, k⟩ := intW_inv k
  obtain ⟨rfl, _⟩ := r
  have fin : ∀ z, Q.nx (e1.set i (some (.int z))) s1 → D.nx (σ.set i (some (.int z))) H1 := fun z k => by
    have t : Tmp c.K B H φ B1 H1 φ1 α1 (.int z) (.int z) [] := Tmp.of_nil ⟨rfl, rfl⟩
    exact p.nx _ _ k _ _ _ _ _ (W1.put (by rw [← W1.len, W.len]; exact hl) t) ((s.put t).weak fun h => nomatch h)
  cases o with
  | add => exact ⟨a, b, rfl, rfl, fin _ k⟩
  | sub => exact ⟨a, b, rfl, rfl, fin _ k⟩
  | fdiv => exact ⟨a, b, rfl, rfl, k.1, fin _ k.2⟩
  | _ => exact k.elim
theorem ss_for {ik : Ik} {its : List IE} {t : Tg} {g : TG} {iter : Expr} {body : List Stmt} {is : List IS} (hp : PassesOwn (model X.prog X.w) X.A X.env X.xe) (hc : X.calm = true) (hi : PI X tg iter (TI_ c ik its)) (hg : PG X tg g) (gk : GOk c t g) (hb : PSs X body (TSs_ c is))
    (hs : ∀ x, foldedSetIterable iter X.env x = pure x) : PS X (.For tg iter body [] pos) (TS_ c (.for_ ik its t is)) := PS.imp (ps_for hp hc hi hg hb hs) fun D σ H => by
  rintro ⟨B0, φ0, α0, env0, st0, Q, W0, w0, p0⟩
  refine ⟨B0, φ0, α0, env0, st0, _, _, W0, w0, fun xs e s k J B1 H1 φ1 α1 W1 s1 wk => ?_, p0.ex σ⟩
  have p1 := p0.step s1
  let Pv : Nat → LSt → Hp → Prop := fun i σ' H' => ∃ B φ α env st, Wd c.K B H' σ' α φ env st ∧ Stp false B1 H1 φ1 α1 B H' φ α ∧ forL (forB t fun e2 s2 Q2 => wSs c.F is e2 s2 Q2) (xs.drop i) env st Q
  refine ⟨fun i m σ' H' => m = xs.length - i ∧ i ≤ xs.length ∧ Pv i σ' H', ⟨_, rfl, Nat.zero_le _, B1, φ1, α1, e, s, W1, Stp.refl.weak (q2 := false) (fun h => nomatch h), k⟩, ?_⟩
  rintro i m σc Hc ⟨rfl, hi, B, φ, α, env, st, W, sp, fl⟩
  by_cases hlt : i < xs.length
  · refine .inr ⟨wk.goes i Hc hlt (sp.mono.trans W.le), Pv (i + 1), fun σ' H' p' => ⟨xs.length - (i + 1), by omega, rfl, hlt, p'⟩, fun x H' y => ?_⟩
    obtain ⟨d, B2, hd, W2, s2, r2⟩ := turn_in W wk sp.mono sp.pre hlt y
    rw [List.drop_eq_getElem_cons hlt, show xs[i] = d from Option.some.inj ((List.getElem?_eq_getElem hlt).symm.trans hd)] at fl
    have fl : onE (wTg t d env) fun e2 => wSs c.F is e2 st { Q with nx := fun e s => forL (forB t fun e2 s2 Q2 => wSs c.F is e2 s2 Q2) (xs.drop (i + 1)) e s Q, ct := fun e s => forL (forB t fun e2 s2 Q2 => wSs c.F is e2 s2 Q2) (xs.drop (i + 1)) e s Q, bk := Q.nx } := fl
    obtain ⟨e2, he2, fl⟩ := onE_inv fl
    have s12 := (sp.trans s2).weak (q2 := false) fun z => nomatch z
    refine gk he2 W2 s12 (Tmp.of_nil r2) fun σ2 φ2 H2 W3 s3 _ _ _ _ => ?_
    have p3 := p1.step s3
    refine ⟨B2, φ2, α, e2, st, _, W3, fl, { p3 with nx := fun e s k σ' B' H' φ' α' W' s' => ?_, ct := fun e s k σ' B' H' φ' α' W' s' => ?_, bk := p3.nx }⟩
    · exact ⟨B', φ', α', e, s, W', (s3.trans s').weak (q2 := false) (fun z => nomatch z), k⟩
    · exact ⟨B', φ', α', e, s, W', (s3.trans s').weak (q2 := false) (fun z => nomatch z), k⟩
  · have e' : i = xs.length := by omega
    subst e'
    refine .inl ⟨wk.stops Hc (sp.mono.trans W.le), ?_⟩
    rw [List.drop_length] at fl
    exact p1.nx _ _ fl _ _ _ _ _ W sp
theorem ss_while {t : Expr} {it : IE} {body : List Stmt} {is : List IS} (hp : PassesOwn (model X.prog X.w) X.A X.env X.xe) (ht : PT X t (TT_ c it)) (hb : PSs X body (TSs_ c is)) : PS X (.While t body [] pos) (TS_ c (.while_ it is)) := PS.imp (ps_while hp ht hb) fun D σ H => by
  rintro ⟨B0, φ0, α0, env0, st0, Q, W0, ⟨n0, w0⟩, p0⟩
  let Pv : Nat → LSt → Hp → Prop := fun n σ' H' => ∃ B φ α env st, Wd c.K B H' σ' α φ env st ∧ Stp false B0 H φ0 α0 B H' φ α ∧ whileL (fun e s K => wT c.F it e s K Q.ex) (fun e s Q1 => wSs c.F is e s Q1) Q n env st
  refine ⟨Pv, ⟨n0, B0, φ0, α0, env0, st0, W0, Stp.refl.weak (q2 := false) (fun h => nomatch h), w0⟩, ?_⟩
  rintro n σc Hc ⟨B, φ, α, env, st, W, sp, wl⟩
  cases n with
  | zero => exact wl.elim
  | succ n =>
    have p1 := p0.step sp
    have wl : wT c.F it env st (fun b e s => if b = true then wSs c.F is e s { Q with nx := whileL (fun e s K => wT c.F it e s K Q.ex) (fun e s Q1 => wSs c.F is e s Q1) Q n, ct := whileL (fun e s K => wT c.F it e s K Q.ex) (fun e s Q1 => wSs c.F is e s Q1) Q n, bk := Q.nx } else Q.nx e s) Q.ex := wl
    refine ⟨B, φ, α, env, st, _, _, W, wl, fun b e1 s1 k B1 H1 φ1 α1 W1 s => ?_, p1.ex σc⟩
    cases b with
    | false =>
      simp only [Bool.false_eq_true, if_false] at k ⊢
      exact p1.nx _ _ k _ _ _ _ _ W1 s
    | true =>
      simp only [if_true] at k ⊢
      have s2 := (sp.trans s).weak (q2 := false) fun z => nomatch z
      have p2 := p1.step s
      refine ⟨Pv n, fun σ' H' h => ⟨n, Nat.lt_succ_self n, h⟩, B1, φ1, α1, e1, s1, _, W1, k, { p2 with nx := fun e s k σ' B' H' φ' α' W' s' => ?_, ct := fun e s k σ' B' H' φ' α' W' s' => ?_, bk := p2.nx }⟩
      · exact ⟨B', φ', α', e, s, W', (s2.trans s').weak (q2 := false) (fun z => nomatch z), k⟩
      · exact ⟨B', φ', α', e, s, W', (s2.trans s').weak (q2 := false) (fun z => nomatch z), k⟩
end
end Ev

namespace Ev
open PySem PySem.Spec PyProof.Rows L2
theorem fIx_at {n : Nat} : ∀ {l : List Nat} {i : Nat}, fIx n l = some i → l[i]? = some n ∧ ∀ j, j < i → l[j]? ≠ some n
  | [], i, h => by cases h
  | m :: r, i, h => by
    unfold fIx at h
    split at h
    · rename_i e
      cases h
      exact ⟨by rw [e]; rfl, fun j hj => nomatch hj⟩
    · rename_i e
      obtain ⟨j, hj, rfl⟩ := Option.map_eq_some_iff.mp h
      obtain ⟨h1, h2⟩ := fIx_at hj
      refine ⟨by simpa using h1, fun q hq => ?_⟩
      cases q with
      | zero => intro z; exact e (by simpa using z.symm)
      | succ q => intro z; exact h2 q (by omega) (by simpa using z)
theorem fldN_inj {m n : Nat} (hm : m < fldT.length) (hn : n < fldT.length) (h : fldN m = fldN n) : m = n := by
  have nd : fldT.Nodup := by decide +kernel
  unfold fldN at h
  rw [List.getD_eq_getElem?_getD, List.getD_eq_getElem?_getD, List.getElem?_eq_getElem hm, List.getElem?_eq_getElem hn] at h
  have key : ∀ i (hi : i < fldT.length) j (hj : j < fldT.length), i < j → fldT[i] ≠ fldT[j] := fun i hi j hj l => (List.pairwise_iff_getElem.mp nd) i j hi hj l
  rcases Nat.lt_trichotomy m n with l | l | l
  · exact (key m hm n hn l h).elim
  · exact l
  · exact (key n hn m hm l h.symm).elim
theorem flds_lt : ∀ (c : Nat), ∀ n ∈ fldsOf c, n < fldT.length := by
  have h : (clsT.all fun i => i.flds.all fun n => decide (n < fldT.length)) = true := by decide +kernel
  intro c n m
  unfold fldsOf at m
  split at m
  · rename_i i e
    exact of_decide_eq_true (List.all_eq_true.mp (List.all_eq_true.mp h _ (List.mem_of_getElem? e)) n m)
  · cases m
theorem zip_look : ∀ {ns : List Nat} {vs : List V} {i n : Nat}, (∀ m ∈ ns, m < fldT.length) → fIx n ns = some i → ((ns.map fldN).zip vs).lookup (fldN n) = vs[i]?
  | [], vs, i, n, _, h => by cases h
  | m :: r, vs, i, n, hl, h => by
    cases vs with
    | nil => simp
    | cons v vs =>
      unfold fIx at h
      rw [List.map_cons, List.zip_cons_cons, List.lookup_cons]
      split at h
      · rename_i e
        cases h
        subst e
        simp
      · rename_i e
        obtain ⟨j, hj, rfl⟩ := Option.map_eq_some_iff.mp h
        have hn : n ∈ r := List.mem_of_getElem? (fIx_at hj).1
        have e2 : (fldN n == fldN m) = false := by
          rw [beq_eq_false_iff_ne]
          exact fun z => e (fldN_inj (hl _ (List.mem_cons_of_mem _ hn)) (hl _ List.mem_cons_self) z)
        rw [e2]
        exact zip_look (fun q hq => hl q (List.mem_cons_of_mem _ hq)) hj
theorem zipF_look {c n i : Nat} {vs : List V} (h : fldIx c n = some i) : (zipF c vs).lookup (fldN n) = vs[i]? := zip_look (flds_lt c) h
theorem zip_none {m : Str} : ∀ {ns : List Nat} {vs : List V}, (∀ n ∈ ns, fldN n ≠ m) → ((ns.map fldN).zip vs).lookup m = none
  | [], vs, _ => by simp
  | n :: r, [], _ => by simp
  | n :: r, v :: vs, h => by
    rw [List.map_cons, List.zip_cons_cons, List.lookup_cons]
    have e : (m == fldN n) = false := by rw [beq_eq_false_iff_ne]; exact fun z => h n List.mem_cons_self z.symm
    rw [e]
    exact zip_none fun q hq => h q (List.mem_cons_of_mem _ hq)
theorem zip_put : ∀ {ns : List Nat} {vs : List V} {i n : Nat} {v : V}, (∀ m ∈ ns, m < fldT.length) → fIx n ns = some i → i < vs.length → putF (fldN n) v ((ns.map fldN).zip vs) = (ns.map fldN).zip (vs.set i v)
  | [], vs, i, n, v, _, h, _ => by cases h
  | m :: r, vs, i, n, v, hl, h, hi => by
    cases vs with
    | nil => cases hi
    | cons u vs =>
      unfold fIx at h
      rw [List.map_cons, List.zip_cons_cons, putF]
      split at h
      · rename_i e
        cases h
        subst e
        rw [if_pos rfl]; rfl
      · rename_i e
        obtain ⟨j, hj, rfl⟩ := Option.map_eq_some_iff.mp h
        have hn : n ∈ r := List.mem_of_getElem? (fIx_at hj).1
        rw [if_neg fun z => e (fldN_inj (hl _ List.mem_cons_self) (hl _ (List.mem_cons_of_mem _ hn)) z).symm, zip_put (fun q hq => hl q (List.mem_cons_of_mem _ hq)) hj (by simpa using hi)]
        rfl
theorem zip_new : ∀ {ns : List Nat} {vs : List V} {n : Nat} {v : V}, (∀ m ∈ ns, m < fldT.length) → fIx n ns = some vs.length → putF (fldN n) v ((ns.map fldN).zip vs) = (ns.map fldN).zip (vs ++ [v])
  | [], vs, n, v, _, h => by cases h
  | m :: r, vs, n, v, hl, h => by
    cases vs with
    | nil =>
      unfold fIx at h
      split at h
      · rename_i e; subst e; rw [List.zip_nil_right]; simp [putF]
      · obtain ⟨j, _, z⟩ := Option.map_eq_some_iff.mp h; cases z
    | cons u vs =>
      unfold fIx at h
      rw [List.map_cons, List.zip_cons_cons, putF]
      split at h
      · rename_i e; cases h
      · rename_i e
        obtain ⟨j, hj, z⟩ := Option.map_eq_some_iff.mp h
        have z : j = vs.length := by simpa using z
        subst z
        have hn : n ∈ r := List.mem_of_getElem? (fIx_at hj).1
        rw [if_neg fun z => e (fldN_inj (hl _ List.mem_cons_self) (hl _ (List.mem_cons_of_mem _ hn)) z).symm, zip_new (fun q hq => hl q (List.mem_cons_of_mem _ hq)) hj]
        rfl
/-- e.f of an instance, or of a refusal that is kept -/
def tFldX (K : Frag) (ta : TE) (f : Str) : TE := fun σ H Q => ta σ H fun x H1 => (∃ a C dx fs v, x = .ref a ∧ H1 a = some (.ins C dx fs) ∧ Cls K C ∧ NoAttr K C f ∧ fs.lookup f = some v ∧ Q v H1) ∨
  ∃ a C dx fs v, x = .ref a ∧ H1 a = some (exq a C dx) ∧ XfC K C ∧ PySem.W.findIn K (.ref C) f = some none ∧ H1 dx = some (.xd fs) ∧ fs.lookup f = some v ∧ Q v H1
theorem exq_at {P : Program} {w : World} {H : Hp} {h : Heap} {a C dx : Addr} (hok : HOk P w H h) (e : H a = some (exq a C dx)) : ∃ o : Obj, h.get? a = some o ∧ o.cls = .ref C ∧ o.dict = some dx ∧ ∃ vs, o.data = .fields vs := by
  have x : ObjOk P w H h a (.ext fun h => ∃ o : Obj, h.get? a = some o ∧ o.cls = .ref C ∧ o.dict = some dx ∧ ∃ vs, o.data = .fields vs) := hok a _ e
  exact x.1
theorem pe_fldX {X : Cx} {e : Expr} {ta : TE} {f : Str} {pos : Pos} (he : PE X e ta) (hb : attributeBase e f X.env (eval e X.env) = eval e X.env) : PE X (.Attribute e f pos) (tFldX X.K ta f) := by
  refine ⟨fun pins s σ H Q I h => ?_⟩
  refine attr_of hb (thn (he.run pins s σ H _ I h) fun u s1 ⟨x, H1, I1, rx, hh⟩ => ?_)
  rcases hh with ⟨a, C, dx, fs, v, ex, ea, c, n, l, q⟩ | ⟨a, C, dx, fs, v, ex, ea, T, hno, ed, l, q⟩
  · subst ex
    obtain rfl : u = Value.ref a := rx
    exact getattr_ok I1 ea c n l fun u' s2 I2 ru => ⟨v, H1, I2, ru, q⟩
  · subst ex
    obtain rfl : u = Value.ref a := rx
    obtain ⟨oe, ha, hcl, hdi, vs, hd⟩ := exq_at I1.hok ea
    have hx : ObjOk X.prog X.w H1 s1.heap dx (.xd fs) := I1.hok dx _ ed
    obtain ⟨mA, hns, hr⟩ := hx
    obtain ⟨od, ho, hl⟩ := lookIn_ns hns
    obtain ⟨u, hu, ru⟩ := RelO.some_of (v := v) (o := mA f) (by rw [← l]; exact hr f)
    have J : PySem.W.InstAt s1.heap a oe C (some od) := ⟨ha, hcl, by unfold PySem.W.notCls; rw [hd] <;> rfl, by rw [hdi]; exact ho⟩
    exact HandSPX.exc_get I1.kIn J T.ga T.gg T.exC (PySem.W.findObj_own T.hdC hno rfl (by rw [hl, hu])) (handed_of ru) ⟨v, H1, I1.tok _, ru, q⟩
section
variable {X : Cx} {c : Cg} {a : Expr} {ia : IE} {n : Nat} {pos : Pos}
theorem sE_attr (hK : X.K = c.K) (ha : PE X a (TR_ c ia)) (hb : attributeBase a (fldN n) X.env (eval a X.env) = eval a X.env) : PE X (.Attribute a (fldN n) pos) (TE_ c (.attr ia n)) := PE.imp (pe_fldX ha hb) fun σ H Q => by
  rintro ⟨B, φ, α, env, st, Kk, Xk, W, w, p, x⟩
  rw [hK]
  refine ⟨B, φ, α, env, st, _, Xk, W, w, fun y e1 s1 k v B1 H1 φ1 α1 g W1 s r hv => ?_, x⟩
  have sw := s.weak (q2 := false) fun h => nomatch h
  cases y with
  | ins c' fs =>
    obtain ⟨b, dx, vs, rfl, hb, cf, rf, _⟩ := r
    obtain ⟨z, e, hn, k⟩ := onV_inv k
    obtain ⟨i, hi, hz⟩ := Option.bind_eq_some_iff.mp e
    obtain ⟨u, g', hu, ru, hg⟩ := RepL.get rf hz
    have : g' = [] := List.eq_nil_iff_forall_not_mem.mpr fun q m => nomatch hg q m
    subst this
    exact .inl ⟨b, _, dx, _, u, rfl, W1.le _ _ hb, cf.cls, cf.noat n (List.mem_of_getElem? (fIx_at hi).1), (zipF_look hi).trans hu, p z e1 s1 k u B1 H1 φ1 α1 [] W1 sw (Tmp.of_nil ru)⟩
  | exc c' wx =>
    obtain ⟨b, dx, u, rfl, hq, hd, cf, rw', _⟩ := r
    have k : n = 36 ∧ nf wx = true ∧ _ := k
    obtain ⟨rfl, hn, k⟩ := k
    exact .inr ⟨b, _, dx, _, u, rfl, W1.le _ _ hq, cf.xf, cf.no, W1.le _ _ hd, rfl, p wx e1 s1 k u B1 H1 φ1 α1 [] W1 sw (Tmp.of_nil rw')⟩
  | ptr j =>
    obtain ⟨b, hj, rfl, _⟩ := r
    have k : attrW s1 (.ptr j) n _ := k
    unfold attrW at k
    simp only at k
    split at k
    · rename_i c' fs hc
      obtain ⟨dx, vs, g', hb, cf, rf, hf⟩ := W1.cell j _ b hc hj
      obtain ⟨z, e, hn, k⟩ := onV_inv k
      obtain ⟨i, hi, hz⟩ := Option.bind_eq_some_iff.mp e
      obtain ⟨u, g'', hu, ru, hg⟩ := RepL.get rf hz
      have := Rep.nf _ _ _ hn ru
      subst this
      exact .inl ⟨b, _, dx, _, u, rfl, hb, cf.cls, cf.noat n (List.mem_of_getElem? (fIx_at hi).1), (zipF_look hi).trans hu, p z e1 s1 k u B1 H1 φ1 α1 [] W1 sw (Tmp.of_nil ru)⟩
    · exact k.elim
  | _ => exact (show False from k).elim
end
theorem meth_eval {o : Expr} {m : Str} {apos pos : Pos} {args : List Expr} {kws : List Keyword} {env : PySem.Env} (hb : attributeBase o m env (eval o env) = eval o env)
    (hf : methodCallForm (args.length + kws.length) (backTo pos (starEach args env)) (backToKw pos (keywordEach kws env)) = true) (hl : (apos.endLine == pos.line) = true) :
    eval (.Call (.Attribute o m apos) args kws pos) env = (do
      let ov ← eval o env
      standAt apos.atName
      let (f, first) ← holding [ov] (getMethod ov m (do return (← importBound o env).getD true))
      callWith pos f first (backTo pos (starEach args env)) (backToKw pos (keywordEach kws env))) := by
  show (do
    let ov ← attributeBase o m env (eval o env)
    standAt apos.atName
    methodCall o m apos pos env ov (args.length + kws.length) (backTo pos (starEach args env)) (backToKw pos (keywordEach kws env))) = _
  rw [hb]
  unfold methodCall calleeOf methodCallPos
  rw [hf, hl]
  rfl
/-- o.m(..) of an instance whose class is told by the heap -/
def tMethE (X : Cx) (m : Str) (n : Nat) (ks : List Str) (W : WX) (to : TE) (t tk : TA) : TE := fun σ H Q => to σ H fun x H1 => ∃ (a C dx : Addr) (fs : List (Str × V)) (k : Nat) (fa : Addr) (fd : FuncData) (ps : List Str) (sp : Sp) (g : List V → List V),
  x = .ref a ∧ H1 a = some (.ins C dx fs) ∧ Cls X.K C ∧ fs.lookup m = none ∧ Meth X.K C m fa ∧ FnE X.prog X.w X.K X.mg X.base k fa fd ps sp ∧ Room k X.A ∧ Shp X.K fd ps (n + 1) ks g ∧
  t σ H1 fun vs H2 => tk σ H2 fun zs H3 => vs.length = n ∧ zs.length = ks.length ∧ sp (g ((x :: vs) ++ zs)) H3 Q fun cls d H' => W cls d σ H'
section
variable {X : Cx} {o e : Expr} {es : List Expr} {kws : List Keyword} {apos pos : Pos} {m : Str} {n : Nat} {ks : List Str} {W : WX} {to : TE} {t tk : TA}
theorem kw_methE {k : Nat} {f : Addr} {fd : FuncData} {ps : List Str} {sp : Sp} {g : List V → List V} {pins : List (Addr × Obj)} {σ : LSt} {Q : VK} {a : Addr} {us : List Value} {vs : List V} {H1 : Hp} {s1 : Shared} (F : FnE X.prog X.w X.K X.mg X.base k f fd ps sp) (hr : Room k X.A) (hg : X.A.guards = some [])
    (hb : Shp X.K fd ps (n + 1) ks g) (hx : Takes X W) (hkw : PK X kws tk) (hks : (backToKw pos (keywordEach kws X.env)).filterMap (·.1) = ks) (I1 : Inv X pins σ H1 s1) (r : Vals vs us)
    (q : tk σ H1 (fun zs H2 => vs.length = n ∧ zs.length = ks.length ∧ sp (g ((.ref a :: vs) ++ zs)) H2 Q fun cls d H' => W cls d σ H')) :
    wpAny (model X.prog X.w) X.A (evalAll ((backToKw pos (keywordEach kws X.env)).map (·.2))) (fun kv s₂ => X.K.In s₂.heap ∧ wpAny (model X.prog X.w) X.A (call (.ref f) ([.ref a] ++ us) (((backToKw pos (keywordEach kws X.env)).filterMap (·.1)).zip kv)) (EP X pins σ Q) X.xe s₂) X.xe s1 :=
  thn (hkw.run pos pins s1 σ H1 _ I1 q) fun ws s2 ⟨zs, H2, I2, rz, l1, l2, q2⟩ => ⟨I2.kIn, by rw [hks]; exact run_fnE (us := .ref a :: us) (vs := .ref a :: vs) F hr hg hb hx I2 (.cons rfl r) rz (by rw [List.length_cons, l1]) l2 q2⟩
theorem pe_methE (ho : PE X o to) (hg : X.A.guards = some []) (hx : Takes X W) (ha : PA X (e :: es) t) (hkw : PK X kws tk) (hb : attributeBase o m X.env (eval o X.env) = eval o X.env)
    (hf : methodCallForm ((e :: es).length + kws.length) (backTo pos (starEach (e :: es) X.env)) (backToKw pos (keywordEach kws X.env)) = true) (hl : (apos.endLine == pos.line) = true)
    (hall : (backToKw pos (keywordEach kws X.env)).all (·.1.isSome) = true) (hks : (backToKw pos (keywordEach kws X.env)).filterMap (·.1) = ks)
    (he : starEach (e :: es) X.env = (false, eval e X.env) :: starEach es X.env) (hpl : ((backTo pos (starEach (e :: es) X.env)).any (·.1) || (backToKw pos (keywordEach kws X.env)).any (·.1.isNone)) = false) :
    PE X (.Call (.Attribute o m apos) (e :: es) kws pos) (tMethE X m n ks W to t tk) := by
  refine ⟨fun pins s σ H Q I h => ?_⟩
  refine PySem.W.methodCall_KW (thn (ho.run pins s σ H _ I h) fun u s1 ⟨x, H1, I1, rx, a, C, dx, fs, k, fa, fd, ps, sp, g, ex, ea, c, l, hm, F, hr, hb, q⟩ => ?_) (meth_eval hb hf hl)
  subst ex
  obtain rfl : u = Value.ref a := rx
  refine getmeth_ok I1 ea c hm l ?_
  exact PySem.W.callWith_KW (first := [.ref a]) (h₀ := X.base) I.ok.mod.kin hm.kp hall (thn (ha.run pos pins s1 σ H1 _ I1 q) fun us s2 ⟨vs, H2, I2, r, q2⟩ => kw_methE F hr hg hb hx hkw hks I2 r q2) hpl he
theorem pe_methE0 (ho : PE X o to) (hg : X.A.guards = some []) (hx : Takes X W) (hkw : PK X kws tk) (hb : attributeBase o m X.env (eval o X.env) = eval o X.env)
    (hf : methodCallForm (([] : List Expr).length + kws.length) (backTo pos (starEach [] X.env)) (backToKw pos (keywordEach kws X.env)) = true) (hl : (apos.endLine == pos.line) = true)
    (hall : (backToKw pos (keywordEach kws X.env)).all (·.1.isSome) = true) (hks : (backToKw pos (keywordEach kws X.env)).filterMap (·.1) = ks)
    (hpl : ((backTo pos (starEach [] X.env)).any (·.1) || (backToKw pos (keywordEach kws X.env)).any (·.1.isNone)) = false) :
    PE X (.Call (.Attribute o m apos) [] kws pos) (tMethE X m 0 ks W to tNil tk) := by
  refine ⟨fun pins s σ H Q I h => ?_⟩
  refine PySem.W.methodCall_KW (thn (ho.run pins s σ H _ I h) fun u s1 ⟨x, H1, I1, rx, a, C, dx, fs, k, fa, fd, ps, sp, g, ex, ea, c, l, hm, F, hr, hb, q⟩ => ?_) (meth_eval hb hf hl)
  subst ex
  obtain rfl : u = Value.ref a := rx
  refine getmeth_ok I1 ea c hm l ?_
  exact PySem.W.callWith_KW0 (first := [.ref a]) (h₀ := X.base) I.ok.mod.kin hm.kp hall (kw_methE (us := []) F hr hg hb hx hkw hks I1 .nil q) hpl
end
section
variable {c : Cg} {σ : LSt} {B H B2 H2 : Hp} {φ φ2 : Fp} {α α2 : List Addr} {e2 : Env} {s2 : Stt} {Q : VK}
/-- back from a def -/
theorem core_go {ds : List D} {vs : List V} {fa : List Addr} {φc : Fp} (t12 : Stp false B H φ α B2 H2 φ2 α2) (W2 : Wd c.K B2 H2 σ α2 φ2 e2 s2)
    (r12 : TmpL c.K B H φ B2 H2 φ2 α2 ds vs fa) (hc : ∀ k, φc (.inr k) = φ2 (.inr k)) (hf : ∀ i, ∀ a ∈ φc (.inl i), a ∈ fa) {B' H' φ' α' st'} (W' : Wd c.K B' H' [] α' φ' [] st') (s : Stp false B2 H2 φc α2 B' H' φ' α') :
    ∃ φ3, Wd c.K B' H' σ α' φ3 e2 st' ∧ (∀ i, φ3 (.inl i) = φ2 (.inl i)) ∧ (∀ k, φ3 (.inr k) = φ' (.inr k)) ∧ Stp false B H φ α B' H' φ3 α' := by
  have hold : ∀ a ∈ fa, ∃ o, H2 a = some o := fun a m => let ⟨xs, e⟩ := r12.rep.there a m; ⟨_, e⟩
  obtain ⟨φ3, W3, a1, a2, a3, a4, a5⟩ := W2.back hc hf r12.free hold W' s
  refine ⟨φ3, W3, a1, a2, fun a o e n => a3 a o (t12.frame a o e n) (fun w m => ?_) (fun m => ?_), fun w a m => ?_, fun a o e => ?_, t12.mono.trans s.mono, fun k a h => s.pre k a (t12.pre k a h), fun h => nomatch h⟩
  · rcases t12.new w a m with ⟨w', h⟩ | h
    · exact n w' h
    · rw [e] at h; cases h
  · rcases r12.new a m with ⟨w', h⟩ | h
    · exact n w' h
    · rw [e] at h; cases h
  · rcases a4 w a m with ⟨w', h⟩ | h | h
    · exact t12.new w' a h
    · exact r12.new a h
    · exact new_back t12 (.inr h)
  · rcases a5 a o e with h | ⟨w, h⟩ | h | h
    · exact t12.bnew a o h
    · exact .inr (t12.new w a h)
    · exact .inr (r12.new a h)
    · exact .inr (new_back t12 (.inr h))
/-- into a def with things in hand, and back -/
theorem call_core {f np : Nat} {pm : List Ar} {ds : List D} {vs : List V} {fa : List Addr} {Kk : KE} {Xk : KX} (hp : pmOk ds.length pm = true) (hl : pm.length = np) (t12 : Stp false B H φ α B2 H2 φ2 α2) (W2 : Wd c.K B2 H2 σ α2 φ2 e2 s2)
    (r12 : TmpL c.K B H φ B2 H2 φ2 α2 ds vs fa) (k2 : c.F f (pm.map (argOf ds)) s2 (fun d s' => Kk d e2 s') (fun x s' => Xk x e2 s')) (p : PostE c false σ B H φ α Kk Q) (xk : PostX c σ B H φ α Xk) :
    spE c.K c f np (pm.map (argV vs)) H2 Q fun cls d H' => c.W cls d σ H' := by
  obtain ⟨φc, Wc, hc, hf⟩ := W2.enter r12 (pm := pm) hp
  have hold : ∀ a ∈ fa, ∃ o, H2 a = some o := fun a m => let ⟨xs, e⟩ := r12.rep.there a m; ⟨_, e⟩
  have go : ∀ {B' H' φ' α' st'}, Wd c.K B' H' [] α' φ' [] st' → Stp false B2 H2 φc α2 B' H' φ' α' → _ := fun {B' H' φ' α' st'} W' s => core_go t12 W2 r12 hc hf W' s
  refine ⟨B2, φc, α2, s2, pm.map (argOf ds), _, _, by rw [List.length_map]; exact hl, Wc, k2, fun d st' k v B' H' φ' α' g W' s t => ?_, fun e st' k B' H' φ' α' cls dx W' s x => ?_⟩
  · obtain ⟨φ3, W3, a1, a2, s3⟩ := go W' s
    refine p d e2 st' k v B' H' φ3 α' g W3 s3 ⟨t.rep, t.nd, t.out, fun a m w mw => ?_, fun a m => ?_⟩
    · cases w with
      | inr k => rw [a2] at mw; exact t.free a m _ mw
      | inl i =>
        rw [a1] at mw
        rcases t.new a m with ⟨w', h⟩ | h
        · cases w' with
          | inl j => exact r12.free a (hf j a h) _ mw
          | inr k => rw [hc] at h; exact W2.dj (.inl i) (.inr k) (fun z => nomatch z) a mw h
        · obtain ⟨xs, e⟩ := W2.there (.inl i) mw
          rw [e] at h; cases h
    · rcases t.new a m with ⟨w', h⟩ | h
      · cases w' with
        | inl j => exact r12.new a (hf j a h)
        | inr k => rw [hc] at h; exact t12.new _ a h
      · exact new_back t12 (.inr h)
  · obtain ⟨φ3, W3, a1, a2, s3⟩ := go W' s
    exact xk e e2 st' k B' H' φ3 α' cls dx W3 s3 x
end
/-- what is known of a method that the table names -/
structure MethOk (X : Cx) (c : Cg) (m : Str) (n : Nat) (ks : List Str) (cl f : Nat) (pm : List Ar) : Prop where
  nf : ∀ q ∈ fldsOf cl, fldN q ≠ m
  ex : ∃ (k : Nat) (fa : Addr) (fd : FuncData) (ps : List Str), Meth X.K (clsA X.K cl) m fa ∧ FnE X.prog X.w X.K X.mg X.base k fa fd ps (spE c.K c f pm.length) ∧ Room k X.A ∧ Shp X.K fd ps (n + 1) ks fun vs => pm.map (argV vs)
theorem clsW_inv {s : Stt} {x : D} {K : Nat → Prop} (h : clsW s x K) : (∃ cl fs, x = .ins cl fs ∧ K cl) ∨ ∃ k cl fs, x = .ptr k ∧ s[k]? = some (.obj cl fs) ∧ K cl := by
  cases x with
  | ins cl fs => exact .inl ⟨_, _, rfl, h⟩
  | ptr k =>
    unfold clsW at h
    simp only at h
    split at h
    · rename_i e; exact .inr ⟨_, _, _, rfl, e, h⟩
    · exact h.elim
  | _ => exact h.elim
theorem tbW_inv {tb : List (Nat × Nat × List Ar)} {cl : Nat} {K : Nat → List Ar → Prop} (h : tbW tb cl K) : ∃ f pm, (cl, f, pm) ∈ tb ∧ K f pm := by
  unfold tbW at h
  split at h
  · rename_i f pm e
    refine ⟨f, pm, ?_, h⟩
    obtain ⟨l1, l2, e2, _⟩ := List.lookup_eq_some_iff.mp e
    rw [e2]; simp
  · exact h.elim
section
variable {X : Cx} {c : Cg} {o : Expr} {io : IE} {es : List Expr} {kws : List Keyword} {ies iks : List IE} {apos pos : Pos} {m : Str} {ks : List Str} {tb : List (Nat × Nat × List Ar)}
theorem ins_at {B H : Hp} {σ : LSt} {α : List Addr} {φ : Fp} {env : Env} {st : Stt} (W : Wd c.K B H σ α φ env st) {x : D} {v : V} {f : List Addr} (r : Rep c.K B H α x v f) {K : Nat → Prop} (h : clsW st x K) :
    ∃ a dx cl vs, v = .ref a ∧ H a = some (.ins (clsA c.K cl) dx (zipF cl vs)) ∧ ClsF c.K cl ∧ K cl ∧ f = [] := by
  rcases clsW_inv h with ⟨cl, fs, rfl, h⟩ | ⟨k, cl, fs, rfl, e, h⟩
  · obtain ⟨a, dx, vs, rfl, q, cf, _, z⟩ := r
    exact ⟨a, dx, cl, vs, rfl, W.le _ _ q, cf, h, z⟩
  · obtain ⟨a, ha, rfl, z⟩ := r
    obtain ⟨dx, vs, g, q, cf, _, _⟩ := W.cell k _ a e ha
    exact ⟨a, dx, cl, vs, rfl, q, cf, h, z⟩
theorem meth_read (hK : X.K = c.K) (htb : ∀ cl f pm, (cl, f, pm) ∈ tb → MethOk X c m ies.length ks cl f pm ∧ pmOk (ies.length + iks.length + 1) pm = true) (hik : ks.length = iks.length) {σ : LSt} {H : Hp} {Q : VK} (h : TE_ c (.meth tb io ies iks) σ H Q) :
    tMethE X m ies.length ks c.W (TE_ c io) (TAs_ c ies) (TAs_ c iks) σ H Q := by
  obtain ⟨B, φ, α, env, st, Kk, Xk, W, w, p, xk⟩ := h
  refine ⟨B, φ, α, env, st, _, Xk, W, w, fun x e0 s0 k v B0 H0 φ0 α0 f0 W0 t0 r0 => ?_, xk⟩
  obtain ⟨a, dx, cl, vs0, rfl, hH, cf, k, rfl⟩ := ins_at W0 r0.rep k
  obtain ⟨f, pm, hm, k⟩ := tbW_inv k
  obtain ⟨⟨nf, kk, fa, fd, ps, hmeth, F, hr, hb⟩, hp⟩ := htb cl f pm hm
  have sw := t0.weak (q2 := false) fun h => nomatch h
  refine ⟨a, _, dx, _, kk, fa, fd, ps, _, _, rfl, hH, by rw [hK]; exact cf.cls, zip_none nf, by rw [← hK]; exact hmeth, F, hr, hb, ?_⟩
  have rx : TmpL c.K B H φ B0 H0 φ0 α0 [x] [.ref a] [] := ⟨⟨_, _, _, _, rfl, r0.rep, ⟨rfl, rfl⟩, rfl⟩, List.nodup_nil, (fun _ m => nomatch m), (fun _ m => nomatch m), (fun _ m => nomatch m)⟩
  refine ⟨B0, φ0, α0, e0, s0, _, Xk, W0, k, fun ds e1 s1 ⟨l1, k1⟩ vs B1 H1 φ1 α1 f1 W1 t1 r1 => ?_, xk.step sw⟩
  refine ⟨B1, φ1, α1, e1, s1, _, Xk, W1, k1, fun zs e2 s2 ⟨l2, k2⟩ us B2 H2 φ2 α2 f2 W2 t2 r2 => ?_, (xk.step sw).step t1⟩
  have r12 := TmpL.app t1 r1 t2 r2
  have t12 := (t1.trans t2).weak (q2 := false) fun h => nomatch h
  have r012 := TmpL.app sw rx t12 r12
  have t012 := (sw.trans t12).weak (q2 := false) fun h => nomatch h
  refine ⟨by rw [← r1.rep.length]; exact l1, by rw [← r2.rep.length, hik]; exact l2, ?_⟩
  exact call_core (ds := x :: (ds ++ zs)) (vs := .ref a :: (vs ++ us)) (by rw [List.length_cons, List.length_append, l1, l2]; exact hp) rfl t012 W2 r012 k2 p xk
theorem sE_meth (hK : X.K = c.K) (htb : ∀ cl f pm, (cl, f, pm) ∈ tb → MethOk X c m ies.length ks cl f pm ∧ pmOk (ies.length + iks.length + 1) pm = true) (hg : X.A.guards = some []) (hx : Takes X c.W) (hik : ks.length = iks.length)
    (ho : PE X o (TE_ c io)) (ha : PA X es (TAs_ c ies)) (hkw : PK X kws (TAs_ c iks)) (hb : attributeBase o m X.env (eval o X.env) = eval o X.env)
    (hf : methodCallForm (es.length + kws.length) (backTo pos (starEach es X.env)) (backToKw pos (keywordEach kws X.env)) = true) (hl : (apos.endLine == pos.line) = true)
    (hall : (backToKw pos (keywordEach kws X.env)).all (·.1.isSome) = true) (hks : (backToKw pos (keywordEach kws X.env)).filterMap (·.1) = ks)
    (he : ∀ e r, es = e :: r → starEach (e :: r) X.env = (false, eval e X.env) :: starEach r X.env) (h0 : es = [] → ies = []) (hpl : ((backTo pos (starEach es X.env)).any (·.1) || (backToKw pos (keywordEach kws X.env)).any (·.1.isNone)) = false) :
    PE X (.Call (.Attribute o m apos) es kws pos) (TE_ c (.meth tb io ies iks)) := by
  match es, ha, he, h0, hpl, hf with
  | [], ha, he, h0, hpl, hf =>
    have z := h0 rfl
    subst z
    refine PE.imp (pe_methE0 ho hg hx hkw hb hf hl hall hks hpl) fun σ H Q h => ?_
    obtain ⟨B, φ, α, env, st, Kk, Xk, W, w, p, xk⟩ := meth_read hK htb hik h
    refine ⟨B, φ, α, env, st, Kk, Xk, W, w, fun d env' st' k v B' H' φ' α' f W' s t => ?_, xk⟩
    obtain ⟨a, C, dx, fs, kk, fa, fd, ps, sp, g, h1, h2, h3, h4, h5, h6, h7, h8, B1, φ1, α1, e1, s1, K1, X1, W1, w1, q1, _⟩ := p d env' st' k v B' H' φ' α' f W' s t
    exact ⟨a, C, dx, fs, kk, fa, fd, ps, sp, g, h1, h2, h3, h4, h5, h6, h7, h8, q1 [] e1 s1 w1 [] B1 H' φ1 α1 [] W1 (Stp.refl.weak fun h => nomatch h) TmpL.nil⟩
  | e :: r, ha, he, h0, hpl, hf => exact PE.imp (pe_methE ho hg hx ha hkw hb hf hl hall hks (he e r rfl) hpl) fun σ H Q h => meth_read hK htb hik h
end
/-- an __init__ by the text: self, and the others in hand -/
def spI (K : Frag) (c : Cg) (f np cl : Nat) : Sp := fun vs H Q E => ∃ a vr B φ α st ds Kk Xk, vs = V.ref a :: vr ∧ ds.length = np ∧ Wd K B H (vr.map some) (α ++ [a]) φ (ds.map some) (st ++ [.obj cl []]) ∧ c.F f ds st Kk Xk ∧
  (∀ d st', Kk d st' → ∀ B' H' φ' α', Wd K B' H' [] α' φ' [] st' → Stp false B H φ (α ++ [a]) B' H' φ' α' → Rep K B' H' α' d (.ref a) [] → Q .non H') ∧
  (∀ e st', Xk e st' → ∀ B' H' φ' α' cls dx, Wd K B' H' [] α' φ' [] st' → Stp false B H φ (α ++ [a]) B' H' φ' α' → ExR c B' H' α' e cls dx → E cls dx H')
theorem spI_len {K : Frag} {c : Cg} {f np cl : Nat} {vs : List V} {H : Hp} {Q : VK} {E : XK} (h : spI K c f np cl vs H Q E) : vs.length = np + 1 := by
  obtain ⟨a, vr, B, φ, α, st, ds, Kk, Xk, rfl, l, W, _⟩ := h
  have := W.len
  rw [List.length_map, List.length_map] at this
  rw [List.length_cons, this, l]
def tMakeE (X : Cx) (C : Addr) (n : Nat) (ks : List Str) (W : WX) (t tk : TA) : TE := fun σ H Q => t σ H fun vs H1 => tk σ H1 fun zs H2 => vs.length = n ∧ zs.length = ks.length ∧
  ∃ (k : Nat) (f : Addr) (fd : FuncData) (ps : List Str) (sp : Sp) (g : List V → List V), Mk X.K C f ∧ FnE X.prog X.w X.K X.mg X.base k f fd ps sp ∧ Room (k + 1) X.A ∧ Shp X.K fd ps (n + 1) ks g ∧
  ∀ x dx, H2 x = none → H2 dx = none → dx ≠ x → sp (g (.ref x :: (vs ++ zs))) (upd (upd H2 dx (.own x)) x (.ins C dx [])) (fun v H3 => v = .non ∧ Q (.ref x) H3) fun cls d H' => W cls d σ H'
section
variable {X : Cx} {e : Expr} {es : List Expr} {kws : List Keyword} {p pos : Pos} {x : Str} {n : Nat} {C : Addr} {ks : List Str} {W : WX} {t tk : TA}
theorem run_makeE {k : Nat} {f : Addr} {fd : FuncData} {ps : List Str} {sp : Sp} {g : List V → List V} {pins : List (Addr × Obj)} {σ : LSt} {H : Hp} {s : Shared} {Q : VK} {us ws : List Value} {vs zs : List V} (M : Mk X.K C f) (F : FnE X.prog X.w X.K X.mg X.base k f fd ps sp) (hr : Room (k + 1) X.A) (hg : X.A.guards = some []) (hb : Shp X.K fd ps (n + 1) ks g) (hx : Takes X W)
    (I : Inv X pins σ H s) (r : Vals vs us) (rz : Vals zs ws) (l1 : vs.length = n) (l2 : zs.length = ks.length)
    (h : ∀ x dx, H x = none → H dx = none → dx ≠ x → sp (g (.ref x :: (vs ++ zs))) (upd (upd H dx (.own x)) x (.ins C dx [])) (fun v H3 => v = .non ∧ Q (.ref x) H3) fun cls d H' => W cls d σ H') :
    wpAny (model X.prog X.w) X.A (call (.ref C) us (ks.zip ws)) (EP X pins σ Q) X.xe s := by
  have q := h (s.heap.objs.size + 1) s.heap.objs.size (I.hok.fresh (Nat.le_succ _)) (I.hok.fresh (Nat.le_refl _)) (Nat.ne_of_lt (Nat.lt_succ_self _))
  have J := Inv.made (C := C) I
  have r1 : Vals (V.ref (s.heap.objs.size + 1) :: vs) (Value.ref (s.heap.objs.size + 1) :: us) := .cons rfl r
  obtain ⟨full, b, rel⟩ := hb.to _ (Value.ref (s.heap.objs.size + 1) :: us) ws J.kIn (r1.length.symm.trans (congrArg Nat.succ l1)) (rz.length.symm.trans l2)
  have step := F.run _ X.stack _ _ ⟨Value.ref (s.heap.objs.size + 1) :: us, ks.zip ws⟩ full (g (.ref (s.heap.objs.size + 1) :: (vs ++ zs))) _ _ (hr.make C us (ks.zip ws)) (by first | exact hg | (simpa [Around.under, Code.isGuard] using hg)) (J.env0.make C us (ks.zip ws)) b (rel (V.ref (s.heap.objs.size + 1) :: vs) zs r1 rz) q
  refine wpAny_call (make_map (f := f) I.kIn M.makes M.init (beq_iff_eq.mp M.fn) (codeAny_mono step fun res s' hq => ?_))
  match res, hq with
  | .error e, hq => exact hx e s' (XE.of_call J (fun _ _ _ z => z) hq)
  | .ok (.ret u), hq =>
    obtain ⟨v, H', I3, rv, ev, q3⟩ := J.after hq
    subst ev
    exact ⟨rv, ⟨V.ref (s.heap.objs.size + 1), H', I3, rfl, q3⟩⟩
  | .ok .next, hq => exact False.elim hq
  | .ok .brk, hq => exact False.elim hq
  | .ok .cont, hq => exact False.elim hq
theorem kw_makeE {pins : List (Addr × Obj)} {σ : LSt} {Q : VK} {us : List Value} {vs : List V} {H1 : Hp} {s1 : Shared} (hg : X.A.guards = some []) (hx : Takes X W)
    (hkw : PK X kws tk) (hks : (backToKw pos (keywordEach kws X.env)).filterMap (·.1) = ks) (I1 : Inv X pins σ H1 s1) (r : Vals vs us) (q : tMakeE X C n ks W (fun _ H q => q vs H) tk σ H1 Q) :
    wpAny (model X.prog X.w) X.A (evalAll ((backToKw pos (keywordEach kws X.env)).map (·.2))) (fun kv s₂ => X.K.In s₂.heap ∧ wpAny (model X.prog X.w) X.A (call (.ref C) us (((backToKw pos (keywordEach kws X.env)).filterMap (·.1)).zip kv)) (EP X pins σ Q) X.xe s₂) X.xe s1 :=
  thn (hkw.run pos pins s1 σ H1 _ I1 q) fun ws s2 ⟨zs, H2, I2, rz, l1, l2, k, f, fd, ps, sp, g, M, F, hr, hb, q2⟩ => ⟨I2.kIn, by rw [hks]; exact run_makeE M F hr hg hb hx I2 r rz l1 l2 q2⟩
theorem pe_makeE (hk : PySem.W.keepIn X.K (.ref C) = true) (hg : X.A.guards = some []) (hx : Takes X W) (hgl : Gl X x) (hm : X.mg x = some (.ref C))
    (ha : PA X (e :: es) t) (hkw : PK X kws tk) (hall : (backToKw pos (keywordEach kws X.env)).all (·.1.isSome) = true) (hks : (backToKw pos (keywordEach kws X.env)).filterMap (·.1) = ks) (hdb : (x == ("__debug__" : Str)) = false)
    (he : starEach (e :: es) X.env = (false, eval e X.env) :: starEach es X.env) (hpl : ((backTo pos (starEach (e :: es) X.env)).any (·.1) || (backToKw pos (keywordEach kws X.env)).any (·.1.isNone)) = false) :
    PE X (.Call (.Name x p) (e :: es) kws pos) (tMakeE X C n ks W t tk) :=
  ⟨fun pins s σ H Q I h => wpAny_Call_Name_kw (ld_glob I hgl hm
    (PySem.W.callWith_KW (h₀ := X.base) I.ok.mod.kin hk hall (thn (ha.run pos pins s σ H _ I h) fun us s1 ⟨vs, H1, I1, r, q⟩ => kw_makeE hg hx hkw hks I1 r q) hpl he) hdb)⟩
theorem pe_makeE0 (hk : PySem.W.keepIn X.K (.ref C) = true) (hg : X.A.guards = some []) (hx : Takes X W) (hgl : Gl X x) (hm : X.mg x = some (.ref C))
    (hkw : PK X kws tk) (hall : (backToKw pos (keywordEach kws X.env)).all (·.1.isSome) = true) (hks : (backToKw pos (keywordEach kws X.env)).filterMap (·.1) = ks) (hdb : (x == ("__debug__" : Str)) = false)
    (hpl : ((backTo pos (starEach [] X.env)).any (·.1) || (backToKw pos (keywordEach kws X.env)).any (·.1.isNone)) = false) :
    PE X (.Call (.Name x p) [] kws pos) (tMakeE X C 0 ks W tNil tk) :=
  ⟨fun pins s σ H Q I h => wpAny_Call_Name_kw (ld_glob I hgl hm
    (PySem.W.callWith_KW0 (h₀ := X.base) I.ok.mod.kin hk hall (kw_makeE (us := []) hg hx hkw hks I .nil h) hpl) hdb)⟩
end
section
variable {K : Frag}
/-- a thing of one's own made a cell -/
theorem Wd.newCellG {B H B0 H0 : Hp} {σ : LSt} {α α0 : List Addr} {φ φ0 : Fp} {env : Env} {st : Stt} {q : Bool} {a : Addr} {f : List Addr} {c1 : Cell} (W : Wd K B H σ α φ env st) (s : Stp q B0 H0 φ0 α0 B H φ α) (tnd : f.Nodup) (tout : ∀ b ∈ f, B b = none) (tfree : ∀ b ∈ f, ∀ w, b ∉ φ w) (tnew : ∀ b ∈ f, (∃ w, b ∈ φ0 w) ∨ H0 b = none)
    (h : CellR K B H (α ++ [a]) a f c1) : Wd K B H σ (α ++ [a]) (setF φ (.inr st.length) f) env (st ++ [c1]) ∧ Stp q B0 H0 φ0 α0 B H (setF φ (.inr st.length) f) (α ++ [a]) := by
  have pre : ∀ (k : Nat) b, α[k]? = some b → (α ++ [a])[k]? = some b := fun k b e => by rw [List.getElem?_append_left (List.getElem?_eq_some_iff.mp e).1]; exact e
  have fp : ∀ u, setF φ (.inr st.length) f u = if u = .inr st.length then f else φ u := fun _ => rfl
  have ext : ∀ {u : Ow} {b : Addr}, b ∈ setF φ (.inr st.length) f u → (u = .inr st.length ∧ b ∈ f) ∨ (u ≠ .inr st.length ∧ b ∈ φ u) := fun {u b} m => by
    rw [fp] at m
    split at m
    · rename_i h; exact .inl ⟨h, m⟩
    · rename_i h; exact .inr ⟨h, m⟩
  refine ⟨⟨W.le, W.len, fun i d e => ?_, fun i h => ?_, by rw [List.length_append, List.length_append, W.clen]; rfl, fun k c b hk hb => ?_, fun k hk => ?_, fun u => ?_, fun u u' hu b m m' => ?_, fun u b m => ?_⟩, ⟨s.frame, fun u b m => ?_, s.bnew, s.mono, fun k b e => pre k b (s.pre k b e), s.same⟩⟩
  · obtain ⟨v, hv, r⟩ := W.slot i d e
    refine ⟨v, hv, ?_⟩
    rw [fp, if_neg fun z => nomatch z]
    exact Rep.ext (HLe.refl B) pre _ _ _ (fun _ _ _ e => e) r
  · rw [fp, if_neg fun z => nomatch z]; exact W.bare i h
  · by_cases hl : k < st.length
    · rw [List.getElem?_append_left hl] at hk
      rw [List.getElem?_append_left (by rw [W.clen]; exact hl)] at hb
      rw [fp, if_neg fun z => by have := Sum.inr.inj z; omega]
      exact (W.cell k c b hk hb).ext (HLe.refl B) pre fun _ _ _ e => e
    · have hk' := (List.getElem?_eq_some_iff.mp hk).1
      rw [List.length_append] at hk'
      have e : k = st.length := by simp at hk'; omega
      subst e
      rw [List.getElem?_append_right (Nat.le_refl _)] at hk
      rw [← W.clen, List.getElem?_append_right (Nat.le_refl _)] at hb
      simp at hk hb
      subst hk hb
      rw [fp, if_pos rfl]; exact h
  · rw [List.length_append] at hk
    rw [fp, if_neg fun z => by have := Sum.inr.inj z; simp at hk; omega]
    exact W.cbare k (by simp at hk; omega)
  · rw [fp]; split
    · exact tnd
    · exact W.nd u
  · rcases ext m with ⟨h1, m⟩ | ⟨h1, m⟩ <;> rcases ext m' with ⟨h2, m'⟩ | ⟨h2, m'⟩
    · exact hu (h1.trans h2.symm)
    · exact tfree b m u' m'
    · exact tfree b m' u m
    · exact W.dj u u' hu b m m'
  · rcases ext m with ⟨_, m⟩ | ⟨_, m⟩
    · exact tout b m
    · exact W.out u b m
  · rcases ext m with ⟨_, m⟩ | ⟨_, m⟩
    · exact tnew b m
    · exact s.new u b m
end
/-- what is known of a class that the table names -/
structure MkOk (X : Cx) (c : Cg) (n : Nat) (ks : List Str) (cl f np : Nat) (pm : List Ar) : Prop where
  cf : ClsF X.K cl
  kp : PySem.W.keepIn X.K (.ref (clsA X.K cl)) = true
  ex : ∀ ds st Kk Xk, c.F f ds st Kk Xk → ∃ (k : Nat) (fa : Addr) (fd : FuncData) (ps : List Str), Mk X.K (clsA X.K cl) fa ∧ FnE X.prog X.w X.K X.mg X.base k fa fd ps (spI c.K c f np cl) ∧ Room (k + 1) X.A ∧ Shp X.K fd ps (n + 1) ks fun vs => vs.headD .non :: pm.map (argV vs.tail)
section
variable {X : Cx} {c : Cg} {es : List Expr} {kws : List Keyword} {ies iks : List IE} {p pos : Pos} {x : Str} {ks : List Str} {f cl : Nat} {pm : List Ar}
theorem mk_read (hK : X.K = c.K) (M : MkOk X c ies.length ks cl f pm.length pm) (hp : pmOk (ies.length + iks.length) pm = true) (hik : ks.length = iks.length) {σ : LSt} {H : Hp} {Q : VK} (h : TE_ c (.mk f ies iks pm) σ H Q) :
    tMakeE X (clsA X.K cl) ies.length ks c.W (TAs_ c ies) (TAs_ c iks) σ H Q := by
  obtain ⟨B, φ, α, env, st, Kk, Xk, W, w, p, xk⟩ := h
  refine ⟨B, φ, α, env, st, _, Xk, W, w, fun ds e1 s1 ⟨l1, k1⟩ vs B1 H1 φ1 α1 f1 W1 t1 r1 => ?_, xk⟩
  refine ⟨B1, φ1, α1, e1, s1, _, Xk, W1, k1, fun zs e2 s2 ⟨l2, k2⟩ us B2 H2 φ2 α2 f2 W2 t2 r2 => ?_, xk.step t1⟩
  have r12 := TmpL.app t1 r1 t2 r2
  have t12 := (t1.trans t2).weak (q2 := false) fun h => nomatch h
  obtain ⟨k, fa, fd, ps, hM, F, hr, hb⟩ := M.ex _ _ _ _ k2
  refine ⟨by rw [← r1.rep.length]; exact l1, by rw [← r2.rep.length, hik]; exact l2, k, fa, fd, ps, _, _, hM, F, hr, hb, fun y dy hy hdy ne => ?_⟩
  obtain ⟨W3, s3⟩ := W2.alloc hdy (.own y)
  have hy3 : upd H2 dy (.own y) y = none := by rw [upd_ne (Ne.symm ne)]; exact hy
  obtain ⟨W4, s4⟩ := W3.alloc hy3 (.ins (clsA X.K cl) dy [])
  have s34 := s3.trans s4
  have t14 := (t12.trans s34).weak (q2 := false) fun h => nomatch h
  have hfy : ∀ w, y ∉ φ2 w := fun w m => by obtain ⟨o, e⟩ := W2.there w m; rw [hy] at e; cases e
  have hBy : B2 y = none := by
    cases e : B2 y with
    | none => rfl
    | some o => rw [W2.le _ _ e] at hy; cases hy
  have cr : CellR c.K B2 (upd (upd H2 dy (.own y)) y (.ins (clsA X.K cl) dy [])) (α2 ++ [y]) y [y] (.obj cl []) := ⟨dy, [], [], by rw [upd_same, hK]; simp [zipF], by rw [← hK]; exact M.cf, ⟨rfl, rfl⟩, rfl⟩
  obtain ⟨W5, s5⟩ := Wd.newCellG W4 t14 (by simp) (fun b m => by rw [List.mem_singleton.mp m]; exact hBy) (fun b m w => by rw [List.mem_singleton.mp m]; exact hfy w)
    (fun b m => by rw [List.mem_singleton.mp m]; exact new_back t12 (.inr hy)) cr
  have r4 := r12.step s34
  have pre : ∀ (k : Nat) b, α2[k]? = some b → (α2 ++ [y])[k]? = some b := fun k b e => by rw [List.getElem?_append_left (List.getElem?_eq_some_iff.mp e).1]; exact e
  have r5 : TmpL c.K B H φ B2 (upd (upd H2 dy (.own y)) y (.ins (clsA X.K cl) dy [])) (setF φ2 (.inr s2.length) [y]) (α2 ++ [y]) (ds ++ zs) (vs ++ us) (f1 ++ f2) := by
    refine ⟨RepL.ext (HLe.refl B2) pre _ _ _ (fun _ _ _ e => e) r4.rep, r4.nd, r4.out, fun a m w mw => ?_, r4.new⟩
    by_cases hw : w = .inr s2.length
    · subst hw
      rw [setF_same] at mw
      obtain ⟨xs, e⟩ := r12.rep.there a m
      rw [List.mem_singleton.mp mw, hy] at e; cases e
    · rw [setF_ne hw] at mw
      exact r4.free a m w mw
  obtain ⟨φc, Wc, hc, hf⟩ := W5.enter r5 (pm := pm) (by rw [List.length_append, l1, l2]; exact hp)
  refine ⟨y, pm.map (argV (vs ++ us)), B2, φc, α2, s2, pm.map (argOf (ds ++ zs)), _, _, rfl, by rw [List.length_map], Wc, k2, fun d st' k B' H' φ' α' W' s r => ?_, fun e st' k B' H' φ' α' cls dx W' s x => ?_⟩
  · obtain ⟨φ3, W3', _, _, s3'⟩ := core_go s5 W5 r5 hc hf W' s
    exact ⟨rfl, p d e2 st' k (.ref y) B' H' φ3 α' [] W3' s3' (Tmp.of_nil r)⟩
  · obtain ⟨φ3, W3', _, _, s3'⟩ := core_go s5 W5 r5 hc hf W' s
    exact xk e e2 st' k B' H' φ3 α' cls dx W3' s3' x
theorem sE_mk (hK : X.K = c.K) (M : MkOk X c ies.length ks cl f pm.length pm) (hp : pmOk (ies.length + iks.length) pm = true) (hik : ks.length = iks.length) (hg : X.A.guards = some []) (hx : Takes X c.W) (hgl : Gl X x) (hm : X.mg x = some (.ref (clsA X.K cl)))
    (ha : PA X es (TAs_ c ies)) (hkw : PK X kws (TAs_ c iks)) (hall : (backToKw pos (keywordEach kws X.env)).all (·.1.isSome) = true) (hks : (backToKw pos (keywordEach kws X.env)).filterMap (·.1) = ks) (hdb : (x == ("__debug__" : Str)) = false)
    (he : ∀ e r, es = e :: r → starEach (e :: r) X.env = (false, eval e X.env) :: starEach r X.env) (h0 : es = [] → ies = []) (hpl : ((backTo pos (starEach es X.env)).any (·.1) || (backToKw pos (keywordEach kws X.env)).any (·.1.isNone)) = false) :
    PE X (.Call (.Name x p) es kws pos) (TE_ c (.mk f ies iks pm)) := by
  match es, ha, he, h0, hpl with
  | [], ha, he, h0, hpl =>
    have z := h0 rfl
    subst z
    refine PE.imp (pe_makeE0 M.kp hg hx hgl hm hkw hall hks hdb hpl) fun σ H Q h => ?_
    obtain ⟨B1, φ1, α1, e1, s1, K1, X1, W1, w1, q1, _⟩ := mk_read hK M hp hik h
    exact q1 [] e1 s1 w1 [] B1 H φ1 α1 [] W1 (Stp.refl.weak fun h => nomatch h) TmpL.nil
  | e :: r, ha, he, h0, hpl => exact PE.imp (pe_makeE M.kp hg hx hgl hm ha hkw hall hks hdb (he e r rfl) hpl) fun σ H Q h => mk_read hK M hp hik h
end
end Ev

namespace Ev
open PySem PySem.Spec PyProof.Rows L2
theorem RepL.set {K : Frag} {B H : Hp} {α : List Addr} : ∀ {ds : List D} {vs : List V} {f g : List Addr} {d : D} {v : V} (j : Nat), j < ds.length → RepL K B H α ds vs f → Rep K B H α d v g → f.Nodup → g.Nodup → (∀ a ∈ f, a ∉ g) →
    ∃ h, RepL K B H α (ds.set j d) (vs.set j v) h ∧ h.Nodup ∧ ∀ a ∈ h, a ∈ f ∨ a ∈ g
  | [], _, _, _, _, _, j, hj, _, _, _, _, _ => absurd hj (Nat.not_lt_zero _)
  | x :: xs, vs, f, g, d, v, j, hj, r, q, n1, n2, dj => by
    obtain ⟨u, ur, f1, f2, rfl, r1, r2, rfl⟩ := r
    have nd := List.nodup_append.mp n1
    cases j with
    | zero => exact ⟨g ++ f2, ⟨v, ur, g, f2, rfl, q, r2, rfl⟩, List.nodup_append.mpr ⟨n2, nd.2.1, fun a m b m' e => dj a (List.mem_append_right _ (e ▸ m')) m⟩, fun a m => (List.mem_append.mp m).elim .inr fun m => .inl (List.mem_append_right _ m)⟩
    | succ j =>
      obtain ⟨h, h1, h2, h3⟩ := RepL.set j (Nat.lt_of_succ_lt_succ hj) r2 q nd.2.1 n2 fun a m => dj a (List.mem_append_right _ m)
      refine ⟨f1 ++ h, ⟨u, ur.set j v, f1, h, rfl, r1, h1, rfl⟩, List.nodup_append.mpr ⟨nd.1, h2, fun a m b m' e => ?_⟩, fun a m => (List.mem_append.mp m).elim (fun m => .inl (List.mem_append_left _ m)) fun m => (h3 a m).elim (fun m => .inl (List.mem_append_right _ m)) .inr⟩
      subst e
      rcases h3 a m' with m' | m'
      · exact nd.2.2 a m a m' rfl
      · exact dj a (List.mem_append_left _ m) m'
section
variable {K : Frag} {B H : Hp} {σ : LSt} {α : List Addr} {φ : Fp} {env : Env} {st : Stt}
/-- a cell's object changed -/
theorem Wd.objChg (W : Wd K B H σ α φ env st) {k : Nat} {a : Addr} {g h : List Addr} {o : HO} {c0 c1 : Cell} (hs : st[k]? = some c0) (hk : α[k]? = some a) (hf : φ (.inr k) = a :: g) (cr : CellR K B (upd H a o) α a (a :: h) c1)
    (nd : h.Nodup) (ah : a ∉ h) (out : ∀ b ∈ h, B b = none) (free : ∀ b ∈ h, ∀ u, u ≠ .inr k → b ∉ φ u) : Wd K B (upd H a o) σ α (setF φ (.inr k) (a :: h)) env (st.set k c1) := by
  have ma : a ∈ φ (.inr k) := by rw [hf]; exact List.mem_cons_self
  have hB : B a = none := W.out _ a ma
  have ne : ∀ u, u ≠ .inr k → ∀ b ∈ φ u, ∀ q, H b = some q → upd H a o b = some q := fun u hu b m q e => by
    have : b ≠ a := fun z => by subst z; exact W.dj u _ hu b m ma
    rw [upd_oth this]; exact e
  have hl : k < st.length := (List.getElem?_eq_some_iff.mp hs).1
  refine ⟨fun b q e => ?_, W.len, fun i d e => ?_, fun i hb => ?_, by rw [List.length_set]; exact W.clen, fun j c q hj hq => ?_, fun j hj => ?_, fun u => ?_, fun u u' hu b m => ?_, fun u b m => ?_⟩
  · have : b ≠ a := fun z => by subst z; rw [hB] at e; cases e
    rw [upd_oth this]; exact W.le b q e
  · obtain ⟨v, hv, rv⟩ := W.slot i d e
    have hu : (Sum.inl i : Ow) ≠ .inr k := fun z => nomatch z
    exact ⟨v, hv, by rw [setF_ne hu]; exact Rep.ext (HLe.refl B) (fun _ _ h => h) _ _ _ (ne _ hu) rv⟩
  · rw [setF_ne (show (Sum.inl _ : Ow) ≠ .inr k from fun z => nomatch z)]; exact W.bare i hb
  · by_cases hj' : j = k
    · subst hj'
      rw [List.getElem?_set_self hl] at hj; cases hj
      rw [hk] at hq; cases hq
      rw [setF_same]; exact cr
    · rw [List.getElem?_set_ne (Ne.symm hj')] at hj
      have hu : (Sum.inr j : Ow) ≠ .inr k := fun z => hj' (Sum.inr.inj z)
      rw [setF_ne hu]
      exact (W.cell j c q hj hq).ext (HLe.refl B) (fun _ _ h => h) (ne _ hu)
  · rw [List.length_set] at hj
    rw [setF_ne fun z => by have := Sum.inr.inj z; omega]
    exact W.cbare j hj
  · by_cases hu : u = .inr k
    · rw [hu, setF_same]; exact List.nodup_cons.mpr ⟨ah, nd⟩
    · rw [setF_ne hu]; exact W.nd u
  · by_cases h1 : u = .inr k
    · subst h1
      rw [setF_same] at m
      rw [setF_ne (Ne.symm hu)]
      rcases List.mem_cons.mp m with rfl | m
      · exact W.dj _ u' hu b ma
      · exact free b m u' (Ne.symm hu)
    · rw [setF_ne h1] at m
      by_cases h2 : u' = .inr k
      · subst h2
        rw [setF_same]
        intro m'
        rcases List.mem_cons.mp m' with rfl | m'
        · exact W.dj u _ hu b m ma
        · exact free b m' u h1 m
      · rw [setF_ne h2]; exact W.dj u u' hu b m
  · by_cases h1 : u = .inr k
    · rw [h1, setF_same] at m
      rcases List.mem_cons.mp m with rfl | m
      · exact hB
      · exact out b m
    · rw [setF_ne h1] at m; exact W.out u b m
theorem Stp.objChg {q : Bool} {B0 H0 : Hp} {φ0 : Fp} {α0 : List Addr} (s : Stp q B0 H0 φ0 α0 B H φ α) {k : Nat} {a : Addr} {g h : List Addr} {o : HO} (hf : φ (.inr k) = a :: g) (hn : ∀ b ∈ h, (∃ w, b ∈ φ w) ∨ ((∃ w, b ∈ φ0 w) ∨ H0 b = none)) :
    Stp false B0 H0 φ0 α0 B (upd H a o) (setF φ (.inr k) (a :: h)) α := by
  have ma : a ∈ φ (.inr k) := by rw [hf]; exact List.mem_cons_self
  refine ⟨fun b u e n => ?_, fun u b m => ?_, s.bnew, s.mono, s.pre, fun z => nomatch z⟩
  · have h1 := s.frame b u e n
    by_cases hb : b = a
    · subst hb
      rcases s.new _ b ma with ⟨w, m⟩ | m
      · exact (n w m).elim
      · rw [m] at e; cases e
    · rw [upd_oth hb]; exact h1
  · by_cases h1 : u = .inr k
    · rw [h1, setF_same] at m
      rcases List.mem_cons.mp m with rfl | m
      · exact s.new _ b ma
      · rcases hn b m with ⟨w, h⟩ | h
        · exact s.new w b h
        · exact h
    · rw [setF_ne h1] at m; exact s.new u b m
/-- a cell's object, all told, from now on shared -/
theorem Wd.freeze (W : Wd K B H σ α φ env st) {k cl : Nat} {a : Addr} {fs : List D} (hs : st[k]? = some (.obj cl fs)) (hk : α[k]? = some a) :
    ∃ B', Wd K B' H σ α (setF φ (.inr k) []) env (st.set k .gone) ∧ Rep K B' H α (.ins cl (fzL fs)) (.ref a) [] ∧ Stp true B H φ α B' H (setF φ (.inr k) []) α := by
  obtain ⟨dx, vs, g, hH, cf, r, hf⟩ := W.cell k _ a hs hk
  have hb := addB_le (B := B) (H := H) (W.out (.inr k))
  have ma : a ∈ φ (.inr k) := by rw [hf]; exact List.mem_cons_self
  have hl : k < st.length := (List.getElem?_eq_some_iff.mp hs).1
  refine ⟨addB B H (φ (.inr k)), ⟨addB_heap W.le, W.len, fun j d' h => ?_, fun j h => ?_, by rw [List.length_set]; exact W.clen, fun j c q h1 h2 => ?_, fun j h => ?_, fun w => ?_, fun w w' ne b m => ?_, fun w b m => ?_⟩, ?_, ⟨fun _ _ e _ => e, fun w b m => ?_, fun b o h => ?_, hb, fun _ _ h => h, fun _ => HLe.refl H⟩⟩
  · obtain ⟨u, h1, h2⟩ := W.slot j d' h
    exact ⟨u, h1, by rw [setF_ne (show (Sum.inl _ : Ow) ≠ .inr k from fun z => nomatch z)]; exact Rep.ext hb (fun _ _ h => h) d' u _ (fun _ _ _ e => e) h2⟩
  · rw [setF_ne (show (Sum.inl _ : Ow) ≠ .inr k from fun z => nomatch z)]; exact W.bare j h
  · by_cases hj : j = k
    · subst hj
      rw [List.getElem?_set_self hl] at h1; cases h1
      rw [setF_same]; rfl
    · rw [List.getElem?_set_ne (Ne.symm hj)] at h1
      rw [setF_ne fun z => hj (Sum.inr.inj z)]
      exact (W.cell j c q h1 h2).ext hb (fun _ _ h => h) fun _ _ _ e => e
  · rw [List.length_set] at h
    rw [setF_ne fun z => by have := Sum.inr.inj z; omega]; exact W.cbare j h
  · by_cases h : w = .inr k
    · rw [h, setF_same]; exact List.nodup_nil
    · rw [setF_ne h]; exact W.nd w
  · by_cases h : w = .inr k
    · rw [h, setF_same] at m; cases m
    · rw [setF_ne h] at m
      by_cases h' : w' = .inr k
      · rw [h', setF_same]; exact fun z => nomatch z
      · rw [setF_ne h']; exact W.dj w w' ne b m
  · by_cases h : w = .inr k
    · rw [h, setF_same] at m; cases m
    · rw [setF_ne h] at m
      rw [addB_out (W.dj w (.inr k) h b m)]; exact W.out w b m
  · exact ⟨a, dx, vs, rfl, by rw [addB_in ma]; exact hH, cf, RepL.fz hb fs vs g (fun b m o e => by rw [addB_in (by rw [hf]; exact List.mem_cons_of_mem _ m)]; exact e) r, rfl⟩
  · by_cases h : w = .inr k
    · rw [h, setF_same] at m; cases m
    · rw [setF_ne h] at m; exact .inl ⟨w, m⟩
  · by_cases m : b ∈ φ (.inr k)
    · exact .inr (.inl ⟨_, m⟩)
    · rw [addB_out m] at h; exact .inl h
end
theorem flds_few : ∀ cl : Nat, (fldsOf cl).length ≤ 20 := by
  have h : (clsT.all fun i => decide (i.flds.length ≤ 20)) = true := by decide +kernel
  intro cl
  unfold fldsOf
  split
  · rename_i i e
    exact of_decide_eq_true (List.all_eq_true.mp h _ (List.mem_of_getElem? e))
  · exact Nat.zero_le _
theorem zipF_few (cl : Nat) (vs : List V) : (zipF cl vs).length < 1000 := by
  have := flds_few cl
  unfold zipF
  rw [List.length_zip, List.length_map]
  omega
theorem putW_inv {s : Stt} {x : D} {n : Nat} {d : D} {K : Stt → Prop} (h : putW s x n d K) : ∃ k cl fs i fs', x = .ptr k ∧ s[k]? = some (.obj cl fs) ∧ fldIx cl n = some i ∧ ((i < fs.length ∧ fs' = fs.set i d) ∨ (i = fs.length ∧ fs' = fs ++ [d])) ∧ K (s.set k (.obj cl fs')) := by
  cases x with
  | ptr k =>
    unfold putW at h
    simp only at h
    split at h
    · rename_i cl fs e
      obtain ⟨i, hi, h⟩ := natW_inv h
      split at h
      · rename_i l; exact ⟨k, cl, fs, i, _, rfl, e, hi, .inl ⟨l, rfl⟩, h⟩
      · split at h
        · rename_i l; exact ⟨k, cl, fs, i, _, rfl, e, hi, .inr ⟨l, rfl⟩, h⟩
        · exact h.elim
    · exact h.elim
  | _ => exact h.elim
section
variable {X : Cx} {c : Cg} {o e : Expr} {ie : IE} {pos p' : Pos}
theorem ss_setF {v n : Nat} (hK : X.K = c.K) (ho : PE X o (tVar v)) (he : PE X e (TE_ c ie)) (hs : swapsWith e (some (.Attribute o (fldN n) p')) pos.line X.env = pure false) : PS X (.Assign [.Attribute o (fldN n) p'] e pos) (TS_ c (.setF v n ie)) := PS.imp (ps_fld ho he hs) fun D σ H => by
  rintro ⟨B, φ, α, env, st, Q, W, w, p⟩
  rw [hK]
  refine ⟨B, φ, α, env, st, _, _, W, w, fun d e1 s1 k u B1 H1 φ1 α1 f W1 s t => ?_, p.ex σ⟩
  have s' := s.weak (q2 := false) fun h => nomatch h
  obtain ⟨x, hx, k⟩ := getV_some k
  obtain ⟨j, cl, fs, i, fs', rfl, hj, hi, hfs, k⟩ := putW_inv k
  obtain ⟨ov, hv, a, ha, rfl, _⟩ := W1.slot v _ hx
  obtain ⟨dx, vs, g, hH, cf, r, hf⟩ := W1.cell j _ a hj ha
  have nda : (a :: g).Nodup := hf ▸ W1.nd _
  have ma : a ∈ φ1 (.inr j) := by rw [hf]; exact List.mem_cons_self
  have apart : ∀ b ∈ a :: g, b ∉ f := fun b m m' => t.free b m' (.inr j) (hf ▸ m)
  obtain ⟨vs', h, r', nd', hsub, hput⟩ : ∃ vs' h, RepL c.K B1 H1 α1 fs' vs' h ∧ h.Nodup ∧ (∀ b ∈ h, b ∈ g ∨ b ∈ f) ∧ putF (fldN n) u (zipF cl vs) = zipF cl vs' := by
    rcases hfs with ⟨hl, rfl⟩ | ⟨hl, rfl⟩
    · obtain ⟨h, h1, h2, h3⟩ := RepL.set i hl r t.rep (List.nodup_cons.mp nda).2 t.nd fun b m => apart b (List.mem_cons_of_mem _ m)
      exact ⟨_, h, h1, h2, h3, zip_put (flds_lt cl) hi (by rw [← r.length]; exact hl)⟩
    · refine ⟨vs ++ [u], g ++ (f ++ []), RepL.append r ⟨u, [], f, [], rfl, t.rep, ⟨rfl, rfl⟩, rfl⟩, ?_, fun b m => ?_, zip_new (flds_lt cl) (by rw [← r.length, ← hl]; exact hi)⟩
      · rw [List.append_nil]
        exact List.nodup_append.mpr ⟨(List.nodup_cons.mp nda).2, t.nd, fun b m b' m' z => apart b (List.mem_cons_of_mem _ m) (z ▸ m')⟩
      · rw [List.append_nil] at m; exact List.mem_append.mp m
  have ah : a ∉ h := fun m => by
    rcases hsub a m with m | m
    · exact (List.nodup_cons.mp nda).1 m
    · exact apart a List.mem_cons_self m
  refine ⟨_, hv, a, _, dx, _, rfl, hH, cf.cls, cf.noat n (List.mem_of_getElem? (fIx_at hi).1), zipF_few _ _, ?_⟩
  rw [hput]
  have ext : RepL c.K B1 (upd H1 a (.ins (clsA c.K cl) dx (zipF cl vs'))) α1 fs' vs' h := RepL.ext (HLe.refl B1) (fun _ _ h => h) _ _ _ (fun b m q e => by
    have : b ≠ a := fun z => by subst z; exact ah m
    rw [upd_oth this]; exact e) r'
  have W2 := W1.objChg (o := .ins (clsA c.K cl) dx (zipF cl vs')) (c1 := .obj cl fs') hj ha hf ⟨dx, vs', h, upd_self, cf, ext, rfl⟩ nd' ah (fun b m => by
      rcases hsub b m with m | m
      · exact W1.out (.inr j) b (by rw [hf]; exact List.mem_cons_of_mem _ m)
      · exact t.out b m) (fun b m w hw => by
      rcases hsub b m with m | m
      · exact fun m' => W1.dj w (.inr j) hw b m' (by rw [hf]; exact List.mem_cons_of_mem _ m)
      · exact t.free b m w)
  have s2 := s'.objChg (h := h) (o := .ins (clsA c.K cl) dx (zipF cl vs')) hf fun b m => by
      rcases hsub b m with m | m
      · exact .inl ⟨.inr j, by rw [hf]; exact List.mem_cons_of_mem _ m⟩
      · exact .inr (t.new b m)
  exact p.nx _ _ k _ B1 _ _ α1 W2 s2
end
end Ev

namespace Ev
open PySem PySem.Spec PyProof.Rows L2
/-- StartError.__init__(self, what) -/
def spX (K : Frag) : Sp := fun vs H Q E => ∃ a C v, vs = [V.ref a, v] ∧ OexC K C ∧ PySem.W.findIn K (.ref C) "what" = some none ∧ H a = some (exo a C none) ∧
  ∀ dx, H dx = none → dx ≠ a → Q .non (upd (upd H dx (exd dx [("what", v)])) a (exo a C (some dx)))
structure ExcOk (X : Cx) (k : Nat) : Prop where
  f : ExcF X.K k
  t : OexC X.K (excA X.K k)
  mg : X.mg (excT.getD k "") = some (.ref (excA X.K k))
  ini : ∃ (fI : Addr) (m : Nat) (fd : FuncData) (ps : List Str), PySem.W.findIn X.K (.ref (excA X.K k)) "__init__" = some (some (.ref fI)) ∧ PySem.W.typeIn X.K (.ref fI) = some (.type "function") ∧
    FnOk X.prog X.w X.K X.mg X.base (CX X.prog X.w) m fI fd ps (spX X.K) ∧ Room (m + 1) X.A ∧ Binds X.K fd ps []
theorem upd_del {H : Hp} {a d : Addr} {o u w : HO} (ha : H a = none) (hd : d ≠ a) : upd (del (upd (upd H d u) a o) a) d w = upd H d w := by
  funext b
  by_cases h1 : b = d
  · rw [h1, upd_same, upd_same]
  · rw [upd_ne h1, upd_ne h1]
    by_cases h2 : b = a
    · rw [h2, del_same, ha]
    · rw [del_ne h2, upd_ne h2, upd_ne h1]
section
variable {X : Cx} {c : Cg} {e : Expr} {ie : IE} {k : Nat} {p pos pos' : Pos}
theorem ss_raise (hK : X.K = c.K) (hc : X.calm = true) (tk : Takes X c.W) (E : ExcOk X k) (hx : Passes (CX X.prog X.w) X (fun _ _ _ => False)) (hg : Gl X (excT.getD k "")) (hdb : (excT.getD k "" == ("__debug__" : Str)) = false) (he : PE X e (TE_ c ie))
    (hs : starEach [e] X.env = (false, eval e X.env) :: starEach [] X.env) : PS X (.Raise (some (.Call (.Name (excT.getD k "") p) [e] [] pos)) none pos') (TS_ c (.raise_ k ie)) := by
  obtain ⟨fI, m, fd, ps, i1, i2, F, hr, hb⟩ := E.ini
  refine PS.imp (ps_raise hc tk (pmk_oex E.t i1 i2 F hr hb .nil hx hg E.mg (pa_cons he pa_nil hs) hdb hs)) fun D σ H => ?_
  rintro ⟨B, φ, α, env, st, Q, W, w, q⟩
  refine ⟨B, φ, α, env, st, _, _, W, w, fun d e1 s1 kx v B1 H1 φ1 α1 f W1 s t => ?_, q.ex σ⟩
  obtain ⟨B2, W2, r2, s2⟩ := share_one s W1 t
  refine ⟨by simp, fun a ha => ⟨a, _, v, rfl, E.t, E.f.no, upd_same, fun dx hd hda => ⟨rfl, dx, [("what", v)], upd_same, ?_, ?_, ?_⟩⟩⟩
  · rw [upd_ne hda, upd_same]
  · rw [upd_ne hda] at hd; exact hd
  · have hd' : H1 dx = none := by rw [upd_ne hda] at hd; exact hd
    have e0 : upd (upd H1 a (exo a (excA X.K k) none)) dx (exd dx [("what", v)]) = upd (upd H1 a (exo a (excA X.K k) none)) dx (exd dx [("what", v)]) := rfl
    have e1 : upd (del (upd (upd (upd H1 a (exo a (excA X.K k) none)) dx (exd dx [("what", v)])) a (exo a (excA X.K k) (some dx))) a) dx (.xd [("what", v)]) = upd H1 dx (.xd [("what", v)]) := by
      funext b
      by_cases h1 : b = dx
      · rw [h1, upd_same, upd_same]
      · rw [upd_ne h1, upd_ne h1]
        by_cases h2 : b = a
        · rw [h2, del_same, ha]
        · rw [del_ne h2, upd_ne h2, upd_ne h1, upd_ne h2]
    rw [e1]
    obtain ⟨W3, s3⟩ := W2.allocB hd' (.xd [("what", v)])
    refine q.ex σ _ _ _ kx _ _ _ _ _ _ W3 ((s2.trans s3).weak fun h => nomatch h) ⟨dx, v, ?_, rfl, upd_same, ?_, ?_⟩
    · rw [hK]
    · rw [← hK]; exact E.f
    · exact Rep.ext s3.mono (fun _ _ h => h) _ _ _ (fun _ h => nomatch h) r2
end
end Ev

namespace Ev
open PySem PySem.Spec PyProof.Rows L2
theorem exq_ok {P : Program} {w : World} {H : Hp} {h : Heap} {a C dx : Addr} {o : Obj} {vs : Array Value} (e : h.get? a = some o) (h1 : o.cls = .ref C) (h2 : o.dict = some dx) (h3 : o.data = .fields vs) : ObjOk P w H h a (exq a C dx) :=
  ⟨⟨o, e, h1, h2, vs, h3⟩, ⟨o, e⟩, fun g1 g2 z k => by
    obtain ⟨o', e', z⟩ := z
    exact ⟨o', k _ e', z⟩⟩
section
variable {X : Cx} {pins : List (Addr × Obj)} {σ : LSt} {H : Hp} {s : Shared}
/-- a thing that nobody tells of is told of, as it stands -/
theorem Inv_tell (I : Inv X pins σ H s) {a C dx : Addr} (na : H a = none) (nL : a ≠ X.env.locals) (nC : ∀ x c, X.env.cells.lookup x = some c → c ≠ a)
    (h0 : ∀ o, X.s_0.heap.get? a = some o → False) (ok : ObjOk X.prog X.w (upd H a (exq a C dx)) s.heap a (exq a C dx)) (np : ∀ p ∈ X.pn ++ pins, p.1 ≠ a) : Inv X pins σ (upd H a (exq a C dx)) s where
  ok := I.ok
  os := I.os
  bare := I.bare
  base := {
    keep := I.base.keep
    slot := I.base.slot
    free := fun b o e n hb => by
      by_cases z : b = a
      · subst z; exact (h0 o e).elim
      · rw [upd_ne z]; exact I.base.free b o e n hb
    there := I.base.there
    tups := fun b xs e => by
      have := I.base.tups b xs e
      rw [upd_ne (ne_of_none this na)]; exact this
    frzs := fun b o xs e => by
      have := I.base.frzs b o xs e
      rw [upd_ne (ne_of_none this na)]; exact this
    tbls := fun b ps e => by
      obtain ⟨more, e⟩ := I.base.tbls b ps e
      exact ⟨more, by rw [upd_ne (ne_of_none e na)]; exact e⟩ }
  loc := I.loc
  cell := I.cell
  free := by rw [upd_ne (Ne.symm nL)]; exact I.free
  freeC := fun x c e => by rw [upd_ne (nC x c e)]; exact I.freeC x c e
  pin := fun p hp => by
    obtain ⟨h1, h2, h3⟩ := I.pin p hp
    exact ⟨h1, by rw [upd_ne (np p hp)]; exact h2, h3⟩
  hok := fun b o e => by
    by_cases z : b = a
    · subst z; rw [upd_same] at e; cases e; exact ok
    · rw [upd_ne z] at e
      exact (I.hok b o e).stay (fun _ _ _ h => h) (fun c h => by rw [upd_ne (ne_of_none h na)]; exact h) fun c xs h => by rw [upd_ne (ne_of_none h na)]; exact h
  len := I.len
theorem Inv_in (I : Inv X pins σ H s) (a : Addr) : Inv (X.suite a (X.pn ++ pins)) [] σ H s :=
  ⟨I.ok.suite _ _, I.os, I.bare, I.base, I.loc, I.cell, I.free, I.freeC, fun p hp => I.pin p (by rw [List.append_nil] at hp; exact hp), I.hok, I.len⟩
theorem Inv_out {a : Addr} (I : Inv (X.suite a (X.pn ++ pins)) [] σ H s) (ok : X.Ok) : Inv X pins σ H s :=
  ⟨ok, I.os, I.bare, I.base, I.loc, I.cell, I.free, I.freeC, fun p hp => I.pin p (by rw [List.append_nil]; exact hp), I.hok, I.len⟩
end
/-- behind the suite its name is gone -/
def endK (i : Nat) (D : Ends) : Ends := { nx := fun σ H => D.nx (σ.set i none) H, rt := D.rt, bk := fun σ H => D.bk (σ.set i none) H, ct := fun σ H => D.ct (σ.set i none) H }
/-- what the clause asks of a refusal of the body's -/
def wKp (K : Frag) (cv : Value) (i : Nat) (ts : TS) (Wout : WX) (D : Ends) : WX := fun cls d σ H =>
  ∃ b, PySem.W.exmOne K cls cv = some b ∧ (b = false → Wout cls d σ H) ∧
    (b = true → ∃ C dx, cls = .ref C ∧ d = some dx ∧ ∀ a, H a = none → ts (endK i D) (σ.set i (some (.ref a))) (upd H a (exq a C dx)))
section
variable {X : Cx} {x n : Str} {cv : Value} {i : Nat} {body suite : List Stmt} {b₀ : Stmt} {np pos pos' : Pos} {tb : WX → TS} {ts : TS} {Wout : WX}
/-- an end of the suite, then of the clause -/
theorem suite_end {pins : List (Addr × Obj)} {a : Addr} {D : Ends} {f : Flow} {s6 : Shared} (ok : X.Ok) (hN : X.N.Nodup) (hi : X.N[i]? = some n) (hln : X.env.kindOf n = some .local) (h : SP (X.suite a (X.pn ++ pins)) [] (endK i D) f s6) :
    wpAny (model X.prog X.w) X.A (do bindName X.env n .none; unbindBehindTheSuite X.env n pos') (fun _ s7 => SP X pins D f s7) X.xe s6 := by
  cases f with
  | ret u =>
    obtain ⟨v, σ', H', J, r, q⟩ := h
    exact gone_ok (Inv_out J ok) hN hi hln fun s7 J7 => ⟨v, _, H', J7, r, q⟩
  | next =>
    obtain ⟨σ', H', J, q⟩ := h
    exact gone_ok (Inv_out J ok) hN hi hln fun s7 J7 => ⟨_, H', J7, q⟩
  | brk =>
    obtain ⟨σ', H', J, q⟩ := h
    exact gone_ok (Inv_out J ok) hN hi hln fun s7 J7 => ⟨_, H', J7, q⟩
  | cont =>
    obtain ⟨σ', H', J, q⟩ := h
    exact gone_ok (Inv_out J ok) hN hi hln fun s7 J7 => ⟨_, H', J7, q⟩
/-- what holds where a refusal has come to the frame of the try -/
structure Come (X : Cx) (pins : List (Addr × Obj)) (a : Addr) (cls : Value) (d : Option Addr) (σ : LSt) (H : Hp) (s : Shared) : Prop where
  inv : Inv X pins σ H s
  na : H a = none
  nL : a ≠ X.env.locals
  nF : a ∉ X.fs
  nC : ∀ x c, X.env.cells.lookup x = some c → c ≠ a
  h0 : ∀ o, X.s_0.heap.get? a = some o → False
  np : ∀ p ∈ X.pn ++ pins, p.1 ≠ a
  ob : ∃ o vs, s.heap.get? a = some o ∧ Zc cls d o ∧ o.data = .fields vs
theorem come_of {pins : List (Addr × Obj)} {a : Addr} {B : Heap} {sI s' : Shared} {h : Heap} {σ : LSt} {H : Hp} {cls : Value} {d : Option Addr} (hs : X.stack = X.env :: X.outer) (hf : X.env.frame = some X.env.locals) (hex : X.ex = []) (J : Inv X pins σ H sI)
    (nb : ∀ b o, sI.heap.get? b = some o → b ∉ frs X.stack → B.get? b = some o) (fl : HandSPX.FlyingZ B (X.env :: X.outer) a (Zc cls d) h) (up : sI.heap.UpToSlots h) (os : s'.os = sI.os) (ag : AllBare s'.gens) (na : H a = none) : Come X pins a cls d σ H { s' with heap := h } := by
  have fl' := fl
  obtain ⟨k1, k2, k3, k4⟩ := fl'
  obtain ⟨oe, vs, he, hz, hd⟩ := fl.there
  have nfr : a ∉ frs (X.env :: X.outer) := fun m => by
    obtain ⟨_, o', e', nf⟩ := k3.mem m
    rw [he] at e'; cases e'
    exact nf _ hd
  have gone : ∀ b o, sI.heap.get? b = some o → b ≠ a := fun b o e z => by
    subst z
    have := nb b o e (by rw [hs]; exact nfr)
    rw [k2] at this; cases this
  exact {
    inv := J.landed nb k1 up os ag
    na := na
    nL := fun z => nfr (List.mem_filterMap.mpr ⟨X.env, List.mem_cons_self, by rw [hf, z]⟩)
    nF := fun m => by
      obtain ⟨e, he, q⟩ := List.mem_filterMap.mp m
      exact nfr (List.mem_filterMap.mpr ⟨e, List.mem_cons_of_mem _ he, q⟩)
    nC := fun x c e => by
      obtain ⟨v, o, ho, _⟩ := J.cell x c e
      exact gone c o ho
    h0 := fun o e => by
      obtain ⟨o', e'⟩ := J.base.there a o e (by rw [hex]; exact fun z => nomatch z)
      exact gone a o' e' rfl
    np := fun p hp => gone p.1 p.2 (J.pin p hp).1
    ob := ⟨oe, vs, he, hz, hd⟩ }
theorem ps_keep (hs : X.stack = X.env :: X.outer) (hf : X.env.frame = some X.env.locals) (hex : X.ex = []) (hN : X.N.Nodup) (hi : X.N[i]? = some n) (hln : X.env.kindOf n = some .local) (hc : Names X x cv) (tk : Takes X Wout)
    (hb : ∀ (W : WX) (pn : List (Addr × Obj)) (xe : Value → Shared → Prop), Takes (X.tr pn xe) W → PassesOwn (model X.prog X.w) X.A X.env xe → PSs (X.tr pn xe) body (tb W))
    (hsu : ∀ (a : Addr) (pn : List (Addr × Obj)), PSs (X.suite a pn) (b₀ :: suite) ts) :
    PS X (.Try body [.ExceptHandler (some (.Name x np)) (some n) (b₀ :: suite) pos'] [] [] pos) (fun D σ H => tb (wKp X.K cv i ts Wout D) D σ H) := by
  refine ⟨fun pins s σ H D I h => wpAny_Try_except (wpAny_mono ((hb (wKp X.K cv i ts Wout D) (X.pn ++ pins) _ (fun u s' xx => ?_) PassesOwn.looking).run [] s σ H D (I.toTry _) h) (fun f s1 hsp => ?_) (fun e s1 he => he))⟩
  · obtain ⟨a, B, sI, pins', σ', H', cls, d, rfl, J', nb, up, sky, na, os, ag, b, hb1, hno, hyes⟩ := xx
    have ok := I.ok
    have J : Inv X pins σ' H' sI := J'.ofTry ok
    refine Sky.land (outer := X.outer) Zc.steady (by rw [ok.frames, hs]) hf (by rw [← hs]; exact sky) fun h3 fl3 up3 => ?_
    have C3 := come_of hs hf hex J nb fl3 (up.trans up3) os ag na
    obtain ⟨oe3, vs3, he3, hz3, hd3⟩ := C3.ob
    have S3 := C3.inv.suite he3 hd3 C3.na C3.nL C3.nF
    have LT : PySem.W.Looks (model X.prog X.w) h3 (typeOf (.ref a)) cls := fun A Q E s k q => wpAny_typeOf_ref (k _ _ he3) (by rw [hz3.1]; exact q)
    have LM := PySem.W.exm_one (M := model X.prog X.w) (C3.inv.kIn) LT hb1
    refine wpAny_handleBy_cons (codeAny_handlers_test ?_) (by intro q; cases q)
    have test : ∀ {Q : Value → Shared → Prop} {E : Value → Shared → Prop}, Q cv { s' with heap := h3 } → wpAny (model X.prog X.w) (X.A.mark (some (.ref a))) (eval (.Name x np) X.env) Q E { s' with heap := h3 } := fun {Q E} q => by
      rcases hc with ⟨g1, g2, g3 | ⟨g3, g4, g5⟩⟩
      · exact ld_glob (X := X.suite a ((a, oe3) :: (X.pn ++ pins))) S3 g1 g3 q g2
      · exact ld_blt (X := X.suite a ((a, oe3) :: (X.pn ++ pins))) S3 g1 g3 g4 q g5 g2
    refine test (LM.here ?_)
    cases b with
    | false =>
      refine wpAny_handleBy_nil ?_
      have fl3' := fl3
      obtain ⟨_, _, _, oe, vs, T, oT, ts', he, hz, hd, h1, _⟩ := fl3'
      refine wpAny_bind (wpAny_field he hd h1 ?_)
      rw [if_neg (show ¬ ((Value.ref T == Value.none) = true) from by simp)]
      have go : wpAny (model X.prog X.w) X.A (setFlight (.ref a) X.env.frame) (fun _ s4 => wpAny (model X.prog X.w) X.A (throw (.ref a) : Sem Flow) (SP X pins D) X.xe s4) X.xe { s' with heap := h3 } := by
        rw [hf]
        refine HandSPX.setFlight_upZ fl3 fun h4 hh4 up4 => wpAny_throw (tk _ _ ?_)
        exact ⟨a, B, sI, pins, σ', H', cls, d, rfl, J, nb, (up.trans up3).trans up4, .inr (.inr (by rw [hs]; exact hh4)), na, os, ag, hno rfl⟩
      first
        | exact wpAny_bind (wpAny_pure (wpAny_bind go))
        | exact wpAny_bind go
    | true =>
      obtain ⟨C, dx, rfl, rfl, hgo⟩ := hyes rfl
      refine codeAny_handlers_suite_as (HandSPX.lands_againZ fl3 fun h4 fl4 up4 => ?_)
      have C4 := come_of hs hf hex J nb fl4 ((up.trans up3).trans up4) os ag na
      obtain ⟨oe4, vs4, he4, hz4, hd4⟩ := C4.ob
      have J4 := Inv_in (Inv_tell (C := C) (dx := dx) C4.inv C4.na C4.nL C4.nC C4.h0 (exq_ok he4 hz4.1 hz4.2 hd4) C4.np) a
      refine store_ok (X := X.suite a (X.pn ++ pins)) (v := .ref a) J4 hN hi (.inl hln) rfl (fun s5 S5 => ?_) (.inr hln)
      exact wpAny_mono ((hsu a (X.pn ++ pins)).run [] s5 _ _ _ S5 (hgo a na)) (fun f s6 h6 => suite_end ok hN hi hln h6) fun _ _ z => z.elim
  · cases f with
    | next =>
      obtain ⟨σ', H', J', q⟩ := hsp
      exact wpAny_execs_nil ⟨σ', H', J'.ofTry I.ok, q⟩
    | ret u =>
      obtain ⟨v, σ', H', J', r, q⟩ := hsp
      exact ⟨v, σ', H', J'.ofTry I.ok, r, q⟩
    | brk =>
      obtain ⟨σ', H', J', q⟩ := hsp
      exact ⟨σ', H', J'.ofTry I.ok, q⟩
    | cont =>
      obtain ⟨σ', H', J', q⟩ := hsp
      exact ⟨σ', H', J'.ofTry I.ok, q⟩
end
theorem wipe_one (σ : LSt) (i : Nat) : L2.wipe σ [i] = σ.set i none := rfl
theorem Wd.unset {K : Frag} {B H : Hp} {σ : LSt} {α : List Addr} {φ : Fp} {env : Env} {st : Stt} (W : Wd K B H σ α φ env st) (i : Nat) : Wd K B H (σ.set i none) α (wipeF φ [i]) (env.set i none) st := W.wipe [i]
theorem Wd.putX {K : Frag} {B H : Hp} {σ : LSt} {α : List Addr} {φ : Fp} {env : Env} {st : Stt} (W : Wd K B H σ α φ env st) (i : Nat) {d : D} {v : V} (r : Rep K B H α d v []) :
    ∃ φ', Wd K B H (σ.set i (some v)) α φ' (env.set i (some d)) st ∧ Stp true B H φ α B H φ' α := by
  by_cases hi : i < env.length
  · exact ⟨_, W.put (B0 := B) (H0 := H) (φ0 := φ) hi (Tmp.of_nil r), Stp.put Stp.refl (Tmp.of_nil (K := K) (d := d) (v := v) r)⟩
  · have h1 : env.set i (some d) = env := List.set_eq_of_length_le (by omega)
    have h2 : σ.set i (some v) = σ := List.set_eq_of_length_le (by rw [W.len]; omega)
    rw [h1, h2]
    exact ⟨φ, W, Stp.refl⟩
section
variable {X : Cx} {c : Cg} {x n : Str} {i k : Nat} {body suite : List Stmt} {b₀ : Stmt} {np pos pos' : Pos} {ib isu : List IS}
theorem ss_try (hK : X.K = c.K) (hs : X.stack = X.env :: X.outer) (hf : X.env.frame = some X.env.locals) (hex : X.ex = []) (hN : X.N.Nodup) (hi : X.N[i]? = some n) (hln : X.env.kindOf n = some .local) (hc : Names X x (.ref (excA X.K k))) (tk : Takes X c.W)
    (hm : ∀ j, ExcF X.K j → PySem.W.exmOne X.K (.ref (excA X.K j)) (.ref (excA X.K k)) = some (k == 0 || j == k))
    (hb : ∀ (W : WX) (pn : List (Addr × Obj)) (xe : Value → Shared → Prop), Takes (X.tr pn xe) W → PassesOwn (model X.prog X.w) X.A X.env xe → PSs (X.tr pn xe) body (TSs_ { c with W := W } ib))
    (hsu : ∀ (a : Addr) (pn : List (Addr × Obj)), PSs (X.suite a pn) (b₀ :: suite) (TSs_ c.still isu)) :
    PS X (.Try body [.ExceptHandler (some (.Name x np)) (some n) (b₀ :: suite) pos'] [] [] pos) (TS_ c (.tryS ib k i isu)) := by
  refine PS.imp (ps_keep hs hf hex hN hi hln hc tk hb hsu) fun D σ H => ?_
  rintro ⟨B, φ, α, env, st, Q, W, w, q⟩
  refine ⟨B, φ, α, env, st, _, W, w, q.nx, q.bk, q.ct, q.rt, fun σ' e env' st' kx B' H' φ' α' cls dx W' s' xr => ?_⟩
  obtain ⟨d, v, rfl, rfl, hd, cf, rv⟩ := xr
  have cf' : ExcF X.K e.1 := by rw [hK]; exact cf
  refine ⟨isExc k e, by have := hm _ cf'; rw [hK] at this ⊢; exact this, fun hz => ?_, fun hz => ⟨_, d, rfl, rfl, fun a na => ?_⟩⟩
  · have kx : if isExc k e = true then _ else Q.ex e env' st' := kx
    rw [hz, if_neg Bool.false_ne_true] at kx
    exact q.ex σ' e env' st' kx B' H' φ' α' _ _ W' s' ⟨d, v, rfl, rfl, hd, cf, rv⟩
  · have kx : if isExc k e = true then wSs c.F isu (env'.set i (some (.exc e.1 e.2))) st' (unbE i Q) else Q.ex e env' st' := kx
    rw [if_pos hz] at kx
    obtain ⟨W2, s2⟩ := W'.allocB na (exq a (excA c.K e.1) d)
    have hda : d ≠ a := fun z => by
      have := W'.le _ _ hd
      rw [z, na] at this; cases this
    have rx : Rep c.K (upd B' a (exq a (excA c.K e.1) d)) (upd H' a (exq a (excA c.K e.1) d)) α' (.exc e.1 e.2) (.ref a) [] :=
      ⟨a, d, v, rfl, upd_same, by rw [upd_ne hda]; exact hd, cf, Rep.ext s2.mono (fun _ _ h => h) _ _ _ (fun _ h => nomatch h) rv, rfl⟩
    obtain ⟨φ3, W3, s3⟩ := W2.putX i rx
    have p := q.step ((s'.trans s2).trans s3)
    exact ⟨_, φ3, α', _, st', unbE i Q, W3, kx, {
      nx := fun e s k σ B H φ α W s' => p.nx _ _ k _ _ _ _ _ (W.unset i) (s'.wipe [i])
      bk := fun e s k σ B H φ α W s' => p.bk _ _ k _ _ _ _ _ (W.unset i) (s'.wipe [i])
      ct := fun e s k σ B H φ α W s' => p.ct _ _ k _ _ _ _ _ (W.unset i) (s'.wipe [i])
      rt := p.rt
      ex := fun σ' e env st k => k.elim }⟩
end
end Ev

namespace Ev
open PySem PySem.Spec PyProof.Rows L2
def rIsX (K : Frag) : List V → Hp → VK → Prop := fun xs H Q => ∃ (a dx : Addr) (j : Nat) (fs : List (Str × V)) (y : V) (cv : Value) (b : Bool), xs = [.ref a, y] ∧ H a = some (exq a (excA K j) dx) ∧ H dx = some (.xd fs) ∧ ExcF K j ∧ (∀ u, RelV y u → u = cv) ∧
  PySem.W.kitOne K (.ref (excA K j)) cv = some b ∧ Q (.bl b) H
def rIsXT (K : Frag) : List V → Hp → VK → Prop := fun xs H Q => ∃ (a dx tp : Addr) (j : Nat) (fs : List (Str × V)) (ks : List Nat) (b : Bool), xs = [.ref a, .ref tp] ∧ H a = some (exq a (excA K j) dx) ∧ H dx = some (.xd fs) ∧ ExcF K j ∧
  H tp = some (.tup (ks.map fun k => V.ref (excA K k))) ∧ PySem.W.kitAny K (.ref (excA K j)) (ks.map fun k => Value.ref (excA K k)) = some b ∧ Q (.bl b) H
section
variable {X : Cx}
theorem exq_inst {σ : LSt} {H : Hp} {s : Shared} {pins : List (Addr × Obj)} (I : Inv X pins σ H s) {a C dx : Addr} {fs : List (Str × V)} (ea : H a = some (exq a C dx)) (ed : H dx = some (.xd fs)) : ∃ oe od, PySem.W.InstAt s.heap a oe C (some od) := by
  obtain ⟨oe, ha, hcl, hdi, vs, hd⟩ := exq_at I.hok ea
  have hx : ObjOk X.prog X.w H s.heap dx (.xd fs) := I.hok dx _ ed
  obtain ⟨mA, hns, hr⟩ := hx
  obtain ⟨od, ho, hl⟩ := lookIn_ns hns
  exact ⟨oe, od, ha, hcl, by unfold PySem.W.notCls; rw [hd] <;> rfl, by rw [hdi]; exact ho⟩
theorem refs_eq {K : Frag} : ∀ {ks : List Nat} {us : List Value}, Vals (ks.map fun k => V.ref (excA K k)) us → us = ks.map fun k => Value.ref (excA K k)
  | [], _, h => by cases h; rfl
  | k :: ks, _, h => by
    cases h with
    | cons h1 h2 =>
      have e2 := refs_eq h2
      cases (show _ = Value.ref _ from h1)
      rw [e2]; rfl
theorem call_isX : CallR X (.builtin "isinstance") (rIsX X.K) := by
  intro pins s σ H xs us Q I r h
  obtain ⟨a, dx, j, fs, y, cv, b, rfl, ea, ed, cf, hy, e, q⟩ := h
  obtain ⟨u1, u2, rfl, r1, r2⟩ := vals2 r
  have e2 := hy _ r2
  subst e2
  cases (show u1 = Value.ref a from r1)
  obtain ⟨oe, od, J⟩ := exq_inst I ea ed
  exact PySem.W.kia_one (PySem.W.kitx_exc cf.cl cf.xf.ga cf.xf.gg cf.xf.exC cf.ha cf.hn cf.ht cf.hm) I.kIn J e (fun z => nomatch z) fun tk => ⟨.bl b, H, I.tok tk, rfl, q⟩
theorem call_isXT : CallR X (.builtin "isinstance") (rIsXT X.K) := by
  intro pins s σ H xs us Q I r h
  obtain ⟨a, dx, tp, j, fs, ks, b, rfl, ea, ed, cf, hT, e, q⟩ := h
  obtain ⟨u1, u2, rfl, r1, r2⟩ := vals2 r
  cases (show u1 = Value.ref a from r1)
  cases (show u2 = Value.ref tp from r2)
  obtain ⟨oe, od, J⟩ := exq_inst I ea ed
  obtain ⟨_, its, rv, o, h1, h2, n, h3⟩ := (show ObjOk X.prog X.w H s.heap tp (.tup (ks.map fun k => V.ref (excA X.K k))) from I.hok tp _ hT)
  have e3 := refs_eq rv
  subst e3
  obtain ⟨oc, od', dt, sl⟩ := o
  simp only at h2 h3
  subst h2 h3
  exact PySem.W.kia_tup (PySem.W.kitx_exc cf.cl cf.xf.ga cf.xf.gg cf.xf.exC cf.ha cf.hn cf.ht cf.hm) I.kIn J h1 e (fun z => nomatch z) fun tk => ⟨.bl b, H, I.tok tk, rfl, q⟩
end
theorem isx_inv {ks : List Nat} {d : D} {K : D → Prop} (h : bltW (.isx ks) [d] K) : ∃ j w, d = .exc j w ∧ K (.bl (ks.any fun k => k == 0 || j == k)) := by
  cases d with
  | exc j w => exact ⟨j, w, rfl, h⟩
  | _ => exact (show False from h).elim
section
variable {X : Cx} {c : Cg} {e : Expr} {es : List Expr} {ie : IE} {p pos : Pos} {x : Str}
def TXs (K : Frag) (ks : List Nat) : TA := fun _ H Q => Q (ks.map fun k => V.ref (excA K k)) H
theorem sXs_nil : PA X [] (TXs X.K []) := pa_nil
theorem sXs_cons {k : Nat} {ks : List Nat} {y : Str} {py : Pos} (h : PE X (.Name y py) (tC (.ref (excA X.K k)))) (r : PA X es (TXs X.K ks)) (hs : starEach (.Name y py :: es) X.env = (false, eval (.Name y py) X.env) :: starEach es X.env) : PA X (.Name y py :: es) (TXs X.K (k :: ks)) :=
  PA.imp (pa_cons h r hs) fun _ _ _ h => h
theorem kitAny_exc {K : Frag} {j : Nat} (cf : ExcF K j) : ∀ {ks : List Nat}, (∀ k ∈ ks, ExcM K k) → PySem.W.kitAny K (.ref (excA K j)) (ks.map fun k => Value.ref (excA K k)) = some (ks.any fun k => k == 0 || j == k)
  | [], _ => kitAny_nil
  | k :: ks, h => by
    obtain ⟨h1, h2⟩ := List.forall_mem_cons.mp h
    exact kitAny_cons (h1 j cf).2 (fun e => by rw [List.any_cons, e]; exact kitAny_exc cf h2) fun e => by rw [List.any_cons, e]; rfl
theorem sE_isx {k : Nat} {y : Str} {py : Pos} (hK : X.K = c.K) (hg : Gl X "isinstance") (hm : X.mg "isinstance" = none) (hy : PE X (.Name y py) (tC (.ref (excA X.K k)))) (M : ExcM X.K k)
    (ha : PE X e (TR_ c ie)) (h1 : starEach (e :: [.Name y py]) X.env = (false, eval e X.env) :: starEach [.Name y py] X.env) :
    PE X (.Call (.Name "isinstance" p) [e, .Name y py] [] pos) (TE_ c (.blt (.isx [k]) [ie])) := by
  refine PE.imp (pe_callK1 call_isX hg hm (by decide +kernel) (.inl ⟨_, rfl⟩) (pa_cons ha (sXs_cons hy sXs_nil rfl) h1) (by decide) (by decide) h1 rfl) fun σ H Q => ?_
  rintro ⟨B, φ, α, env, st, Kk, Xk, W, w, q, xk⟩
  refine ⟨B, φ, α, env, st, _, Xk, W, wRs1 w, fun d e1 s1 ⟨_, kx⟩ v B1 H1 φ1 α1 f W1 s r _ => ?_, xk⟩
  obtain ⟨j, wx, rfl, kz⟩ := isx_inv kx
  obtain ⟨a, dx, u, rfl, hq, hd, cf, _, _⟩ := r
  rw [hK] at M ⊢
  refine ⟨a, dx, j, _, _, .ref (excA c.K k), _, rfl, W1.le _ _ hq, W1.le _ _ hd, cf, fun u h => h, (M j cf).2, ?_⟩
  refine q (.bl (k == 0 || j == k)) e1 s1 ?_ _ B1 H1 φ1 α1 [] W1 (s.weak fun h => nomatch h) (Tmp.of_nil ⟨rfl, rfl⟩)
  simpa using kz
theorem sE_isxV {py : Pos} (hK : X.K = c.K) (hg : Gl X "isinstance") (hm : X.mg "isinstance" = none) (hy : PE X (.Name "ValueError" py) (tC (.ty "ValueError")))
    (ha : PE X e (TR_ c ie)) (h1 : starEach (e :: [.Name "ValueError" py]) X.env = (false, eval e X.env) :: starEach [.Name "ValueError" py] X.env) :
    PE X (.Call (.Name "isinstance" p) [e, .Name "ValueError" py] [] pos) (TE_ c (.blt (.isx [0]) [ie])) := by
  refine PE.imp (pe_callK1 call_isX hg hm (by decide +kernel) (.inl ⟨_, rfl⟩) (pa_cons ha (pa_cons hy pa_nil rfl) h1) (by decide) (by decide) h1 rfl) fun σ H Q => ?_
  rintro ⟨B, φ, α, env, st, Kk, Xk, W, w, q, xk⟩
  refine ⟨B, φ, α, env, st, _, Xk, W, wRs1 w, fun d e1 s1 ⟨_, kx⟩ v B1 H1 φ1 α1 f W1 s r _ => ?_, xk⟩
  obtain ⟨j, wx, rfl, kz⟩ := isx_inv kx
  obtain ⟨a, dx, u, rfl, hq, hd, cf, _, _⟩ := r
  rw [hK]
  refine ⟨a, dx, j, _, _, .type "ValueError", _, rfl, W1.le _ _ hq, W1.le _ _ hd, cf, fun u h => h, cf.ve, ?_⟩
  refine q (.bl true) e1 s1 ?_ _ B1 H1 φ1 α1 [] W1 (s.weak fun h => nomatch h) (Tmp.of_nil ⟨rfl, rfl⟩)
  simpa using kz
theorem sE_isxT {ks : List Nat} {tys : List Expr} {k1 : Nat} {p1 : Pos} (hK : X.K = c.K) (hg : Gl X "isinstance") (hm : X.mg "isinstance" = none) (hty : PA X tys (TXs X.K ks)) (M : ∀ k ∈ ks, ExcM X.K k) (hl : ks.length ≤ Lim)
    (ha : PE X e (TR_ c ie)) (h1 : starEach (e :: [.Tuple tys k1 p1]) X.env = (false, eval e X.env) :: starEach [.Tuple tys k1 p1] X.env) :
    PE X (.Call (.Name "isinstance" p) [e, .Tuple tys k1 p1] [] pos) (TE_ c (.blt (.isx ks) [ie])) := by
  refine PE.imp (pe_callK1 call_isXT hg hm (by decide +kernel) (.inl ⟨_, rfl⟩) (pa_cons ha (pa_cons (pe_tup hty) pa_nil rfl) h1) (by decide) (by decide) h1 rfl) fun σ H Q => ?_
  rintro ⟨B, φ, α, env, st, Kk, Xk, W, w, q, xk⟩
  refine ⟨B, φ, α, env, st, _, Xk, W, wRs1 w, fun d e1 s1 ⟨_, kx⟩ v B1 H1 φ1 α1 f W1 s r _ => ⟨by rw [List.length_map]; exact hl, fun pt hp => ?_⟩, xk⟩
  obtain ⟨j, wx, rfl, kz⟩ := isx_inv kx
  rw [hK] at M ⊢
  obtain ⟨W2, s2⟩ := W1.allocB hp (.tup (ks.map fun k => V.ref (excA c.K k)))
  have r2 := Rep.ext s2.mono s2.pre _ v f (fun a m o e => s2.same rfl a o e) r
  obtain ⟨a, dx, u, rfl, hq, hd, cf, _, _⟩ := r2
  refine ⟨a, dx, pt, j, _, ks, _, rfl, W2.le _ _ hq, W2.le _ _ hd, cf, upd_same, kitAny_exc cf M, ?_⟩
  exact q _ e1 s1 kz _ _ _ φ1 α1 [] W2 ((s.trans s2).weak fun h => nomatch h) (Tmp.of_nil ⟨rfl, rfl⟩)
end
end Ev

namespace Ev
open PySem PySem.Spec PyProof.Rows L2
structure Shape where
  n : Nat
  ks : List Str
  pm : List Ar
structure GFn where
  name : Str
  np : Nat
  borrows : Bool
  lends : Bool
  shapes : List Shape
/-- a method of an own class: among its parameters self is the first -/
structure GMeth where
  m : Str
  cl : Nat
  ix : Nat
  np : Nat
  shapes : List Shape
/-- an own class: its __init__'s parameters but self -/
structure GMk where
  name : Str
  cl : Nat
  ix : Nat
  np : Nat
  shapes : List Shape
structure GC where
  fns : List GFn
  cons : List (Str × D)
  bl : List Str
  meths : List GMeth := []
  mks : List GMk := []
  excs : List Nat := []
  vw : List Str := []
  fr : List Str := []
structure FnOfK (G : GC) (X : Cx) (c : Cg) (i : Nat) (f : GFn) : Prop where
  ex : ∃ (k : Nat) (fa : Addr) (fd : FuncData) (ps : List Str), X.mg f.name = some (.ref fa) ∧ PySem.W.keepIn X.K (.ref fa) = true ∧ FnE X.prog X.w X.K X.mg X.base k fa fd ps (spE c.K c i f.np) ∧ Room k X.A ∧
    ∀ s ∈ f.shapes, Shp X.K fd ps s.n s.ks (fun vs => s.pm.map (argV vs))
structure Good (G : GC) (N : List Str) (st sc : Scope) (X : Cx) (c : Cg) : Prop where
  hK : X.K = c.K
  calm : X.calm = true
  gd : X.A.guards = some []
  hu : X.A.units + 65 < cLine
  hN : X.N = N
  nd : X.N.Nodup
  scope : X.env.scope = sc
  stp : ∀ x, (st.names.lookup x = some .local ∨ st.names.lookup x = some .cell) → Loc sc x ∧ (X.fn x = true ∨ sc.names.lookup x = some .local)
  tk : Takes X c.W
  bl : ∀ x ∈ G.bl, X.mg x = none
  cons : ∀ x d, G.cons.lookup x = some d → ∃ u v, X.mg x = some u ∧ RelV v u ∧ ∀ B H α, Rep c.K B H α d v []
  fns : ∀ i f, G.fns[i]? = some f → FnOfK G X c i f
  meths : ∀ g ∈ G.meths, ∀ s ∈ g.shapes, s.pm.length = g.np → MethOk X c g.m s.n s.ks g.cl g.ix s.pm
  mks : ∀ g ∈ G.mks, ∀ s ∈ g.shapes, X.mg g.name = some (.ref (clsA X.K g.cl)) ∧ MkOk X c s.n s.ks g.cl g.ix g.np s.pm
  excs : ∀ k ∈ G.excs, ExcOk X k ∧ ExcM X.K k
theorem Good.mgN {G : GC} {N : List Str} {st sc : Scope} {X : Cx} {c : Cg} (g : Good G N st sc X c) : X.env.scope = sc := g.scope
theorem relS_keep {scope sc : Scope} {x : Str} {k : NameKind} (hk : k ≠ .free) (h : scope.names.lookup x = some k) : (relS scope sc).names.lookup x = some k := lookup_relS_keep hk h
theorem Good.blk {G : GC} {N : List Str} {st sc : Scope} {X : Cx} {c : Cg} (g : Good G N st sc X c) (scope : Scope) (s : Shared) (H : Hp) (C : Addr) (cl : List (Str × Addr)) (fp : List Addr) :
    Good G N scope (relS scope sc) (X.blk s H scope (compEnvC scope cl C X.env) fp) c.still where
  hK := g.hK
  calm := g.calm
  gd := g.gd
  hu := g.hu
  hN := g.hN
  nd := g.nd
  scope := by rw [← g.scope]; rfl
  stp := fun x h => by
    rcases h with h | h
    · exact ⟨.inl (relS_keep (by decide) h), .inr (relS_keep (by decide) h)⟩
    · exact ⟨.inr (relS_keep (by decide) h), .inl (by show (scope.names.lookup x == some .cell) = true; rw [h]; rfl)⟩
  tk := fun u s' ⟨_, _, _, _, _, _, _, _, _, _, _, _, _, _, _, _, w⟩ => w
  bl := g.bl
  cons := g.cons
  fns := fun i f h => ⟨(g.fns i f h).ex⟩
  meths := fun q h s hs l => ⟨(g.meths q h s hs l).nf, (g.meths q h s hs l).ex⟩
  mks := fun q h s hs => ⟨(g.mks q h s hs).1, (g.mks q h s hs).2.cf, (g.mks q h s hs).2.kp, (g.mks q h s hs).2.ex⟩
  excs := fun k h => ⟨⟨(g.excs k h).1.f, (g.excs k h).1.t, (g.excs k h).1.mg, (g.excs k h).1.ini⟩, (g.excs k h).2⟩
theorem Good.tr {G : GC} {N : List Str} {st sc : Scope} {X : Cx} {c : Cg} (g : Good G N st sc X c) {W : WX} {pn : List (Addr × Obj)} {xe : Value → Shared → Prop} (tk : Takes (X.tr pn xe) W) : Good G N st sc (X.tr pn xe) { c with W := W } where
  hK := g.hK
  calm := g.calm
  gd := g.gd
  hu := g.hu
  hN := g.hN
  nd := g.nd
  scope := g.scope
  stp := g.stp
  tk := tk
  bl := g.bl
  cons := g.cons
  fns := fun i f h => ⟨(g.fns i f h).ex⟩
  meths := fun q h s hs l => ⟨(g.meths q h s hs l).nf, (g.meths q h s hs l).ex⟩
  mks := fun q h s hs => ⟨(g.mks q h s hs).1, (g.mks q h s hs).2.cf, (g.mks q h s hs).2.kp, (g.mks q h s hs).2.ex⟩
  excs := fun k h => ⟨⟨(g.excs k h).1.f, (g.excs k h).1.t, (g.excs k h).1.mg, (g.excs k h).1.ini⟩, (g.excs k h).2⟩

def idxF : List Str → Str → Nat → Option Nat
  | [], _, _ => none
  | y :: r, x, n => if y = x then some n else idxF r x (n + 1)
def idx (N : List Str) (x : Str) : Option Nat := idxF N x 0
theorem idxF_at : ∀ {N : List Str} {x : Str} {n i : Nat}, idxF N x n = some i → ∃ j, i = n + j ∧ N[j]? = some x
  | [], _, _, _, h => by cases h
  | y :: r, x, n, i, h => by
    unfold idxF at h
    split at h
    · cases h; rename_i e; subst e; exact ⟨0, rfl, rfl⟩
    · obtain ⟨j, e, h'⟩ := idxF_at h
      exact ⟨j + 1, by omega, h'⟩
theorem idx_at {N : List Str} {x : Str} {i : Nat} (h : idx N x = some i) : N[i]? = some x := by
  obtain ⟨j, e, h'⟩ := idxF_at h
  rw [Nat.zero_add] at e; rw [e]; exact h'
def mapO {α β : Type} (f : α → Option β) : List α → Option (List β)
  | [] => some []
  | a :: r => match f a, mapO f r with
    | some b, some bs => some (b :: bs)
    | _, _ => none
theorem mapO_cons {α β : Type} {f : α → Option β} {a : α} {r : List α} {l : List β} (h : mapO f (a :: r) = some l) : ∃ b bs, f a = some b ∧ mapO f r = some bs ∧ l = b :: bs := by
  unfold mapO at h
  split at h
  · rename_i b bs e1 e2; exact ⟨b, bs, e1, e2, (Option.some.inj h).symm⟩
  · cases h
def star1 : Expr → Bool
  | .Starred _ _ => true
  | _ => false
theorem star_cons {e : Expr} (h : star1 e = false) (es : List Expr) (env : PySem.Env) : starEach (e :: es) env = (false, eval e env) :: starEach es env := by
  cases e <;> first | rfl | cases h
theorem asg_cons {e : Expr} (h : star1 e = false) (es : List Expr) (env : PySem.Env) : assignEach (e :: es) env = (false, assign e env) :: assignEach es env := by
  cases e <;> first | rfl | cases h
theorem star_any {pos : Pos} {env : PySem.Env} : ∀ {es : List Expr}, (∀ e ∈ es, star1 e = false) → (backTo pos (starEach es env)).any (·.1) = false
  | [], _ => rfl
  | e :: r, h => by
    rw [star_cons (h e List.mem_cons_self)]
    show (false || (backTo pos (starEach r env)).any (·.1)) = false
    rw [star_any fun x m => h x (List.mem_cons_of_mem _ m)]; rfl
theorem star_all {pos : Pos} {env : PySem.Env} : ∀ {es : List Expr}, (∀ e ∈ es, star1 e = false) → (backTo pos (starEach es env)).all (fun x => !x.1) = true
  | [], _ => rfl
  | e :: r, h => by
    rw [star_cons (h e List.mem_cons_self)]
    show (true && (backTo pos (starEach r env)).all (fun x => !x.1)) = true
    rw [star_all fun x m => h x (List.mem_cons_of_mem _ m)]; rfl
theorem asg_none {env : PySem.Env} : ∀ {es : List Expr}, (∀ e ∈ es, star1 e = false) → (assignEach es env).findIdx? (·.1) = none ∧ (assignEach es env).length = es.length
  | [], _ => ⟨rfl, rfl⟩
  | e :: r, h => by
    rw [asg_cons (h e List.mem_cons_self)]
    obtain ⟨h1, h2⟩ := asg_none (env := env) fun x m => h x (List.mem_cons_of_mem _ m)
    refine ⟨?_, by rw [List.length_cons, h2]; rfl⟩
    rw [List.findIdx?_cons]
    simp [h1]
abbrev Rec := Scope → Scope → Expr → Option IE
structure ROk (G : GC) (N : List Str) (r : Rec) : Prop where
  se : ∀ st sc X c e ie, Good G N st sc X c → r st sc e = some ie → SE X c e ie
  ns : ∀ st sc e ie, r st sc e = some ie → star1 e = false
  sl : ∀ st sc e ie, r st sc e = some ie → ∀ (a b : Option Expr) d p, e ≠ .Slice a b d p
  fs : ∀ st sc e ie, r st sc e = some ie → ∀ env x, foldedSetIterable e env x = pure x
section
variable {G : GC} {N : List Str} {st sc : Scope} {X : Cx} {c : Cg} {e a b : Expr} {ie : IE} {r : Rec} {pos : Pos} {es : List Expr} {ies : List IE}
theorem noStar (R : ROk G N r) : ∀ {es : List Expr} {ies : List IE}, mapO (r st sc) es = some ies → ∀ e ∈ es, star1 e = false
  | [], _, _, _, m => nomatch m
  | x :: rest, ies, h, e, m => by
    obtain ⟨b, bs, h1, h2, _⟩ := mapO_cons h
    rcases List.mem_cons.mp m with rfl | m
    · exact R.ns _ _ _ _ h1
    · exact noStar R h2 e m
theorem pas (g : Good G N st sc X c) (R : ROk G N r) : ∀ {es : List Expr} {ies : List IE}, mapO (r st sc) es = some ies → PA X es (TAs_ c ies)
  | [], _, h => by cases h; exact sA_nil
  | x :: rest, ies, h => by
    obtain ⟨b, bs, h1, h2, rfl⟩ := mapO_cons h
    exact sA_cons (R.se _ _ _ _ _ _ g h1).E (pas g R h2) (star_cons (R.ns _ _ _ _ h1) _ _)
theorem pasF (g : Good G N st sc X c) (R : ROk G N r) : ∀ {es : List Expr} {ies : List IE}, mapO (r st sc) es = some ies → PA X es (TAs_ c (ies.map .frz))
  | [], _, h => by cases h; exact sA_nil
  | x :: rest, ies, h => by
    obtain ⟨b, bs, h1, h2, rfl⟩ := mapO_cons h
    exact sA_cons (sE_frz (R.se _ _ _ _ _ _ g h1).E) (pasF g R h2) (star_cons (R.ns _ _ _ _ h1) _ _)
theorem prs (g : Good G N st sc X c) (R : ROk G N r) : ∀ {es : List Expr} {ies : List IE}, mapO (r st sc) es = some ies → PA X es (TRs_ c ies)
  | [], _, h => by cases h; exact sR_nil
  | x :: rest, ies, h => by
    obtain ⟨b, bs, h1, h2, rfl⟩ := mapO_cons h
    exact sR_cons (R.se _ _ _ _ _ _ g h1).R (prs g R h2) (star_cons (R.ns _ _ _ _ h1) _ _)
def cConst : Const → Option IE
  | .int i => some (.con (.int i))
  | .str s => some (.con (.str s.cps.toList))
  | .bool b => some (.con (.bl b))
  | .none => some (.con .non)
  | _ => none
theorem cConst_ok {k : Const} {j : Nat} (hK : X.K = c.K) (h : cConst k = some ie) : SE X c (.Constant k j pos) ie := by
  cases k with
  | int i => cases h; exact SE.plain hK rfl (fun _ => rfl) (sE_con pe_int fun _ _ _ => ⟨rfl, rfl⟩)
  | str s => cases h; exact SE.plain hK rfl (fun _ => rfl) (sE_con pe_str fun _ _ _ => ⟨by cases s; rfl, rfl⟩)
  | bool b => cases h; exact SE.plain hK rfl (fun _ => rfl) (sE_con pe_bl fun _ _ _ => ⟨rfl, rfl⟩)
  | none => cases h; exact SE.plain hK rfl (fun _ => rfl) (sE_con pe_non fun _ _ _ => ⟨rfl, rfl⟩)
  | _ => cases h
def cName (G : GC) (N : List Str) (sc : Scope) (x : Str) : Option IE :=
  if x = "__debug__" ∨ x = "__classdict__" then none else
  match sc.names.lookup x with
  | some .local | some .cell | some .free => (idx N x).map IE.var
  | some .globalImplicit => (G.cons.lookup x).map IE.con
  | _ => none
theorem pe_gcon {x : Str} {u : Value} {v : V} (hg : Gl X x) (hm : X.mg x = some u) (r : RelV v u) (hd : (x == ("__debug__" : Str)) = false) : PE X (.Name x pos) (tC v) :=
  ⟨fun pins s σ H Q I h => ld_glob I hg hm ⟨v, H, I, r, h⟩ hd⟩
theorem beq_no {x y : Str} (h : ¬ x = y) : (x == y) = false := by simpa using h
theorem cName_ok {x : Str} (g : Good G N st sc X c) (h : cName G N sc x = some ie) : SE X c (.Name x pos) ie := by
  unfold cName at h
  split at h
  · cases h
  rename_i hn
  have hd : (x == ("__debug__" : Str)) = false := beq_no fun z => hn (.inl z)
  have hcd : (x == ("__classdict__" : Str)) = false := beq_no fun z => hn (.inr z)
  have vis : ∀ {i}, idx N x = some i → Vis sc x → PE X (.Name x pos) (tVar i) := fun hi hv => pe_var (by rw [g.hN]; exact idx_at hi) (by rw [g.scope]; exact hv) hd hcd
  split at h
  · rename_i hl
    obtain ⟨i, hi, rfl⟩ := Option.map_eq_some_iff.mp h
    exact SE.var g.hK (fun _ => rfl) (vis hi (.inl hl))
  · rename_i hl
    obtain ⟨i, hi, rfl⟩ := Option.map_eq_some_iff.mp h
    exact SE.var g.hK (fun _ => rfl) (vis hi (.inr (.inl hl)))
  · rename_i hl
    obtain ⟨i, hi, rfl⟩ := Option.map_eq_some_iff.mp h
    exact SE.var g.hK (fun _ => rfl) (vis hi (.inr (.inr hl)))
  · rename_i hl
    obtain ⟨d, hd', rfl⟩ := Option.map_eq_some_iff.mp h
    obtain ⟨u, v, hm, rv, hr⟩ := g.cons x d hd'
    exact SE.plain g.hK rfl (fun _ => rfl) (sE_con (pe_gcon (by show X.env.scope.names.lookup x = _; rw [g.scope]; exact hl) hm rv hd) hr)
  · cases h
def opIn : Operator → Option Op2
  | .Add => some .add | .Sub => some .sub | .Mult => some .mul | .FloorDiv => some .fdiv | .Mod => some .mod | .Pow => some .pow
  | _ => none
theorem opIn_ok {op : Operator} {o : Op2} (h : opIn op = some o) : op = opOf o := by cases op <;> cases h <;> rfl
def cmIn : CmpOp → Option Cm
  | .Lt => some .lt | .LtE => some .le | .Gt => some .gt | .GtE => some .ge | .Eq => some .eq | .NotEq => some .ne | .Is => some .is_ | .IsNot => some .isNot | .In => some .in_ | .NotIn => some .notIn
theorem cmIn_ok {op : CmpOp} {o : Cm} (h : cmIn op = some o) : op = cmOf o := by cases op <;> cases h <;> rfl
def cCmp (f : Expr → Option IE) (a : Expr) : List CmpOp → List Expr → Option IE
  | [o], [b] => match cmIn o, f a, f b with
    | some o', some ia, some ib => if behindInMarks o b = false then some (.cmp o' ia ib) else none
    | _, _, _ => none
  | [o, p], [b, d] => match cmIn o, cmIn p, f a, f b, f d with
    | some o', some p', some ia, some ib, some id => if lastMarks [o, p] [b, d] = false then some (.chain o' p' ia ib id) else none
    | _, _, _, _, _ => none
  | _, _ => none
theorem cCmp_ok {ops : List CmpOp} {bs : List Expr} (g : Good G N st sc X c) (R : ROk G N r) (h : cCmp (r st sc) a ops bs = some ie) : SE X c (.Compare a ops bs pos) ie := by
  unfold cCmp at h
  split at h
  · split at h
    · rename_i e1 e2 e3
      split at h
      · rename_i hm
        cases h
        have := cmIn_ok e1; subst this
        exact SE.cmp g.hK g.hu _ (R.se _ _ _ _ _ _ g e2) (R.se _ _ _ _ _ _ g e3) hm
      · cases h
    · cases h
  · split at h
    · rename_i e1 e2 e3 e4 e5
      split at h
      · rename_i hm
        cases h
        have := cmIn_ok e1; subst this
        have := cmIn_ok e2; subst this
        exact SE.chain g.hK g.hu _ _ (R.se _ _ _ _ _ _ g e3) (R.se _ _ _ _ _ _ g e4) (R.se _ _ _ _ _ _ g e5) hm
      · cases h
    · cases h
  · cases h
def isAndB : BoolOp → Bool
  | .And => true
  | .Or => false
def cBools (and : Bool) : List IE → Option IE
  | [] => none
  | [a] => some a
  | a :: r => (cBools and r).map fun b => if and = true then .and_ a b else .or_ a b
theorem cBools_and (g : Good G N st sc X c) (R : ROk G N r) : ∀ {es : List Expr} {ies : List IE} {ie : IE}, mapO (r st sc) es = some ies → cBools true ies = some ie → SB X c .And es ie
  | [], _, _, h, h' => by cases h; cases h'
  | [x], ies, ie, h, h' => by
    obtain ⟨b, bs, h1, h2, rfl⟩ := mapO_cons h
    cases h2; cases h'
    exact SB.one1 (R.se _ _ _ _ _ _ g h1)
  | x :: y :: rest, ies, ie, h, h' => by
    obtain ⟨b, bs, h1, h2, rfl⟩ := mapO_cons h
    obtain ⟨b', bs', h3, h4, rfl⟩ := mapO_cons h2
    unfold cBools at h'
    obtain ⟨j, hj, rfl⟩ := Option.map_eq_some_iff.mp h'
    rw [if_pos rfl]
    exact SB.and g.hK (R.se _ _ _ _ _ _ g h1) (cBools_and g R h2 hj)
theorem cBools_or (g : Good G N st sc X c) (R : ROk G N r) : ∀ {es : List Expr} {ies : List IE} {ie : IE}, mapO (r st sc) es = some ies → cBools false ies = some ie → SB X c .Or es ie
  | [], _, _, h, h' => by cases h; cases h'
  | [x], ies, ie, h, h' => by
    obtain ⟨b, bs, h1, h2, rfl⟩ := mapO_cons h
    cases h2; cases h'
    exact SB.one2 (R.se _ _ _ _ _ _ g h1)
  | x :: y :: rest, ies, ie, h, h' => by
    obtain ⟨b, bs, h1, h2, rfl⟩ := mapO_cons h
    obtain ⟨b', bs', h3, h4, rfl⟩ := mapO_cons h2
    unfold cBools at h'
    obtain ⟨j, hj, rfl⟩ := Option.map_eq_some_iff.mp h'
    rw [if_neg (by decide)]
    exact SB.or g.hK (R.se _ _ _ _ _ _ g h1) (cBools_or g R h2 hj)
def cBool (f : Expr → Option IE) (op : BoolOp) (es : List Expr) : Option IE :=
  if es.length < 2 then none else (mapO f es).bind (cBools (isAndB op))
theorem cBools_var : ∀ {and : Bool} {a b : IE} {r : List IE} {ie : IE}, cBools and (a :: b :: r) = some ie → isVar ie = false := fun {and a b r ie} h => by
  unfold cBools at h
  obtain ⟨j, hj, rfl⟩ := Option.map_eq_some_iff.mp h
  cases and <;> rfl
theorem cBool_ok {op : BoolOp} (g : Good G N st sc X c) (R : ROk G N r) (h : cBool (r st sc) op es = some ie) : SE X c (.BoolOp op es pos) ie := by
  unfold cBool at h
  split at h
  · cases h
  rename_i hl
  obtain ⟨ies, h1, h2⟩ := Option.bind_eq_some_iff.mp h
  match es, hl, h1 with
  | [], hl, _ => exact absurd (by decide) hl
  | [_], hl, _ => exact absurd (show (1 : Nat) < 2 by decide) hl
  | x :: y :: rest, _, h1 =>
    obtain ⟨b, bs, h3, h4, rfl⟩ := mapO_cons h1
    obtain ⟨b', bs', h5, h6, rfl⟩ := mapO_cons h4
    cases op with
    | And => exact SB.se (cBools_and g R h1 h2) (cBools_var h2)
    | Or => exact SB.se (cBools_or g R h1 h2) (cBools_var h2)
def cOpt (f : Expr → Option IE) : Option Expr → Option (Option IE)
  | none => some none
  | some e => (f e).map some
def isRev : Expr → Bool
  | .Slice none none (some (.UnaryOp .USub (.Constant (.int 1) _ _) _)) _ => true
  | _ => false
def isCall : IE → Bool
  | .call _ _ _ _ => true
  | _ => false
def cSub (f : Expr → Option IE) (a b : Expr) : Option IE :=
  if isRev b = true then (f a).map IE.rev else
  match b with
  | .Slice lo hi none _ => match f a, cOpt f lo, cOpt f hi with
    | some ia, some il, some ih => some (.slc ia il ih)
    | _, _, _ => none
  | b => match f a, f b with
    | some ia, some ib => some (if isCall ia = true then .idxM ia ib else .idx ia ib)
    | _, _ => none
theorem cOpt_ok {o : Option Expr} {io : Option IE} (g : Good G N st sc X c) (R : ROk G N r) (h : cOpt (r st sc) o = some io) : PO X o (TO_ c io) := by
  cases o with
  | none => cases h; exact sO_none
  | some e =>
    obtain ⟨i, hi, rfl⟩ := Option.map_eq_some_iff.mp (show (r st sc e).map some = some io from h)
    exact sO_some (R.se _ _ _ _ _ _ g hi).R
theorem isRev_eq {b : Expr} (h : isRev b = true) : ∃ k p1 p2 p3, b = .Slice none none (some (.UnaryOp .USub (.Constant (.int 1) k p1) p2)) p3 := by
  unfold isRev at h
  split at h
  · exact ⟨_, _, _, _, rfl⟩
  · cases h
theorem cSub_ok (g : Good G N st sc X c) (R : ROk G N r) (h : cSub (r st sc) a b = some ie) : SE X c (.Subscript a b pos) ie := by
  unfold cSub at h
  split at h
  · rename_i hr
    obtain ⟨k, p1, p2, p3, rfl⟩ := isRev_eq hr
    obtain ⟨i, hi, rfl⟩ := Option.map_eq_some_iff.mp h
    exact SE.plain g.hK rfl (fun _ => rfl) (sE_rev g.hK (R.se _ _ _ _ _ _ g hi).R)
  · split at h
    · split at h
      · rename_i e1 e2 e3
        cases h
        exact SE.plain g.hK rfl (fun _ => rfl) (sE_slc g.hK (R.se _ _ _ _ _ _ g e1).R (cOpt_ok g R e2) (cOpt_ok g R e3))
      · cases h
    · split at h
      · rename_i e1 e2
        cases h
        have pi : PlainIx b := fun o i => by
          have := R.sl _ _ _ _ e2
          cases b <;> first | rfl | exact absurd rfl (this _ _ _ _)
        split
        · exact SE.plain g.hK rfl (fun _ => rfl) (sE_idxM g.hK (R.se _ _ _ _ _ _ g e1).E (R.se _ _ _ _ _ _ g e2).R pi)
        · exact SE.plain g.hK rfl (fun _ => rfl) (sE_idx g.hK (R.se _ _ _ _ _ _ g e1).R (R.se _ _ _ _ _ _ g e2).R pi)
      · cases h
def nmAt (N : List Str) (sc : Scope) : Expr → Option Nat
  | .Name x _ => if x = "__debug__" ∨ x = "__classdict__" then none else match sc.names.lookup x with
    | some .local | some .cell | some .free => idx N x
    | _ => none
  | _ => none
def cQv (N : List Str) (sc : Scope) : Expr → Option IE
  | .Constant (.int n) _ _ => some (.con (.int n))
  | .UnaryOp .USub (.Constant (.int n) _ _) _ => some (.con (.int (-n)))
  | .BinOp a .Add (.Constant (.int n) _ _) _ => (nmAt N sc a).map fun j => .op .add (.var j) (.con (.int n))
  | .BinOp a .Sub (.Constant (.int n) _ _) _ => (nmAt N sc a).map fun j => .op .sub (.var j) (.con (.int n))
  | .Subscript a (.Constant (.int n) _ _) _ => (nmAt N sc a).map fun j => .idx (.var j) (.con (.int n))
  | .Name x p => (nmAt N sc (.Name x p)).map .var
  | _ => none
def cVw (vw N : List Str) (sc : Scope) : Nat → Expr → Option IE
  | 0, _ => none
  | n + 1, .Subscript a b _ => match a with
    | .Name x p => if x ∈ vw then (match nmAt N sc (.Name x p), cQv N sc b with
      | some i, some ib => some (.vw (.var i) ib)
      | _, _ => none) else none
    | a => match cVw vw N sc n a, cQv N sc b with
      | some ia, some ib => some (.vw ia ib)
      | _, _ => none
  | _, _ => none
theorem nmAt_ok {i : Nat} {e : Expr} (g : Good G N st sc X c) (h : nmAt N sc e = some i) : PE X e (tVar i) := by
  unfold nmAt at h
  split at h
  · split at h
    · cases h
    rename_i hn
    have hd := beq_no fun z => hn (.inl z)
    have hcd := beq_no fun z => hn (.inr z)
    have vis : ∀ {i} {p : Pos}, idx N _ = some i → Vis sc _ → PE X (.Name _ p) (tVar i) := fun hi hv => pe_var (by rw [g.hN]; exact idx_at hi) (by rw [g.scope]; exact hv) hd hcd
    split at h
    · rename_i hl; exact vis h (.inl hl)
    · rename_i hl; exact vis h (.inr (.inl hl))
    · rename_i hl; exact vis h (.inr (.inr hl))
    · cases h
  · cases h
theorem cQv_ok {e : Expr} (g : Good G N st sc X c) (h : cQv N sc e = some ie) : PE X e (TQ_ c ie) ∧ PlainIx e := by
  unfold cQv at h
  split at h
  · cases h; exact ⟨sQ_con pe_int, fun _ _ => rfl⟩
  · cases h; exact ⟨sQ_neg pe_int, fun _ _ => rfl⟩
  · obtain ⟨j, hj, rfl⟩ := Option.map_eq_some_iff.mp h; exact ⟨sQ_add (nmAt_ok g hj) pe_int, fun _ _ => rfl⟩
  · obtain ⟨j, hj, rfl⟩ := Option.map_eq_some_iff.mp h; exact ⟨sQ_sub (nmAt_ok g hj) pe_int, fun _ _ => rfl⟩
  · obtain ⟨j, hj, rfl⟩ := Option.map_eq_some_iff.mp h; exact ⟨sQ_idx g.hK (nmAt_ok g hj) pe_int fun _ _ => rfl, fun _ _ => rfl⟩
  · obtain ⟨j, hj, rfl⟩ := Option.map_eq_some_iff.mp h; exact ⟨sQ_var (nmAt_ok g hj), fun _ _ => rfl⟩
  · cases h
theorem cVw_ok {vw : List Str} (g : Good G N st sc X c) : ∀ (n : Nat) {e : Expr} {ie : IE}, cVw vw N sc n e = some ie → (∃ a b p, e = .Subscript a b p) ∧ (∃ ia ib, ie = .vw ia ib) ∧ PE X e (TL_ c ie)
  | 0, _, _, h => nomatch h
  | n + 1, e, ie, h => by
    unfold cVw at h
    split at h
    · cases h
    · rename_i hz; cases hz
      split at h
      · split at h
        · split at h
          · rename_i e1 e2
            cases h
            have q := cQv_ok g e2
            exact ⟨⟨_, _, _, rfl⟩, ⟨_, _, rfl⟩, sL_vw g.hK (sL_var (nmAt_ok g e1)) q.1 q.2⟩
          · cases h
        · cases h
      · split at h
        · rename_i e1 e2
          cases h
          have q := cQv_ok g e2
          exact ⟨⟨_, _, _, rfl⟩, ⟨_, _, rfl⟩, sL_vw g.hK (cVw_ok g n e1).2.2 q.1 q.2⟩
        · cases h
    · cases h
end
end Ev

namespace Ev
open PySem PySem.Spec PyProof.Rows L2
def blOf1 (x : Str) : Option Blt :=
  if x = "len" then some .len else if x = "abs" then some .abs else if x = "int" then some .int1 else if x = "str" then some .str1 else if x = "repr" then some .repr else if x = "tuple" then some .tuple
  else if x = "list" then some .list else if x = "all" then some .all else if x = "any" then some .any else none
def blOf2 (x : Str) (n : Nat) : Option Blt :=
  if x = "sum" then some .sum1 else if x = "sorted" then some .sorted else if x = "divmod" then some .divmod else if x = "max" then (if n = 1 then some .max1 else some .max2) else if x = "min" then (if n = 1 then some .min1 else some .min2) else none
def blOf (x : Str) (n : Nat) : Option Blt := match blOf1 x with
  | some b => some b
  | none => blOf2 x n
theorem blOf1_ok {x : Str} {b : Blt} (h : blOf1 x = some b) : bSup b = true ∧ bootBuiltins x = some (bVal b) ∧ x ≠ "__name__" := by
  unfold blOf1 at h
  repeat' split at h
  all_goals first
    | cases h
      done
    | (cases h
       rename_i e
       subst e
       exact ⟨rfl, by decide +kernel, by decide⟩)
theorem blOf2_ok {x : Str} {n : Nat} {b : Blt} (h : blOf2 x n = some b) : bSup b = true ∧ bootBuiltins x = some (bVal b) ∧ x ≠ "__name__" := by
  unfold blOf2 at h
  repeat' split at h
  all_goals first
    | cases h
      done
    | (cases h
       first
         | (rename_i e; subst e; exact ⟨rfl, by decide +kernel, by decide⟩)
         | (rename_i e _; subst e; exact ⟨rfl, by decide +kernel, by decide⟩))
theorem blOf_ok {x : Str} {n : Nat} {b : Blt} (h : blOf x n = some b) : bSup b = true ∧ bootBuiltins x = some (bVal b) ∧ x ≠ "__name__" := by
  unfold blOf at h
  split at h
  · rename_i e; cases h; exact blOf1_ok e
  · exact blOf2_ok h
def tyOf (x : Str) : Option Ty :=
  if x = "int" then some .int else if x = "str" then some .str else if x = "bool" then some .bool else if x = "list" then some .list else if x = "tuple" then some .tuple else if x = "dict" then some .dict else none
theorem tyOf_ok {x : Str} {t : Ty} (h : tyOf x = some t) : tySup t = true ∧ bootBuiltins x = some (.type (tyStr t)) ∧ x ≠ "__name__" ∧ (x == ("__debug__" : Str)) = false := by
  unfold tyOf at h
  repeat' split at h
  all_goals first
    | cases h
      done
    | (cases h
       rename_i e
       subst e
       exact ⟨rfl, by decide +kernel, by decide, by decide⟩)
section
variable {G : GC} {N : List Str} {st sc : Scope} {X : Cx} {c : Cg} {e a b : Expr} {ie : IE} {r : Rec} {pos : Pos} {es : List Expr} {ies : List IE}
/-- a name that stands for what is built in -/
def isB (G : GC) (sc : Scope) (x : Str) : Bool := decide (sc.names.lookup x = some .globalImplicit) && G.bl.elem x
theorem isB_ok {x : Str} (g : Good G N st sc X c) (h : isB G sc x = true) : Gl X x ∧ X.mg x = none := by
  have h := Bool.and_eq_true_iff.mp h
  exact ⟨by show X.env.scope.names.lookup x = _; rw [g.scope]; exact of_decide_eq_true h.1, g.bl x (by simpa using h.2)⟩
def cTys (G : GC) (sc : Scope) : List Expr → Option (List Ty)
  | [] => some []
  | .Name y _ :: r => if isB G sc y = true then (match tyOf y, cTys G sc r with
    | some t, some ts => some (t :: ts)
    | _, _ => none) else none
  | _ :: _ => none
theorem cTys_ok (g : Good G N st sc X c) : ∀ {es : List Expr} {ts : List Ty}, cTys G sc es = some ts → PA X es (TTy ts) ∧ ts.all tySup = true
  | [], ts, h => by cases h; exact ⟨sTy_nil, rfl⟩
  | .Name y p :: rest, ts, h => by
    unfold cTys at h
    split at h
    · rename_i hb
      split at h
      · rename_i t ts' e1 e2
        cases h
        obtain ⟨h1, h2⟩ := cTys_ok g e2
        obtain ⟨b1, b2⟩ := isB_ok g hb
        obtain ⟨t1, t2, t3, t4⟩ := tyOf_ok e1
        exact ⟨sTy_cons b1 b2 t2 h1 t4 t3 rfl, by rw [List.all_cons, t1, h2]; rfl⟩
      · cases h
    · cases h
  | .BoolOp .. :: _, _, h => by cases h
  | .NamedExpr .. :: _, _, h => by cases h
  | .BinOp .. :: _, _, h => by cases h
  | .UnaryOp .. :: _, _, h => by cases h
  | .Lambda .. :: _, _, h => by cases h
  | .IfExp .. :: _, _, h => by cases h
  | .Dict .. :: _, _, h => by cases h
  | .Set .. :: _, _, h => by cases h
  | .ListComp .. :: _, _, h => by cases h
  | .SetComp .. :: _, _, h => by cases h
  | .DictComp .. :: _, _, h => by cases h
  | .GeneratorExp .. :: _, _, h => by cases h
  | .Await .. :: _, _, h => by cases h
  | .Yield .. :: _, _, h => by cases h
  | .YieldFrom .. :: _, _, h => by cases h
  | .Compare .. :: _, _, h => by cases h
  | .Call .. :: _, _, h => by cases h
  | .FormattedValue .. :: _, _, h => by cases h
  | .JoinedStr .. :: _, _, h => by cases h
  | .Constant .. :: _, _, h => by cases h
  | .Attribute .. :: _, _, h => by cases h
  | .Subscript .. :: _, _, h => by cases h
  | .Starred .. :: _, _, h => by cases h
  | .List .. :: _, _, h => by cases h
  | .Tuple .. :: _, _, h => by cases h
  | .Slice .. :: _, _, h => by cases h
def cIsi (G : GC) (sc : Scope) (f : Expr → Option IE) : List Expr → Option IE
  | [e, .Name y p] => match f e, cTys G sc [.Name y p] with
    | some ie, some [t] => some (.blt (.isi [t]) [ie])
    | _, _ => none
  | [e, .Tuple tys _ _] => match f e, cTys G sc tys with
    | some ie, some ts => if ts.length ≤ 100 then some (.blt (.isi ts) [ie]) else none
    | _, _ => none
  | _ => none
theorem cIsi_ok {p : Pos} (g : Good G N st sc X c) (R : ROk G N r) (hb : isB G sc "isinstance" = true) (h : cIsi G sc (r st sc) es = some ie) : SE X c (.Call (.Name "isinstance" p) es [] pos) ie := by
  obtain ⟨b1, b2⟩ := isB_ok g hb
  unfold cIsi at h
  split at h
  · split at h
    · rename_i e1 e2
      cases h
      rename_i ee y p' ie t _
      unfold cTys at e2
      split at e2
      · rename_i hby
        split at e2
        · rename_i t' ts' e3 e4
          cases e2
          obtain ⟨c1, c2⟩ := isB_ok g hby
          obtain ⟨t1, t2, t3, t4⟩ := tyOf_ok e3
          exact SE.plain g.hK rfl (fun _ => rfl) (sE_isi t1 g.hK b1 b2 (by decide +kernel) c1 c2 t2 (R.se _ _ _ _ _ _ g e1).R (by decide) (by decide) t3 t4 (star_cons (R.ns _ _ _ _ e1) _ _) rfl rfl)
        · cases e2
      · cases e2
    · cases h
  · split at h
    · rename_i e1 e2
      split at h
      · rename_i hl
        cases h
        obtain ⟨h1, h2⟩ := cTys_ok g e2
        exact SE.plain g.hK rfl (fun _ => rfl) (sE_isiT h2 g.hK b1 b2 (by decide +kernel) h1 (Nat.le_trans hl (by decide)) (R.se _ _ _ _ _ _ g e1).R (by decide) (by decide) (star_cons (R.ns _ _ _ _ e1) _ _) rfl rfl)
      · cases h
    · cases h
  · cases h
def excAt (l : List Nat) (x : Str) : Option Nat := l.find? fun k => decide (excT.getD k "" = x)
theorem excAt_ok {l : List Nat} {x : Str} {k : Nat} (h : excAt l x = some k) : k ∈ l ∧ excT.getD k "" = x :=
  ⟨List.mem_of_find?_eq_some h, by have := List.find?_some h; exact of_decide_eq_true this⟩
def cExN (G : GC) (sc : Scope) (y : Str) : Option Nat :=
  if (y == ("__debug__" : Str)) = false ∧ sc.names.lookup y = some .globalImplicit then excAt G.excs y else none
theorem cExN_ok {y : Str} {py : Pos} {k : Nat} (g : Good G N st sc X c) (h : cExN G sc y = some k) : PE X (.Name y py) (tC (.ref (excA X.K k))) ∧ ExcM X.K k := by
  unfold cExN at h
  split at h
  · rename_i hc
    obtain ⟨m, rfl⟩ := excAt_ok h
    have gl := hc.2
    rw [← g.scope] at gl
    exact ⟨pe_glob gl (g.excs _ m).1.mg rfl hc.1, (g.excs _ m).2⟩
  · cases h
def cExNs (G : GC) (sc : Scope) : List Expr → Option (List Nat)
  | [] => some []
  | .Name y _ :: r => match cExN G sc y, cExNs G sc r with
    | some k, some ks => some (k :: ks)
    | _, _ => none
  | _ => none
theorem cExNs_ok (g : Good G N st sc X c) : ∀ {es : List Expr} {ks : List Nat}, cExNs G sc es = some ks → PA X es (TXs X.K ks) ∧ ∀ k ∈ ks, ExcM X.K k
  | [], _, h => by cases h; exact ⟨sXs_nil, fun _ h => nomatch h⟩
  | .Name y py :: r, ks, h => by
    unfold cExNs at h
    split at h
    · rename_i e1 e2
      cases h
      obtain ⟨h1, h2⟩ := cExN_ok (py := py) g e1
      obtain ⟨h3, h4⟩ := cExNs_ok g e2
      exact ⟨sXs_cons h1 h3 rfl, List.forall_mem_cons.mpr ⟨h2, h4⟩⟩
    · cases h
def cIsx (G : GC) (sc : Scope) (f : Expr → Option IE) : List Expr → Option IE
  | [e, .Name y p] => match f e, cExN G sc y with
    | some ie, some k => some (.blt (.isx [k]) [ie])
    | some ie, none => if y = "ValueError" ∧ isB G sc "ValueError" = true then some (.blt (.isx [0]) [ie]) else none
    | _, _ => none
  | [e, .Tuple tys _ _] => match f e, cExNs G sc tys with
    | some ie, some ks => if ks.length ≤ 100 then some (.blt (.isx ks) [ie]) else none
    | _, _ => none
  | _ => none
theorem cIsx_ok {p : Pos} (g : Good G N st sc X c) (R : ROk G N r) (hb : isB G sc "isinstance" = true) (h : cIsx G sc (r st sc) es = some ie) : SE X c (.Call (.Name "isinstance" p) es [] pos) ie := by
  obtain ⟨b1, b2⟩ := isB_ok g hb
  unfold cIsx at h
  split at h
  · split at h
    · rename_i e1 e2
      cases h
      obtain ⟨h1, h2⟩ := cExN_ok g e2
      exact SE.plain g.hK rfl (fun _ => rfl) (sE_isx g.hK b1 b2 h1 h2 (R.se _ _ _ _ _ _ g e1).R (star_cons (R.ns _ _ _ _ e1) _ _))
    · rename_i e1 e2
      split at h
      · rename_i hy
        cases h
        obtain ⟨rfl, hb2⟩ := hy
        obtain ⟨c1, c2⟩ := isB_ok g hb2
        exact SE.plain g.hK rfl (fun _ => rfl) (sE_isxV g.hK b1 b2 (pe_bltn c1 c2 (by decide +kernel) rfl (by decide) (by decide)) (R.se _ _ _ _ _ _ g e1).R (star_cons (R.ns _ _ _ _ e1) _ _))
      · cases h
    · cases h
  · split at h
    · rename_i e1 e2
      split at h
      · rename_i hl
        cases h
        obtain ⟨h1, h2⟩ := cExNs_ok g e2
        exact SE.plain g.hK rfl (fun _ => rfl) (sE_isxT g.hK b1 b2 h1 h2 (Nat.le_trans hl (by decide)) (R.se _ _ _ _ _ _ g e1).R (star_cons (R.ns _ _ _ _ e1) _ _))
      · cases h
    · cases h
  · cases h
def fnAt : List GFn → Str → Nat → Option (Nat × GFn)
  | [], _, _ => none
  | f :: r, x, n => if f.name = x then some (n, f) else fnAt r x (n + 1)
theorem fnAt_ok : ∀ {fs : List GFn} {x : Str} {n i : Nat} {f : GFn}, fnAt fs x n = some (i, f) → ∃ j, i = n + j ∧ fs[j]? = some f ∧ f.name = x
  | [], _, _, _, _, h => by cases h
  | f' :: r, x, n, i, f, h => by
    unfold fnAt at h
    split at h
    · cases h; rename_i e; exact ⟨0, rfl, rfl, e⟩
    · obtain ⟨j, e, h'⟩ := fnAt_ok h
      exact ⟨j + 1, by omega, h'⟩
def shAt (n : Nat) (ks : List Str) : List Shape → Option Shape
  | [] => none
  | s :: r => if s.n = n ∧ s.ks = ks then some s else shAt n ks r
theorem shAt_ok {n : Nat} {ks : List Str} : ∀ {l : List Shape} {s : Shape}, shAt n ks l = some s → s ∈ l ∧ s.n = n ∧ s.ks = ks
  | [], _, h => by cases h
  | s' :: r, s, h => by
    unfold shAt at h
    split at h
    · cases h; rename_i e; exact ⟨List.mem_cons_self, e⟩
    · obtain ⟨m, e⟩ := shAt_ok h; exact ⟨List.mem_cons_of_mem _ m, e⟩
def kwN (kws : List Keyword) : Option (List Str) := mapO (·.arg) kws
theorem kwN_ok {env : PySem.Env} : ∀ {kws : List Keyword} {ks : List Str}, kwN kws = some ks → ((backToKw pos (keywordEach kws env)).all (·.1.isSome) = true ∧ (backToKw pos (keywordEach kws env)).filterMap (·.1) = ks) ∧ (backToKw pos (keywordEach kws env)).any (·.1.isNone) = false ∧ ks.length = kws.length
  | [], ks, h => by cases h; exact ⟨⟨rfl, rfl⟩, rfl, rfl⟩
  | ⟨nm, e, p⟩ :: rest, ks, h => by
    obtain ⟨b, bs, h1, h2, rfl⟩ := mapO_cons h
    cases (show nm = some b from h1)
    obtain ⟨⟨i1, i2⟩, i3, i4⟩ := kwN_ok (env := env) h2
    refine ⟨⟨?_, ?_⟩, ?_, by rw [List.length_cons, List.length_cons, i4]⟩
    · show (true && (backToKw pos (keywordEach rest env)).all (·.1.isSome)) = true
      rw [i1]; rfl
    · show b :: (backToKw pos (keywordEach rest env)).filterMap (·.1) = b :: bs
      rw [i2]
    · show (false || (backToKw pos (keywordEach rest env)).any (·.1.isNone)) = false
      rw [i3]; rfl
theorem kas (g : Good G N st sc X c) (R : ROk G N r) : ∀ {kws : List Keyword} {ies : List IE}, mapO (fun k => r st sc k.value) kws = some ies → PK X kws (TAs_ c ies) ∧ PK X kws (TRs_ c ies) ∧ ies.length = kws.length
  | [], _, h => by cases h; exact ⟨sK_nil, sKR_nil, rfl⟩
  | ⟨nm, e, p⟩ :: rest, ies, h => by
    obtain ⟨b, bs, h1, h2, rfl⟩ := mapO_cons h
    obtain ⟨i1, i2, i3⟩ := kas g R h2
    exact ⟨sK_cons (R.se _ _ _ _ _ _ g h1).E i1, sKR_cons (R.se _ _ _ _ _ _ g h1).R i2, by rw [List.length_cons, List.length_cons, i3]⟩
theorem mapO_len {α β : Type} {f : α → Option β} : ∀ {l : List α} {m : List β}, mapO f l = some m → m.length = l.length
  | [], _, h => by cases h; rfl
  | a :: r, m, h => by
    obtain ⟨b, bs, h1, h2, rfl⟩ := mapO_cons h
    rw [List.length_cons, List.length_cons, mapO_len h2]
def cFn (f : Expr → Option IE) (i : Nat) (fi : GFn) (es : List Expr) (kws : List Keyword) : Option IE :=
  match kwN kws, mapO f es, mapO (fun k => f k.value) kws with
  | some ks, some ies, some iks => match shAt es.length ks fi.shapes with
    | some s => if pmOk (ies.length + iks.length) s.pm = true ∧ s.pm.length = fi.np then some (if fi.borrows = true then .callP i ies iks s.pm else if fi.lends = true then .callL i ies iks s.pm else .call i ies iks s.pm) else none
    | none => none
  | _, _, _ => none
theorem cFn_ok {i : Nat} {fi : GFn} {x : Str} {p : Pos} {kws : List Keyword} (g : Good G N st sc X c) (R : ROk G N r) (hg : sc.names.lookup x = some .globalImplicit) (hd : (x == ("__debug__" : Str)) = false) (hi : fnAt G.fns x 0 = some (i, fi)) (h : cFn (r st sc) i fi es kws = some ie) :
    SE X c (.Call (.Name x p) es kws pos) ie := by
  unfold cFn at h
  split at h
  · rename_i ks ies iks e1 e2 e3
    split at h
    · rename_i s e4
      split at h
      · rename_i hp
        obtain ⟨m, hn, hks⟩ := shAt_ok e4
        obtain ⟨j, ej, hj, hnm⟩ := fnAt_ok hi
        rw [Nat.zero_add] at ej; subst ej
        obtain ⟨k, fa, fd, ps, hm, hk, F, hr, hs⟩ := (g.fns _ _ hj).ex
        have hb := hs s m
        rw [hn, hks, ← mapO_len e2] at hb
        rw [hnm] at hm
        have hgl : Gl X x := by show X.env.scope.names.lookup x = _; rw [g.scope]; exact hg
        obtain ⟨⟨k1, k2⟩, k3, k4⟩ := kwN_ok (pos := pos) (env := X.env) e1
        obtain ⟨a1, a2, a3⟩ := kas g R e3
        have hst := noStar R e2
        have he : ∀ e r, es = e :: r → starEach (e :: r) X.env = (false, eval e X.env) :: starEach r X.env := fun e r z => star_cons (hst e (by rw [z]; exact List.mem_cons_self)) _ _
        have h0 : es = [] → ies = [] := fun z => by subst z; cases e2; rfl
        have hpl : ((backTo pos (starEach es X.env)).any (·.1) || (backToKw pos (keywordEach kws X.env)).any (·.1.isNone)) = false := by rw [star_any hst, k3]; rfl
        cases h
        split
        · exact SE.plain g.hK rfl (fun _ => rfl) (sE_callP F hr g.gd hb g.tk hgl hm hk hp.1 hp.2 (by rw [k4, a3]) (prs g R e2) a2 k1 k2 hd he h0 hpl)
        · split
          · exact SE.plain g.hK rfl (fun _ => rfl) (sE_callL F hr g.gd hb g.tk hgl hm hk hp.1 hp.2 (by rw [k4, a3]) (prs g R e2) a2 k1 k2 hd he h0 hpl)
          exact SE.plain g.hK rfl (fun _ => rfl) (sE_call g.hK F hr g.gd hb g.tk hgl hm hk hp.1 hp.2 (by rw [k4, a3]) (pas g R e2) a1 k1 k2 hd he h0 hpl)
      · cases h
    · cases h
  · cases h
def mcOf (m : Str) (n : Nat) : Option Mc :=
  if m = "append" then some .append else if m = "reverse" then some .reverse else if m = "clear" then some .clear else if m = "insert" then some .insert else if m = "extend" then some .extend
  else if m = "pop" then (if n = 0 then some .pop0 else some .pop1) else none
theorem mcOf_ok {m : Str} {n : Nat} {k : Mc} (h : mcOf m n = some k) : mcSup k = true ∧ m = mcName k := by
  unfold mcOf at h
  repeat' split at h
  all_goals first
    | cases h
      done
    | (cases h
       first
         | exact ⟨rfl, by assumption⟩)
def mrOf (m : Str) : Option Mr :=
  if m = "join" then some .join else if m = "index" then some .index else if m = "split" then some .split else if m = "upper" then some .upper else none
theorem mrOf_ok {m : Str} {k : Mr} (h : mrOf m = some k) : k ≠ .indexT ∧ m = mrName k := by
  unfold mrOf at h
  repeat' split at h
  all_goals first
    | cases h
      done
    | (cases h
       exact ⟨by decide, by assumption⟩)
/-- a tuple that the module's name stands for -/
def conTup (G : GC) (sc : Scope) : Expr → Option (List D)
  | .Name x _ => if x = "__debug__" then none else if sc.names.lookup x = some .globalImplicit then (match G.cons.lookup x with
    | some (.tup xs) => some xs
    | _ => none) else none
  | _ => none
theorem conTup_ok {o : Expr} {xs : List D} (g : Good G N st sc X c) (h : conTup G sc o = some xs) : (∃ v, PE X o (tC v) ∧ ∀ B H α, Rep c.K B H α (.tup xs) v []) ∧ plainBase o = true := by
  unfold conTup at h
  split at h
  · split at h
    · cases h
    rename_i hd
    split at h
    · rename_i hl
      split at h
      · rename_i e
        cases h
        obtain ⟨u, v, hm, rv, hr⟩ := g.cons _ _ e
        exact ⟨⟨v, pe_gcon (by show X.env.scope.names.lookup _ = _; rw [g.scope]; exact hl) hm rv (beq_no hd), hr⟩, rfl⟩
      · cases h
    · cases h
  · cases h
theorem few_ok {es : List Expr} {e' : Expr} {rest : List Expr} {pos : Pos} {env : PySem.Env} (he : es = e' :: rest) (hst : ∀ e ∈ es, star1 e = false) (hl : ¬ 20 < es.length) :
    ((backTo pos (starEach es env)).all (fun x => !x.1) && (backToKw pos (keywordEach [] env)).all (fun x => x.1.isSome)
      && decide (es.length + ([] : List Keyword).length + (if ([] : List Keyword).isEmpty then 0 else 1) < 30)) = true := by
  rw [star_all hst]
  have h2 : decide (es.length + ([] : List Keyword).length + (if ([] : List Keyword).isEmpty then 0 else 1) < 30) = true := decide_eq_true (by show es.length + 0 + 0 < 30; omega)
  rw [h2]; rfl
def cMr (G : GC) (sc : Scope) (f : Expr → Option IE) (o : Expr) (m : Str) (es : List Expr) : Option IE :=
  if 20 < es.length then none else
  match conTup G sc o with
  | some xs => if m = "index" then (match es, mapO f es with
    | _ :: _, some ies => some (.mr .indexT (.con (.tup xs)) ies)
    | _, _ => none) else none
  | none => match mrOf m, f o, mapO f es with
    | some k, some io, some ies => if plainBase o = true then some (.mr k io ies) else none
    | _, _, _ => none
theorem cMr_ok {o : Expr} {m : Str} {apos : Pos} (g : Good G N st sc X c) (R : ROk G N r) (hline : (apos.endLine == pos.line) = true) (h : cMr G sc (r st sc) o m es = some ie) : SE X c (.Call (.Attribute o m apos) es [] pos) ie := by
  unfold cMr at h
  split at h
  · cases h
  rename_i hl
  split at h
  · rename_i xs e1
    split at h
    · rename_i hm
      subst hm
      split at h
      · rename_i e' rest ies e2
        cases h
        obtain ⟨⟨v, h1, h2⟩, h3⟩ := conTup_ok g e1
        have hst := noStar R e2
        exact SE.plain g.hK rfl (fun _ => rfl) (sE_mrT g.hK h1 h2 (prs g R e2) h3 (few_ok rfl hst hl) hline (star_cons (hst e' List.mem_cons_self) _ _) (star_any fun y m => hst y (List.mem_cons_of_mem _ m)))
      · cases h
    · cases h
  · split at h
    · rename_i k io ies e1 e2 e3
      split at h
      · rename_i hb
        cases h
        obtain ⟨k1, rfl⟩ := mrOf_ok e1
        have hst := noStar R e3
        refine SE.plain g.hK rfl (fun _ => rfl) ?_
        cases es with
        | nil => cases e3; exact sE_mr0 g.hK k1 (R.se _ _ _ _ _ _ g e2).R hb hline
        | cons e' rest => exact sE_mr g.hK k1 (R.se _ _ _ _ _ _ g e2).R (prs g R e3) hb (few_ok rfl hst hl) hline (star_cons (hst e' List.mem_cons_self) _ _) (star_any fun y m => hst y (List.mem_cons_of_mem _ m))
      · cases h
    · cases h
def cMeth (fr N : List Str) (sc : Scope) (f : Expr → Option IE) (o : Expr) (m : Str) (es : List Expr) : Option IE :=
  match o with
  | .Name x _ => match mcOf m es.length, sc.names.lookup x, idx N x, mapO f es with
    | some k, some .local, some i, some ies => if x = "__debug__" ∨ x = "__classdict__" ∨ 20 < es.length then none else some (.mc k (.var i) (if x ∈ fr then ies.map .frz else ies))
    | _, _, _, _ => none
  | _ => none
theorem cMeth_ok {fr : List Str} {o : Expr} {m : Str} {apos : Pos} (g : Good G N st sc X c) (R : ROk G N r) (hline : (apos.endLine == pos.line) = true) (h : cMeth fr N sc (r st sc) o m es = some ie) : SE X c (.Call (.Attribute o m apos) es [] pos) ie := by
  unfold cMeth at h
  split at h
  · rename_i x p
    split at h
    · rename_i k i ies e1 e2 e3 e4
      split at h
      · cases h
      · rename_i hn
        cases h
        obtain ⟨s1, rfl⟩ := mcOf_ok e1
        have hd : (x == ("__debug__" : Str)) = false := beq_no fun z => hn (.inl z)
        have hcd : (x == ("__classdict__" : Str)) = false := beq_no fun z => hn (.inr (.inl z))
        have hv : PE X (.Name x p) (tVar i) := pe_var (by rw [g.hN]; exact idx_at e3) (by rw [g.scope]; exact .inl e2) hd hcd
        have hst := noStar R e4
        refine SE.plain g.hK rfl (fun _ => rfl) ?_
        cases es with
        | nil => cases e4; rw [List.map_nil, ite_self]; exact sE_mc0 s1 g.hK hv rfl hline
        | cons e' rest =>
          refine sE_mc s1 g.hK hv (show PA X (e' :: rest) (TAs_ c (if x ∈ fr then ies.map .frz else ies)) by split; exact pasF g R e4; exact pas g R e4) rfl ?_ hline (star_cons (hst e' List.mem_cons_self) _ _) (star_any fun y m => hst y (List.mem_cons_of_mem _ m))
          rw [star_all hst]
          have : (e' :: rest).length ≤ 20 := by omega
          have h2 : decide ((e' :: rest).length + ([] : List Keyword).length + (if ([] : List Keyword).isEmpty then 0 else 1) < 30) = true := decide_eq_true (by show (e' :: rest).length + 0 + 0 < 30; omega)
          rw [h2]; rfl
    · cases h
  · cases h
def fldNo (f : Str) : Option Nat := idxF fldT f 0
theorem fldNo_ok {f : Str} {n : Nat} (h : fldNo f = some n) : fldN n = f := by
  obtain ⟨j, e, h'⟩ := idxF_at h
  rw [Nat.zero_add] at e; subst e
  unfold fldN
  rw [List.getD_eq_getElem?_getD, h']; rfl
def cAttr (f : Expr → Option IE) (a : Expr) (x : Str) : Option IE := match fldNo x, f a with
  | some n, some ia => if plainBase a = true then some (.attr ia n) else none
  | _, _ => none
theorem cAttr_ok {a : Expr} {x : Str} (g : Good G N st sc X c) (R : ROk G N r) (h : cAttr (r st sc) a x = some ie) : SE X c (.Attribute a x pos) ie := by
  unfold cAttr at h
  split at h
  · rename_i n ia e1 e2
    split at h
    · rename_i hb
      cases h
      have e1 := fldNo_ok e1
      subst e1
      exact SE.plain g.hK rfl (fun _ => rfl) (sE_attr g.hK (R.se _ _ _ _ _ _ g e2).R (base_ok hb _ _ _))
    · cases h
  · cases h
def methTb (m : Str) (n : Nat) (ks : List Str) : List GMeth → List (Nat × Nat × List Ar)
  | [] => []
  | g :: r => match shAt n ks g.shapes with
    | some s => if g.m = m ∧ s.pm.length = g.np ∧ pmOk (n + ks.length + 1) s.pm = true then (g.cl, g.ix, s.pm) :: methTb m n ks r else methTb m n ks r
    | none => methTb m n ks r
theorem methTb_ok {m : Str} {n : Nat} {ks : List Str} : ∀ {l : List GMeth} {cl f : Nat} {pm : List Ar}, (cl, f, pm) ∈ methTb m n ks l → ∃ g ∈ l, ∃ s ∈ g.shapes, s.n = n ∧ s.ks = ks ∧ g.m = m ∧ s.pm.length = g.np ∧ pmOk (n + ks.length + 1) s.pm = true ∧ cl = g.cl ∧ f = g.ix ∧ pm = s.pm
  | [], _, _, _, h => nomatch h
  | g :: r, cl, f, pm, h => by
    have step : (cl, f, pm) ∈ methTb m n ks r → _ := fun h => let ⟨g', m', z⟩ := methTb_ok h; (⟨g', List.mem_cons_of_mem _ m', z⟩ : ∃ g' ∈ g :: r, ∃ s ∈ g'.shapes, s.n = n ∧ s.ks = ks ∧ g'.m = m ∧ s.pm.length = g'.np ∧ pmOk (n + ks.length + 1) s.pm = true ∧ cl = g'.cl ∧ f = g'.ix ∧ pm = s.pm)
    unfold methTb at h
    split at h
    · rename_i s e
      split at h
      · rename_i c
        rcases List.mem_cons.mp h with h | h
        · cases h
          obtain ⟨h1, h2, h3⟩ := shAt_ok e
          exact ⟨g, List.mem_cons_self, s, h1, h2, h3, c.1, c.2.1, c.2.2, rfl, rfl, rfl⟩
        · exact step h
      · exact step h
    · exact step h
def cOwn (G : GC) (f : Expr → Option IE) (o : Expr) (m : Str) (es : List Expr) (kws : List Keyword) : Option IE :=
  if 20 < es.length + kws.length then none else
  match f o, kwN kws, mapO f es, mapO (fun k => f k.value) kws with
  | some io, some ks, some ies, some iks => if plainBase o = true then some (.meth (methTb m es.length ks G.meths) io ies iks) else none
  | _, _, _, _ => none
theorem form_ok {es : List Expr} {kws : List Keyword} {ks : List Str} {env : PySem.Env} (hst : ∀ e ∈ es, star1 e = false) (hk : kwN kws = some ks) (hl : ¬ 20 < es.length + kws.length) :
    methodCallForm (es.length + kws.length) (backTo pos (starEach es env)) (backToKw pos (keywordEach kws env)) = true := by
  obtain ⟨⟨k1, _⟩, _, _⟩ := kwN_ok (pos := pos) (env := env) hk
  unfold methodCallForm
  rw [star_all hst, k1, Bool.true_and, Bool.true_and]
  refine decide_eq_true ?_
  split <;> omega
theorem cOwn_ok {o : Expr} {m : Str} {apos : Pos} {kws : List Keyword} (g : Good G N st sc X c) (R : ROk G N r) (hline : (apos.endLine == pos.line) = true) (h : cOwn G (r st sc) o m es kws = some ie) : SE X c (.Call (.Attribute o m apos) es kws pos) ie := by
  unfold cOwn at h
  split at h
  · cases h
  rename_i hl
  split at h
  · rename_i io ks ies iks e1 e2 e3 e4
    split at h
    · rename_i hb
      cases h
      have hst := noStar R e3
      obtain ⟨⟨k1, k2⟩, k3, k4⟩ := kwN_ok (pos := pos) (env := X.env) e2
      obtain ⟨a1, a2, a3⟩ := kas g R e4
      refine SE.plain g.hK rfl (fun _ => rfl) (sE_meth (ks := ks) g.hK (fun cl f pm hm => ?_) g.gd g.tk (by rw [k4, a3]) (R.se _ _ _ _ _ _ g e1).E (pas g R e3) a1 (base_ok hb _ _ _) (form_ok hst e2 hl) hline k1 k2
        (fun e r z => star_cons (hst e (by rw [z]; exact List.mem_cons_self)) _ _) (fun z => by subst z; cases e3; rfl) (by rw [star_any hst, k3]; rfl))
      obtain ⟨q, hq, s, hs, h1, h2, h3, h4, h5, rfl, rfl, rfl⟩ := methTb_ok hm
      have := g.meths q hq s hs h4
      rw [h1, h2, h3] at this
      rw [mapO_len e3, show iks.length = ks.length by rw [k4, a3]]
      exact ⟨this, h5⟩
    · cases h
  · cases h
def mkAt : List GMk → Str → Option GMk
  | [], _ => none
  | f :: r, x => if f.name = x then some f else mkAt r x
theorem mkAt_ok : ∀ {fs : List GMk} {x : Str} {f : GMk}, mkAt fs x = some f → f ∈ fs ∧ f.name = x
  | [], _, _, h => by cases h
  | f' :: r, x, f, h => by
    unfold mkAt at h
    split at h
    · rename_i e; cases h; exact ⟨List.mem_cons_self, e⟩
    · exact ⟨List.mem_cons_of_mem _ (mkAt_ok h).1, (mkAt_ok h).2⟩
def cMk (f : Expr → Option IE) (fi : GMk) (es : List Expr) (kws : List Keyword) : Option IE :=
  match kwN kws, mapO f es, mapO (fun k => f k.value) kws with
  | some ks, some ies, some iks => match shAt es.length ks fi.shapes with
    | some s => if pmOk (ies.length + iks.length) s.pm = true ∧ s.pm.length = fi.np then some (.mk fi.ix ies iks s.pm) else none
    | none => none
  | _, _, _ => none
theorem cMk_ok {fi : GMk} {x : Str} {p : Pos} {kws : List Keyword} (g : Good G N st sc X c) (R : ROk G N r) (hg : sc.names.lookup x = some .globalImplicit) (hd : (x == ("__debug__" : Str)) = false) (hi : mkAt G.mks x = some fi) (h : cMk (r st sc) fi es kws = some ie) :
    SE X c (.Call (.Name x p) es kws pos) ie := by
  unfold cMk at h
  split at h
  · rename_i ks ies iks e1 e2 e3
    split at h
    · rename_i s e4
      split at h
      · rename_i hp
        obtain ⟨m, hn, hks⟩ := shAt_ok e4
        obtain ⟨hmem, hnm⟩ := mkAt_ok hi
        obtain ⟨hm, M⟩ := g.mks _ hmem s m
        rw [hn, hks, ← mapO_len e2, ← hp.2] at M
        rw [hnm] at hm
        have hgl : Gl X x := by show X.env.scope.names.lookup x = _; rw [g.scope]; exact hg
        obtain ⟨⟨k1, k2⟩, k3, k4⟩ := kwN_ok (pos := pos) (env := X.env) e1
        obtain ⟨a1, a2, a3⟩ := kas g R e3
        have hst := noStar R e2
        cases h
        exact SE.plain g.hK rfl (fun _ => rfl) (sE_mk g.hK M hp.1 (by rw [k4, a3]) g.gd g.tk hgl hm (pas g R e2) a1 k1 k2 hd
          (fun e r z => star_cons (hst e (by rw [z]; exact List.mem_cons_self)) _ _) (fun z => by subst z; cases e2; rfl) (by rw [star_any hst, k3]; rfl))
      · cases h
    · cases h
  · cases h
def cCall (G : GC) (N : List Str) (sc : Scope) (f : Expr → Option IE) (fn : Expr) (es : List Expr) (kws : List Keyword) (pos : Pos) : Option IE :=
  match fn with
  | .Name x _ => if x = "__debug__" then none else
    match fnAt G.fns x 0 with
    | some (i, fi) => if sc.names.lookup x = some .globalImplicit then cFn f i fi es kws else none
    | none => match mkAt G.mks x with
    | some fi => if sc.names.lookup x = some .globalImplicit then cMk f fi es kws else none
    | none => if kws.isEmpty = true ∧ isB G sc x = true then
        (if x = "isinstance" then (match cIsi G sc f es with | some i => some i | none => cIsx G sc f es) else match blOf x es.length, es, mapO f es with
          | some b, _ :: _, some ies => some (.blt b ies)
          | _, _, _ => none) else none
  | .Attribute o m apos => if (G.meths.any fun g => decide (g.m = m)) = true then (if (apos.endLine == pos.line) = true then cOwn G f o m es kws else none) else if kws.isEmpty = true ∧ (apos.endLine == pos.line) = true then (match mcOf m es.length with
    | some _ => cMeth G.fr N sc f o m es
    | none => cMr G sc f o m es) else none
  | _ => none
theorem kws_nil {kws : List Keyword} (h : kws.isEmpty = true) : kws = [] := List.isEmpty_iff.mp h
theorem cCall_ok {fn : Expr} {kws : List Keyword} (g : Good G N st sc X c) (R : ROk G N r) (h : cCall G N sc (r st sc) fn es kws pos = some ie) : SE X c (.Call fn es kws pos) ie := by
  unfold cCall at h
  split at h
  · rename_i x p
    split at h
    · cases h
    rename_i hx
    have hd := beq_no hx
    split at h
    · rename_i hf
      split at h
      · rename_i hg
        exact cFn_ok g R hg hd hf h
      · cases h
    · split at h
      · rename_i hf
        split at h
        · rename_i hg
          exact cMk_ok g R hg hd hf h
        · cases h
      split at h
      · rename_i hb
        have := kws_nil hb.1; subst this
        split at h
        · rename_i hi; subst hi
          split at h
          · rename_i hz; cases h; exact cIsi_ok g R hb.2 hz
          · exact cIsx_ok g R hb.2 h
        · split at h
          · rename_i b e' rest ies e1 e2
            cases h
            obtain ⟨b1, b2⟩ := isB_ok g hb.2
            obtain ⟨t1, t2, t3⟩ := blOf_ok e1
            have hst := noStar R e2
            exact SE.plain g.hK rfl (fun _ => rfl) (sE_blt t1 g.hK g.calm g.gd g.hu b1 b2 t2 (prs g R e2) t3 hd (star_cons (hst e' List.mem_cons_self) _ _) (star_any fun y m => hst y (List.mem_cons_of_mem _ m)))
          · cases h
      · cases h
  · split at h
    · split at h
      · rename_i hl
        exact cOwn_ok g R hl h
      · cases h
    split at h
    · rename_i hb
      have := kws_nil hb.1; subst this
      split at h
      · exact cMeth_ok g R hb.2 h
      · exact cMr_ok g R hb.2 h
    · cases h
  · cases h
end
end Ev

namespace Ev
open PySem PySem.Spec PyProof.Rows L2
mutual
def gOf (K : Frag) : Tg → TG
  | .nm i => gName i
  | .tup ts => gTL K ts.length (gsOf K ts gNil)
  | .star ts i us => gStar K (ts.length + us.length + 1) ts.length (gsOf K ts (gCons (gName i) (gsOf K us gNil)))
def gsOf (K : Frag) : List Tg → TGs → TGs
  | [], r => r
  | t :: ts, r => gCons (gOf K t) (gsOf K ts r)
end
/-- may be stored to -/
def stOk (st : Scope) (x : Str) : Bool := decide (st.names.lookup x = some .local) || decide (st.names.lookup x = some .cell)
/-- at the star -/
def atStar : List Expr → Option (List Expr × Expr × Pos × List Expr)
  | [] => none
  | .Starred e p :: r => some ([], e, p, r)
  | e :: r => (atStar r).map fun q => (e :: q.1, q.2)
theorem atStar_ok : ∀ {es : List Expr} {q : List Expr × Expr × Pos × List Expr}, atStar es = some q → es = q.1 ++ .Starred q.2.1 q.2.2.1 :: q.2.2.2
  | [], _, h => by cases h
  | e :: r, q, h => by
    by_cases hs : star1 e = true
    · cases e <;> first | (cases hs; done) | skip
      cases h; rfl
    · have h : (atStar r).map (fun q => (e :: q.1, q.2)) = some q := by
        cases e <;> first | exact h | exact absurd rfl hs
      obtain ⟨q', h', rfl⟩ := Option.map_eq_some_iff.mp h
      rw [atStar_ok h']; rfl
def cTg (N : List Str) (st : Scope) : Nat → Expr → Option Tg
  | 0, _ => none
  | _ + 1, .Name x _ => if stOk st x = true then (idx N x).map Tg.nm else none
  | n + 1, .Tuple es _ _ => match atStar es with
    | none => (mapO (cTg N st n) es).map Tg.tup
    | some (pre, .Name x _, _, post) => if stOk st x = true then (match mapO (cTg N st n) pre, idx N x, mapO (cTg N st n) post with
      | some ts, some i, some us => some (.star ts i us)
      | _, _, _ => none) else none
    | some _ => none
  | _ + 1, _ => none
section
variable {G : GC} {N : List Str} {st sc : Scope} {X : Cx} {c : Cg} {e a b : Expr} {ie : IE} {r : Rec} {pos : Pos} {es : List Expr} {ies : List IE}
theorem stOk_ok {x : Str} (g : Good G N st sc X c) (h : stOk st x = true) : Loc X.env.scope x ∧ (X.fn x = true ∨ X.env.scope.names.lookup x = some .local) := by
  rw [g.scope]
  rcases Bool.or_eq_true_iff.mp h with h | h
  · exact g.stp x (.inl (of_decide_eq_true h))
  · exact g.stp x (.inr (of_decide_eq_true h))
structure TgOk (X : Cx) (c : Cg) (e : Expr) (t : Tg) : Prop where
  pg : PG X e (gOf c.K t)
  gk : GOk c t (gOf c.K t)
  ns : star1 e = false
theorem tgs_ok {f : Expr → Option Tg} (h : ∀ e t, f e = some t → TgOk X c e t) : ∀ {es : List Expr} {ts : List Tg}, mapO f es = some ts →
    (∀ {fs : List Expr} {us : List Tg} {r : TGs}, PGs X fs r → GsOk c us r → PGs X (es ++ fs) (gsOf c.K ts r) ∧ GsOk c (ts ++ us) (gsOf c.K ts r)) ∧ (∀ e ∈ es, star1 e = false) ∧ ts.length = es.length
  | [], ts, h' => by cases h'; exact ⟨fun p q => ⟨p, q⟩, (fun _ m => nomatch m), rfl⟩
  | x :: rest, ts, h' => by
    obtain ⟨t, ts', h1, h2, rfl⟩ := mapO_cons h'
    have k := h _ _ h1
    obtain ⟨i1, i3, i4⟩ := tgs_ok h h2
    refine ⟨fun p q => ?_, fun e m => ?_, by rw [List.length_cons, List.length_cons, i4]⟩
    · obtain ⟨j1, j2⟩ := i1 p q
      exact ⟨pgs_cons k.pg j1 (by rw [asg_cons k.ns]; rfl), gs_cons k.gk j2⟩
    · rcases List.mem_cons.mp m with rfl | m
      · exact k.ns
      · exact i3 e m
theorem asg_star {env : PySem.Env} {e : Expr} {p : Pos} {post : List Expr} : ∀ {es : List Expr}, (∀ e ∈ es, star1 e = false) → (assignEach (es ++ .Starred e p :: post) env).findIdx? (·.1) = some es.length
  | [], _ => rfl
  | x :: r, h => by
    rw [List.cons_append, asg_cons (h x List.mem_cons_self)]
    have := asg_star (env := env) (e := e) (p := p) (post := post) fun y m => h y (List.mem_cons_of_mem _ m)
    rw [List.findIdx?_cons, this]
    rfl
theorem asg_len {env : PySem.Env} : ∀ es : List Expr, (assignEach es env).length = es.length
  | [] => rfl
  | e :: r => by
    cases e <;> (show _ + 1 = r.length + 1; rw [asg_len r])
theorem cTg_ok (g : Good G N st sc X c) : ∀ {n : Nat} {e : Expr} {t : Tg}, cTg N st n e = some t → TgOk X c e t
  | 0, _, _, h => by cases h
  | n + 1, e, t, h => by
    unfold cTg at h
    split at h
    · cases ‹n + 1 = 0›
    · rename_i x p
      split at h
      · rename_i hs
        obtain ⟨i, hi, rfl⟩ := Option.map_eq_some_iff.mp h
        obtain ⟨h1, h2⟩ := stOk_ok g hs
        exact ⟨pg_name g.nd (by rw [g.hN]; exact idx_at hi) h1 h2, g_nm, rfl⟩
      · cases h
    · rename_i n' _ es k p heq
      cases heq
      split at h
      · obtain ⟨ts, ht, rfl⟩ := Option.map_eq_some_iff.mp h
        obtain ⟨i1, i3, i4⟩ := tgs_ok (fun e t h => cTg_ok g h) ht
        obtain ⟨a1, a2⟩ := i1 pgs_nil gs_nil
        rw [List.append_nil] at a1 a2
        obtain ⟨j1, j2⟩ := asg_none (env := X.env) i3
        refine ⟨?_, g_tup a2, rfl⟩
        have := pg_tl (pg_tup (k := k) (pos := p) g.calm a1 (n := ts.length) (by rw [j2, i4]) j1) (pg_unl (k := k) (pos := p) g.calm a1 (n := ts.length) (by rw [j2, i4]) j1)
        rw [g.hK] at this
        exact this
      · rename_i pre x px ps post hst
        split at h
        · rename_i hs
          split at h
          · rename_i ts i us e1 e2 e3
            cases h
            obtain ⟨i1, i3, i4⟩ := tgs_ok (fun e t h => cTg_ok g h) e1
            obtain ⟨k1, k3, k4⟩ := tgs_ok (fun e t h => cTg_ok g h) e3
            obtain ⟨b1, b2⟩ := k1 pgs_nil gs_nil
            rw [List.append_nil] at b1 b2
            obtain ⟨h1, h2⟩ := stOk_ok g hs
            have pn : PG X (.Name x px) (gName i) := pg_name g.nd (by rw [g.hN]; exact idx_at e2) h1 h2
            obtain ⟨a1, a2⟩ := i1 (pgs_star (p := ps) pn b1) (gs_cons (t := .nm i) g_nm b2)
            have he := atStar_ok hst
            refine ⟨?_, g_star a2, rfl⟩
            have := pg_star (k := k) (pos := p) (n := ts.length + us.length + 1) (i := ts.length) g.calm a1 (by rw [asg_len, List.length_append, List.length_cons, i4, k4]; omega) (by rw [asg_star i3, i4]) (by omega)
            rw [g.hK] at this
            rw [he]
            exact this
          · cases h
        · cases h
      · cases h
    · cases h
def cIter (G : GC) (sc : Scope) (f : Expr → Option IE) (tgx iter : Expr) : Option (Ik × List IE) :=
  match iter with
  | .Call (.Name x _) es [] _ =>
    if isB G sc x = true ∧ x = "range" then (match es, mapO f es with
      | [_], some l => some (.rng, l)
      | [_, _], some l => some (.rng, l)
      | _, _ => none)
    else if isB G sc x = true ∧ x = "enumerate" then (match tgx, es, mapO f es with
      | .Tuple _ _ _, [_], some l => some (.enum, l)
      | _, _, _ => none)
    else if isB G sc x = true ∧ x = "zip" then (match tgx, es, mapO f es with
      | .Tuple _ _ _, [_, _], some l => some (.zip, l)
      | _, _, _ => none)
    else (f iter).map fun i => (.seq, [i])
  | _ => (f iter).map fun i => (.seq, [i])
structure ItOk (X : Cx) (c : Cg) (tgx iter : Expr) (ik : Ik) (its : List IE) : Prop where
  pi : PI X tgx iter (TI_ c ik its)
  fs : ∀ env x, foldedSetIterable iter env x = pure x
theorem seq_ok {tgx iter : Expr} {ik : Ik} {its : List IE} (g : Good G N st sc X c) (R : ROk G N r) (h : ((r st sc iter).map fun i => (Ik.seq, [i])) = some (ik, its)) : ItOk X c tgx iter ik its := by
  obtain ⟨i, hi, e⟩ := Option.map_eq_some_iff.mp h
  cases e
  exact ⟨sI_seq g.hK (R.se _ _ _ _ _ _ g hi).E, R.fs _ _ _ _ hi⟩
theorem cIter_ok {tgx iter : Expr} {ik : Ik} {its : List IE} (g : Good G N st sc X c) (R : ROk G N r) (h : cIter G sc (r st sc) tgx iter = some (ik, its)) : ItOk X c tgx iter ik its := by
  unfold cIter at h
  split at h
  · rename_i x p es pos'
    split at h
    · rename_i hx
      obtain ⟨hb, rfl⟩ := hx
      obtain ⟨b1, b2⟩ := isB_ok g hb
      split at h
      · rename_i e1 l h1
        cases h
        obtain ⟨i1, is, k1, k2, rfl⟩ := mapO_cons h1
        cases k2
        exact ⟨sI_rng1 b1 b2 (R.se _ _ _ _ _ _ g k1).E (star_cons (R.ns _ _ _ _ k1) _ _), fun _ _ => rfl⟩
      · rename_i e1 e2 l h1
        cases h
        obtain ⟨i1, is, k1, k2, rfl⟩ := mapO_cons h1
        obtain ⟨i2, is, k3, k4, rfl⟩ := mapO_cons k2
        cases k4
        exact ⟨sI_rng2 b1 b2 (R.se _ _ _ _ _ _ g k1).E (R.se _ _ _ _ _ _ g k3).E (by rw [star_cons (R.ns _ _ _ _ k1), star_cons (R.ns _ _ _ _ k3)]; rfl) (star_cons (R.ns _ _ _ _ k3) _ _), fun _ _ => rfl⟩
      · cases h
    · split at h
      · rename_i hx
        obtain ⟨hb, rfl⟩ := hx
        obtain ⟨b1, b2⟩ := isB_ok g hb
        split at h
        · rename_i h1
          cases h
          obtain ⟨i1, is, k1, k2, rfl⟩ := mapO_cons h1
          cases k2
          exact ⟨sI_enum g.hK b1 b2 (R.se _ _ _ _ _ _ g k1).E (star_cons (R.ns _ _ _ _ k1) _ _), fun _ _ => rfl⟩
        · cases h
      · split at h
        · rename_i hx
          obtain ⟨hb, rfl⟩ := hx
          obtain ⟨b1, b2⟩ := isB_ok g hb
          split at h
          · rename_i h1
            cases h
            obtain ⟨i1, is, k1, k2, rfl⟩ := mapO_cons h1
            obtain ⟨i2, is, k3, k4, rfl⟩ := mapO_cons k2
            cases k4
            exact ⟨sI_zip g.hK b1 b2 (R.se _ _ _ _ _ _ g k1).E (R.se _ _ _ _ _ _ g k3).E (star_cons (R.ns _ _ _ _ k1) _ _) (star_cons (R.ns _ _ _ _ k3) _ _) (by rw [star_cons (R.ns _ _ _ _ k3)]; rfl), fun _ _ => rfl⟩
          · cases h
        · exact seq_ok g R h
  · exact seq_ok g R h
def ownOf (N : List Str) (scope : Scope) : List (Str × Nat) := scope.names.filterMap fun p => if p.2 = .local ∨ p.2 = .cell then (idx N p.1).map fun i => (p.1, i) else none
def cComp (G : GC) (N : List Str) (sc : Scope) (f : Expr → Option IE) (f' : Expr → Option IE) (elt : Expr) (gens : List Comprehension) (scope : Scope) : Option IE :=
  match gens with
  | [⟨tgx, iter, ifs, k⟩] =>
    match cIter G sc f tgx iter, cTg N scope 8 tgx, mapO f' ifs, f' elt with
    | some (ik, its), some t, some iifs, some ielt =>
      if k = 0 ∧ blkC N sc scope (ownOf N scope) = true ∧ (tgIx t).all (fun i => ((ownOf N scope).map (·.2)).elem i) = true ∧ ifs.length ≤ 1 then some (.comp ik its t iifs ielt ((ownOf N scope).map (·.2))) else none
    | _, _, _, _ => none
  | [⟨tgx, iter, ifs, k⟩, ⟨tgx1, iter1, ifs1, k1⟩] =>
    match cIter G sc f tgx iter, cTg N scope 8 tgx, mapO f' ifs, f' elt, cIter G (relS scope sc) f' tgx1 iter1, cTg N scope 8 tgx1, mapO f' ifs1 with
    | some (ik, its), some t, some iifs, some ielt, some (ik1, its1), some t1, some iifs1 =>
      if (k = 0 ∧ k1 = 0) ∧ blkC N sc scope (ownOf N scope) = true ∧ (tgIx t).all (fun i => ((ownOf N scope).map (·.2)).elem i) = true ∧ (tgIx t1).all (fun i => ((ownOf N scope).map (·.2)).elem i) = true ∧ ifs.length ≤ 1 ∧ ifs1.length ≤ 1 then some (.comp2 ik its t iifs ik1 its1 t1 iifs1 ielt ((ownOf N scope).map (·.2)) (tgIx t1)) else none
    | _, _, _, _, _, _, _ => none
  | _ => none
theorem ifs_ok {scope : Scope} {ifs : List Expr} {iifs : List IE} (g : Good G N st sc X c) (R : ROk G N r) (hl : ifs.length ≤ 1) (e3 : mapO (r scope (relS scope sc)) ifs = some iifs) (s : Shared) (H : Hp) (C : Addr) (cl : List (Str × Addr)) (fp : List Addr) : PTs (X.blk s H scope (compEnvC scope cl C X.env) fp) ifs (TIf_ c.still iifs) := by
  match ifs, hl, e3 with
  | [], _, e3 => cases e3; exact sIf_nil
  | [x], _, e3 =>
    obtain ⟨i1, is, k1, k2, rfl⟩ := mapO_cons e3
    cases k2
    exact sIf_one (R.se _ _ _ _ _ _ (g.blk scope s H C cl fp) k1).T
  | _ :: _ :: _, hl, _ => exact absurd hl (by simp)
/-- what a comprehension's own reading rests on -/
inductive CompOk (X : Cx) (c : Cg) (scope : Scope) (elt : Expr) : List Comprehension → IE → Prop
  | one (tgx iter : Expr) (ifs : List Expr) (ownN : List (Str × Nat)) (ik : Ik) (its : List IE) (t : Tg) (iifs : List IE) (ielt : IE)
    (h1 : PI X tgx iter (TI_ c ik its)) (h2 : BlkOk X.N X.env.scope scope ownN) (h3 : ∀ (s : Shared) (H : Hp) (C : Addr) (cl : List (Str × Addr)) (fp : List Addr), PG (X.blk s H scope (compEnvC scope cl C X.env) fp) tgx (gOf c.K t)) (h4 : ∀ (s : Shared) (H : Hp) (C : Addr) (cl : List (Str × Addr)) (fp : List Addr), PTs (X.blk s H scope (compEnvC scope cl C X.env) fp) ifs (TIf_ c.still iifs))
    (h5 : ∀ (s : Shared) (H : Hp) (C : Addr) (cl : List (Str × Addr)) (fp : List Addr), PE (X.blk s H scope (compEnvC scope cl C X.env) fp) elt (TE_ c.still ielt)) (h6 : ∀ x, foldedSetIterable iter X.env x = pure x) (h7 : GOk c t (gOf c.K t)) (h8 : ∀ i ∈ tgIx t, i ∈ ownN.map (·.2)) :
    CompOk X c scope elt [⟨tgx, iter, ifs, 0⟩] (.comp ik its t iifs ielt (ownN.map (·.2)))
  | two (tgx iter tgx1 iter1 : Expr) (ifs ifs1 : List Expr) (ownN : List (Str × Nat)) (ik ik1 : Ik) (its its1 : List IE) (t t1 : Tg) (iifs iifs1 : List IE) (ielt : IE)
    (h1 : PI X tgx iter (TI_ c ik its)) (h2 : BlkOk X.N X.env.scope scope ownN) (h3 : ∀ (s : Shared) (H : Hp) (C : Addr) (cl : List (Str × Addr)) (fp : List Addr), PG (X.blk s H scope (compEnvC scope cl C X.env) fp) tgx (gOf c.K t)) (h4 : ∀ (s : Shared) (H : Hp) (C : Addr) (cl : List (Str × Addr)) (fp : List Addr), PTs (X.blk s H scope (compEnvC scope cl C X.env) fp) ifs (TIf_ c.still iifs))
    (h5 : ∀ (s : Shared) (H : Hp) (C : Addr) (cl : List (Str × Addr)) (fp : List Addr), PE (X.blk s H scope (compEnvC scope cl C X.env) fp) elt (TE_ c.still ielt)) (h6 : ∀ x, foldedSetIterable iter X.env x = pure x) (h7 : GOk c t (gOf c.K t)) (h8 : ∀ i ∈ tgIx t, i ∈ ownN.map (·.2))
    (k1 : ∀ (s : Shared) (H : Hp) (C : Addr) (cl : List (Str × Addr)) (fp : List Addr), PI (X.blk s H scope (compEnvC scope cl C X.env) fp) tgx1 iter1 (TI_ c.still ik1 its1)) (k3 : ∀ (s : Shared) (H : Hp) (C : Addr) (cl : List (Str × Addr)) (fp : List Addr), PG (X.blk s H scope (compEnvC scope cl C X.env) fp) tgx1 (gOf c.K t1)) (k4 : ∀ (s : Shared) (H : Hp) (C : Addr) (cl : List (Str × Addr)) (fp : List Addr), PTs (X.blk s H scope (compEnvC scope cl C X.env) fp) ifs1 (TIf_ c.still iifs1))
    (k6 : ∀ env x, foldedSetIterable iter1 env x = pure x) (k7 : GOk c t1 (gOf c.K t1)) (k8 : ∀ i ∈ tgIx t1, i ∈ ownN.map (·.2)) :
    CompOk X c scope elt [⟨tgx, iter, ifs, 0⟩, ⟨tgx1, iter1, ifs1, 0⟩] (.comp2 ik its t iifs ik1 its1 t1 iifs1 ielt (ownN.map (·.2)) (tgIx t1))
theorem cComp_ok {elt : Expr} {gens : List Comprehension} {scope : Scope} (g : Good G N st sc X c) (R : ROk G N r) (h : cComp G N sc (r st sc) (r scope (relS scope sc)) elt gens scope = some ie) : CompOk X c scope elt gens ie := by
  unfold cComp at h
  split at h
  · rename_i tgx iter ifs k
    split at h
    · rename_i ik its t iifs ielt e1 e2 e3 e4
      split at h
      · rename_i hc
        obtain ⟨rfl, hb, hs, hl⟩ := hc
        cases h
        have I := cIter_ok g R e1
        refine .one tgx iter ifs (ownOf N scope) ik its t iifs ielt I.pi ?_ (fun s H C cl fp => (cTg_ok (g.blk scope s H C cl fp) e2).pg) (ifs_ok g R hl e3) (fun s H C cl fp => (R.se _ _ _ _ _ _ (g.blk scope s H C cl fp) e4).E) (I.fs _) (cTg_ok (c := c.still) (g.blk scope X.s_0 X.H_0 0 [] []) e2).gk fun i m => ?_
        · rw [g.hN, g.scope]; exact blkOk_by hb
        · have := List.all_eq_true.mp hs i m
          simpa using this
      · cases h
    · cases h
  · rename_i tgx iter ifs k tgx1 iter1 ifs1 k1
    split at h
    · rename_i ik its t iifs ielt ik1 its1 t1 iifs1 e1 e2 e3 e4 e5 e6 e7
      split at h
      · rename_i hc
        obtain ⟨⟨rfl, rfl⟩, hb, hs, hs1, hl, hl1⟩ := hc
        cases h
        have I := cIter_ok g R e1
        refine .two tgx iter tgx1 iter1 ifs ifs1 (ownOf N scope) ik ik1 its its1 t t1 iifs iifs1 ielt I.pi ?_ (fun s H C cl fp => (cTg_ok (g.blk scope s H C cl fp) e2).pg) (ifs_ok g R hl e3) (fun s H C cl fp => (R.se _ _ _ _ _ _ (g.blk scope s H C cl fp) e4).E) (I.fs _) (cTg_ok (c := c.still) (g.blk scope X.s_0 X.H_0 0 [] []) e2).gk (fun i m => ?_)
          (fun s H C cl fp => (cIter_ok (g.blk scope s H C cl fp) R e5).pi) (fun s H C cl fp => (cTg_ok (g.blk scope s H C cl fp) e6).pg) (ifs_ok g R hl1 e7) (fun env x => (cIter_ok (g.blk scope X.s_0 X.H_0 0 [] []) R e5).fs env x) (cTg_ok (c := c.still) (g.blk scope X.s_0 X.H_0 0 [] []) e6).gk (fun i m => ?_)
        · rw [g.hN, g.scope]; exact blkOk_by hb
        · have := List.all_eq_true.mp hs i m
          simpa using this
        · have := List.all_eq_true.mp hs1 i m
          simpa using this
      · cases h
    · cases h
  · cases h
theorem CompOk.se {elt : Expr} {gens : List Comprehension} {scope : Scope} (g : Good G N st sc X c) (h : CompOk X c scope elt gens ie) : SE X c (.ListComp elt gens scope pos) ie := by
  cases h with
  | one tgx iter ifs ownN ik its t iifs ielt h1 h2 h3 h4 h5 h6 h7 h8 => exact SE.plain g.hK rfl (fun _ => rfl) (sE_comp g.calm g.nd h1 h2 rfl h3 h4 h5 h6 h7 h8)
  | two tgx iter tgx1 iter1 ifs ifs1 ownN ik ik1 its its1 t t1 iifs iifs1 ielt h1 h2 h3 h4 h5 h6 h7 h8 k1 k3 k4 k6 k7 k8 => exact SE.plain g.hK rfl (fun _ => rfl) (sE_comp2 g.calm g.nd h1 h2 rfl k8 h3 h4 k1 k3 k4 h5 h6 k6 h7 h8 k7 fun _ m => m)
theorem rg_rep {K : Frag} {B H : Hp} {α : List Addr} (n : Int) : RepL K B H α (rangeD 0 n) (rgV 0 n) [] := by
  rw [RepL.all]
  unfold rangeD rgV
  refine ⟨by rw [List.length_map, List.length_map], fun i d v h1 h2 => ?_⟩
  rw [List.getElem?_map] at h1 h2
  cases hr : (List.range (n - 0).toNat)[i]? with
  | none => rw [hr] at h1; cases h1
  | some j => rw [hr] at h1 h2; cases h1; cases h2; exact ⟨rfl, rfl⟩
theorem sE_lrg {p p2 pos2 : Pos} {ia : IE} (hc : X.calm = true) (hg : Gl X "list") (hm : X.mg "list" = none) (hg2 : Gl X "range") (hm2 : X.mg "range" = none) (ha : PE X a (TR_ c ia)) (na : starEach [a] X.env = (false, eval a X.env) :: starEach [] X.env) :
    PE X (.Call (.Name "list" p) [.Call (.Name "range" p2) [a] [] pos2] [] pos) (TE_ c (.lrg ia)) := PE.imp (pe_listRg hc hg hm (prg_1 hg2 hm2 ha na)) fun σ H Q => by
  rintro ⟨B, φ, α, env, st, Kk, Xk, W, w, p, x⟩
  refine ⟨B, φ, α, env, st, _, Xk, W, w, fun d e1 s1 k v B1 H1 φ1 α1 f W1 s r _ => ?_, x⟩
  obtain ⟨n, rfl, hn, k⟩ := intW_inv k
  obtain ⟨rfl, _⟩ := r
  have s' := s.weak (q2 := false) fun h => nomatch h
  refine ⟨n, rfl, ⟨by decide, by decide, hn.1, by have := hn.2; omega, by have := hn.2; omega⟩, fun q hq => ?_⟩
  obtain ⟨W2, s2⟩ := W1.alloc hq (.lst (rgV 0 n))
  have t : TmpL c.K B H φ B1 H1 φ1 α1 (rangeD 0 n) (rgV 0 n) [] := ⟨rg_rep n, List.nodup_nil, (fun _ m => nomatch m), (fun _ m => nomatch m), (fun _ m => nomatch m)⟩
  exact p _ e1 s1 k (.ref q) B1 _ φ1 α1 _ W2 ((s'.trans s2).weak fun h => nomatch h) (t.list W1 s' hq)
theorem dd_mem {α : Type} [DecidableEq α] : ∀ {xs : List α} {x : α}, x ∈ dd xs ↔ x ∈ xs
  | [], x => Iff.rfl
  | y :: ys, x => by
    unfold dd
    split
    · rename_i h
      rw [dd_mem, List.mem_cons]
      exact ⟨.inr, fun z => z.elim (fun e => e ▸ dd_mem.mp h) id⟩
    · rw [List.mem_cons, List.mem_cons, dd_mem]
theorem dd_nodup {α : Type} [DecidableEq α] : ∀ xs : List α, (dd xs).Nodup
  | [] => List.Pairwise.nil
  | y :: ys => by
    unfold dd
    split
    · exact dd_nodup ys
    · rename_i h
      exact List.nodup_cons.mpr ⟨h, dd_nodup ys⟩
abbrev txS (z : Tx) : Str := ⟨z.toArray⟩
theorem txS_inj {x y : Tx} (h : txS x = txS y) : x = y := by
  injection h with h
  simpa using congrArg Array.toList h
theorem sset_ints {ns ms : List Int} (nd : ms.Nodup) (hm : ∀ k, k ∈ ms ↔ k ∈ ns) : ms.mergeSort (PySem.W.dataLe false encI) = sortI (dd ns) := by
  have p : ms.Perm (dd ns) := (List.perm_ext_iff_of_nodup nd (dd_nodup ns)).mpr fun k => (hm k).trans dd_mem.symm
  refine sort_is ((List.mergeSort_perm _ _).trans p) ?_
  have e : PySem.W.dataLe false encI = fun a b : Int => decide (a ≤ b) := PySem.W.dataLe_int id
  rw [e]
  exact (List.pairwise_mergeSort (fun a b c h1 h2 => by rw [decide_eq_true_eq] at *; omega) (fun a b => by rw [Bool.or_eq_true, decide_eq_true_eq, decide_eq_true_eq]; omega) ms).imp fun h => of_decide_eq_true h
theorem leT_trans (a b c : Tx) (h1 : leT a b = true) (h2 : leT b c = true) : leT a c = true := by
  unfold leT at *; rw [decide_eq_true_eq] at *; exact List.le_trans h1 h2
theorem leT_total (a b : Tx) : (leT a b || leT b a) = true := by
  unfold leT; rw [Bool.or_eq_true, decide_eq_true_eq, decide_eq_true_eq]; exact List.le_total a b
theorem sset_strs {ss : List Tx} {ms : List Str} (nd : ms.Nodup) (hm : ∀ k, k ∈ ms ↔ k ∈ ss.map txS) : ms.mergeSort (PySem.W.dataLe false encS) = ((dd ss).mergeSort leT).map txS := by
  have nd2 : ((dd ss).map txS).Nodup := List.pairwise_map.mpr ((dd_nodup ss).imp fun h e => h (txS_inj e))
  have p : ms.Perm ((dd ss).map txS) := (List.perm_ext_iff_of_nodup nd nd2).mpr fun k => (hm k).trans (by
    rw [List.mem_map, List.mem_map]
    exact ⟨fun ⟨x, h, e⟩ => ⟨x, dd_mem.mpr h, e⟩, fun ⟨x, h, e⟩ => ⟨x, dd_mem.mp h, e⟩⟩)
  have e : PySem.W.dataLe false encS = fun a b : Str => decide (a.cps.toList ≤ b.cps.toList) := PySem.W.dataLe_str id
  rw [e]
  have tr : ∀ a b c : Str, decide (a.cps.toList ≤ b.cps.toList) = true → decide (b.cps.toList ≤ c.cps.toList) = true → decide (a.cps.toList ≤ c.cps.toList) = true := fun a b c h1 h2 => by
    rw [decide_eq_true_eq] at *; exact List.le_trans h1 h2
  have to : ∀ a b : Str, (decide (a.cps.toList ≤ b.cps.toList) || decide (b.cps.toList ≤ a.cps.toList)) = true := fun a b => by
    rw [Bool.or_eq_true, decide_eq_true_eq, decide_eq_true_eq]; exact List.le_total _ _
  refine List.Perm.eq_of_pairwise (le := fun a b : Str => decide (a.cps.toList ≤ b.cps.toList) = true) (fun a b _ _ h1 h2 => ?_) (List.pairwise_mergeSort tr to _) (List.pairwise_map.mpr ((List.pairwise_mergeSort leT_trans leT_total _).imp fun {a b} h => ?_)) ((List.mergeSort_perm _ _).trans (p.trans ((List.mergeSort_perm _ _).symm.map _)))
  · rw [decide_eq_true_eq] at h1 h2
    exact PySem.W.str_of_cps (List.le_antisymm h1 h2)
  · unfold leT at h
    rw [decide_eq_true_eq] at h
    show decide (a.toArray.toList ≤ b.toArray.toList) = true
    exact decide_eq_true (by simpa using h)
theorem sE_sset {p p2 pos2 : Pos} {ia : IE} (hc : X.calm = true) (hu : X.A.units + 65 < cLine) (hK : X.K = c.K) (hg : Gl X "sorted") (hm : X.mg "sorted" = none) (hg2 : Gl X "set") (hm2 : X.mg "set" = none) (ha : PE X a (TR_ c ia)) (na : starEach [a] X.env = (false, eval a X.env) :: starEach [] X.env) :
    PE X (.Call (.Name "sorted" p) [.Call (.Name "set" p2) [a] [] pos2] [] pos) (TE_ c (.blt .sortedset [ia])) := PE.imp (pe_sset hc hu hg hm hg2 hm2 ha na) fun σ H Q => by
  rintro ⟨B, φ, α, env, st, Kk, Xk, W, w, p, x⟩
  have w := wRs1 w
  refine ⟨B, φ, α, env, st, _, Xk, W, w, fun d e1 s1 ⟨_, k⟩ v B1 H1 φ1 α1 f W1 s r _ => ?_, x⟩
  have s' := s.weak (q2 := false) fun h => nomatch h
  cases d with
  | lst o xs =>
    rw [sset_lst] at k
    obtain ⟨hl, k⟩ := k
    obtain ⟨a, ws, g, rfl, h, r2, z⟩ := Rep.lst' (c := c) r W1.le
    split at k
    · rename_i ns e
      rw [nums_map e] at r2 hl
      obtain rfl := RepL.ints ns r2
      refine .inl ⟨a, ns, rfl, .of h, by rw [List.length_map] at hl; exact hl, fun q hq => .inl ⟨q, ns, rfl, upd_same, fun q2 ms nd hm hq2 => ?_⟩⟩
      rw [sset_ints nd hm]
      obtain ⟨W2, s2⟩ := W1.alloc hq (setHO (ksI X.prog X.w) q ns)
      obtain ⟨W3, s3⟩ := W2.alloc hq2 (.lst ((sortI (dd ns)).map V.int))
      have t : TmpL c.K B H φ B1 (upd H1 q (setHO (ksI X.prog X.w) q ns)) φ1 α1 ((sortI (dd ns)).map D.int) ((sortI (dd ns)).map V.int) [] := ⟨ints_repL _, List.nodup_nil, (fun _ m => nomatch m), (fun _ m => nomatch m), (fun _ m => nomatch m)⟩
      exact p _ e1 s1 k (.ref q2) B1 _ φ1 α1 _ W3 (((s'.trans s2).trans s3).weak fun h => nomatch h) (t.list W2 ((s'.trans s2).weak fun h => nomatch h) hq2)
    · split at k
      · rename_i ss e
        have ex : xs = ss.map D.str := strs_map e
        rw [ex] at r2 hl
        have ew : ws = (ss.map txS).map V.str := by rw [RepL.strs ss r2, List.map_map]; rfl
        subst ew
        refine .inr ⟨a, ss.map txS, rfl, .of h, by rw [List.length_map] at hl ⊢; exact hl, fun q hq => .inr ⟨q, ss.map txS, rfl, upd_same, fun q2 ms nd hm hq2 => ?_⟩⟩
        rw [sset_strs nd hm, List.map_map]
        obtain ⟨W2, s2⟩ := W1.alloc hq (setHO (ksS X.prog X.w) q (ss.map txS))
        obtain ⟨W3, s3⟩ := W2.alloc hq2 (.lst (((dd ss).mergeSort leT).map (V.str ∘ txS)))
        have t : TmpL c.K B H φ B1 (upd H1 q (setHO (ksS X.prog X.w) q (ss.map txS))) φ1 α1 (((dd ss).mergeSort leT).map D.str) (((dd ss).mergeSort leT).map (V.str ∘ txS)) [] := ⟨strs_repL _, List.nodup_nil, (fun _ m => nomatch m), (fun _ m => nomatch m), (fun _ m => nomatch m)⟩
        exact p _ e1 s1 k (.ref q2) B1 _ φ1 α1 _ W3 (((s'.trans s2).trans s3).weak fun h => nomatch h) (t.list W2 ((s'.trans s2).weak fun h => nomatch h) hq2)
      · exact k.elim
  | _ => exact (show False from k).elim
def cLrg (G : GC) (sc : Scope) (f : Expr → Option IE) : Expr → List Expr → List Keyword → Option IE
  | .Name x _, [.Call (.Name y _) [a] [] _], [] => if x = "list" ∧ y = "range" ∧ isB G sc x = true ∧ isB G sc y = true then (f a).map IE.lrg else if x = "sorted" ∧ y = "set" ∧ isB G sc x = true ∧ isB G sc y = true then (f a).map fun i => .blt .sortedset [i] else none
  | _, _, _ => none
theorem cLrg_ok {fn : Expr} {es : List Expr} {kws : List Keyword} (g : Good G N st sc X c) (R : ROk G N r) (h : cLrg G sc (r st sc) fn es kws = some ie) : SE X c (.Call fn es kws pos) ie := by
  unfold cLrg at h
  split at h
  · split at h
    · rename_i hx
      obtain ⟨rfl, rfl, h1, h2⟩ := hx
      obtain ⟨i, hi, rfl⟩ := Option.map_eq_some_iff.mp h
      obtain ⟨b1, b2⟩ := isB_ok g h1
      obtain ⟨b3, b4⟩ := isB_ok g h2
      exact SE.plain g.hK rfl (fun _ => rfl) (sE_lrg g.calm b1 b2 b3 b4 (R.se _ _ _ _ _ _ g hi).R (star_cons (R.ns _ _ _ _ hi) _ _))
    · split at h
      · rename_i hx
        obtain ⟨rfl, rfl, h1, h2⟩ := hx
        obtain ⟨i, hi, rfl⟩ := Option.map_eq_some_iff.mp h
        obtain ⟨b1, b2⟩ := isB_ok g h1
        obtain ⟨b3, b4⟩ := isB_ok g h2
        exact SE.plain g.hK rfl (fun _ => rfl) (sE_sset g.calm g.hu g.hK b1 b2 b3 b4 (R.se _ _ _ _ _ _ g hi).R (star_cons (R.ns _ _ _ _ hi) _ _))
      · cases h
  · cases h
def cIxL (G : GC) (N : List Str) (sc : Scope) (f : Expr → Option IE) (a b : Expr) : Option IE :=
  match a with
  | .Name x p => if x ∈ G.vw then (match b with
    | .Slice _ _ _ _ => none
    | b => match nmAt N sc (.Name x p), f b with
      | some i, some ib => some (.idxL i ib)
      | _, _ => none) else none
  | _ => none
theorem cIxL_ok (g : Good G N st sc X c) (R : ROk G N r) (h : cIxL G N sc (r st sc) a b = some ie) : SE X c (.Subscript a b pos) ie := by
  unfold cIxL at h
  split at h
  · split at h
    · split at h
      · cases h
      · split at h
        · rename_i e1 e2
          cases h
          have pi : PlainIx b := fun o i => by
            have := R.sl _ _ _ _ e2
            cases b <;> first | rfl | exact absurd rfl (this _ _ _ _)
          exact SE.plain g.hK rfl (fun _ => rfl) (sE_idxL g.hK (nmAt_ok g e1) (R.se _ _ _ _ _ _ g e2).R pi)
        · cases h
    · cases h
  · cases h
def cE1 (G : GC) (N : List Str) (r : Rec) : Rec := fun st sc e =>
  match e with
  | .Constant k _ _ => cConst k
  | .Name x _ => cName G N sc x
  | .BinOp a op b _ => match opIn op, r st sc a, r st sc b with
    | some o, some ia, some ib => some (.op o ia ib)
    | _, _, _ => none
  | .UnaryOp .USub a _ => (r st sc a).map IE.neg
  | .UnaryOp .Not a _ => (r st sc a).map IE.not_
  | .Compare a ops bs _ => cCmp (r st sc) a ops bs
  | .BoolOp op es _ => cBool (r st sc) op es
  | .IfExp t a b _ => match r st sc t, r st sc a, r st sc b with
    | some it, some ia, some ib => some (.ite it ia ib)
    | _, _, _ => none
  | .Tuple es _ _ => (mapO (r st sc) es).map IE.tup
  | .List es _ => (mapO (r st sc) es).map IE.lst
  | .Subscript a b p => match cVw G.vw N sc 4 (.Subscript a b p) with
    | some ie => some ie
    | none => match cIxL G N sc (r st sc) a b with
      | some ie => some ie
      | none => cSub (r st sc) a b
  | .Call fn es kws pos => match cLrg G sc (r st sc) fn es kws with
    | some ie => some ie
    | none => cCall G N sc (r st sc) fn es kws pos
  | .Attribute a x _ => cAttr (r st sc) a x
  | .ListComp elt gens scope _ => cComp G N sc (r st sc) (r scope (relS scope sc)) elt gens scope
  | _ => none
theorem cE1_ok (R : ROk G N r) : ROk G N (cE1 G N r) where
  se := fun st sc X c e ie g h => by
    unfold cE1 at h
    split at h
    · exact cConst_ok g.hK h
    · exact cName_ok g h
    · split at h
      · rename_i e1 e2 e3
        cases h
        have := opIn_ok e1; subst this
        exact SE.plain g.hK rfl (fun _ => rfl) (sE_op g.hK _ (R.se _ _ _ _ _ _ g e2).R (R.se _ _ _ _ _ _ g e3).R)
      · cases h
    · obtain ⟨i, hi, rfl⟩ := Option.map_eq_some_iff.mp h
      exact SE.plain g.hK rfl (fun _ => rfl) (sE_neg (R.se _ _ _ _ _ _ g hi).R)
    · obtain ⟨i, hi, rfl⟩ := Option.map_eq_some_iff.mp h
      exact SE.not g.hK (R.se _ _ _ _ _ _ g hi)
    · exact cCmp_ok g R h
    · exact cBool_ok g R h
    · split at h
      · rename_i e1 e2 e3
        cases h
        exact SE.ite g.hK (R.se _ _ _ _ _ _ g e1) (R.se _ _ _ _ _ _ g e2) (R.se _ _ _ _ _ _ g e3) (sV_ite g.hK (R.se _ _ _ _ _ _ g e1) (R.se _ _ _ _ _ _ g e2) (R.se _ _ _ _ _ _ g e3))
      · cases h
    · obtain ⟨is, hi, rfl⟩ := Option.map_eq_some_iff.mp h
      exact SE.plain g.hK rfl (fun _ => rfl) (sE_tup (pas g R hi))
    · obtain ⟨is, hi, rfl⟩ := Option.map_eq_some_iff.mp h
      rename_i es0 p0
      cases es0 with
      | nil => cases hi; exact SE.plain g.hK rfl (fun _ => rfl) sE_lst0
      | cons e0 er =>
        obtain ⟨b, bs, _, _, rfl⟩ := mapO_cons hi
        exact SE.plain g.hK rfl (fun _ => rfl) (sE_lst (pas g R hi))
    · split at h
      · rename_i e1
        cases h
        obtain ⟨_, ⟨ia, ib, rfl⟩, q⟩ := cVw_ok g 4 e1
        exact SE.vw g.hK (fun _ => rfl) q
      · split at h
        · rename_i e1
          cases h
          exact cIxL_ok g R e1
        · exact cSub_ok g R h
    · split at h
      · rename_i e1
        cases h
        exact cLrg_ok g R e1
      · exact cCall_ok g R h
    · exact cAttr_ok g R h
    · exact (cComp_ok g R h).se g
    · cases h
  ns := fun st sc e ie h => by cases e <;> first | rfl | cases h
  sl := fun st sc e ie h a b d p z => by subst z; cases h
  fs := fun st sc e ie h env x => by cases e <;> first | rfl | cases h
def cE (G : GC) (N : List Str) : Nat → Rec
  | 0 => fun _ _ _ => none
  | n + 1 => cE1 G N (cE G N n)
theorem cE_ok : ∀ n, ROk G N (cE G N n)
  | 0 => ⟨(fun _ _ _ _ _ _ _ h => nomatch h), (fun _ _ _ _ h => nomatch h), (fun _ _ _ _ h => nomatch h), (fun _ _ _ _ h => nomatch h)⟩
  | n + 1 => cE1_ok (cE_ok n)
end
end Ev

namespace Ev
open PySem PySem.Spec PyProof.Rows L2
section
variable {G : GC} {N : List Str} {st sc : Scope} {X : Cx} {c : Cg} {e a b : Expr} {ie : IE} {r : Rec} {pos : Pos} {es : List Expr} {ies : List IE}
theorem ss_setLc {i : Nat} {y : Str} {py : Pos} {elt : Expr} {gens : List Comprehension} {scope : Scope} {spos : Pos} (hc : X.calm = true) (hN : X.N.Nodup) (hy : X.N[i]? = some y) (hyl : X.env.scope.names.lookup y = some .local)
    (hsw : swapsWith (.ListComp elt gens scope pos) (some (.Name y py)) spos.line X.env = pure true) (h : CompOk X c scope elt gens ie) :
    PS X (.Assign [.Name y py] (.ListComp elt gens scope pos) spos) (TS_ c (.asg (.nm i) ie)) := by
  cases h with
  | one tgx iter ifs ownN ik its t iifs ielt h1 h2 h3 h4 h5 h6 h7 h8 => exact PS.imp (ps_setLc hc hN hy hyl hsw h1 h2 h3 h4 h5 h6) fun D σ H h => asg_ev g_nm (fun σ H Q h => lc_ev h7 h8 h) h
  | two tgx iter tgx1 iter1 ifs ifs1 ownN ik ik1 its its1 t t1 iifs iifs1 ielt h1 h2 h3 h4 h5 h6 h7 h8 k1 k3 k4 k6 k7 k8 => exact PS.imp (ps_setLc2 hc hN hy hyl hsw h1 h2 k8 h3 h4 k1 k3 k4 h5 h6 k6) fun D σ H h => asg_ev g_nm (fun σ H Q h => lc2_ev h7 h8 k7 (fun _ m => m) k8 h) h
theorem ixn_lt {n : Nat} {i : Int} {j : Nat} (h : ixn n i = some j) : j < n := by
  unfold ixn at h
  split at h
  · split at h
    · cases h; omega
    · cases h
  · split at h
    · cases h; omega
    · cases h
theorem setIx_get {v : Nat} {i e : IE} {env : Env} {s : Stt} {Q : Kn} (w : wS c.F (.setIx (.var v) i e) env s Q) : wE c.F e env s (fun d e1 s1 => onV (getV e1 v) fun _ => wR c.F i e1 s1 (fun y e2 s2 =>
      intW y fun n => onV (getV e2 v) fun x => setW e2 s2 v x (fun xs R => natW (ixn xs.length n) fun j => R .non (xs.set j d)) fun _ e3 s3 => Q.nx e3 s3) Q.ex) Q.ex := w
theorem ss_setIx {v : Nat} {o i : Expr} {ii : IE} {tpos : Pos} (hK : X.K = c.K) (ho : PE X o (tVar v)) (hi : PE X i (TR_ c ii)) (he : PE X e (TE_ c ie)) (hs : swapsWithSole [.Subscript o i tpos] e pos.line X.env = pure false) (hw : swappedStores [.Subscript o i tpos] e X.env = pure none)
    (ha : ∀ v, assign (.Subscript o i tpos) X.env v = (do
      let ov ← holding [v] (eval o X.env)
      let iv ← holding [v, ov] (eval i X.env)
      standAt tpos
      holding [v, ov, iv] (setItem ov iv v)
      release [v, ov, iv] [])) : PS X (.Assign [.Subscript o i tpos] e pos) (TS_ c (.setIx (.var v) ii ie)) := PS.imp (ps_asg he (pg_sub ho hi set_list ha) hs hw rfl) fun D σ H => by
  rintro ⟨B, φ, α, env, st, Q, W, w, p⟩
  refine ⟨B, φ, α, env, st, _, _, W, setIx_get w, fun d e1 s1 k u B1 H1 φ1 α1 f W1 s t => ?_, p.ex σ⟩
  -- the list's name holds a list throughout
  have s' := s.weak (q2 := false) fun h => nomatch h
  have p1 := p.step s'
  obtain ⟨x0, hx0, k⟩ := getV_some k
  obtain ⟨ov, hv, _⟩ := W1.slot v _ hx0
  refine ⟨ov, hv, B1, φ1, α1, e1, s1, _, _, W1, k, fun y e2 s2 k vy B2 H2 φ2 α2 fy W2 s2' r _ => ?_, p1.ex σ⟩
  obtain ⟨n, rfl, k⟩ := intW_inv k
  obtain ⟨x, hx, k⟩ := getV_some k
  obtain ⟨rfl, _⟩ := r
  have hv2 : ∃ ov', σ[v]? = some (some ov') := ⟨ov, hv⟩
  obtain ⟨w, q, xs, rfl, hat, k⟩ := lst_at W2 hx hv k
  obtain ⟨j, hj, k⟩ := natW_inv k
  obtain ⟨vs, g, hq, rl, hf⟩ := hat.fp W2
  have s2f := s2'.weak (q2 := false) fun h => nomatch h
  have t2 := t.step s' s2f
  have nda : (q :: g).Nodup := hf ▸ W2.nd w
  have apart : ∀ a ∈ q :: g, a ∉ f := fun a m m' => t2.free a m' w (hf ▸ m)
  obtain ⟨h, h1, h2, h3⟩ := RepL.set j (ixn_lt hj) rl t2.rep (List.nodup_cons.mp nda).2 t2.nd fun a m => apart a (List.mem_cons_of_mem _ m)
  refine ⟨q, vs, n, j, rfl, rfl, hq, by rw [← ixn_eq, ← rl.length]; exact hj, ?_⟩
  have tl : TmpL c.K B H φ B2 H2 φ2 α2 [d] [u] (f ++ []) := ⟨⟨u, [], f, [], rfl, t2.rep, ⟨rfl, rfl⟩, rfl⟩, by rw [List.append_nil]; exact t2.nd, by rw [List.append_nil]; exact t2.out, by rw [List.append_nil]; exact t2.free, by rw [List.append_nil]; exact t2.new⟩
  exact mc_fin (Q := fun _ H3 => D.nx σ H3) (z := .non) (v := .non) W2 (s'.trans s2f) hat hf tl h1 h2 (fun b m => by rw [List.append_nil]; exact h3 b m) ⟨rfl, rfl⟩ fun v B' H' φ' f' W' s3 _ => p.nx _ _ k _ _ _ _ _ W' s3
def comp1 : Expr → Bool
  | .ListComp .. | .SetComp .. | .DictComp .. => true
  | _ => false
theorem swaps_no {e : Expr} (h : comp1 e = false) (tg : Option Expr) (l : Nat) (env : PySem.Env) : swapsWith e tg l env = pure false := by cases e <;> first | rfl | cases h
theorem swaps_sole {e t : Expr} (h : comp1 e = false) (l : Nat) (env : PySem.Env) : swapsWithSole [t] e l env = pure false := swaps_no h (some t) l env
def tup1 : Expr → Bool
  | .Tuple .. => true
  | _ => false
theorem swapped_no {e tg : Expr} (h : tup1 e = false) (env : PySem.Env) : swappedStores [tg] e env = pure none := by
  unfold swappedStores
  cases tg <;> first | rfl | (cases e <;> first | rfl | cases h)
theorem swapped_sub {e o i : Expr} {p : Pos} (env : PySem.Env) : swappedStores [.Subscript o i p] e env = pure none := rfl
theorem swapped_const {ts es : List Expr} {k k2 : Nat} {p p2 : Pos} (env : PySem.Env) (h : es.all (foldedForSure 8) = true) : swappedStores [.Tuple ts k p] (.Tuple es k2 p2) env = pure none := by
  unfold swappedStores
  simp only [h]
  show (if _ then _ else _) = _
  split
  · rfl
  · show (if _ then _ else _) = _
    split
    · rfl
    · show (if _ then _ else _) = _
      split
      · rfl
      · rfl
theorem swapped_len {ts es : List Expr} {k k2 : Nat} {p p2 : Pos} (env : PySem.Env) (h : ((ts.length == 2) || (ts.length == 3)) = false) : swappedStores [.Tuple ts k p] (.Tuple es k2 p2) env = pure none := by
  unfold swappedStores
  simp only [h]
  rfl
/-- not all names of the frame, on one line -/
def nmsOf (sc : Scope) (line : Nat) (ts : List Expr) : List Str := ts.filterMap fun
  | .Name id pos => if (sc.names.lookup id == some .local && pos.line == line) = true then some id else none
  | _ => none
theorem swapped_mix {ts es : List Expr} {k k2 : Nat} {p p2 : Pos} (env : PySem.Env) (h : ((nmsOf env.scope ((ts.head?.map (·.pos.line)).getD 0) ts).length != ts.length) = true) : swappedStores [.Tuple ts k p] (.Tuple es k2 p2) env = pure none := by
  unfold swappedStores
  show (if _ then _ else _) = _
  split
  · rfl
  · show (if _ then _ else _) = _
    split
    · rfl
    · show (if ((nmsOf env.scope ((ts.head?.map (·.pos.line)).getD 0) ts).length != ts.length || _) = true then _ else _) = _
      rw [h]
      rfl
end
theorem swapped_2 {x y : Str} {a b : Expr} {px py pt p2 : Pos} {kt k2 : Nat} (env : PySem.Env) (hb : env.blockKind = .function) (hx : env.kindOf x = some .local) (hy : env.kindOf y = some .local) (hxy : x ≠ y) (ha : star1 a = false) (hb' : star1 b = false)
    (hl : (py.line == px.line) = true) (hf : [a, b].all (foldedForSure 8) = false) (hc : [a, b].all (constantsAlone 8) = false) :
    swappedStores [.Tuple [.Name x px, .Name y py] kt pt] (.Tuple [a, b] k2 p2) env = pure (some [x, y]) := by
  have h1 : (env.blockKind != ScopeKind.function) = false := by rw [hb]; rfl
  have h3 : [x, y].eraseDups.length = 2 := by
    have : (y == x) = false := by simpa using Ne.symm hxy
    simp [List.eraseDups, List.eraseDupsBy, List.eraseDupsBy.loop, this]
  unfold swappedStores
  simp only [h1, hf, hc, List.filterMap_cons, List.filterMap_nil, hx, hy, List.head?_cons, Option.map_some, Option.getD_some, hl, Expr.pos]
  simp
  rw [if_neg (by rintro (h | h); exact Bool.noConfusion (ha.symm.trans h); exact Bool.noConfusion (hb'.symm.trans h)), if_pos h3]
theorem swapped_3 {x y z : Str} {a b d : Expr} {px py pz pt p2 : Pos} {kt k2 : Nat} (env : PySem.Env) (hb : env.blockKind = .function) (hx : env.kindOf x = some .local) (hy : env.kindOf y = some .local) (hz : env.kindOf z = some .local) (hxy : x ≠ y) (hxz : x ≠ z) (hyz : y ≠ z)
    (ha : star1 a = false) (hb' : star1 b = false) (hd : star1 d = false)
    (hl : (py.line == px.line) = true) (hl2 : (pz.line == px.line) = true) (hf : [a, b, d].all (foldedForSure 8) = false) (hc : [a, b, d].all (constantsAlone 8) = false) :
    swappedStores [.Tuple [.Name x px, .Name y py, .Name z pz] kt pt] (.Tuple [a, b, d] k2 p2) env = pure (some [x, y, z]) := by
  have h1 : (env.blockKind != ScopeKind.function) = false := by rw [hb]; rfl
  have h3 : [x, y, z].eraseDups.length = 3 := by
    have : (y == x) = false := by simpa using Ne.symm hxy
    have h2 : (z == x) = false := by simpa using Ne.symm hxz
    have h3 : (z == y) = false := by simpa using Ne.symm hyz
    simp [List.eraseDups, List.eraseDupsBy, List.eraseDupsBy.loop, this, h2, h3]
  unfold swappedStores
  simp only [h1, hf, hc, List.filterMap_cons, List.filterMap_nil, hx, hy, hz, List.head?_cons, Option.map_some, Option.getD_some, hl, hl2, Expr.pos]
  simp
  rw [if_neg (by rintro (h | h | h); exact Bool.noConfusion (ha.symm.trans h); exact Bool.noConfusion (hb'.symm.trans h); exact Bool.noConfusion (hd.symm.trans h)), if_pos h3]
section
variable {G : GC} {N : List Str} {st sc : Scope} {X : Cx} {c : Cg} {e a b : Expr} {ie : IE} {r : Rec} {pos : Pos} {es : List Expr} {ies : List IE}
structure GoodS (G : GC) (N : List Str) (sc : Scope) (X : Cx) (c : Cg) : Prop where
  g : Good G N sc sc X c
  po : PassesOwn (model X.prog X.w) X.A X.env X.xe
  kind : sc.kind = .function
  sx : X.stack = X.env :: X.outer
  fr : X.env.frame = some X.env.locals
  ex : X.ex = []
theorem GoodS.tr (g : GoodS G N sc X c) {W : WX} {pn : List (Addr × Obj)} {xe : Value → Shared → Prop} (tk : Takes (X.tr pn xe) W) (po : PassesOwn (model X.prog X.w) X.A X.env xe) : GoodS G N sc (X.tr pn xe) { c with W := W } :=
  ⟨g.g.tr tk, po, g.kind, g.sx, g.fr, g.ex⟩
theorem GoodS.bk (g : GoodS G N sc X c) : X.env.blockKind = .function := by
  unfold Env.blockKind
  rw [g.g.scope, g.kind]; rfl
def cSet (N : List Str) (sc : Scope) (f : Expr → Option IE) (x : Str) (px : Pos) (e : Expr) (pos : Pos) : Option IS :=
  if stOk sc x = true then
    (match e with
      | .ListComp elt gens scope cpos =>
        match idx N x, f e with
        | some i, some ie => if sc.names.lookup x = some .local ∧ ((px.line == cpos.line) && !(scope.names.any fun p => p.1 == x && (p.2 == .local || p.2 == .cell))) = true then some (.asg (.nm i) ie) else none
        | _, _ => none
      | e => match idx N x, f e with
        | some i, some ie => some (.asg (.nm i) ie)
        | _, _ => none)
  else none
theorem lc_of {n : Nat} {elt : Expr} {gens : List Comprehension} {scope : Scope} {cpos : Pos} (g : Good G N st sc X c) (h : cE G N n st sc (.ListComp elt gens scope cpos) = some ie) : CompOk X c scope elt gens ie := by
  cases n with
  | zero => cases h
  | succ n => exact cComp_ok g (cE_ok n) h
theorem cSet_ok {n : Nat} {x : Str} {px : Pos} {i : IS} (g : GoodS G N sc X c) (h : cSet N sc (cE G N n sc sc) x px e pos = some i) : PS X (.Assign [.Name x px] e pos) (TS_ c i) := by
  unfold cSet at h
  split at h
  · rename_i hs
    obtain ⟨h1, h2⟩ := stOk_ok g.g hs
    split at h
    · split at h
      · rename_i j ie e1 e2
        split at h
        · rename_i hx
          cases h
          have hl : X.env.scope.names.lookup x = some .local := by rw [g.g.scope]; exact hx.1
          refine ss_setLc g.g.calm g.g.nd (by rw [g.g.hN]; exact idx_at e1) hl ?_ (lc_of g.g e2)
          show (pure (X.env.blockKind == .function && X.env.kindOf x == some .local && _ && _) : Sem Bool) = pure true
          rw [g.bk, show X.env.kindOf x = some .local from hl]
          exact congrArg pure hx.2
        · cases h
      · cases h
    · split at h
      · rename_i _ hne _ _ j ie e1 e2
        cases h
        have R := cE_ok (G := G) (N := N) n
        have hc : comp1 e = false := by
          cases e <;> first | rfl | exact (hne _ _ _ _ rfl).elim | (cases n <;> cases e2)
        exact ss_set g.g.nd (by rw [g.g.hN]; exact idx_at e1) h1 (R.se _ _ _ _ _ _ g.g e2).E (swaps_no hc _ _ _) h2
      · cases h
  · cases h
def distinct3 (x y z : Str) : Bool := decide (x ≠ y) && decide (x ≠ z) && decide (y ≠ z)
def isLoc (sc : Scope) (x : Str) : Bool := decide (sc.names.lookup x = some .local)
def cTup (N : List Str) (sc : Scope) (f : Expr → Option IE) (ts : List Expr) (e : Expr) : Option IS :=
  match e with
  | .Tuple es _ _ =>
    if es.all (foldedForSure 8) = true ∨ ((ts.length == 2) || (ts.length == 3)) = false ∨ ((nmsOf sc ((ts.head?.map (·.pos.line)).getD 0) ts).length != ts.length) = true then
      (match cTg N sc 8 (.Tuple ts 0 ⟨0, 0, 0, 0⟩), f e with
      | some t, some ie => some (.asg t ie)
      | _, _ => none)
    else match ts, es with
    | [.Name x px, .Name y py], [a, b] =>
      (match idx N x, idx N y, f a, f b with
      | some i, some j, some ia, some ib => if (isLoc sc x && isLoc sc y && decide (x ≠ y) && decide (i ≠ j) && (py.line == px.line) && !([a, b].all (foldedForSure 8)) && !([a, b].all (constantsAlone 8))) = true then some (.asg (.tup [.nm i, .nm j]) (.tup [ia, ib])) else none
      | _, _, _, _ => none)
    | [.Name x px, .Name y py, .Name z pz], [a, b, d] =>
      (match idx N x, idx N y, idx N z, f a, f b, f d with
      | some i, some j, some l, some ia, some ib, some id => if (isLoc sc x && isLoc sc y && isLoc sc z && distinct3 x y z && decide (i ≠ j ∧ i ≠ l ∧ j ≠ l) && (py.line == px.line) && (pz.line == px.line) && !([a, b, d].all (foldedForSure 8)) && !([a, b, d].all (constantsAlone 8))) = true then some (.asg (.tup [.nm i, .nm j, .nm l]) (.tup [ia, ib, id])) else none
      | _, _, _, _, _, _ => none)
    | _, _ => none
  | e => if comp1 e = true then none else match cTg N sc 8 (.Tuple ts 0 ⟨0, 0, 0, 0⟩), f e with
    | some t, some ie => some (.asg t ie)
    | _, _ => none
theorem ctg_tup {ts : List Expr} {t : Tg} {k : Nat} {p : Pos} (h : cTg N st 8 (.Tuple ts 0 ⟨0, 0, 0, 0⟩) = some t) : cTg N st 8 (.Tuple ts k p) = some t := h
theorem cTup_ok {n : Nat} {ts : List Expr} {k : Nat} {p : Pos} {i : IS} (g : GoodS G N sc X c) (h : cTup N sc (cE G N n sc sc) ts e = some i) : PS X (.Assign [.Tuple ts k p] e pos) (TS_ c i) := by
  have R := cE_ok (G := G) (N := N) n
  unfold cTup at h
  split at h
  · rename_i es k2 p2
    split at h
    · rename_i hc
      split at h
      · rename_i t ie e1 e2
        cases h
        have T := cTg_ok g.g (ctg_tup (k := k) (p := p) e1)
        exact ss_asg (R.se _ _ _ _ _ _ g.g e2).E T.pg T.gk (swaps_sole rfl _ _) (hc.elim (swapped_const _) fun hc => hc.elim (swapped_len _) fun hc => swapped_mix _ (by rw [g.g.scope]; exact hc)) rfl
      · cases h
    · split at h
      · rename_i x px y py a b _
        split at h
        · rename_i i j ia ib e1 e2 e3 e4
          split at h
          · rename_i hq
            cases h
            simp only [Bool.and_eq_true, isLoc, decide_eq_true_eq, Bool.not_eq_true'] at hq
            obtain ⟨⟨⟨⟨⟨⟨q1, q2⟩, q3⟩, q4⟩, q5⟩, q6⟩, q7⟩ := hq
            have k1 : X.env.scope.names.lookup x = some .local := by rw [g.g.scope]; exact q1
            have k2 : X.env.scope.names.lookup y = some .local := by rw [g.g.scope]; exact q2
            have n1 := R.ns _ _ _ _ e3
            have n2 := R.ns _ _ _ _ e4
            exact ss_par g.g.calm g.g.nd (by rw [g.g.hN]; exact idx_at e1) (by rw [g.g.hN]; exact idx_at e2) q4 k1 k2 (sA_cons (R.se _ _ _ _ _ _ g.g e3).E (sA_cons (R.se _ _ _ _ _ _ g.g e4).E sA_nil (star_cons n2 _ _)) (star_cons n1 _ _))
              (swapped_2 _ g.bk k1 k2 q3 n1 n2 q5 q6 q7) (swaps_sole rfl _ _)
          · cases h
        · cases h
      · rename_i x px y py z pz a b d _
        split at h
        · rename_i i j l ia ib id e1 e2 e3 e4 e5 e6
          split at h
          · rename_i hq
            cases h
            simp only [Bool.and_eq_true, isLoc, decide_eq_true_eq, Bool.not_eq_true', distinct3] at hq
            obtain ⟨⟨⟨⟨⟨⟨⟨⟨q1, q2⟩, q3⟩, ⟨qa, qb⟩, qc⟩, q4⟩, q5⟩, q5'⟩, q6⟩, q7⟩ := hq
            have k1 : X.env.scope.names.lookup x = some .local := by rw [g.g.scope]; exact q1
            have k2 : X.env.scope.names.lookup y = some .local := by rw [g.g.scope]; exact q2
            have k3 : X.env.scope.names.lookup z = some .local := by rw [g.g.scope]; exact q3
            have n1 := R.ns _ _ _ _ e4
            have n2 := R.ns _ _ _ _ e5
            have n3 := R.ns _ _ _ _ e6
            exact ss_par3 g.g.calm g.g.nd (by rw [g.g.hN]; exact idx_at e1) (by rw [g.g.hN]; exact idx_at e2) (by rw [g.g.hN]; exact idx_at e3) q4.1 q4.2.1 q4.2.2 k1 k2 k3
              (sA_cons (R.se _ _ _ _ _ _ g.g e4).E (sA_cons (R.se _ _ _ _ _ _ g.g e5).E (sA_cons (R.se _ _ _ _ _ _ g.g e6).E sA_nil (star_cons n3 _ _)) (star_cons n2 _ _)) (star_cons n1 _ _))
              (swapped_3 _ g.bk k1 k2 k3 qa qb qc n1 n2 n3 q5 q5' q6 q7) (swaps_sole rfl _ _)
          · cases h
        · cases h
      · cases h
  · split at h
    · cases h
    · rename_i hne hc
      split at h
      · rename_i t ie e1 e2
        cases h
        have T := cTg_ok g.g (ctg_tup (k := k) (p := p) e1)
        have ht : tup1 e = false := by cases e <;> first | rfl | exact (hne _ _ _ rfl).elim
        exact ss_asg (R.se _ _ _ _ _ _ g.g e2).E T.pg T.gk (swaps_sole (by simpa using hc) _ _) (swapped_no ht _) rfl
      · cases h
/-- the name of a list that is written to -/
def cVar (N : List Str) (sc : Scope) : Expr → Option Nat
  | .Name x _ => if x = "__debug__" ∨ x = "__classdict__" then none else if isLoc sc x = true then idx N x else none
  | _ => none
theorem cVar_ok {i : Nat} (g : Good G N st sc X c) (h : cVar N sc e = some i) : PE X e (tVar i) ∧ ∃ x p, e = .Name x p := by
  unfold cVar at h
  split at h
  · split at h
    · cases h
    · rename_i hn
      split at h
      · rename_i hl
        exact ⟨pe_var (by rw [g.hN]; exact idx_at h) (by rw [g.scope]; exact .inl (of_decide_eq_true hl)) (beq_no fun z => hn (.inl z)) (beq_no fun z => hn (.inr z)), _, _, rfl⟩
      · cases h
  · cases h
theorem asg_sub {o i : Expr} {p : Pos} {env : PySem.Env} (h : ∀ (a b : Option Expr) d q, i ≠ .Slice a b d q) (v : Value) : assign (.Subscript o i p) env v = (do
      let ov ← holding [v] (eval o env)
      let iv ← holding [v, ov] (eval i env)
      standAt p
      holding [v, ov, iv] (setItem ov iv v)
      release [v, ov, iv] []) := by cases i <;> first | rfl | exact absurd rfl (h _ _ _ _)
def slice1 : Expr → Bool
  | .Slice .. => true
  | _ => false
/-- what an except suite may hold -/
def cEh (N : List Str) (sc : Scope) : Expr → Option IE
  | .Constant k _ _ => cConst k
  | .Name y p => (cVar N sc (.Name y p)).map IE.var
  | .Attribute (.Name y p) f _ => if f = "what" then (cVar N sc (.Name y p)).map fun j => .attr (.var j) 36 else none
  | _ => none
def cH (N : List Str) (sc : Scope) : Stmt → Option IS
  | .Assign [.Name x _] e _ => if isLoc sc x = true then (match idx N x, cEh N sc e with
    | some i, some ie => some (.asg (.nm i) ie)
    | _, _ => none) else none
  | .Return (some e) _ => (match cEh N sc e with
    | some ie => if isVar ie = true then none else some (.ret ie)
    | none => none)
  | .Return none _ => some .retN
  | .Pass _ => some .pass
  | _ => none
structure GoodH (N : List Str) (sc : Scope) (X : Cx) (c : Cg) : Prop where
  hK : X.K = c.K
  hN : X.N = N
  nd : X.N.Nodup
  scope : X.env.scope = sc
theorem cVarH {i : Nat} (g : GoodH N sc X c) (h : cVar N sc e = some i) : PE X e (tVar i) := by
  unfold cVar at h
  split at h
  · split at h
    · cases h
    · rename_i hn
      split at h
      · rename_i hl
        exact pe_var (by rw [g.hN]; exact idx_at h) (by rw [g.scope]; exact .inl (of_decide_eq_true hl)) (beq_no fun z => hn (.inl z)) (beq_no fun z => hn (.inr z))
      · cases h
  · cases h
theorem cEh_ok (g : GoodH N sc X c) (h : cEh N sc e = some ie) : PE X e (TE_ c ie) ∧ comp1 e = false := by
  unfold cEh at h
  split at h
  · exact ⟨(cConst_ok g.hK h).E, rfl⟩
  · obtain ⟨j, hj, rfl⟩ := Option.map_eq_some_iff.mp h
    exact ⟨sE_var (cVarH g hj), rfl⟩
  · split at h
    · rename_i hf
      obtain ⟨j, hj, rfl⟩ := Option.map_eq_some_iff.mp h
      subst hf
      exact ⟨sE_attr (n := 36) g.hK (sR_var (cVarH g hj)) (base_ok rfl _ _ _), rfl⟩
    · cases h
  · cases h
theorem cH_ok {s : Stmt} {i : IS} (g : GoodH N sc X c) (h : cH N sc s = some i) : PS X s (TS_ c i) := by
  unfold cH at h
  split at h
  · split at h
    · rename_i hl
      split at h
      · rename_i e1 e2
        cases h
        obtain ⟨h1, h2⟩ := cEh_ok g e2
        have hl := of_decide_eq_true hl
        rw [← g.scope] at hl
        exact ss_set g.nd (by rw [g.hN]; exact idx_at e1) (.inl hl) h1 (swaps_no h2 _ _ _) (.inr hl)
      · cases h
    · cases h
  · split at h
    · rename_i e1
      split at h
      · cases h
      · rename_i hv
        cases h
        exact ss_ret (by simpa using hv) (cEh_ok g e1).1
    · cases h
  · cases h; exact ss_retN
  · cases h; exact ss_pass
  · cases h
def cHd (N : List Str) (sc : Scope) (s : Stmt) : Option IS := match cH N sc s with
  | some i => some i
  | none => some .bad
theorem cHd_ok {s : Stmt} {i : IS} (g : GoodH N sc X c) (h : cHd N sc s = some i) : PS X s (TS_ c i) := by
  unfold cHd at h
  split at h
  · rename_i e; cases h; exact cH_ok g e
  · cases h; exact ss_bad
def cS1 (ex : Str → Option Nat) (N : List Str) (sc : Scope) (f : Expr → Option IE) (it : Expr → Expr → Option (Ik × List IE)) (rs : Stmt → Option IS) (s : Stmt) : Option IS :=
  match s with
  | .Assign [.Name x px] e pos => cSet N sc f x px e pos
  | .Assign [.Tuple ts _ _] e _ => cTup N sc f ts e
  | .Assign [.Subscript o i _] e _ => if comp1 e = true ∨ slice1 i = true then none else match cVar N sc o, f i, f e with
    | some v, some ii, some ie => some (.setIx (.var v) ii ie)
    | _, _, _ => none
  | .Assign [.Attribute o x _] e _ => if comp1 e = true then none else match cVar N sc o, fldNo x, f e with
    | some v, some n, some ie => some (.setF v n ie)
    | _, _, _ => none
  | .AugAssign (.Name x _) op e _ => if stOk sc x = true then (match idx N x, opIn op, f e with
    | some i, some o, some ie => some (.aug i o ie)
    | _, _, _ => none) else none
  | .Expr (.Constant (.str _) _ _) _ => some .pass
  | .Expr e _ => if comp1 e = true then none else (f e).map IS.expr
  | .Return (some e) _ => match e, f e with
    | .Name _ _, some (.var i) => (match cVar N sc e with
      | some j => some (.ret (.var j))
      | none => none)
    | _, some ie => if isVar ie = true then none else some (.ret ie)
    | _, none => none
  | .Return none _ => some .retN
  | .If t a b _ => match f t, mapO rs a, mapO rs b with
    | some it, some ia, some ib => some (.ite it ia ib)
    | _, _, _ => none
  | .For tg iter body [] _ => match it tg iter, cTg N sc 8 tg, mapO rs body with
    | some (ik, its), some t, some ib => some (.for_ ik its t ib)
    | _, _, _ => none
  | .While t body [] _ => match f t, mapO rs body with
    | some it, some ib => some (.while_ it ib)
    | _, _ => none
  | .Pass _ => some .pass
  | .Break _ => some .brk
  | .Continue _ => some .cont
  | .Raise (some (.Call (.Name x _) [e] [] _)) none _ => if (x == ("__debug__" : Str)) = false ∧ sc.names.lookup x = some .globalImplicit then (match ex x, f e with
    | some k, some ie => some (.raise_ k ie)
    | _, _ => none) else none
  | .Try body [.ExceptHandler (some (.Name x _)) (some n) (s0 :: su) _] [] [] _ => if ((x == ("__debug__" : Str)) = false ∧ sc.names.lookup x = some .globalImplicit) ∧ isLoc sc n = true then (match ex x, idx N n, mapO rs body, mapO (cHd N sc) (s0 :: su) with
    | some k, some i, some ib, some iu => some (.tryS ib k i iu)
    | _, _, _, _ => none) else none
  | _ => none
theorem swapped_two {o1 i1 o2 i2 a b : Expr} {p1 p2 p p' : Pos} {k k2 : Nat} (env : PySem.Env) : swappedStores [.Tuple [.Subscript o1 i1 p1, .Subscript o2 i2 p2] k p] (.Tuple [a, b] k2 p') env = pure none := by
  unfold swappedStores
  show (if _ then _ else _) = _
  split
  · rfl
  · show (if _ then _ else _) = _
    split
    · rfl
    · rfl
theorem at_ix {xs : List D} {a : Int} {p : Nat} {y : D} (h : ixn xs.length a = some p) (e : xs[p]? = some y) : atx xs a = some y := by
  unfold atx
  rw [h]; exact e
theorem nfL_at : ∀ {xs : List D} {p : Nat} {z : D}, nfL xs = true → xs[p]? = some z → nf z = true
  | [], _, _, _, e => nomatch e
  | x :: xs, 0, z, h, e => by
    rw [nfL, Bool.and_eq_true_iff] at h
    cases e; exact h.1
  | x :: xs, p + 1, z, h, e => by
    rw [nfL, Bool.and_eq_true_iff] at h
    exact nfL_at h.2 (by simpa using e)
theorem ss_swap {v i j : Nat} {o1 o2 o3 o4 i1 i2 i3 i4 : Expr} {p1 p2 p3 p4 p p' : Pos} {k k2 : Nat} (hK : X.K = c.K) (hc : X.calm = true) (h1 : PE X o1 (tVar v)) (h2 : PE X o2 (tVar v)) (h3 : PE X o3 (tVar v)) (h4 : PE X o4 (tVar v))
    (a1 : PE X i1 (tVar i)) (a2 : PE X i2 (tVar j)) (b1 : PE X i3 (tVar j)) (b2 : PE X i4 (tVar i)) (pl3 : PlainIx i3) (pl4 : PlainIx i4)
    (as1 : ∀ v, assign (.Subscript o1 i1 p1) X.env v = (do
      let ov ← holding [v] (eval o1 X.env)
      let iv ← holding [v, ov] (eval i1 X.env)
      standAt p1
      holding [v, ov, iv] (setItem ov iv v)
      release [v, ov, iv] []))
    (as2 : ∀ v, assign (.Subscript o2 i2 p2) X.env v = (do
      let ov ← holding [v] (eval o2 X.env)
      let iv ← holding [v, ov] (eval i2 X.env)
      standAt p2
      holding [v, ov, iv] (setItem ov iv v)
      release [v, ov, iv] [])) :
    PS X (.Assign [.Tuple [.Subscript o1 i1 p1, .Subscript o2 i2 p2] k p] (.Tuple [.Subscript o3 i3 p3, .Subscript o4 i4 p4] k2 p') pos) (TS_ c (.swap v i j)) :=
  PS.imp (ps_asg (pe_tup (pa_cons (sL_vw hK (sL_var h3) (sQ_var b1) pl3) (pa_cons (sL_vw hK (sL_var h4) (sQ_var b2) pl4) pa_nil))) (pg_tup hc (pgs_cons (pg_sub h1 a1 set_list as1) (pgs_cons (pg_sub h2 a2 set_list as2) pgs_nil))) rfl (swapped_two _) rfl) fun D σ H => by
  rintro ⟨B, φ, α, env, st, Q, W, w, pq⟩
  have w : onV (getV env i) fun ia => intW ia fun a => onV (getV env j) fun jb => intW jb fun b => onV (getV env v) fun x => ownW x fun xs => nfL xs = true ∧ natW (ixn xs.length a) fun p => natW (ixn xs.length b) fun q => onV xs[p]? fun y => onV xs[q]? fun z => Q.nx (env.set v (some (.lst true ((xs.set p z).set q y)))) st := w
  obtain ⟨ia, hia, w⟩ := getV_some w
  obtain ⟨a, rfl, w⟩ := intW_inv w
  obtain ⟨jb, hjb, w⟩ := getV_some w
  obtain ⟨b, rfl, w⟩ := intW_inv w
  obtain ⟨x, hx, w⟩ := getV_some w
  obtain ⟨xs, rfl, hn, w⟩ : ∃ xs, x = .lst true xs ∧ nfL xs = true ∧ natW (ixn xs.length a) fun p => natW (ixn xs.length b) fun q => onV xs[p]? fun y => onV xs[q]? fun z => Q.nx (env.set v (some (.lst true ((xs.set p z).set q y)))) st := by
    unfold ownW at w
    split at w
    · exact ⟨_, rfl, w.1, w.2⟩
    · exact w.elim
  obtain ⟨pa, hpa, w⟩ := natW_inv w
  obtain ⟨pb, hpb, w⟩ := natW_inv w
  obtain ⟨y, hy, w⟩ := onV_inv w
  obtain ⟨z, hz, w⟩ := onV_inv w
  obtain ⟨ov, hv, q, vs, g, rfl, hq, rl, hf⟩ := W.slot v _ hx
  obtain ⟨ea, va, ra⟩ : ∃ u, σ[i]? = some (some u) ∧ u = .int a := by obtain ⟨u, h, r⟩ := W.slot i _ hia; exact ⟨u, h, r.1⟩
  subst ra
  obtain ⟨eb, vb, rb⟩ : ∃ u, σ[j]? = some (some u) ∧ u = .int b := by obtain ⟨u, h, r⟩ := W.slot j _ hjb; exact ⟨u, h, r.1⟩
  subst rb
  have g0 : g = [] := RepL.nf xs vs g hn rl
  subst g0
  have gv : getV env v = some (.lst true xs) := by unfold getV; rw [hx]
  have gi : getV env i = some (.int a) := by unfold getV; rw [hia]
  have gj : getV env j = some (.int b) := by unfold getV; rw [hjb]
  refine ⟨B, φ, α, env, st, fun d => d = z, W, ?_, fun d vz fz hd rz => ?_⟩
  · show onV (getV env v) fun d => onV (getV env j) fun x => intW x fun n => idxW (derefD st d) (.int n) fun d => d = z
    rw [gv, gj]
    show onV (atx xs b) fun d => d = z
    rw [at_ix hpb hz]; rfl
  rw [hd] at rz
  refine ⟨B, φ, α, env, st, fun d => d = y, W, ?_, fun d vy fy hd ry => ?_⟩
  · show onV (getV env v) fun d => onV (getV env i) fun x => intW x fun n => idxW (derefD st d) (.int n) fun d => d = y
    rw [gv, gi]
    show onV (atx xs a) fun d => d = y
    rw [at_ix hpa hy]; rfl
  rw [hd] at ry
  obtain rfl := Rep.nf z vz fz (nfL_at hn hz) rz
  obtain rfl := Rep.nf y vy fy (nfL_at hn hy) ry
  refine ⟨by show 2 ≤ sizeLine; decide, fun t ht => ?_⟩
  obtain ⟨W1, s1⟩ := W.alloc ht (.tup [vz, vy])
  have qt : q ≠ t := fun e => by rw [e, ht] at hq; cases hq
  have hat : HoldsAt (.inl v) σ α env st q xs := ⟨hx, hv⟩
  obtain ⟨vs', g', hq1, rl1, hf1⟩ := hat.fp W1
  have hq2 := hq1
  rw [upd_oth qt, hq] at hq2
  cases hq2
  have rz1 : Rep c.K B (upd H t (.tup [vz, vy])) α z vz [] := Rep.ext (HLe.refl B) (fun _ _ h => h) z vz [] (fun _ m => nomatch m) rz
  have ry1 : Rep c.K B (upd H t (.tup [vz, vy])) α y vy [] := Rep.ext (HLe.refl B) (fun _ _ h => h) y vy [] (fun _ m => nomatch m) ry
  have g0 : g' = [] := RepL.nf xs vs g' hn rl1
  subst g0
  obtain ⟨k1, r1, n1, m1⟩ := RepL.set pa (ixn_lt hpa) rl1 rz1 List.nodup_nil List.nodup_nil fun _ m => nomatch m
  obtain ⟨k2', r2, n2, m2⟩ := RepL.set pb (by rw [List.length_set]; exact ixn_lt hpb) r1 ry1 n1 List.nodup_nil fun _ _ m => nomatch m
  refine ⟨t, [vz, vy], rfl, .of upd_self, rfl, ?_⟩
  refine ⟨vz, [vy], rfl, ?_⟩
  refine ⟨.ref q, hv, .int a, va, ?_⟩
  refine ⟨q, vs, a, pa, rfl, rfl, hq1, by rw [← ixn_eq, ← rl.length]; exact hpa, ?_⟩
  refine ⟨vy, [], rfl, ?_⟩
  refine ⟨.ref q, hv, .int b, vb, ?_⟩
  refine ⟨q, vs.set pa vz, b, pb, rfl, rfl, upd_self, by rw [List.length_set, ← ixn_eq, ← rl.length]; exact hpb, ?_⟩
  refine ⟨rfl, ?_⟩
  have e : upd (upd (upd H t (.tup [vz, vy])) q (.lst (vs.set pa vz))) q (.lst ((vs.set pa vz).set pb vy)) = upd (upd H t (.tup [vz, vy])) q (.lst ((vs.set pa vz).set pb vy)) := by
    funext b
    by_cases hb : b = q
    · rw [hb, upd_self, upd_self]
    · rw [upd_oth hb, upd_oth hb, upd_oth hb]
  rw [e]
  have tl : TmpL c.K B H φ B (upd H t (.tup [vz, vy])) φ α [] [] [] := ⟨⟨rfl, rfl⟩, List.nodup_nil, (fun _ m => nomatch m), (fun _ m => nomatch m), (fun _ m => nomatch m)⟩
  exact mc_fin (Q := fun _ H3 => D.nx σ H3) (z := .non) (v := .non) W1 s1 hat hf1 tl r2 n2 (fun b m => by
    rcases m2 b m with m | m
    · rcases m1 b m with m | m
      · exact .inl m
      · exact nomatch m
    · exact nomatch m) ⟨rfl, rfl⟩ fun v B' H' φ' f' W' s3 _ => pq.nx _ _ w _ _ _ _ _ W' s3
def cSwap (N : List Str) (sc : Scope) : Stmt → Option IS
  | .Assign [.Tuple [.Subscript o1 i1 _, .Subscript o2 i2 _] _ _] (.Tuple [.Subscript o3 i3 _, .Subscript o4 i4 _] _ _) _ =>
    match cVar N sc o1, cVar N sc o2, cVar N sc o3, cVar N sc o4, cVar N sc i1, cVar N sc i2, cVar N sc i3, cVar N sc i4 with
    | some v, some v2, some v3, some v4, some a, some b, some b', some a' => if (v = v2 ∧ v = v3 ∧ v = v4) ∧ a = a' ∧ b = b' then some (.swap v a b) else none
    | _, _, _, _, _, _, _, _ => none
  | _ => none
theorem cSwap_ok {s : Stmt} {i : IS} (g : Good G N st sc X c) (h : cSwap N sc s = some i) : PS X s (TS_ c i) := by
  unfold cSwap at h
  split at h
  · split at h
    · rename_i e1 e2 e3 e4 e5 e6 e7 e8
      split at h
      · rename_i hh
        obtain ⟨⟨rfl, rfl, rfl⟩, rfl, rfl⟩ := hh
        cases h
        obtain ⟨q1, _⟩ := cVar_ok g e1
        obtain ⟨q2, _⟩ := cVar_ok g e2
        obtain ⟨q3, _⟩ := cVar_ok g e3
        obtain ⟨q4, _⟩ := cVar_ok g e4
        obtain ⟨q5, _, _, rfl⟩ := cVar_ok g e5
        obtain ⟨q6, _, _, rfl⟩ := cVar_ok g e6
        obtain ⟨q7, _, _, rfl⟩ := cVar_ok g e7
        obtain ⟨q8, _, _, rfl⟩ := cVar_ok g e8
        exact ss_swap g.hK g.calm q1 q2 q3 q4 q5 q6 q7 q8 (fun _ _ => rfl) (fun _ _ => rfl) (by intro _; rfl) (by intro _; rfl)
      · cases h
    · cases h
  · cases h
/-- what is kept in certain lists is shared at once -/
def frzC : IE → IE
  | .comp ik its t ifs elt own => .comp ik its t ifs (.frz elt) own
  | e => e
theorem CompOk.frz {scope : Scope} {elt : Expr} {gens : List Comprehension} (h : CompOk X c scope elt gens ie) : CompOk X c scope elt gens (frzC ie) := by
  cases h with
  | one tgx iter ifs ownN ik its t iifs ielt h1 h2 h3 h4 h5 h6 h7 h8 => exact .one tgx iter ifs ownN ik its t iifs (.frz ielt) h1 h2 h3 h4 (fun s H C cl fp => sE_frz (h5 s H C cl fp)) h6 h7 h8
  | two tgx iter tgx1 iter1 ifs ifs1 ownN ik ik1 its its1 t t1 iifs iifs1 ielt h1 h2 h3 h4 h5 h6 h7 h8 k1 k3 k4 k6 k7 k8 => exact .two tgx iter tgx1 iter1 ifs ifs1 ownN ik ik1 its its1 t t1 iifs iifs1 ielt h1 h2 h3 h4 h5 h6 h7 h8 k1 k3 k4 k6 k7 k8
def cFz (G : GC) (N : List Str) (sc : Scope) (f : Expr → Option IE) : Stmt → Option IS
  | .Assign [.Name x px] (.ListComp elt gens scope cpos) _ => if x ∈ G.fr ∧ stOk sc x = true then (match idx N x, f (.ListComp elt gens scope cpos) with
      | some i, some ie => if sc.names.lookup x = some .local ∧ ((px.line == cpos.line) && !(scope.names.any fun p => p.1 == x && (p.2 == .local || p.2 == .cell))) = true then some (.asg (.nm i) (frzC ie)) else none
      | _, _ => none) else none
  | .Assign [.Subscript (.Name x q) i _] e _ => if x ∈ G.fr then (if comp1 e = true ∨ slice1 i = true then none else match cVar N sc (.Name x q), f i, f e with
      | some v, some ii, some ie => some (.setIx (.var v) ii (.frz ie))
      | _, _, _ => none) else none
  | _ => none
theorem cFz_ok {s : Stmt} {i : IS} (g : GoodS G N sc X c) (h : cFz G N sc (cE G N 30 sc sc) s = some i) : PS X s (TS_ c i) := by
  have R := cE_ok (G := G) (N := N) 30
  unfold cFz at h
  split at h
  · rename_i x px elt gens scope cpos pos
    split at h
    · rename_i hs
      obtain ⟨h1, h2⟩ := stOk_ok g.g hs.2
      split at h
      · rename_i j ie e1 e2
        split at h
        · rename_i hx
          cases h
          have hl : X.env.scope.names.lookup x = some .local := by rw [g.g.scope]; exact hx.1
          refine ss_setLc g.g.calm g.g.nd (by rw [g.g.hN]; exact idx_at e1) hl ?_ (lc_of g.g e2).frz
          show (pure (X.env.blockKind == .function && X.env.kindOf x == some .local && _ && _) : Sem Bool) = pure true
          rw [g.bk, show X.env.kindOf x = some .local from hl]
          exact congrArg pure hx.2
        · cases h
      · cases h
    · cases h
  · split at h
    · split at h
      · cases h
      · rename_i hc
        split at h
        · rename_i e1 e2 e3
          cases h
          obtain ⟨v1, _⟩ := cVar_ok g.g e1
          refine ss_setIx g.g.hK v1 (R.se _ _ _ _ _ _ g.g e2).R (sE_frz (R.se _ _ _ _ _ _ g.g e3).E) (swaps_sole (Bool.eq_false_iff.mpr fun z => hc (.inl z)) _ _) (swapped_sub _) (asg_sub (R.sl _ _ _ _ e2))
        · cases h
    · cases h
  · cases h
def cS (G : GC) (N : List Str) (sc : Scope) : Nat → Stmt → Option IS
  | 0 => fun _ => none
  | n + 1 => fun s => match cFz G N sc (cE G N 30 sc sc) s with
    | some i => some i
    | none => match cS1 (excAt G.excs) N sc (cE G N 30 sc sc) (cIter G sc (cE G N 30 sc sc)) (cS G N sc n) s with
    | some i => some i
    | none => match cSwap N sc s with
      | some i => some i
      | none => some .bad
theorem mapS_ok {f : Stmt → Option IS} (h : ∀ s i, f s = some i → PS X s (TS_ c i)) : ∀ {ss : List Stmt} {is : List IS}, mapO f ss = some is → PSs X ss (TSs_ c is)
  | [], _, h' => by cases h'; exact ss_nil
  | s :: rest, is, h' => by
    obtain ⟨b, bs, h1, h2, rfl⟩ := mapO_cons h'
    exact ss_cons (h _ _ h1) (mapS_ok h h2)
theorem cS_okA : ∀ (n : Nat) {X : Cx} {c : Cg} (g : GoodS G N sc X c) (s : Stmt) (i : IS), cS G N sc n s = some i → PS X s (TS_ c i)
  | 0, _, _, _, _, _, h => by cases h
  | n + 1, X, c, g, s, i, h => by
    have R := cE_ok (G := G) (N := N) 30
    have S : ∀ s i, cS G N sc n s = some i → PS X s (TS_ c i) := cS_okA n g
    have h : (match cFz G N sc (cE G N 30 sc sc) s with
      | some i => some i
      | none => match cS1 (excAt G.excs) N sc (cE G N 30 sc sc) (cIter G sc (cE G N 30 sc sc)) (cS G N sc n) s with
      | some i => some i
      | none => match cSwap N sc s with
        | some i => some i
        | none => some .bad) = some i := h
    split at h
    · rename_i e0
      cases h
      exact cFz_ok g e0
    have h : (match cS1 (excAt G.excs) N sc (cE G N 30 sc sc) (cIter G sc (cE G N 30 sc sc)) (cS G N sc n) s with
      | some i => some i
      | none => match cSwap N sc s with
        | some i => some i
        | none => some .bad) = some i := h
    split at h
    rotate_left
    · split at h
      · rename_i e1
        cases h
        exact cSwap_ok g.g e1
      · cases h; exact ss_bad
    rename_i i' h'
    cases h
    have h := h'
    unfold cS1 at h
    split at h
    · exact cSet_ok g h
    · exact cTup_ok g h
    · split at h
      · cases h
      · rename_i hc
        split at h
        · rename_i e1 e2 e3
          cases h
          obtain ⟨v1, x, px, rfl⟩ := cVar_ok g.g e1
          refine ss_setIx g.g.hK v1 (R.se _ _ _ _ _ _ g.g e2).R (R.se _ _ _ _ _ _ g.g e3).E (swaps_sole (Bool.eq_false_iff.mpr fun z => hc (.inl z)) _ _) (swapped_sub _) (asg_sub (R.sl _ _ _ _ e2))
        · cases h
    · split at h
      · cases h
      · rename_i hc
        split at h
        · rename_i e1 e2 e3
          cases h
          have e2 := fldNo_ok e2
          subst e2
          exact ss_setF g.g.hK (cVar_ok g.g e1).1 (R.se _ _ _ _ _ _ g.g e3).E (swaps_no (by simpa using hc) _ _ _)
        · cases h
    · split at h
      · rename_i hs
        split at h
        · rename_i e1 e2 e3
          cases h
          have := opIn_ok e2; subst this
          obtain ⟨h1, h2⟩ := stOk_ok g.g hs
          exact ss_aug g.g.nd (by rw [g.g.hN]; exact idx_at e1) h1 (R.se _ _ _ _ _ _ g.g e3).R h2
        · cases h
      · cases h
    · cases h; exact ss_doc
    · split at h
      · cases h
      · rename_i hc
        obtain ⟨ie, hi, rfl⟩ := Option.map_eq_some_iff.mp h
        exact ss_expr (R.se _ _ _ _ _ _ g.g hi).E (swaps_no (by simpa using hc) _ _ _)
    · split at h
      · split at h
        · rename_i e1
          cases h
          exact ss_retV (cVar_ok g.g e1).1
        · cases h
      · rename_i e1
        split at h
        · cases h
        · rename_i hv
          cases h
          exact ss_ret (by simpa using hv) (R.se _ _ _ _ _ _ g.g e1).E
      · cases h
    · cases h; exact ss_retN
    · split at h
      · rename_i e1 e2 e3
        cases h
        exact ss_if (R.se _ _ _ _ _ _ g.g e1).T (mapS_ok S e2) (mapS_ok S e3)
      · cases h
    · split at h
      · rename_i e1 e2 e3
        cases h
        have I := cIter_ok g.g R e1
        have T := cTg_ok g.g e2
        exact ss_for g.po g.g.calm I.pi T.pg T.gk (mapS_ok S e3) (I.fs _)
      · cases h
    · split at h
      · rename_i e1 e2
        cases h
        exact ss_while g.po (R.se _ _ _ _ _ _ g.g e1).T (mapS_ok S e2)
      · cases h
    · cases h; exact ss_pass
    · cases h; exact ss_brk
    · cases h; exact ss_cont
    · split at h
      · rename_i hc
        split at h
        · rename_i e1 e2
          cases h
          obtain ⟨m1, rfl⟩ := excAt_ok e1
          have gl := hc.2
          rw [← g.g.scope] at gl
          exact ss_raise g.g.hK g.g.calm g.g.tk (g.g.excs _ m1).1 (passes_call g.g.tk fun _ _ _ _ z => z.elim) gl hc.1 (R.se _ _ _ _ _ _ g.g e2).E (star_cons (R.ns _ _ _ _ e2) _ _)
        · cases h
      · cases h
    · split at h
      · rename_i hc
        split at h
        · rename_i e1 e2 e3 e4
          cases h
          obtain ⟨m1, rfl⟩ := excAt_ok e1
          have gl := hc.1.2
          rw [← g.g.scope] at gl
          have hl := of_decide_eq_true hc.2
          rw [← g.g.scope] at hl
          exact ss_try g.g.hK g.sx g.fr g.ex g.g.nd (by rw [g.g.hN]; exact idx_at e2) hl ⟨gl, hc.1.1, .inl (g.g.excs _ m1).1.mg⟩ g.g.tk (fun j f => ((g.g.excs _ m1).2 j f).1)
            (fun W pn xe tk po => mapS_ok (cS_okA n (g.tr tk po)) e3) fun a pn => mapS_ok (fun s i h => cHd_ok (X := X.suite a pn) (c := c.still) ⟨g.g.hK, g.g.hN, g.g.nd, g.g.scope⟩ h) e4
        · cases h
      · cases h
    · cases h
theorem cS_ok (g : GoodS G N sc X c) (n : Nat) : ∀ (s : Stmt) (i : IS), cS G N sc n s = some i → PS X s (TS_ c i) := cS_okA n g
end
end Ev

namespace Ev
open PySem PySem.Spec PyProof.Rows L2
section
variable {P : Program} {w : World} {K : Frag} {mg : Str → Option Value} {base : Heap} {cs : List Addr} {tab : List Fn} {n : Nat}
def cgN (K : Frag) (cs : List Addr) (tab : List Fn) (n : Nat) : Cg := ⟨K, cs, wC tab n, fun _ _ _ _ => False⟩
/-- a def's promise from its body's -/
theorem fnE_of {x qual : Str} {params : Arguments} {body : List Stmt} {scope : Scope} {dvs : List V} {kws : List (Str × V)} {f : Addr} {fd : FuncData} {N ps : List Str} {k : Nat} {sp : Sp} (F : FunD K x qual params body scope dvs kws f fd) (S : FnScope N ps scope)
    (len : ∀ vs H Q E, sp vs H Q E → vs.length = ps.length)
    (hbody : ∀ (cdv : Value) (A : Around) (outer : List PySem.Env) (s : Shared) (H : Hp) (vs : List V) (Q : VK) (E : XK), Room k (A.deeper (envOfC qual scope s.heap.objs.size f cdv)) → A.guards = some [] → sp vs H Q E →
      ∃ t, PSs (cxOf (CX P w) P w K mg base N qual scope f cdv A outer s H E) body t ∧ t { nx := fun _ H' => Q .non H', rt := Q } (L2.start N vs) H) : FnE P w K mg base (k + 1) f fd ps sp := by
  obtain ⟨oc, od, dV, kV, doc, pm, an, cdv, ct, osl, rfl, lk, hcd, _, _⟩ := F.ex
  refine ⟨len, fun A outer s H args us vs Q E room hgd env0 bt rv hsp => ?_⟩
  have hl := len _ _ _ _ hsp
  have inK : K.In s.heap := env0.mod.kin.keeps fun b o e => (env0.bs b o e).1
  have nolim : s.heap.NoLimit := env0.mod.nolimit.keeps fun b o e => (env0.bs b o e).1
  have kinds : ∀ y ∈ ps.zip us, scope.names.lookup y.1 = some .local ∨ (scope.names.lookup y.1 = some .cell ∧ ((cellsFrom (s.heap.objs.size + 1) scope.names []).lookup y.1).isSome = true) := fun y my => by
    obtain ⟨nm, vl⟩ := y
    rcases S.par nm (List.of_mem_zip my).1 with q | q
    · exact .inl q
    · exact .inr ⟨q, PySem.W.cellsFrom_some _ _ _ (.inl q)⟩
  refine codeAny_call_function room.depth (inK _ _ lk) rfl S.co S.gen rfl (PySem.W.codeRec_of inK hcd) (bt _ _ _ _ ?_)
  refine wpAny_newFunctionEnv_cells S.kind kinds fun env he s1 xc => ?_
  subst he
  refine ⟨nolim.keeps xc.toInCall.keep, codeAny_func ?_⟩
  obtain ⟨t, ht, hq⟩ := hbody cdv A outer s H vs Q E (room.deeper _) hgd hsp
  have I : Inv (cxOf (CX P w) P w K mg base N qual scope f cdv A outer s H E) [] (L2.start N vs) H s1 := inv_start S room.hd env0 hl rv xc
  refine wpAny_mono (ht.run [] s1 (L2.start N vs) H _ I hq) (fun fl s2 hs => ?_) fun e s2 hs => hs
  have done : ∀ {σ' : LSt} {H' : Hp} {v : V} {u : Value}, Inv (cxOf (CX P w) P w K mg base N qual scope f cdv A outer s H E) [] σ' H' s2 → RelV v u → Q v H' → CE outer P w H s Q u s2 :=
    fun {σ' H' v u} J r q => ⟨v, H', J.os, J.bare, J.base, J.hok, r, q⟩
  cases fl with
  | next =>
    obtain ⟨σ', H', J, q⟩ := hs
    exact done (v := V.non) (u := Value.none) J rfl q
  | ret u =>
    obtain ⟨v, σ', H', J, r, q⟩ := hs
    exact done J r q
  | brk => obtain ⟨_, _, _, q⟩ := hs; exact q.elim
  | cont => obtain ⟨_, _, _, q⟩ := hs; exact q.elim
theorem Wd.pad {B H : Hp} {σ : LSt} {α : List Addr} {φ : Fp} {env : Env} {st : Stt} (W : Wd K B H σ α φ env st) (m : Nat) : Wd K B H (σ ++ List.replicate m none) α φ (env ++ List.replicate m none) st where
  le := W.le
  len := by rw [List.length_append, List.length_append, W.len]; simp
  slot := fun i d e => by
    have hi : i < env.length := by
      by_cases hi : i < env.length
      · exact hi
      · rw [List.getElem?_append_right (by omega), List.getElem?_replicate] at e
        split at e <;> cases e
    rw [List.getElem?_append_left hi] at e
    obtain ⟨v, hv, r⟩ := W.slot i d e
    exact ⟨v, by rw [List.getElem?_append_left (by rw [W.len]; exact hi)]; exact hv, r⟩
  bare := fun i h => W.bare i fun d e => h d (by rw [List.getElem?_append_left (List.getElem?_eq_some_iff.mp e).1]; exact e)
  clen := W.clen
  cell := W.cell
  cbare := W.cbare
  nd := W.nd
  dj := W.dj
  out := W.out
/-- what is known of the functions, for calls n deep -/
structure Fns (G : GC) (P : Program) (w : World) (K : Frag) (mg : Str → Option Value) (base : Heap) (cs : List Addr) (tab : List Fn) (n : Nat) : Prop where
  bl : ∀ x ∈ G.bl, mg x = none
  cons : ∀ x d, G.cons.lookup x = some d → ∃ u v, mg x = some u ∧ RelV v u ∧ ∀ B H α, Rep K B H α d v []
  fns : ∀ (j : Nat) fi, G.fns[j]? = some fi → ∃ fa fd ps, mg fi.name = some (.ref fa) ∧ PySem.W.keepIn K (.ref fa) = true ∧ FnE P w K mg base (n + 2) fa fd ps (spE K (cgN K cs tab n) j fi.np) ∧
    ∀ s ∈ fi.shapes, Shp K fd ps s.n s.ks fun vs => s.pm.map (argV vs)
  meths : ∀ g ∈ G.meths, ∃ fa fd ps, Meth K (clsA K g.cl) g.m fa ∧ (∀ q ∈ fldsOf g.cl, fldN q ≠ g.m) ∧ FnE P w K mg base (n + 2) fa fd ps (spE K (cgN K cs tab n) g.ix g.np) ∧ ∀ s ∈ g.shapes, Shp K fd ps (s.n + 1) s.ks fun vs => s.pm.map (argV vs)
  mks : ∀ g ∈ G.mks, (mg g.name = some (.ref (clsA K g.cl)) ∧ ClsF K g.cl ∧ PySem.W.keepIn K (.ref (clsA K g.cl)) = true) ∧ ∃ fa fd ps, Mk K (clsA K g.cl) fa ∧ (∀ m, n = m + 1 → FnE P w K mg base (m + 2) fa fd ps (spI K (cgN K cs tab n) g.ix g.np g.cl)) ∧
    ∀ s ∈ g.shapes, Shp K fd ps (s.n + 1) s.ks fun vs => vs.headD .non :: s.pm.map (argV vs.tail)
  excs : ∀ k ∈ G.excs, (ExcF K k ∧ OexC K (excA K k) ∧ mg (excT.getD k "") = some (.ref (excA K k))) ∧ (∃ (fI : Addr) (fd : FuncData) (ps : List Str), PySem.W.findIn K (.ref (excA K k)) "__init__" = some (some (.ref fI)) ∧ PySem.W.typeIn K (.ref fI) = some (.type "function") ∧
    FnOk P w K mg base (CX P w) (n + 1) fI fd ps (spX K) ∧ Binds K fd ps []) ∧ ExcM K k
theorem goodS_of {G : GC} {N ps : List Str} {qual : Str} {scope : Scope} {f : Addr} {cdv : Value} {A : Around} {outer : List PySem.Env} {s : Shared} {H : Hp} {E : XK} (S : FnScope N ps scope) (fs : Fns G P w K mg base cs tab n)
    (hr : Room (n + 2) (A.deeper (envOfC qual scope s.heap.objs.size f cdv))) (hg : A.guards = some []) :
    GoodS G N scope (cxOf (CX P w) P w K mg base N qual scope f cdv A outer s H E) ⟨K, cs, wC tab n, fun cls d _ H' => E cls d H'⟩ where
  g := { hK := rfl, calm := rfl, gd := hg, hu := by have := hr.un; show (A.deeper _).units + 65 < cLine; omega, hN := rfl, nd := S.nd, scope := rfl, stp := fun x h => ⟨h, .inl rfl⟩,
         tk := takes_of rfl rfl rfl rfl, bl := fs.bl, cons := fs.cons, fns := fun i fi h => by
           obtain ⟨fa, fd, ps, h1, h2, h3, h4⟩ := fs.fns i fi h
           exact ⟨n + 2, fa, fd, ps, h1, h2, h3, hr, h4⟩
         meths := fun q hq s hs l => by
           obtain ⟨fa, fd, ps, h1, h2, h3, h4⟩ := fs.meths q hq
           exact ⟨h2, n + 2, fa, fd, ps, h1, by rw [l]; exact h3, hr, h4 s hs⟩
         mks := fun q hq s hs => by
           obtain ⟨⟨h1, h2, h3⟩, fa, fd, ps, h4, h5, h6⟩ := fs.mks q hq
           refine ⟨h1, h2, h3, fun ds st Kk Xk k2 => ?_⟩
           cases n with
           | zero => exact (show False from k2).elim
           | succ m => exact ⟨m + 2, fa, fd, ps, h4, h5 m rfl, hr, h6 s hs⟩
         excs := fun k hk => by
           obtain ⟨⟨h1, h2, h3⟩, ⟨fI, fd, ps, h4, h5, h6, h7⟩, h8⟩ := fs.excs k hk
           exact ⟨⟨h1, h2, h3, fI, n + 1, fd, ps, h4, h5, h6, hr, h7⟩, h8⟩ }
  po := passes_of rfl
  kind := S.kind
  sx := rfl
  fr := rfl
  ex := rfl
/-- a text's run from what its call asks -/
theorem run_body {c : Cg} {N : List Str} {B H : Hp} {φ : Fp} {α : List Addr} {st : Stt} {ds : List D} {vs : List V} {is : List IS} {Kk : D → Stt → Prop} {Xk : Exn → Stt → Prop} {Q : VK} {E : XK} (hW : c.W = fun cls d _ H' => E cls d H')
    (hl : ds.length = vs.length) (W : Wd c.K B H (vs.map some) α φ (ds.map some) st) (w : wSs c.F is (ds.map some ++ List.replicate (N.length - ds.length) none) st ⟨fun _ s => Kk .non s, Kk, fun _ _ => False, fun _ _ => False, fun e _ s => Xk e s⟩)
    (pk : ∀ d st', Kk d st' → ∀ v B' H' φ' α' g, Wd c.K B' H' [] α' φ' [] st' → Stp false B H φ α B' H' φ' α' → Tmp c.K B H φ B' H' φ' α' d v g → Q v H')
    (px : ∀ e st', Xk e st' → ∀ B' H' φ' α' cls dx, Wd c.K B' H' [] α' φ' [] st' → Stp false B H φ α B' H' φ' α' → ExR c B' H' α' e cls dx → E cls dx H') :
    TSs_ c is { nx := fun _ H' => Q .non H', rt := Q } (L2.start N vs) H := by
  have W' := W.pad (N.length - ds.length)
  rw [show vs.map some ++ List.replicate (N.length - ds.length) none = L2.start N vs by unfold L2.start; rw [hl]] at W'
  refine ⟨B, φ, α, _, st, _, W', w, ?_, fun _ _ k => k.elim, fun _ _ k => k.elim, fun d s k v B' H' φ' α' f W s' t => ?_, fun σ' e env s k B' H' φ' α' cls dx W s' x => ?_⟩
  · intro e s k σ' B' H' φ' α' W s'
    exact pk _ _ k _ B' H' _ α' [] W.gone s'.gone (Tmp.of_nil ⟨rfl, rfl⟩)
  · exact pk d s k v B' H' φ' α' f W s' t
  · rw [hW]
    exact px e s k B' H' _ α' cls dx W.gone s'.gone x
theorem fnE_body {G : GC} {x qual : Str} {params : Arguments} {body : List Stmt} {scope : Scope} {dvs : List V} {kws : List (Str × V)} {f : Addr} {fd : FuncData} {N ps : List Str} {i np : Nat} {is : List IS} (F : FunD K x qual params body scope dvs kws f fd) (S : FnScope N ps scope)
    (hi : tab[i]? = some (.body np N.length is)) (hnp : np = ps.length) (hc : mapO (cS G N scope 12) body = some is) (fs : Fns G P w K mg base cs tab n) : FnE P w K mg base (n + 3) f fd ps (spE K (cgN K cs tab (n + 1)) i np) := by
  refine fnE_of F S (fun vs H Q E h => by rw [← hnp]; exact spE_len h) fun cdv A outer s H vs Q E hr hg hsp => ?_
  obtain ⟨B, φ, α, st, ds, Kk, Xk, hl, W, wc, pk, px⟩ := hsp
  have wc : wC tab (n + 1) i ds st Kk Xk := wc
  unfold wC at wc
  rw [hi] at wc
  obtain ⟨_, wc⟩ := wc
  have gs := goodS_of (outer := outer) (H := H) (E := E) (cdv := cdv) (qual := qual) (f := f) S fs hr hg
  have hlv : ds.length = vs.length := by have := W.len; simp at this; omega
  refine ⟨_, mapS_ok (cS_ok gs 12) hc, run_body (c := ⟨K, cs, wC tab n, fun cls d _ H' => E cls d H'⟩) (Kk := Kk) (Xk := Xk) rfl hlv W ?_ pk px⟩
  rw [show N.length - ds.length = N.length - np by rw [hl]]
  exact wc
theorem Wd.consPtr {B H : Hp} {σ : LSt} {α : List Addr} {φ : Fp} {env : Env} {st : Stt} {k : Nat} {a : Addr} (W : Wd K B H σ α φ env st) (hk : α[k]? = some a) :
    Wd K B H (some (.ref a) :: σ) α (fun w => match w with | .inl 0 => [] | .inl (i + 1) => φ (.inl i) | .inr k => φ (.inr k)) (some (.ptr k) :: env) st where
  le := W.le
  len := by rw [List.length_cons, List.length_cons, W.len]
  slot := fun i d e => by
    cases i with
    | zero =>
      rw [List.getElem?_cons_zero] at e
      cases e
      exact ⟨.ref a, rfl, a, hk, rfl, rfl⟩
    | succ i =>
      rw [List.getElem?_cons_succ] at e
      obtain ⟨v, h1, h2⟩ := W.slot i d e
      exact ⟨v, by rw [List.getElem?_cons_succ]; exact h1, h2⟩
  bare := fun i h => by
    cases i with
    | zero => rfl
    | succ i => exact W.bare i fun d e => h d (by rw [List.getElem?_cons_succ]; exact e)
  clen := W.clen
  cell := W.cell
  cbare := W.cbare
  nd := fun w => by
    match w with
    | .inl 0 => exact List.nodup_nil
    | .inl (i + 1) => exact W.nd _
    | .inr k => exact W.nd _
  dj := fun w w' ne b m => by
    match w, w', m with
    | .inl 0, _, m => exact nomatch m
    | .inl (i + 1), .inl 0, m => exact fun z => nomatch z
    | .inl (i + 1), .inl (j + 1), m => exact W.dj (.inl i) (.inl j) (fun z => ne (by rw [Sum.inl.inj z])) b m
    | .inl (i + 1), .inr k, m => exact W.dj (.inl i) (.inr k) (fun z => nomatch z) b m
    | .inr k, .inl 0, m => exact fun z => nomatch z
    | .inr k, .inl (j + 1), m => exact W.dj (.inr k) (.inl j) (fun z => nomatch z) b m
    | .inr k, .inr j, m => exact W.dj (.inr k) (.inr j) ne b m
  out := fun w b m => by
    match w, m with
    | .inl 0, m => exact nomatch m
    | .inl (i + 1), m => exact W.out _ b m
    | .inr k, m => exact W.out _ b m
theorem Stp.src {q : Bool} {B H B1 H1 : Hp} {φ φ' φ1 : Fp} {α α1 : List Addr} (s : Stp q B H φ' α B1 H1 φ1 α1) (h : ∀ a, (∃ w, a ∈ φ' w) → ∃ w, a ∈ φ w) : Stp q B H φ α B1 H1 φ1 α1 where
  frame := fun a o e n => s.frame a o e fun w m => let ⟨w', m'⟩ := h a ⟨w, m⟩; n w' m'
  new := fun w a m => (s.new w a m).elim (fun z => .inl (h a z)) .inr
  bnew := fun a o e => (s.bnew a o e).elim .inl fun z => z.elim (fun z => .inr (.inl (h a z))) fun z => .inr (.inr z)
  mono := s.mono
  pre := s.pre
  same := s.same
theorem iniW_inv {cl k : Nat} {s : Stt} {K : D → Stt → Prop} (h : iniW cl k s K) : ∃ fs, s[k]? = some (.obj cl fs) ∧ (K (.ins cl (fzL fs)) (s.set k .gone) ∨ K (.ptr k) s) := by
  unfold iniW at h
  cases e : s[k]? with
  | none => rw [e] at h; exact h.elim
  | some c =>
    rw [e] at h
    cases c with
    | obj c' fs =>
      obtain ⟨⟨rfl, _⟩, h⟩ := h
      refine ⟨fs, rfl, ?_⟩
      by_cases hf : frzOf c' = true
      · rw [if_pos hf] at h; exact .inl h
      · rw [if_neg hf] at h; exact .inr h
    | _ => exact h.elim
theorem fnE_init {G : GC} {x qual : Str} {params : Arguments} {body : List Stmt} {scope : Scope} {dvs : List V} {kws : List (Str × V)} {f : Addr} {fd : FuncData} {N ps : List Str} {i np cl : Nat} {is : List IS} (F : FunD K x qual params body scope dvs kws f fd) (S : FnScope N ps scope)
    (hi : tab[i]? = some (.init cl np N.length is)) (hnp : np + 1 = ps.length) (hc : mapO (cS G N scope 12) body = some is) (fs : Fns G P w K mg base cs tab n) : FnE P w K mg base (n + 3) f fd ps (spI K (cgN K cs tab (n + 2)) i np cl) := by
  refine fnE_of F S (fun vs H Q E h => by rw [← hnp]; exact spI_len h) fun cdv A outer s H vs Q E hr hg hsp => ?_
  obtain ⟨a, vr, B, φ, α, st, ds, Kk, Xk, rfl, hl, W, wc, pk, px⟩ := hsp
  have wc : wC tab (n + 2) i ds st Kk Xk := wc
  unfold wC at wc
  rw [hi] at wc
  obtain ⟨_, wc⟩ := wc
  have gs := goodS_of (outer := outer) (H := H) (E := E) (cdv := cdv) (qual := qual) (f := f) S fs hr hg
  have hlv : ds.length = vr.length := by have := W.len; simp at this; omega
  have hα : α.length = st.length := by have := W.clen; simp at this; omega
  have hka : (α ++ [a])[st.length]? = some a := by rw [List.getElem?_append_right (by omega), hα, Nat.sub_self]; rfl
  have W1 := (W.consPtr hka).pad (N.length - np - 1)
  have hN : N.length - ds.length - 1 = N.length - (vr.length + 1) := by omega
  have e1 : (some (V.ref a) :: vr.map some) ++ List.replicate (N.length - np - 1) none = L2.start N (.ref a :: vr) := by
    unfold L2.start
    rw [List.map_cons, List.length_cons, ← hlv, hl, Nat.sub_sub]
  rw [e1] at W1
  have src : ∀ b, (∃ w, b ∈ (fun w : Ow => match w with | .inl 0 => ([] : List Addr) | .inl (i + 1) => φ (.inl i) | .inr k => φ (.inr k)) w) → ∃ w, b ∈ φ w := by
    rintro b ⟨w, m⟩
    match w, m with
    | .inl 0, m => exact nomatch m
    | .inl (i + 1), m => exact ⟨_, m⟩
    | .inr k, m => exact ⟨_, m⟩
  refine ⟨_, mapS_ok (cS_ok gs 12) hc, B, _, α ++ [a], _, st ++ [.obj cl []], ⟨fun _ s => iniW cl st.length s Kk, fun _ _ => False, fun _ _ => False, fun _ _ => False, fun e _ s => Xk e s⟩, W1, wc, ?_, fun _ _ k => k.elim, fun _ _ k => k.elim, fun d s k v B' H' φ' α' f W s' t => k.elim, fun σ' e env s k B' H' φ' α' cls dx W s' x => px e s k B' H' _ α' cls dx W.gone (s'.src src).gone x⟩
  intro env' st' k σ' B' H' φ' α' W' s'
  obtain ⟨fs', hc', k⟩ := iniW_inv k
  have hk' := s'.pre _ _ hka
  rcases k with k | k
  · obtain ⟨B2, W2, r2, s2⟩ := W'.freeze hc' hk'
    exact pk _ _ k B2 H' _ α' W2.gone (((s'.trans s2).weak (q2 := false) fun z => nomatch z).src src).gone r2
  · exact pk _ _ k B' H' _ α' W'.gone (s'.src src).gone ⟨a, hk', rfl, rfl⟩
theorem Wd.cellAs {B H : Hp} {σ : LSt} {α : List Addr} {φ : Fp} {env : Env} {st : Stt} (W : Wd K B H σ α φ env st) {k : Nat} {a : Addr} (ha : α[k]? = some a) {c1 : Cell} (h : CellR K B H α a (φ (.inr k)) c1) : Wd K B H σ α φ env (st.set k c1) where
  le := W.le
  len := W.len
  slot := W.slot
  bare := W.bare
  clen := by rw [List.length_set]; exact W.clen
  cell := fun j c q hj hq => by
    by_cases hk : k = j
    · subst hk
      have hl : k < st.length := by rw [← W.clen]; exact (List.getElem?_eq_some_iff.mp ha).1
      rw [List.getElem?_set_self hl] at hj; cases hj
      rw [ha] at hq; cases hq
      exact h
    · rw [List.getElem?_set_ne hk] at hj
      exact W.cell j c q hj hq
  cbare := fun j hj => W.cbare j (by rw [List.length_set] at hj; exact hj)
  nd := W.nd
  dj := W.dj
  out := W.out
/-- a thing of one's own made a cell -/
theorem Wd.newCell {B H B0 H0 : Hp} {σ : LSt} {α α0 : List Addr} {φ φ0 : Fp} {env : Env} {st : Stt} {q : Bool} {d : D} {a : Addr} {f : List Addr} {c1 : Cell} (W : Wd K B H σ α φ env st) (s : Stp q B0 H0 φ0 α0 B H φ α) (t : Tmp K B0 H0 φ0 B H φ α d (.ref a) f)
    (h : CellR K B H (α ++ [a]) a f c1) : ∃ φ', Wd K B H σ (α ++ [a]) φ' env (st ++ [c1]) ∧ Stp q B0 H0 φ0 α0 B H φ' (α ++ [a]) := by
  have pre : ∀ (k : Nat) b, α[k]? = some b → (α ++ [a])[k]? = some b := fun k b e => by rw [List.getElem?_append_left (List.getElem?_eq_some_iff.mp e).1]; exact e
  have fp : ∀ u, setF φ (.inr st.length) f u = if u = .inr st.length then f else φ u := fun _ => rfl
  have ext : ∀ {u : Ow} {b : Addr}, b ∈ setF φ (.inr st.length) f u → (u = .inr st.length ∧ b ∈ f) ∨ (u ≠ .inr st.length ∧ b ∈ φ u) := fun {u b} m => by
    rw [fp] at m
    split at m
    · rename_i h; exact .inl ⟨h, m⟩
    · rename_i h; exact .inr ⟨h, m⟩
  refine ⟨setF φ (.inr st.length) f, ⟨W.le, W.len, fun i d e => ?_, fun i h => ?_, by rw [List.length_append, List.length_append, W.clen]; rfl, fun k c b hk hb => ?_, fun k hk => ?_, fun u => ?_, fun u u' hu b m m' => ?_, fun u b m => ?_⟩, ⟨s.frame, fun u b m => ?_, s.bnew, s.mono, fun k b e => pre k b (s.pre k b e), s.same⟩⟩
  · obtain ⟨v, hv, r⟩ := W.slot i d e
    refine ⟨v, hv, ?_⟩
    rw [fp, if_neg fun z => nomatch z]
    exact Rep.ext (HLe.refl B) pre _ _ _ (fun _ _ _ e => e) r
  · rw [fp, if_neg fun z => nomatch z]; exact W.bare i h
  · by_cases hl : k < st.length
    · rw [List.getElem?_append_left hl] at hk
      rw [List.getElem?_append_left (by rw [W.clen]; exact hl)] at hb
      rw [fp, if_neg fun z => by have := Sum.inr.inj z; omega]
      exact (W.cell k c b hk hb).ext (HLe.refl B) pre fun _ _ _ e => e
    · have hk' := (List.getElem?_eq_some_iff.mp hk).1
      rw [List.length_append] at hk'
      have e : k = st.length := by simp at hk'; omega
      subst e
      rw [List.getElem?_append_right (Nat.le_refl _)] at hk
      rw [← W.clen, List.getElem?_append_right (Nat.le_refl _)] at hb
      simp at hk hb
      subst hk hb
      rw [fp, if_pos rfl]; exact h
  · rw [List.length_append] at hk
    rw [fp, if_neg fun z => by have := Sum.inr.inj z; simp at hk; omega]
    exact W.cbare k (by simp at hk; omega)
  · rw [fp]; split
    · exact t.nd
    · exact W.nd u
  · rcases ext m with ⟨h1, m⟩ | ⟨h1, m⟩ <;> rcases ext m' with ⟨h2, m'⟩ | ⟨h2, m'⟩
    · exact hu (h1.trans h2.symm)
    · exact t.free b m u' m'
    · exact t.free b m' u m
    · exact W.dj u u' hu b m m'
  · rcases ext m with ⟨_, m⟩ | ⟨_, m⟩
    · exact t.out b m
    · exact W.out u b m
  · rcases ext m with ⟨_, m⟩ | ⟨_, m⟩
    · exact t.new b m
    · exact s.new u b m
end
end Ev

namespace Ev
open PySem PySem.Spec PyProof.Rows L2
local macro_rules | `(tactic| walk_at "ev") => `(tactic| try simp only [Ev.e_wE_con, Ev.e_wE_var, Ev.e_wE_op, Ev.e_wE_neg, Ev.e_wE_cmp, Ev.e_wE_chain, Ev.e_wE_and, Ev.e_wE_or, Ev.e_wE_not, Ev.e_wE_ite, Ev.e_wE_tup, Ev.e_wE_lst, Ev.e_wE_idx, Ev.e_wE_slc, Ev.e_wE_rev, Ev.e_wE_call, Ev.e_wE_callP, Ev.e_wE_blt, Ev.e_wE_mr, Ev.e_wE_comp, Ev.e_wE_fstr, Ev.e_wEs_nil, Ev.e_wEs_cons, Ev.e_wRs_nil, Ev.e_wRs_cons, Ev.e_wZs_nil, Ev.e_wZs_cons, Ev.e_wIfs_nil, Ev.e_wIfs_cons, Ev.e_wO_none, Ev.e_wO_some, Ev.e_wS_asg, Ev.e_wS_asgP, Ev.e_wS_aug, Ev.e_wS_expr, Ev.e_wS_retN, Ev.e_wS_ite, Ev.e_wS_for, Ev.e_wS_while, Ev.e_wS_pass, Ev.e_wS_brk, Ev.e_wS_cont, Ev.e_wE_mc, Ev.e_wS_setIx, Ev.e_wS_retV, Ev.e_wS_ret, Ev.e_rdC, Ev.e_wR, Ev.e_wT, Ev.e_stays, Ev.e_iv_con, Ev.e_iv_op, Ev.e_iv_neg, Ev.e_iv_cmp, Ev.e_iv_chain, Ev.e_iv_and, Ev.e_iv_or, Ev.e_iv_not, Ev.e_iv_ite, Ev.e_iv_tup, Ev.e_iv_lst, Ev.e_iv_idx, Ev.e_iv_slc, Ev.e_iv_rev, Ev.e_iv_call, Ev.e_iv_callP, Ev.e_iv_blt, Ev.e_iv_mr, Ev.e_iv_mc, Ev.e_iv_comp, Ev.e_iv_fstr, Ev.e_iv_var, Ev.q_con, Ev.q_var, Ev.q_vc, Ev.q_cv, Ev.q_vv, Ev.qL_nil, Ev.qL_cons, Ev.qO_none, Ev.qO_some, Ev.wipeE, Ev.backE, Ev.hidOk, Ev.onV_some, Ev.onE_some, Ev.natW_some, Ev.txW_some, Ev.intW_int, Ev.ownW_lst, Ev.getV_zero, Ev.getV_succ, Ev.rdC_var, Ev.fz_non, Ev.fz_bl, Ev.fz_int, Ev.fz_str, Ev.fz_ptr, Ev.fz_tup, Ev.fz_lst, Ev.fzL_nil, Ev.fzL_cons, Ev.nf_non, Ev.nf_bl, Ev.nf_int, Ev.nf_str, Ev.nf_ptr, Ev.nf_tup, Ev.nf_lstT, Ev.nf_lstF, Ev.fz_kst, Ev.nf_kst, Ev.idx_kst, Ev.slc_kst, Ev.it_kst, Ev.len_kst, Ev.list_kst, Ev.noP_non, Ev.noP_bl, Ev.noP_int, Ev.noP_str, Ev.noP_tup, Ev.noP_lst, Ev.noPL_nil, Ev.noPL_cons, Ev.nfL_nil, Ev.nfL_cons, Ev.add_int, Ev.sub_int, Ev.mul_int, Ev.fdiv_int, Ev.mod_int, Ev.pow_int, Ev.add_str, Ev.add_lst, Ev.add_tup, Ev.mul_lst, Ev.lt_ii, Ev.le_ii, Ev.gt_ii, Ev.ge_ii, Ev.lt_ss, Ev.eq_ii, Ev.eq_ss, Ev.eq_bb, Ev.eq_nint, Ev.eq_intn, Ev.eq_nbl, Ev.eq_bln, Ev.eq_nstr, Ev.eq_strn, Ev.eq_nn, Ev.eq_lstlst, Ev.eq_tuptup, Ev.eq_lsttup, Ev.eq_tuplst, Ev.eq_lstn, Ev.eq_tupn, Ev.ne_ii, Ev.ne_ss, Ev.ne_bb, Ev.ne_nint, Ev.ne_intn, Ev.ne_nbl, Ev.ne_bln, Ev.ne_nstr, Ev.ne_strn, Ev.ne_nn, Ev.ne_lstlst, Ev.ne_tuptup, Ev.ne_lsttup, Ev.ne_tuplst, Ev.ne_lstn, Ev.ne_tupn, Ev.is__non, Ev.is__int, Ev.is__bl, Ev.is__str, Ev.is__tup, Ev.is__ptr, Ev.is__lst, Ev.is__bb, Ev.isNot_non, Ev.isNot_int, Ev.isNot_bl, Ev.isNot_str, Ev.isNot_tup, Ev.isNot_ptr, Ev.isNot_lst, Ev.isNot_bb, Ev.in__ss, Ev.in_l_n, Ev.in_t_n, Ev.in_l_b, Ev.in_t_b, Ev.in_l_i, Ev.in_t_i, Ev.in_l_s, Ev.in_t_s, Ev.in_l_t, Ev.in_t_t, Ev.in_l_l, Ev.in_t_l, Ev.notIn_ss, Ev.notInl_n, Ev.notInt_n, Ev.notInl_b, Ev.notInt_b, Ev.notInl_i, Ev.notInt_i, Ev.notInl_s, Ev.notInt_s, Ev.notInl_t, Ev.notInt_t, Ev.notInl_l, Ev.notInt_l, Ev.sgW_one, Ev.tru_non, Ev.tru_bl, Ev.tru_int, Ev.tru_str, Ev.tru_lst, Ev.tru_tup, Ev.idx_lst, Ev.idx_tup, Ev.idx_str, Ev.oInt_none, Ev.oInt_some, Ev.slc_lst, Ev.slc_tup, Ev.slc_str, Ev.slcL_some, Ev.slcS_some, Ev.rev_lst, Ev.it_lst, Ev.it_tup, Ev.it_str, Ev.it_rng1, Ev.it_rng2, Ev.it_enl, Ev.it_zip_lst_lst, Ev.it_zip_tup_tup, Ev.len_lst, Ev.len_tup, Ev.len_str, Ev.abs_int, Ev.isi_any, Ev.int1_int, Ev.int1_bl, Ev.str1_int, Ev.str1_str, Ev.repr_int, Ev.repr_non, Ev.repr_bl, Ev.repr_str, Ev.repr_lst, Ev.repr_tup, Ev.tuple_lst, Ev.tuple_tup, Ev.list_lst, Ev.list_tup, Ev.max2_ii, Ev.min2_ii, Ev.all_lst, Ev.any_lst, Ev.bsW_some, Ev.app_one, Ev.rev_zero, Ev.clear_zero, Ev.forL_nil, Ev.forL_cons, Ev.forB_eq, Ev.wTg_nm, Ev.wTg_tup, Ev.wTgs_nil, Ev.wTgs_cons, Ev.atx_nat, Ev.nf_fz, Ev.nfL_fzL, Ev.wSs_nil, Ev.wSs_cons, Ev.sca_non, Ev.sca_bl, Ev.sca_int, Ev.sca_str, Ev.der_non, Ev.der_bl, Ev.der_int, Ev.der_str, Ev.der_tup, Ev.der_lst, Ev.der_kst, Ev.setW_lst, Ev.quiet, Ev.isL_lst, Ev.sh_t, Ev.sh_f, Ev.sh_n, Ev.aug_add, Ev.aug_sub, Ev.aug_fdiv, Ev.nsW_some, Ev.ssW_some, Ev.list_str, Ev.max1_lst, Ev.min1_lst, Ev.sum1_lst, Ev.sorted_lst, Ev.divmod_ii, Ev.join_lst, Ev.index_str, Ev.index_tup, Ev.split_str, Ev.mrOk_join, Ev.mrOk_index, Ev.mrOk_indexT, Ev.mrOk_indexL, Ev.index_lst, Ev.mrOk_split, Ev.it_ent, Ev.wTg_star, Ev.strsOf_nil, Ev.strsOf_cons, Ev.numsOf_nil, Ev.numsOf_cons, Ev.e_wS_bad, Ev.env_zero, Ev.env_succ, Option.map_some, List.take_succ_cons, List.take_zero, List.drop_succ_cons, List.drop_zero, Nat.reduceSub, Nat.add_zero, Nat.zero_add, Nat.sub_zero, Nat.le_refl, decide_true, List.set_cons_zero, List.set_cons_succ, List.length_cons, List.length_nil, Nat.reduceAdd, Nat.reduceLT, Nat.reduceLeDiff, Bool.true_or, Bool.or_true, Bool.false_or, Bool.or_false, Bool.not_true, Bool.not_false, Bool.true_and, Bool.and_true, Bool.and_self, true_and, and_true, if_true, if_false, ite_true, ite_false, Bool.false_eq_true, reduceIte, Option.bind_some, Nat.lt_add_left_iff_pos, Nat.zero_lt_succ, Nat.add_lt_add_iff_right, Nat.lt_add_one, List.map_cons, List.map_nil, Ev.argOf, List.cons_append, List.nil_append, List.append_nil, List.getD_cons_zero, List.getD_cons_succ, List.replicate, List.all_cons, List.all_nil])
def takeB : List IS :=
  [.ite (.cmp .gt (.idx (.var 0) (.con (.int 0))) (.con (.int 0))) [.asg (.nm 2) (.op .mod (.idx (.var 0) (.con (.int 0))) (.var 1)), .setIx (.var 0) (.con (.int 0)) (.op .fdiv (.idx (.var 0) (.con (.int 0))) (.var 1)), .ret (.var 2)] [],
   .setIx (.var 0) (.con (.int 2)) (.op .add (.idx (.var 0) (.con (.int 2))) (.con (.int 1))),
   .asg (.nm 3) (.op .mod (.op .pow (.op .add (.idx (.var 0) (.con (.int 1))) (.op .mul (.con (.int 39373)) (.idx (.var 0) (.con (.int 2))))) (.con (.int 5))) (.con (.int 2147483647))),
   .ret (.op .mod (.op .fdiv (.op .mod (.op .add (.op .mul (.var 3) (.op .add (.op .mod (.var 3) (.con (.int 40009))) (.con (.int 7)))) (.op .mul (.idx (.var 0) (.con (.int 2))) (.con (.int 7919)))) (.con (.int 2147483629))) (.con (.int 64))) (.var 1))]
def lboxB : List IS :=
  [.asg (.nm 2) (.con (.int 0)), .ite (.cmp .lt (.var 1) (.blt .len [.var 0])) [.asg (.nm 2) (.idx (.var 0) (.var 1))] [],
   .ret (.lst [.op .mul (.blt .abs [.var 2]) (.blt .int1 [.cmp .ge (.blt .abs [.var 2]) (.op .pow (.con (.int 10)) (.con (.int 18)))]), .op .add (.op .add (.op .mod (.var 2) (.con (.int 2147483629))) (.op .mul (.con (.int 7919)) (.var 1))) (.con (.int 11)), .con (.int 0)])]
def BoxV (m : Nat) (c : Cell) : Prop := ∃ x y z : Int, c = .val (.lst true [.int x, .int y, .int z]) ∧ 0 ≤ x ∧ (0 ≤ y ∧ y < 2 ^ 33) ∧ (0 ≤ z ∧ z + m ≤ Draws)
theorem log2_lt {j : Int} (h0 : 0 < j) (h : j < 10 ^ 70) : j.natAbs.log2 < 9000 := by
  have h2 : j.natAbs < 2 ^ 9000 := by
    have h3 : j.natAbs < 10 ^ 70 := by omega
    exact Nat.lt_of_lt_of_le h3 (Nat.le_trans (by decide : (10 : Nat) ^ 70 ≤ 2 ^ 250) (Nat.pow_le_pow_right (by decide) (by decide)))
  exact (Nat.log2_lt (by omega)).mpr h2
theorem ixc {α : Type} (a b c : α) : atx [a, b, c] 0 = some a ∧ atx [a, b, c] 1 = some b ∧ atx [a, b, c] 2 = some c := ⟨rfl, rfl, rfl⟩
theorem take_wp (F : FF) (b m : Nat) (n x y z : Int) (st : Stt) (Q : D → Stt → Prop) (X : Exn → Env → Stt → Prop) (K1 : Env → Stt → Prop) (hst : st[b]? = some (.val (.lst true [.int x, .int y, .int z]))) (hn : 0 < n) (hn2 : n < 10 ^ 70) (hx : 0 ≤ x) (hy : 0 ≤ y ∧ y < 2 ^ 33) (hz : 0 ≤ z ∧ z + (m + 1 : Nat) ≤ Draws)
    (h : ∀ (r : Int) (c : Cell), 0 ≤ r → r < n → BoxV m c → Q (.int r) (st.set b c)) :
    wSs F takeB [some (.ptr b), some (.int n), none, none] st ⟨K1, Q, fun _ _ => False, fun _ _ => False, X⟩ := by
  have hl := log2_lt hn hn2
  have hb : b < st.length := (List.getElem?_eq_some_iff.mp hst).1
  have hD : Draws = 2 ^ 36 := rfl
  have ix : ∀ n : Nat, ixn (0 + 1 + 1 + 1) (Int.ofNat n) = if (n : Int) < 3 then some n else none := fun n => rfl
  unfold takeB
  walk_at "ev"
  simp only [der_at hst, idx_lst, (ixc _ _ _).1, (ixc _ _ _).2.1, (ixc _ _ _).2.2, onV_some]
  walk_at "ev"
  have i0 : ixn [D.int x, D.int y, D.int z].length 0 = some 0 := rfl
  have i2 : ixn [D.int x, D.int y, D.int z].length 2 = some 2 := rfl
  split
  · refine ⟨hn, ⟨hn, hl⟩, ?_⟩
    rw [setW_ptr hst, i0]
    walk_at "ev"
    refine h _ _ (Int.emod_nonneg _ (by omega)) (Int.emod_lt_of_pos _ hn) ⟨x / n, y, z, rfl, Int.ediv_nonneg hx (by omega), hy, hz.1, ?_⟩
    have := hz.2; omega
  · rw [setW_ptr hst, i2]
    have hst2 : (st.set b (Cell.val (D.lst true [D.int x, D.int y, D.int (z + 1)])))[b]? = some (Cell.val (D.lst true [D.int x, D.int y, D.int (z + 1)])) := List.getElem?_set_self hb
    show natW (some 2) _
    walk_at "ev"
    simp only [der_at hst2, idx_lst, (ixc _ _ _).1, (ixc _ _ _).2.1, (ixc _ _ _).2.2, onV_some]
    walk_at "ev"
    have q := hz.2
    rw [hD] at q
    have big : (y + 39373 * (z + 1)).natAbs < 2 ^ 64 := by
      have : (2 : Int) ^ 36 = 68719476736 := by decide
      have h33 : (2 : Int) ^ 33 = 8589934592 := by decide
      have h64 : (2 : Nat) ^ 64 = 18446744073709551616 := by decide
      have q' : z + (m + 1 : Nat) ≤ 68719476736 := by simpa using q
      have := hy.2
      rw [h33] at this
      rw [h64]
      omega
    have p : ∀ a : Int, 0 ≤ a % 2147483647 ∧ a % 2147483647 < 2147483647 := fun a => ⟨Int.emod_nonneg _ (by decide), Int.emod_lt_of_pos _ (by decide)⟩
    have big64 : (2 : Int) ^ 64 = 18446744073709551616 := by decide
    have mul1 : ∀ a : Int, MulOk (a % 2147483647) ((a % 2147483647) % 40009 + 7) := fun a => by
      refine .inl ⟨?_, ?_⟩
      · have := (p a).1; omega
      · have := (p a).2; rw [big64]; omega
    have mul2 : MulOk (z + 1) 7919 := .inr (.inl ⟨by decide, by decide⟩)
    have mul3 : MulOk 39373 (z + 1) := .inl ⟨by decide, by decide⟩
    have l64 : (64 : Int).natAbs.log2 < 9000 := log2_lt (by decide) (by decide)
    refine ⟨mul3, ⟨by decide, by decide, big⟩, by decide, by decide, mul1 _, mul2, by decide, ⟨by decide, l64⟩, hn, ?_⟩
    refine h _ _ (Int.emod_nonneg _ (by omega)) (Int.emod_lt_of_pos _ hn) ⟨x, y, z + 1, rfl, hx, hy, by omega, ?_⟩
    rw [hD]; omega
theorem nums_at : ∀ {xs : List D} {ns : List Int}, numsOf xs = some ns → xs = ns.map D.int
  | [], ns, h => by cases h; rfl
  | .int i :: r, ns, h => by
    unfold numsOf at h
    obtain ⟨l, h1, rfl⟩ := Option.map_eq_some_iff.mp h
    rw [nums_at h1]; rfl
  | .non :: _, _, h => by cases h
  | .bl _ :: _, _, h => by cases h
  | .str _ :: _, _, h => by cases h
  | .tup _ :: _, _, h => by cases h
  | .lst _ _ :: _, _, h => by cases h
  | .dic _ _ _ :: _, _, h => by cases h
  | .kst _ :: _, _, h => by cases h
  | .ptr _ :: _, _, h => by cases h
  | .fn _ :: _, _, h => by cases h
  | .ins _ _ :: _, _, h => by cases h
  | .exc _ _ :: _, _, h => by cases h
theorem box_wp (F : FF) (ns : List Int) (j : Int) (hj : 0 ≤ j ∧ j ≤ 1000) (st : Stt) (Q : D → Stt → Prop) (X : Exn → Env → Stt → Prop) (K1 : Env → Stt → Prop)
    (h : ∀ (x y z : Int), 0 ≤ x → (0 ≤ y ∧ y < 2 ^ 33) → (0 ≤ z ∧ z + Draws ≤ Draws) → Q (.lst true [.int x, .int y, .int z]) st) :
    wSs F lboxB [some (.kst (ns.map D.int)), some (.int j), none] st ⟨K1, Q, fun _ _ => False, fun _ _ => False, X⟩ := by
  have h33 : (2 : Int) ^ 33 = 8589934592 := by decide
  have big64 : (2 : Int) ^ 64 = 18446744073709551616 := by decide
  have fin : ∀ c : Int, (MulOk (if c < 0 then -c else c) (if decide ((10 : Int) ^ Int.toNat 18 ≤ if c < 0 then -c else c) = true then 1 else 0) ∧ MulOk 7919 j) ∧
      Q (.lst true [.int ((if c < 0 then -c else c) * (if decide ((10 : Int) ^ Int.toNat 18 ≤ if c < 0 then -c else c) = true then 1 else 0)), .int (c % 2147483629 + 7919 * j + 11), .int 0]) st := fun c => by
    have e1 := Int.emod_nonneg c (show (2147483629 : Int) ≠ 0 by decide)
    have e2 := Int.emod_lt_of_pos c (show (0 : Int) < 2147483629 by decide)
    have a0 : 0 ≤ (if c < 0 then -c else c) := by split <;> omega
    generalize (if c < 0 then -c else c) = u at a0 ⊢
    have b0 : (if decide ((10 : Int) ^ Int.toNat 18 ≤ u) = true then (1 : Int) else 0) = 1 ∨ (if decide ((10 : Int) ^ Int.toNat 18 ≤ u) = true then (1 : Int) else 0) = 0 := by
      split
      · exact .inl rfl
      · exact .inr rfl
    generalize (if decide ((10 : Int) ^ Int.toNat 18 ≤ u) = true then (1 : Int) else 0) = v at b0 ⊢
    have v0 : 0 ≤ v ∧ v ≤ 1 := by rcases b0 with rfl | rfl <;> decide
    refine ⟨⟨.inr (.inl ⟨by rw [big64]; omega, by rw [big64]; omega⟩), .inl ⟨by decide, by decide⟩⟩, h _ _ _ (Int.mul_nonneg a0 v0.1) ⟨by omega, by rw [h33]; omega⟩ ⟨by decide, by decide⟩⟩
  unfold lboxB
  walk_at "ev"
  try simp only [List.length_map]
  split
  · rename_i hlt
    have hlt : j < (ns.length : Int) := of_decide_eq_true hlt
    have hn : j.toNat < ns.length := by omega
    have ej : j = (j.toNat : Int) := by omega
    have hx : atx (ns.map D.int) j = some (.int ns[j.toNat]) := by
      have h1 : atx (ns.map D.int) (j.toNat : Int) = some (.int ns[j.toNat]) := by
        rw [atx_nat, List.getElem?_map, List.getElem?_eq_getElem hn]; rfl
      rw [← ej] at h1; exact h1
    rw [hx]
    walk_at "ev"
    obtain ⟨⟨f1, f2⟩, f3⟩ := fin ns[j.toNat]
    exact ⟨⟨by decide, by decide, by decide⟩, f1, by decide, f2, by decide, f3⟩
  · obtain ⟨⟨f1, f2⟩, f3⟩ := fin 0
    exact ⟨⟨by decide, by decide, by decide⟩, f1, by decide, f2, by decide, f3⟩
section
variable {P : Program} {w : World} {K : Frag} {mg : Str → Option Value} {base : Heap} {cs : List Addr} {tab : List Fn} {n : Nat}
theorem fnE_take {G : GC} {x qual : Str} {params : Arguments} {body : List Stmt} {scope : Scope} {dvs : List V} {kws : List (Str × V)} {f : Addr} {fd : FuncData} {N ps : List Str} {i : Nat} (F : FunD K x qual params body scope dvs kws f fd) (S : FnScope N ps scope)
    (hi : tab[i]? = some .take) (hnp : ps.length = 2) (hN : N.length = 4) (hc : mapO (cS G N scope 12) body = some takeB) (fs : Fns G P w K mg base cs tab n) : FnE P w K mg base (n + 3) f fd ps (spE K (cgN K cs tab (n + 1)) i 2) := by
  refine fnE_of F S (fun vs H Q E h => by rw [hnp]; exact spE_len h) fun cdv A outer s H vs Q E hr hg hsp => ?_
  obtain ⟨B, φ, α, st, ds, Kk, Xk, hl, W, wc, pk, px⟩ := hsp
  have wc : wC tab (n + 1) i ds st Kk Xk := wc
  unfold wC at wc
  rw [hi] at wc
  simp only at wc
  split at wc
  · rename_i b nn _
    split at wc
    · rename_i m hb
      obtain ⟨⟨n0, n1⟩, wc⟩ := wc
      have hbl : b < st.length := (List.getElem?_eq_some_iff.mp hb).1
      have ha : b < α.length := by rw [W.clen]; exact hbl
      have hα : α[b]? = some α[b] := List.getElem?_eq_getElem ha
      obtain ⟨x, y, z, hH, hx, hy, hz, hf⟩ := W.cell b _ _ hb hα
      have cellV : ∀ (B H : Hp) (α : List Addr) (a : Addr) (x y z : Int), H a = some (.lst [.int x, .int y, .int z]) → CellR K B H α a [a] (.val (.lst true [.int x, .int y, .int z])) := fun B H α a x y z e =>
        ⟨⟨_, rfl⟩, a, _, [], rfl, e, ⟨_, _, [], [], rfl, ⟨rfl, rfl⟩, ⟨_, _, [], [], rfl, ⟨rfl, rfl⟩, ⟨_, _, [], [], rfl, ⟨rfl, rfl⟩, ⟨rfl, rfl⟩, rfl⟩, rfl⟩, rfl⟩, rfl⟩
      have W1 := W.cellAs hα (c1 := .val (.lst true [.int x, .int y, .int z])) (by rw [hf]; exact cellV B H α _ x y z hH)
      have gs := goodS_of (outer := outer) (H := H) (E := E) (cdv := cdv) (qual := qual) (f := f) S fs hr hg
      have hlv : [D.ptr b, D.int nn].length = vs.length := by have := W.len; simp at this; simp; omega
      refine ⟨_, mapS_ok (cS_ok gs 12) hc, run_body (c := ⟨K, cs, wC tab n, fun cls d _ H' => E cls d H'⟩) (Kk := fun d s' => ∃ r c1, d = .int r ∧ s' = (st.set b (.val (.lst true [.int x, .int y, .int z]))).set b c1 ∧ 0 ≤ r ∧ r < nn ∧ BoxV m c1) (Xk := fun _ _ => False) rfl hlv W1 ?_ ?_ fun _ _ h => h.elim⟩
      · rw [show N.length - [D.ptr b, D.int nn].length = 2 by rw [hN]; rfl]
        exact take_wp _ b m nn x y z _ _ _ _ (List.getElem?_set_self hbl) n0 n1 hx hy hz fun r c1 r0 r1 bv => ⟨r, c1, rfl, rfl, r0, r1, bv⟩
      · rintro d st' ⟨r, c1, rfl, rfl, r0, r1, x', y', z', rfl, hx', hy', hz'⟩ v B' H' φ' α' g W' s' t
        have hα' : α'[b]? = some α[b] := s'.pre b _ hα
        have hb' : ((st.set b (.val (.lst true [.int x, .int y, .int z]))).set b (Cell.val (.lst true [.int x', .int y', .int z'])))[b]? = some (Cell.val (.lst true [.int x', .int y', .int z'])) := List.getElem?_set_self (by rw [List.length_set]; exact hbl)
        obtain ⟨_, a', vs', g', ea, hH', rr, hf'⟩ := W'.cell b _ _ hb' hα'
        cases ea
        obtain ⟨u1, r1', _, g1, rfl, ⟨rfl, rfl⟩, ⟨u2, r2', _, g2, rfl, ⟨rfl, rfl⟩, ⟨u3, r3', _, g3, rfl, ⟨rfl, rfl⟩, ⟨rfl, rfl⟩, rfl⟩, rfl⟩, rfl⟩ := rr
        have W2 := W'.cellAs hα' (c1 := .box m) ⟨x', y', z', hH', hx', hy', hz', hf'⟩
        rw [List.set_set, List.set_set] at W2
        exact pk _ _ (wc r r0 r1) v B' H' φ' α' g W2 s' t
    · exact wc.elim
  · exact wc.elim
theorem fnE_box {G : GC} {x qual : Str} {params : Arguments} {body : List Stmt} {scope : Scope} {dvs : List V} {kws : List (Str × V)} {f : Addr} {fd : FuncData} {N ps : List Str} {i : Nat} (F : FunD K x qual params body scope dvs kws f fd) (S : FnScope N ps scope)
    (hi : tab[i]? = some .box) (hnp : ps.length = 2) (hN : N.length = 3) (hc : mapO (cS G N scope 12) body = some lboxB) (fs : Fns G P w K mg base cs tab n) : FnE P w K mg base (n + 3) f fd ps (spE K (cgN K cs tab (n + 1)) i 2) := by
  refine fnE_of F S (fun vs H Q E h => by rw [hnp]; exact spE_len h) fun cdv A outer s H vs Q E hr hg hsp => ?_
  obtain ⟨B, φ, α, st, ds, Kk, Xk, hl, W, wc, pk, px⟩ := hsp
  have wc : wC tab (n + 1) i ds st Kk Xk := wc
  unfold wC at wc
  rw [hi] at wc
  simp only at wc
  split at wc
  · rename_i xs j _
    obtain ⟨hn, hj, wd⟩ := wc
    obtain ⟨ns, hns⟩ := Option.isSome_iff_exists.mp hn
    have := nums_at hns; subst this
    have gs := goodS_of (outer := outer) (H := H) (E := E) (cdv := cdv) (qual := qual) (f := f) S fs hr hg
    have hlv : [D.kst (ns.map D.int), D.int j].length = vs.length := by have := W.len; simp at this; simp; omega
    refine ⟨_, mapS_ok (cS_ok gs 12) hc, run_body (c := ⟨K, cs, wC tab n, fun cls d _ H' => E cls d H'⟩) (Kk := fun d s' => ∃ x y z : Int, d = .lst true [.int x, .int y, .int z] ∧ s' = st ∧ 0 ≤ x ∧ (0 ≤ y ∧ y < 2 ^ 33) ∧ (0 ≤ z ∧ z + Draws ≤ Draws)) (Xk := fun _ _ => False) rfl hlv W ?_ ?_ fun _ _ h => h.elim⟩
    · rw [show N.length - [D.kst (ns.map D.int), D.int j].length = 1 by rw [hN]; rfl]
      exact box_wp _ ns j hj _ _ _ _ fun x y z h1 h2 h3 => ⟨x, y, z, rfl, rfl, h1, h2, h3⟩
    · rintro d st' ⟨x, y, z, rfl, rfl, h1, h2, h3⟩ v B' H' φ' α' g W' s' t
      obtain ⟨a, vs', g', rfl, hH, rr, rfl⟩ := t.rep
      obtain ⟨u1, r1', _, g1, rfl, ⟨rfl, rfl⟩, ⟨u2, r2', _, g2, rfl, ⟨rfl, rfl⟩, ⟨u3, r3', _, g3, rfl, ⟨rfl, rfl⟩, ⟨rfl, rfl⟩, rfl⟩, rfl⟩, rfl⟩ := rr
      obtain ⟨φ2, W2, s2⟩ := W'.newCell s' t (c1 := .box Draws) ⟨x, y, z, hH, h1, h2, h3, rfl⟩
      refine pk _ _ wd _ B' H' φ2 _ [] W2 s2 (Tmp.of_nil ⟨a, ?_, rfl, rfl⟩)
      rw [← W'.clen, List.getElem?_append_right (Nat.le_refl _), Nat.sub_self]; rfl
  · exact wc.elim
end
end Ev

namespace Ev
open PySem PySem.Spec PyProof.Rows L2
/-- as the library's law_call, where the caller's room is the claim's own (no guards), the promise one of this layer -/
theorem law_go {P : Program} {w : World} {K : Frag} {mg mb : Str → Option Value} {k : Nat} {fa a : Addr} {fd : FuncData} {x : Str} {sp : Sp} {s₁ : Shared} {vs : List Value} {ns : List Int}
    (inK : K.In s₁.heap) (gl : s₁.heap.Ns mainGlobals mg) (bt : s₁.heap.Ns builtinsNs mb) (same : ∀ x : Str, x ≠ "__name__" → mb x = bootBuiltins x) (nolim : s₁.heap.NoLimit) (nogens : s₁.gens = #[])
    (scr : s₁.heap.get? a = some { cls := .type "list", data := .seq vs.toArray }) (are : IntsAre vs ns) (few : ns.length ≤ sizeLine) (room : Room k callerA)
    (F : ∀ base : Heap, K.In base → base.Ns mainGlobals mg → FnE P w K mg base k fa fd [x] sp) (binds : ∀ (s : Shared) (u : Value), BindsTo s fd ⟨[u], []⟩ [(x, u)])
    (hsp : ∀ H : Hp, Only H → SqL K H a (ns.map V.int) → sp [.ref a] H (fun v _ => v = .bl true) fun _ _ _ => False) :
    codeAny (model P w) callerA (.call (.ref fa) ⟨[.ref a], []⟩) (fun r s' => r = .ok (.ret (.bool true)) ∧ OldK s₁.heap s'.heap ∧ s'.os = s₁.os ∧ AllBare s'.gens) s₁ := by
  have inz := vals_ints are
  have lens := are.length
  have main : ∀ H : Hp, Only H → SqL K H a (ns.map V.int) → HOk P w H s₁.heap → (∀ b, H b ≠ none → b = a) → (H a ≠ none → K.lookup a = none) →
      codeAny (model P w) callerA (.call (.ref fa) ⟨[.ref a], []⟩) (fun r s' => r = .ok (.ret (.bool true)) ∧ OldK s₁.heap s'.heap ∧ s'.os = s₁.os ∧ AllBare s'.gens) s₁ := by
    intro H only sq hok just apart
    have down : ∀ {b : Addr} {o : Obj}, s₁.heap.get? b = some o → H b = none → (hidT s₁.heap H).get? b = some o := fun e nb => hidT_get e nb
    have noD : ∀ {b : Addr} {o : Obj} {es : Array DictEntry} {ep : Nat}, s₁.heap.get? b = some o → o.data = .dict es ep → H b = none := fun {b o es ep} e d => by
      cases q : H b with
      | none => rfl
      | some u =>
        have eb : b = a := just b (by rw [q]; simp)
        subst eb
        rw [scr] at e; cases e
        have d2 : Data.seq vs.toArray _ = Data.dict es ep := d
        cases d2
    have spaces : ∀ {b : Addr} {m : Str → Option Value}, s₁.heap.Ns b m → (hidT s₁.heap H).Ns b m := fun {b m} ⟨o, es, ep, e, d, r⟩ => ⟨o, es, ep, down e (noD e d), d, r⟩
    have inB : K.In (hidT s₁.heap H) := fun b o e => down (inK b o e) (by
      cases q : H b with
      | none => rfl
      | some u =>
        have eb : b = a := just b (by rw [q]; simp)
        subst eb
        rw [apart (by rw [q]; simp)] at e; cases e)
    have md : Mod K mg (hidT s₁.heap H) := ⟨inB, spaces gl, ⟨mb, spaces bt, same⟩, let ⟨mc, h1, h2⟩ := nolim; ⟨mc, spaces h1, h2⟩⟩
    have env0 : Env0 P w K mg (hidT s₁.heap H) callerA [] s₁ H := ⟨rfl, md, fun b o e => of_hidT e, Nat.le_of_eq (hidT_size _ _), trivial, fun b hb => absurd (show b ∈ ([] : List Addr) from hb) (by simp), hok, .of_eq nogens⟩
    have it := (F _ inB (spaces gl)).run callerA [] s₁ H ⟨[.ref a], []⟩ [.ref a] [.ref a] _ _ room rfl env0 (binds s₁ (.ref a)) (.cons rfl .nil) (hsp H only sq)
    refine codeAny_mono it fun r s2 h => ?_
    cases r with
    | error e =>
      obtain ⟨_, _, _, _, _, _, _, _, _, _, _, _, bad⟩ := h
      exact bad.elim
    | ok fl =>
      cases fl with
      | next => exact False.elim h
      | brk => exact False.elim h
      | cont => exact False.elim h
      | ret u =>
        obtain ⟨v, H2, os, bare, un, hok2, rv, q⟩ := h
        have q2 : v = .bl true := q
        subst q2
        obtain rfl : u = Value.bool true := rv
        refine ⟨rfl, OldK.of_keep fun b o e => ?_, os, bare⟩
        cases q : H b with
        | none => exact un.keep b o e q (by intro z; exact absurd (show b ∈ ([] : List Addr) from z) (by simp)) (by simp)
        | some u =>
          rcases only b with z | ⟨ob, xs, z⟩
          · rw [q] at z; cases z
          · obtain ⟨e1, _⟩ := hok b _ z
            obtain ⟨e2, _⟩ := hok2 b _ (un.frzs b ob _ z)
            rw [e] at e1; cases e1
            exact e2
  cases hk : K.lookup a with
  | some o =>
    have e := inK a o hk
    rw [scr] at e
    cases e
    exact main (fun _ => none) (fun _ => .inl rfl) (.inr ⟨_, vs.toArray, _, hk, rfl, rfl, rfl, by rw [List.size_toArray, lens]; exact few, by simpa using inz⟩) (fun b u z => nomatch z) (fun b z => absurd rfl z) fun z => absurd rfl z
  | none =>
    refine main (fun b => if b = a then some (.frz { cls := .type "list", data := .seq vs.toArray } (.lst (ns.map V.int))) else none) (fun b => ?_) (.inl (.inr ⟨{ cls := .type "list", data := .seq vs.toArray }, if_pos rfl⟩)) (fun b u z => ?_) (fun b z => ?_) fun _ => hk
    · by_cases eb : b = a
      · exact .inr ⟨_, _, if_pos eb⟩
      · exact .inl (if_neg eb)
    · by_cases eb : b = a
      · cases (if_pos eb).symm.trans z
        subst eb
        exact ⟨scr, by rw [List.length_map]; exact few, vs, _, inz, scr⟩
      · cases (if_neg eb).symm.trans z
    · by_cases eb : b = a
      · exact eb
      · exact absurd (if_neg eb) z
theorem walk_go {l : PySem.W.OpenLaw} {n k : Nat} {q : Program} {loose : List Str} {XP : (Str → Option Value) → Heap → Prop} {YP : World → Heap → Prop} {d : DefRec} {x : Str}
    (hn : l.most = some n) (hn2 : n ≤ sizeLine) (hdf : d.params.defaults = []) (hr : Room k callerA)
    (F : ∀ (w : World) (mg : Str → Option Value) (fa : Addr) (h : Heap), YP w h → h.Ns mainGlobals mg → mg d.name = some (.ref fa) →
      ∃ (K : Frag) (fd : FuncData) (sp : Sp), K.In h ∧ (∀ (s : Shared) (u : Value), BindsTo s fd ⟨[u], []⟩ [(x, u)]) ∧
        (∀ (H : Hp) (a : Addr) (ns : List Int), ns.length ≤ n → Only H → SqL K H a (ns.map V.int) → sp [.ref a] H (fun v _ => v = .bl true) fun _ _ _ => False) ∧
        ∀ base : Heap, K.In base → base.Ns mainGlobals mg → FnE l.prog w K mg base k fa fd [x] sp) :
    PySem.W.WalkO q loose XP YP l.row.toRowW d [] (fun f vs => PySem.call f vs) := by
  refine Att.attach_call hn hdf fun w s₀ s₁ mg mb fa o pm cd doc a vs ns G Y ho hd hcd hmg hobj hints hlen hg => ?_
  obtain ⟨K, fd, sp, inK, hb, hsp, hF⟩ := F w mg fa _ Y G.T.g hmg
  exact law_go inK G.T.g G.T.b G.T.builtins G.T.nolimit hg hobj hints (Nat.le_trans hlen hn2) hr hF hb fun H hO hS => hsp H a ns hlen hO hS
theorem ints_rep {K : Frag} {B H : Hp} {α : List Addr} : ∀ ns : List Int, RepL K B H α (ns.map D.int) (ns.map V.int) []
  | [] => ⟨rfl, rfl⟩
  | n :: r => ⟨_, _, [], [], rfl, ⟨rfl, rfl⟩, ints_rep r, rfl⟩
/-- what the law's def is asked: the script within its length -/
theorem law_sp {K : Frag} {c : Cg} {i : Nat} {H : Hp} {a : Addr} {ns : List Int} (hS : SqL K H a (ns.map V.int)) (h : c.F i [.kst (ns.map D.int)] [] (fun d _ => d = .bl true) fun _ _ => False) :
    spE K c i 1 [.ref a] H (fun v _ => v = .bl true) fun _ _ _ => False := by
  refine ⟨H, fun _ => [], [], [], [.kst (ns.map D.int)], _, _, rfl, ⟨HLe.refl H, rfl, fun i d e => ?_, fun _ _ => rfl, rfl, fun k c a e => by simp at e, fun _ _ => rfl, fun _ => List.nodup_nil, (fun _ _ _ _ m => nomatch m), (fun _ _ m => nomatch m)⟩, h, fun d st' e v B' H' φ' α' g W s t => ?_, fun e st' x => x.elim⟩
  · cases i with
    | zero =>
      cases e
      exact ⟨.ref a, rfl, a, _, rfl, hS, ints_rep ns, rfl⟩
    | succ i => simp at e
  · subst e
    exact t.rep.1
end Ev

namespace Ev
open PySem PySem.Spec PyProof.Rows L2
section
variable {G : GC} {P : Program} {w : World} {K : Frag} {mg : Str → Option Value} {base : Heap} {cs : List Addr} {tab : List Fn} {n : Nat}
theorem vals_getD : ∀ {vs : List V} {us : List Value}, Vals vs us → ∀ i : Nat, RelV (vs.getD i .non) (us.getD i .none)
  | _, _, .nil, _ => rfl
  | _, _, .cons r t, 0 => r
  | _, _, .cons r t, i + 1 => vals_getD t i
def pk {α : Type} (us mv : List α) (d : α) : Sum Nat Nat → α
  | .inl i => us.getD i d
  | .inr j => mv.getD j d
theorem vals_map {vs mz : List V} {us mv : List Value} (r : Vals vs us) (q : Vals mz mv) : ∀ l : List (Sum Nat Nat), Vals (l.map (pk vs mz .non)) (l.map (pk us mv .none))
  | [] => .nil
  | .inl i :: l => .cons (vals_getD r i) (vals_map r q l)
  | .inr i :: l => .cons (vals_getD q i) (vals_map r q l)
theorem vals_app {vs ws : List V} {us zs : List Value} (r : Vals vs us) (q : Vals ws zs) : Vals (vs ++ ws) (us ++ zs) := r.append q
section
variable {x qual : Str} {params : Arguments} {body : List Stmt} {scope : Scope} {kws : List (Str × V)} {f : Addr} {fd : FuncData} {ps : List Str}
/-- a way to call, every value written -/
theorem shpN (F : FunD K x qual params body scope [] kws f fd) (m : Nat) (ks : List Str) (pi : List (Sum Nat Nat)) (pm : List Ar) (hpm : ∀ vs, pm.map (argV vs) = pi.map (pk vs [] .non))
    (h : ∀ (kV doc pm : Value) (an : Option Addr) (cdv ct : Value) (us ws : List Value), us.length = m → ws.length = ks.length → bindArgs (PySem.W.fnOf x qual params body scope .none kV doc pm an cdv ct) ⟨us, ks.zip ws⟩ = pure (ps.zip (pi.map (pk (us ++ ws) [] .none)))) :
    Shp K fd ps m ks (fun vs => pm.map (argV vs)) := by
  obtain ⟨oc, od, dV, kV, doc, pq, an, cdv, ct, osl, rfl, lk, hcd, hD, hK⟩ := F.ex
  rcases hD with ⟨_, rfl⟩ | ⟨e, _⟩
  · exact ⟨fun s us ws inK l1 l2 => ⟨_, .of_eq (h kV doc pq an cdv ct us ws l1 l2), fun vs zs r q => by rw [hpm]; exact vals_map (vals_app r q) .nil pi⟩⟩
  · exact absurd rfl e
/-- a way to call, some of those that are given by name alone not written -/
theorem shpK (F : FunD K x qual params body scope [] kws f fd) (m : Nat) (ks : List Str) (ms : List (Str × V)) (hk : kws ≠ []) (hms : ∀ q ∈ ms, q ∈ kws) (pi : List (Sum Nat Nat)) (pm : List Ar) (hpm : ∀ vs, pm.map (argV vs) = pi.map (pk vs (ms.map (·.2)) .non))
    (h : ∀ (D : Addr) (doc pm : Value) (an : Option Addr) (cdv ct : Value) (us mv ws : List Value), us.length = m → mv.length = ms.length → ws.length = ks.length →
      KwChain D ((ms.map (·.1)).zip mv) (bindArgs (PySem.W.fnOf x qual params body scope .none (.ref D) doc pm an cdv ct) ⟨us, ks.zip ws⟩) (ps.zip (pi.map (pk (us ++ ws) mv .none)))) :
    Shp K fd ps m ks (fun vs => pm.map (argV vs)) := by
  obtain ⟨oc, od, dV, kV, doc, pq, an, cdv, ct, osl, rfl, lk, hcd, hD, hK⟩ := F.ex
  rcases hD with ⟨_, rfl⟩ | ⟨e, _⟩
  · rcases hK with e | ⟨D, rfl, hq⟩
    · exact absurd e hk
    · obtain ⟨mv, hl, rk, hks⟩ := kwd_vals (ms := ms) fun q hm => hq q (hms q hm)
      exact ⟨fun s us ws inK l1 l2 => ⟨_, BindsTo.of_looks fun M => KwChain.looks inK hks (h D doc pq an cdv ct us mv ws l1 hl l2), fun vs zs r q => by rw [hpm]; exact vals_map (vals_app r q) rk pi⟩⟩
  · exact absurd rfl e
/-- with defaults by place, and by name -/
theorem shpD (F : FunD K x qual params body scope dvs kws f fd) (hd : dvs ≠ []) (m : Nat) (ks : List Str) (ms : List (Str × V)) (hk : kws ≠ []) (hms : ∀ q ∈ ms, q ∈ kws) (pi : List (Sum Nat Nat)) (pm : List Ar) (hpm : ∀ vs, pm.map (argV vs) = pi.map (pk vs (dvs ++ ms.map (·.2)) .non))
    (h : ∀ (T D : Addr) (doc pm : Value) (an : Option Addr) (cdv ct : Value) (us its mv ws : List Value), us.length = m → its.length = dvs.length → mv.length = ms.length → ws.length = ks.length →
      ∃ k, bindArgs (PySem.W.fnOf x qual params body scope (.ref T) (.ref D) doc pm an cdv ct) ⟨us, ks.zip ws⟩ = seqItems? (.ref T) >>= k ∧ KwChain D ((ms.map (·.1)).zip mv) (k (some its.toArray)) (ps.zip (pi.map (pk (us ++ ws) (its ++ mv) .none)))) :
    Shp K fd ps m ks (fun vs => pm.map (argV vs)) := by
  obtain ⟨oc, od, dV, kV, doc, pq, an, cdv, ct, osl, rfl, lk, hcd, hD, hK⟩ := F.ex
  rcases hD with ⟨e, _⟩ | ⟨_, T, o, its, nn, rfl, lT, oT, rT⟩
  · exact absurd e hd
  rcases hK with e | ⟨D, rfl, hq⟩
  · exact absurd e hk
  obtain ⟨mv, hl, rk, hks⟩ := kwd_vals (ms := ms) fun q hm => hq q (hms q hm)
  refine ⟨fun s us ws inK l1 l2 => ⟨pi.map (pk (us ++ ws) (its ++ mv) .none), BindsTo.of_looks fun M => ?_, fun vs zs r q => by rw [hpm]; exact vals_map (vals_app r q) (vals_app rT rk) pi⟩⟩
  obtain ⟨k, e1, e2⟩ := h T D doc pq an cdv ct us its mv ws l1 rT.length.symm hl l2
  rw [e1]
  exact looks_items inK lT oT (KwChain.looks inK hks e2)
/-- with defaults by place; none by name is left out -/
theorem shpP (F : FunD K x qual params body scope dvs kws f fd) (hd : dvs ≠ []) (m : Nat) (ks : List Str) (pi : List (Sum Nat Nat)) (pm : List Ar) (hpm : ∀ vs, pm.map (argV vs) = pi.map (pk vs dvs .non))
    (h : ∀ (T : Addr) (kV doc pm : Value) (an : Option Addr) (cdv ct : Value) (us its ws : List Value), us.length = m → its.length = dvs.length → ws.length = ks.length →
      ∃ k, bindArgs (PySem.W.fnOf x qual params body scope (.ref T) kV doc pm an cdv ct) ⟨us, ks.zip ws⟩ = seqItems? (.ref T) >>= k ∧ k (some its.toArray) = pure (ps.zip (pi.map (pk (us ++ ws) its .none)))) :
    Shp K fd ps m ks (fun vs => pm.map (argV vs)) := by
  obtain ⟨oc, od, dV, kV, doc, pq, an, cdv, ct, osl, rfl, lk, hcd, hD, hK⟩ := F.ex
  rcases hD with ⟨e, _⟩ | ⟨_, T, o, its, nn, rfl, lT, oT, rT⟩
  · exact absurd e hd
  refine ⟨fun s us ws inK l1 l2 => ⟨pi.map (pk (us ++ ws) its .none), BindsTo.of_looks fun M => ?_, fun vs zs r q => by rw [hpm]; exact vals_map (vals_app r q) rT pi⟩⟩
  obtain ⟨k, e1, e2⟩ := h T kV doc pq an cdv ct us its ws l1 rT.length.symm l2
  rw [e1]
  exact looks_items inK lT oT (.of_pure e2)
def upA : Ar → Ar
  | .ix i => .ix (i + 1)
  | .dv d => .dv d
theorem mkShp {m : Nat} {ks : List Str} {pm : List Ar} (h : Shp K fd ps m ks fun vs => (Ar.ix 0 :: pm.map upA).map (argV vs)) : Shp K fd ps m ks fun vs => vs.headD .non :: pm.map (argV vs.tail) := by
  have e : (fun vs : List V => (Ar.ix 0 :: pm.map upA).map (argV vs)) = fun vs => vs.headD .non :: pm.map (argV vs.tail) := by
    funext vs
    rw [List.map_cons, List.map_map]
    congr 1
    · cases vs <;> rfl
    · refine List.map_congr_left fun a _ => ?_
      cases a with
      | dv d => rfl
      | ix i => cases vs <;> simp [argV, upA]
  rw [← e]; exact h
end
structure FnS (G : GC) (P : Program) (w : World) (K : Frag) (mg : Str → Option Value) (base : Heap) (cs : List Addr) (tab : List Fn) (j : Nat) (fi : GFn) : Prop where
  ex : ∃ (fa : Addr) (fd : FuncData) (ps : List Str), (mg fi.name = some (.ref fa) ∧ PySem.W.keepIn K (.ref fa) = true) ∧ ps.length = fi.np ∧ (∀ s ∈ fi.shapes, Shp K fd ps s.n s.ks fun vs => s.pm.map (argV vs)) ∧
    ∀ n, Fns G P w K mg base cs tab n → FnE P w K mg base (n + 3) fa fd ps (spE K (cgN K cs tab (n + 1)) j fi.np)
structure MethS (G : GC) (P : Program) (w : World) (K : Frag) (mg : Str → Option Value) (base : Heap) (cs : List Addr) (tab : List Fn) (g : GMeth) : Prop where
  ex : ∃ (fa : Addr) (fd : FuncData) (ps : List Str), (Meth K (clsA K g.cl) g.m fa ∧ ∀ q ∈ fldsOf g.cl, fldN q ≠ g.m) ∧ ps.length = g.np ∧ (∀ s ∈ g.shapes, Shp K fd ps (s.n + 1) s.ks fun vs => s.pm.map (argV vs)) ∧
    ∀ n, Fns G P w K mg base cs tab n → FnE P w K mg base (n + 3) fa fd ps (spE K (cgN K cs tab (n + 1)) g.ix g.np)
structure MkS (G : GC) (P : Program) (w : World) (K : Frag) (mg : Str → Option Value) (base : Heap) (cs : List Addr) (tab : List Fn) (g : GMk) : Prop where
  ex : (mg g.name = some (.ref (clsA K g.cl)) ∧ ClsF K g.cl ∧ PySem.W.keepIn K (.ref (clsA K g.cl)) = true) ∧ (∃ b ns, tab[g.ix]? = some (.init g.cl g.np ns b)) ∧ ∃ (fa : Addr) (fd : FuncData) (ps : List Str), Mk K (clsA K g.cl) fa ∧ ps.length = g.np + 1 ∧
    (∀ s ∈ g.shapes, Shp K fd ps (s.n + 1) s.ks fun vs => vs.headD .non :: s.pm.map (argV vs.tail)) ∧ ∀ n, Fns G P w K mg base cs tab n → FnE P w K mg base (n + 3) fa fd ps (spI K (cgN K cs tab (n + 2)) g.ix g.np g.cl)
structure ExcS (P : Program) (w : World) (K : Frag) (mg : Str → Option Value) (base : Heap) (k : Nat) : Prop where
  cl : ExcF K k ∧ OexC K (excA K k) ∧ mg (excT.getD k "") = some (.ref (excA K k))
  ini : ∃ (fI : Addr) (fd : FuncData) (ps : List Str), PySem.W.findIn K (.ref (excA K k)) "__init__" = some (some (.ref fI)) ∧ PySem.W.typeIn K (.ref fI) = some (.type "function") ∧
    (∀ n, FnOk P w K mg base (CX P w) (n + 1) fI fd ps (spX K)) ∧ Binds K fd ps []
  em : ExcM K k
theorem ExcS.at (e : ExcS P w K mg base k) (n : Nat) : (ExcF K k ∧ OexC K (excA K k) ∧ mg (excT.getD k "") = some (.ref (excA K k))) ∧ (∃ (fI : Addr) (fd : FuncData) (ps : List Str), PySem.W.findIn K (.ref (excA K k)) "__init__" = some (some (.ref fI)) ∧ PySem.W.typeIn K (.ref fI) = some (.type "function") ∧
    FnOk P w K mg base (CX P w) (n + 1) fI fd ps (spX K) ∧ Binds K fd ps []) ∧ ExcM K k := by
  obtain ⟨fI, fd, ps, h1, h2, h3, h4⟩ := e.ini
  exact ⟨e.cl, ⟨fI, fd, ps, h1, h2, h3 n, h4⟩, e.em⟩
theorem fns_all (bl : ∀ x ∈ G.bl, mg x = none) (cons : ∀ x d, G.cons.lookup x = some d → ∃ u v, mg x = some u ∧ RelV v u ∧ ∀ B H α, Rep K B H α d v []) (st : ∀ (j : Nat) fi, G.fns[j]? = some fi → FnS G P w K mg base cs tab j fi)
    (mt : ∀ g ∈ G.meths, MethS G P w K mg base cs tab g) (mk : ∀ g ∈ G.mks, MkS G P w K mg base cs tab g) (ex : ∀ k ∈ G.excs, ExcS P w K mg base k) : ∀ n, Fns G P w K mg base cs tab n
  | 0 => ⟨bl, cons, fun j fi h => by
      obtain ⟨fa, fd, ps, ⟨h1, h2⟩, h3, h4, h5⟩ := (st j fi h).ex
      refine ⟨fa, fd, ps, h1, h2, ⟨fun vs H Q E h => by rw [h3]; exact spE_len h, fun A outer s H args us vs Q E _ _ _ _ _ h => ?_⟩, h4⟩
      obtain ⟨_, _, _, _, _, _, _, _, _, bad, _⟩ := h
      exact False.elim bad, fun g hg => by
      obtain ⟨fa, fd, ps, ⟨h1, h2⟩, h3, h4, h5⟩ := (mt g hg).ex
      refine ⟨fa, fd, ps, h1, h2, ⟨fun vs H Q E h => by rw [h3]; exact spE_len h, fun A outer s H args us vs Q E _ _ _ _ _ h => ?_⟩, h4⟩
      obtain ⟨_, _, _, _, _, _, _, _, _, bad, _⟩ := h
      exact False.elim bad, fun g hg => by
      obtain ⟨h0, _, fa, fd, ps, h1, h3, h4, h5⟩ := (mk g hg).ex
      exact ⟨h0, fa, fd, ps, h1, (fun m e => nomatch e), h4⟩, fun k h => (ex k h).at 0⟩
  | n + 1 => ⟨bl, cons, fun j fi h => by
      obtain ⟨fa, fd, ps, ⟨h1, h2⟩, h3, h4, h5⟩ := (st j fi h).ex
      exact ⟨fa, fd, ps, h1, h2, h5 n (fns_all bl cons st mt mk ex n), h4⟩, fun g hg => by
      obtain ⟨fa, fd, ps, ⟨h1, h2⟩, h3, h4, h5⟩ := (mt g hg).ex
      exact ⟨fa, fd, ps, h1, h2, h5 n (fns_all bl cons st mt mk ex n), h4⟩, fun g hg => by
      obtain ⟨h0, ⟨b, ns, ht⟩, fa, fd, ps, h1, h3, h4, h5⟩ := (mk g hg).ex
      refine ⟨h0, fa, fd, ps, h1, fun m e => ?_, h4⟩
      have e' : n = m := by omega
      subst e'
      match n with
      | 0 =>
        refine ⟨fun vs H Q E h => by rw [h3]; exact spI_len h, fun A outer s H args us vs Q E _ _ _ _ _ h => ?_⟩
        obtain ⟨_, _, _, _, _, _, _, _, _, _, _, _, bad, _⟩ := h
        have bad : wC tab 1 g.ix _ _ _ _ := bad
        unfold wC at bad
        rw [ht] at bad
        exact False.elim bad
      | k + 1 => exact h5 k (fns_all bl cons st mt mk ex k), fun k h => (ex k h).at _⟩
def CO (K : Frag) (mg : Str → Option Value) (x : Str) (d : D) : Prop := ∃ u v, mg x = some u ∧ RelV v u ∧ ∀ B H α, Rep K B H α d v []
theorem co_nil : ∀ x d, ([] : List (Str × D)).lookup x = some d → CO K mg x d := fun _ _ h => nomatch h
theorem co_cons {y : Str} {e : D} {l : List (Str × D)} (h : CO K mg y e) (h' : ∀ x d, l.lookup x = some d → CO K mg x d) : ∀ x d, ((y, e) :: l).lookup x = some d → CO K mg x d := fun x d q => by
  rw [List.lookup_cons] at q
  split at q
  · rename_i hb
    cases q
    rw [eq_of_beq hb]; exact h
  · exact h' x d q
theorem co_int {x : Str} {i : Int} (h : ∃ t, mg x = some (.int i t)) : CO K mg x (.int i) := by
  obtain ⟨t, h⟩ := h
  exact ⟨_, .int i, h, ⟨t, rfl⟩, fun _ _ _ => ⟨rfl, rfl⟩⟩
theorem co_str {x z : Str} (h : ∃ t, mg x = some (.str z t)) : CO K mg x (.str z.cps.toList) := by
  obtain ⟨t, h⟩ := h
  exact ⟨_, .str z, h, ⟨t, rfl⟩, fun _ _ _ => ⟨by cases z; rfl, rfl⟩⟩
theorem bl_nil : ∀ x ∈ ([] : List Str), mg x = none := fun _ h => nomatch h
theorem bl_cons {y : Str} {l : List Str} (h : mg y = none) (h' : ∀ x ∈ l, mg x = none) : ∀ x ∈ y :: l, mg x = none := fun x m => by
  rcases List.mem_cons.mp m with rfl | m
  · exact h
  · exact h' x m
theorem sh_nil {fd : FuncData} {ps : List Str} : ∀ s ∈ ([] : List Shape), Shp K fd ps s.n s.ks fun vs => s.pm.map (argV vs) := fun _ h => nomatch h
theorem sh_cons {fd : FuncData} {ps : List Str} {s0 : Shape} {l : List Shape} (h : Shp K fd ps s0.n s0.ks fun vs => s0.pm.map (argV vs)) (h' : ∀ s ∈ l, Shp K fd ps s.n s.ks fun vs => s.pm.map (argV vs)) : ∀ s ∈ s0 :: l, Shp K fd ps s.n s.ks fun vs => s.pm.map (argV vs) := fun s m => by
  rcases List.mem_cons.mp m with rfl | m
  · exact h
  · exact h' s m
end
theorem co_as {K : Frag} {mg : Str → Option Value} {x : Str} {d d' : D} (e : d = d') (h : CO K mg x d) : CO K mg x d' := e ▸ h
def dvD : He.Dv → D
  | .bl b => .bl b
  | .int i => .int i
  | .str x => .str x.cps.toList
  | _ => .non
def dvOk : He.Dv → Bool
  | .non | .bl _ | .int _ | .str _ => true
  | _ => false
theorem dv_rep {K : Frag} {B H : Hp} {α : List Addr} : ∀ {v : He.Dv}, dvOk v = true → Rep K B H α (dvD v) (v.v K) []
  | .non, _ => ⟨rfl, rfl⟩
  | .bl _, _ => ⟨rfl, rfl⟩
  | .int _, _ => ⟨rfl, rfl⟩
  | .str x, _ => ⟨by cases x; rfl, rfl⟩
theorem dvs_rep {K : Frag} {B H : Hp} {α : List Addr} : ∀ {vs : List He.Dv}, vs.all dvOk = true → RepL K B H α (vs.map dvD) (vs.map (He.Dv.v K)) []
  | [], _ => ⟨rfl, rfl⟩
  | v :: vs, h => by
    rw [List.all_cons, Bool.and_eq_true_iff] at h
    exact ⟨_, _, [], [], rfl, dv_rep h.1, dvs_rep h.2, rfl⟩
/-- the module's name x is a tuple of these -/
def tupF (x : Str) (vs : List He.Dv) (K : Frag) : Bool := He.eqO (PySem.W.nsIn K mainGlobals x) (some (some (.ref (He.ga K x)))) && (match K.lookup (He.ga K x) with
  | some ⟨.type c, none, .seq its _, _⟩ => decide (c = "tuple") && (decide (its.size ≤ sizeLine) && He.relAll (vs.map (He.Dv.v K)) its.toList)
  | _ => false)
theorem co_tup {K : Frag} {h : Heap} {mg : Str → Option Value} (inK : K.In h) (gl : h.Ns mainGlobals mg) {x : Str} {vs : List He.Dv} (ok : vs.all dvOk = true) (c : tupF x vs K = true) : CO K mg x (.tup (vs.map dvD)) := by
  unfold tupF at c
  rw [Bool.and_eq_true_iff] at c
  obtain ⟨c1, c2⟩ := c
  have hm : mg x = some (.ref (He.ga K x)) := PySem.W.mg_of inK gl (He.eqO_ok c1)
  split at c2
  · rename_i ty its n sl q
    obtain ⟨h1, h2⟩ := He.ba c2
    obtain ⟨h3, h4⟩ := He.ba h2
    exact ⟨_, .ref _, hm, rfl, fun B H α => ⟨_, _, rfl, .inr ⟨_, its, n, q, congrArg Value.type (of_decide_eq_true h1), rfl, rfl, of_decide_eq_true h3, He.relAll_ok h4⟩, dvs_rep ok⟩⟩
  · cases c2
abbrev AlV : Type := Bool × He.AlD
def obsV (fa : List He.Fa) (fn : List He.DefD) (gs : List (Frag → Bool)) (K : Frag) : AlV := (gs.all fun g => g K, He.obsD fa fn K)
def valV (fn : List He.DefD) : AlV := (true, He.valD fn)
def SaysV (fa : List He.Fa) (fn : List He.DefD) (gs : List (Frag → Bool)) (K : Frag) : Prop := obsV fa fn gs K = valV fn
def obsVG (n : Nat) (fa : List He.Fa) (fn : List He.DefD) (gs : List (Frag → Bool)) (g : Addr → Option Obj) : AlV := obsV fa fn gs (He.frG g (He.asD g n))
def hookV (n : Nat) (fa : List He.Fa) (fn : List He.DefD) (gs : List (Frag → Bool)) : PySem.W.Hook where
  α := AlV
  obs := fun s => obsVG n fa fn gs s.heap.get?
  val := fun _ => valV fn
  says := fun _ h => ∃ K : PySem.W.Frag, K.In h ∧ SaysV fa fn gs K
  of := fun _ _ e => ⟨_, He.frG_in, e⟩
  keeps := fun _ _ _ ⟨K, hK, c⟩ k => ⟨K, PySem.W.Frag.In.keeps hK k, c⟩
theorem obsVG_eq {n : Nat} {fa : List He.Fa} {fn : List He.DefD} {gs : List (Frag → Bool)} {g : Addr → Option Obj} {s : Shared} (h : ∀ a, g a = s.heap.get? a) : obsVG n fa fn gs g = (hookV n fa fn gs).obs s := by
  have e : g = s.heap.get? := funext h
  rw [e] <;> rfl
theorem SaysV.d {fa : List He.Fa} {fn : List He.DefD} {gs : List (Frag → Bool)} {K : Frag} (c : SaysV fa fn gs K) : He.SaysD fa fn K := congrArg (fun z : AlV => z.2) c
theorem SaysV.own {fa : List He.Fa} {fn : List He.DefD} {gs : List (Frag → Bool)} {K : Frag} (c : SaysV fa fn gs K) (i : Nat) {g : Frag → Bool} (h : gs[i]? = some g) : g K = true := by
  have c1 : (gs.all fun g => g K) = true := congrArg (fun z : AlV => z.1) c
  exact List.all_eq_true.mp c1 g (List.mem_of_getElem? h)
end Ev

namespace Ev
open PySem PySem.Spec PyProof.Rows L2
section
variable {P : Program} {w : World} {K : Frag} {mg : Str → Option Value} {base : Heap}
theorem iniS_ok {x qual : Str} {params : Arguments} {scope : Scope} {dvs : List V} {kws : List (Str × V)} {f : Addr} {fd : FuncData} {p1 p2 p3 p4 p5 p6 p7 p8 p9 p10 : Pos} {z : Str} {j : Nat}
    (F : FunD K x qual params [.Expr (.Call (.Attribute (.Name "ValueError" p1) "__init__" p2) [.Name "self" p3, .Constant (.str z) j p4] [] p5) p6, .Assign [.Attribute (.Name "self" p7) "what" p8] (.Name "what" p9) p10] scope dvs kws f fd)
    (S : FnScope ["self", "what"] ["self", "what"] scope) (h1 : scope.names.lookup ("self" : Str) = some .local) (h2 : scope.names.lookup ("what" : Str) = some .local) (hg : scope.names.lookup ("ValueError" : Str) = some .globalImplicit) (hm : mg "ValueError" = none)
    (vV : PySem.W.findCls K (.type "ValueError") (.type "type") "__init__" = some (.val (.builtin "ValueError.__init__"))) (hl : (p2.endLine == p5.line) = true) : ∀ n, FnOk P w K mg base (CX P w) (n + 1) f fd ["self", "what"] (spX K) := fun n =>
  F.ok S (fun vs H Q E h => by obtain ⟨a, C, v, rfl, _⟩ := h; rfl) fun cdv A outer s H vs Q E hr hsp => by
    obtain ⟨a, C, v, rfl, T, hno, ha, hq⟩ := hsp
    refine ⟨_, pss_cons (ps_expr (pe_veinit hg hm vV (pa_cons (pe_var (i := 0) rfl (.inl h1)) (pa_cons pe_str pa_nil)) (meth_eval (base_ok rfl _ _ _) rfl hl))) (pss_cons (ps_ost (pe_var (i := 0) rfl (.inl h1)) (pe_var (i := 1) rfl (.inl h2))) pss_nil), ?_⟩
    refine ⟨.ref a, rfl, a, C, [.str z], rfl, by simp, T, ha, v, rfl, .ref a, rfl, a, C, rfl, T, hno, .inl ⟨ha, fun dx hd hda => hq dx hd hda⟩⟩
end
section
variable {K : Frag} {x qual : Str} {params : Arguments} {body : List Stmt} {scope : Scope} {kws : List (Str × V)} {f : Addr} {fd : FuncData} {ps : List Str}
theorem bindsS (F : FunD K x qual params body scope [] kws f fd) (h : ∀ (kV doc pm : Value) (an : Option Addr) (cdv ct : Value) (us : List Value), us.length = ps.length → bindArgs (PySem.W.fnOf x qual params body scope .none kV doc pm an cdv ct) ⟨us, []⟩ = pure (ps.zip us)) : Binds K fd ps [] := by
  obtain ⟨oc, od, dV, kV, doc, pq, an, cdv, ct, osl, rfl, lk, hcd, hD, hK⟩ := F.ex
  rcases hD with ⟨_, rfl⟩ | ⟨e, _⟩
  · exact Binds.all fun us hl => h kV doc pq an cdv ct us hl
  · exact absurd rfl e
end
/-- a class over ValueError, of the text -/
def oexIn (K : Frag) (C : Addr) : Bool := match K.lookup C with
  | some o => (match o.cls, o.data, o.slots.toList with
    | .type t, .cls cd, [_, _, _, _, some (.builtin n), _] => (match cd.mro with
      | .ref C' :: bm => t == "type" && (C' == C && (n == "ValueError.__new__" && (!cd.hasDel && (cd.hasDict && PySem.HandSPX.refsVE bm))))
      | _ => false)
    | _, _, _ => false)
  | none => false
theorem oexIn_ok {K : Frag} {C : Addr} (h : oexIn K C = true) : ∃ nm q N bs bm sn sub ab col dd k0 k1 k2 k3 k5, K.lookup C = some (excClassObj nm q C N bs bm true sn sub ab col dd k0 k1 k2 k3 k5 "ValueError.__new__") ∧ PySem.HandSPX.refsVE bm = true := by
  unfold oexIn at h
  split at h
  · rename_i o e
    split at h
    · rename_i t cd k0 k1 k2 k3 n k5 e1 e2 e3
      split at h
      · rename_i C' bm e4
        simp only [Bool.and_eq_true, beq_iff_eq, Bool.not_eq_true'] at h
        obtain ⟨rfl, rfl, rfl, hdel, hdi, hr⟩ := h
        obtain ⟨oc, od, oda, osl⟩ := o
        obtain ⟨osl⟩ := osl
        obtain ⟨nm, bs, mro, ns, qn, hd, sn, sub, ab, col, del⟩ := cd
        dsimp only at e1 e2 e3 e4 hdel hdi
        subst e1 e2 e3 e4 hdel hdi
        exact ⟨nm, qn, ns, bs, bm, sn, sub, ab, col, od, k0, k1, k2, k3, k5, e, hr⟩
      · cases h
    · cases h
  · cases h
/-- a class of refusals, all of it at once -/
def excB (K : Frag) (k : Nat) : Bool :=
  decide (k < excT.length) && (excCl K k && (xfB K (excA K k) && (decide (PySem.W.findIn K (.ref (excA K k)) "what" = some none) && (oexIn K (excA K k) &&
    (decide (PySem.W.findIn K (.ref (excA K k)) "__init__" = some (some (.ref (He.fAd K ("StartError", some "__init__"))))) && (decide (PySem.W.findIn K (.ref (excA K k)) "__setattr__" = some (some (.builtin "object.__setattr__"))) &&
      (decide (PySem.W.typeIn K (.ref (excA K k)) = some (.type "type")) && (PySem.W.keepIn K (.ref (excA K k)) && (decide (PySem.W.typeIn K (.ref (He.fAd K ("StartError", some "__init__"))) = some (.type "function")) &&
        (He.eqO (PySem.W.nsIn K mainGlobals (excT.getD k "")) (some (some (.ref (excA K k)))) &&
          (List.range excT.length).all fun j => !xfB K (excA K j) || (decide (PySem.W.exmOne K (.ref (excA K j)) (.ref (excA K k)) = some (k == 0 || j == k)) && decide (PySem.W.kitOne K (.ref (excA K j)) (.ref (excA K k)) = some (k == 0 || j == k)))))))))))))
theorem xfB_of {K : Frag} {C : Addr} (h : XfC K C) : xfB K C = true := by
  unfold xfB
  simp [h.ga, h.gg, h.exC, h.hdC]
theorem excS_of {P : Program} {w : World} {K : Frag} {h : Heap} {mg : Str → Option Value} {base : Heap} {fd : FuncData} {ps : List Str} {k : Nat} (inK : K.In h) (gl : h.Ns mainGlobals mg) (c : excB K k = true)
    (F : ∀ n, FnOk P w K mg base (CX P w) (n + 1) (He.fAd K ("StartError", some "__init__")) fd ps (spX K)) (hb : Binds K fd ps []) : ExcS P w K mg base k := by
  unfold excB at c
  simp only [Bool.and_eq_true, decide_eq_true_eq] at c
  obtain ⟨h1, h1', h2, h3, h4, h5, h6, h7, h8, h9, h10, h11⟩ := c
  have xf := xfB_ok h2
  have fx : ExcF K k := excF_of h1 xf h3 h1'
  refine ⟨⟨fx, ⟨oexIn_ok h4, h6, xf.exC, h7, h8⟩, PySem.W.mg_of inK gl (He.eqO_ok h10)⟩, ⟨_, fd, ps, h5, h9, F, hb⟩, fun j fj => ?_⟩
  have := List.all_eq_true.mp h11 j (List.mem_range.mpr fj.lt)
  rw [xfB_of fj.xf] at this
  simpa using this
def veIn (K : Frag) : Bool := match PySem.W.findCls K (.type "ValueError") (.type "type") "__init__" with
  | some (.val (.builtin n)) => n == "ValueError.__init__"
  | _ => false
theorem veIn_ok {K : Frag} (h : veIn K = true) : PySem.W.findCls K (.type "ValueError") (.type "type") "__init__" = some (.val (.builtin "ValueError.__init__")) := by
  unfold veIn at h
  split at h
  · rename_i n e
    rw [e, eq_of_beq h]
  · cases h
end Ev

namespace Ev
local macro_rules | `(tactic| walk_at "ev") => `(tactic| try simp only [Ev.e_wE_con, Ev.e_wE_var, Ev.e_wE_op, Ev.e_wE_neg, Ev.e_wE_cmp, Ev.e_wE_chain, Ev.e_wE_and, Ev.e_wE_or, Ev.e_wE_not, Ev.e_wE_ite, Ev.e_wE_tup, Ev.e_wE_lst, Ev.e_wE_idx, Ev.e_wE_slc, Ev.e_wE_rev, Ev.e_wE_call, Ev.e_wE_callP, Ev.e_wE_blt, Ev.e_wE_mr, Ev.e_wE_comp, Ev.e_wE_fstr, Ev.e_wEs_nil, Ev.e_wEs_cons, Ev.e_wRs_nil, Ev.e_wRs_cons, Ev.e_wZs_nil, Ev.e_wZs_cons, Ev.e_wIfs_nil, Ev.e_wIfs_cons, Ev.e_wO_none, Ev.e_wO_some, Ev.e_wS_asg, Ev.e_wS_asgP, Ev.e_wS_aug, Ev.e_wS_expr, Ev.e_wS_retN, Ev.e_wS_ite, Ev.e_wS_for, Ev.e_wS_while, Ev.e_wS_pass, Ev.e_wS_brk, Ev.e_wS_cont, Ev.e_wE_mc, Ev.e_wS_setIx, Ev.e_wS_retV, Ev.e_wS_ret, Ev.e_rdC, Ev.e_wR, Ev.e_wT, Ev.e_stays, Ev.e_iv_con, Ev.e_iv_op, Ev.e_iv_neg, Ev.e_iv_cmp, Ev.e_iv_chain, Ev.e_iv_and, Ev.e_iv_or, Ev.e_iv_not, Ev.e_iv_ite, Ev.e_iv_tup, Ev.e_iv_lst, Ev.e_iv_idx, Ev.e_iv_slc, Ev.e_iv_rev, Ev.e_iv_call, Ev.e_iv_callP, Ev.e_iv_blt, Ev.e_iv_mr, Ev.e_iv_mc, Ev.e_iv_comp, Ev.e_iv_fstr, Ev.e_iv_var, Ev.q_con, Ev.q_var, Ev.q_vc, Ev.q_cv, Ev.q_vv, Ev.qL_nil, Ev.qL_cons, Ev.qO_none, Ev.qO_some, Ev.wipeE, Ev.backE, Ev.hidOk, Ev.onV_some, Ev.onE_some, Ev.natW_some, Ev.txW_some, Ev.intW_int, Ev.ownW_lst, Ev.getV_zero, Ev.getV_succ, Ev.rdC_var, Ev.fz_non, Ev.fz_bl, Ev.fz_int, Ev.fz_str, Ev.fz_ptr, Ev.fz_tup, Ev.fz_lst, Ev.fzL_nil, Ev.fzL_cons, Ev.nf_non, Ev.nf_bl, Ev.nf_int, Ev.nf_str, Ev.nf_ptr, Ev.nf_tup, Ev.nf_lstT, Ev.nf_lstF, Ev.fz_kst, Ev.nf_kst, Ev.idx_kst, Ev.slc_kst, Ev.it_kst, Ev.len_kst, Ev.list_kst, Ev.noP_non, Ev.noP_bl, Ev.noP_int, Ev.noP_str, Ev.noP_tup, Ev.noP_lst, Ev.noPL_nil, Ev.noPL_cons, Ev.nfL_nil, Ev.nfL_cons, Ev.add_int, Ev.sub_int, Ev.mul_int, Ev.fdiv_int, Ev.mod_int, Ev.pow_int, Ev.add_str, Ev.add_lst, Ev.add_tup, Ev.mul_lst, Ev.lt_ii, Ev.le_ii, Ev.gt_ii, Ev.ge_ii, Ev.lt_ss, Ev.eq_ii, Ev.eq_ss, Ev.eq_bb, Ev.eq_nint, Ev.eq_intn, Ev.eq_nbl, Ev.eq_bln, Ev.eq_nstr, Ev.eq_strn, Ev.eq_nn, Ev.eq_lstlst, Ev.eq_tuptup, Ev.eq_lsttup, Ev.eq_tuplst, Ev.eq_lstn, Ev.eq_tupn, Ev.ne_ii, Ev.ne_ss, Ev.ne_bb, Ev.ne_nint, Ev.ne_intn, Ev.ne_nbl, Ev.ne_bln, Ev.ne_nstr, Ev.ne_strn, Ev.ne_nn, Ev.ne_lstlst, Ev.ne_tuptup, Ev.ne_lsttup, Ev.ne_tuplst, Ev.ne_lstn, Ev.ne_tupn, Ev.is__non, Ev.is__int, Ev.is__bl, Ev.is__str, Ev.is__tup, Ev.is__ptr, Ev.is__lst, Ev.is__bb, Ev.isNot_non, Ev.isNot_int, Ev.isNot_bl, Ev.isNot_str, Ev.isNot_tup, Ev.isNot_ptr, Ev.isNot_lst, Ev.isNot_bb, Ev.in__ss, Ev.in_l_n, Ev.in_t_n, Ev.in_l_b, Ev.in_t_b, Ev.in_l_i, Ev.in_t_i, Ev.in_l_s, Ev.in_t_s, Ev.in_l_t, Ev.in_t_t, Ev.in_l_l, Ev.in_t_l, Ev.notIn_ss, Ev.notInl_n, Ev.notInt_n, Ev.notInl_b, Ev.notInt_b, Ev.notInl_i, Ev.notInt_i, Ev.notInl_s, Ev.notInt_s, Ev.notInl_t, Ev.notInt_t, Ev.notInl_l, Ev.notInt_l, Ev.sgW_one, Ev.tru_non, Ev.tru_bl, Ev.tru_int, Ev.tru_str, Ev.tru_lst, Ev.tru_tup, Ev.idx_lst, Ev.idx_tup, Ev.idx_str, Ev.oInt_none, Ev.oInt_some, Ev.slc_lst, Ev.slc_tup, Ev.slc_str, Ev.slcL_some, Ev.slcS_some, Ev.rev_lst, Ev.it_lst, Ev.it_tup, Ev.it_str, Ev.it_rng1, Ev.it_rng2, Ev.it_enl, Ev.it_zip_lst_lst, Ev.it_zip_tup_tup, Ev.len_lst, Ev.len_tup, Ev.len_str, Ev.abs_int, Ev.isi_any, Ev.int1_int, Ev.int1_bl, Ev.str1_int, Ev.str1_str, Ev.repr_int, Ev.repr_non, Ev.repr_bl, Ev.repr_str, Ev.repr_lst, Ev.repr_tup, Ev.tuple_lst, Ev.tuple_tup, Ev.list_lst, Ev.list_tup, Ev.max2_ii, Ev.min2_ii, Ev.all_lst, Ev.any_lst, Ev.bsW_some, Ev.app_one, Ev.rev_zero, Ev.clear_zero, Ev.forL_nil, Ev.forL_cons, Ev.forB_eq, Ev.wTg_nm, Ev.wTg_tup, Ev.wTgs_nil, Ev.wTgs_cons, Ev.atx_nat, Ev.nf_fz, Ev.nfL_fzL, Ev.wSs_nil, Ev.wSs_cons, Ev.sca_non, Ev.sca_bl, Ev.sca_int, Ev.sca_str, Ev.der_non, Ev.der_bl, Ev.der_int, Ev.der_str, Ev.der_tup, Ev.der_lst, Ev.der_kst, Ev.setW_lst, Ev.quiet, Ev.isL_lst, Ev.sh_t, Ev.sh_f, Ev.sh_n, Ev.aug_add, Ev.aug_sub, Ev.aug_fdiv, Ev.nsW_some, Ev.ssW_some, Ev.list_str, Ev.max1_lst, Ev.min1_lst, Ev.sum1_lst, Ev.sorted_lst, Ev.divmod_ii, Ev.join_lst, Ev.index_str, Ev.index_tup, Ev.split_str, Ev.mrOk_join, Ev.mrOk_index, Ev.mrOk_indexT, Ev.mrOk_indexL, Ev.index_lst, Ev.mrOk_split, Ev.it_ent, Ev.wTg_star, Ev.strsOf_nil, Ev.strsOf_cons, Ev.numsOf_nil, Ev.numsOf_cons, Ev.e_wS_bad, Ev.env_zero, Ev.env_succ, Option.map_some, List.take_succ_cons, List.take_zero, List.drop_succ_cons, List.drop_zero, Nat.reduceSub, Nat.add_zero, Nat.zero_add, Nat.sub_zero, Nat.le_refl, decide_true, List.set_cons_zero, List.set_cons_succ, List.length_cons, List.length_nil, Nat.reduceAdd, Nat.reduceLT, Nat.reduceLeDiff, Bool.true_or, Bool.or_true, Bool.false_or, Bool.or_false, Bool.not_true, Bool.not_false, Bool.true_and, Bool.and_true, Bool.and_self, true_and, and_true, if_true, if_false, ite_true, ite_false, Bool.false_eq_true, reduceIte, Option.bind_some, Nat.lt_add_left_iff_pos, Nat.zero_lt_succ, Nat.add_lt_add_iff_right, Nat.lt_add_one, List.map_cons, List.map_nil, Ev.argOf, List.cons_append, List.nil_append, List.append_nil, List.getD_cons_zero, List.getD_cons_succ, List.replicate, List.all_cons, List.all_nil])

/-- the box at b has c draws left at least -/
def Bud (st : Stt) (b c : Nat) : Prop := (∃ m, st[b]? = some (.box m) ∧ c ≤ m) ∧ st.all boxB = true
theorem Bud.all {st : Stt} {b c : Nat} (h : Bud st b c) : st.all boxB = true := h.2
theorem all_setB {st : Stt} {b : Nat} {c : Cell} (h : st.all boxB = true) (hc : boxB c = true) : (st.set b c).all boxB = true :=
  List.all_eq_true.mpr fun x m => (List.mem_or_eq_of_mem_set m).elim (fun m => List.all_eq_true.mp h x m) fun e => by rw [e]; exact hc
theorem all_appB {st xs : Stt} (h : st.all boxB = true) (hx : xs.all boxB = true) : (st ++ xs).all boxB = true := by rw [List.all_append, h, hx]; rfl
theorem Bud.mono {st : Stt} {b c c' : Nat} (h : Bud st b c) (l : c' ≤ c) : Bud st b c' := ⟨⟨h.1.choose, h.1.choose_spec.1, Nat.le_trans l h.1.choose_spec.2⟩, h.2⟩
theorem Bud.der {st : Stt} {b c : Nat} (h : Bud st b c) : derefD st (.ptr b) = .ptr b := der_box h.1.choose_spec.1
theorem take_ok {tab : List Fn} {k i b c : Nat} {n : Int} {st : Stt} {K : D → Stt → Prop} {X : Exn → Stt → Prop} (ht : tab[i]? = some .take) (hb : Bud st b (c + 1)) (h0 : 0 < n) (h1 : n < 10 ^ 70)
    (h : ∀ (r : Int) (st' : Stt), 0 ≤ r → r < n → Bud st' b c → K (.int r) st') : wC tab (k + 1) i [.ptr b, .int n] st K X := by
  obtain ⟨⟨m, hm, hc⟩, hb2⟩ := hb
  obtain ⟨m, rfl⟩ : ∃ q, m = q + 1 := ⟨m - 1, by omega⟩
  unfold wC
  rw [ht]
  simp only
  rw [hm]
  exact ⟨⟨h0, h1⟩, fun r r0 r1 => h r _ r0 r1 ⟨⟨m, List.getElem?_set_self (List.getElem?_eq_some_iff.mp hm).1, by omega⟩, all_setB hb2 rfl⟩⟩
theorem nums_ints : ∀ ns : List Int, numsOf (ns.map D.int) = some ns
  | [] => rfl
  | n :: r => by show (numsOf (r.map D.int)).map (n :: ·) = _; rw [nums_ints r]; rfl
theorem box_ok {tab : List Fn} {k i : Nat} {ns : List Int} {j : Int} {st : Stt} {K : D → Stt → Prop} {X : Exn → Stt → Prop} (ht : tab[i]? = some .box) (h0 : 0 ≤ j ∧ j ≤ 1000)
    (h : ∀ st' b, Bud st' b (2 ^ 36) → K (.ptr b) st') (hs : st.all boxB = true := by first | rfl | assumption) : wC tab (k + 1) i [.kst (ns.map D.int), .int j] st K X := by
  unfold wC
  rw [ht]
  refine ⟨by rw [nums_ints]; rfl, h0, h _ _ ⟨⟨Draws, ?_, Nat.le_refl _⟩, all_appB hs rfl⟩⟩
  rw [List.getElem?_append_right (Nat.le_refl _), Nat.sub_self]; rfl
theorem fz_ints (ns : List Int) : fz (.kst (ns.map D.int)) = .kst (ns.map D.int) := by
  show D.kst (fzL _) = _
  congr 1
  induction ns with
  | nil => rfl
  | cons n r ih => show fz (.int n) :: fzL (r.map D.int) = _; rw [ih]; rfl
def sameC (ix : Nat) : IE := .callP ix [.var 2, .var 3] [] [.ix 0, .ix 1]
def sameB (ix : Nat) : List IS := [.ite (.blt (.isi [.list, .tuple]) [(.var 1)]) [.ite (.or_ (.cmp .ne (.blt (.isi [.list]) [(.var 0)]) (.blt (.isi [.list]) [(.var 1)])) (.cmp .ne (.blt (.isi [.tuple]) [(.var 0)]) (.blt (.isi [.tuple]) [(.var 1)]))) [.ret (.con (.bl false))] [], .ite (.cmp .ne (.blt .len [(.var 0)]) (.blt .len [(.var 1)])) [.ret (.con (.bl false))] [], .ret (.blt .all [(.comp .zip [(.var 0), (.var 1)] (.tup [(.nm 2), (.nm 3)]) [] (sameC ix) [2, 3])])] [], .ite (.or_ (.cmp .is_ (.var 1) (.con .non)) (.blt (.isi [.str]) [(.var 1)])) [.ret (.and_ (.cmp .eq (.var 0) (.var 1)) (.cmp .eq (.blt (.isi [.str]) [(.var 0)]) (.blt (.isi [.str]) [(.var 1)])))] [], .ret (.and_ (.blt (.isi [.int]) [(.var 0)]) (.and_ (.cmp .eq (.blt (.isi [.bool]) [(.var 0)]) (.blt (.isi [.bool]) [(.var 1)])) (.cmp .eq (.var 0) (.var 1))))]
mutual
/-- shared, of numbers, truths, none, texts, lists, tuples, so deep -/
def okS : Nat → D → Bool
  | _, .non => true
  | _, .bl _ => true
  | _, .int _ => true
  | _, .str _ => true
  | n + 1, .lst o xs => !o && decide (xs.length ≤ Lim) && okSs n xs
  | n + 1, .tup xs => decide (xs.length ≤ Lim) && okSs n xs
  | _, _ => false
def okSs : Nat → List D → Bool
  | _, [] => true
  | n, x :: xs => okS n x && okSs n xs
end
theorem okS_fz : ∀ (n : Nat) (d : D), okS n d = true → fz d = d ∧ noP d = true ∧ nf d = true
  | _, .non, _ => ⟨rfl, rfl, rfl⟩
  | _, .bl _, _ => ⟨rfl, rfl, rfl⟩
  | _, .int _, _ => ⟨rfl, rfl, rfl⟩
  | _, .str _, _ => ⟨rfl, rfl, rfl⟩
  | 0, .lst _ _, h => by cases h
  | 0, .tup _, h => by cases h
  | n + 1, .lst o xs, h => by
    simp only [okS, Bool.and_eq_true, Bool.not_eq_true'] at h
    obtain ⟨⟨rfl, _⟩, h⟩ := h
    obtain ⟨h1, h2, h3⟩ := okSs_fz n xs h
    exact ⟨by show D.lst false (fzL xs) = _; rw [h1], h2, h3⟩
  | n + 1, .tup xs, h => by
    simp only [okS, Bool.and_eq_true] at h
    obtain ⟨h1, h2, h3⟩ := okSs_fz n xs h.2
    exact ⟨by show D.tup (fzL xs) = _; rw [h1], h2, h3⟩
  | _, .dic _ _ _, h => by unfold okS at h; cases h
  | _, .kst _, h => by unfold okS at h; cases h
  | _, .ptr _, h => by unfold okS at h; cases h
  | _, .fn _, h => by unfold okS at h; cases h
  | _, .ins _ _, h => by unfold okS at h; cases h
  | _, .exc _ _, h => by unfold okS at h; cases h
where okSs_fz : ∀ (n : Nat) (ds : List D), okSs n ds = true → fzL ds = ds ∧ noPL ds = true ∧ nfL ds = true
  | _, [], _ => ⟨rfl, rfl, rfl⟩
  | n, x :: xs, h => by
    simp only [okSs, Bool.and_eq_true] at h
    obtain ⟨h1, h2, h3⟩ := okS_fz n x h.1
    obtain ⟨i1, i2, i3⟩ := okSs_fz n xs h.2
    exact ⟨by show fz x :: fzL xs = _; rw [h1, i1], by show (noP x && noPL xs) = true; rw [h2, i2]; rfl, by show (nf x && nfL xs) = true; rw [h3, i3]; rfl⟩
theorem bools_true (n : Nat) : bools (List.replicate n (.bl true)) = some (List.replicate n true) := by
  induction n with
  | zero => rfl
  | succ n ih => show (bools (List.replicate n (.bl true))).map (true :: ·) = _; rw [ih]; rfl
theorem isOk_of {n : Nat} {d : D} (h : okS n d = true) : isOk d = true := by
  cases d <;> first | rfl | (unfold okS at h; cases h)
abbrev SCm (tab : List Fn) (n ix : Nat) := cmpB (.tup [.nm 2, .nm 3]) [2, 3] (fun e2 s2 K2 X2 => wIfs (wC tab n) [] e2 s2 K2 X2) (fun e2 s2 K2 X2 => wE (wC tab n) (sameC ix) e2 s2 K2 X2)
theorem same_step {tab : List Fn} {ix n : Nat} (IH : ∀ (d : D) (K : D → Stt → Prop) (X : Exn → Stt → Prop), okS n d = true → K (.bl true) [] → wC tab (n + 1) ix [d, d] [] K X) (a b x : D) (ok : okS n x = true) (K : Option D → Env → Stt → Prop)
    (h : K (some (.bl true)) [some a, some b, none, none] []) : SCm tab (n + 1) ix (.tup [x, x]) [some a, some b, none, none] [] K := by
  obtain ⟨f1, f2, f3⟩ := okS_fz n x ok
  have hd : derefD [] x = x := by cases x <;> first | rfl | (unfold okS at ok; cases ok)
  unfold SCm cmpB sameC
  walk_at "ev"
  simp only [List.map_cons, List.map_nil, argOf, hd, f3, f1, f2, List.cons_append, List.nil_append, List.all_cons, List.all_nil, List.getD_cons_zero, List.getD_cons_succ]
  walk_at "ev"
  exact IH x _ _ ok ⟨rfl, h⟩
theorem same_comp {tab : List Fn} {ix n : Nat} (IH : ∀ (d : D) (K : D → Stt → Prop) (X : Exn → Stt → Prop), okS n d = true → K (.bl true) [] → wC tab (n + 1) ix [d, d] [] K X) (a b : D) : ∀ (xs : List D) (K : List D → Env → Stt → Prop), okSs n xs = true →
    K (List.replicate xs.length (.bl true)) [some a, some b, none, none] [] → compL (SCm tab (n + 1) ix) (zipD xs xs) [some a, some b, none, none] [] K
  | [], K, _, h => h
  | x :: xs, K, ok, h => by
    simp only [okSs, Bool.and_eq_true] at ok
    show SCm tab (n + 1) ix (.tup [x, x]) _ [] (fun r e s => match r with | none => compL (SCm tab (n + 1) ix) (zipD xs xs) e s K | some y => compL (SCm tab (n + 1) ix) (zipD xs xs) e s fun ys => K (y :: ys))
    exact same_step IH a b x ok.1 _ (same_comp IH a b xs (fun ys => K (.bl true :: ys)) ok.2 h)
theorem fz_trues (n : Nat) : fzL (List.replicate n (.bl true)) = List.replicate n (.bl true) := by
  induction n with
  | zero => rfl
  | succ n ih => show fz (.bl true) :: fzL (List.replicate n (.bl true)) = _; rw [ih]; rfl
theorem all_trues (n : Nat) : (List.replicate n true).all id = true := by
  induction n with
  | zero => rfl
  | succ n ih => show (true && _) = true; rw [ih]; rfl
theorem same_true {tab : List Fn} {ix : Nat} (ht : tab[ix]? = some (.body 2 4 (sameB ix))) : ∀ (n : Nat) (d : D) (K : D → Stt → Prop) (X : Exn → Stt → Prop), okS n d = true → K (.bl true) [] → wC tab (n + 1) ix [d, d] [] K X := by
  intro n
  induction n with
  | zero =>
    intro d K X ok h
    unfold wC
    rw [ht]
    refine ⟨rfl, ?_⟩
    unfold sameB
    cases d with
    | non => simp only [List.map_cons, List.map_nil, List.cons_append, List.nil_append, List.replicate]; walk_at "ev"; simp [isTy, isOk]; exact h
    | bl b => simp only [List.map_cons, List.map_nil, List.cons_append, List.nil_append, List.replicate]; walk_at "ev"; simp [isTy, isOk]; exact h
    | int b => simp only [List.map_cons, List.map_nil, List.cons_append, List.nil_append, List.replicate]; walk_at "ev"; simp [isTy, isOk]; exact h
    | str b => simp only [List.map_cons, List.map_nil, List.cons_append, List.nil_append, List.replicate]; walk_at "ev"; simp [isTy, isOk]; exact h
    | _ => cases ok
  | succ n IH =>
    intro d K X ok h
    unfold wC
    rw [ht]
    refine ⟨rfl, ?_⟩
    unfold sameB
    cases d with
    | non => simp only [List.map_cons, List.map_nil, List.cons_append, List.nil_append, List.replicate]; walk_at "ev"; simp [isTy, isOk]; exact h
    | bl b => simp only [List.map_cons, List.map_nil, List.cons_append, List.nil_append, List.replicate]; walk_at "ev"; simp [isTy, isOk]; exact h
    | int b => simp only [List.map_cons, List.map_nil, List.cons_append, List.nil_append, List.replicate]; walk_at "ev"; simp [isTy, isOk]; exact h
    | str b => simp only [List.map_cons, List.map_nil, List.cons_append, List.nil_append, List.replicate]; walk_at "ev"; simp [isTy, isOk]; exact h
    | lst o xs =>
      obtain ⟨f1, f2, f3⟩ := okS_fz (n + 1) (.lst o xs) ok
      simp only [okS, Bool.and_eq_true, Bool.not_eq_true', decide_eq_true_eq] at ok
      obtain ⟨⟨rfl, hl⟩, ok⟩ := ok
      obtain ⟨g1, g2, g3⟩ := okS_fz.okSs_fz n xs ok
      have hz : (zipD xs xs).length ≤ Lim := by rw [zip_len]; omega
      simp only [List.map_cons, List.map_nil, List.cons_append, List.nil_append, List.replicate]
      walk_at "ev"
      simp [isTy, isOk, f3, f1, g1, g3, hz]
      refine same_comp IH _ _ xs _ ok ?_
      rw [fz_trues, bools_true]
      show K (.bl ((List.replicate xs.length true).all id)) []
      rw [all_trues]; exact h
    | tup xs =>
      obtain ⟨f1, f2, f3⟩ := okS_fz (n + 1) (.tup xs) ok
      simp only [okS, Bool.and_eq_true, decide_eq_true_eq] at ok
      obtain ⟨hl, ok⟩ := ok
      obtain ⟨g1, g2, g3⟩ := okS_fz.okSs_fz n xs ok
      have hz : (zipD xs xs).length ≤ Lim := by rw [zip_len]; omega
      simp only [List.map_cons, List.map_nil, List.cons_append, List.nil_append, List.replicate]
      walk_at "ev"
      simp [isTy, isOk, f3, f1, g1, g3, hz]
      refine same_comp IH _ _ xs _ ok ?_
      rw [fz_trues, bools_true]
      show K (.bl ((List.replicate xs.length true).all id)) []
      rw [all_trues]; exact h
    | _ => unfold okS at ok; cases ok
theorem while_step {test : Env → Stt → (Bool → Env → Stt → Prop) → Prop} {body : Env → Stt → Kn → Prop} {Q : Kn} {n : Nat} {env : Env} {st : Stt}
    (h : test env st fun b e s => if b = true then body e s { Q with nx := whileL test body Q n, ct := whileL test body Q n, bk := Q.nx } else Q.nx e s) : whileL test body Q (n + 1) env st := h
theorem pick_ok {xs : List D} {r : Int} {K : D → Prop} (h0 : 0 ≤ r) (h1 : r < xs.length) (h : ∀ d ∈ xs, K d) : onV (atx xs r) K := by
  have e : r = (r.toNat : Int) := by omega
  have hn : r.toNat < xs.length := by omega
  rw [e, atx_nat, List.getElem?_eq_getElem hn]
  exact h _ (List.getElem_mem hn)
/-- a loop by what stands at each turn -/
theorem forL_inv {body : D → Env → Stt → Kn → Prop} {Q : Kn} (Inv : Nat → Env → Stt → Prop) : ∀ (xs : List D) (i : Nat) (env : Env) (st : Stt),
    (∀ (j : Nat) x env st Q', xs[j]? = some x → Inv (i + j) env st → (∀ e s, Inv (i + j + 1) e s → Q'.nx e s) → Q'.rt = Q.rt → Q'.ct = Q'.nx → Q'.ex = Q.ex → body x env st Q') → Inv i env st → (∀ e s, Inv (i + xs.length) e s → Q.nx e s) → forL body xs env st Q
  | [], i, env, st, _, h0, h1 => h1 env st h0
  | x :: xs, i, env, st, hb, h0, h1 => by
    refine hb 0 x env st _ rfl h0 (fun e s h => ?_) rfl rfl rfl
    refine forL_inv Inv xs (i + 1) e s (fun j y env st Q' hy hi hn h1 h2 h3 => ?_) h fun e s h => h1 e s (by rw [List.length_cons]; rwa [Nat.add_assoc, Nat.add_comm 1] at h)
    refine hb (j + 1) y env st Q' hy (by rwa [Nat.add_assoc, Nat.add_comm 1] at hi) (fun e s h => hn e s ?_) h1 h2 h3
    rwa [show i + 1 + j + 1 = i + (j + 1) + 1 by omega]
theorem range_at {a b : Int} {j : Nat} {x : D} (h : (rangeD a b)[j]? = some x) : x = .int (a + (j : Nat)) ∧ j < (b - a).toNat := by
  unfold rangeD at h
  rw [List.getElem?_map] at h
  obtain ⟨n, hn, rfl⟩ := Option.map_eq_some_iff.mp h
  have := List.getElem?_range (n := (b - a).toNat) (i := j)
  have hl := (List.getElem?_eq_some_iff.mp hn).1
  rw [List.length_range] at hl
  rw [List.getElem?_range hl] at hn
  cases hn
  exact ⟨rfl, hl⟩
end Ev

namespace Ev
open PySem
/-- into a text of the table -/
theorem fn_go {tab : List Fn} {k i np ns : Nat} {b : List IS} {ds : List D} {st : Stt} {K : D → Stt → Prop} {X : Exn → Stt → Prop} (h : tab[i]? = some (.body np ns b)) (hl : ds.length = np)
    (w : wSs (wC tab k) b (ds.map some ++ List.replicate (ns - np) none) st ⟨fun _ s => K .non s, K, fun _ _ => False, fun _ _ => False, fun e _ s => X e s⟩) : wC tab (k + 1) i ds st K X := by
  unfold wC
  rw [h]
  exact ⟨hl, w⟩
mutual
def szW : D → Nat
  | .int _ => 2000
  | .str x => 10 * x.length + 2
  | .tup xs => szWL xs + 3
  | .lst _ xs => szWL xs + 3
  | _ => 5
def szWL : List D → Nat
  | [] => 0
  | x :: xs => szW x + 2 + szWL xs
end
mutual
/-- may be shown -/
def shS : D → Bool
  | .non | .bl _ => true
  | .int i => decide (i.natAbs.log2 < 1920)
  | .str x => x.all fun c => decide (c < 1114112)
  | .tup xs => shSL xs
  | .lst _ xs => shSL xs
  | _ => false
def shSL : List D → Bool
  | [] => true
  | x :: xs => shS x && shSL xs
end
mutual
theorem shS_plain : ∀ d : D, shS d = true → plain d = true ∧ (py d).showable = true
  | .non, _ => ⟨rfl, rfl⟩
  | .bl _, _ => ⟨rfl, rfl⟩
  | .int i, h => ⟨rfl, h⟩
  | .str x, h => ⟨h, rfl⟩
  | .tup xs, h => by obtain ⟨h1, h2⟩ := shS_plains xs h; exact ⟨h1, by rw [py, PyData.showable]; exact h2⟩
  | .lst _ xs, h => by obtain ⟨h1, h2⟩ := shS_plains xs h; exact ⟨h1, by rw [py, PyData.showable]; exact h2⟩
  | .dic _ _ _, h => by cases h
  | .kst _, h => by cases h
  | .ptr _, h => by cases h
  | .fn _, h => by cases h
  | .ins _ _, h => by cases h
  | .exc _ _, h => by cases h
theorem shS_plains : ∀ ds : List D, shSL ds = true → plainL ds = true ∧ PyData.showableAll (pyL ds) = true
  | [], _ => ⟨rfl, rfl⟩
  | d :: ds, h => by
    rw [shSL, Bool.and_eq_true_iff] at h
    obtain ⟨h1, h2⟩ := shS_plain d h.1
    obtain ⟨h3, h4⟩ := shS_plains ds h.2
    exact ⟨by rw [plainL, h1, h3]; rfl, by rw [pyL, PyData.showableAll, h2, h4]; rfl⟩
end
theorem text_len (x : Tx) (h : (x.all fun c => decide (c < 1114112)) = true) : (reprText ⟨x.toArray⟩).length ≤ 10 * x.length + 2 := by
  have key := StrLaws.foldl_repr_len (reprQuote ⟨x.toArray⟩) x #[reprQuote ⟨x.toArray⟩] fun c hc => by
    have := List.all_eq_true.mp h c hc
    have := of_decide_eq_true this
    have e : (16 : Nat) ^ 8 = 4294967296 := by decide
    omega
  show (reprText ⟨x.toArray⟩).cps.size ≤ _
  unfold reprText
  rw [Array.size_push]
  simp only [List.foldl_toArray] at key ⊢
  simp at key ⊢
  omega
theorem listText_le : ∀ ts : List Str, (listText ts).length ≤ piled ts + 3
  | [] => by show (listText []).length ≤ 0 + 3; decide
  | t :: r => by
    have h1 : (listText (t :: r)).length = (textFrom 0 "[" (t :: r)).length + 1 := by
      show (textFrom 0 "[" (t :: r) ++ ("]" : Str)).length = _
      rw [strLen_append]; rfl
    have h2 : (textFrom 0 "[" (t :: r)).length = (("[" : Str) ++ t).length + piled r := by
      show (textFrom 1 (("[" : Str) ++ (if 0 > 0 then ", " else "" : String) ++ t) r).length = _
      rw [textFrom_length_pos r 1 _ (Nat.succ_pos 0), strLen_append, strLen_append, strLen_append]
      rfl
    rw [h1, h2, piled_cons, strLen_append]
    have : ("[" : Str).length = 1 := rfl
    omega
theorem tupleText_le : ∀ ts : List Str, (tupleText ts).length ≤ piled ts + 3
  | [] => by decide
  | t :: r => by
    unfold tupleText
    have hj := join_length_add (t :: r) (by simp)
    rw [strLen_append, strLen_append]
    have e1 : ("(" : Str).length = 1 := rfl
    have e2 : ((if (t :: r).length == 1 then ",)" else ")" : String) : Str).length ≤ 2 := by split <;> decide
    omega
mutual
theorem shown_le : ∀ d : D, shS d = true → (py d).shown.length ≤ szW d
  | .non, _ => by show (("None" : Str)).length ≤ 5; decide
  | .bl b, _ => by cases b <;> decide
  | .int i, h => by
    have h : i.natAbs.log2 < 1920 := of_decide_eq_true h
    have := PyProof.Rows.int_text_len_1921 h
    show (Str.ofString (toString i)).length ≤ 2000
    omega
  | .str x, h => by
    have := text_len x h
    rw [py, PyData.shown]
    exact this
  | .tup xs, h => by
    have := shown_les xs h
    rw [py, PyData.shown]
    have h2 := tupleText_le (PyData.shownAll (pyL xs))
    show _ ≤ szWL xs + 3
    omega
  | .lst _ xs, h => by
    have := shown_les xs h
    rw [py, PyData.shown]
    have h2 := listText_le (PyData.shownAll (pyL xs))
    show _ ≤ szWL xs + 3
    omega
  | .dic _ _ _, h => by cases h
  | .kst _, h => by cases h
  | .ptr _, h => by cases h
  | .fn _, h => by cases h
  | .ins _ _, h => by cases h
  | .exc _ _, h => by cases h
theorem shown_les : ∀ ds : List D, shSL ds = true → piled (PyData.shownAll (pyL ds)) ≤ szWL ds
  | [], _ => Nat.le_refl _
  | d :: ds, h => by
    rw [shSL, Bool.and_eq_true_iff] at h
    have h1 := shown_le d h.1
    have h2 := shown_les ds h.2
    rw [pyL, PyData.shownAll, piled_cons]
    show _ ≤ szW d + 2 + szWL ds
    omega
end
theorem show_ok {d : D} (h : shS d = true) (hd : dep d ≤ 64) (hz : szW d ≤ Lim) : showOk d := by
  obtain ⟨h1, h2⟩ := shS_plain d h
  exact ⟨⟨h1, hd⟩, h2, by rw [shown_len]; exact Nat.le_trans (shown_le d h) hz⟩
end Ev

namespace Ev
open PySem
theorem len_range (a b : Int) : (rangeD a b).length = (b - a).toNat := by unfold rangeD; simp
theorem len_map {α : Type} (f : α → D) (xs : List α) : (xs.map f).length = xs.length := List.length_map ..
theorem shown_t (xs : List D) : shown (.lst true xs) = shown (.lst false xs) := (rfl)
theorem rep2 (x : D) : (List.replicate (Int.toNat 2) [x]).flatten = [x, x] := (rfl)
theorem rep3 (x : D) : (List.replicate (Int.toNat 3) [x]).flatten = [x, x, x] := (rfl)
theorem isS {α : Type} (x : α) : (some x).isSome = true := (rfl)
theorem fzL_ints (ns : List Int) : fzL (ns.map D.int) = ns.map D.int := by
  induction ns with
  | nil => rfl
  | cons n r ih => show fz (.int n) :: fzL (r.map D.int) = _; rw [ih]; rfl
theorem mm (m : Int) (n : Nat) (hm : 1 ≤ m) : ∃ u : Int, (if (if (n : Int) < m then (n : Int) else m) > 1 then if (n : Int) < m then (n : Int) else m else 1) = u ∧ 0 ≤ u ∧ u ≤ m := ⟨_, rfl, by split <;> split <;> omega, by split <;> split <;> omega⟩
theorem fzL_bls (ns : List Bool) : fzL (ns.map D.bl) = ns.map D.bl := by
  induction ns with
  | nil => rfl
  | cons n r ih => show fz (.bl n) :: fzL (r.map D.bl) = _; rw [ih]; rfl
theorem nfL_bls (ns : List Bool) : nfL (ns.map D.bl) = true := by
  induction ns with
  | nil => rfl
  | cons n r ih => exact ih
theorem all_of {bs : List Bool} (h : ∀ b ∈ bs, b = true) : bs.all id = true := List.all_eq_true.mpr h
theorem fzL_app : ∀ (a b : List D), fzL (a ++ b) = fzL a ++ fzL b
  | [], b => rfl
  | x :: a, b => by show fz x :: fzL (a ++ b) = _; rw [fzL_app a b]; rfl
theorem nfL_app : ∀ (a b : List D), nfL (a ++ b) = (nfL a && nfL b)
  | [], b => rfl
  | x :: a, b => by show (nf x && nfL (a ++ b)) = (nf x && nfL a && nfL b); rw [nfL_app a b, Bool.and_assoc]
theorem ints_app (a b : List Int) : a.map D.int ++ b.map D.int = (a ++ b).map D.int := List.map_append.symm
theorem ints_app1 (a : List Int) (x : Int) : a.map D.int ++ [D.int x] = (a ++ [x]).map D.int := by rw [List.map_append]; rfl
theorem nfL_ints (ns : List Int) : nfL (ns.map D.int) = true := by
  induction ns with
  | nil => rfl
  | cons n r ih => exact ih
theorem noPL_ints (ns : List Int) : noPL (ns.map D.int) = true := by
  induction ns with
  | nil => rfl
  | cons n r ih => exact ih
theorem plainL_ints (ns : List Int) : plainL (ns.map D.int) = true := by
  induction ns with
  | nil => rfl
  | cons n r ih => exact ih
theorem depL_ints (ns : List Int) : depL (ns.map D.int) = 0 := by
  induction ns with
  | nil => rfl
  | cons n r ih => show max 0 (depL (r.map D.int)) = 0; rw [ih]; rfl
theorem sca_ints (ns : List Int) : (ns.map D.int).all scalar = true := by
  induction ns with
  | nil => rfl
  | cons n r ih => exact ih
theorem szWL_ints (ns : List Int) : szWL (ns.map D.int) = 2002 * ns.length := by
  induction ns with
  | nil => rfl
  | cons n r ih => show 2000 + 2 + szWL (r.map D.int) = _; rw [ih, List.length_cons]; omega
theorem shSL_ints {ns : List Int} (h : ∀ n ∈ ns, n.natAbs.log2 < 1920) : shSL (ns.map D.int) = true := by
  induction ns with
  | nil => rfl
  | cons n r ih =>
    show (decide (n.natAbs.log2 < 1920) && shSL (r.map D.int)) = true
    rw [ih fun m hm => h m (List.mem_cons_of_mem _ hm), decide_eq_true (h n List.mem_cons_self)]; rfl
theorem okSs_ints (k : Nat) (ns : List Int) : okSs k (ns.map D.int) = true := by
  induction ns with
  | nil => unfold okSs; rfl
  | cons n r ih => rw [List.map_cons, okSs, ih]; cases k <;> rfl
theorem eqds_ints : ∀ (a b : List Int), eqds (a.map D.int) (b.map D.int) = (a == b)
  | [], [] => rfl
  | [], _ :: _ => rfl
  | _ :: _, [] => rfl
  | x :: a, y :: b => by
    show (x == y && eqds (a.map D.int) (b.map D.int)) = _
    rw [eqds_ints a b]; rfl
theorem show_ints {o : Bool} {ns : List Int} (h : ∀ n ∈ ns, n.natAbs.log2 < 1920) (hl : ns.length ≤ 8000) : showOk (.lst o (ns.map D.int)) := by
  refine show_ok (shSL_ints h) ?_ ?_
  · show depL (ns.map D.int) + 1 ≤ 64; rw [depL_ints]; decide
  · show szWL (ns.map D.int) + 3 ≤ Lim
    rw [szWL_ints, Lim]; omega
theorem log_lt {x : Int} {n : Nat} (h : x.natAbs < 2 ^ n) (hn : 0 < n) : x.natAbs.log2 < n := by
  by_cases hx : x.natAbs = 0
  · rw [hx]; simpa using hn
  · exact (Nat.log2_lt hx).mpr h
/-- texts -/
theorem fzL_strs (ns : List Tx) : fzL (ns.map D.str) = ns.map D.str := by
  induction ns with
  | nil => rfl
  | cons n r ih => show fz (.str n) :: fzL (r.map D.str) = _; rw [ih]; rfl
theorem nfL_strs (ns : List Tx) : nfL (ns.map D.str) = true := by
  induction ns with
  | nil => rfl
  | cons n r ih => exact ih
theorem strs_of (ns : List Tx) : strsOf (ns.map D.str) = some ns := by
  induction ns with
  | nil => rfl
  | cons n r ih => show (strsOf (r.map D.str)).map (n :: ·) = _; rw [ih]; rfl
theorem nums_of : ∀ ns : List Int, numsOf (ns.map D.int) = some ns := nums_ints
theorem bools_of (bs : List Bool) : bools (bs.map D.bl) = some bs := by
  induction bs with
  | nil => rfl
  | cons n r ih => show (bools (r.map D.bl)).map (n :: ·) = _; rw [ih]; rfl
theorem fzL_ones (x : List Nat) : fzL (x.map fun c => D.str [c]) = x.map fun c => D.str [c] := by
  induction x with
  | nil => rfl
  | cons n r ih => show fz (.str [n]) :: fzL _ = _; rw [ih]; rfl
theorem nfL_ones (x : List Nat) : nfL (x.map fun c => D.str [c]) = true := by
  induction x with
  | nil => rfl
  | cons n r ih => exact ih
theorem strs_ones (x : List Nat) : strsOf (x.map fun c => D.str [c]) = some (x.map fun c => [c]) := by
  induction x with
  | nil => rfl
  | cons n r ih => show (strsOf _).map ([n] :: ·) = _; rw [ih]; rfl
theorem sum_ones (x : List Nat) : ((x.map fun c => [c]).map List.length).sum = x.length := by
  induction x with
  | nil => rfl
  | cons n r ih => rw [List.map_cons, List.map_cons, List.sum_cons, ih]; show 1 + r.length = r.length + 1; omega
theorem join1 (x : List Nat) : joinT [] (x.map fun c => [c]) = x := by
  induction x with
  | nil => rfl
  | cons c r ih =>
    cases r with
    | nil => rfl
    | cons d r => show [c] ++ ([] ++ joinT [] ((d :: r).map fun c => [c])) = _; rw [ih]; rfl
/-- all of them True -/
theorem bools_all {ys : List D} (h : ∀ y ∈ ys, y = .bl true) : bools ys = some (List.replicate ys.length true) := by
  induction ys with
  | nil => rfl
  | cons y r ih =>
    have := h y List.mem_cons_self
    subst this
    show (bools r).map (true :: ·) = _
    rw [ih fun z hz => h z (List.mem_cons_of_mem _ hz)]; rfl
theorem all_lstT {o} {ys : List D} {K : D → Prop} (h : ∀ y ∈ ys, y = .bl true) (k : K (.bl true)) : bltW .all [.lst o ys] K := by
  rw [all_lst, bools_all h, bsW_some, all_trues]; exact k
/-- a comprehension: what stands at each turn, what each item is -/
theorem compL_inv {body : D → Env → Stt → (Option D → Env → Stt → Prop) → Prop} (Inv : Nat → Env → Stt → Prop) (P : Nat → D → Prop) : ∀ (xs : List D) (i : Nat) (env : Env) (st : Stt) (K : List D → Env → Stt → Prop),
    (∀ (j : Nat) x env st K', xs[j]? = some x → Inv (i + j) env st → (∀ d e s, P (i + j) d → Inv (i + j + 1) e s → K' (some d) e s) → body x env st K') → Inv i env st →
    (∀ ys e s, ys.length = xs.length → (∀ j y, ys[j]? = some y → P (i + j) y) → Inv (i + xs.length) e s → K ys e s) → compL body xs env st K
  | [], i, env, st, K, _, h0, h1 => h1 [] env st rfl (fun j y h => nomatch h) h0
  | x :: xs, i, env, st, K, hb, h0, h1 => by
    show body x env st _
    refine hb 0 x env st _ rfl h0 fun d e s hd he => ?_
    refine compL_inv Inv P xs (i + 1) e s _ (fun j y env st K' hy hi hk => ?_) he fun ys e s hl hp hi => ?_
    · refine hb (j + 1) y env st K' hy (by rwa [Nat.add_assoc, Nat.add_comm 1] at hi) fun d e s h1 h2 => hk d e s ?_ ?_
      · rwa [show i + 1 + j = i + (j + 1) by omega]
      · rwa [show i + 1 + j + 1 = i + (j + 1) + 1 by omega]
    · refine h1 (d :: ys) e s (by simp [hl]) (fun j y hy => ?_) (by rw [List.length_cons]; rwa [show i + (xs.length + 1) = i + 1 + xs.length by omega])
      cases j with
      | zero => cases hy; exact hd
      | succ j => have := hp j y hy; rwa [show i + 1 + j = i + (j + 1) by omega] at this
/-- the same, nothing said of places -/
theorem compL_all {body : D → Env → Stt → (Option D → Env → Stt → Prop) → Prop} (Inv : Nat → Env → Stt → Prop) (P : D → Prop) (xs : List D) (env : Env) (st : Stt) (K : List D → Env → Stt → Prop)
    (hb : ∀ (j : Nat) x env st K', xs[j]? = some x → Inv j env st → (∀ d e s, P d → Inv (j + 1) e s → K' (some d) e s) → body x env st K') (h0 : Inv 0 env st)
    (h1 : ∀ ys e s, ys.length = xs.length → (∀ y ∈ ys, P y) → Inv xs.length e s → K ys e s) : compL body xs env st K := by
  refine compL_inv Inv (fun _ d => P d) xs 0 env st K (fun j x env st K' hx hi hk => hb j x env st K' hx (by rwa [Nat.zero_add] at hi) (by rwa [Nat.zero_add] at hk)) h0 fun ys e s hl hp hi => h1 ys e s hl (fun y hy => ?_) (by rwa [Nat.zero_add] at hi)
  obtain ⟨j, hj⟩ := List.getElem?_of_mem hy
  exact hp j y hj
/-- a comprehension that computes: item by item f (none: left out), nothing else happens -/
theorem compL_fm {body : D → Env → Stt → (Option D → Env → Stt → Prop) → Prop} (f : D → Option D) {env : Env} {st : Stt} : ∀ (xs : List D) (K : List D → Env → Stt → Prop),
    (∀ x ∈ xs, ∀ K', K' (f x) env st → body x env st K') → K (xs.filterMap f) env st → compL body xs env st K
  | [], K, _, h => h
  | x :: xs, K, hb, h => by
    show body x env st _
    refine hb x List.mem_cons_self _ ?_
    rw [List.filterMap_cons] at h
    cases e : f x with
    | none => rw [e] at h; exact compL_fm f xs _ (fun y hy => hb y (List.mem_cons_of_mem _ hy)) h
    | some y => rw [e] at h; exact compL_fm f xs _ (fun z hz => hb z (List.mem_cons_of_mem _ hz)) h
theorem compL_map {body : D → Env → Stt → (Option D → Env → Stt → Prop) → Prop} (f : D → D) {env : Env} {st : Stt} (xs : List D) (K : List D → Env → Stt → Prop)
    (hb : ∀ x ∈ xs, ∀ K', K' (some (f x)) env st → body x env st K') (h : K (xs.map f) env st) : compL body xs env st K := by
  refine compL_fm (fun x => some (f x)) xs K hb ?_
  show K (List.filterMap (some ∘ f) xs) env st
  rw [List.filterMap_eq_map]; exact h
/-- a comprehension over made things, each item computed from its own -/
theorem compL_mk {α : Type} {body : D → Env → Stt → (Option D → Env → Stt → Prop) → Prop} (g : α → D) (f : α → Option D) {env : Env} {st : Stt} : ∀ (xs : List α) (K : List D → Env → Stt → Prop),
    (∀ x ∈ xs, ∀ K', K' (f x) env st → body (g x) env st K') → K (xs.filterMap f) env st → compL body (xs.map g) env st K
  | [], K, _, h => h
  | x :: xs, K, hb, h => by
    show body (g x) env st _
    refine hb x List.mem_cons_self _ ?_
    rw [List.filterMap_cons] at h
    cases e : f x with
    | none => rw [e] at h; exact compL_mk g f xs _ (fun y hy => hb y (List.mem_cons_of_mem _ hy)) h
    | some y => rw [e] at h; exact compL_mk g f xs _ (fun z hz => hb z (List.mem_cons_of_mem _ hz)) h
theorem compL_mkm {α : Type} {body : D → Env → Stt → (Option D → Env → Stt → Prop) → Prop} (g : α → D) (f : α → D) {env : Env} {st : Stt} (xs : List α) (K : List D → Env → Stt → Prop)
    (hb : ∀ x ∈ xs, ∀ K', K' (some (f x)) env st → body (g x) env st K') (h : K (xs.map f) env st) : compL body (xs.map g) env st K := by
  refine compL_mk g (fun x => some (f x)) xs K hb ?_
  show K (List.filterMap (some ∘ f) xs) env st
  rw [List.filterMap_eq_map]; exact h
/-- a loop over made things, one thing carried on -/
theorem forL_fold {α β : Type} {body : D → Env → Stt → Kn → Prop} {Q : Kn} (g : α → D) (E : β → Option D → Env) (f : β → α → β) : ∀ (xs : List α) (b : β) (o : Option D) (st : Stt),
    (∀ x ∈ xs, ∀ b o (Q' : Kn), Q'.rt = Q.rt → Q'.ex = Q.ex → (∀ o, Q'.nx (E (f b x) o) st) → body (g x) (E b o) st Q') → (∀ o, Q.nx (E (xs.foldl f b) o) st) → forL body (xs.map g) (E b o) st Q
  | [], b, o, st, _, h => h o
  | x :: xs, b, o, st, hb, h => by
    show body (g x) _ st _
    refine hb x List.mem_cons_self b o _ rfl rfl fun o => ?_
    exact forL_fold g E f xs (f b x) o st (fun y hy => hb y (List.mem_cons_of_mem _ hy)) h
theorem ex_map {α : Type} {f : α → D} {p : α → Prop} : ∀ {ys : List D}, (∀ y ∈ ys, ∃ r, y = f r ∧ p r) → ∃ ns : List α, ys = ns.map f ∧ ∀ n ∈ ns, p n
  | [], _ => ⟨[], rfl, fun _ h => nomatch h⟩
  | y :: ys, h => by
    obtain ⟨r, hr, pr⟩ := h y List.mem_cons_self
    obtain ⟨ns, hn, pn⟩ := ex_map fun z hz => h z (List.mem_cons_of_mem _ hz)
    refine ⟨r :: ns, by rw [hr, hn]; rfl, fun n hn => ?_⟩
    rcases List.mem_cons.mp hn with rfl | h
    · exact pr
    · exact pn n h
theorem cut_map {α β : Type} (f : α → β) (xs : List α) (l h : Option Int) : cut (xs.map f) l h = (cut xs l h).map f := by
  unfold cut
  rw [List.length_map, List.map_take, List.map_drop]
theorem tk_map {α β : Type} (f : α → β) (xs : List α) (n : Nat) : (xs.map f).take n = (xs.take n).map f := List.map_take.symm
theorem dr_map {α β : Type} (f : α → β) (xs : List α) (n : Nat) : (xs.map f).drop n = (xs.drop n).map f := List.map_drop.symm
theorem rv_map {α β : Type} (f : α → β) (xs : List α) : (xs.map f).reverse = (xs.reverse).map f := List.map_reverse.symm
theorem at_map {α β : Type} (f : α → β) (xs : List α) (i : Int) : atx (xs.map f) i = (atx xs i).map f := by
  unfold atx
  rw [List.length_map]
  cases ixn xs.length i with
  | none => rfl
  | some j => show (xs.map f)[j]? = (xs[j]?).map f; rw [List.getElem?_map]
theorem cut_to {α : Type} (xs : List α) (n : Nat) : cut xs none (some (n : Int)) = xs.take n := by
  unfold cut sIx
  have h : ¬ ((n : Int) < 0) := by omega
  simp only [if_neg h]
  rw [Int.toNat_natCast]
  rcases Nat.le_total n xs.length with h | h
  · simp [Nat.min_eq_left h]
  · simp [Nat.min_eq_right h, List.take_of_length_le h]
theorem cut_from {α : Type} (xs : List α) (n : Nat) : cut xs (some (n : Int)) none = xs.drop n := by
  unfold cut sIx
  have h : ¬ ((n : Int) < 0) := by omega
  simp only [if_neg h]
  rw [Int.toNat_natCast]
  rcases Nat.le_total n xs.length with h | h
  · simp [Nat.min_eq_left h, List.take_of_length_le]
  · simp [Nat.min_eq_right h, List.drop_eq_nil_of_le h]
theorem atx_lit {α : Type} (xs : List α) (n : Nat) : atx xs (@OfNat.ofNat Int n _) = xs[n]? := atx_nat xs n
theorem cut_toL {α : Type} (xs : List α) (n : Nat) : cut xs none (some (@OfNat.ofNat Int n _)) = xs.take n := cut_to xs n
theorem cut_fromL {α : Type} (xs : List α) (n : Nat) : cut xs (some (@OfNat.ofNat Int n _)) none = xs.drop n := cut_from xs n
theorem atx_l0 {α : Type} (xs : List α) : atx xs 0 = xs[0]? := atx_nat xs 0
theorem atx_l1 {α : Type} (xs : List α) : atx xs 1 = xs[1]? := atx_nat xs 1
theorem atx_l2 {α : Type} (xs : List α) : atx xs 2 = xs[2]? := atx_nat xs 2
theorem atx_l3 {α : Type} (xs : List α) : atx xs 3 = xs[3]? := atx_nat xs 3
theorem atx_l4 {α : Type} (xs : List α) : atx xs 4 = xs[4]? := atx_nat xs 4
theorem atx_l5 {α : Type} (xs : List α) : atx xs 5 = xs[5]? := atx_nat xs 5
theorem atx_l6 {α : Type} (xs : List α) : atx xs 6 = xs[6]? := atx_nat xs 6
theorem atx_l7 {α : Type} (xs : List α) : atx xs 7 = xs[7]? := atx_nat xs 7
theorem cut_t1 {α : Type} (xs : List α) : cut xs none (some 1) = xs.take 1 := cut_to xs 1
theorem cut_f1 {α : Type} (xs : List α) : cut xs (some 1) none = xs.drop 1 := cut_from xs 1
theorem cut_t2 {α : Type} (xs : List α) : cut xs none (some 2) = xs.take 2 := cut_to xs 2
theorem cut_f2 {α : Type} (xs : List α) : cut xs (some 2) none = xs.drop 2 := cut_from xs 2
theorem cut_t3 {α : Type} (xs : List α) : cut xs none (some 3) = xs.take 3 := cut_to xs 3
theorem cut_f3 {α : Type} (xs : List α) : cut xs (some 3) none = xs.drop 3 := cut_from xs 3
theorem cut_t4 {α : Type} (xs : List α) : cut xs none (some 4) = xs.take 4 := cut_to xs 4
theorem cut_f4 {α : Type} (xs : List α) : cut xs (some 4) none = xs.drop 4 := cut_from xs 4
theorem cut_t5 {α : Type} (xs : List α) : cut xs none (some 5) = xs.take 5 := cut_to xs 5
theorem cut_f5 {α : Type} (xs : List α) : cut xs (some 5) none = xs.drop 5 := cut_from xs 5
theorem at_zero {α : Type} (d : α) (r : List α) : (d :: r)[0]? = some d := (rfl)
theorem at_succ {α : Type} (d : α) (r : List α) (i : Nat) : (d :: r)[i + 1]? = r[i]? := (rfl)
def Tm (n z : Nat) (d : D) : Prop := okS n d = true ∧ shS d = true ∧ szW d ≤ z
instance (n z : Nat) (d : D) : Decidable (Tm n z d) := inferInstanceAs (Decidable (_ ∧ _ ∧ _))
mutual
theorem okS_dep : ∀ (n : Nat) (d : D), okS n d = true → dep d ≤ n
  | _, .non, _ => Nat.zero_le _
  | _, .bl _, _ => Nat.zero_le _
  | _, .int _, _ => Nat.zero_le _
  | _, .str _, _ => Nat.zero_le _
  | 0, .lst _ _, h => by cases h
  | 0, .tup _, h => by cases h
  | n + 1, .lst o xs, h => by
    simp only [okS, Bool.and_eq_true] at h
    exact Nat.succ_le_succ (okSs_dep n xs h.2)
  | n + 1, .tup xs, h => by
    simp only [okS, Bool.and_eq_true] at h
    exact Nat.succ_le_succ (okSs_dep n xs h.2)
  | _, .dic _ _ _, h => by unfold okS at h; cases h
  | _, .kst _, h => by unfold okS at h; cases h
  | _, .ptr _, h => by unfold okS at h; cases h
  | _, .fn _, h => by unfold okS at h; cases h
  | _, .ins _ _, h => by unfold okS at h; cases h
  | _, .exc _ _, h => by unfold okS at h; cases h
theorem okSs_dep : ∀ (n : Nat) (ds : List D), okSs n ds = true → depL ds ≤ n
  | _, [], _ => Nat.zero_le _
  | n, x :: xs, h => by
    simp only [okSs, Bool.and_eq_true] at h
    exact Nat.max_le.mpr ⟨okS_dep n x h.1, okSs_dep n xs h.2⟩
end
mutual
theorem okS_le : ∀ (n m : Nat) (d : D), n ≤ m → okS n d = true → okS m d = true
  | _, m, .non, _, _ => by cases m <;> rfl
  | _, m, .bl _, _, _ => by cases m <;> rfl
  | _, m, .int _, _, _ => by cases m <;> rfl
  | _, m, .str _, _, _ => by cases m <;> rfl
  | 0, _, .lst _ _, _, h => by cases h
  | 0, _, .tup _, _, h => by cases h
  | n + 1, 0, _, h, _ => absurd h (by omega)
  | n + 1, m + 1, .lst o xs, l, h => by
    simp only [okS, Bool.and_eq_true] at h ⊢
    exact ⟨h.1, okSs_le n m xs (by omega) h.2⟩
  | n + 1, m + 1, .tup xs, l, h => by
    simp only [okS, Bool.and_eq_true] at h ⊢
    exact ⟨h.1, okSs_le n m xs (by omega) h.2⟩
  | _, _, .dic _ _ _, _, h => by unfold okS at h; cases h
  | _, _, .kst _, _, h => by unfold okS at h; cases h
  | _, _, .ptr _, _, h => by unfold okS at h; cases h
  | _, _, .fn _, _, h => by unfold okS at h; cases h
  | _, _, .ins _ _, _, h => by unfold okS at h; cases h
  | _, _, .exc _ _, _, h => by unfold okS at h; cases h
theorem okSs_le : ∀ (n m : Nat) (ds : List D), n ≤ m → okSs n ds = true → okSs m ds = true
  | _, m, [], _, _ => by cases m <;> rfl
  | n, m, x :: xs, l, h => by
    simp only [okSs, Bool.and_eq_true] at h ⊢
    exact ⟨okS_le n m x l h.1, okSs_le n m xs l h.2⟩
end
theorem okSs_mem {n : Nat} : ∀ {ds : List D}, okSs n ds = true → ∀ x ∈ ds, okS n x = true
  | y :: ys, h, x, m => by
    simp only [okSs, Bool.and_eq_true] at h
    rcases List.mem_cons.mp m with rfl | m
    · exact h.1
    · exact okSs_mem h.2 x m
theorem okSs_of {n : Nat} : ∀ {ds : List D}, (∀ x ∈ ds, okS n x = true) → okSs n ds = true
  | [], _ => by cases n <;> rfl
  | y :: ys, h => by
    simp only [okSs, Bool.and_eq_true]
    exact ⟨h y List.mem_cons_self, okSs_of fun x m => h x (List.mem_cons_of_mem _ m)⟩
theorem shSL_mem : ∀ {ds : List D}, shSL ds = true → ∀ x ∈ ds, shS x = true
  | y :: ys, h, x, m => by
    rw [shSL, Bool.and_eq_true] at h
    rcases List.mem_cons.mp m with rfl | m
    · exact h.1
    · exact shSL_mem h.2 x m
theorem shSL_of : ∀ {ds : List D}, (∀ x ∈ ds, shS x = true) → shSL ds = true
  | [], _ => rfl
  | y :: ys, h => by
    rw [shSL, Bool.and_eq_true]
    exact ⟨h y List.mem_cons_self, shSL_of fun x m => h x (List.mem_cons_of_mem _ m)⟩
theorem szWL_mem : ∀ {ds : List D} {x : D}, x ∈ ds → szW x ≤ szWL ds
  | y :: ys, x, m => by
    show szW x ≤ szW y + 2 + szWL ys
    rcases List.mem_cons.mp m with rfl | m
    · omega
    · have := szWL_mem m; omega
theorem szWL_len : ∀ ds : List D, ds.length ≤ szWL ds
  | [] => Nat.le_refl _
  | y :: ys => by show ys.length + 1 ≤ szW y + 2 + szWL ys; have := szWL_len ys; omega
theorem szWL_of {z : Nat} : ∀ {ds : List D}, (∀ x ∈ ds, szW x ≤ z) → szWL ds ≤ (z + 2) * ds.length
  | [], _ => Nat.le_refl _
  | y :: ys, h => by
    show szW y + 2 + szWL ys ≤ (z + 2) * (ys.length + 1)
    have h1 := h y List.mem_cons_self
    have h2 := szWL_of fun x m => h x (List.mem_cons_of_mem y m)
    rw [Nat.mul_succ]; omega
section
variable {n z : Nat} {d : D} {xs : List D}
theorem Tm.ok (h : Tm n z d) : isOk d = true := isOk_of h.1
theorem Tm.fz (h : Tm n z d) : fz d = d := (okS_fz n d h.1).1
theorem Tm.noP (h : Tm n z d) : noP d = true := (okS_fz n d h.1).2.1
theorem Tm.nf (h : Tm n z d) : nf d = true := (okS_fz n d h.1).2.2
theorem Tm.der (h : Tm n z d) (st : Stt) : derefD st d = d := by cases d <;> first | rfl | exact nomatch h.ok
theorem Tm.shw (h : Tm n z d) (hn : n ≤ 64) (hz : z ≤ Lim) : showOk d := show_ok h.2.1 (Nat.le_trans (okS_dep n d h.1) hn) (Nat.le_trans h.2.2 hz)
theorem Tm.mono {m y : Nat} (h : Tm n z d) (l : n ≤ m) (k : z ≤ y) : Tm m y d := ⟨okS_le n m d l h.1, h.2.1, Nat.le_trans h.2.2 k⟩
theorem Tm.itemT (h : Tm (n + 1) z (.tup xs)) : ∀ x ∈ xs, Tm n z x := fun x m => by
  obtain ⟨h1, h2, h3⟩ := h
  simp only [okS, Bool.and_eq_true] at h1
  have := szWL_mem m
  exact ⟨okSs_mem h1.2 x m, shSL_mem (ds := xs) h2 x m, by have h3 : szWL xs + 3 ≤ z := h3; omega⟩
theorem Tm.itemL {o : Bool} (h : Tm (n + 1) z (.lst o xs)) : ∀ x ∈ xs, Tm n z x := fun x m => by
  obtain ⟨h1, h2, h3⟩ := h
  simp only [okS, Bool.and_eq_true] at h1
  have := szWL_mem m
  exact ⟨okSs_mem h1.2 x m, shSL_mem (ds := xs) h2 x m, by have h3 : szWL xs + 3 ≤ z := h3; omega⟩
theorem Tm.lenT (h : Tm n z (.tup xs)) : xs.length ≤ z := by have h3 : szWL xs + 3 ≤ z := h.2.2; have := szWL_len xs; omega
theorem Tm.lenL {o : Bool} (h : Tm n z (.lst o xs)) : xs.length ≤ z := by have h3 : szWL xs + 3 ≤ z := h.2.2; have := szWL_len xs; omega
theorem Tm.lenS {x : Tx} (h : Tm n z (.str x)) : x.length ≤ z := by have h3 : 10 * x.length + 2 ≤ z := h.2.2; omega
theorem Tm.tup {L : Nat} (h : ∀ x ∈ xs, Tm n z x) (hl : xs.length ≤ L) (hL : L ≤ Lim) : Tm (n + 1) ((z + 2) * L + 3) (.tup xs) := by
  refine ⟨?_, shSL_of (ds := xs) fun x m => (h x m).2.1, ?_⟩
  · simp only [okS, Bool.and_eq_true, decide_eq_true_eq]
    exact ⟨by omega, okSs_of fun x m => (h x m).1⟩
  · have := szWL_of fun x m => (h x m).2.2
    show szWL xs + 3 ≤ _
    have := Nat.mul_le_mul_left (z + 2) hl
    omega
theorem Tm.lst {L : Nat} (h : ∀ x ∈ xs, Tm n z x) (hl : xs.length ≤ L) (hL : L ≤ Lim) : Tm (n + 1) ((z + 2) * L + 3) (.lst false xs) := by
  refine ⟨?_, shSL_of (ds := xs) fun x m => (h x m).2.1, ?_⟩
  · simp only [okS, Bool.and_eq_true, decide_eq_true_eq, Bool.not_false]
    exact ⟨⟨trivial, by omega⟩, okSs_of fun x m => (h x m).1⟩
  · have := szWL_of fun x m => (h x m).2.2
    show szWL xs + 3 ≤ _
    have := Nat.mul_le_mul_left (z + 2) hl
    omega
theorem fzL_tm (h : ∀ x ∈ xs, Tm n z x) : fzL xs = xs := by
  induction xs with
  | nil => rfl
  | cons x r ih => show fz x :: fzL r = _; rw [(h x List.mem_cons_self).fz, ih fun y m => h y (List.mem_cons_of_mem _ m)]
theorem nfL_tm (h : ∀ x ∈ xs, Tm n z x) : nfL xs = true := by
  induction xs with
  | nil => rfl
  | cons x r ih => show (Ev.nf x && nfL r) = true; rw [(h x List.mem_cons_self).nf, ih fun y m => h y (List.mem_cons_of_mem _ m)]; rfl
theorem Tm.int {i : Int} (h : i.natAbs.log2 < 1920) (hz : 2000 ≤ z) : Tm n z (.int i) := ⟨by cases n <;> rfl, decide_eq_true h, hz⟩
theorem Tm.str {x : Tx} (h : (x.all fun c => decide (c < 1114112)) = true) (hz : 10 * x.length + 2 ≤ z) : Tm n z (.str x) := ⟨by cases n <;> rfl, h, hz⟩
/-- all of a list, by reckoning -/
theorem tm_all (h : (xs.all fun d => decide (Tm n z d)) = true) : ∀ d ∈ xs, Tm n z d := fun d m => of_decide_eq_true (List.all_eq_true.mp h d m)
end
theorem all_pick {p : D → Prop} [DecidablePred p] {xs : List D} (h : (xs.all fun d => decide (p d)) = true) : ∀ d ∈ xs, p d := fun d m => of_decide_eq_true (List.all_eq_true.mp h d m)
/-- a test of known answer, with nothing on its else -/
theorem if_dec {P : List Fn} {n : Nat} {t : IE} {a r : List IS} {env : Env} {st : Stt} {Q : Kn} (B : Bool) (E : Env) (S : Stt) (h : wT (wC P n) t env st (fun b e s => b = B ∧ e = E ∧ s = S) fun _ _ _ => False)
    (kt : B = true → wSs (wC P n) a E S { Q with nx := fun e s => wSs (wC P n) r e s Q }) (kf : B = false → wSs (wC P n) r E S Q) : wSs (wC P n) (.ite t a [] :: r) env st Q := by
  rw [wSs_cons]
  show wT (wC P n) t env st (fun c e s => if c = true then wSs (wC P n) a e s _ else wSs (wC P n) [] e s _) _
  refine wT_mo (wC_mono n) t env st _ _ _ _ (fun b e s h => ?_) (fun _ _ _ h => h.elim) h
  obtain ⟨rfl, rfl, rfl⟩ := h
  cases b with
  | true => exact kt rfl
  | false => exact kf rfl
theorem fx_0_0 : fldIx 0 0 = some 0 := (rfl)
theorem fx_0_1 : fldIx 0 1 = some 1 := (rfl)
theorem fx_1_2 : fldIx 1 2 = some 0 := (rfl)
theorem fx_1_3 : fldIx 1 3 = some 1 := (rfl)
theorem fx_1_4 : fldIx 1 4 = some 2 := (rfl)
theorem fx_1_5 : fldIx 1 5 = some 3 := (rfl)
theorem fx_2_6 : fldIx 2 6 = some 0 := (rfl)
theorem fx_2_7 : fldIx 2 7 = some 1 := (rfl)
theorem fx_2_8 : fldIx 2 8 = some 2 := (rfl)
theorem fx_2_9 : fldIx 2 9 = some 3 := (rfl)
theorem fx_2_10 : fldIx 2 10 = some 4 := (rfl)
theorem fx_2_11 : fldIx 2 11 = some 5 := (rfl)
theorem fx_2_12 : fldIx 2 12 = some 6 := (rfl)
theorem fx_2_14 : fldIx 2 14 = some 7 := (rfl)
theorem fx_2_13 : fldIx 2 13 = some 8 := (rfl)
theorem fx_2_15 : fldIx 2 15 = some 9 := (rfl)
theorem fx_2_16 : fldIx 2 16 = some 10 := (rfl)
theorem fx_3_7 : fldIx 3 7 = some 0 := (rfl)
theorem fx_3_8 : fldIx 3 8 = some 1 := (rfl)
theorem fx_3_9 : fldIx 3 9 = some 2 := (rfl)
theorem fx_3_10 : fldIx 3 10 = some 3 := (rfl)
theorem fx_3_17 : fldIx 3 17 = some 4 := (rfl)
theorem fx_3_11 : fldIx 3 11 = some 5 := (rfl)
theorem fx_3_18 : fldIx 3 18 = some 6 := (rfl)
theorem fx_3_19 : fldIx 3 19 = some 7 := (rfl)
theorem fx_3_20 : fldIx 3 20 = some 8 := (rfl)
theorem fx_4_21 : fldIx 4 21 = some 0 := (rfl)
theorem fx_4_22 : fldIx 4 22 = some 1 := (rfl)
theorem fx_4_23 : fldIx 4 23 = some 2 := (rfl)
theorem fx_4_24 : fldIx 4 24 = some 3 := (rfl)
theorem fx_4_25 : fldIx 4 25 = some 4 := (rfl)
theorem fx_4_26 : fldIx 4 26 = some 5 := (rfl)
theorem fx_4_27 : fldIx 4 27 = some 6 := (rfl)
theorem fx_5_28 : fldIx 5 28 = some 0 := (rfl)
theorem fx_5_29 : fldIx 5 29 = some 1 := (rfl)
theorem fx_5_30 : fldIx 5 30 = some 2 := (rfl)
theorem fx_5_31 : fldIx 5 31 = some 3 := (rfl)
theorem fx_6_32 : fldIx 6 32 = some 0 := (rfl)
theorem fx_6_33 : fldIx 6 33 = some 1 := (rfl)
theorem fx_6_34 : fldIx 6 34 = some 2 := (rfl)
theorem fx_7_15 : fldIx 7 15 = some 0 := (rfl)
theorem fx_7_35 : fldIx 7 35 = some 1 := (rfl)
theorem init_go {tab : List Fn} {k i c np ns : Nat} {b : List IS} {ds : List D} {st : Stt} {K : D → Stt → Prop} {X : Exn → Stt → Prop} (h : tab[i]? = some (.init c np ns b)) (hl : ds.length = np)
    (w : wSs (wC tab k) b (some (.ptr st.length) :: (ds.map some ++ List.replicate (ns - np - 1) none)) (st ++ [.obj c []]) ⟨fun _ s => iniW c st.length s K, fun _ _ => False, fun _ _ => False, fun _ _ => False, fun e _ s => X e s⟩) : wC tab (k + 2) i ds st K X := by
  unfold wC
  rw [h]
  exact ⟨hl, w⟩
theorem last_at (st : Stt) (x : Cell) : (st ++ [x])[st.length]? = some x := by
  rw [List.getElem?_append_right (Nat.le_refl _), Nat.sub_self]; rfl
theorem set_last (st : Stt) (x y : Cell) : (st ++ [x]).set st.length y = st ++ [y] := by
  rw [List.set_append_right _ _ (Nat.le_refl _), Nat.sub_self]; rfl
theorem put_last (st : Stt) (c n : Nat) (fs : List D) (d : D) (K : Stt → Prop) : putW (st ++ [.obj c fs]) (.ptr st.length) n d K = natW (fldIx c n) fun i => if i < fs.length then K (st ++ [.obj c (fs.set i d)]) else if i = fs.length then K (st ++ [.obj c (fs ++ [d])]) else False := by
  unfold putW
  simp only [last_at, set_last]
theorem ini_last {st : Stt} {c : Nat} {fs : List D} {K : D → Stt → Prop} (hl : fs.length = (fldsOf c).length) (hz : frzOf c = true) (k : K (.ins c (fzL fs)) (st ++ [.gone])) : iniW c st.length (st ++ [.obj c fs]) K := by
  unfold iniW
  simp only [last_at, set_last]
  exact ⟨⟨trivial, hl⟩, by rw [if_pos hz]; exact k⟩
theorem Bud.app {st : Stt} {b c : Nat} (h : Bud st b c) (xs : Stt) (hx : xs.all boxB = true := by first | rfl | assumption) : Bud (st ++ xs) b c := by
  obtain ⟨⟨m, h1, h2⟩, h3⟩ := h
  exact ⟨⟨m, by rw [List.getElem?_append_left (List.getElem?_eq_some_iff.mp h1).1]; exact h1, h2⟩, all_appB h3 hx⟩
theorem tb_miss {c c' f : Nat} {pm : List Ar} {r : List (Nat × Nat × List Ar)} {K : Nat → List Ar → Prop} (h : (c == c') = false) : tbW ((c', f, pm) :: r) c K = tbW r c K := by
  unfold tbW
  rw [List.lookup_cons, h]
mutual
theorem eqd_self : ∀ d : D, plain d = true → eqd d d = true
  | .non, _ => rfl
  | .bl b, _ => by simp [eqd]
  | .int i, _ => by simp [eqd]
  | .str x, _ => by simp [eqd]
  | .lst _ xs, h => by rw [eqd]; exact eqds_self xs (by rw [plain] at h; exact h)
  | .tup xs, h => by rw [eqd]; exact eqds_self xs (by rw [plain] at h; exact h)
  | .dic _ _ _, h => by cases h
  | .kst _, h => by cases h
  | .ptr _, h => by cases h
  | .fn _, h => by cases h
  | .ins _ _, h => by cases h
  | .exc _ _, h => by cases h
theorem eqds_self : ∀ ds : List D, plainL ds = true → eqds ds ds = true
  | [], _ => rfl
  | d :: ds, h => by
    rw [plainL, Bool.and_eq_true] at h
    rw [eqds, eqd_self d h.1, eqds_self ds h.2]; rfl
end
def leP (p q : Int × Int) : Bool := decide (p.1 < q.1 ∨ (p.1 = q.1 ∧ p.2 ≤ q.2))
abbrev prD2 (p : Int × Int) : D := .tup [.int p.1, .int p.2]
theorem srt_ints (ns : List Int) (K : List D → Prop) : srtW (ns.map D.int) K = K ((sortI ns).map D.int) := by
  unfold srtW; rw [nums_of]
theorem pyL_map (ds : List D) : pyL ds = ds.map py := by
  induction ds with
  | nil => rfl
  | cons d ds ih => rw [pyL, ih]; rfl
theorem srt_pairs (ps : List (Int × Int)) {K : List D → Prop} (h : K ((ps.mergeSort leP).map prD2)) : srtW (ps.map prD2) K := by
  cases ps with
  | nil => simpa [srtW, numsOf, sortI] using h
  | cons p r =>
    have hp : ∀ l : List (Int × Int), plainL (l.map prD2) = true ∧ depL (l.map prD2) ≤ 1 ∧ nfL (l.map prD2) = true := fun l => by
      induction l with
      | nil => exact ⟨rfl, Nat.zero_le _, rfl⟩
      | cons x l ih => exact ⟨by rw [List.map_cons, plainL, ih.1]; rfl, by rw [List.map_cons, depL]; exact Nat.max_le.mpr ⟨Nat.le_refl 1, ih.2.1⟩, by rw [List.map_cons, nfL, ih.2.2]; rfl⟩
    have e : pyL ((p :: r).map prD2) = (p :: r).map fun q : Int × Int => PyData.tuple [.int q.1, .int q.2] := by rw [pyL_map, List.map_map]; rfl
    unfold srtW
    rw [show numsOf ((p :: r).map prD2) = none from rfl]
    refine ⟨⟨⟨⟨(hp _).1, Nat.le_trans (hp _).2.1 (by decide)⟩, by rw [e]; exact PySem.W.AllAlike.of (enc := fun q : Int × Int => PyData.tuple [.int q.1, .int q.2]) fun _ _ => rfl, by rw [e]; exact PySem.W.Sortable.tuples (enc := fun q : Int × Int => PyData.tuple [.int q.1, .int q.2]) fun _ => ⟨_, _, rfl⟩⟩, (hp _).2.2⟩, ?_⟩
    rw [← List.map_mergeSort (f := prD2) (r := leP) (s := leD) (fun a _ b _ => by
      show leP a b = PySem.W.dataLe false (fun q : Int × Int => PyData.tuple [.int q.1, .int q.2]) a b
      rw [PySem.W.dataLe_ii]; rfl)]
    exact h
theorem srt_strs (ss : List Tx) (hs : ∀ x ∈ ss, (x.all fun c => decide (c < 1114112)) = true) {K : List D → Prop} (h : K ((ss.mergeSort leT).map D.str)) : srtW (ss.map D.str) K := by
  cases ss with
  | nil => simpa [srtW, numsOf, sortI] using h
  | cons p r =>
    have hp : ∀ l : List Tx, (∀ x ∈ l, (x.all fun c => decide (c < 1114112)) = true) → plainL (l.map D.str) = true ∧ depL (l.map D.str) ≤ 0 ∧ nfL (l.map D.str) = true := fun l => by
      induction l with
      | nil => intro _; exact ⟨rfl, Nat.zero_le _, rfl⟩
      | cons x l ih =>
        intro hl
        have ih := ih fun y m => hl y (List.mem_cons_of_mem _ m)
        exact ⟨by rw [List.map_cons, plainL, ih.1, show plain (.str x) = x.all fun c => decide (c < 1114112) from rfl, hl x List.mem_cons_self]; rfl, by rw [List.map_cons, depL]; exact Nat.max_le.mpr ⟨Nat.le_refl 0, ih.2.1⟩, by rw [List.map_cons, nfL, ih.2.2]; rfl⟩
    have e : pyL ((p :: r).map D.str) = (p :: r).map fun q : Tx => PyData.str ⟨q.toArray⟩ := by rw [pyL_map, List.map_map]; rfl
    have hpr := hp _ hs
    unfold srtW
    rw [show numsOf ((p :: r).map D.str) = none from rfl]
    refine ⟨⟨⟨⟨hpr.1, Nat.le_trans hpr.2.1 (by decide)⟩, by rw [e]; exact PySem.W.AllAlike.of (enc := fun q : Tx => PyData.str ⟨q.toArray⟩) fun _ _ => rfl, by rw [e]; exact PySem.W.Sortable.others (enc := fun q : Tx => PyData.str ⟨q.toArray⟩) fun _ => ⟨fun h => (nomatch h), fun _ h => (nomatch h)⟩⟩, hpr.2.2⟩, ?_⟩
    rw [← List.map_mergeSort (f := D.str) (r := leT) (s := leD) (fun a _ b _ => by
      show leT a b = PySem.W.dataLe false (fun q : Tx => PyData.str ⟨q.toArray⟩) a b
      rw [PySem.W.dataLe_str]; rfl)]
    exact h
theorem srtP_is {xs ys : List (Int × Int)} (p : ys.Perm xs) (h : ys.Pairwise fun a b => leP a b = true) : xs.mergeSort leP = ys := by
  refine List.Perm.eq_of_pairwise (le := fun a b => leP a b = true) (fun a b _ _ h1 h2 => ?_) (List.pairwise_mergeSort (fun a b c h1 h2 => ?_) (fun a b => ?_) _) h ((List.mergeSort_perm _ _).trans p.symm)
  · unfold leP at h1 h2
    rw [decide_eq_true_eq] at h1 h2
    exact Prod.ext (by omega) (by omega)
  · unfold leP at h1 h2 ⊢
    rw [decide_eq_true_eq] at h1 h2 ⊢
    omega
  · unfold leP
    rw [Bool.or_eq_true, decide_eq_true_eq, decide_eq_true_eq]
    omega
end Ev

namespace LK
open PySem PySem.Spec PyProof.Rows L2 Ev
def top (i : Nat) : Stmt := PySem.Challenge.pw_startlog_k25_rows_that_no_board_tells_ap.main.body.getD i (.Pass ⟨0, 0, 0, 0⟩)
def N0 : List Str := ["k"]
def P0 : List Str := ["k"]
def N1 : List Str := ["mixing", "some", "pairs", "other", "place", "pair"]
def P1 : List Str := ["mixing", "some"]
def N2 : List Str := ["name", "found", "letter"]
def P2 : List Str := ["name"]
def N3 : List Str := ["row", "board", "word", "name", "note"]
def P3 : List Str := ["row"]
def N4 : List Str := ["thing", "least", "most"]
def P4 : List Str := ["thing", "least", "most"]
def N5 : List Str := ["one", "other"]
def P5 : List Str := ["one", "other"]
def N6 : List Str := ["width", "factor", "parts"]
def P6 : List Str := ["width", "factor"]
def N7 : List Str := ["_law_script", "_law_k", "_law_cell"]
def P7 : List Str := ["_law_script", "_law_k"]
def N8 : List Str := ["_law_box_here", "_law_size", "_law_found", "_law_once"]
def P8 : List Str := ["_law_box_here", "_law_size"]
def N9 : List Str := ["_law_box_here", "_law_things"]
def P9 : List Str := ["_law_box_here", "_law_things"]
def N10 : List Str := ["_law_box_here", "_law_size", "_law_letters", "_law_begun", "_law_by", "_law_tail", "_law_k", "_law_at"]
def P10 : List Str := ["_law_box_here", "_law_size"]
def N11 : List Str := ["_law_found", "_law_due_here", "_law_one", "_law_two"]
def P11 : List Str := ["_law_found", "_law_due_here"]
def N12 : List Str := ["_law_name", "_law_found", "_law_sign"]
def P12 : List Str := ["_law_name"]
def N13 : List Str := ["_law_row_here", "_law_place"]
def P13 : List Str := ["_law_row_here"]
def N14 : List Str := ["_law_one", "_law_two", "_law_turn"]
def P14 : List Str := ["_law_one", "_law_two"]
def N15 : List Str := ["_law_box_here", "_law_way", "_law_width", "_law_by"]
def P15 : List Str := ["_law_box_here"]
def N16 : List Str := ["_law_box_here"]
def P16 : List Str := ["_law_box_here"]
def N17 : List Str := ["_law_box_here", "_law_names_here", "_law_word", "_law_size", "_law_note_here"]
def P17 : List Str := ["_law_box_here", "_law_names_here", "_law_word", "_law_size"]
def N18 : List Str := ["_law_box_here", "_law_how_here", "_law_rows", "_law_names_here", "_law_row_here", "_law_one"]
def P18 : List Str := ["_law_box_here", "_law_how_here", "_law_rows"]
def N19 : List Str := ["_law_how_here", "_law_rows", "_law_numbers", "_law_found", "_law_row_here", "_law_place", "_law_other", "_law_apart"]
def P19 : List Str := ["_law_how_here", "_law_rows"]
def N20 : List Str := ["_law_box_here", "_law_how_here", "_law_rows", "_law_turn", "_law_row_here", "_law_one", "_law_due_here", "_law_handed", "_law_stays", "_law_found", "_law_value", "_law_place", "_law_other"]
def P20 : List Str := ["_law_box_here"]
def N21 : List Str := ["_law_script", "_law_k", "_law_box_here", "_law_turn"]
def P21 : List Str := ["_law_script"]
def clsB : Stmt → List Stmt
  | .ClassDef _ _ _ b _ _ _ _ _ _ _ => b
  | _ => []
def mth (i q : Nat) : Stmt := (clsB (top i)).getD q (.Pass ⟨0, 0, 0, 0⟩)
def N22 : List Str := ["self", "width", "factor"]
def P22 : List Str := ["self", "width", "factor"]
def N23 : List Str := ["self", "reset"]
def P23 : List Str := ["self", "reset"]
def N24 : List Str := ["self", "value", "row"]
def P24 : List Str := ["self", "value", "row"]
def N25 : List Str := ["self", "value", "row"]
def P25 : List Str := ["self", "value", "row"]
def N26 : List Str := ["self", "row", "other", "parted"]
def P26 : List Str := ["self", "row", "other"]
def GG : GC where
  fns := [⟨"_wall", 1, false, false, [⟨1, [], [.ix 0]⟩]⟩,
    ⟨"hidden", 2, false, false, [⟨2, [], [.ix 0, .ix 1]⟩, ⟨0, ["some", "mixing"], [.ix 1, .ix 0]⟩]⟩,
    ⟨"name_number", 1, false, false, [⟨1, [], [.ix 0]⟩]⟩,
    ⟨"row_number", 1, false, false, [⟨1, [], [.ix 0]⟩]⟩,
    ⟨"is_between", 3, false, false, [⟨3, [], [.ix 0, .ix 1, .ix 2]⟩]⟩,
    ⟨"divisor_of", 2, false, false, [⟨2, [], [.ix 0, .ix 1]⟩]⟩,
    ⟨"parts_text", 2, false, false, []⟩,
    ⟨"_law_box", 2, false, false, [⟨2, [], [.ix 0, .ix 1]⟩]⟩,
    ⟨"_law_take", 2, false, false, [⟨2, [], [.ix 0, .ix 1]⟩]⟩,
    ⟨"_law_pick", 2, false, false, [⟨2, [], [.ix 0, .ix 1]⟩]⟩,
    ⟨"_law_names", 2, false, false, [⟨2, [], [.ix 0, .ix 1]⟩]⟩,
    ⟨"_law_same", 2, true, false, [⟨2, [], [.ix 0, .ix 1]⟩]⟩,
    ⟨"_law_name_number", 1, false, false, [⟨1, [], [.ix 0]⟩]⟩,
    ⟨"_law_row_number", 1, false, false, [⟨1, [], [.ix 0]⟩]⟩,
    ⟨"_law_shares", 2, false, false, [⟨2, [], [.ix 0, .ix 1]⟩]⟩,
    ⟨"_law_how", 1, false, false, [⟨1, [], [.ix 0]⟩]⟩,
    ⟨"_law_note", 1, false, false, [⟨1, [], [.ix 0]⟩]⟩,
    ⟨"_law_row", 4, false, false, [⟨4, [], [.ix 0, .ix 1, .ix 2, .ix 3]⟩]⟩,
    ⟨"_law_more", 3, false, true, [⟨3, [], [.ix 0, .ix 1, .ix 2]⟩]⟩,
    ⟨"_law_due", 2, false, false, [⟨2, [], [.ix 0, .ix 1]⟩]⟩,
    ⟨"_law_right", 1, false, false, [⟨1, [], [.ix 0]⟩]⟩,
    ⟨"law", 1, false, false, []⟩]
  cons := [("LETTERS", (.str [97, 98, 99, 100, 101, 102, 103, 104, 105, 106, 107, 108, 109, 110, 111, 112, 113, 114, 115, 116, 117, 118, 119, 120, 121, 122])), ("BASE", (.int 27)), ("WORDS", (.tup [(.str [108, 111, 97, 100]), (.str [115, 101, 116]), (.str [101, 110, 100]), (.str [108, 97, 116, 101]), (.str [114, 101, 115, 101, 116])])), ("NOTES", (.int 9973)), ("SPAN", (.int 26500305465)), ("FACTOR", (.int 7919)), ("LEAST_WIDTH", (.int 3)), ("MOST", (.int 1000000))]
  bl := ["ValueError", "abs", "all", "bool", "int", "isinstance", "len", "list", "min", "range", "repr", "sorted", "str", "tuple", "zip"]
  meths := [⟨"begin", 0, 23, 2, []⟩, ⟨"mixed", 0, 24, 3, [⟨2, [], [.ix 0, .ix 1, .ix 2]⟩]⟩, ⟨"unmixed", 0, 25, 3, []⟩, ⟨"alike", 0, 26, 3, [⟨2, [], [.ix 0, .ix 1, .ix 2]⟩]⟩]
  mks := [⟨"Mixing", 0, 22, 2, [⟨1, ["factor"], [.ix 0, .ix 1]⟩]⟩]
  excs := [3]
  vw := ["found", "_law_found"]
  fr := ["_law_logs"]
abbrev i__wall : Nat := 0
abbrev i_hidden : Nat := 1
abbrev i_name_number : Nat := 2
abbrev i_row_number : Nat := 3
abbrev i_is_between : Nat := 4
abbrev i_divisor_of : Nat := 5
abbrev i_parts_text : Nat := 6
abbrev i__law_box : Nat := 7
abbrev i__law_take : Nat := 8
abbrev i__law_pick : Nat := 9
abbrev i__law_names : Nat := 10
abbrev i__law_same : Nat := 11
abbrev i__law_name_number : Nat := 12
abbrev i__law_row_number : Nat := 13
abbrev i__law_shares : Nat := 14
abbrev i__law_how : Nat := 15
abbrev i__law_note : Nat := 16
abbrev i__law_row__2 : Nat := 17
abbrev i__law_more : Nat := 18
abbrev i__law_due__7 : Nat := 19
abbrev i__law_right__15 : Nat := 20
abbrev i_law__24 : Nat := 21
abbrev i_Mixing___init__ : Nat := 22
abbrev i_Mixing_begin__2 : Nat := 23
abbrev i_Mixing_mixed__2 : Nat := 24
abbrev i_Mixing_unmixed : Nat := 25
abbrev i_Mixing_alike__3 : Nat := 26
def B__wall_1 : IE := (.con (.bl true))
def B__wall_2 : List IS := [.pass]
def B__wall : List IS := [.while_ B__wall_1 B__wall_2]
def B_hidden_1 : IE := (.tup [(.var 4), (.var 3)])
def B_hidden_2 : List IE := [(.meth [(0, i_Mixing_alike__3, [.ix 0, .ix 1, .ix 2])] (.var 0) [(.idx (.var 1) (.idx (.var 5) (.con (.int 0)))), (.idx (.var 1) (.idx (.var 5) (.con (.int 1))))] [])]
def B_hidden_3 : IE := (.var 5)
def B_hidden : List IS := [.asg (.nm 2) (.comp2 .rng [(.blt .len [(.var 1)])] (.nm 3) [] .rng [(.var 3)] (.nm 4) [] B_hidden_1 [3, 4] [4]), .ret (.blt .sorted [(.comp .seq [(.var 2)] (.nm 5) B_hidden_2 B_hidden_3 [5])])]
def B_name_number_1 : List IS := [.asg (.nm 1) (.op .add (.op .add (.op .mul (.var 1) (.con (.int 27))) (.mr .index (.con (.str [97, 98, 99, 100, 101, 102, 103, 104, 105, 106, 107, 108, 109, 110, 111, 112, 113, 114, 115, 116, 117, 118, 119, 120, 121, 122])) [(.var 2)])) (.con (.int 1)))]
def B_name_number : List IS := [.asg (.nm 1) (.con (.int 0)), .for_ .seq [(.var 0)] (.nm 2) B_name_number_1, .ret (.var 1)]
def B_row_number : List IS := [.asg (.tup [(.nm 1), (.nm 2), (.nm 3), (.nm 4)]) (.var 0), .ret (.op .add (.op .mul (.op .add (.op .mul (.call i_name_number [(.var 3)] [] [.ix 0]) (.blt .len [(.con (.tup [(.str [108, 111, 97, 100]), (.str [115, 101, 116]), (.str [101, 110, 100]), (.str [108, 97, 116, 101]), (.str [114, 101, 115, 101, 116])]))])) (.mr .indexT (.con (.tup [(.str [108, 111, 97, 100]), (.str [115, 101, 116]), (.str [101, 110, 100]), (.str [108, 97, 116, 101]), (.str [114, 101, 115, 101, 116])])) [(.var 2)])) (.con (.int 9973))) (.var 4))]
def B_is_between : List IS := [.ret (.and_ (.blt (.isi [.int]) [(.var 0)]) (.and_ (.not_ (.blt (.isi [.bool]) [(.var 0)])) (.chain .le .le (.var 1) (.var 0) (.var 2))))]
def B_divisor_of_1 : IE := (.cmp .gt (.var 1) (.con (.int 0)))
def B_divisor_of_2 : List IS := [.asg (.tup [(.nm 0), (.nm 1)]) (.tup [(.var 1), (.op .mod (.var 0) (.var 1))])]
def B_divisor_of : List IS := [.while_ B_divisor_of_1 B_divisor_of_2, .ret (.var 0)]
def B_parts_text : List IS := [.asg (.nm 2) (.ite (.cmp .is_ (.var 0) (.con .non)) (.lst []) (.lst [(.blt .str1 [(.var 0)])])), .ite (.cmp .ne (.var 1) (.con (.int 7919))) [.bad] [], .ret (.mr .join (.con (.str [44, 32])) [(.var 2)])]
def B__law_box : List IS := [.asg (.nm 2) (.con (.int 0)), .ite (.cmp .lt (.var 1) (.blt .len [(.var 0)])) [.asg (.nm 2) (.idx (.var 0) (.var 1))] [], .ret (.lst [(.op .mul (.blt .abs [(.var 2)]) (.blt .int1 [(.cmp .ge (.blt .abs [(.var 2)]) (.op .pow (.con (.int 10)) (.con (.int 18))))])), (.op .add (.op .add (.op .mod (.var 2) (.con (.int 2147483629))) (.op .mul (.con (.int 7919)) (.var 1))) (.con (.int 11))), (.con (.int 0))])]
def B__law_take : List IS := [.ite (.cmp .gt (.idx (.var 0) (.con (.int 0))) (.con (.int 0))) [.asg (.nm 2) (.op .mod (.idx (.var 0) (.con (.int 0))) (.var 1)), .setIx (.var 0) (.con (.int 0)) (.op .fdiv (.idx (.var 0) (.con (.int 0))) (.var 1)), .ret (.var 2)] [], .setIx (.var 0) (.con (.int 2)) (.op .add (.idx (.var 0) (.con (.int 2))) (.con (.int 1))), .asg (.nm 3) (.op .mod (.op .pow (.op .add (.idx (.var 0) (.con (.int 1))) (.op .mul (.con (.int 39373)) (.idx (.var 0) (.con (.int 2))))) (.con (.int 5))) (.con (.int 2147483647))), .ret (.op .mod (.op .fdiv (.op .mod (.op .add (.op .mul (.var 3) (.op .add (.op .mod (.var 3) (.con (.int 40009))) (.con (.int 7)))) (.op .mul (.idx (.var 0) (.con (.int 2))) (.con (.int 7919)))) (.con (.int 2147483629))) (.con (.int 64))) (.var 1))]
def B__law_pick : List IS := [.ret (.idx (.var 1) (.call i__law_take [(.var 0), (.blt .len [(.var 1)])] [] [.ix 0, .ix 1]))]
def B__law_names_1 : IE := (.idx (.var 2) (.call i__law_take [(.var 0), (.con (.int 26))] [] [.ix 0, .ix 1]))
def B__law_names_2 : IE := (.op .add (.op .add (.slc (.var 5) none (some (.var 7))) (.idx (.var 2) (.op .mod (.op .add (.var 3) (.op .mul (.var 4) (.var 6))) (.con (.int 26))))) (.slc (.var 5) (some (.var 7)) none))
def B__law_names : List IS := [.asg (.tup [(.nm 2), (.nm 3), (.nm 4)]) (.tup [(.con (.str [97, 98, 99, 100, 101, 102, 103, 104, 105, 106, 107, 108, 109, 110, 111, 112, 113, 114, 115, 116, 117, 118, 119, 120, 121, 122])), (.call i__law_take [(.var 0), (.con (.int 26))] [] [.ix 0, .ix 1]), (.idx (.lst [(.con (.int 1)), (.con (.int 3)), (.con (.int 7)), (.con (.int 25))]) (.call i__law_take [(.var 0), (.con (.int 4))] [] [.ix 0, .ix 1]))]), .asg (.nm 5) (.mr .join (.con (.str [])) [(.comp .rng [(.call i__law_take [(.var 0), (.con (.int 4))] [] [.ix 0, .ix 1])] (.nm 6) [] B__law_names_1 [6])]), .asg (.nm 7) (.call i__law_take [(.var 0), (.op .add (.blt .len [(.var 5)]) (.con (.int 1)))] [] [.ix 0, .ix 1]), .ret (.comp .rng [(.var 1)] (.nm 6) [] B__law_names_2 [6])]
def B__law_same_1 : IE := (.callP i__law_same [(.var 2), (.var 3)] [] [.ix 0, .ix 1])
def B__law_same : List IS := [.ite (.blt (.isi [.list, .tuple]) [(.var 1)]) [.ite (.or_ (.cmp .ne (.blt (.isi [.list]) [(.var 0)]) (.blt (.isi [.list]) [(.var 1)])) (.cmp .ne (.blt (.isi [.tuple]) [(.var 0)]) (.blt (.isi [.tuple]) [(.var 1)]))) [.ret (.con (.bl false))] [], .ite (.cmp .ne (.blt .len [(.var 0)]) (.blt .len [(.var 1)])) [.ret (.con (.bl false))] [], .ret (.blt .all [(.comp .zip [(.var 0), (.var 1)] (.tup [(.nm 2), (.nm 3)]) [] B__law_same_1 [2, 3])])] [], .ite (.or_ (.cmp .is_ (.var 1) (.con .non)) (.blt (.isi [.str]) [(.var 1)])) [.ret (.and_ (.cmp .eq (.var 0) (.var 1)) (.cmp .eq (.blt (.isi [.str]) [(.var 0)]) (.blt (.isi [.str]) [(.var 1)])))] [], .ret (.and_ (.blt (.isi [.int]) [(.var 0)]) (.and_ (.cmp .eq (.blt (.isi [.bool]) [(.var 0)]) (.blt (.isi [.bool]) [(.var 1)])) (.cmp .eq (.var 0) (.var 1))))]
def B__law_name_number_1 : List IS := [.asg (.nm 1) (.op .add (.op .add (.op .mul (.var 1) (.con (.int 27))) (.mr .index (.con (.str [97, 98, 99, 100, 101, 102, 103, 104, 105, 106, 107, 108, 109, 110, 111, 112, 113, 114, 115, 116, 117, 118, 119, 120, 121, 122])) [(.var 2)])) (.con (.int 1)))]
def B__law_name_number : List IS := [.asg (.nm 1) (.con (.int 0)), .for_ .seq [(.var 0)] (.nm 2) B__law_name_number_1, .ret (.var 1)]
def B__law_row_number : List IS := [.asg (.nm 1) (.mr .index (.lst [(.con (.str [108, 111, 97, 100])), (.con (.str [115, 101, 116])), (.con (.str [101, 110, 100])), (.con (.str [108, 97, 116, 101])), (.con (.str [114, 101, 115, 101, 116]))]) [(.idx (.var 0) (.con (.int 1)))]), .ret (.op .add (.op .mul (.op .add (.op .mul (.call i__law_name_number [(.idx (.var 0) (.con (.int 2)))] [] [.ix 0]) (.con (.int 5))) (.var 1)) (.con (.int 9973))) (.idx (.var 0) (.con (.int 3))))]
def B__law_shares_1 : List IS := [.ite (.cmp .eq (.var 1) (.con (.int 0))) [.ret (.cmp .gt (.var 0) (.con (.int 1)))] [], .asg (.tup [(.nm 0), (.nm 1)]) (.tup [(.var 1), (.op .mod (.var 0) (.var 1))])]
def B__law_shares : List IS := [.for_ .rng [(.con (.int 64))] (.nm 2) B__law_shares_1, .ret (.con (.bl true))]
def B__law_how : List IS := [.asg (.tup [(.nm 1), (.nm 2), (.nm 3)]) (.tup [(.call i__law_take [(.var 0), (.con (.int 3))] [] [.ix 0, .ix 1]), (.con (.int 3)), (.con (.int 1))]), .ite (.cmp .eq (.var 1) (.con (.int 0))) [.ret (.tup [(.con .non), (.idx (.lst [(.con (.int 7919)), (.con (.int 7919)), (.con (.int 7)), (.con (.int 1))]) (.call i__law_take [(.var 0), (.con (.int 4))] [] [.ix 0, .ix 1]))])] [], .asg (.nm 2) (.op .add (.con (.int 3)) (.call i__law_take [(.var 0), (.idx (.lst [(.con (.int 8)), (.con (.int 98)), (.con (.int 498)), (.con (.int 999998))]) (.call i__law_take [(.var 0), (.con (.int 4))] [] [.ix 0, .ix 1]))] [] [.ix 0, .ix 1])), .asg (.nm 3) (.op .add (.con (.int 1)) (.call i__law_take [(.var 0), (.idx (.lst [(.con (.int 12)), (.op .pow (.con (.int 10)) (.con (.int 6)))]) (.call i__law_take [(.var 0), (.con (.int 2))] [] [.ix 0, .ix 1]))] [] [.ix 0, .ix 1])), .ret (.tup [(.var 2), (.ite (.call i__law_shares [(.var 2), (.var 3)] [] [.ix 0, .ix 1]) (.con (.int 1)) (.var 3))])]
def B__law_note : List IS := [.ret (.call i__law_take [(.var 0), (.idx (.lst [(.con (.int 3)), (.con (.int 12)), (.con (.int 9973))]) (.call i__law_take [(.var 0), (.con (.int 3))] [] [.ix 0, .ix 1]))] [] [.ix 0, .ix 1])]
def B__law_row__2 : List IS := [.asg (.nm 4) (.ite (.cmp .in_ (.var 2) (.tup [(.con (.str [101, 110, 100])), (.con (.str [114, 101, 115, 101, 116]))])) (.con (.int 0)) (.call i__law_note [(.var 0)] [] [.ix 0])), .ret (.tup [(.call i__law_take [(.var 0), (.var 3)] [] [.ix 0, .ix 1]), (.var 2), (.call i__law_pick [(.var 0), (.var 1)] [] [.ix 0, .ix 1]), (.var 4)])]
def B__law_more : List IS := [.asg (.nm 3) (.call i__law_names [(.var 0), (.con (.int 6))] [] [.ix 0, .ix 1]), .asg (.nm 4) (.call i__law_row__2 [(.var 0), (.var 3), (.call i__law_pick [(.var 0), (.lst [(.con (.str [108, 111, 97, 100])), (.con (.str [115, 101, 116])), (.con (.str [108, 97, 116, 101])), (.con (.str [101, 110, 100])), (.con (.str [114, 101, 115, 101, 116]))])] [] [.ix 0, .ix 1]), (.con (.int 8))] [] [.ix 0, .ix 1, .ix 2, .ix 3]), .ite (.or_ (.cmp .eq (.var 2) (.lst [])) (.cmp .eq (.call i__law_take [(.var 0), (.con (.int 3))] [] [.ix 0, .ix 1]) (.con (.int 0)))) [.ret (.var 4)] [], .asg (.nm 5) (.call i__law_pick [(.var 0), (.var 2)] [] [.ix 0, .ix 1]), .ite (.or_ (.cmp .eq (.call i__law_take [(.var 0), (.con (.int 2))] [] [.ix 0, .ix 1]) (.con (.int 0))) (.or_ (.cmp .is_ (.idx (.var 1) (.con (.int 0))) (.con .non)) (.or_ (.cmp .gt (.idx (.var 1) (.con (.int 0))) (.con (.int 9972))) (.cmp .in_ (.idx (.var 5) (.con (.int 1))) (.tup [(.con (.str [101, 110, 100])), (.con (.str [114, 101, 115, 101, 116]))]))))) [.ret (.op .add (.tup [(.call i__law_take [(.var 0), (.con (.int 8))] [] [.ix 0, .ix 1])]) (.slc (.var 5) (some (.con (.int 1))) none))] [], .ret (.op .add (.slc (.var 5) none (some (.con (.int 3)))) (.tup [(.op .mod (.op .add (.idx (.var 5) (.con (.int 3))) (.idx (.var 1) (.con (.int 0)))) (.con (.int 9973)))]))]
def B__law_due__7_1 : IE := (.call i__law_row_number [(.var 4)] [] [.ix 0])
def B__law_due__7_2 : List IS := [.asg (.nm 7) (.op .sub (.idx (.var 2) (.var 5)) (.idx (.var 2) (.var 6))), .ite (.or_ (.cmp .eq (.var 7) (.con (.int 0))) (.and_ (.cmp .isNot (.idx (.var 0) (.con (.int 0))) (.con .non)) (.cmp .eq (.op .mod (.var 7) (.idx (.var 0) (.con (.int 0)))) (.con (.int 0))))) [.expr (.mc .append (.var 3) [(.tup [(.var 5), (.var 6)])])] []]
def B__law_due__7_3 : List IS := [.for_ .rng [(.op .add (.var 5) (.con (.int 1))), (.blt .len [(.var 1)])] (.nm 6) B__law_due__7_2]
def B__law_due__7 : List IS := [.asg (.tup [(.nm 2), (.nm 3)]) (.tup [(.comp .seq [(.var 1)] (.nm 4) [] B__law_due__7_1 [4]), (.lst [])]), .for_ .rng [(.blt .len [(.var 1)])] (.nm 5) B__law_due__7_3, .ret (.var 3)]
def B__law_right__15_1 : List IS := [.asg (.nm 4) (.callL 18 [(.var 0), (.var 1), (.var 2)] [] [.ix 0, .ix 1, .ix 2]), .ite (.cmp .notIn (.var 4) (.var 2)) [.expr (.mc .append (.var 2) [(.var 4)])] []]
def B__law_right__15_2 : List IS := [.ite (.cmp .ne (.cmp .eq (.meth [(0, i_Mixing_mixed__2, [.ix 0, .ix 1, .ix 2])] (.var 5) [(.var 10), (.idx (.var 2) (.var 11))] []) (.meth [(0, i_Mixing_mixed__2, [.ix 0, .ix 1, .ix 2])] (.var 5) [(.var 10), (.idx (.var 2) (.var 12))] [])) (.cmp .in_ (.tup [(.var 11), (.var 12)]) (.var 6))) [.ret (.con (.bl false))] []]
def B__law_right__15_3 : List IS := [.for_ .rng [(.op .add (.var 11) (.con (.int 1))), (.blt .len [(.var 2)])] (.nm 12) B__law_right__15_2]
def B__law_right__15 : List IS := [.asg (.tup [(.nm 1), (.nm 2)]) (.tup [(.call i__law_how [(.var 0)] [] [.ix 0]), (.lst [])]), .for_ .rng [(.idx (.lst [(.con (.int 2)), (.call i__law_take [(.var 0), (.con (.int 7))] [] [.ix 0, .ix 1])]) (.call i__law_take [(.var 0), (.con (.int 2))] [] [.ix 0, .ix 1]))] (.nm 3) B__law_right__15_1, .asg (.tup [(.nm 5), (.nm 6)]) (.tup [(.mk i_Mixing___init__ [(.idx (.var 1) (.con (.int 0)))] [(.idx (.var 1) (.con (.int 1)))] [.ix 0, .ix 1]), (.call i__law_due__7 [(.var 1), (.var 2)] [] [.ix 0, .ix 1])]), .asg (.nm 7) (.idx (.lst [(.blt .list [(.var 2)]), (.blt .tuple [(.var 2)])]) (.call i__law_take [(.var 0), (.con (.int 2))] [] [.ix 0, .ix 1])), .asg (.tup [(.nm 8), (.nm 9)]) (.tup [(.blt .repr [(.var 7)]), (.call i_hidden [(.var 5), (.var 7)] [] [.ix 0, .ix 1])]), .ite (.or_ (.not_ (.callP i__law_same [(.var 9), (.var 6)] [] [.ix 0, .ix 1])) (.cmp .ne (.blt .repr [(.var 7)]) (.var 8))) [.ret (.con (.bl false))] [], .expr (.mc .append (.var 9) [(.tup [(.con (.int 0)), (.con (.int 1))])]), .asg (.nm 10) (.call i__law_take [(.var 0), (.ite (.cmp .is_ (.idx (.var 1) (.con (.int 0))) (.con .non)) (.con (.int 3)) (.idx (.var 1) (.con (.int 0))))] [] [.ix 0, .ix 1]), .for_ .rng [(.blt .len [(.var 2)])] (.nm 11) B__law_right__15_3, .ret (.callP i__law_same [(.call i_hidden [] [(.var 2), (.var 5)] [.ix 1, .ix 0]), (.var 6)] [] [.ix 0, .ix 1])]
def B_law__24_1 : IE := (.call i__law_right__15 [(.var 2)] [] [.ix 0])
def B_law__24_2 : List IS := [.asg (.nm 2) (.call i__law_box [(.var 0), (.var 1)] [] [.ix 0, .ix 1]), .ite (.not_ (.blt .all [(.comp .rng [(.con (.int 3))] (.nm 3) [] B_law__24_1 [3])])) [.ret (.con (.bl false))] []]
def B_law__24 : List IS := [.for_ .rng [(.op .add (.con (.int 1)) (.blt .min2 [(.con (.int 5)), (.blt .len [(.var 0)])]))] (.nm 1) B_law__24_2, .ret (.con (.bl true))]
def B_Mixing___init__ : List IS := [.ite (.and_ (.cmp .isNot (.var 1) (.con .non)) (.not_ (.call i_is_between [(.var 1), (.con (.int 3)), (.con (.int 1000000))] [] [.ix 0, .ix 1, .ix 2]))) [.raise_ 3 (.con (.str [119, 105, 100, 116, 104]))] [], .ite (.or_ (.not_ (.call i_is_between [(.var 2), (.con (.int 1)), (.con (.int 1000000))] [] [.ix 0, .ix 1, .ix 2])) (.and_ (.cmp .isNot (.var 1) (.con .non)) (.cmp .gt (.call i_divisor_of [(.var 1), (.var 2)] [] [.ix 0, .ix 1]) (.con (.int 1))))) [.bad] [], .setF 0 0 (.var 1), .setF 0 1 (.var 2)]
def B_Mixing_begin__2 : List IS := [.expr (.call i__wall [(.con (.int 0))] [] [.ix 0])]
def B_Mixing_mixed__2 : List IS := [.ite (.cmp .is_ (.attr (.var 0) 0) (.con .non)) [.ret (.op .add (.op .add (.op .mul (.var 1) (.con (.int 26500305465))) (.call i_row_number [(.var 2)] [] [.ix 0])) (.con (.int 1)))] [], .ret (.op .mod (.op .add (.op .add (.op .mul (.var 1) (.attr (.var 0) 1)) (.call i_row_number [(.var 2)] [] [.ix 0])) (.con (.int 1))) (.attr (.var 0) 0))]
def B_Mixing_unmixed : List IS := [.expr (.call i__wall [(.con (.int 1))] [] [.ix 0])]
def B_Mixing_alike__3 : List IS := [.asg (.nm 3) (.op .sub (.call i_row_number [(.var 1)] [] [.ix 0]) (.call i_row_number [(.var 2)] [] [.ix 0])), .ret (.ite (.cmp .is_ (.attr (.var 0) 0) (.con .non)) (.cmp .eq (.var 3) (.con (.int 0))) (.cmp .eq (.op .mod (.var 3) (.attr (.var 0) 0)) (.con (.int 0))))]

def tab : List Fn := [.body 1 1 B__wall, .body 2 6 B_hidden, .body 1 3 B_name_number, .body 1 5 B_row_number, .body 3 3 B_is_between, .body 2 2 B_divisor_of, .body 2 3 B_parts_text, .box, .take, .body 2 2 B__law_pick, .body 2 8 B__law_names, .body 2 4 B__law_same, .body 1 3 B__law_name_number, .body 1 2 B__law_row_number, .body 2 3 B__law_shares, .body 1 4 B__law_how, .body 1 1 B__law_note, .body 4 5 B__law_row__2, .body 3 6 B__law_more, .body 2 8 B__law_due__7, .body 1 13 B__law_right__15, .body 1 4 B_law__24, .init 0 2 3 B_Mixing___init__, .body 2 2 B_Mixing_begin__2, .body 3 3 B_Mixing_mixed__2, .body 3 3 B_Mixing_unmixed, .body 3 4 B_Mixing_alike__3]
theorem tT : tab[i__law_take]? = some .take := rfl
theorem tB : tab[i__law_box]? = some .box := rfl
theorem made0 : mapO (cS GG N0 (defScope (top 0)) 12) (defBody (top 0)) = some B__wall := by kernel_rfl
theorem scope0 : FnScope N0 P0 (defScope (top 0)) := C8.fnScope_by (by kernel_rfl)
def dd0 : He.DefD := ⟨("_wall", none), "_wall", "_wall", defArgs (top 0), defBody (top 0), defScope (top 0), [], []⟩
theorem made1 : mapO (cS GG N1 (defScope (top 2)) 12) (defBody (top 2)) = some B_hidden := by kernel_rfl
theorem scope1 : FnScope N1 P1 (defScope (top 2)) := C8.fnScope_by (by kernel_rfl)
def dd1 : He.DefD := ⟨("hidden", none), "hidden", "hidden", defArgs (top 2), defBody (top 2), defScope (top 2), [], []⟩
theorem made2 : mapO (cS GG N2 (defScope (top 9)) 12) (defBody (top 9)) = some B_name_number := by kernel_rfl
theorem scope2 : FnScope N2 P2 (defScope (top 9)) := C8.fnScope_by (by kernel_rfl)
def dd2 : He.DefD := ⟨("name_number", none), "name_number", "name_number", defArgs (top 9), defBody (top 9), defScope (top 9), [], []⟩
theorem made3 : mapO (cS GG N3 (defScope (top 15)) 12) (defBody (top 15)) = some B_row_number := by kernel_rfl
theorem scope3 : FnScope N3 P3 (defScope (top 15)) := C8.fnScope_by (by kernel_rfl)
def dd3 : He.DefD := ⟨("row_number", none), "row_number", "row_number", defArgs (top 15), defBody (top 15), defScope (top 15), [], []⟩
theorem made4 : mapO (cS GG N4 (defScope (top 19)) 12) (defBody (top 19)) = some B_is_between := by kernel_rfl
theorem scope4 : FnScope N4 P4 (defScope (top 19)) := C8.fnScope_by (by kernel_rfl)
def dd4 : He.DefD := ⟨("is_between", none), "is_between", "is_between", defArgs (top 19), defBody (top 19), defScope (top 19), [], []⟩
theorem made5 : mapO (cS GG N5 (defScope (top 20)) 12) (defBody (top 20)) = some B_divisor_of := by kernel_rfl
theorem scope5 : FnScope N5 P5 (defScope (top 20)) := C8.fnScope_by (by kernel_rfl)
def dd5 : He.DefD := ⟨("divisor_of", none), "divisor_of", "divisor_of", defArgs (top 20), defBody (top 20), defScope (top 20), [], []⟩
theorem made6 : mapO (cS GG N6 (defScope (top 21)) 12) (defBody (top 21)) = some B_parts_text := by kernel_rfl
theorem scope6 : FnScope N6 P6 (defScope (top 21)) := C8.fnScope_by (by kernel_rfl)
def dd6 : He.DefD := ⟨("parts_text", none), "parts_text", "parts_text", defArgs (top 21), defBody (top 21), defScope (top 21), [], []⟩
theorem made7 : mapO (cS GG N7 (defScope (top 24)) 12) (defBody (top 24)) = some lboxB := by kernel_rfl
theorem scope7 : FnScope N7 P7 (defScope (top 24)) := C8.fnScope_by (by kernel_rfl)
def dd7 : He.DefD := ⟨("_law_box", none), "_law_box", "_law_box", defArgs (top 24), defBody (top 24), defScope (top 24), [], []⟩
theorem made8 : mapO (cS GG N8 (defScope (top 25)) 12) (defBody (top 25)) = some takeB := by kernel_rfl
theorem scope8 : FnScope N8 P8 (defScope (top 25)) := C8.fnScope_by (by kernel_rfl)
def dd8 : He.DefD := ⟨("_law_take", none), "_law_take", "_law_take", defArgs (top 25), defBody (top 25), defScope (top 25), [], []⟩
theorem made9 : mapO (cS GG N9 (defScope (top 26)) 12) (defBody (top 26)) = some B__law_pick := by kernel_rfl
theorem scope9 : FnScope N9 P9 (defScope (top 26)) := C8.fnScope_by (by kernel_rfl)
def dd9 : He.DefD := ⟨("_law_pick", none), "_law_pick", "_law_pick", defArgs (top 26), defBody (top 26), defScope (top 26), [], []⟩
theorem made10 : mapO (cS GG N10 (defScope (top 27)) 12) (defBody (top 27)) = some B__law_names := by kernel_rfl
theorem scope10 : FnScope N10 P10 (defScope (top 27)) := C8.fnScope_by (by kernel_rfl)
def dd10 : He.DefD := ⟨("_law_names", none), "_law_names", "_law_names", defArgs (top 27), defBody (top 27), defScope (top 27), [], []⟩
theorem made11 : mapO (cS GG N11 (defScope (top 28)) 12) (defBody (top 28)) = some B__law_same := by kernel_rfl
theorem scope11 : FnScope N11 P11 (defScope (top 28)) := C8.fnScope_by (by kernel_rfl)
def dd11 : He.DefD := ⟨("_law_same", none), "_law_same", "_law_same", defArgs (top 28), defBody (top 28), defScope (top 28), [], []⟩
theorem made12 : mapO (cS GG N12 (defScope (top 29)) 12) (defBody (top 29)) = some B__law_name_number := by kernel_rfl
theorem scope12 : FnScope N12 P12 (defScope (top 29)) := C8.fnScope_by (by kernel_rfl)
def dd12 : He.DefD := ⟨("_law_name_number", none), "_law_name_number", "_law_name_number", defArgs (top 29), defBody (top 29), defScope (top 29), [], []⟩
theorem made13 : mapO (cS GG N13 (defScope (top 30)) 12) (defBody (top 30)) = some B__law_row_number := by kernel_rfl
theorem scope13 : FnScope N13 P13 (defScope (top 30)) := C8.fnScope_by (by kernel_rfl)
def dd13 : He.DefD := ⟨("_law_row_number", none), "_law_row_number", "_law_row_number", defArgs (top 30), defBody (top 30), defScope (top 30), [], []⟩
theorem made14 : mapO (cS GG N14 (defScope (top 31)) 12) (defBody (top 31)) = some B__law_shares := by kernel_rfl
theorem scope14 : FnScope N14 P14 (defScope (top 31)) := C8.fnScope_by (by kernel_rfl)
def dd14 : He.DefD := ⟨("_law_shares", none), "_law_shares", "_law_shares", defArgs (top 31), defBody (top 31), defScope (top 31), [], []⟩
theorem made15 : mapO (cS GG N15 (defScope (top 32)) 12) (defBody (top 32)) = some B__law_how := by kernel_rfl
theorem scope15 : FnScope N15 P15 (defScope (top 32)) := C8.fnScope_by (by kernel_rfl)
def dd15 : He.DefD := ⟨("_law_how", none), "_law_how", "_law_how", defArgs (top 32), defBody (top 32), defScope (top 32), [], []⟩
theorem made16 : mapO (cS GG N16 (defScope (top 33)) 12) (defBody (top 33)) = some B__law_note := by kernel_rfl
theorem scope16 : FnScope N16 P16 (defScope (top 33)) := C8.fnScope_by (by kernel_rfl)
def dd16 : He.DefD := ⟨("_law_note", none), "_law_note", "_law_note", defArgs (top 33), defBody (top 33), defScope (top 33), [], []⟩
theorem made17 : mapO (cS GG N17 (defScope (top 34)) 12) (defBody (top 34)) = some B__law_row__2 := by kernel_rfl
theorem scope17 : FnScope N17 P17 (defScope (top 34)) := C8.fnScope_by (by kernel_rfl)
def dd17 : He.DefD := ⟨("_law_row", none), "_law_row", "_law_row", defArgs (top 34), defBody (top 34), defScope (top 34), [], []⟩
theorem made18 : mapO (cS GG N18 (defScope (top 35)) 12) (defBody (top 35)) = some B__law_more := by kernel_rfl
theorem scope18 : FnScope N18 P18 (defScope (top 35)) := C8.fnScope_by (by kernel_rfl)
def dd18 : He.DefD := ⟨("_law_more", none), "_law_more", "_law_more", defArgs (top 35), defBody (top 35), defScope (top 35), [], []⟩
theorem made19 : mapO (cS GG N19 (defScope (top 36)) 12) (defBody (top 36)) = some B__law_due__7 := by kernel_rfl
theorem scope19 : FnScope N19 P19 (defScope (top 36)) := C8.fnScope_by (by kernel_rfl)
def dd19 : He.DefD := ⟨("_law_due", none), "_law_due", "_law_due", defArgs (top 36), defBody (top 36), defScope (top 36), [], []⟩
theorem made20 : mapO (cS GG N20 (defScope (top 37)) 12) (defBody (top 37)) = some B__law_right__15 := by kernel_rfl
theorem scope20 : FnScope N20 P20 (defScope (top 37)) := C8.fnScope_by (by kernel_rfl)
def dd20 : He.DefD := ⟨("_law_right", none), "_law_right", "_law_right", defArgs (top 37), defBody (top 37), defScope (top 37), [], []⟩
theorem made21 : mapO (cS GG N21 (defScope (top 38)) 12) (defBody (top 38)) = some B_law__24 := by kernel_rfl
theorem scope21 : FnScope N21 P21 (defScope (top 38)) := C8.fnScope_by (by kernel_rfl)
def dd21 : He.DefD := ⟨("law", none), "law", "law", defArgs (top 38), defBody (top 38), defScope (top 38), [], []⟩
theorem made22 : mapO (cS GG N22 (defScope (mth 22 0)) 12) (defBody (mth 22 0)) = some B_Mixing___init__ := by kernel_rfl
theorem scope22 : FnScope N22 P22 (defScope (mth 22 0)) := C8.fnScope_by (by kernel_rfl)
def dd22 : He.DefD := ⟨("Mixing", some "__init__"), "__init__", "Mixing.__init__", defArgs (mth 22 0), defBody (mth 22 0), defScope (mth 22 0), [.non], [("factor", (.int 7919))]⟩
theorem made23 : mapO (cS GG N23 (defScope (mth 22 1)) 12) (defBody (mth 22 1)) = some B_Mixing_begin__2 := by kernel_rfl
theorem scope23 : FnScope N23 P23 (defScope (mth 22 1)) := C8.fnScope_by (by kernel_rfl)
def dd23 : He.DefD := ⟨("Mixing", some "begin"), "begin", "Mixing.begin", defArgs (mth 22 1), defBody (mth 22 1), defScope (mth 22 1), [], [("reset", (.bl false))]⟩
theorem made24 : mapO (cS GG N24 (defScope (mth 22 2)) 12) (defBody (mth 22 2)) = some B_Mixing_mixed__2 := by kernel_rfl
theorem scope24 : FnScope N24 P24 (defScope (mth 22 2)) := C8.fnScope_by (by kernel_rfl)
def dd24 : He.DefD := ⟨("Mixing", some "mixed"), "mixed", "Mixing.mixed", defArgs (mth 22 2), defBody (mth 22 2), defScope (mth 22 2), [], []⟩
theorem made25 : mapO (cS GG N25 (defScope (mth 22 3)) 12) (defBody (mth 22 3)) = some B_Mixing_unmixed := by kernel_rfl
theorem scope25 : FnScope N25 P25 (defScope (mth 22 3)) := C8.fnScope_by (by kernel_rfl)
def dd25 : He.DefD := ⟨("Mixing", some "unmixed"), "unmixed", "Mixing.unmixed", defArgs (mth 22 3), defBody (mth 22 3), defScope (mth 22 3), [], []⟩
theorem made26 : mapO (cS GG N26 (defScope (mth 22 4)) 12) (defBody (mth 22 4)) = some B_Mixing_alike__3 := by kernel_rfl
theorem scope26 : FnScope N26 P26 (defScope (mth 22 4)) := C8.fnScope_by (by kernel_rfl)
def dd26 : He.DefD := ⟨("Mixing", some "alike"), "alike", "Mixing.alike", defArgs (mth 22 4), defBody (mth 22 4), defScope (mth 22 4), [], []⟩
theorem scope27 : FnScope ["self", "what"] ["self", "what"] (defScope (mth 4 0)) := C8.fnScope_by (by kernel_rfl)
def dd27 : He.DefD := ⟨("StartError", some "__init__"), "__init__", "StartError.__init__", defArgs (mth 4 0), defBody (mth 4 0), defScope (mth 4 0), [], []⟩
def fn : List He.DefD := [dd0, dd1, dd2, dd3, dd4, dd5, dd6, dd7, dd8, dd9, dd10, dd11, dd12, dd13, dd14, dd15, dd16, dd17, dd18, dd19, dd20, dd21, dd22, dd23, dd24, dd25, dd26, dd27]
def fa : List He.Fa := [.glo "_wall", .glo "hidden", .glo "name_number", .glo "row_number", .glo "is_between", .glo "divisor_of", .glo "parts_text", .glo "_law_box", .glo "_law_take", .glo "_law_pick", .glo "_law_names", .glo "_law_same", .glo "_law_name_number", .glo "_law_row_number", .glo "_law_shares", .glo "_law_how", .glo "_law_note", .glo "_law_row", .glo "_law_more", .glo "_law_due", .glo "_law_right", .glo "law", .glo "Mixing", .cls "Mixing", .mkr "Mixing", .keep "Mixing", .noat "Mixing" "width", .noat "Mixing" "factor", .meth "Mixing" "begin", .meth "Mixing" "mixed", .meth "Mixing" "unmixed", .meth "Mixing" "alike", .str "LETTERS" "abcdefghijklmnopqrstuvwxyz", .int "BASE" 27, .int "NOTES" 9973, .int "SPAN" 26500305465, .int "FACTOR" 7919, .int "LEAST_WIDTH" 3, .int "MOST" 1000000, .free "ValueError", .free "abs", .free "all", .free "bool", .free "int", .free "isinstance", .free "len", .free "list", .free "min", .free "range", .free "repr", .free "sorted", .free "str", .free "tuple", .free "zip"]
def gs : List (PySem.W.Frag → Bool) := [tupF "WORDS" [(.str "load"), (.str "set"), (.str "end"), (.str "late"), (.str "reset")], veIn, (fun K => excB K 3)]
section
variable {P : Program} {w : World} {K : PySem.W.Frag} {h : Heap} {mg : Str → Option Value} {base : Heap}
theorem stat0 (inK : K.In h) (gl : h.Ns mainGlobals mg) (c : SaysV fa fn gs K) : FnS GG P w K mg base [] tab 0 (GG.fns.getD 0 ⟨"", 0, false, false, []⟩) := by
  obtain ⟨fd, F⟩ := c.d.def_ 0 (d := dd0) rfl
  exact ⟨_, fd, P0, ⟨He.glo_ok inK gl (c.d.fact 0 (f := .glo "_wall") rfl), F.kp⟩, rfl, (sh_cons (shpN F 1 [] [.inl 0] [.ix 0] (fun _ => rfl) fun _ _ _ _ _ _ us ws l1 l2 => match us, ws, l1, l2 with | [_], [], _, _ => rfl) sh_nil), fun n fs => fnE_body F scope0 rfl rfl made0 fs⟩
theorem stat1 (inK : K.In h) (gl : h.Ns mainGlobals mg) (c : SaysV fa fn gs K) : FnS GG P w K mg base [] tab 1 (GG.fns.getD 1 ⟨"", 0, false, false, []⟩) := by
  obtain ⟨fd, F⟩ := c.d.def_ 1 (d := dd1) rfl
  exact ⟨_, fd, P1, ⟨He.glo_ok inK gl (c.d.fact 1 (f := .glo "hidden") rfl), F.kp⟩, rfl, (sh_cons (shpN F 2 [] [.inl 0, .inl 1] [.ix 0, .ix 1] (fun _ => rfl) fun _ _ _ _ _ _ us ws l1 l2 => match us, ws, l1, l2 with | [_, _], [], _, _ => rfl) (sh_cons (shpN F 0 ["some", "mixing"] [.inl 1, .inl 0] [.ix 1, .ix 0] (fun _ => rfl) fun _ _ _ _ _ _ us ws l1 l2 => match us, ws, l1, l2 with | [], [_, _], _, _ => rfl) sh_nil)), fun n fs => fnE_body F scope1 rfl rfl made1 fs⟩
theorem stat2 (inK : K.In h) (gl : h.Ns mainGlobals mg) (c : SaysV fa fn gs K) : FnS GG P w K mg base [] tab 2 (GG.fns.getD 2 ⟨"", 0, false, false, []⟩) := by
  obtain ⟨fd, F⟩ := c.d.def_ 2 (d := dd2) rfl
  exact ⟨_, fd, P2, ⟨He.glo_ok inK gl (c.d.fact 2 (f := .glo "name_number") rfl), F.kp⟩, rfl, (sh_cons (shpN F 1 [] [.inl 0] [.ix 0] (fun _ => rfl) fun _ _ _ _ _ _ us ws l1 l2 => match us, ws, l1, l2 with | [_], [], _, _ => rfl) sh_nil), fun n fs => fnE_body F scope2 rfl rfl made2 fs⟩
theorem stat3 (inK : K.In h) (gl : h.Ns mainGlobals mg) (c : SaysV fa fn gs K) : FnS GG P w K mg base [] tab 3 (GG.fns.getD 3 ⟨"", 0, false, false, []⟩) := by
  obtain ⟨fd, F⟩ := c.d.def_ 3 (d := dd3) rfl
  exact ⟨_, fd, P3, ⟨He.glo_ok inK gl (c.d.fact 3 (f := .glo "row_number") rfl), F.kp⟩, rfl, (sh_cons (shpN F 1 [] [.inl 0] [.ix 0] (fun _ => rfl) fun _ _ _ _ _ _ us ws l1 l2 => match us, ws, l1, l2 with | [_], [], _, _ => rfl) sh_nil), fun n fs => fnE_body F scope3 rfl rfl made3 fs⟩
theorem stat4 (inK : K.In h) (gl : h.Ns mainGlobals mg) (c : SaysV fa fn gs K) : FnS GG P w K mg base [] tab 4 (GG.fns.getD 4 ⟨"", 0, false, false, []⟩) := by
  obtain ⟨fd, F⟩ := c.d.def_ 4 (d := dd4) rfl
  exact ⟨_, fd, P4, ⟨He.glo_ok inK gl (c.d.fact 4 (f := .glo "is_between") rfl), F.kp⟩, rfl, (sh_cons (shpN F 3 [] [.inl 0, .inl 1, .inl 2] [.ix 0, .ix 1, .ix 2] (fun _ => rfl) fun _ _ _ _ _ _ us ws l1 l2 => match us, ws, l1, l2 with | [_, _, _], [], _, _ => rfl) sh_nil), fun n fs => fnE_body F scope4 rfl rfl made4 fs⟩
theorem stat5 (inK : K.In h) (gl : h.Ns mainGlobals mg) (c : SaysV fa fn gs K) : FnS GG P w K mg base [] tab 5 (GG.fns.getD 5 ⟨"", 0, false, false, []⟩) := by
  obtain ⟨fd, F⟩ := c.d.def_ 5 (d := dd5) rfl
  exact ⟨_, fd, P5, ⟨He.glo_ok inK gl (c.d.fact 5 (f := .glo "divisor_of") rfl), F.kp⟩, rfl, (sh_cons (shpN F 2 [] [.inl 0, .inl 1] [.ix 0, .ix 1] (fun _ => rfl) fun _ _ _ _ _ _ us ws l1 l2 => match us, ws, l1, l2 with | [_, _], [], _, _ => rfl) sh_nil), fun n fs => fnE_body F scope5 rfl rfl made5 fs⟩
theorem stat6 (inK : K.In h) (gl : h.Ns mainGlobals mg) (c : SaysV fa fn gs K) : FnS GG P w K mg base [] tab 6 (GG.fns.getD 6 ⟨"", 0, false, false, []⟩) := by
  obtain ⟨fd, F⟩ := c.d.def_ 6 (d := dd6) rfl
  exact ⟨_, fd, P6, ⟨He.glo_ok inK gl (c.d.fact 6 (f := .glo "parts_text") rfl), F.kp⟩, rfl, sh_nil, fun n fs => fnE_body F scope6 rfl rfl made6 fs⟩
theorem stat7 (inK : K.In h) (gl : h.Ns mainGlobals mg) (c : SaysV fa fn gs K) : FnS GG P w K mg base [] tab 7 (GG.fns.getD 7 ⟨"", 0, false, false, []⟩) := by
  obtain ⟨fd, F⟩ := c.d.def_ 7 (d := dd7) rfl
  exact ⟨_, fd, P7, ⟨He.glo_ok inK gl (c.d.fact 7 (f := .glo "_law_box") rfl), F.kp⟩, rfl, (sh_cons (shpN F 2 [] [.inl 0, .inl 1] [.ix 0, .ix 1] (fun _ => rfl) fun _ _ _ _ _ _ us ws l1 l2 => match us, ws, l1, l2 with | [_, _], [], _, _ => rfl) sh_nil), fun n fs => fnE_box F scope7 rfl rfl rfl made7 fs⟩
theorem stat8 (inK : K.In h) (gl : h.Ns mainGlobals mg) (c : SaysV fa fn gs K) : FnS GG P w K mg base [] tab 8 (GG.fns.getD 8 ⟨"", 0, false, false, []⟩) := by
  obtain ⟨fd, F⟩ := c.d.def_ 8 (d := dd8) rfl
  exact ⟨_, fd, P8, ⟨He.glo_ok inK gl (c.d.fact 8 (f := .glo "_law_take") rfl), F.kp⟩, rfl, (sh_cons (shpN F 2 [] [.inl 0, .inl 1] [.ix 0, .ix 1] (fun _ => rfl) fun _ _ _ _ _ _ us ws l1 l2 => match us, ws, l1, l2 with | [_, _], [], _, _ => rfl) sh_nil), fun n fs => fnE_take F scope8 rfl rfl rfl made8 fs⟩
theorem stat9 (inK : K.In h) (gl : h.Ns mainGlobals mg) (c : SaysV fa fn gs K) : FnS GG P w K mg base [] tab 9 (GG.fns.getD 9 ⟨"", 0, false, false, []⟩) := by
  obtain ⟨fd, F⟩ := c.d.def_ 9 (d := dd9) rfl
  exact ⟨_, fd, P9, ⟨He.glo_ok inK gl (c.d.fact 9 (f := .glo "_law_pick") rfl), F.kp⟩, rfl, (sh_cons (shpN F 2 [] [.inl 0, .inl 1] [.ix 0, .ix 1] (fun _ => rfl) fun _ _ _ _ _ _ us ws l1 l2 => match us, ws, l1, l2 with | [_, _], [], _, _ => rfl) sh_nil), fun n fs => fnE_body F scope9 rfl rfl made9 fs⟩
theorem stat10 (inK : K.In h) (gl : h.Ns mainGlobals mg) (c : SaysV fa fn gs K) : FnS GG P w K mg base [] tab 10 (GG.fns.getD 10 ⟨"", 0, false, false, []⟩) := by
  obtain ⟨fd, F⟩ := c.d.def_ 10 (d := dd10) rfl
  exact ⟨_, fd, P10, ⟨He.glo_ok inK gl (c.d.fact 10 (f := .glo "_law_names") rfl), F.kp⟩, rfl, (sh_cons (shpN F 2 [] [.inl 0, .inl 1] [.ix 0, .ix 1] (fun _ => rfl) fun _ _ _ _ _ _ us ws l1 l2 => match us, ws, l1, l2 with | [_, _], [], _, _ => rfl) sh_nil), fun n fs => fnE_body F scope10 rfl rfl made10 fs⟩
theorem stat11 (inK : K.In h) (gl : h.Ns mainGlobals mg) (c : SaysV fa fn gs K) : FnS GG P w K mg base [] tab 11 (GG.fns.getD 11 ⟨"", 0, false, false, []⟩) := by
  obtain ⟨fd, F⟩ := c.d.def_ 11 (d := dd11) rfl
  exact ⟨_, fd, P11, ⟨He.glo_ok inK gl (c.d.fact 11 (f := .glo "_law_same") rfl), F.kp⟩, rfl, (sh_cons (shpN F 2 [] [.inl 0, .inl 1] [.ix 0, .ix 1] (fun _ => rfl) fun _ _ _ _ _ _ us ws l1 l2 => match us, ws, l1, l2 with | [_, _], [], _, _ => rfl) sh_nil), fun n fs => fnE_body F scope11 rfl rfl made11 fs⟩
theorem stat12 (inK : K.In h) (gl : h.Ns mainGlobals mg) (c : SaysV fa fn gs K) : FnS GG P w K mg base [] tab 12 (GG.fns.getD 12 ⟨"", 0, false, false, []⟩) := by
  obtain ⟨fd, F⟩ := c.d.def_ 12 (d := dd12) rfl
  exact ⟨_, fd, P12, ⟨He.glo_ok inK gl (c.d.fact 12 (f := .glo "_law_name_number") rfl), F.kp⟩, rfl, (sh_cons (shpN F 1 [] [.inl 0] [.ix 0] (fun _ => rfl) fun _ _ _ _ _ _ us ws l1 l2 => match us, ws, l1, l2 with | [_], [], _, _ => rfl) sh_nil), fun n fs => fnE_body F scope12 rfl rfl made12 fs⟩
theorem stat13 (inK : K.In h) (gl : h.Ns mainGlobals mg) (c : SaysV fa fn gs K) : FnS GG P w K mg base [] tab 13 (GG.fns.getD 13 ⟨"", 0, false, false, []⟩) := by
  obtain ⟨fd, F⟩ := c.d.def_ 13 (d := dd13) rfl
  exact ⟨_, fd, P13, ⟨He.glo_ok inK gl (c.d.fact 13 (f := .glo "_law_row_number") rfl), F.kp⟩, rfl, (sh_cons (shpN F 1 [] [.inl 0] [.ix 0] (fun _ => rfl) fun _ _ _ _ _ _ us ws l1 l2 => match us, ws, l1, l2 with | [_], [], _, _ => rfl) sh_nil), fun n fs => fnE_body F scope13 rfl rfl made13 fs⟩
theorem stat14 (inK : K.In h) (gl : h.Ns mainGlobals mg) (c : SaysV fa fn gs K) : FnS GG P w K mg base [] tab 14 (GG.fns.getD 14 ⟨"", 0, false, false, []⟩) := by
  obtain ⟨fd, F⟩ := c.d.def_ 14 (d := dd14) rfl
  exact ⟨_, fd, P14, ⟨He.glo_ok inK gl (c.d.fact 14 (f := .glo "_law_shares") rfl), F.kp⟩, rfl, (sh_cons (shpN F 2 [] [.inl 0, .inl 1] [.ix 0, .ix 1] (fun _ => rfl) fun _ _ _ _ _ _ us ws l1 l2 => match us, ws, l1, l2 with | [_, _], [], _, _ => rfl) sh_nil), fun n fs => fnE_body F scope14 rfl rfl made14 fs⟩
theorem stat15 (inK : K.In h) (gl : h.Ns mainGlobals mg) (c : SaysV fa fn gs K) : FnS GG P w K mg base [] tab 15 (GG.fns.getD 15 ⟨"", 0, false, false, []⟩) := by
  obtain ⟨fd, F⟩ := c.d.def_ 15 (d := dd15) rfl
  exact ⟨_, fd, P15, ⟨He.glo_ok inK gl (c.d.fact 15 (f := .glo "_law_how") rfl), F.kp⟩, rfl, (sh_cons (shpN F 1 [] [.inl 0] [.ix 0] (fun _ => rfl) fun _ _ _ _ _ _ us ws l1 l2 => match us, ws, l1, l2 with | [_], [], _, _ => rfl) sh_nil), fun n fs => fnE_body F scope15 rfl rfl made15 fs⟩
theorem stat16 (inK : K.In h) (gl : h.Ns mainGlobals mg) (c : SaysV fa fn gs K) : FnS GG P w K mg base [] tab 16 (GG.fns.getD 16 ⟨"", 0, false, false, []⟩) := by
  obtain ⟨fd, F⟩ := c.d.def_ 16 (d := dd16) rfl
  exact ⟨_, fd, P16, ⟨He.glo_ok inK gl (c.d.fact 16 (f := .glo "_law_note") rfl), F.kp⟩, rfl, (sh_cons (shpN F 1 [] [.inl 0] [.ix 0] (fun _ => rfl) fun _ _ _ _ _ _ us ws l1 l2 => match us, ws, l1, l2 with | [_], [], _, _ => rfl) sh_nil), fun n fs => fnE_body F scope16 rfl rfl made16 fs⟩
theorem stat17 (inK : K.In h) (gl : h.Ns mainGlobals mg) (c : SaysV fa fn gs K) : FnS GG P w K mg base [] tab 17 (GG.fns.getD 17 ⟨"", 0, false, false, []⟩) := by
  obtain ⟨fd, F⟩ := c.d.def_ 17 (d := dd17) rfl
  exact ⟨_, fd, P17, ⟨He.glo_ok inK gl (c.d.fact 17 (f := .glo "_law_row") rfl), F.kp⟩, rfl, (sh_cons (shpN F 4 [] [.inl 0, .inl 1, .inl 2, .inl 3] [.ix 0, .ix 1, .ix 2, .ix 3] (fun _ => rfl) fun _ _ _ _ _ _ us ws l1 l2 => match us, ws, l1, l2 with | [_, _, _, _], [], _, _ => rfl) sh_nil), fun n fs => fnE_body F scope17 rfl rfl made17 fs⟩
theorem stat18 (inK : K.In h) (gl : h.Ns mainGlobals mg) (c : SaysV fa fn gs K) : FnS GG P w K mg base [] tab 18 (GG.fns.getD 18 ⟨"", 0, false, false, []⟩) := by
  obtain ⟨fd, F⟩ := c.d.def_ 18 (d := dd18) rfl
  exact ⟨_, fd, P18, ⟨He.glo_ok inK gl (c.d.fact 18 (f := .glo "_law_more") rfl), F.kp⟩, rfl, (sh_cons (shpN F 3 [] [.inl 0, .inl 1, .inl 2] [.ix 0, .ix 1, .ix 2] (fun _ => rfl) fun _ _ _ _ _ _ us ws l1 l2 => match us, ws, l1, l2 with | [_, _, _], [], _, _ => rfl) sh_nil), fun n fs => fnE_body F scope18 rfl rfl made18 fs⟩
theorem stat19 (inK : K.In h) (gl : h.Ns mainGlobals mg) (c : SaysV fa fn gs K) : FnS GG P w K mg base [] tab 19 (GG.fns.getD 19 ⟨"", 0, false, false, []⟩) := by
  obtain ⟨fd, F⟩ := c.d.def_ 19 (d := dd19) rfl
  exact ⟨_, fd, P19, ⟨He.glo_ok inK gl (c.d.fact 19 (f := .glo "_law_due") rfl), F.kp⟩, rfl, (sh_cons (shpN F 2 [] [.inl 0, .inl 1] [.ix 0, .ix 1] (fun _ => rfl) fun _ _ _ _ _ _ us ws l1 l2 => match us, ws, l1, l2 with | [_, _], [], _, _ => rfl) sh_nil), fun n fs => fnE_body F scope19 rfl rfl made19 fs⟩
theorem stat20 (inK : K.In h) (gl : h.Ns mainGlobals mg) (c : SaysV fa fn gs K) : FnS GG P w K mg base [] tab 20 (GG.fns.getD 20 ⟨"", 0, false, false, []⟩) := by
  obtain ⟨fd, F⟩ := c.d.def_ 20 (d := dd20) rfl
  exact ⟨_, fd, P20, ⟨He.glo_ok inK gl (c.d.fact 20 (f := .glo "_law_right") rfl), F.kp⟩, rfl, (sh_cons (shpN F 1 [] [.inl 0] [.ix 0] (fun _ => rfl) fun _ _ _ _ _ _ us ws l1 l2 => match us, ws, l1, l2 with | [_], [], _, _ => rfl) sh_nil), fun n fs => fnE_body F scope20 rfl rfl made20 fs⟩
theorem stat21 (inK : K.In h) (gl : h.Ns mainGlobals mg) (c : SaysV fa fn gs K) : FnS GG P w K mg base [] tab 21 (GG.fns.getD 21 ⟨"", 0, false, false, []⟩) := by
  obtain ⟨fd, F⟩ := c.d.def_ 21 (d := dd21) rfl
  exact ⟨_, fd, P21, ⟨He.glo_ok inK gl (c.d.fact 21 (f := .glo "law") rfl), F.kp⟩, rfl, sh_nil, fun n fs => fnE_body F scope21 rfl rfl made21 fs⟩
theorem all_stat (inK : K.In h) (gl : h.Ns mainGlobals mg) (c : SaysV fa fn gs K) : ∀ (j : Nat) fi, GG.fns[j]? = some fi → FnS GG P w K mg base [] tab j fi
  | 0, _, e => by cases e; exact stat0 inK gl c
  | 1, _, e => by cases e; exact stat1 inK gl c
  | 2, _, e => by cases e; exact stat2 inK gl c
  | 3, _, e => by cases e; exact stat3 inK gl c
  | 4, _, e => by cases e; exact stat4 inK gl c
  | 5, _, e => by cases e; exact stat5 inK gl c
  | 6, _, e => by cases e; exact stat6 inK gl c
  | 7, _, e => by cases e; exact stat7 inK gl c
  | 8, _, e => by cases e; exact stat8 inK gl c
  | 9, _, e => by cases e; exact stat9 inK gl c
  | 10, _, e => by cases e; exact stat10 inK gl c
  | 11, _, e => by cases e; exact stat11 inK gl c
  | 12, _, e => by cases e; exact stat12 inK gl c
  | 13, _, e => by cases e; exact stat13 inK gl c
  | 14, _, e => by cases e; exact stat14 inK gl c
  | 15, _, e => by cases e; exact stat15 inK gl c
  | 16, _, e => by cases e; exact stat16 inK gl c
  | 17, _, e => by cases e; exact stat17 inK gl c
  | 18, _, e => by cases e; exact stat18 inK gl c
  | 19, _, e => by cases e; exact stat19 inK gl c
  | 20, _, e => by cases e; exact stat20 inK gl c
  | 21, _, e => by cases e; exact stat21 inK gl c
  | _ + 22, _, e => by cases e
theorem clsF_Mixing (c : SaysV fa fn gs K) : ClsF K 0 := ⟨He.cls_ok (c.d.fact 23 (f := .cls "Mixing") rfl), List.forall_mem_cons.mpr ⟨He.noat_ok (c.d.fact 26 (f := .noat "Mixing" "width") rfl), List.forall_mem_cons.mpr ⟨He.noat_ok (c.d.fact 27 (f := .noat "Mixing" "factor") rfl), (fun _ m => nomatch m)⟩⟩⟩
theorem mk_Mixing (inK : K.In h) (gl : h.Ns mainGlobals mg) (c : SaysV fa fn gs K) : MkS GG P w K mg base [] tab (GG.mks.getD 0 ⟨"", 0, 0, 0, []⟩) := by
  obtain ⟨fd, F⟩ := c.d.def_ 22 (d := dd22) rfl
  exact ⟨⟨He.glo_ok inK gl (c.d.fact 22 (f := .glo "Mixing") rfl), clsF_Mixing c, He.keep_ok (c.d.fact 25 (f := .keep "Mixing") rfl)⟩, ⟨_, _, rfl⟩, _, fd, P22, He.mkr_ok (c.d.fact 24 (f := .mkr "Mixing") rfl), rfl, List.forall_mem_cons.mpr ⟨mkShp (pm := [.ix 0, .ix 1]) (shpP F (List.cons_ne_nil _ _) 2 ["factor"] [.inl 0, .inl 1, .inl 2] [.ix 0, .ix 1, .ix 2] (fun _ => rfl) fun _ _ _ _ _ _ _ us its ws l1 l2 l3 => match us, its, ws, l1, l2, l3 with | [_, _], [_], [_], _, _, _ => ⟨_, rfl, rfl⟩), List.forall_mem_nil _⟩, fun n fs => fnE_init F scope22 rfl rfl made22 fs⟩
theorem mt_Mixing_begin__2 (inK : K.In h) (gl : h.Ns mainGlobals mg) (c : SaysV fa fn gs K) : MethS GG P w K mg base [] tab (GG.meths.getD 0 ⟨"", 0, 0, 0, []⟩) := by
  obtain ⟨fd, F⟩ := c.d.def_ 23 (d := dd23) rfl
  exact ⟨_, fd, P23, ⟨He.meth_ok (c.d.fact 28 (f := .meth "Mixing" "begin") rfl), by decide⟩, rfl, List.forall_mem_nil _, fun n fs => fnE_body F scope23 rfl rfl made23 fs⟩
theorem mt_Mixing_mixed__2 (inK : K.In h) (gl : h.Ns mainGlobals mg) (c : SaysV fa fn gs K) : MethS GG P w K mg base [] tab (GG.meths.getD 1 ⟨"", 0, 0, 0, []⟩) := by
  obtain ⟨fd, F⟩ := c.d.def_ 24 (d := dd24) rfl
  exact ⟨_, fd, P24, ⟨He.meth_ok (c.d.fact 29 (f := .meth "Mixing" "mixed") rfl), by decide⟩, rfl, List.forall_mem_cons.mpr ⟨(shpN F 3 [] [.inl 0, .inl 1, .inl 2] [.ix 0, .ix 1, .ix 2] (fun _ => rfl) fun _ _ _ _ _ _ us ws l1 l2 => match us, ws, l1, l2 with | [_, _, _], [], _, _ => rfl), List.forall_mem_nil _⟩, fun n fs => fnE_body F scope24 rfl rfl made24 fs⟩
theorem mt_Mixing_unmixed (inK : K.In h) (gl : h.Ns mainGlobals mg) (c : SaysV fa fn gs K) : MethS GG P w K mg base [] tab (GG.meths.getD 2 ⟨"", 0, 0, 0, []⟩) := by
  obtain ⟨fd, F⟩ := c.d.def_ 25 (d := dd25) rfl
  exact ⟨_, fd, P25, ⟨He.meth_ok (c.d.fact 30 (f := .meth "Mixing" "unmixed") rfl), by decide⟩, rfl, List.forall_mem_nil _, fun n fs => fnE_body F scope25 rfl rfl made25 fs⟩
theorem mt_Mixing_alike__3 (inK : K.In h) (gl : h.Ns mainGlobals mg) (c : SaysV fa fn gs K) : MethS GG P w K mg base [] tab (GG.meths.getD 3 ⟨"", 0, 0, 0, []⟩) := by
  obtain ⟨fd, F⟩ := c.d.def_ 26 (d := dd26) rfl
  exact ⟨_, fd, P26, ⟨He.meth_ok (c.d.fact 31 (f := .meth "Mixing" "alike") rfl), by decide⟩, rfl, List.forall_mem_cons.mpr ⟨(shpN F 3 [] [.inl 0, .inl 1, .inl 2] [.ix 0, .ix 1, .ix 2] (fun _ => rfl) fun _ _ _ _ _ _ us ws l1 l2 => match us, ws, l1, l2 with | [_, _, _], [], _, _ => rfl), List.forall_mem_nil _⟩, fun n fs => fnE_body F scope26 rfl rfl made26 fs⟩
theorem excs (inK : K.In h) (gl : h.Ns mainGlobals mg) (c : SaysV fa fn gs K) : ∀ k ∈ GG.excs, ExcS P w K mg base k := by
  obtain ⟨fd, F⟩ := c.d.def_ 27 (d := dd27) rfl
  have FI := fun n => iniS_ok (P := P) (w := w) (mg := mg) (base := base) F scope27 (by kernel_rfl) (by kernel_rfl) (by kernel_rfl) (He.free_ok inK gl (c.d.fact 39 rfl)) (veIn_ok (c.own 1 rfl)) (by rfl) n
  have FB : Binds K fd ["self", "what"] [] := bindsS F fun _ _ _ _ _ _ us hl => match us, hl with | [_, _], _ => rfl
  exact (List.forall_mem_cons.mpr ⟨excS_of inK gl (c.own 2 rfl) FI FB, List.forall_mem_nil _⟩)
theorem fns (inK : K.In h) (gl : h.Ns mainGlobals mg) (c : SaysV fa fn gs K) (n : Nat) : Fns GG P w K mg base [] tab n :=
  fns_all (bl_cons (He.free_ok inK gl (c.d.fact 39 rfl)) (bl_cons (He.free_ok inK gl (c.d.fact 40 rfl)) (bl_cons (He.free_ok inK gl (c.d.fact 41 rfl)) (bl_cons (He.free_ok inK gl (c.d.fact 42 rfl)) (bl_cons (He.free_ok inK gl (c.d.fact 43 rfl)) (bl_cons (He.free_ok inK gl (c.d.fact 44 rfl)) (bl_cons (He.free_ok inK gl (c.d.fact 45 rfl)) (bl_cons (He.free_ok inK gl (c.d.fact 46 rfl)) (bl_cons (He.free_ok inK gl (c.d.fact 47 rfl)) (bl_cons (He.free_ok inK gl (c.d.fact 48 rfl)) (bl_cons (He.free_ok inK gl (c.d.fact 49 rfl)) (bl_cons (He.free_ok inK gl (c.d.fact 50 rfl)) (bl_cons (He.free_ok inK gl (c.d.fact 51 rfl)) (bl_cons (He.free_ok inK gl (c.d.fact 52 rfl)) (bl_cons (He.free_ok inK gl (c.d.fact 53 rfl)) bl_nil))))))))))))))) (co_cons (co_as (by kernel_rfl) (co_str (He.str_ok inK gl (c.d.fact 32 rfl)))) (co_cons (co_int (He.int_ok inK gl (c.d.fact 33 rfl))) (co_cons (co_as (by kernel_rfl) (co_tup inK gl (vs := [(.str "load"), (.str "set"), (.str "end"), (.str "late"), (.str "reset")]) (by decide) (c.own 0 rfl))) (co_cons (co_int (He.int_ok inK gl (c.d.fact 34 rfl))) (co_cons (co_int (He.int_ok inK gl (c.d.fact 35 rfl))) (co_cons (co_int (He.int_ok inK gl (c.d.fact 36 rfl))) (co_cons (co_int (He.int_ok inK gl (c.d.fact 37 rfl))) (co_cons (co_int (He.int_ok inK gl (c.d.fact 38 rfl))) co_nil)))))))) (all_stat inK gl c) (List.forall_mem_cons.mpr ⟨mt_Mixing_begin__2 inK gl c, List.forall_mem_cons.mpr ⟨mt_Mixing_mixed__2 inK gl c, List.forall_mem_cons.mpr ⟨mt_Mixing_unmixed inK gl c, List.forall_mem_cons.mpr ⟨mt_Mixing_alike__3 inK gl c, List.forall_mem_nil _⟩⟩⟩⟩) (List.forall_mem_cons.mpr ⟨mk_Mixing inK gl c, List.forall_mem_nil _⟩) (excs inK gl c) n
end
abbrev RR : PySem.W.OpenRow := PySem.W.OpenLaw.row PySem.Challenge.rw_startlog_k25_rows_that_no_board_tells_ap
abbrev hk : PySem.W.Hook := hookV 6 fa fn gs
def ob (s : PySem.W.SharedT) : AlV := obsVG 6 fa fn gs (HandSHeadRun.getT s)
theorem ob_eq (s : PySem.W.SharedT) : ob s = hk.obs s.abs := obsVG_eq (HandSHeadRun.getT_eq s)
def loose : List Str := ("_wall" :: "hidden" :: "StartError" :: "BadMixing" :: "LETTERS" :: "BASE" :: "name_number" :: "WORDS" :: "NOTES" :: "SPAN" :: "FACTOR" :: "row_number" :: "LEAST_WIDTH" :: "MOST" :: "is_between" :: "divisor_of" :: "parts_text" :: "Mixing" :: "_law_box" :: "_law_take" :: "_law_pick" :: "_law_names" :: "_law_same" :: "_law_name_number" :: "_law_row_number" :: "_law_shares" :: "_law_how" :: "_law_note" :: "_law_row" :: "_law_more" :: "_law_due" :: "_law_right" :: [])
theorem run (w : World) : HandSHeadRun.RunEq RR (PySem.W.view RR.prog [38]) hk ob 6000 loose w := by
  intro os
  kernel_rfl
theorem facts {P : Program} {w : World} {K : PySem.W.Frag} {h : Heap} {mg : Str → Option Value} {f : Addr} (inK : K.In h) (gl : h.Ns mainGlobals mg) (hfa : mg ("law" : Str) = some (.ref f)) (c : SaysV fa fn gs K) :
    ∃ fd : FuncData, (∀ (s : Shared) (v : Value), BindsTo s fd ⟨[v], []⟩ [("_law_script", v)]) ∧ ∀ base : Heap, K.In base → base.Ns mainGlobals mg → FnE P w K mg base 10 f fd ["_law_script"] (spE K (cgN K [] tab 8) 21 1) := by
  obtain ⟨fd, F⟩ := c.d.def_ 21 (d := dd21) rfl
  have e := hfa.symm.trans (He.glo_ok inK gl (c.d.fact 21 (f := .glo "law") rfl))
  cases e
  have b := FunD.bindsA (ps := ["_law_script"]) F fun _ _ _ _ _ _ us hl => match us, hl with | [_], _ => rfl
  exact ⟨fd, fun s v => b s [v] rfl, fun base _ _ => fnE_body F scope21 rfl rfl made21 (fns inK gl c 7)⟩
end LK

open PySem Ev
namespace LK
abbrev Env := Ev.Env
local macro_rules | `(tactic| walk_at "ev") => `(tactic| try simp only [Ev.e_wE_con, Ev.e_wE_vw, Ev.e_wS_swap, Ev.e_wE_frz, Ev.e_iv_frz, Ev.upper_str, Ev.mrOk_upper, Ev.rdC_vw, Ev.rdV_var, Ev.rdV_vw, Ev.qv_con, Ev.qv_var, Ev.qv_add, Ev.qv_sub, Ev.qv_idx, Ev.e_iv_vw, Ev.q_vw, Ev.wT_vw, Ev.tE_vw, Ev.sca_lst, Ev.own_lst, Ev.own_nil, Ev.own_cons, Ev.own_int, Ev.sh_vw, Ev.e_wE_attr, Ev.e_wE_meth, Ev.e_wE_mk, Ev.e_wS_setF, Ev.e_wS_raise, Ev.e_wS_try, Ev.e_iv_attr, Ev.e_iv_meth, Ev.e_iv_mk, Ev.wT_attr, Ev.tE_attr, Ev.wT_meth, Ev.tE_meth, Ev.wT_mk, Ev.tE_mk, Ev.attr_ins, Ev.attr_exc, Ev.fz_ins, Ev.fz_exc, Ev.nf_ins, Ev.nf_exc, Ev.cls_ins, Ev.tb_hit, Ev.der_ins, Ev.der_exc, Ev.is__ins, Ev.is__exc, Ev.isNot_ins, Ev.isNot_exc, Ev.put_last, Nat.lt_irrefl, Nat.not_lt_zero, Ev.fx_0_0, Ev.fx_0_1, Ev.fx_1_2, Ev.fx_1_3, Ev.fx_1_4, Ev.fx_1_5, Ev.fx_2_6, Ev.fx_2_7, Ev.fx_2_8, Ev.fx_2_9, Ev.fx_2_10, Ev.fx_2_11, Ev.fx_2_12, Ev.fx_2_14, Ev.fx_2_13, Ev.fx_2_15, Ev.fx_2_16, Ev.fx_3_7, Ev.fx_3_8, Ev.fx_3_9, Ev.fx_3_10, Ev.fx_3_17, Ev.fx_3_11, Ev.fx_3_18, Ev.fx_3_19, Ev.fx_3_20, Ev.fx_4_21, Ev.fx_4_22, Ev.fx_4_23, Ev.fx_4_24, Ev.fx_4_25, Ev.fx_4_26, Ev.fx_4_27, Ev.fx_5_28, Ev.fx_5_29, Ev.fx_5_30, Ev.fx_5_31, Ev.fx_6_32, Ev.fx_6_33, Ev.fx_6_34, Ev.fx_7_15, Ev.fx_7_35, Ev.e_wE_var, Ev.e_wE_op, Ev.e_wE_neg, Ev.e_wE_lrg, Ev.e_wE_cmp, Ev.e_wE_chain, Ev.e_wE_and, Ev.e_wE_or, Ev.e_wE_not, Ev.e_wE_tup, Ev.e_wE_lst, Ev.e_wE_idx, Ev.e_wE_idxM, Ev.e_wE_idxL, Ev.e_wE_slc, Ev.e_wE_rev, Ev.e_wE_call, Ev.e_wE_callP, Ev.e_wE_callL, Ev.e_wE_blt, Ev.e_wE_mr, Ev.e_wE_comp, Ev.e_wE_comp2, Ev.e_wE_fstr, Ev.e_wEs_nil, Ev.e_wEs_cons, Ev.e_wRs_nil, Ev.e_wRs_cons, Ev.e_wZs_nil, Ev.e_wZs_cons, Ev.e_wIfs_nil, Ev.e_wO_none, Ev.e_wO_some, Ev.e_wS_asg, Ev.e_wS_asgP, Ev.e_wS_aug, Ev.e_wS_expr, Ev.e_wS_retN, Ev.e_wS_ite, Ev.e_wS_for, Ev.e_wS_while, Ev.e_wS_pass, Ev.e_wS_brk, Ev.e_wS_cont, Ev.e_wE_mc, Ev.e_wS_setIx, Ev.e_wS_retV, Ev.e_wS_ret, Ev.e_rdC, Ev.e_wR, Ev.tE_or, Ev.tE_and, Ev.tE_not, Ev.wT_or, Ev.wT_and, Ev.wT_not, Ev.wT_var, Ev.tE_var, Ev.e_ifs, Ev.e_iteT, Ev.wT_con, Ev.tE_con, Ev.wT_op, Ev.tE_op, Ev.wT_neg, Ev.wT_lrg, Ev.tE_neg, Ev.tE_lrg, Ev.wT_cmp, Ev.tE_cmp, Ev.wT_chain, Ev.tE_chain, Ev.wT_ite, Ev.tE_ite, Ev.wT_tup, Ev.tE_tup, Ev.wT_lst, Ev.tE_lst, Ev.wT_idx, Ev.wT_idxM, Ev.wT_idxL, Ev.tE_idxL, Ev.tE_idx, Ev.tE_idxM, Ev.wT_slc, Ev.tE_slc, Ev.wT_rev, Ev.tE_rev, Ev.wT_call, Ev.tE_call, Ev.wT_callP, Ev.wT_callL, Ev.tE_callP, Ev.tE_callL, Ev.wT_blt, Ev.tE_blt, Ev.wT_mr, Ev.tE_mr, Ev.wT_mc, Ev.tE_mc, Ev.wT_comp, Ev.wT_comp2, Ev.tE_comp, Ev.tE_comp2, Ev.wT_fstr, Ev.tE_fstr, Ev.e_stays, Ev.e_iv_con, Ev.e_iv_op, Ev.e_iv_neg, Ev.e_iv_lrg, Ev.e_iv_cmp, Ev.e_iv_chain, Ev.e_iv_and, Ev.e_iv_or, Ev.e_iv_not, Ev.e_iv_ite, Ev.e_iv_tup, Ev.e_iv_lst, Ev.e_iv_idx, Ev.e_iv_idxM, Ev.e_iv_idxL, Ev.e_iv_slc, Ev.e_iv_rev, Ev.e_iv_call, Ev.e_iv_callP, Ev.e_iv_callL, Ev.e_iv_blt, Ev.e_iv_mr, Ev.e_iv_mc, Ev.e_iv_comp, Ev.e_iv_comp2, Ev.e_iv_fstr, Ev.e_iv_var, Ev.q_con, Ev.q_var, Ev.q_vc, Ev.q_cv, Ev.q_vv, Ev.qL_nil, Ev.qL_cons, Ev.qO_none, Ev.qO_some, Ev.wipeE, Ev.backE, Ev.hidOk, Ev.onV_some, Ev.onE_some, Ev.natW_some, Ev.txW_some, Ev.intW_int, Ev.ownW_lst, Ev.getV_zero, Ev.getV_succ, Ev.rdC_var, Ev.fz_non, Ev.fz_bl, Ev.fz_int, Ev.fz_str, Ev.fz_ptr, Ev.fz_tup, Ev.fz_lst, Ev.fzL_nil, Ev.fzL_cons, Ev.nf_non, Ev.nf_bl, Ev.nf_int, Ev.nf_str, Ev.nf_ptr, Ev.nf_tup, Ev.nf_lstT, Ev.nf_lstF, Ev.fz_kst, Ev.nf_kst, Ev.idx_kst, Ev.slc_kst, Ev.it_kst, Ev.len_kst, Ev.list_kst, Ev.noP_non, Ev.noP_bl, Ev.noP_int, Ev.noP_str, Ev.noP_tup, Ev.noP_ins, Ev.noP_exc, Ev.noP_lst, Ev.noPL_nil, Ev.noPL_cons, Ev.nfL_nil, Ev.nfL_cons, Ev.add_int, Ev.sub_int, Ev.mul_int, Ev.fdiv_int, Ev.mod_int, Ev.pow_int, Ev.add_str, Ev.add_lst, Ev.add_tup, Ev.mul_lst, Ev.lt_ii, Ev.le_ii, Ev.gt_ii, Ev.ge_ii, Ev.lt_ss, Ev.eq_ii, Ev.eq_ss, Ev.eq_bb, Ev.eq_nint, Ev.eq_intn, Ev.eq_nbl, Ev.eq_bln, Ev.eq_nstr, Ev.eq_strn, Ev.eq_nn, Ev.eq_lstlst, Ev.eq_tuptup, Ev.eq_lsttup, Ev.eq_tuplst, Ev.eq_lstn, Ev.eq_tupn, Ev.ne_ii, Ev.ne_ss, Ev.ne_bb, Ev.ne_nint, Ev.ne_intn, Ev.ne_nbl, Ev.ne_bln, Ev.ne_nstr, Ev.ne_strn, Ev.ne_nn, Ev.ne_lstlst, Ev.ne_tuptup, Ev.ne_lsttup, Ev.ne_tuplst, Ev.ne_lstn, Ev.ne_tupn, Ev.is__non, Ev.is__int, Ev.is__bl, Ev.is__str, Ev.is__tup, Ev.is__ptr, Ev.is__lst, Ev.is__bb, Ev.isNot_non, Ev.isNot_int, Ev.isNot_bl, Ev.isNot_str, Ev.isNot_tup, Ev.isNot_ptr, Ev.isNot_lst, Ev.isNot_bb, Ev.in__ss, Ev.in_l_n, Ev.in_t_n, Ev.in_l_b, Ev.in_t_b, Ev.in_l_i, Ev.in_t_i, Ev.in_l_s, Ev.in_t_s, Ev.in_l_t, Ev.in_t_t, Ev.in_l_l, Ev.in_t_l, Ev.notIn_ss, Ev.notInl_n, Ev.notInt_n, Ev.notInl_b, Ev.notInt_b, Ev.notInl_i, Ev.notInt_i, Ev.notInl_s, Ev.notInt_s, Ev.notInl_t, Ev.notInt_t, Ev.notInl_l, Ev.notInt_l, Ev.sgW_one, Ev.tru_non, Ev.tru_bl, Ev.tru_int, Ev.tru_str, Ev.tru_lst, Ev.tru_tup, Ev.idx_lst, Ev.idx_tup, Ev.idx_str, Ev.oInt_none, Ev.oInt_some, Ev.slc_lst, Ev.slc_tup, Ev.slc_str, Ev.slcL_some, Ev.slcS_some, Ev.rev_lst, Ev.it_lst, Ev.it_tup, Ev.it_str, Ev.it_rng1, Ev.it_rng2, Ev.it_enl, Ev.it_zip_lst_lst, Ev.it_zip_tup_tup, Ev.len_lst, Ev.len_tup, Ev.len_str, Ev.abs_int, Ev.isi_any, Ev.isx_any, Ev.int1_int, Ev.int1_bl, Ev.str1_int, Ev.str1_str, Ev.repr_int, Ev.repr_non, Ev.repr_bl, Ev.repr_str, Ev.repr_lst, Ev.repr_tup, Ev.tuple_lst, Ev.tuple_tup, Ev.list_lst, Ev.list_tup, Ev.max2_ii, Ev.min2_ii, Ev.all_lst, Ev.any_lst, Ev.bsW_some, Ev.app_one, Ev.rev_zero, Ev.clear_zero, Ev.forL_nil, Ev.forB_eq, Ev.wTg_nm, Ev.wTg_tup, Ev.wTg_tupL, Ev.wTgs_nil, Ev.wTgs_cons, Ev.atx_nat, Ev.nf_fz, Ev.nfL_fzL, Ev.wSs_nil, Ev.sca_non, Ev.sca_bl, Ev.sca_int, Ev.sca_str, Ev.der_non, Ev.der_bl, Ev.der_int, Ev.der_str, Ev.der_tup, Ev.der_lst, Ev.der_kst, Ev.setW_lst, Ev.quiet, Ev.isL_lst, Ev.sh_t, Ev.sh_f, Ev.sh_n, Ev.aug_add, Ev.aug_sub, Ev.aug_fdiv, Ev.nsW_some, Ev.ssW_some, Ev.list_str, Ev.max1_lst, Ev.min1_lst, Ev.sum1_lst, Ev.sorted_lst, Ev.sset_lst, Ev.sorted_tup, Ev.divmod_ii, Ev.join_lst, Ev.index_str, Ev.index_tup, Ev.split_str, Ev.mrOk_join, Ev.mrOk_index, Ev.mrOk_indexT, Ev.mrOk_indexL, Ev.index_lst, Ev.mrOk_split, Ev.it_ent, Ev.wTg_star, Ev.strsOf_nil, Ev.strsOf_cons, Ev.numsOf_nil, Ev.numsOf_cons, Ev.e_wS_bad, Ev.fzL_ints, Ev.nfL_ints, Ev.noPL_ints, Ev.fzL_strs, Ev.nfL_strs, Ev.nums_of, Ev.strs_of, Ev.bools_of, Ev.env_zero, Ev.atx_l0, Ev.atx_l1, Ev.atx_l2, Ev.atx_l3, Ev.atx_l4, Ev.atx_l5, Ev.atx_l6, Ev.atx_l7, Ev.cut_t1, Ev.cut_f1, Ev.cut_t2, Ev.cut_f2, Ev.cut_t3, Ev.cut_f3, Ev.cut_t4, Ev.cut_f4, Ev.cut_t5, Ev.cut_f5, Ev.at_zero, Ev.at_succ,  Ev.fzL_ones, Ev.nfL_ones, Ev.strs_ones, Ev.sum_ones, Ev.join1, List.reverse_reverse,  Ev.fzL_bls, Ev.nfL_bls,  Ev.fzL_app, Ev.nfL_app, Ev.ints_app, Ev.ints_app1,  Ev.tk_map, Ev.dr_map, Ev.rv_map, Ev.at_map, Ev.len_map, Ev.isS, Ev.cut_map, Ev.cut_to, Ev.cut_from, Ev.shown_t, Ev.rep2, Ev.rep3, beq_self_eq_true, Ev.env_succ, Option.map_some, List.take_succ_cons, List.take_zero, List.drop_succ_cons, List.drop_zero, Nat.reduceSub, Nat.add_zero, Nat.zero_add, Nat.sub_zero, Nat.le_refl, decide_true, List.set_cons_zero, List.set_cons_succ, List.length_cons, List.length_nil, Nat.reduceAdd, Nat.reduceLT, Nat.reduceLeDiff, Bool.true_or, Bool.or_true, Bool.false_or, Bool.or_false, Bool.not_true, Bool.not_false, Bool.true_and, Bool.and_true, Bool.and_self, true_and, and_true, if_true, if_false, ite_true, ite_false, Bool.false_eq_true, reduceIte, Option.bind_some, Nat.lt_add_left_iff_pos, Nat.zero_lt_succ, Nat.add_lt_add_iff_right, Nat.lt_add_one, List.map_cons, List.map_nil, Ev.argOf, List.cons_append, List.nil_append, List.append_nil, List.getD_cons_zero, List.getD_cons_succ, List.replicate, List.all_cons, List.all_nil])
local macro_rules | `(tactic| walk_at "st") => `(tactic| (rw [Ev.wSs_cons]; walk_at "ev"))

local macro_rules | `(tactic| walk_at "sidep") => `(tactic| first | decide | omega | exact ⟨by omega, by omega⟩ | exact .inl ⟨by omega, by omega⟩ | exact .inr (.inl ⟨by omega, by omega⟩) | (simp; done))
local macro_rules | `(tactic| walk_at "side") => `(tactic| (with_reducible refine And.intro ?_ ?_; (· walk_at "sidep"); walk_at "ev"))
local macro_rules | `(tactic| walk_at "sides") => `(tactic| repeat walk_at "side")
local macro_rules | `(tactic| walk_at "nxt") => `(tactic| (walk_at "sides"; show wSs _ (_ :: _) _ _ _; walk_at "st"))
local macro_rules | `(tactic| walk_at "no") => `(tactic| (walk_at "sides"; apply if_no; walk_at "ev"))
local macro_rules | `(tactic| walk_at "bud") => `(tactic| first | assumption | exact Bud.mono ‹_› (by omega))
local macro_rules | `(tactic| walk_at "pos") => `(tactic| first | decide | omega)
local macro_rules | `(tactic| walk_at "ty") => `(tactic| (simp only [Ev.isOk, Ev.isTy, List.any_cons, List.any_nil]; walk_at "ev"))
local macro_rules | `(tactic| walk_at "bo") => `(tactic| first | decide | omega | (simp only [beq_iff_eq, bne_iff_ne, decide_eq_true_eq, Bool.not_eq_true', Bool.not_eq_true, decide_eq_false_iff_not, beq_eq_false_iff_ne, bne_eq_false_iff_eq, ne_eq, Bool.and_eq_true, Bool.or_eq_true, Bool.not_eq_eq_eq_not, Bool.not_true, Bool.not_false]; omega))
local macro_rules | `(tactic| walk_at "ifn") => `(tactic| (rw [if_neg (by walk_at "bo")]; walk_at "ev"))
local macro_rules | `(tactic| walk_at "ify") => `(tactic| (rw [if_pos (by walk_at "bo")]; walk_at "ev"))
local macro_rules | `(tactic| walk_at "leaf") => `(tactic| first | exact ⟨rfl, rfl, rfl⟩ | exact ⟨rfl, rfl⟩ | exact rfl)


section
variable {k : Nat} {st : Stt} {K : D → Stt → Prop} {X : Exn → Stt → Prop}

def repT : D → Tx
  | .int i => digits i
  | d => shown d
theorem repr_tm {n z : Nat} {d : D} {K : D → Prop} (hd : Tm n z d) (hn : n ≤ 64) (hz : z ≤ Lim) (h : K (.str (repT d))) : bltW .repr [d] K := by
  have hs := hd.shw hn hz
  cases d with
  | int i => exact ⟨of_decide_eq_true hd.2.1, h⟩
  | non => exact h
  | bl b => exact h
  | str x => exact ⟨hs.2.2, h⟩
  | lst o xs => exact ⟨hs, h⟩
  | tup xs => exact ⟨hs, h⟩
  | _ => exact nomatch hd.ok
theorem repr_lst {n z L : Nat} {o : Bool} {xs : List D} {K : D → Prop} (hd : ∀ d ∈ xs, Tm n z d) (hl : xs.length ≤ L) (hn : n + 1 ≤ 64) (hL : L ≤ Lim) (hz : (z + 2) * L + 3 ≤ Lim) (h : K (.str (shown (.lst false xs)))) : bltW .repr [.lst o xs] K := by
  have hs := (Tm.lst hd hl hL).shw hn hz
  cases o with
  | false => exact ⟨hs, h⟩
  | true =>
    have hs2 : showOk (.lst true xs) := hs
    exact ⟨hs2, h⟩
/-- a name that a comprehension may hide -/
def Hid (o : Option D) : Prop := o = none ∨ ∃ d, o = some d ∧ nf d = true
theorem show_lst {n z L : Nat} {o : Bool} {xs : List D} (hd : ∀ d ∈ xs, Tm n z d) (hl : xs.length ≤ L) (hn : n + 1 ≤ 64) (hL : L ≤ Lim) (hz : (z + 2) * L + 3 ≤ Lim) : showOk (.lst o xs) := by
  have hs := (Tm.lst hd hl hL).shw hn hz
  cases o with
  | false => exact hs
  | true => exact (show showOk (.lst true xs) from hs)

def fromB (d : D) (a b : Int) : Bool := match d with
  | .int i => decide (a ≤ i) && decide (i < b)
  | _ => false
theorem fromB_int (i a b : Int) : fromB (.int i) a b = (decide (a ≤ i) && decide (i < b)) := rfl

def betB (d : D) (a b : Int) : Bool := match d with
  | .int i => decide (a ≤ i) && decide (i ≤ b)
  | _ => false
theorem s_is_between {i a b : Int} (h : K (.bl (decide (a ≤ i) && decide (i ≤ b))) st) : wC tab (k + 1) i_is_between [.int i, .int a, .int b] st K X := by
  (refine fn_go (b := B_is_between) rfl rfl ?_; unfold B_is_between; walk_at "st")
  walk_at "ty"
  by_cases h1 : a ≤ i
  · rw [decide_eq_true h1, Bool.true_and] at h
    simp only [h1, decide_true, if_true]
    exact h
  · rw [decide_eq_false h1, Bool.false_and] at h
    simp only [h1, decide_false]
    exact h

theorem w_div {Q : Kn} {F : FF} : ∀ (n a b : Nat), b < n → Q.nx [some (.int (Nat.gcd a b)), some (.int 0)] st →
    whileL (fun e s K => wT F B_divisor_of_1 e s K Q.ex) (fun e s Q1 => wSs F B_divisor_of_2 e s Q1) Q (n + 1) [some (.int a), some (.int b)] st
  | 0, a, b, hn, _ => by omega
  | n + 1, a, b, hn, h => by
    refine while_step ?_
    show wT F (.cmp .gt (.var 1) (.con (.int 0))) _ _ _ _
    walk_at "ev"
    by_cases hb : 0 < (b : Int)
    · walk_at "ify"
      show wSs F [.asg (.tup [.nm 0, .nm 1]) (.tup [.var 1, .op .mod (.var 0) (.var 1)])] _ _ _
      walk_at "st"
      refine ⟨hb, by decide, ?_⟩
      rw [show (a : Int) % (b : Int) = ((a % b : Nat) : Int) from (Int.natCast_emod a b).symm]
      refine w_div n b (a % b) (Nat.lt_of_lt_of_le (Nat.mod_lt _ (by omega)) (by omega)) ?_
      rw [Nat.gcd_comm b, ← Nat.gcd_rec, Nat.gcd_comm]
      exact h
    · obtain rfl : b = 0 := by omega
      walk_at "ifn"
      rw [Nat.gcd_zero_right] at h
      exact h
theorem s_divisor_of {a b : Nat} (h : K (.int (Nat.gcd a b)) st) : wC tab (k + 1) i_divisor_of [.int a, .int b] st K X := by
  (refine fn_go (b := B_divisor_of) rfl rfl ?_; unfold B_divisor_of; walk_at "st")
  refine ⟨b + 2, w_div (b + 1) a b (by omega) ?_⟩
  walk_at "nxt"
  exact h

/-- a mixing's width and factor, as they should be -/
structure MixOk (w : D) (f : Int) : Prop where
  f0 : 1 ≤ f
  f1 : f ≤ 1000000
  w : w = .non ∨ ∃ n : Nat, w = .int n ∧ 3 ≤ n ∧ n ≤ 1000000 ∧ Nat.gcd n f.toNat = 1
abbrev mixD (w : D) (f : Int) : D := .ins 0 [w, .int f]
theorem MixOk.sc {w : D} {f : Int} (h : MixOk w f) : fz w = w ∧ nf w = true := by
  rcases h.w with rfl | ⟨n, rfl, _⟩ <;> exact ⟨rfl, rfl⟩
theorem s_mk {w : D} {f : Int} (hm : MixOk w f) (h : K (mixD w f) (st ++ [.gone])) : wC tab (k + 3) i_Mixing___init__ [w, .int f] st K X := by
  refine init_go (b := B_Mixing___init__) rfl rfl ?_
  unfold B_Mixing___init__
  have fin : wSs (wC tab (k + 1)) [.setF 0 0 (.var 1), .setF 0 1 (.var 2)] [some (.ptr st.length), some w, some (.int f)] (st ++ [.obj 0 []]) ⟨fun _ s => iniW 0 st.length s K, fun _ _ => False, fun _ _ => False, fun _ _ => False, fun e _ s => X e s⟩ := by
    walk_at "st"
    rw [hm.sc.1]
    walk_at "ev"
    walk_at "st"
    refine ini_last rfl rfl ?_
    walk_at "ev"
    rw [hm.sc.1]
    exact h
  rcases hm.w with rfl | ⟨n, rfl, n0, n1, hg⟩
  · walk_at "st"
    walk_at "st"
    refine s_is_between ?_
    rw [decide_eq_true hm.f0, decide_eq_true hm.f1]
    walk_at "ev"
    exact fin
  · walk_at "st"
    refine s_is_between ?_
    rw [decide_eq_true (by omega), decide_eq_true (by omega)]
    walk_at "ev"
    walk_at "st"
    refine s_is_between ?_
    rw [decide_eq_true hm.f0, decide_eq_true hm.f1]
    walk_at "ev"
    obtain ⟨g, rfl⟩ : ∃ g : Nat, f = g := ⟨f.toNat, by have := hm.f0; omega⟩
    refine s_divisor_of ?_
    rw [show Nat.gcd n g = 1 from hg]
    walk_at "ev"
    exact fin

abbrev ABC : Tx := [97, 98, 99, 100, 101, 102, 103, 104, 105, 106, 107, 108, 109, 110, 111, 112, 113, 114, 115, 116, 117, 118, 119, 120, 121, 122]
def ltr (c : Nat) : Bool := decide (97 ≤ c) && decide (c ≤ 122)
def nameB (x : Tx) : Bool := decide (1 ≤ x.length) && decide (x.length ≤ 4) && x.all ltr
theorem abc_mem (c : Nat) : decide (c ∈ ABC) = ltr c := by
  rw [Bool.eq_iff_iff]
  unfold ABC ltr
  simp
  omega
theorem abc_at : ∀ d : Nat, d < 26 → ABC[d]? = some (d + 97) ∧ ABC.idxOf (d + 97) = d := by decide
theorem ltr_ok {c : Nat} (h : ltr c = true) : 97 ≤ c ∧ c ≤ 122 := by unfold ltr at h; simpa using h
theorem abc_idx {c : Nat} (h : ltr c = true) : c ∈ ABC ∧ (ABC.idxOf c : Int) = (c : Int) - 97 := by
  obtain ⟨h1, h2⟩ := ltr_ok h
  obtain ⟨d, rfl⟩ : ∃ d, c = d + 97 := ⟨c - 97, by omega⟩
  refine ⟨of_decide_eq_true ((abc_mem _).trans h), ?_⟩
  rw [(abc_at d (by omega)).2]; omega
def nmB : D → Bool
  | .str x => nameB x
  | _ => false
theorem abc_pick {r : Int} {K : Nat → Prop} (h0 : 0 ≤ r) (h1 : r < 26) (h : ∀ c, ltr c = true → K c) : natW (atx ABC r) K := by
  obtain ⟨d, rfl⟩ : ∃ d : Nat, r = d := ⟨r.toNat, by omega⟩
  rw [atx_nat, (abc_at d (by omega)).1]
  exact h _ (by unfold ltr; simp; omega)

abbrev bareT : List D := [.str [101, 110, 100], .str [114, 101, 115, 101, 116]]
abbrev wordsT : List D := [.str [108, 111, 97, 100], .str [115, 101, 116], .str [101, 110, 100], .str [108, 97, 116, 101], .str [114, 101, 115, 101, 116]]
def wordB (w : Tx) : Bool := inD (.str w) wordsT
def bareB (w : Tx) : Bool := inD (.str w) bareT
def notedB (w : Tx) (m : D) : Bool := fromB m 0 (if bareB w = true then 1 else 9973)

def rowB : D → Bool
  | .tup [b, .str w, n, m] => fromB b 0 8 && (wordB w && (nmB n && notedB w m))
  | _ => false
/-- `a and b` of a text's row, both truths -/
theorem and_go {p : Prop} {a b : Bool} {K : D → Prop} (h : K (.bl (a && b))) : (if a = true then K (.bl b) else K (.bl a)) := by
  cases a <;> exact h
theorem row_no {xs : List D} (hx : xs.length ≠ 4) : rowB (.tup xs) = false := by
  unfold rowB
  split
  · rename_i e; cases e; exact absurd rfl hx
  · rfl
theorem row_nos {b w n m : D} (hw : isTy w .str = false) : rowB (.tup [b, w, n, m]) = false := by
  cases w <;> first | rfl | exact nomatch hw

/-- a row's four parts, as they should be -/
structure RowOk (a : Int) (w n : Tx) (m : Int) : Prop where
  a0 : 0 ≤ a
  a1 : a < 8
  w1 : wordB w = true
  n1 : nameB n = true
  m0 : 0 ≤ m
  m1 : m < 9973
  m2 : bareB w = true → m = 0
abbrev rowD (a : Int) (w n : Tx) (m : Int) : D := .tup [.int a, .str w, .str n, .int m]
theorem RowOk.row {a : Int} {w n : Tx} {m : Int} (h : RowOk a w n m) : rowB (rowD a w n m) = true := by
  obtain ⟨h1, h2, h3, h4, h5, h6, h7⟩ := h
  rw [show rowB (rowD a w n m) = (fromB (.int a) 0 8 && (wordB w && (nameB n && notedB w (.int m)))) from rfl, fromB_int, decide_eq_true h1, decide_eq_true h2, h3, h4]
  unfold notedB
  rw [fromB_int, decide_eq_true h5]
  cases hb : bareB w with
  | true => rw [h7 hb]; rfl
  | false => rw [if_neg (fun e => nomatch e), decide_eq_true h6]; rfl
theorem word_tm {w : Tx} (h : wordB w = true) {n : Nat} : Tm n 60 (.str w) := by
  unfold wordB inD at h
  simp [eqd] at h
  rcases h with rfl | rfl | rfl | rfl | rfl <;> exact Tm.str (by decide) (by decide)
theorem name_tm {x : Tx} (h : nameB x = true) {n : Nat} : Tm n 60 (.str x) := by
  unfold nameB at h
  rw [Bool.and_eq_true, Bool.and_eq_true, decide_eq_true_eq, decide_eq_true_eq] at h
  refine Tm.str (List.all_eq_true.mpr fun c hc => ?_) (by omega)
  have := ltr_ok (List.all_eq_true.mp h.2 c hc)
  exact decide_eq_true (by omega)
theorem small_log {i : Int} (h0 : -1000 ≤ i) (h1 : i < 100000) : i.natAbs.log2 < 1920 := log_lt (Nat.lt_of_lt_of_le (show _ < 2 ^ 20 by omega) (by decide)) (by decide)
theorem RowOk.items {a : Int} {w n : Tx} {m : Int} (h : RowOk a w n m) {k : Nat} : ∀ d ∈ [D.int a, D.str w, D.str n, D.int m], Tm k 2010 d := by
  obtain ⟨h1, h2, h3, h4, h5, h6, h7⟩ := h
  intro d hd
  simp only [List.mem_cons, List.not_mem_nil, or_false] at hd
  rcases hd with rfl | rfl | rfl | rfl
  · exact Tm.int (small_log (by omega) (by omega)) (by decide)
  · exact (word_tm h3).mono (Nat.le_refl _) (by decide)
  · exact (name_tm h4).mono (Nat.le_refl _) (by decide)
  · exact Tm.int (small_log (by omega) (by omega)) (by decide)
theorem tup_tm {n : Nat} {xs : List D} (h : ∀ d ∈ xs, Tm n 2010 d) (hl : xs.length ≤ 8) : Tm (n + 1) 20000 (.tup xs) := (Tm.tup h hl (by decide)).mono (Nat.le_refl _) (by decide)
theorem lst_tm {n : Nat} {xs : List D} (h : ∀ d ∈ xs, Tm n 2010 d) (hl : xs.length ≤ 8) : Tm (n + 1) 20000 (.lst false xs) := (Tm.lst h hl (by decide)).mono (Nat.le_refl _) (by decide)
theorem RowOk.tm {a : Int} {w n : Tx} {m : Int} (h : RowOk a w n m) {k : Nat} : Tm (k + 1) 8100 (rowD a w n m) := (Tm.tup h.items (L := 4) (Nat.le_refl 4) (by decide)).mono (Nat.le_refl _) (by decide)
theorem row_of {d : D} (h : rowB d = true) : ∃ a w n m, d = rowD a w n m ∧ RowOk a w n m := by
  unfold rowB at h
  split at h
  · rename_i b w n m
    rw [Bool.and_eq_true, Bool.and_eq_true, Bool.and_eq_true] at h
    obtain ⟨h1, h2, h3, h4⟩ := h
    cases b with
    | int a =>
      cases n with
      | str n =>
        unfold notedB at h4
        cases m with
        | int m =>
          rw [fromB_int, Bool.and_eq_true, decide_eq_true_eq, decide_eq_true_eq] at h1 h4
          refine ⟨a, w, n, m, rfl, h1.1, h1.2, h2, h3, h4.1, ?_, fun hb => ?_⟩
          · have := h4.2; split at this <;> omega
          · rw [if_pos hb] at h4; omega
        | _ => exact nomatch h4
      | _ => exact nomatch h3
    | _ => exact nomatch h1
  · exact nomatch h

def nst (s : Int) (c : Nat) : Int := s * 27 + ((c : Int) - 97) + 1
def nameN (x : Tx) : Int := x.foldl nst 0
theorem mul_27 (s : Int) : MulOk s 27 := .inr (.inl ⟨by decide, by decide⟩)
theorem s_name_number {x : Tx} (hx : x.all ltr = true) (h : K (.int (nameN x)) st) : wC tab (k + 1) i_name_number [.str x] st K X := by
  (refine fn_go (b := B_name_number) rfl rfl ?_; unfold B_name_number; walk_at "st")
  walk_at "st"
  refine forL_fold (fun c => .str [c]) (fun b o => [_, some (.int b), o]) nst x 0 none st (fun c hc b o Q' _ _ h => ?_) fun o3 => ?_
  · unfold forB B_name_number_1
    walk_at "ev"
    walk_at "st"
    obtain ⟨i1, i2⟩ := abc_idx (List.all_eq_true.mp hx c hc)
    refine ⟨mul_27 b, i1, ?_⟩
    rw [show ((List.idxOf c _ : Nat) : Int) = (c : Int) - 97 from i2]
    exact h _
  · walk_at "nxt"
    exact h

abbrev wordsX : List Tx := [[108, 111, 97, 100], [115, 101, 116], [101, 110, 100], [108, 97, 116, 101], [114, 101, 115, 101, 116]]
theorem word_mem {w : Tx} (h : wordB w = true) : w ∈ wordsX := by
  unfold wordB inD at h
  simp [eqd] at h
  rcases h with rfl | rfl | rfl | rfl | rfl <;> decide
/-- the number of a row -/
def rowN (w n : Tx) (m : Int) : Int := (nameN n * 5 + (wordsX.idxOf w : Nat)) * 9973 + m
theorem name_all {x : Tx} (h : nameB x = true) : x.all ltr = true := by
  unfold nameB at h
  rw [Bool.and_eq_true] at h
  exact h.2
theorem mul_lit (s n : Int) (h0 : -(2 ^ 64) < n) (h1 : n < 2 ^ 64) : MulOk s n := .inr (.inl ⟨h0, h1⟩)
theorem s_row_number {a : Int} {w n : Tx} {m : Int} (hr : RowOk a w n m) (h : K (.int (rowN w n m)) st) : wC tab (k + 2) i_row_number [rowD a w n m] st K X := by
  (refine fn_go (b := B_row_number) rfl rfl ?_; unfold B_row_number; walk_at "st")
  walk_at "st"
  refine s_name_number (name_all hr.n1) ?_
  walk_at "ev"
  exact ⟨mul_lit _ _ (by decide) (by decide), word_mem hr.w1, mul_lit _ _ (by decide) (by decide), h⟩

/-- a number mixed with a row's -/
def mixN (w : D) (f v r : Int) : Int := match w with
  | .int n => (v * f + r + 1) % n
  | _ => v * 26500305465 + r + 1
theorem s_mixed {x : D} {w : D} {f v a m : Int} {wd n : Tx} (hm : MixOk w f) (hr : RowOk a wd n m) (h : K (.int (mixN w f v (rowN wd n m))) st) : wC tab (k + 3) i_Mixing_mixed__2 [mixD w f, .int v, rowD a wd n m] st K X := by
  (refine fn_go (b := B_Mixing_mixed__2) rfl rfl ?_; unfold B_Mixing_mixed__2; walk_at "st")
  rcases hm.w with rfl | ⟨q, rfl, q0, q1, hg⟩
  · walk_at "ev"
    walk_at "st"
    refine ⟨mul_lit _ _ (by decide) (by decide), ?_⟩
    refine s_row_number hr ?_
    walk_at "ev"
    exact h
  · walk_at "ev"
    walk_at "st"
    refine ⟨mul_lit _ _ (by have := hm.f0; omega) (by have := hm.f1; omega), ?_⟩
    refine s_row_number hr ?_
    walk_at "ev"
    refine ⟨by omega, ?_⟩
    exact h

/-- whether two rows' numbers lead each number to the same one -/
def alikeB (w : D) (r s : Int) : Bool := match w with
  | .int n => (r - s) % n == 0
  | _ => r - s == 0
theorem alike_self (w : D) (r : Int) : alikeB w r r = true := by
  cases w <;> simp [alikeB]
theorem alike_comm (w : D) (r s : Int) : alikeB w r s = alikeB w s r := by
  cases w with
  | int n =>
    unfold alikeB
    rw [Bool.eq_iff_iff, beq_iff_eq, beq_iff_eq, ← Int.emod_eq_emod_iff_emod_sub_eq_zero, ← Int.emod_eq_emod_iff_emod_sub_eq_zero]
    exact eq_comm
  | _ =>
    unfold alikeB
    rw [Bool.eq_iff_iff, beq_iff_eq, beq_iff_eq]
    omega
theorem alike_mix {w : D} {f v r s : Int} : (mixN w f v r == mixN w f v s) = alikeB w r s := by
  cases w with
  | int n =>
    unfold alikeB mixN
    rw [Bool.eq_iff_iff, beq_iff_eq, beq_iff_eq]
    show (v * f + r + 1) % n = (v * f + s + 1) % n ↔ _
    rw [Int.emod_eq_emod_iff_emod_sub_eq_zero, show v * f + r + 1 - (v * f + s + 1) = r - s by omega]
  | _ =>
    unfold alikeB mixN
    rw [Bool.eq_iff_iff, beq_iff_eq, beq_iff_eq]
    simp only
    omega
theorem s_alike {w : D} {f a m a' m' : Int} {wd n wd' n' : Tx} (hm : MixOk w f) (hr : RowOk a wd n m) (hr' : RowOk a' wd' n' m') (h : K (.bl (alikeB w (rowN wd n m) (rowN wd' n' m'))) st) : wC tab (k + 3) i_Mixing_alike__3 [mixD w f, rowD a wd n m, rowD a' wd' n' m'] st K X := by
  (refine fn_go (b := B_Mixing_alike__3) rfl rfl ?_; unfold B_Mixing_alike__3; walk_at "st")
  refine s_row_number hr ?_
  walk_at "ev"
  refine s_row_number hr' ?_
  walk_at "ev"
  rcases hm.w with rfl | ⟨q, rfl, q0, q1, hg⟩
  · walk_at "st"
    exact h
  · walk_at "st"
    exact ⟨by omega, h⟩

theorem Tm_cmp {n z : Nat} {d : D} (h : Tm n z d) (hn : n ≤ 64) : cmpOk d = true := by
  have h1 := okS_dep n d h.1
  unfold cmpOk
  rw [(shS_plain d h.2.1).1, decide_eq_true (show dep d ≤ 64 by omega)]; rfl
theorem ne_go {a b : D} {K : Bool → Prop} (ha : cmpOk a = true) (hb : cmpOk b = true) (h : K (!eqd a b)) : cmpW .ne a b K := ⟨by rw [ha, hb]; cases scl a b <;> rfl, h⟩
/-- a row of a log that may be turned into what is told -/
def turnB (ds : List D) : D → List D → Bool
  | .int i, [r] => fromB (.int i) 0 ds.length && (rowB r && !eqd r (ds.getD i.toNat .non))
  | _, _ => false
theorem turn_one {ds : List D} {i : Int} {r : D} : turnB ds (.int i) [r] = (fromB (.int i) 0 ds.length && (rowB r && !eqd r (ds.getD i.toNat .non))) := (rfl)
theorem from_int {p : D} {a b : Int} (h : fromB p a b = true) : ∃ i : Int, p = .int i ∧ a ≤ i ∧ i < b := by
  cases p with
  | int i => rw [fromB_int, Bool.and_eq_true, decide_eq_true_eq, decide_eq_true_eq] at h; exact ⟨i, rfl, h.1, h.2⟩
  | _ => cases h
theorem turn_no {ds rest : List D} {p : D} (h : fromB p 0 ds.length = false ∨ rest.length ≠ 1) : turnB ds p rest = false := by
  unfold turnB
  split
  · rcases h with h | h
    · rw [h]; rfl
    · exact absurd rfl h
  · rfl

/-- a row of a log that may be moved there -/
def movedB (ds : List D) : D → List D → Bool
  | p, [r] => fromB p 0 ds.length && (fromB r 0 ds.length && !eqd p r)
  | _, _ => false
theorem moved_one {ds : List D} {p r : D} : movedB ds p [r] = (fromB p 0 ds.length && (fromB r 0 ds.length && !eqd p r)) := (rfl)
theorem moved_no {ds rest : List D} {p : D} (h : rest.length ≠ 1) : movedB ds p rest = false := by
  unfold movedB
  split
  · exact absurd rfl h
  · rfl

abbrev OUTW : Tx := [111, 117, 116]
abbrev PUTW : Tx := [112, 117, 116]
abbrev TURNW : Tx := [116, 117, 114, 110]
abbrev MOVEW : Tx := [109, 111, 118, 101]
def putB (ds : List D) (p : D) : List D → Bool
  | [r] => fromB p 0 (ds.length + 1) && rowB r
  | _ => false
/-- a step of a log -/
def stepB (ds : List D) : D → Bool
  | .tup (.str w :: p :: rest) => if (w == OUTW) = true then rest.isEmpty && fromB p 0 ds.length else if (w == PUTW) = true then putB ds p rest else if (w == TURNW) = true then turnB ds p rest else (w == MOVEW) && movedB ds p rest
  | _ => false
theorem tm_list0 {n z : Nat} {xs : List D} (h : ∀ x ∈ xs, Tm n z x) (hn : n ≤ 63) : cmpOk (.lst false xs) = true := by
  have h1 : okSs n xs = true := okSs_of fun x m => (h x m).1
  have h2 : shSL xs = true := shSL_of fun x m => (h x m).2.1
  have h3 := okSs_dep n xs h1
  show (plainL xs && decide (depL xs + 1 ≤ 64)) = true
  rw [(shS_plains xs h2).1, decide_eq_true (show depL xs + 1 ≤ 64 by omega)]; rfl

/-- a step of a log, and the log behind it -/
inductive StepR (ds : List D) : D → List D → Prop
  | out (i : Nat) (h : i < ds.length) : StepR ds (.tup [.str OUTW, .int i]) (ds.eraseIdx i)
  | put (i : Nat) (r : D) (h : i ≤ ds.length) (hr : rowB r = true) : StepR ds (.tup [.str PUTW, .int i, r]) (ds.take i ++ [r] ++ ds.drop i)
  | turn (i : Nat) (r : D) (h : i < ds.length) (hr : rowB r = true) (ne : eqd r (ds.getD i .non) = false) : StepR ds (.tup [.str TURNW, .int i, r]) (ds.set i r)
  | move (i j : Nat) (h : i < ds.length) (h2 : j < ds.length) (ne : i ≠ j) : StepR ds (.tup [.str MOVEW, .int i, .int j]) ((ds.eraseIdx i).take j ++ [ds.getD i .non] ++ (ds.eraseIdx i).drop j)
theorem step_ok {ds res : List D} {t : D} (h : StepR ds t res) : stepB ds t = true := by
  cases h with
  | out i h =>
    show (true && fromB (.int i) 0 ds.length) = true
    rw [fromB_int, decide_eq_true (show (0 : Int) ≤ i by omega), decide_eq_true (show (i : Int) < ds.length by omega)]; rfl
  | put i r h hr =>
    show (fromB (.int i) 0 (ds.length + 1) && rowB r) = true
    rw [fromB_int, decide_eq_true (show (0 : Int) ≤ i by omega), decide_eq_true (show (i : Int) < ds.length + 1 by omega), hr]; rfl
  | turn i r h hr ne =>
    show (fromB (.int i) 0 ds.length && (rowB r && !eqd r (ds.getD (i : Int).toNat .non))) = true
    rw [fromB_int, decide_eq_true (show (0 : Int) ≤ i by omega), decide_eq_true (show (i : Int) < ds.length by omega), hr, Int.toNat_natCast, ne]; rfl
  | move i j h h2 ne =>
    show (fromB (.int i) 0 ds.length && (fromB (.int j) 0 ds.length && !((i : Int) == j))) = true
    rw [fromB_int, fromB_int, decide_eq_true (show (0 : Int) ≤ i by omega), decide_eq_true (show (i : Int) < ds.length by omega), decide_eq_true (show (0 : Int) ≤ j by omega), decide_eq_true (show (j : Int) < ds.length by omega)]
    have : ((i : Int) == j) = false := by simp; omega
    rw [this]; rfl

theorem nfL_mem : ∀ {ds : List D}, nfL ds = true → ∀ x ∈ ds, nf x = true
  | y :: ys, h, x, m => by
    rw [nfL, Bool.and_eq_true] at h
    rcases List.mem_cons.mp m with rfl | m
    · exact h.1
    · exact nfL_mem h.2 x m
theorem s_pick {o : Bool} {b c : Nat} {ds : List D} (hf : fzL ds = ds) (hn : nfL ds = true) (h0 : 0 < ds.length) (hl : ds.length ≤ Lim) (hb : Bud st b (c + 1)) (h : ∀ d ∈ ds, ∀ st', Bud st' b c → K d st') : wC tab (k + 2) i__law_pick [.ptr b, .lst o ds] st K X := by
  (refine fn_go (b := B__law_pick) rfl rfl ?_; unfold B__law_pick; walk_at "st")
  have hL : Lim = 16777216 := rfl
  rw [hf]
  refine take_ok tT hb (by omega) (by have : ds.length < 10 ^ 70 := Nat.lt_of_le_of_lt hl (by decide); omega) fun r _ r0 r1 _ => ?_
  walk_at "ev"
  refine pick_ok r0 (by simpa using r1) fun d m => ⟨?_, h d m _ ‹_›⟩
  exact nfL_mem hn d m

theorem s_note {b c : Nat} (hb : Bud st b (c + 2)) (h : ∀ (r : Int) st', 0 ≤ r → r < 9973 → Bud st' b c → K (.int r) st') : wC tab (k + 2) i__law_note [.ptr b] st K X := by
  (refine fn_go (b := B__law_note) rfl rfl ?_; unfold B__law_note; walk_at "st")
  (walk_at "sides"; refine take_ok tT (by walk_at "bud") (by walk_at "pos") (by walk_at "pos") fun q _ q0 q1 _ => ?_; walk_at "ev")
  refine pick_ok q0 (by simpa using q1) fun d m => ?_
  obtain ⟨z, rfl, z0, z1⟩ : ∃ z : Int, d = .int z ∧ 0 < z ∧ z ≤ 9973 := by
    simp at m
    rcases m with rfl | rfl | rfl <;> exact ⟨_, rfl, by decide, by decide⟩
  walk_at "ev"
  (walk_at "sides"; refine take_ok tT (by walk_at "bud") (by walk_at "pos") (by walk_at "pos") fun n _ n0 n1 _ => ?_; walk_at "ev")
  exact h n _ n0 (by omega) ‹_›

theorem s_row2m {o : Bool} {b c : Nat} {xs : List Tx} {w : Tx} {size : Int} (hw : wordB w = true) (hx : ∀ x ∈ xs, nameB x = true) (hl : 0 < xs.length) (hl2 : xs.length ≤ 100) (h0 : 0 < size) (h8 : size ≤ 8) (hb : Bud st b (c + 4)) (h : ∀ (a : Int) (n : Tx) (m : Int) st', RowOk a w n m → a < size → n ∈ xs → Bud st' b c → K (rowD a w n m) st') : wC tab (k + 3) i__law_row__2 [.ptr b, .lst o (xs.map D.str), .str w, .int size] st K X := by
  (refine fn_go (b := B__law_row__2) rfl rfl ?_; unfold B__law_row__2; walk_at "st")
  walk_at "sides"
  rw [show inD (.str w) _ = bareB w from rfl]
  have hf : fzL (xs.map D.str) = xs.map D.str := fzL_strs xs
  have go : ∀ (m : Int) st', 0 ≤ m → m < 9973 → (bareB w = true → m = 0) → Bud st' b (c + 2) → wSs (wC tab (k + 2)) [.ret (.tup [.call i__law_take [.var 0, .var 3] [] [.ix 0, .ix 1], .var 2, .call i__law_pick [.var 0, .var 1] [] [.ix 0, .ix 1], .var 4])] [some (.ptr b), some (.lst o (xs.map D.str)), some (.str w), some (.int size), some (.int m)] st' ⟨fun _ s => K .non s, K, fun _ _ => False, fun _ _ => False, fun e _ s => X e s⟩ := fun m st' m0 m1 m2 hb' => by
    walk_at "st"
    (walk_at "sides"; refine take_ok tT (by walk_at "bud") (by walk_at "pos") (by walk_at "pos") fun a _ a0 a1 _ => ?_; walk_at "ev")
    refine s_pick hf (nfL_strs xs) (by rw [List.length_map]; exact hl) (by rw [List.length_map, Lim]; omega) ‹_› fun d hd st2 hb2 => ?_
    obtain ⟨n, hn, rfl⟩ := List.mem_map.mp hd
    walk_at "ev"
    walk_at "sides"
    exact h a n m st2 ⟨a0, by omega, hw, hx n hn, m0, m1, m2⟩ a1 hn hb2
  cases hbr : bareB w with
  | true =>
    walk_at "ev"
    exact go 0 st (by decide) (by decide) (fun _ => rfl) (hb.mono (by omega))
  | false =>
    walk_at "ev"
    refine s_note hb fun r st3 r0 r1 hb3 => ?_
    walk_at "ev"
    exact go r st3 r0 r1 (fun e => by rw [hbr] at e; exact nomatch e) hb3
theorem s_row2 {o : Bool} {b c : Nat} {xs : List Tx} {w : Tx} {size : Int} (hw : wordB w = true) (hx : ∀ x ∈ xs, nameB x = true) (hl : 0 < xs.length) (hl2 : xs.length ≤ 100) (h0 : 0 < size) (h8 : size ≤ 8) (hb : Bud st b (c + 4)) (h : ∀ (a : Int) (n : Tx) (m : Int) st', RowOk a w n m → a < size → Bud st' b c → K (rowD a w n m) st') : wC tab (k + 3) i__law_row__2 [.ptr b, .lst o (xs.map D.str), .str w, .int size] st K X :=
  s_row2m hw hx hl hl2 h0 h8 hb fun a n m st' h1 h2 _ h3 => h a n m st' h1 h2 h3

abbrev lateT : List D := [.str [108, 97, 116, 101], .str [114, 101, 115, 101, 116]]
abbrev RST : Tx := [114, 101, 115, 101, 116]
abbrev END : Tx := [101, 110, 100]
def lateB (w : Tx) : Bool := inD (.str w) lateT
def stR (e : Bool) (many fixed a : Int) (w : Tx) : Bool := decide (a < many) && (lateB w == e && (!(w == RST) || decide (fixed ≤ a)))
/-- stands as a row -/
def standB (e : Bool) (many fixed : Int) (d : D) : Bool := rowB d && match d with
  | .tup (.int a :: .str w :: _) => stR e many fixed a w
  | _ => false

def endB : D → Bool
  | .tup (_ :: .str w :: _) => w == END
  | _ => false
/-- the place of the first thing by which a log can't stand -/
def faultN (many fixed : Int) : Bool → Nat → List D → Option Nat
  | _, _, [] => none
  | e, i, d :: ds => if standB e many fixed d = true then faultN many fixed (e || endB d) (i + 1) ds else some i
def optD : Option Nat → D
  | none => .non
  | some i => .int i

/-- a row of a log that is not up, and no end -/
def Low (size kept : Int) (d : D) : Prop := (∃ a w n m, d = rowD a w n m ∧ RowOk a w n m) ∧ standB false size kept d = true ∧ endB d = false
/-- a row of a log that is up -/
def Upp (size kept : Int) (d : D) : Prop := (∃ a w n m, d = rowD a w n m ∧ RowOk a w n m) ∧ standB true size kept d = true
/-- a list of rows -/
def Rows (ds : List D) : Prop := ∀ d ∈ ds, ∃ a w n m, d = rowD a w n m ∧ RowOk a w n m
theorem Rows.row {ds : List D} (h : Rows ds) : ∀ d ∈ ds, rowB d = true := fun d hd => by
  obtain ⟨a, w, n, m, rfl, ok⟩ := h d hd; exact ok.row
theorem Rows.tm {ds : List D} (h : Rows ds) {k : Nat} : ∀ d ∈ ds, Tm (k + 1) 8100 d := fun d hd => by
  obtain ⟨a, w, n, m, rfl, ok⟩ := h d hd; exact ok.tm
theorem Rows.app {a b : List D} (h : Rows a) (g : Rows b) : Rows (a ++ b) := fun d hd => by
  rcases List.mem_append.mp hd with hd | hd
  · exact h d hd
  · exact g d hd
theorem fault_low {size kept : Int} : ∀ (ds : List D) (i : Nat), (∀ d ∈ ds, Low size kept d) → faultN size kept false i ds = none
  | [], _, _ => rfl
  | d :: ds, i, h => by
    obtain ⟨_, h1, h2⟩ := h d List.mem_cons_self
    rw [faultN, if_pos h1, h2]
    exact fault_low ds (i + 1) fun y hy => h y (List.mem_cons_of_mem _ hy)
theorem fault_up {size kept : Int} : ∀ (ds : List D) (i : Nat), (∀ d ∈ ds, Upp size kept d) → faultN size kept true i ds = none
  | [], _, _ => rfl
  | d :: ds, i, h => by
    obtain ⟨_, h1⟩ := h d List.mem_cons_self
    rw [faultN, if_pos h1, Bool.true_or]
    exact fault_up ds (i + 1) fun y hy => h y (List.mem_cons_of_mem _ hy)
theorem fault_app {size kept : Int} : ∀ (xs ys : List D) (e : Bool) (i : Nat), faultN size kept e i (xs ++ ys) = match faultN size kept e i xs with
    | some j => some j
    | none => faultN size kept (e || xs.any endB) (i + xs.length) ys
  | [], ys, e, i => by simp [faultN]
  | x :: xs, ys, e, i => by
    rw [List.cons_append, faultN, faultN]
    cases hs : standB e size kept x with
    | false => rfl
    | true =>
      rw [if_pos rfl, if_pos rfl, fault_app xs ys]
      rw [List.any_cons, List.length_cons, Bool.or_assoc, show i + 1 + xs.length = i + (xs.length + 1) by omega]
theorem stand_row {e : Bool} {size kept a m : Int} {w n : Tx} (ok : RowOk a w n m) : standB e size kept (rowD a w n m) = stR e size kept a w := by unfold standB; rw [ok.row]; rfl
theorem low_row {size kept a m : Int} {w n : Tx} (ok : RowOk a w n m) (h : a < size) (hw : w = [108, 111, 97, 100] ∨ w = [115, 101, 116]) : Low size kept (rowD a w n m) := by
  refine ⟨⟨_, _, _, _, rfl, ok⟩, ?_, ?_⟩
  · rw [stand_row ok]
    unfold stR
    rw [decide_eq_true h]
    rcases hw with rfl | rfl <;> rfl
  · rcases hw with rfl | rfl <;> rfl
theorem fault_log {size kept a m : Int} {n : Tx} {xs ys : List D} (hx : ∀ d ∈ xs, Low size kept d) (hy : ∀ d ∈ ys, Upp size kept d) (ok : RowOk a END n m) (h : a < size) : faultN size kept false 0 (xs ++ [rowD a END n m] ++ ys) = none := by
  rw [List.append_assoc, fault_app, fault_low xs 0 hx]
  show faultN size kept (false || xs.any endB) (0 + xs.length) (rowD a END n m :: ys) = none
  rw [show xs.any endB = false by rw [List.any_eq_false]; intro d hd; rw [(hx d hd).2.2]; exact fun e => nomatch e]
  rw [faultN, stand_row ok]
  unfold stR
  rw [decide_eq_true h]
  exact fault_up ys _ hy
abbrev LATE : Tx := [108, 97, 116, 101]
theorem two_pick {b : Bool} {x y : D} {K : D → Prop} (h : ∀ d, (d = x ∨ (d = y ∧ b = true)) → K d) : onV (atx [x, y] (if b = true then 1 else 0)) K := by
  cases b with
  | false => exact h x (.inl rfl)
  | true => exact h y (.inr ⟨rfl, rfl⟩)
theorem upp_row {size kept a m : Int} {w n : Tx} (ok : RowOk a w n m) (h : a < size) (hw : w = LATE ∨ (w = RST ∧ kept ≤ a)) : Upp size kept (rowD a w n m) := by
  refine ⟨⟨_, _, _, _, rfl, ok⟩, ?_⟩
  rw [stand_row ok]
  unfold stR
  rw [decide_eq_true h]
  rcases hw with rfl | ⟨rfl, h2⟩
  · rfl
  · rw [decide_eq_true h2]; rfl

/-- a number from 0 on -/
def cntB : D → Bool
  | .int i => decide (0 ≤ i)
  | _ => false

def low8 : D → Bool
  | .int i => decide (i < 8)
  | _ => false
/-- a board with its value -/
def valB : D → Bool
  | .tup [a, b] => cntB a && cntB b && low8 a
  | _ => false
theorem val_no {xs : List D} (hx : xs.length ≠ 2) : valB (.tup xs) = false := by
  unfold valB
  split
  · rename_i e; cases e; exact absurd rfl hx
  · rfl

/-- of two boards with values, whether the one's is less -/
def lessB : D → D → Bool
  | .tup (.int a :: _), .tup (.int b :: _) => decide (a < b)
  | _, _ => false
/-- each less than the next -/
def chainB : List D → Bool
  | x :: y :: r => lessB x y && chainB (y :: r)
  | _ => true
def valsB (ds : List D) : Bool := ds.all valB && chainB ds
theorem chain_zip : ∀ ds : List D, ((ds.zip (ds.drop 1)).map fun p => lessB p.1 p.2).all id = chainB ds
  | [] => rfl
  | [_] => rfl
  | x :: y :: r => by
    have := chain_zip (y :: r)
    show (lessB x y && _) = _
    rw [chainB, ← this]; rfl
theorem val_of {d : D} (h : valB d = true) : ∃ a b : Int, d = .tup [.int a, .int b] ∧ 0 ≤ a ∧ a < 8 ∧ 0 ≤ b := by
  unfold valB at h
  split at h
  · rename_i a b
    rw [Bool.and_eq_true, Bool.and_eq_true] at h
    obtain ⟨⟨h1, h2⟩, h3⟩ := h
    cases a with
    | int i =>
      cases b with
      | int j => exact ⟨_, _, rfl, of_decide_eq_true h1, of_decide_eq_true h3, of_decide_eq_true h2⟩
      | _ => cases h2
    | _ => cases h1
  · cases h
theorem bools_map (g : D → Bool) : ∀ ds : List D, bools (ds.map fun x => .bl (g x)) = some (ds.map g)
  | [] => rfl
  | d :: ds => by
    have := bools_of ((d :: ds).map g)
    rw [List.map_map] at this
    exact this
theorem zip_eq : ∀ xs ys : List D, zipD xs ys = (xs.zip ys).map fun p => D.tup [p.1, p.2]
  | [], _ => rfl
  | _ :: _, [] => rfl
  | x :: xs, y :: ys => congrArg (D.tup [x, y] :: ·) (zip_eq xs ys)
theorem bools_mapP {α : Type} (g : α → Bool) : ∀ ds : List α, fzL (ds.map fun x => D.bl (g x)) = (ds.map fun x => D.bl (g x)) ∧ bools (ds.map fun x => .bl (g x)) = some (ds.map g) := fun ds => by
  have := bools_of (ds.map g)
  have h2 := fzL_bls (ds.map g)
  rw [List.map_map] at this h2
  exact ⟨h2, this⟩
def valsD : D → Bool
  | .tup ds => valsB ds
  | _ => false

theorem s_lnn {x : Tx} (hx : x.all ltr = true) (h : K (.int (nameN x)) st) : wC tab (k + 1) i__law_name_number [.str x] st K X := by
  (refine fn_go (b := B__law_name_number) rfl rfl ?_; unfold B__law_name_number; walk_at "st")
  walk_at "st"
  refine forL_fold (fun c => .str [c]) (fun b o => [_, some (.int b), o]) nst x 0 none st (fun c hc b o Q' _ _ h => ?_) fun o3 => ?_
  · unfold forB B__law_name_number_1
    walk_at "ev"
    walk_at "st"
    obtain ⟨i1, i2⟩ := abc_idx (List.all_eq_true.mp hx c hc)
    refine ⟨mul_27 b, i1, ?_⟩
    rw [show ((List.idxOf c _ : Nat) : Int) = (c : Int) - 97 from i2]
    exact h _
  · walk_at "nxt"
    exact h

/-- pairs as numbers -/
def flatP (ps : List (Int × Int)) : List Int := (ps.map fun p => [p.1, p.2]).flatten
/-- a quote's numbers -/
def numsN (x : Tx) (s n : Int) (ps : List (Int × Int)) : List Int := [nameN x, s, n] ++ flatP ps
def prD (p : Int × Int) : D := .tup [.int p.1, .int p.2]
theorem fz_prs : ∀ ps : List (Int × Int), fzL (ps.map prD) = ps.map prD
  | [] => rfl
  | p :: ps => congrArg (prD p :: ·) (fz_prs ps)
theorem nf_prs : ∀ ps : List (Int × Int), nfL (ps.map prD) = true
  | [] => rfl
  | p :: ps => nf_prs ps

theorem e6 : (10 : Int) ^ Int.toNat 6 = 1000000 := by decide
theorem e6' : (10 : Int) ^ Int.toNat 6 + 1 = 1000001 := by decide
theorem e30 : (10 : Int) ^ Int.toNat 30 = 1000000000000000000000000000000 := by decide
theorem e60 : (10 : Int) ^ Int.toNat 60 = 1000000000000000000000000000000000000000000000000000000000000 := by decide


theorem chain_of : ∀ ps : List (Int × Int), ps.Pairwise (fun p q => p.1 < q.1) → chainB (ps.map prD) = true
  | [], _ => rfl
  | [_], _ => rfl
  | p :: q :: r, h => by
    have h2 := List.pairwise_cons.mp h
    show (decide (p.1 < q.1) && chainB ((q :: r).map prD)) = true
    rw [decide_eq_true (h2.1 q List.mem_cons_self), chain_of (q :: r) h2.2]; rfl
structure PairsOk (ps : List (Int × Int)) : Prop where
  len : ps.length ≤ 8
  val : ∀ p ∈ ps, (0 ≤ p.1 ∧ p.1 < 8) ∧ 0 ≤ p.2 ∧ p.2 < 10 ^ 181
  pw : ps.Pairwise (fun p q => p.1 < q.1)

theorem compLL_mk {α : Type} {body : D → Env → Stt → (List D → Env → Stt → Prop) → Prop} (g : α → D) (f : α → List D) {env : Env} {st : Stt} : ∀ (xs : List α) (K : List D → Env → Stt → Prop),
    (∀ x ∈ xs, ∀ K', K' (f x) env st → body (g x) env st K') → K (xs.map f).flatten env st → compLL body (xs.map g) env st K
  | [], K, _, h => h
  | x :: xs, K, hb, h => by
    refine hb x List.mem_cons_self _ ?_
    exact compLL_mk g f xs _ (fun y m => hb y (List.mem_cons_of_mem _ m)) h
theorem flat_ints : ∀ ps : List (Int × Int), (ps.map fun p => [D.int p.1, D.int p.2]).flatten = (flatP ps).map D.int
  | [] => rfl
  | p :: ps => by
    show D.int p.1 :: D.int p.2 :: (ps.map fun p => [D.int p.1, D.int p.2]).flatten = D.int p.1 :: D.int p.2 :: (flatP ps).map D.int
    rw [flat_ints ps]
theorem flat_len : ∀ ps : List (Int × Int), (flatP ps).length = 2 * ps.length
  | [] => rfl
  | p :: ps => by
    show (flatP ps).length + 1 + 1 = 2 * (ps.length + 1)
    rw [flat_len ps]; omega
theorem fz_int : ∀ ns : List Int, fzL (ns.map D.int) = ns.map D.int
  | [] => rfl
  | n :: ns => congrArg (D.int n :: ·) (fz_int ns)

/-- all steps of a log, the rows told being of some -/
def outL (n : Nat) : List D := (List.range n).map fun i : Nat => .tup [.str OUTW, .int i]
def putL (rs : List D) (i : Nat) : List D := rs.map fun r => .tup [.str PUTW, .int i, r]
def turnL (ds rs : List D) (i : Nat) : List D := (rs.filter fun r => !eqd r (ds.getD i .non)).map fun r => .tup [.str TURNW, .int i, r]
def moveL (n i : Nat) : List D := ((List.range n).filter fun j : Nat => !((j : Int) == (i : Int))).map fun j : Nat => .tup [.str MOVEW, .int i, .int j]
def stepsL (ds rs : List D) : List D := outL ds.length ++ ((List.range (ds.length + 1)).map (putL rs)).flatten ++ ((List.range ds.length).map (turnL ds rs)).flatten ++ ((List.range ds.length).map (moveL ds.length)).flatten
/-- the log behind a step -/
def behL (ds : List D) : D → List D
  | .tup [.str _, .int i] => ds.eraseIdx i.toNat
  | .tup [.str w, .int i, x] => if w = PUTW then ds.take i.toNat ++ [x] ++ ds.drop i.toNat else if w = TURNW then ds.set i.toNat x else match x with
    | .int j => (ds.eraseIdx i.toNat).take j.toNat ++ [ds.getD i.toNat .non] ++ (ds.eraseIdx i.toNat).drop j.toNat
    | _ => []
  | _ => []
theorem mem_flat_range {n : Nat} {f : Nat → List D} {d : D} (h : d ∈ ((List.range n).map f).flatten) : ∃ i, i < n ∧ d ∈ f i := by
  obtain ⟨l, hl, hd⟩ := List.mem_flatten.mp h
  obtain ⟨i, hi, rfl⟩ := List.mem_map.mp hl
  exact ⟨i, List.mem_range.mp hi, hd⟩
theorem steps_R {ds rs : List D} (hr : ∀ r ∈ rs, rowB r = true) {t : D} (h : t ∈ stepsL ds rs) : StepR ds t (behL ds t) := by
  unfold stepsL at h
  simp only [List.mem_append] at h
  rcases h with ((h | h) | h) | h
  · obtain ⟨i, hi, rfl⟩ := List.mem_map.mp h
    exact .out i (List.mem_range.mp hi)
  · obtain ⟨i, hi, h⟩ := mem_flat_range h
    obtain ⟨r, hm, rfl⟩ := List.mem_map.mp h
    exact .put i r (by omega) (hr r hm)
  · obtain ⟨i, hi, h⟩ := mem_flat_range h
    obtain ⟨r, hm, rfl⟩ := List.mem_map.mp h
    have := List.mem_filter.mp hm
    exact .turn i r hi (hr r this.1) (by simpa using this.2)
  · obtain ⟨i, hi, h⟩ := mem_flat_range h
    obtain ⟨j, hm, rfl⟩ := List.mem_map.mp h
    have := List.mem_filter.mp hm
    refine .move i j hi (List.mem_range.mp this.1) fun e => ?_
    have h2 := this.2
    rw [e] at h2
    simp at h2
theorem step_tm2 {n z : Nat} {ds rs : List D} (hr : ∀ r ∈ rs, Tm n z r) (hl : ds.length ≤ 10000) (hz : 2000 ≤ z) {t : D} (h : t ∈ stepsL ds rs) : Tm (n + 1) ((z + 2) * 3 + 3) t := by
  have tI : ∀ i : Nat, i ≤ 10000 → Tm n z (.int i) := fun i hi => Tm.int (small_log (by omega) (by omega)) hz
  have tS : ∀ u : Tx, (u.all fun c => decide (c < 1114112)) = true → u.length ≤ 10 → Tm n z (.str u) := fun u h1 h2 => Tm.str h1 (by omega)
  unfold stepsL at h
  simp only [List.mem_append] at h
  rcases h with ((h | h) | h) | h
  · obtain ⟨i, hi, rfl⟩ := List.mem_map.mp h
    have := List.mem_range.mp hi
    exact Tm.tup (L := 3) (fun y m => by
      simp only [List.mem_cons, List.not_mem_nil, or_false] at m
      rcases m with rfl | rfl
      · exact tS _ (by decide) (by decide)
      · exact tI i (by omega)) (show 2 ≤ 3 by decide) (by decide)
  · obtain ⟨i, hi, h⟩ := mem_flat_range h
    obtain ⟨r, hm, rfl⟩ := List.mem_map.mp h
    exact Tm.tup (L := 3) (fun y m => by
      simp only [List.mem_cons, List.not_mem_nil, or_false] at m
      rcases m with rfl | rfl | rfl
      · exact tS _ (by decide) (by decide)
      · exact tI i (by omega)
      · exact hr _ hm) (show 3 ≤ 3 by decide) (by decide)
  · obtain ⟨i, hi, h⟩ := mem_flat_range h
    obtain ⟨r, hm, rfl⟩ := List.mem_map.mp h
    exact Tm.tup (L := 3) (fun y m => by
      simp only [List.mem_cons, List.not_mem_nil, or_false] at m
      rcases m with rfl | rfl | rfl
      · exact tS _ (by decide) (by decide)
      · exact tI i (by omega)
      · exact hr _ (List.mem_filter.mp hm).1) (show 3 ≤ 3 by decide) (by decide)
  · obtain ⟨i, hi, h⟩ := mem_flat_range h
    obtain ⟨j, hm, rfl⟩ := List.mem_map.mp h
    have := List.mem_range.mp (List.mem_filter.mp hm).1
    exact Tm.tup (L := 3) (fun y m => by
      simp only [List.mem_cons, List.not_mem_nil, or_false] at m
      rcases m with rfl | rfl | rfl
      · exact tS _ (by decide) (by decide)
      · exact tI i (by omega)
      · exact tI j (by omega)) (show 3 ≤ 3 by decide) (by decide)
theorem step_rows {ds res : List D} {t : D} (hs : StepR ds t res) (hd : Rows ds) : Rows res ∧ res.length ≤ ds.length + 1 := by
  cases hs with
  | out i hi => exact ⟨fun d m => hd d (List.mem_of_mem_eraseIdx m), by rw [List.length_eraseIdx_of_lt hi]; omega⟩
  | put i r hi hr =>
    refine ⟨fun d m => ?_, by rw [List.length_append, List.length_append, List.length_take, List.length_drop, List.length_singleton]; omega⟩
    simp only [List.mem_append, List.mem_singleton] at m
    rcases m with (m | rfl) | m
    · exact hd d (List.mem_of_mem_take m)
    · exact row_of hr
    · exact hd d (List.mem_of_mem_drop m)
  | turn i r hi hr ne =>
    refine ⟨fun d m => ?_, by rw [List.length_set]; omega⟩
    rcases List.mem_or_eq_of_mem_set m with m | rfl
    · exact hd d m
    · exact row_of hr
  | move i j hi hj ne =>
    have hgd : ds.getD i .non = ds[i] := by rw [List.getD_eq_getElem?_getD, List.getElem?_eq_getElem hi]; rfl
    have hle : (ds.eraseIdx i).length = ds.length - 1 := List.length_eraseIdx_of_lt hi
    refine ⟨fun d m => ?_, by rw [List.length_append, List.length_append, List.length_take, List.length_drop, List.length_singleton]; omega⟩
    simp only [List.mem_append, List.mem_singleton] at m
    rcases m with (m | rfl) | m
    · exact hd d (List.mem_of_mem_eraseIdx (List.mem_of_mem_take m))
    · rw [hgd]; exact hd _ (List.getElem_mem hi)
    · exact hd d (List.mem_of_mem_eraseIdx (List.mem_of_mem_drop m))
theorem compL_filA {α : Type} {body : D → Env → Stt → (Option D → Env → Stt → Prop) → Prop} (g : α → D) (P : α → Bool) (r : α → D) {env : Env} {st : Stt} : ∀ (xs : List α) (K : List D → Env → Stt → Prop),
    (∀ x ∈ xs, ∀ K' : Option D → Env → Stt → Prop, K' (if P x = true then some (r x) else none) env st → body (g x) env st K') → K ((xs.filter P).map r) env st → compL body (xs.map g) env st K
  | [], K, _, h => h
  | x :: xs, K, hb, h => by
    refine hb x List.mem_cons_self _ ?_
    cases e : P x with
    | true =>
      rw [List.filter_cons_of_pos e] at h
      exact compL_filA g P r xs _ (fun y m => hb y (List.mem_cons_of_mem _ m)) h
    | false =>
      rw [List.filter_cons_of_neg (by rw [e]; exact fun h => nomatch h)] at h
      exact compL_filA g P r xs _ (fun y m => hb y (List.mem_cons_of_mem _ m)) h
theorem compL_filD {body : D → Env → Stt → (Option D → Env → Stt → Prop) → Prop} (P : D → Bool) (r : D → D) {env : Env} {st : Stt} (xs : List D) (K : List D → Env → Stt → Prop)
    (hb : ∀ x ∈ xs, ∀ K' : Option D → Env → Stt → Prop, K' (if P x = true then some (r x) else none) env st → body x env st K') (h : K ((xs.filter P).map r) env st) : compL body xs env st K := by
  have := compL_filA (body := body) id P r xs K hb h
  rwa [List.map_id] at this
theorem rangeD0 (n : Nat) : rangeD 0 (n : Int) = (List.range n).map fun i : Nat => D.int (i : Int) := by
  unfold rangeD
  rw [Int.sub_zero, Int.toNat_natCast]
  exact List.map_congr_left fun i _ => by rw [Int.zero_add]
theorem rng_flat (g : Nat → List D) (i : Nat) : ((List.range (i + 1)).map g).flatten = ((List.range i).map g).flatten ++ g i := by
  rw [List.range_succ, List.map_append, List.flatten_append]; simp
theorem fz_rng (n : Nat) : fzL ((List.range n).map fun i : Nat => D.int (i : Int)) = (List.range n).map fun i : Nat => D.int (i : Int) := by
  have := fzL_ints ((List.range n).map fun i : Nat => (i : Int))
  rwa [List.map_map] at this
theorem nf_rng (n : Nat) : nfL ((List.range n).map fun i : Nat => D.int (i : Int)) = true := by
  have := nfL_ints ((List.range n).map fun i : Nat => (i : Int))
  rwa [List.map_map] at this
theorem steps_len {ds rs : List D} (hl : ds.length ≤ 60) (hlr : rs.length ≤ 10) : (stepsL ds rs).length ≤ 100000 := by
  have fl : ∀ (g : Nat → List D) (c : Nat) (n : Nat), (∀ i, (g i).length ≤ c) → ((List.range n).map g).flatten.length ≤ n * c := fun g c n hg => by
    induction n with
    | zero => exact Nat.zero_le _
    | succ n ih => rw [rng_flat, List.length_append, Nat.succ_mul]; exact Nat.add_le_add ih (hg n)
  unfold stepsL outL
  rw [List.length_append, List.length_append, List.length_append, List.length_map, List.length_range]
  have h1 := fl (putL rs) 10 (ds.length + 1) fun i => by unfold putL; rw [List.length_map]; exact hlr
  have h2 := fl (turnL ds rs) 10 ds.length fun i => by unfold turnL; rw [List.length_map]; exact Nat.le_trans (List.length_filter_le _ _) hlr
  have h3 := fl (moveL ds.length) 60 ds.length fun i => by unfold moveL; rw [List.length_map]; exact Nat.le_trans (List.length_filter_le _ _) (by rw [List.length_range]; exact hl)
  omega
theorem ext_go {xs ys : List D} {o : Bool} {K : D → List D → Prop} (hl : xs.length + ys.length ≤ 1000000) (h1 : nfL xs = true) (h2 : nfL ys = true) (h : K .non (xs ++ ys)) : mcW .extend xs [.lst o ys] K :=
  ⟨Nat.le_trans hl (by decide), by rw [h1, h2]; rfl, h⟩

/-- a row's number -/
def rnD : D → Int
  | .tup [.int _, .str w, .str n, .int _m] => rowN w n _m
  | _ => 0
/-- whether the rows at two places are alike -/
def alkP (w : D) (rs : List D) (i j : Nat) : Bool := alikeB w (rnD (rs.getD i .non)) (rnD (rs.getD j .non))
def prN (p q : Nat) : Int × Int := ((p : Int), (q : Int))
/-- the pairs of places of rows that are alike, the first ones first -/
def hidL (w : D) (rs : List D) : List (Int × Int) := ((List.range rs.length).map fun p => ((List.range' (p + 1) (rs.length - (p + 1))).filter fun q => alkP w rs p q).map fun q => prN p q).flatten
/-- .. the last ones first -/
def hidR (w : D) (rs : List D) : List (Int × Int) := ((List.range rs.length).map fun q => ((List.range q).filter fun p => alkP w rs p q).map fun p => prN p q).flatten
theorem hid_mem {w : D} {rs : List D} {x : Int × Int} : x ∈ hidL w rs ↔ ∃ p q, p < q ∧ q < rs.length ∧ alkP w rs p q = true ∧ x = prN p q := by
  unfold hidL
  rw [List.mem_flatten]
  constructor
  · rintro ⟨l, hl, hx⟩
    obtain ⟨p, hp, rfl⟩ := List.mem_map.mp hl
    obtain ⟨q, hq, rfl⟩ := List.mem_map.mp hx
    obtain ⟨h1, h2⟩ := List.mem_filter.mp hq
    rw [List.mem_range'_1] at h1
    rw [List.mem_range] at hp
    exact ⟨p, q, by omega, by omega, h2, rfl⟩
  · rintro ⟨p, q, h1, h2, h3, rfl⟩
    exact ⟨_, List.mem_map.mpr ⟨p, List.mem_range.mpr (by omega), rfl⟩, List.mem_map.mpr ⟨q, List.mem_filter.mpr ⟨by rw [List.mem_range'_1]; omega, h3⟩, rfl⟩⟩
theorem hidR_mem {w : D} {rs : List D} {x : Int × Int} : x ∈ hidR w rs ↔ ∃ p q, p < q ∧ q < rs.length ∧ alkP w rs p q = true ∧ x = prN p q := by
  unfold hidR
  rw [List.mem_flatten]
  constructor
  · rintro ⟨l, hl, hx⟩
    obtain ⟨q, hp, rfl⟩ := List.mem_map.mp hl
    obtain ⟨p, hq, rfl⟩ := List.mem_map.mp hx
    obtain ⟨h1, h2⟩ := List.mem_filter.mp hq
    rw [List.mem_range] at h1 hp
    exact ⟨p, q, by omega, by omega, h2, rfl⟩
  · rintro ⟨p, q, h1, h2, h3, rfl⟩
    exact ⟨_, List.mem_map.mpr ⟨q, List.mem_range.mpr h2, rfl⟩, List.mem_map.mpr ⟨p, List.mem_filter.mpr ⟨List.mem_range.mpr h1, h3⟩, rfl⟩⟩
theorem range_pw : ∀ n : Nat, (List.range n).Pairwise (· < ·) := fun n => List.pairwise_lt_range
theorem hid_lt (w : D) (rs : List D) : (hidL w rs).Pairwise fun x y => x.1 < y.1 ∨ (x.1 = y.1 ∧ x.2 < y.2) := by
  unfold hidL
  rw [List.pairwise_flatten]
  constructor
  · intro l hl
    obtain ⟨p, hp, rfl⟩ := List.mem_map.mp hl
    rw [List.pairwise_map]
    refine ((List.pairwise_lt_range' (s := p + 1) (n := rs.length - (p + 1))).filter _).imp fun h => ?_
    right
    unfold prN
    exact ⟨rfl, by show (_ : Int) < _; omega⟩
  · rw [List.pairwise_map]
    refine (range_pw _).imp fun h x hx y hy => ?_
    obtain ⟨_, _, rfl⟩ := List.mem_map.mp hx
    obtain ⟨_, _, rfl⟩ := List.mem_map.mp hy
    left
    unfold prN
    show (_ : Int) < _; omega
theorem hidR_lt (w : D) (rs : List D) : (hidR w rs).Pairwise fun x y => x.2 < y.2 ∨ (x.2 = y.2 ∧ x.1 < y.1) := by
  unfold hidR
  rw [List.pairwise_flatten]
  constructor
  · intro l hl
    obtain ⟨p, hp, rfl⟩ := List.mem_map.mp hl
    rw [List.pairwise_map]
    refine ((range_pw p).filter _).imp fun h => ?_
    right
    unfold prN
    exact ⟨rfl, by show (_ : Int) < _; omega⟩
  · rw [List.pairwise_map]
    refine (range_pw _).imp fun h x hx y hy => ?_
    obtain ⟨_, _, rfl⟩ := List.mem_map.mp hx
    obtain ⟨_, _, rfl⟩ := List.mem_map.mp hy
    left
    unfold prN
    show (_ : Int) < _; omega
/-- sorted, they are the same -/
theorem hid_sort (w : D) (rs : List D) : (hidR w rs).mergeSort leP = hidL w rs := by
  refine srtP_is ?_ ((hid_lt w rs).imp fun h => ?_)
  · refine (List.perm_ext_iff_of_nodup ((hid_lt w rs).imp fun h e => ?_) ((hidR_lt w rs).imp fun h e => ?_)).mpr fun x => by rw [hid_mem, hidR_mem]
    · rw [e] at h; omega
    · rw [e] at h; omega
  · unfold leP; rw [decide_eq_true_eq]; omega
/-- the pairs of places, the greater one by turns -/
def hidP (n : Nat) : List (Nat × Nat) := ((List.range n).map fun q => (List.range q).map fun p => (p, q)).flatten
theorem hidP_mem {n : Nat} {x : Nat × Nat} (h : x ∈ hidP n) : x.1 < x.2 ∧ x.2 < n := by
  obtain ⟨l, hl, hx⟩ := List.mem_flatten.mp h
  obtain ⟨q, hq, rfl⟩ := List.mem_map.mp hl
  obtain ⟨p, hp, rfl⟩ := List.mem_map.mp hx
  exact ⟨List.mem_range.mp hp, List.mem_range.mp hq⟩
def gPr (x : Nat × Nat) : D := prD2 (prN x.1 x.2)
theorem hidP_map (n : Nat) : ((List.range n).map fun q => (List.range q).map fun p : Nat => gPr (p, q)).flatten = (hidP n).map gPr := by
  unfold hidP
  rw [List.map_flatten, List.map_map]
  congr 1
  refine List.map_congr_left fun q _ => ?_
  show _ = ((List.range q).map fun p => (p, q)).map gPr
  rw [List.map_map]; rfl
theorem hid_filter (w : D) (rs : List D) : ((hidP rs.length).filter fun x => alkP w rs x.1 x.2).map gPr = (hidR w rs).map prD2 := by
  unfold hidR hidP
  rw [List.filter_flatten, List.map_flatten, List.map_flatten, List.map_map, List.map_map, List.map_map]
  congr 1
  refine List.map_congr_left fun q _ => ?_
  show ((((List.range q).map fun p => (p, q)).filter _).map _) = ((((List.range q).filter _).map _).map _)
  rw [List.filter_map, List.map_map, List.map_map]
  rfl
theorem hidP_len {n : Nat} (h : n ≤ 50) : (hidP n).length ≤ 2500 := by
  have key : ∀ m, (hidP m).length ≤ m * m := fun m => by
    induction m with
    | zero => exact Nat.le_refl 0
    | succ m ih =>
      unfold hidP at ih ⊢
      rw [List.range_succ, List.map_append, List.flatten_append, List.length_append, List.map_cons, List.map_nil, List.flatten_cons, List.flatten_nil, List.append_nil, List.length_map, List.length_range]
      have : (m + 1) * (m + 1) = m * m + 2 * m + 1 := by rw [Nat.add_mul, Nat.mul_add]; omega
      omega
  exact Nat.le_trans (key n) (Nat.mul_le_mul h h)
theorem prs_fz {α : Type} (g : α → Int × Int) (l : List α) : fzL (l.map fun x => prD2 (g x)) = l.map fun x => prD2 (g x) := by
  induction l with
  | nil => rfl
  | cons x l ih => rw [List.map_cons, fzL, ih]; rfl
theorem hid_tm (w : D) {rs : List D} (hl : rs.length ≤ 50) : ∀ d ∈ (hidL w rs).map prD2, Tm 1 5000 d := fun d hd => by
  obtain ⟨x, hx, rfl⟩ := List.mem_map.mp hd
  obtain ⟨p, q, h1, h2, _, rfl⟩ := hid_mem.mp hx
  refine (Tm.tup (n := 0) (z := 2000) (L := 2) (xs := [.int p, .int q]) (fun y hy => ?_) (Nat.le_refl 2) (by decide)).mono (Nat.le_refl _) (by decide)
  simp only [List.mem_cons, List.not_mem_nil, or_false] at hy
  rcases hy with rfl | rfl
  · exact Tm.int (small_log (by omega) (by omega)) (by decide)
  · exact Tm.int (small_log (by omega) (by omega)) (by decide)
theorem hid_len (w : D) {rs : List D} (hl : rs.length ≤ 50) : (hidL w rs).length ≤ 2500 := by
  have := (hid_sort w rs) ▸ List.length_mergeSort (le := leP) (hidR w rs)
  rw [this]
  have e := congrArg List.length (hid_filter w rs)
  rw [List.length_map, List.length_map] at e
  rw [← e]
  exact Nat.le_trans (List.length_filter_le _ _) (hidP_len hl)
theorem s_hidden {w v : D} {f : Int} {rs : List D} (hm : MixOk w f) (hr : Rows rs) (hl : rs.length ≤ 50) (hv : v = .lst false rs ∨ v = .tup rs) (h : K (.lst true ((hidL w rs).map prD2)) st) : wC tab (k + 5) i_hidden [mixD w f, v] st K X := by
  have hL : Lim = 16777216 := rfl
  have hf := fzL_tm (hr.tm (k := 1))
  have hnf := nfL_tm (hr.tm (k := 1))
  have hP := hidP_len hl
  have fP : fzL ((hidP rs.length).map gPr) = (hidP rs.length).map gPr := prs_fz (fun x : Nat × Nat => prN x.1 x.2) _
  have fR : fzL ((hidR w rs).map prD2) = (hidR w rs).map prD2 := prs_fz id _
  have at0 : ∀ i : Nat, i < rs.length → ∃ a wd n m, rs[i]? = some (rowD a wd n m) ∧ RowOk a wd n m ∧ rnD (rs.getD i .non) = rowN wd n m := fun i hi => by
    obtain ⟨a, wd, n, m, e, ok⟩ := hr _ (List.getElem_mem hi)
    refine ⟨a, wd, n, m, by rw [List.getElem?_eq_getElem hi, e], ok, ?_⟩
    rw [List.getD_eq_getElem?_getD, List.getElem?_eq_getElem hi, Option.getD_some, e]; rfl
  rcases hv with rfl | rfl
  all_goals
    (refine fn_go (b := B_hidden) rfl rfl ?_; unfold B_hidden; walk_at "st")
    simp only [rangeD0]
    refine ⟨⟨by omega, by omega⟩, by rw [List.length_map, List.length_range]; omega, compLL_mk (fun i : Nat => D.int i) (fun q => (List.range q).map fun p : Nat => gPr (p, q)) (List.range rs.length) _ (fun q hq K' hk => ?_) ?_⟩
    · have hq := List.mem_range.mp hq
      unfold cmpB2
      walk_at "ev"
      simp only [rangeD0]
      refine ⟨⟨by omega, by omega⟩, by rw [List.length_map, List.length_range]; omega, compL_mkm (fun i : Nat => D.int i) (fun p : Nat => gPr (p, q)) (List.range q) _ (fun p hp K'' hk2 => ?_) ?_⟩
      · unfold cmpB B_hidden_1
        walk_at "ev"
        exact ⟨by decide, hk2⟩
      · walk_at "ev"
        exact hk
    · rw [hidP_map]
      walk_at "ev"
      walk_at "st"
      rw [fP, fP, List.length_map]
      refine ⟨by omega, compL_filA gPr (fun x => alkP w rs x.1 x.2) gPr (hidP rs.length) _ (fun x hx K' hk => ?_) ?_⟩
      · obtain ⟨x1, x2⟩ := hidP_mem hx
        obtain ⟨a, wd, n, m, e1, ok1, r1⟩ := at0 x.1 (by omega)
        obtain ⟨a', wd', n', m', e2, ok2, r2⟩ := at0 x.2 x2
        have hk : K' (if alkP w rs x.1 x.2 = true then some (.tup [.int x.1, .int x.2]) else none) _ _ := hk
        unfold cmpB B_hidden_2 B_hidden_3
        rw [show gPr x = .tup [.int x.1, .int x.2] from rfl]
        walk_at "ev"
        simp only [hf, e1, e2]
        walk_at "ev"
        rw [hm.sc.1]
        refine s_alike (k := k + 1) hm ok1 ok2 ?_
        rw [show alkP w rs x.1 x.2 = alikeB w (rowN wd n m) (rowN wd' n' m') by unfold alkP; rw [r1, r2]] at hk
        walk_at "ev"
        split
        · rename_i e
          rw [if_pos e] at hk
          walk_at "ev"
          exact hk
        · rename_i e
          rw [if_neg e] at hk
          exact hk
      · rw [hid_filter]
        walk_at "ev"
        rw [fR]
        refine srt_pairs _ ?_
        rw [hid_sort]
        exact h

theorem s_names {b c : Nat} {size : Nat} (hs : size ≤ 26) (hb : Bud st b (c + 10)) (h : ∀ (xs : List Tx) st', xs.length = size → (∀ x ∈ xs, nameB x = true) → Bud st' b c → K (.lst true (xs.map D.str)) st') : wC tab (k + 2) i__law_names [.ptr b, .int size] st K X := by
  (refine fn_go (b := B__law_names) rfl rfl ?_; unfold B__law_names; walk_at "st")
  (walk_at "sides"; refine take_ok tT (by walk_at "bud") (by walk_at "pos") (by walk_at "pos") fun q _ q0 q1 _ => ?_; walk_at "ev")
  (walk_at "sides"; refine take_ok tT (by walk_at "bud") (by walk_at "pos") (by walk_at "pos") fun r _ r0 r1 _ => ?_; walk_at "ev")
  refine pick_ok r0 (by simpa using r1) fun d m => ?_
  obtain ⟨y, rfl, y0, y1⟩ : ∃ y : Int, d = .int y ∧ 0 ≤ y ∧ y ≤ 25 := by
    simp at m
    rcases m with rfl | rfl | rfl | rfl <;> exact ⟨_, rfl, by decide, by decide⟩
  walk_at "ev"
  walk_at "sides"
  walk_at "st"
  (walk_at "sides"; refine take_ok tT (by walk_at "bud") (by walk_at "pos") (by walk_at "pos") fun n _ n0 n1 _ => ?_; walk_at "ev")
  have rl := len_range 0 n
  refine ⟨⟨by omega, by omega⟩, by rw [rl, Lim]; omega, ?_⟩
  refine compL_all (fun i e s => e = _ ∧ Bud s b (c + 7 - i)) (fun d => ∃ r : Nat, d = .str [r] ∧ ltr r = true) _ _ _ _ (fun j x e s K' hx hi hk => ?_) ⟨rfl, ‹_›⟩ fun ys e s hl hp hi => ?_
  · obtain ⟨rfl, hb'⟩ := hi
    obtain ⟨rfl, hlt⟩ := range_at hx
    have hb' : Bud s b ((c + 7 - (j + 1)) + 1) := hb'.mono (by omega)
    unfold cmpB B__law_names_1
    walk_at "ev"
    (walk_at "sides"; refine take_ok tT (by walk_at "bud") (by walk_at "pos") (by walk_at "pos") fun g _ g0 g1 _ => ?_; walk_at "ev")
    refine ⟨by decide, abc_pick g0 g1 fun l hl => ?_⟩
    exact hk _ _ _ ⟨l, rfl, hl⟩ ⟨rfl, ‹_›⟩
  obtain ⟨rfl, hb'⟩ := hi
  obtain ⟨tl, rfl, ht⟩ := ex_map hp
  rw [List.length_map, rl] at hl
  have hb' : Bud s b (c + 1) := hb'.mono (by omega)
  walk_at "ev"
  have hL : Lim = 16777216 := rfl
  refine ⟨by rw [Nat.mul_zero]; omega, ?_⟩
  clear hp
  walk_at "st"
  refine ⟨by omega, ?_⟩
  (walk_at "sides"; refine take_ok tT (by walk_at "bud") (by walk_at "pos") (by walk_at "pos") fun at_ _ a0 a1 _ => ?_; walk_at "ev")
  have rl2 := len_range 0 size
  refine ⟨⟨by omega, by omega⟩, ⟨by rw [rl2]; omega, rfl⟩, ?_⟩
  refine compL_all (fun i e s => e = _ ∧ Bud s b c) (fun d => ∃ r : Tx, d = .str r ∧ nameB r = true) _ _ _ _ (fun j x e s K' hx hi hk => ?_) ⟨rfl, ‹_›⟩ fun ys e s hl hp hi => ?_
  · obtain ⟨rfl, hb'⟩ := hi
    obtain ⟨rfl, hlt⟩ := range_at hx
    unfold cmpB B__law_names_2
    walk_at "ev"
    obtain ⟨at_, rfl⟩ : ∃ m : Nat, at_ = m := ⟨at_.toNat, by omega⟩
    walk_at "ev"
    refine ⟨by omega, .inl ⟨by omega, by omega⟩, by decide, by decide, abc_pick (by omega) (by omega) fun l hl2 => ?_⟩
    walk_at "ev"
    have h1 : (tl.take at_).length ≤ 3 := by rw [List.length_take]; omega
    have h2 : (tl.take at_).length + (tl.drop at_).length = tl.length := by rw [List.length_take, List.length_drop]; omega
    refine ⟨by omega, by omega, by rw [List.length_append, List.length_singleton]; omega, ?_⟩
    refine hk _ _ _ ⟨_, rfl, ?_⟩ ⟨rfl, hb'⟩
    unfold nameB
    rw [List.all_append, List.all_append, List.length_append, List.length_append, List.length_singleton]
    rw [decide_eq_true (by omega), decide_eq_true (by omega)]
    rw [show (tl.take at_).all ltr = true from List.all_eq_true.mpr fun x hx => ht x (List.mem_of_mem_take hx), show (tl.drop at_).all ltr = true from List.all_eq_true.mpr fun x hx => ht x (List.mem_of_mem_drop hx)]
    simp [hl2]
  · obtain ⟨rfl, hb'⟩ := hi
    obtain ⟨xs, rfl, hxs⟩ := ex_map hp
    rw [List.length_map, rl2] at hl
    walk_at "ev"
    exact h xs _ (by omega) hxs hb'

theorem tS : tab[i__law_same]? = some (.body 2 4 (sameB i__law_same)) := rfl
theorem same_i {d e : D} {K : D → Stt → Prop} (he : d = e) (ok : okS k d = true) (h : K (.bl true) []) : wC tab (k + 1) i__law_same [d, e] [] K X := by
  subst he; exact same_true tS k d K X ok h

theorem word_find {w : Tx} (h : w ∈ wordsX) : (([.str [108, 111, 97, 100], .str [115, 101, 116], .str [101, 110, 100], .str [108, 97, 116, 101], .str [114, 101, 115, 101, 116]] : List D).findIdx? fun y => eqd y (.str w)) = some (wordsX.idxOf w) := by
  simp at h
  rcases h with rfl | rfl | rfl | rfl | rfl <;> decide

theorem s_lrn {a : Int} {w n : Tx} {m : Int} (hr : RowOk a w n m) (h : K (.int (rowN w n m)) st) : wC tab (k + 2) i__law_row_number [rowD a w n m] st K X := by
  (refine fn_go (b := B__law_row_number) rfl rfl ?_; unfold B__law_row_number; walk_at "st")
  refine ⟨by decide, ?_⟩
  rw [word_find (word_mem hr.w1)]
  walk_at "ev"
  walk_at "st"
  refine s_lnn (name_all hr.n1) ?_
  walk_at "ev"
  exact ⟨mul_lit _ _ (by decide) (by decide), mul_lit _ _ (by decide) (by decide), h⟩

/-- one step of the law's own division -/
def eu (p : Nat × Nat) : Nat × Nat := if 0 < p.2 then (p.2, p.1 % p.2) else p
def euN : Nat → Nat × Nat → Nat × Nat
  | 0, p => p
  | n + 1, p => euN n (eu p)
theorem eu_gcd (p : Nat × Nat) : Nat.gcd (eu p).1 (eu p).2 = Nat.gcd p.1 p.2 := by
  unfold eu
  split
  · show Nat.gcd p.2 (p.1 % p.2) = _
    rw [Nat.gcd_comm p.2, ← Nat.gcd_rec, Nat.gcd_comm]
  · rfl
theorem euN_gcd : ∀ n p, Nat.gcd (euN n p).1 (euN n p).2 = Nat.gcd p.1 p.2
  | 0, p => rfl
  | n + 1, p => by rw [euN, euN_gcd n, eu_gcd]
/-- two steps halve the lesser one -/
theorem eu_half {p : Nat × Nat} {m : Nat} (h : p.2 < 2 ^ (m + 1)) : (eu (eu p)).2 < 2 ^ m := by
  have hp : 0 < 2 ^ m := Nat.two_pow_pos m
  have h2 : 2 ^ (m + 1) = 2 * 2 ^ m := by rw [Nat.pow_succ, Nat.mul_comm]
  by_cases h0 : 0 < p.2
  · have e1 : eu p = (p.2, p.1 % p.2) := if_pos h0
    rw [e1]
    have l1 := Nat.mod_lt p.1 h0
    by_cases h1 : 0 < p.1 % p.2
    · have e2 : eu (p.2, p.1 % p.2) = (p.1 % p.2, p.2 % (p.1 % p.2)) := if_pos h1
      rw [e2]
      show p.2 % (p.1 % p.2) < _
      have l2 := Nat.mod_lt p.2 h1
      by_cases h3 : p.1 % p.2 ≤ 2 ^ m
      · omega
      · have := Nat.mod_eq_sub_mod (Nat.le_of_lt l1)
        have l3 : p.2 - p.1 % p.2 < p.1 % p.2 := by omega
        rw [this, Nat.mod_eq_of_lt l3]
        omega
    · have e2 : eu (p.2, p.1 % p.2) = (p.2, p.1 % p.2) := if_neg h1
      rw [e2]
      show p.1 % p.2 < _
      omega
  · have e1 : eu p = p := if_neg h0
    rw [e1, e1]; omega
theorem euN_end : ∀ (m : Nat) (p : Nat × Nat), p.2 < 2 ^ m → (euN (2 * m) p).2 = 0
  | 0, p, h => by show p.2 = 0; simpa using h
  | m + 1, p, h => by
    rw [show 2 * (m + 1) = 2 * m + 1 + 1 by omega, euN, euN]
    exact euN_end m _ (eu_half h)

theorem c_shares {Q : Kn} : ∀ (xs : List D) (j : Nat) (p : Nat × Nat) (o : Option D), j < xs.length → (euN j p).2 = 0 → Q.rt (.bl (decide (1 < Nat.gcd p.1 p.2))) st →
    forL (forB (.nm 2) fun e2 s2 Q2 => wSs (wC tab k) B__law_shares_1 e2 s2 Q2) xs [some (.int p.1), some (.int p.2), o] st Q
  | [], j, p, o, hj, _, _ => absurd hj (Nat.not_lt_zero _)
  | x :: xs, j, p, o, hj, he, h => by
    rw [Ev.forL_cons]
    unfold forB B__law_shares_1
    walk_at "ev"
    walk_at "st"
    by_cases h0 : p.2 = 0
    · rw [h0] at h
      rw [Nat.gcd_zero_right] at h
      simp only [h0]
      walk_at "ev"
      walk_at "st"
      have e : decide (1 < (p.1 : Int)) = decide (1 < p.1) := by rw [decide_eq_decide]; omega
      rw [e]
      exact h
    · have hz : ((p.2 : Int) == 0) = false := by simpa using h0
      rw [hz, if_neg Bool.false_ne_true]
      walk_at "st"
      refine ⟨by omega, by decide, ?_⟩
      rw [show (p.1 : Int) % (p.2 : Int) = ((p.1 % p.2 : Nat) : Int) from (Int.natCast_emod p.1 p.2).symm]
      have e1 : eu p = (p.2, p.1 % p.2) := if_pos (by omega)
      cases j with
      | zero => exact absurd he h0
      | succ j =>
        rw [euN, e1] at he
        refine c_shares xs j (p.2, p.1 % p.2) _ (by simpa using hj) he ?_
        rw [show Nat.gcd (p.2, p.1 % p.2).1 (p.2, p.1 % p.2).2 = Nat.gcd p.1 p.2 by rw [Nat.gcd_comm p.1, Nat.gcd_rec p.2 p.1, Nat.gcd_comm]]
        exact h
theorem s_shares {a b : Nat} (hb : b < 2 ^ 31) (h : K (.bl (decide (1 < Nat.gcd a b))) st) : wC tab (k + 1) i__law_shares [.int a, .int b] st K X := by
  (refine fn_go (b := B__law_shares) rfl rfl ?_; unfold B__law_shares; walk_at "st")
  refine ⟨⟨by decide, by decide⟩, ?_⟩
  exact c_shares _ 62 (a, b) none (by decide) (euN_end 31 (a, b) hb) h

/-- a mixing told: None or a width, a factor -/
abbrev howD (w : D) (f : Int) : D := .tup [w, .int f]

theorem s_how {b c : Nat} (hb : Bud st b (c + 5)) (h : ∀ w f st', MixOk w f → Bud st' b c → K (howD w f) st') : wC tab (k + 2) i__law_how [.ptr b] st K X := by
  have e6 : (10 : Int) ^ Int.toNat 6 = 1000000 := by decide
  (refine fn_go (b := B__law_how) rfl rfl ?_; unfold B__law_how; walk_at "st")
  (walk_at "sides"; refine take_ok tT (by walk_at "bud") (by walk_at "pos") (by walk_at "pos") fun way _ y0 y1 _ => ?_; walk_at "ev")
  walk_at "sides"
  walk_at "st"
  by_cases h0 : way = 0
  · walk_at "ify"
    walk_at "st"
    (walk_at "sides"; refine take_ok tT (by walk_at "bud") (by walk_at "pos") (by walk_at "pos") fun q _ q0 q1 _ => ?_; walk_at "ev")
    refine pick_ok q0 (by simpa using q1) fun d m => ?_
    obtain ⟨z, rfl, z0, z1⟩ : ∃ z : Int, d = .int z ∧ 1 ≤ z ∧ z ≤ 7919 := by
      simp at m
      rcases m with rfl | rfl | rfl <;> exact ⟨_, rfl, by decide, by decide⟩
    walk_at "ev"
    walk_at "sides"
    exact h _ _ _ ⟨z0, by omega, .inl rfl⟩ (Bud.mono ‹_› (by omega))
  · walk_at "ifn"
    walk_at "st"
    (walk_at "sides"; refine take_ok tT (by walk_at "bud") (by walk_at "pos") (by walk_at "pos") fun q _ q0 q1 _ => ?_; walk_at "ev")
    refine pick_ok q0 (by simpa using q1) fun d m => ?_
    obtain ⟨z, rfl, z0, z1⟩ : ∃ z : Int, d = .int z ∧ 0 < z ∧ z ≤ 999998 := by
      simp at m
      rcases m with rfl | rfl | rfl | rfl <;> exact ⟨_, rfl, by decide, by decide⟩
    walk_at "ev"
    (walk_at "sides"; refine take_ok tT (by walk_at "bud") (by walk_at "pos") (by walk_at "pos") fun v _ v0 v1 _ => ?_; walk_at "ev")
    walk_at "st"
    (walk_at "sides"; refine take_ok tT (by walk_at "bud") (by walk_at "pos") (by walk_at "pos") fun q' _ q0' q1' _ => ?_; walk_at "ev")
    rw [e6]
    refine pick_ok q0' (by simpa using q1') fun d m => ?_
    obtain ⟨y, rfl, y0', y1'⟩ : ∃ y : Int, d = .int y ∧ 0 < y ∧ y ≤ 1000000 := by
      simp at m
      rcases m with rfl | rfl <;> exact ⟨_, rfl, by decide, by decide⟩
    walk_at "ev"
    (walk_at "sides"; refine take_ok tT (by walk_at "bud") (by walk_at "pos") (by walk_at "pos") fun u _ u0 u1 _ => ?_; walk_at "ev")
    walk_at "st"
    obtain ⟨a, ha⟩ : ∃ a : Nat, (3 : Int) + v = a := ⟨(3 + v).toNat, by omega⟩
    obtain ⟨f, hf⟩ : ∃ f : Nat, (1 : Int) + u = f := ⟨(1 + u).toNat, by omega⟩
    rw [ha, hf]
    refine s_shares (by omega) ?_
    walk_at "ev"
    by_cases hg : 1 < Nat.gcd a f
    · simp only [hg, decide_true, if_true]
      refine ⟨by decide, h (.int a) 1 _ ⟨by decide, by decide, .inr ⟨a, rfl, by omega, by omega, Nat.gcd_one_right a⟩⟩ ‹_›⟩
    · simp only [hg, decide_false, Bool.false_eq_true, if_false]
      have : 0 < Nat.gcd a f := Nat.gcd_pos_of_pos_left f (by omega)
      refine ⟨by decide, h (.int a) f _ ⟨by omega, by omega, .inr ⟨a, rfl, by omega, by omega, by show Nat.gcd a f = 1; omega⟩⟩ ‹_›⟩

theorem s_more {b c : Nat} {w : D} {f : Int} {rs : List D} (hm : MixOk w f) (hr : Rows rs) (hl : rs.length ≤ 50) (hb : Bud st b (c + 30)) (h : ∀ a wd n m st', RowOk a wd n m → Bud st' b c → K (rowD a wd n m) st') : wC tab (k + 4) i__law_more [.ptr b, howD w f, .lst false rs] st K X := by
  have hL : Lim = 16777216 := rfl
  have hf := fzL_tm (hr.tm (k := 1))
  have hnf := nfL_tm (hr.tm (k := 1))
  (refine fn_go (b := B__law_more) rfl rfl ?_; unfold B__law_more; walk_at "st")
  refine s_names (k := k + 1) (c := c + 20) (size := 6) (by decide) (hb.mono (by omega)) fun names s1 hl6 hnm hb1 => ?_
  walk_at "ev"
  walk_at "st"
  refine ⟨by decide, ?_⟩
  refine s_pick (k := k + 1) (c := c + 18) (by rfl) (by rfl) (by decide) (by decide) (hb1.mono (by omega)) fun d hd s2 hb2 => ?_
  obtain ⟨v, rfl, hv⟩ : ∃ v : Tx, d = .str v ∧ wordB v = true := by
    simp only [List.mem_cons, List.not_mem_nil, or_false] at hd
    rcases hd with rfl | rfl | rfl | rfl | rfl <;> exact ⟨_, rfl, rfl⟩
  walk_at "ev"
  refine s_row2 (k := k) (c := c + 14) hv hnm (by omega) (by omega) (by decide) (by decide) (hb2.mono (by omega)) fun a n m s3 ro _ hb3 => ?_
  walk_at "ev"
  walk_at "st"
  have tl : Tm 2 (8102 * 50 + 3) (.lst false rs) := Tm.lst hr.tm hl (by decide)
  have tail : ∀ {st' : Stt}, 0 < rs.length → Bud st' b (c + 4) → wSs (wC tab (k + 3)) (B__law_more.drop 3) [some (.ptr b), some (howD w f), some (.lst false rs), some (.lst false (names.map D.str)), some (rowD a v n m), none] st' ⟨fun _ s => K .non s, K, fun _ _ => False, fun _ _ => False, fun e _ s => X e s⟩ := fun {st'} h0 hb' => by
    unfold B__law_more
    simp only [List.drop_succ_cons, List.drop_zero]
    walk_at "st"
    try simp only [hf]
    refine s_pick (k := k + 1) (c := c + 3) hf hnf h0 (by omega) hb' fun d hd s4 hb4 => ?_
    obtain ⟨a2, w2, n2, m2, rfl, ok⟩ := hr d hd
    walk_at "ev"
    walk_at "st"
    refine take_ok tT (c := c + 2) hb4 (by decide) (by decide) fun r s5 r0 r1 hb5 => ?_
    have fin1 : ∀ (s5 : Stt), Bud s5 b (c + 1) → wSs (wC tab (k + 3)) [.ret (.op .add (.tup [.call i__law_take [.var 0, .con (.int 8)] [] [.ix 0, .ix 1]]) (.slc (.var 5) (some (.con (.int 1))) none))] [some (.ptr b), some (howD w f), some (.lst false rs), some (.lst false (names.map D.str)), some (rowD a v n m), some (rowD a2 w2 n2 m2)] s5 ⟨fun _ s => K .non s, K, fun _ _ => False, fun _ _ => False, fun e _ s => X e s⟩ := fun s5 hb5 => by
      walk_at "st"
      refine take_ok tT (c := c) hb5 (by decide) (by decide) fun r s6 r0 r1 hb6 => ?_
      walk_at "ev"
      exact ⟨by decide, by decide, h _ _ _ _ _ ⟨r0, r1, ok.w1, ok.n1, ok.m0, ok.m1, ok.m2⟩ hb6⟩
    walk_at "ev"
    split
    · exact fin1 s5 (hb5.mono (by omega))
    · refine ⟨hm.sc.2, ?_⟩
      rcases hm.w with rfl | ⟨z, rfl, z3, z4, _⟩
      · walk_at "ev"
        exact fin1 s5 (hb5.mono (by omega))
      · walk_at "ev"
        split
        · exact fin1 s5 (hb5.mono (by omega))
        · refine ⟨by decide, ?_⟩
          have hbr : inD (.str w2) [.str [101, 110, 100], .str [114, 101, 115, 101, 116]] = bareB w2 := rfl
          rw [hbr]
          split
          · exact fin1 s5 (hb5.mono (by omega))
          · rename_i hb2
            walk_at "st"
            refine ⟨by decide, by decide, by decide, h _ _ _ _ _ ⟨ok.a0, ok.a1, ok.w1, ok.n1, ?_, ?_, fun e => absurd e hb2⟩ (hb5.mono (by omega))⟩
            · exact Int.emod_nonneg _ (by decide)
            · exact Int.emod_lt_of_pos _ (by decide)
  unfold B__law_more at tail
  simp only [List.drop_succ_cons, List.drop_zero] at tail
  refine ⟨by decide, by rw [Tm_cmp tl (by decide)]; rfl, ?_⟩
  by_cases hz : rs = []
  · subst hz
    rw [if_pos (by rfl)]
    walk_at "st"
    exact h _ _ _ _ _ ro (hb3.mono (by omega))
  · have h0 : 0 < rs.length := List.length_pos_iff.mpr hz
    obtain ⟨r, rr, hrr⟩ := List.exists_cons_of_ne_nil hz
    rw [if_neg (by rw [hrr]; show ¬ (false = true); decide)]
    refine take_ok tT (c := c + 13) (hb3.mono (by omega)) (by decide) (by decide) fun q s4 q0 q1 hb4 => ?_
    walk_at "ev"
    split
    · walk_at "st"
      exact h _ _ _ _ _ ro (hb4.mono (by omega))
    · walk_at "ev"
      exact tail h0 (hb4.mono (by omega))



abbrev bsD (bs : List Int) : List D := bs.map D.int
/-- boards' numbers behind a row -/
def stepN (w : D) (f : Int) (bs : List Int) : D → List Int
  | .tup [.int a, .str wd, .str n, .int m] => bs.set a.toNat (if wd == RST then 2 else mixN w f (bs.getD a.toNat 0) (rowN wd n m))
  | _ => bs
theorem stepN_row {w : D} {f : Int} {bs : List Int} {a m : Int} {wd n : Tx} : stepN w f bs (rowD a wd n m) = bs.set a.toNat (if wd == RST then 2 else mixN w f (bs.getD a.toNat 0) (rowN wd n m)) := (rfl)
theorem stepN_len (w : D) (f : Int) (bs : List Int) (d : D) : (stepN w f bs d).length = bs.length := by
  unfold stepN
  split
  · exact List.length_set
  · rfl
theorem ixn_in {n : Nat} {a : Int} (h0 : 0 ≤ a) (h1 : a < n) : ixn n a = some a.toNat := by
  unfold ixn
  rw [if_pos h0, if_pos h1]
theorem at_bs {bs : List Int} {a : Int} {K : D → Prop} (h0 : 0 ≤ a) (h1 : a < bs.length) (h : K (.int (bs.getD a.toNat 0))) : onV (Option.map D.int (atx bs a)) K := by
  unfold atx
  rw [ixn_in h0 h1]
  have hl : a.toNat < bs.length := by omega
  rw [Option.bind_some, List.getElem?_eq_getElem hl]
  rw [List.getD_eq_getElem?_getD, List.getElem?_eq_getElem hl] at h
  exact h
theorem set_bs {bs : List Int} {a : Int} {K : Nat → Prop} (h0 : 0 ≤ a) (h1 : a < bs.length) (h : K a.toNat) : natW (ixn bs.length a) K := by
  rw [ixn_in h0 h1]
  exact h
theorem bs_set (bs : List Int) (j : Nat) (z : Int) : (bsD bs).set j (.int z) = bsD (bs.set j z) := by
  show (bs.map D.int).set j (D.int z) = (bs.set j z).map D.int
  rw [List.map_set]
theorem nf_bs : ∀ bs : List Int, nfL (bsD bs) = true
  | [] => rfl
  | _ :: bs => nf_bs bs
theorem fz_bs : ∀ bs : List Int, fzL (bsD bs) = bsD bs
  | [] => rfl
  | b :: bs => congrArg (D.int b :: ·) (fz_bs bs)
theorem own_bs : ∀ bs : List Int, ownL (bsD bs) = true
  | [] => rfl
  | _ :: bs => own_bs bs


/-- rows on boards below so many -/
def Fit (many : Int) (ds : List D) : Prop := ∀ d ∈ ds, ∃ a w n m, d = rowD a w n m ∧ RowOk a w n m ∧ a < many
theorem fit_of {many fixed : Int} : ∀ (ds : List D) (e : Bool) (i : Nat), faultN many fixed e i ds = none → Fit many ds
  | [], _, _, _ => fun _ m => nomatch m
  | d :: ds, e, i, h => by
    unfold faultN at h
    by_cases hs : standB e many fixed d = true
    · rw [if_pos hs] at h
      intro x hx
      rcases List.mem_cons.mp hx with rfl | hx
      · have hr : rowB x = true := by unfold standB at hs; rw [Bool.and_eq_true] at hs; exact hs.1
        obtain ⟨a, w, n, m, rfl, ok⟩ := row_of hr
        refine ⟨a, w, n, m, rfl, ok, ?_⟩
        rw [show standB e many fixed (rowD a w n m) = stR e many fixed a w by unfold standB; rw [hr]; rfl] at hs
        unfold stR at hs
        rw [Bool.and_eq_true, decide_eq_true_eq] at hs
        exact hs.1
      · exact fit_of ds _ _ h x hx
    · rw [if_neg hs] at h
      cases h
def ones (n : Int) : List Int := List.replicate n.toNat 1
/-- the boards' numbers behind each row -/
def trail (w : D) (f : Int) : List Int → List D → List (List Int)
  | _, [] => []
  | bs, d :: ds => stepN w f bs d :: trail w f (stepN w f bs d) ds
def lsD (bs : List Int) : D := .lst true (bsD bs)
theorem lsD_own (bs : List Int) : ownD (lsD bs) = true := own_bs bs
theorem atx_last {α : Type} (L : List α) (x : α) : atx (L ++ [x]) (-1) = some x := by
  unfold atx ixn
  rw [if_neg (by decide), if_pos (by rw [List.length_append, List.length_singleton]; omega)]
  rw [Option.bind_some, List.length_append, List.length_singleton]
  rw [show ((-1 : Int) + ((L.length + 1 : Nat) : Int)).toNat = L.length by omega]
  simp

def hidK (w : D) (rs : List D) (i : Nat) : List (Int × Int) := ((List.range i).map fun p => ((List.range' (p + 1) (rs.length - (p + 1))).filter fun q => alkP w rs p q).map fun q => prN p q).flatten
theorem hidK_succ (w : D) (rs : List D) (i : Nat) : hidK w rs (i + 1) = hidK w rs i ++ ((List.range' (i + 1) (rs.length - (i + 1))).filter fun q => alkP w rs i q).map fun q => prN i q := by
  unfold hidK
  rw [List.range_succ, List.map_append, List.flatten_append]; simp
theorem hidK_len {w : D} {rs : List D} (hl : rs.length ≤ 50) : ∀ i, (hidK w rs i).length ≤ 50 * i
  | 0 => Nat.zero_le _
  | i + 1 => by
    have := hidK_len hl i (w := w)
    have h2 := List.length_filter_le (fun q => alkP w rs i q) (List.range' (i + 1) (rs.length - (i + 1)))
    rw [List.length_range'] at h2
    rw [hidK_succ, List.length_append, List.length_map]
    omega
theorem rangeD' (a n : Nat) : rangeD (a : Int) (n : Int) = (List.range' a (n - a)).map fun i : Nat => D.int i := by
  unfold rangeD
  rw [List.range'_eq_map_range, List.map_map, show ((n : Int) - a).toNat = n - a by omega]
  exact List.map_congr_left fun i _ => by show D.int _ = D.int ((a + i : Nat) : Int); congr 1
theorem rng_at {n j : Nat} {x : D} (h : ((List.range n).map fun i : Nat => D.int (i : Int))[j]? = some x) : x = .int (j : Int) ∧ j < n := by
  rw [List.getElem?_map] at h
  obtain ⟨m, hm, rfl⟩ := Option.map_eq_some_iff.mp h
  obtain ⟨h1, h2⟩ := List.getElem?_eq_some_iff.mp hm
  rw [List.getElem_range] at h2
  rw [List.length_range] at h1
  subst h2
  exact ⟨rfl, h1⟩
theorem row_at {rs : List D} (hr : Rows rs) {i : Nat} (hi : i < rs.length) : ∃ a wd n m, rs[i]? = some (rowD a wd n m) ∧ RowOk a wd n m ∧ rnD (rs.getD i .non) = rowN wd n m := by
  obtain ⟨a, wd, n, m, e, ok⟩ := hr _ (List.getElem_mem hi)
  refine ⟨a, wd, n, m, by rw [List.getElem?_eq_getElem hi, e], ok, ?_⟩
  rw [List.getD_eq_getElem?_getD, List.getElem?_eq_getElem hi, Option.getD_some, e]; rfl

def inK (w : D) (rs : List D) (i j : Nat) : List (Int × Int) := ((List.range' (i + 1) j).filter fun q => alkP w rs i q).map fun q => prN i q
theorem inK_succ (w : D) (rs : List D) (i j : Nat) : inK w rs i (j + 1) = inK w rs i j ++ (if alkP w rs i (i + 1 + j) = true then [prN i (i + 1 + j)] else []) := by
  unfold inK
  rw [List.range'_concat, List.filter_append, List.map_append, Nat.one_mul]
  congr 1
  rw [List.filter_cons]
  split <;> simp
theorem inK_len {w : D} {rs : List D} {i j : Nat} : (inK w rs i j).length ≤ j := by
  have h2 := List.length_filter_le (fun q => alkP w rs i q) (List.range' (i + 1) j)
  rw [List.length_range'] at h2
  unfold inK
  rw [List.length_map]; exact h2
theorem s_due7 {w : D} {f : Int} {rs : List D} (hm : MixOk w f) (hr : Rows rs) (hl : rs.length ≤ 50) (h : K (.lst true ((hidL w rs).map prD2)) st) : wC tab (k + 3) i__law_due__7 [howD w f, .lst false rs] st K X := by
  have hL : Lim = 16777216 := rfl
  have hf := fzL_tm (hr.tm (k := 1))
  have fR : ∀ l : List (Int × Int), fzL (l.map prD2) = l.map prD2 := fun l => prs_fz id l
  (refine fn_go (b := B__law_due__7) rfl rfl ?_; unfold B__law_due__7; walk_at "st")
  try simp only [hf]
  refine ⟨by omega, ?_⟩
  refine compL_map (fun d => D.int (rnD d)) rs _ (fun d m K' hk => ?_) ?_
  · obtain ⟨a, wd, n, m, rfl, ok⟩ := hr d m
    unfold cmpB B__law_due__7_1
    walk_at "ev"
    refine s_lrn (k := k) ok ?_
    walk_at "ev"
    exact hk
  · walk_at "ev"
    refine ⟨by decide, ?_⟩
    walk_at "st"
    simp only [rangeD0]
    refine ⟨by decide, ⟨by omega, by omega⟩, ?_⟩
    have at' : ∀ i, i < rs.length → (rs.map fun d => D.int (rnD d))[i]? = some (.int (rnD (rs.getD i .non))) := fun i hi => by
      rw [List.getElem?_map, List.getElem?_eq_getElem hi, List.getD_eq_getElem?_getD, List.getElem?_eq_getElem hi]; rfl
    generalize (rs.map fun d => D.int (rnD d)) = nums at at' ⊢
    refine forL_inv (fun i e s => s = st ∧ ∃ on o5 o6 o7, e = [some (howD w f), some (.lst false rs), some (.lst on nums), some (.lst true ((hidK w rs i).map prD2)), none, o5, o6, o7]) _ 0 _ _ (fun i x e s Q' hx hi hn h1 h2 h3 => ?_) ⟨rfl, _, _, _, _, rfl⟩ fun e s hi => ?_
    · obtain ⟨hs, on, o5, o6, o7, rfl⟩ := hi
      rw [hs]
      obtain ⟨rfl, hil⟩ := rng_at hx
      rw [Nat.zero_add] at hn ⊢
      unfold forB B__law_due__7_3
      walk_at "ev"
      walk_at "st"
      have hkl := hidK_len (w := w) hl i
      refine ⟨⟨⟨by omega, by omega⟩, by omega, by omega⟩, ?_⟩
      rw [show ((i : Int) + 1) = ((i + 1 : Nat) : Int) from rfl, rangeD']
      refine forL_inv (fun j e s => s = st ∧ ∃ on o6 o7, e = [some (howD w f), some (.lst false rs), some (.lst on nums), some (.lst true ((hidK w rs i ++ inK w rs i j).map prD2)), none, some (.int i), o6, o7]) _ 0 _ _ (fun j x e s Q' hx hi hn2 h1 h2 h3 => ?_) ⟨rfl, _, _, _, by rw [show inK w rs i 0 = [] from rfl, List.append_nil]⟩ fun e s hi => ?_
      · obtain ⟨hs2, on, o6, o7, rfl⟩ := hi
        rw [hs2]
        rw [Nat.zero_add] at hn2 ⊢
        obtain ⟨hj, rfl⟩ : j < rs.length - (i + 1) ∧ x = .int ((i + 1 + j : Nat) : Int) := by
          rw [List.getElem?_map] at hx
          obtain ⟨q, hq, rfl⟩ := Option.map_eq_some_iff.mp hx
          obtain ⟨a1, a2⟩ := List.getElem?_eq_some_iff.mp hq
          rw [List.length_range'] at a1
          rw [List.getElem_range'] at a2
          exact ⟨a1, by rw [← a2, Nat.one_mul]⟩
        have il := inK_len (w := w) (rs := rs) (i := i) (j := j)
        unfold forB B__law_due__7_2
        walk_at "ev"
        walk_at "st"
        rw [at' i hil, at' (i + 1 + j) (by omega)]
        have hal : alkP w rs i (i + 1 + j) = alikeB w (rnD (rs.getD i .non)) (rnD (rs.getD (i + 1 + j) .non)) := rfl
        have isn := inK_succ w rs i j
        rw [hal] at isn
        generalize rnD (rs.getD i .non) = p at isn ⊢
        generalize rnD (rs.getD (i + 1 + j) .non) = q at isn ⊢
        have yes : alikeB w p q = true → Q'.nx [some (howD w f), some (.lst false rs), some (.lst on nums), some (.lst true ((hidK w rs i ++ inK w rs i j).map prD2 ++ [.tup [.int i, .int ((i + 1 + j : Nat) : Int)]])), none, some (.int i), some (.int ((i + 1 + j : Nat) : Int)), some (.int (p - q))] st := fun e => by
          rw [if_pos e] at isn
          refine hn2 _ _ ⟨rfl, on, some (.int ((i + 1 + j : Nat) : Int)), some (.int (p - q)), ?_⟩
          rw [isn, show (hidK w rs i ++ (inK w rs i j ++ [prN i (i + 1 + j)])).map prD2 = (hidK w rs i ++ inK w rs i j).map prD2 ++ [.tup [.int i, .int ((i + 1 + j : Nat) : Int)]] from by rw [← List.append_assoc, List.map_append]; rfl]
        have no' : alikeB w p q = false → Q'.nx [some (howD w f), some (.lst false rs), some (.lst on nums), some (.lst true ((hidK w rs i ++ inK w rs i j).map prD2)), none, some (.int i), some (.int ((i + 1 + j : Nat) : Int)), some (.int (p - q))] st := fun e => by
          rw [if_neg (by rw [e]; decide), List.append_nil] at isn
          refine hn2 _ _ ⟨rfl, on, some (.int ((i + 1 + j : Nat) : Int)), some (.int (p - q)), ?_⟩
          rw [isn]
        have e0 : ∀ z : Int, (z == 0) = decide (z = 0) := fun z => by rw [Bool.eq_iff_iff, beq_iff_eq, decide_eq_true_eq]
        have hk1 := hidK_len (w := w) hl i
        have add : alikeB w p q = true → wSs (wC tab (k + 2)) [IS.expr (.mc .append (.var 3) [.tup [.var 5, .var 6]])] [some (howD w f), some (.lst false rs), some (.lst on nums), some (.lst true ((hidK w rs i ++ inK w rs i j).map prD2)), none, some (.int i), some (.int ((i + 1 + j : Nat) : Int)), some (.int (p - q))] st Q' := fun e => by
          walk_at "st"
          refine ⟨by decide, by rw [List.length_append]; omega, ?_⟩
          exact yes e
        walk_at "ev"
        walk_at "st"
        split
        · rename_i e1
          rw [beq_iff_eq] at e1
          refine add ?_
          rcases hm.w with rfl | ⟨z, rfl, _⟩
          · unfold alikeB; rw [e1]; rfl
          · unfold alikeB; rw [e1]; show ((0 : Int) % (z : Int) == 0) = true; rw [Int.zero_emod]; rfl
        · rename_i e1
          rcases hm.w with rfl | ⟨z, rfl, z3, _⟩
          · walk_at "ev"
            refine no' ?_
            unfold alikeB
            exact Bool.eq_false_iff.mpr e1
          · walk_at "ev"
            refine ⟨by omega, ?_⟩
            split
            · rename_i e2
              exact add e2
            · rename_i e2
              exact no' (Bool.eq_false_iff.mpr e2)
      · obtain ⟨hs2, on, o6, o7, rfl⟩ := hi
        rw [hs2, Nat.zero_add, List.length_map, List.length_range']
        rw [show hidK w rs i ++ inK w rs i (rs.length - (i + 1)) = hidK w rs (i + 1) from (hidK_succ w rs i).symm]
        exact hn _ _ ⟨rfl, _, _, _, _, rfl⟩
    · obtain ⟨hs, on, o5, o6, o7, rfl⟩ := hi
      rw [hs]
      walk_at "ev"
      walk_at "st"
      rw [List.length_range]
      exact h

theorem tri_rows {rs : List D} (hr : Rows rs) : tri3 rs = false := by
  unfold tri3
  split
  · obtain ⟨a, w, n, m, e, _⟩ := hr _ (List.mem_cons_self ..)
    cases e
  · rfl
theorem noTri_rows {rs : List D} (hr : Rows rs) : noTri (.lst true rs) = true := by
  have h2 : ∀ {rs : List D}, Rows rs → noTriL rs = true := fun {rs} => by
    induction rs with
    | nil => intro _; rfl
    | cons x r ih =>
      intro hr
      obtain ⟨a, w, n, m, rfl, _⟩ := hr x (List.mem_cons_self ..)
      show (true && noTriL r) = true
      rw [ih fun d m => hr d (List.mem_cons_of_mem _ m)]; rfl
  show (!tri3 rs && noTriL rs) = true
  rw [tri_rows hr, h2 hr]; rfl
theorem hid_in {w : D} {rs : List D} {p q : Nat} (h1 : p < q) (h2 : q < rs.length) : inD (.tup [.int (p : Int), .int (q : Int)]) ((hidL w rs).map prD2) = alkP w rs p q := by
  rw [Bool.eq_iff_iff]
  unfold inD
  rw [List.any_map, List.any_eq_true]
  constructor
  · rintro ⟨y, hy, e⟩
    have e : (y.1 == (p : Int) && (y.2 == (q : Int) && true)) = true := e
    rw [Bool.and_true, Bool.and_eq_true, beq_iff_eq, beq_iff_eq] at e
    obtain ⟨p', q', _, _, ha, rfl⟩ := hid_mem.mp hy
    have e1 : p' = p := Int.ofNat.inj e.1
    have e2 : q' = q := Int.ofNat.inj e.2
    rw [e1, e2] at ha
    exact ha
  · intro ha
    refine ⟨prN p q, hid_mem.mpr ⟨p, q, h1, h2, ha, rfl⟩, ?_⟩
    show ((p : Int) == p && ((q : Int) == q && true)) = true
    simp
theorem s_right15 {b c : Nat} (hb : Bud st b (c + 300)) (h : ∀ st', Bud st' b c → K (.bl true) st') : wC tab (k + 6) i__law_right__15 [.ptr b] st K X := by
  have hL : Lim = 16777216 := rfl
  (refine fn_go (b := B__law_right__15) rfl rfl ?_; unfold B__law_right__15; walk_at "st")
  refine s_how (k := k + 3) (c := c + 290) (hb.mono (by omega)) fun w f s1 hm hb1 => ?_
  walk_at "ev"
  refine ⟨by decide, by decide, ?_⟩
  walk_at "st"
  refine take_ok tT (c := c + 289) hb1 (by decide) (by decide) fun d s2 d0 d1 hb2 => ?_
  refine ⟨by decide, ?_⟩
  refine take_ok tT (c := c + 288) hb2 (by decide) (by decide) fun q s3 q0 q1 hb3 => ?_
  walk_at "ev"
  refine pick_ok q0 q1 fun z hz => ?_
  obtain ⟨u, rfl, hu⟩ : ∃ u : Nat, z = .int u ∧ u ≤ 6 := by
    simp only [List.mem_cons, List.not_mem_nil, or_false] at hz
    rcases hz with rfl | rfl
    · exact ⟨2, rfl, by decide⟩
    · exact ⟨d.toNat, by rw [show ((d.toNat : Nat) : Int) = d from by omega], by omega⟩
  walk_at "ev"
  refine ⟨⟨by omega, by omega⟩, ?_⟩
  refine forL_inv (fun i e s => ∃ o3 o4, ∃ rs : List D, e = [some (.ptr b), some (howD w f), some (.lst true rs), o3, o4, none, none, none, none, none, none, none, none] ∧ Rows rs ∧ rs.length ≤ i ∧ Bud s b (c + 288 - 35 * i)) _ 0 _ _ (fun i x e s Q' hx hi hn h1 h2 h3 => ?_) ⟨_, _, [], rfl, (fun _ m => nomatch m), Nat.le_refl _, hb3⟩ fun e s hi => ?_
  · obtain ⟨o3, o4, rs, rfl, hr, hl, hb⟩ := hi
    obtain ⟨rfl, hlt⟩ := range_at hx
    rw [Nat.zero_add] at hn hl hb
    have ht := hr.tm (k := 0)
    have hf := fzL_tm ht
    unfold forB B__law_right__15_1
    walk_at "ev"
    walk_at "st"
    rw [hb.der, hf]
    refine ⟨⟨by rw [noTri_rows hr]; rcases hm.w with rfl | ⟨z, rfl, _⟩ <;> rfl, hb.all⟩, ?_⟩
    rw [hm.sc.1]
    refine s_more (k := k + 1) (c := c + 288 - 35 * (i + 1)) hm hr (by omega) (hb.mono (by omega)) fun a wd n m s4 ok hb4 => ?_
    refine ⟨⟨hb4.all, by rfl⟩, ?_⟩
    walk_at "st"
    have to := ok.tm (k := 0)
    refine ⟨?_, ?_⟩
    · have tl : Tm 2 (8102 * 6 + 3) (.lst false rs) := Tm.lst ht (by omega) (by decide)
      rw [Tm_cmp to (by decide), show cmpOk (.tup rs) = cmpOk (.lst false rs) from rfl, Tm_cmp tl (by decide)]; rfl
    · split
      · walk_at "st"
        refine ⟨by omega, ?_⟩
        exact hn _ _ ⟨_, _, rs ++ [rowD a wd n m], rfl, hr.app fun d md => by rw [List.mem_singleton.mp md]; exact ⟨_, _, _, _, rfl, ok⟩, by rw [List.length_append, List.length_singleton]; omega, hb4⟩
      · walk_at "ev"
        exact hn _ _ ⟨_, _, rs, rfl, hr, by omega, hb4⟩
  · obtain ⟨o3, o4, rs, rfl, hr, hl, hb⟩ := hi
    rw [Nat.zero_add, len_range] at hl hb
    have hl6 : rs.length ≤ 6 := by omega
    have hb0 : Bud s b (c + 40) := hb.mono (by omega)
    have ht := hr.tm (k := 0)
    have hf := fzL_tm ht
    walk_at "ev"
    walk_at "st"
    rw [hf, hm.sc.1]
    refine ⟨hm.sc.2, ?_⟩
    refine s_mk (k := k + 2) hm ?_
    walk_at "ev"
    refine s_due7 (k := k + 2) hm hr (by omega) ?_
    walk_at "ev"
    refine ⟨by decide, ?_⟩
    walk_at "st"
    have hb1 := hb0.app [.gone]
    have hnf := nfL_tm ht
    have tl : Tm 2 (8102 * 6 + 3) (.lst false rs) := Tm.lst ht hl6 (by decide)
    have tt : Tm 2 (8102 * 6 + 3) (.tup rs) := Tm.tup ht hl6 (by decide)
    refine ⟨hnf, hnf, by decide, ?_⟩
    refine take_ok tT (c := c + 38) (hb1.mono (by omega)) (by decide) (by decide) fun r s5 r0 r1 hb5 => ?_
    walk_at "ev"
    try simp only [hf]
    refine pick_ok r0 r1 fun z hz => ?_
    obtain ⟨tz, hv⟩ : Tm 2 (8102 * 6 + 3) z ∧ (z = .lst false rs ∨ z = .tup rs) := by
      simp only [List.mem_cons, List.not_mem_nil, or_false] at hz
      rcases hz with rfl | rfl
      · exact ⟨tl, .inl rfl⟩
      · exact ⟨tt, .inr rfl⟩
    refine ⟨tz.nf, ?_⟩
    walk_at "st"
    rw [tz.der]
    refine repr_tm tz (by decide) (by decide) ?_
    walk_at "ev"
    have hw := hm.sc.1
    try simp only [tz.fz, hw]
    refine s_hidden (k := k) hm hr (by omega) hv ?_
    walk_at "ev"
    refine ⟨by decide, ?_⟩
    walk_at "st"
    have fR : ∀ l : List (Int × Int), fzL (l.map prD2) = l.map prD2 := fun l => prs_fz id l
    have nP : ∀ l : List (Int × Int), noPL (l.map prD2) = true := fun l => by
      induction l with
      | nil => rfl
      | cons x l ih => show (true && noPL _) = true; rw [ih]; rfl
    have hln := hid_len w (rs := rs) (by omega)
    have tH2 := Tm.lst (n := 1) (hid_tm w (rs := rs) (by omega)) (by rw [List.length_map]; exact hln) (by decide)
    have tH : okS 2 (.lst false ((hidL w rs).map prD2)) = true := tH2.1
    rw [nP, fR]
    refine ⟨by rfl, ?_⟩
    refine same_i (k := k + 4) rfl (okS_le 2 (k + 4) _ (by omega) tH) ?_
    walk_at "ev"
    try simp only [tz.fz]
    rw [tz.der]
    refine repr_tm tz (by decide) (by decide) ?_
    walk_at "ev"
    have fin : ∀ (v : Int) (s6 : Stt), 0 ≤ v → Bud s6 b c → wSs (wC tab (k + 5)) (B__law_right__15.drop 8) [some (.ptr b), some (howD w f), some (.lst false rs), o3, o4, some (mixD w f), some (.lst true ((hidL w rs).map prD2)), some z, some (.str (repT z)), some (.lst true ((hidL w rs).map prD2 ++ [.tup [.int 0, .int 1]])), some (.int v), none, none] s6 ⟨fun _ s => K .non s, K, fun _ _ => False, fun _ _ => False, fun e _ s => X e s⟩ := fun v s6 v0 hb6 => by
      unfold B__law_right__15
      simp only [List.drop_succ_cons, List.drop_zero]
      walk_at "st"
      simp only [rangeD0]
      refine ⟨⟨by omega, by omega⟩, ?_⟩
      refine forL_inv (fun i e s => s = s6 ∧ ∃ o11 o12, e = [some (.ptr b), some (howD w f), some (.lst false rs), o3, o4, some (mixD w f), some (.lst true ((hidL w rs).map prD2)), some z, some (.str (repT z)), some (.lst true ((hidL w rs).map prD2 ++ [.tup [.int 0, .int 1]])), some (.int v), o11, o12]) _ 0 _ _ (fun i x e s Q' hx hi hn h1 h2 h3 => ?_) ⟨rfl, _, _, rfl⟩ fun e s hi => ?_
      · obtain ⟨hs, o11, o12, rfl⟩ := hi
        rw [hs]
        obtain ⟨rfl, hil⟩ := rng_at hx
        unfold forB B__law_right__15_3
        walk_at "ev"
        walk_at "st"
        refine ⟨⟨⟨by omega, by omega⟩, by omega, by omega⟩, ?_⟩
        rw [show ((i : Int) + 1) = ((i + 1 : Nat) : Int) from rfl, rangeD']
        refine forL_inv (fun j e s => s = s6 ∧ ∃ o12, e = [some (.ptr b), some (howD w f), some (.lst false rs), o3, o4, some (mixD w f), some (.lst true ((hidL w rs).map prD2)), some z, some (.str (repT z)), some (.lst true ((hidL w rs).map prD2 ++ [.tup [.int 0, .int 1]])), some (.int v), some (.int i), o12]) _ 0 _ _ (fun j x e s Q' hx hi hn2 h1 h2 h3 => ?_) ⟨rfl, _, rfl⟩ fun e s hi => ?_
        · obtain ⟨hs2, o12, rfl⟩ := hi
          rw [hs2]
          obtain ⟨hj, rfl⟩ : j < rs.length - (i + 1) ∧ x = .int ((i + 1 + j : Nat) : Int) := by
            rw [List.getElem?_map] at hx
            obtain ⟨q, hq, rfl⟩ := Option.map_eq_some_iff.mp hx
            obtain ⟨a1, a2⟩ := List.getElem?_eq_some_iff.mp hq
            rw [List.length_range'] at a1
            rw [List.getElem_range'] at a2
            exact ⟨a1, by rw [← a2, Nat.one_mul]⟩
          obtain ⟨a, wd, n, m, e1, ok1, r1'⟩ := row_at hr hil
          obtain ⟨a', wd', n', m', e2, ok2, r2'⟩ := row_at hr (show i + 1 + j < rs.length by omega)
          unfold forB B__law_right__15_2
          walk_at "ev"
          walk_at "st"
          simp only [hf, e1, e2]
          walk_at "ev"
          simp only [hw]
          refine s_mixed (x := .non) (k := k + 2) hm ok1 ?_
          refine s_mixed (x := .non) (k := k + 2) hm ok2 ?_
          walk_at "ev"
          have key : (mixN w f v (rowN wd n m) == mixN w f v (rowN wd' n' m')) = inD (.tup [.int (i : Int), .int ((i + 1 + j : Nat) : Int)]) ((hidL w rs).map prD2) := by
            rw [alike_mix, hid_in (by omega) (by omega)]
            unfold alkP
            rw [r1', r2']
          refine ⟨by decide, ?_, ?_⟩
          · rw [show cmpOk (.tup ((hidL w rs).map prD2)) = cmpOk (.lst false ((hidL w rs).map prD2)) from rfl, Tm_cmp tH2 (by decide)]; rfl
          · rw [key, if_neg (by simp)]
            exact hn2 _ _ ⟨rfl, _, rfl⟩
        · obtain ⟨hs2, o12, rfl⟩ := hi
          rw [hs2]
          exact hn _ _ ⟨rfl, _, _, rfl⟩
      · obtain ⟨hs, o11, o12, rfl⟩ := hi
        rw [hs]
        walk_at "ev"
        walk_at "st"
        try simp only [hf, hw]
        refine s_hidden (k := k) hm hr (by omega) (.inl rfl) ?_
        walk_at "ev"
        rw [fR, fR, nP]
        refine ⟨by rfl, ?_⟩
        refine same_i (k := k + 4) rfl (okS_le 2 (k + 4) _ (by omega) tH) ?_
        exact ⟨by rfl, h s6 hb6⟩
    unfold B__law_right__15 at fin
    simp only [List.drop_succ_cons, List.drop_zero] at fin
    walk_at "st"
    refine ⟨by decide, ?_⟩
    walk_at "st"
    refine ⟨by omega, hm.sc.2, ?_⟩
    rcases hm.w with rfl | ⟨y, rfl, y3, y4, _⟩
    · walk_at "ev"
      refine take_ok tT (c := c) (hb5.mono (by omega)) (by decide) (by decide) fun v s6 v0 _ hb6 => ?_
      walk_at "ev"
      exact fin v s6 v0 hb6
    · walk_at "ev"
      refine take_ok tT (c := c) (hb5.mono (by omega)) (by omega) (by omega) fun v s6 v0 _ hb6 => ?_
      walk_at "ev"
      exact fin v s6 v0 hb6


theorem law_true (ns : List Int) (h : ns.length ≤ 63) : wC tab 8 i_law__24 [.kst (ns.map D.int)] [] (fun d _ => d = .bl true) fun _ _ => False := by
  have hL : Lim = 16777216 := rfl
  (refine fn_go (b := B_law__24) rfl rfl ?_; unfold B_law__24; walk_at "st")
  obtain ⟨u, hu, u3⟩ : ∃ u : Nat, (if (ns.length : Int) < 5 then (ns.length : Int) else 5) = u ∧ u ≤ 5 := by
    split
    · exact ⟨ns.length, rfl, by omega⟩
    · exact ⟨5, rfl, by decide⟩
  rw [hu]
  refine ⟨⟨by omega, by omega⟩, ?_⟩
  refine forL_inv (fun i e s => ∃ o1 o2, e = [some (.kst (ns.map D.int)), o1, o2, none] ∧ s.all boxB = true) _ 0 _ _ (fun i x e s Q' hx hi hn h1 h2 h3 => ?_) ⟨_, _, rfl, rfl⟩ fun e s hi => ?_
  · obtain ⟨o1, o2, rfl, hs⟩ := hi
    obtain ⟨rfl, hlt⟩ := range_at hx
    unfold forB B_law__24_2
    walk_at "ev"
    walk_at "st"
    refine box_ok tB ⟨by omega, by omega⟩ (fun st1 b hb => ?_) hs
    walk_at "ev"
    walk_at "st"
    refine ⟨⟨by decide, by decide⟩, by rw [len_range]; decide, ?_⟩
    refine compL_all (fun j e s => e = [some (.kst (ns.map D.int)), some (.int (0 + (i : Int))), some (.ptr b), none] ∧ Bud s b (5000 - 400 * j)) (fun d => d = .bl true) _ _ _ _ (fun j x e s K' hx hi hk => ?_) ⟨rfl, hb.mono (by decide)⟩ fun ys e s hl hp hi => ?_
    · obtain ⟨rfl, hb⟩ := hi
      obtain ⟨rfl, hlt⟩ := range_at hx
      rw [show (3 - 0 : Int).toNat = 3 from rfl] at hlt
      unfold cmpB B_law__24_1
      walk_at "ev"
      refine s_right15 (k := 1) (c := 5000 - 400 * (j + 1)) (hb.mono (by omega)) fun s2 hb2 => ?_
      walk_at "ev"
      exact hk _ _ _ rfl ⟨rfl, hb2⟩
    · obtain ⟨rfl, hb⟩ := hi
      walk_at "ev"
      have fy : fzL ys = ys := fzL_tm (n := 0) (z := 10) fun y m => by rw [hp y m]; exact ⟨rfl, rfl, by decide⟩
      rw [fy, bools_all hp, bsW_some, all_trues, if_neg (by decide)]
      exact hn _ _ ⟨_, _, rfl, hb.all⟩
  · obtain ⟨o1, o2, rfl, hs⟩ := hi
    walk_at "ev"
    walk_at "st"

end
end LK

open PySem PySem.W PySem.Calls PyProof.Rows
theorem PySem.Challenge.cw_startlog_k25_rows_that_no_board_tells_ap_holds : PySem.Challenge.rw_startlog_k25_rows_that_no_board_tells_ap.Holds := by
  w_on; o_law
  refine HandSHeadRun.head_any (r := OpenLaw.row PySem.Challenge.rw_startlog_k25_rows_that_no_board_tells_ap) (q := view (OpenLaw.row PySem.Challenge.rw_startlog_k25_rows_that_no_board_tells_ap).prog [38]) (H := LK.hk) (ob := LK.ob) (M := 6000) (loose := LK.loose) (d := HandSHeadRun.topDef (OpenLaw.row PySem.Challenge.rw_startlog_k25_rows_that_no_board_tells_ap).prog 38) (kwd := []) LK.ob_eq
    (by kernel_rfl) (fun s => by kernel_rfl) LK.run (by kernel_rfl) (by kernel_rfl) (by kernel_rfl) (by rfl) (by first | assumption | decide +kernel) (by decide +kernel) ⟨rfl, rfl, rfl, rfl, rfl, by decide +kernel⟩ ?hw ?hc
  case hw => w_witness2
  case hc =>
    refine Ev.walk_go (l := PySem.Challenge.rw_startlog_k25_rows_that_no_board_tells_ap) (n := 63) (k := 10) (x := "_law_script") rfl (by decide) (by kernel_rfl) ⟨rfl, by decide, by decide⟩ fun w mg fa h Y G hmg0 => ?_
    obtain ⟨K, KX, c⟩ := Y
    have hmg : mg ("law" : PySem.Str) = some (.ref fa) := by
      have e : (HandSHeadRun.topDef (OpenLaw.row PySem.Challenge.rw_startlog_k25_rows_that_no_board_tells_ap).prog 38).name = ("law" : PySem.Str) := by kernel_rfl
      rw [← e]; exact hmg0
    obtain ⟨fd, hb, hF⟩ := LK.facts (P := (PySem.Challenge.rw_startlog_k25_rows_that_no_board_tells_ap).prog) (w := w) KX G hmg c
    exact ⟨K, fd, _, KX, hb, fun H a ns hl _ hS => Ev.law_sp hS (LK.law_true ns hl), hF⟩
