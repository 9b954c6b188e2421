import PyProof.Rows.All
import Wide.All
import OpenK.AllK
import Wide.FinOn
import HandS.ForMost
import HandS.ForExc
import HandS.IsInst
import HandS.Defaults
import KE.DataEq
import KE.DataCmp
import KE.SortData
import PyProof.ReprRoads
import HandS.HeadHook1
import HandS.TupMul
import HandS.TupAny
import HandS.Style
import HandS.TupLe
import HandS.CallSlots
import HandS.Rev
import HandS.Zip
import HandS.RevRange
import HandS.Star
import KE.KExcSuper
import HandS.ExcSuper
import HandS.ExcInit
import HandS.ExcField
import HandS.ExcIs
import HandS.TryMany
import HandS.TryOnly
import HandS.HeadEnd
import HandS.HeadHook2
import HandS.Head0
import HandS.Head1
import HandS.Head2
import PySem.Challenge.RW_linkneed_k07_whole_values
section
set_option Elab.async false
set_option linter.all false
set_option maxRecDepth 100000
/-! Ly1: an interpreter for a part of Python over pure data and a heap of lists and dicts (their places are numbers). -/
namespace Ly
open PySem

/-- a value: tuples are pure; a list or a dict is a place of the heap; rol: a list that nobody changes; it: what a loop walks -/
inductive D where
  | non | bl (b : Bool) | int (i : Int) | str (x : Str) | tup (xs : List D) | rol (xs : List D) | ref (n : Nat)
  | it (k : Nat) (xs : List D)
  deriving Inhabited
inductive AO where
  | lst (xs : List D) | dct (kvs : List (D × D))
  deriving Inhabited
abbrev AH := List AO
abbrev Sg := List (Option D)
inductive R (α : Type) where
  | ok (a : α) (h : AH) | exc (c : Str) (fs : List Str) (vs : List D) (h : AH) | bad
def R.bind {α β : Type} : R α → (α → AH → R β) → R β
  | .ok a h, k => k a h
  | .exc c fs vs h, _ => .exc c fs vs h
  | .bad, _ => .bad
inductive Bi where
  | len | int | divmod | list | tuple | any | all | max1 | min1 | max2 | min2 | sorted | sum | repr | abs
inductive Mth where
  | append | pop | reverse | extend | index | remove
inductive Bt where
  | int | bool | str | tuple | list | dict | none
def Bt.name : Bt → String
  | .int => "int"
  | .bool => "bool"
  | .str => "str"
  | .tuple => "tuple"
  | .list => "list"
  | .dict => "dict"
  | .none => "NoneType"
/-- is one class below the other -/
def Bt.sub : Bt → Bt → Bool
  | .int, .int => true
  | .bool, .bool => true
  | .bool, .int => true
  | .str, .str => true
  | .tuple, .tuple => true
  | .list, .list => true
  | .dict, .dict => true
  | .none, .none => true
  | _, _ => false
/-- targets: names, tuples of targets -/
inductive Pat where
  | v (i : Nat) | nil | cons (p r : Pat) | tup (p : Pat)
inductive CE where
  | var (i : Nat) | cst (d : D)
  | bop (o : Operator) (a b : CE) | cmp (o : CmpOp) (a b : CE) | chn (o o' : CmpOp) (a b c : CE)
  | neg (a : CE) | not_ (a : CE) | and_ (a b : CE) | or_ (a b : CE) | ite (c a b : CE) | tr (a : CE)
  | nil | cons (a r : CE) | tup (a : CE) | lst (a : CE)
  | call (f : Nat) (a : CE) | callk (f : Nat) (p : List Nat) (a b : CE) | bi (b : Bi) (a : CE) | mth (m : Mth) (o a : CE) | isi (a : CE) (cs : List Bt) | isE (cs : List Str)
  | sub (a i : CE) | slc (a l u : CE)
  | consS (a r : CE) | rev (a : CE)
  | itr (k : Nat) (a : CE) | lc (p : Pat) (it c e : CE)
  | fld (f : Str)
inductive CS where
  | skip | seq (a b : CS) | ex (e : CE) | asg (p : Pat) (e : CE) | setI (o i e : CE) | aug (i : Nat) (o : Operator) (e : CE)
  | ifS (c : CE) (a b : CS) | whl (c : CE) (b : CS) | for_ (p : Pat) (it : CE) (b : CS)
  | ret (e : CE) | retN | raise (c : Str) (fs : List Str) (a : CE) | try_ (b : CS) (c : Str) (i : Nat) (s : CS) | brk | cnt
/-- what a statement comes to -/
inductive RS where
  | nx (σ : Sg) (h : AH) | rt (d : D) (h : AH) | bk (σ : Sg) (h : AH) | ct (σ : Sg) (h : AH)
  | exc (c : Str) (fs : List Str) (vs : List D) (σ : Sg) (h : AH) | bad

/-! ### values -/
def optMap {α β : Type} (f : α → Option β) : List α → Option (List β)
  | [] => some []
  | x :: xs => match f x, optMap f xs with
    | some y, some ys => some (y :: ys)
    | _, _ => none
/-- a value as data, to a depth -/
def pd (h : AH) : Nat → D → Option PyData
  | 0, _ => none
  | k + 1, d => match d with
    | .non => some .none
    | .bl b => some (.bool b)
    | .int i => some (.int i)
    | .str x => some (.str x)
    | .tup xs => (optMap (pd h k) xs).map .tuple
    | .rol xs => (optMap (pd h k) xs).map .list
    | .ref n => (match h[n]? with
      | some (.lst xs) => (optMap (pd h k) xs).map .list
      | _ => none)
    | _ => none
abbrev pdN : Nat := 60
/-- the items of a list, of a tuple -/
def seqOf (h : AH) : D → Option (List D)
  | .tup xs => some xs
  | .rol xs => some xs
  | .ref n => (match h[n]? with
    | some (.lst xs) => some xs
    | _ => none)
  | _ => none
def isSeq (h : AH) (d : D) : Bool := (seqOf h d).isSome
def okB (b : Bool) (h : AH) : R D := .ok (.bl b) h
def inS (neg : Bool) (d e : D) (h : AH) : R D := match seqOf h e with
  | some ys => (match pd h pdN d, optMap (pd h pdN) ys with
    | some p, some ps => okB (if neg then !(ps.any fun q => PyData.eqv q p) else ps.any fun q => PyData.eqv q p) h
    | _, _ => .bad)
  | none => .bad
def cmpS (o : CmpOp) (d e : D) (h : AH) : R D := match o with
  | .Eq => (match pd h pdN d, pd h pdN e with
    | some p, some q => okB (PyData.eqv p q) h
    | _, _ => .bad)
  | .NotEq => (match pd h pdN d, pd h pdN e with
    | some p, some q => okB (!PyData.eqv p q) h
    | _, _ => .bad)
  | .Lt => (match d, e with
    | .int i, .int j => okB (decide (i < j)) h
    | _, _ => .bad)
  | .LtE => (match d, e with
    | .int i, .int j => okB (decide (i ≤ j)) h
    | _, _ => .bad)
  | .Gt => (match d, e with
    | .int i, .int j => okB (decide (j < i)) h
    | _, _ => .bad)
  | .GtE => (match d, e with
    | .int i, .int j => okB (decide (j ≤ i)) h
    | _, _ => .bad)
  | .Is => (match d, e with
    | .non, .non => okB true h
    | .bl _, .non => okB false h
    | .int _, .non => okB false h
    | .str _, .non => okB false h
    | .tup _, .non => okB false h
    | .ref _, .non => okB false h
    | .bl a, .bl b => okB (decide (a = b)) h
    | _, _ => .bad)
  | .IsNot => (match d, e with
    | .non, .non => okB false h
    | .bl _, .non => okB true h
    | .int _, .non => okB true h
    | .str _, .non => okB true h
    | .tup _, .non => okB true h
    | .ref _, .non => okB true h
    | .bl a, .bl b => okB (!decide (a = b)) h
    | _, _ => .bad)
  | .In => inS false d e h
  | .NotIn => inS true d e h
def two64 : Int := 18446744073709551616
def mulOk (i j : Int) : Bool := (decide (-two64 < i) && decide (i < two64)) || (decide (-two64 < j) && decide (j < two64))
def bopS (o : Operator) (d e : D) (h : AH) : R D := match o with
  | .Add => (match d, e with
    | .int i, .int j => .ok (.int (i + j)) h
    | .tup xs, .tup ys => if xs.length + ys.length ≤ 16777216 then .ok (.tup (xs ++ ys)) h else .bad
    | .ref n, .ref m => (match h[n]?, h[m]? with
      | some (.lst xs), some (.lst ys) => if xs.length + ys.length ≤ 16777216 then .ok (.ref h.length) (h ++ [.lst (xs ++ ys)]) else .bad
      | _, _ => .bad)
    | _, _ => .bad)
  | .Sub => (match d, e with
    | .int i, .int j => .ok (.int (i - j)) h
    | _, _ => .bad)
  | .Mult => (match d, e with
    | .int i, .int j => if mulOk i j = true then .ok (.int (i * j)) h else .bad
    | .ref n, .int k => (match h[n]? with
      | some (.lst xs) => if (-(2 ^ 63) ≤ k ∧ k < 2 ^ 63) ∧ xs.length * k.toNat ≤ 16777216 then .ok (.ref h.length) (h ++ [.lst (List.replicate k.toNat xs).flatten]) else .bad
      | _ => .bad)
    | .tup xs, .int k => if (-1000 ≤ k ∧ k ≤ 1000) ∧ xs.length ≤ 1000 then .ok (.tup (List.replicate k.toNat xs).flatten) h else .bad
    | _, _ => .bad)
  | .FloorDiv => (match d, e with
    | .int i, .int j => if 0 < j ∧ j < 1073741824 then .ok (.int (i / j)) h else .bad
    | _, _ => .bad)
  | .Mod => (match d, e with
    | .int i, .int j => if 0 < j then .ok (.int (i % j)) h else .bad
    | _, _ => .bad)
  | .Pow => (match d, e with
    | .int i, .int j => if 0 ≤ j ∧ j ≤ 1000000 ∧ i.natAbs < 18446744073709551616 then .ok (.int (i ^ j.toNat)) h else .bad
    | _, _ => .bad)
  | _ => .bad
def truS (d : D) (h : AH) : Option Bool := match d with
  | .non => some false
  | .bl b => some b
  | .int i => some (i != 0)
  | .tup xs => some (!xs.isEmpty)
  | .rol xs => some (!xs.isEmpty)
  | .ref n => (match h[n]? with
    | some (.lst xs) => some (!xs.isEmpty)
    | _ => none)
  | _ => none
def blsOf : List D → Option (List Bool) := optMap fun d => match d with
  | .bl b => some b
  | _ => none
def intsOf : List D → Option (List Int) := optMap fun d => match d with
  | .int b => some b
  | _ => none
/-- how a value is shown -/
def shownS (h : AH) (d : D) : Option Str := match pd h pdN d with
  | some p => if p.showable = true ∧ p.shown.length ≤ 16777216 then some p.shown else none
  | none => none
/-- sorted: the items with their data -/
def srtOk (ps : List (D × PyData)) : Bool := (ps.all fun p => ps.all fun q => PySem.W.alike p.2 q.2) && ((ps.all fun p => match p.2 with
  | .tuple (_ :: _) => true
  | _ => false) || ps.all fun p => match p.2 with
  | .none => false
  | .tuple _ => false
  | _ => true)
def srtS (h : AH) (xs : List D) : Option (List D) := match optMap (fun d => (pd h pdN d).map fun p => (d, p)) xs with
  | some ps => if srtOk ps = true ∧ ps.length ≤ 16777216 then some ((ps.mergeSort (PySem.W.dataLe false (·.2))).map (·.1)) else none
  | none => none
def bi1 (b : Bi) (d : D) (h : AH) : R D := match b with
  | .len => (match seqOf h d with
    | some xs => .ok (.int xs.length) h
    | none => .bad)
  | .int => (match d with
    | .int i => .ok (.int i) h
    | .bl b => .ok (.int (if b then 1 else 0)) h
    | _ => .bad)
  | .list => (match seqOf h d with
    | some xs => .ok (.ref h.length) (h ++ [.lst xs])
    | none => .bad)
  | .tuple => (match seqOf h d with
    | some xs => .ok (.tup xs) h
    | none => .bad)
  | .any => (match d with
    | .ref n => (match h[n]? with
      | some (.lst xs) => (match blsOf xs with
        | some bs => okB (bs.any id) h
        | none => .bad)
      | _ => .bad)
    | _ => .bad)
  | .all => (match d with
    | .ref n => (match h[n]? with
      | some (.lst xs) => (match blsOf xs with
        | some bs => okB (bs.all id) h
        | none => .bad)
      | _ => .bad)
    | _ => .bad)
  | .sum => (match d with
    | .ref n => (match h[n]? with
      | some (.lst xs) => (match intsOf xs with
        | some is => .ok (.int is.sum) h
        | none => .bad)
      | _ => .bad)
    | _ => .bad)
  | .abs => (match d with
    | .int i => .ok (.int (if i < 0 then -i else i)) h
    | _ => .bad)
  | .max1 => (match d with
    | .ref n => (match h[n]? with
      | some (.lst xs) => (match intsOf xs with
        | some (i :: is) => .ok (.int (is.foldl max i)) h
        | _ => .bad)
      | _ => .bad)
    | _ => .bad)
  | .min1 => (match d with
    | .ref n => (match h[n]? with
      | some (.lst xs) => (match intsOf xs with
        | some (i :: is) => .ok (.int (is.foldl min i)) h
        | _ => .bad)
      | _ => .bad)
    | _ => .bad)
  | .repr => (match shownS h d with
    | some x => .ok (.str x) h
    | none => .bad)
  | .sorted => (match d with
    | .ref n => (match h[n]? with
      | some (.lst xs) => (match srtS h xs with
        | some ys => .ok (.ref h.length) (h ++ [.lst ys])
        | none => .bad)
      | _ => .bad)
    | _ => .bad)
  | _ => .bad
def bi2 (b : Bi) (d e : D) (h : AH) : R D := match b with
  | .divmod => (match d, e with
    | .int i, .int j => if 0 < j ∧ j < 1073741824 then .ok (.tup [.int (i / j), .int (i % j)]) h else .bad
    | _, _ => .bad)
  | .max2 => (match d, e with
    | .int i, .int j => .ok (.int (if j > i then j else i)) h
    | _, _ => .bad)
  | .min2 => (match d, e with
    | .int i, .int j => .ok (.int (if j < i then j else i)) h
    | _, _ => .bad)
  | _ => .bad
def biS (b : Bi) (ds : List D) (h : AH) : R D := match ds with
  | [d] => bi1 b d h
  | [d, e] => bi2 b d e h
  | _ => .bad
/-- in place, on a name -/
def augS (o : Operator) (d e : D) (h : AH) : R D := match o, d, e with
  | .Add, .int i, .int j => .ok (.int (i + j)) h
  | .Sub, .int i, .int j => .ok (.int (i - j)) h
  | _, _, _ => .bad
/-- the place of an index -/
def ixOf (n : Nat) (i : Int) : Option Nat := L2.ixN n i
def getS (d i : D) (h : AH) : R D := match i with
  | .int k => (match seqOf h d with
    | some xs => (match (ixOf xs.length k).bind fun j => xs[j]? with
      | some x => .ok x h
      | none => .bad)
    | none => .bad)
  | _ => .bad
def setS (o i v : D) (h : AH) : Option AH := match o, i with
  | .ref n, .int k => (match h[n]? with
    | some (.lst xs) => (match ixOf xs.length k with
      | some j => some (h.set n (.lst (xs.set j v)))
      | none => none)
    | _ => none)
  | _, _ => none
def partOf : D → Option (Option Int)
  | .int i => some (some i)
  | .it 9 [] => some none
  | _ => none
def cutD (xs : List D) (lo hi : Option Int) : List D := (xs.drop (HT.sIx xs.length 0 lo)).take (HT.sIx xs.length xs.length hi - HT.sIx xs.length 0 lo)
def slcS (d l u : D) (h : AH) : R D := match partOf l, partOf u with
  | some lo, some hi => (match d with
    | .tup xs => .ok (.tup (cutD xs lo hi)) h
    | .ref n => (match h[n]? with
      | some (.lst xs) => .ok (.ref h.length) (h ++ [.lst (cutD xs lo hi)])
      | _ => .bad)
    | .rol xs => .ok (.ref h.length) (h ++ [.lst (cutD xs lo hi)])
    | _ => .bad)
  | _, _ => .bad
def mth0 (m : Mth) (n : Nat) (xs : List D) (h : AH) : R D := match m with
  | .pop => (match xs[xs.length - 1]? with
    | some d => .ok d (h.set n (.lst xs.dropLast))
    | none => .bad)
  | .reverse => .ok .non (h.set n (.lst xs.reverse))
  | _ => .bad
def mth1 (m : Mth) (n : Nat) (xs : List D) (d : D) (h : AH) : R D := match m with
  | .append => if xs.length < 16777216 then .ok .non (h.set n (.lst (xs ++ [d]))) else .bad
  | .pop => (match d with
    | .int i => (if -9223372036854775808 ≤ i ∧ i < 9223372036854775808 then (match ixOf xs.length i with
      | some k => (match xs[k]? with
        | some d => .ok d (h.set n (.lst (xs.eraseIdx k)))
        | none => .bad)
      | none => .bad) else .bad)
    | _ => .bad)
  | .extend => (match d with
    | .ref m => (match h[m]? with
      | some (.lst ys) => if xs.length + ys.length ≤ 16777216 then .ok .non (h.set n (.lst (xs ++ ys))) else .bad
      | _ => .bad)
    | .tup ys => if xs.length + ys.length ≤ 16777216 then .ok .non (h.set n (.lst (xs ++ ys))) else .bad
    | _ => .bad)
  | _ => .bad
def mthS (m : Mth) (o : D) (ds : List D) (h : AH) : R D := match o with
  | .ref n => (match h[n]? with
    | some (.lst xs) => (match ds with
      | [] => mth0 m n xs h
      | [d] => mth1 m n xs d h
      | _ => .bad)
    | _ => .bad)
  | _ => .bad
def isLst (h : AH) : D → Bool
  | .ref n => (match h[n]? with
    | some (.lst _) => true
    | _ => false)
  | _ => false
/-- the class of a value -/
def tyOf (h : AH) : D → Option Bt
  | .non => some .none
  | .bl _ => some .bool
  | .int _ => some .int
  | .str _ => some .str
  | .tup _ => some .tuple
  | .rol _ => some .list
  | .ref n => (match h[n]? with
    | some (.lst _) => some .list
    | some (.dct _) => some .dict
    | _ => none)
  | _ => none
/-- the own classes: who is whose -/
abbrev SubT := List (Str × Str × Bool)
def subOf (T : SubT) (c c' : Str) : Option Bool := (T.find? fun p => decide (p.1 = c) && decide (p.2.1 = c')).map (·.2.2)
/-- an error of class c: is it one of cs -/
def isSome1 (T : SubT) (c : Str) : List Str → Option Bool
  | [] => some false
  | c' :: cs => match subOf T c c' with
    | some true => some true
    | some false => isSome1 T c cs
    | none => none
/-- what a loop walks at turn i: none: not known; some none: it ends -/
def draw (h : AH) (d : D) (i : Nat) : Option (Option D) := match d with
  | .it 0 [s] => (seqOf h s).map fun xs => xs[i]?
  | .it 1 [.int lo, .int n] => some (if i < n.toNat then some (.int (lo + i)) else none)
  | .it 2 [s] => (seqOf h s).map fun xs => (xs[i]?).map fun x => .tup [.int i, x]
  | .it 3 [s, t] => (match seqOf h s, seqOf h t with
    | some xs, some ys => some (match xs[i]?, ys[i]? with
      | some x, some y => some (.tup [x, y])
      | _, _ => none)
    | _, _ => none)
  | .it 5 [s, .int n] => (match seqOf h s with
    | some xs => if i < n.toNat then (if xs.length = n.toNat then some (xs[n.toNat - 1 - i]?) else none) else some none
    | none => none)
  | .it 6 [.int n] => some (if i < n.toNat then some (.int (n - 1 - i)) else none)
  | _ => none
def isTupD : D → Bool
  | .tup _ => true
  | _ => false
def isLstD (h : AH) (d : D) : Bool := !isTupD d && isSeq h d
def it1 (k : Nat) (s : D) (h : AH) : R D := match k with
  | 0 => if isSeq h s = true then .ok (.it 0 [s]) h else .bad
  | 1 => (match s with
    | .int j => if -4611686018427387904 ≤ j ∧ j < 4611686018427387904 then .ok (.it 1 [.int 0, .int j]) h else .bad
    | _ => .bad)
  | 2 => if isLstD h s = true then .ok (.it 2 [s]) h else .bad
  | 5 => (match seqOf h s with
    | some xs => .ok (.it 5 [s, .int xs.length]) h
    | none => .bad)
  | 6 => (match s with
    | .int j => if -4611686018427387904 ≤ j ∧ j < 4611686018427387904 then .ok (.it 6 [.int j]) h else .bad
    | _ => .bad)
  | _ => .bad
def it2 (k : Nat) (s t : D) (h : AH) : R D := match k with
  | 4 => (match s, t with
    | .int i, .int j => if (-4611686018427387904 ≤ i ∧ i < 4611686018427387904) ∧ (-4611686018427387904 ≤ j ∧ j < 4611686018427387904) then .ok (.it 1 [.int i, .int (j - i)]) h else .bad
    | _, _ => .bad)
  | 3 => if (isTupD s = true ∧ isTupD t = true) ∨ (isLstD h s = true ∧ isLstD h t = true) then .ok (.it 3 [s, t]) h else .bad
  | _ => .bad
def itS (k : Nat) (ds : List D) (h : AH) : R D := match ds with
  | [s] => it1 k s h
  | [s, t] => it2 k s t h
  | _ => .bad
/-! ### targets -/
mutual
def bindP : Pat → D → Sg → Option Sg
  | .v i, d, σ => some (σ.set i (some d))
  | .tup p, .tup ds, σ => bindPs p ds σ
  | _, _, _ => none
def bindPs : Pat → List D → Sg → Option Sg
  | .nil, [], σ => some σ
  | .cons p r, d :: ds, σ => (match bindP p d σ with
    | some σ' => bindPs r ds σ'
    | none => none)
  | _, _, _ => none
end
/-- the slots of a target -/
def slots : Pat → List Nat
  | .v i => [i]
  | .nil => []
  | .cons p r => slots p ++ slots r
  | .tup p => slots p
def wipeD (σ : Sg) : List Nat → Sg
  | [] => σ
  | v :: vs => (wipeD σ vs).set v none
/-! ### the interpreter -/
/-- the most turns of a loop -/
theorem wf_ex : ∃ n : Nat, 1000000000 < n := ⟨1000000000000, by decide⟩
noncomputable def wf : Nat := Classical.choose wf_ex
theorem lt_wf {n : Nat} (h : n ≤ 1000000000) : n < wf := Nat.lt_of_le_of_lt h (Classical.choose_spec wf_ex)
structure Gs where
  cf : Nat → List D → AH → R D
  T : SubT
  ex : Option (Str × List Str × List D) := none
def lcLoop (body : D → AH → R (Option D)) (src : D) (acc : Nat) : Nat → Nat → AH → R Unit
  | 0, _, _ => .bad
  | f + 1, i, h => (match draw h src i with
    | none => .bad
    | some none => .ok () h
    | some (some d) => (match body d h with
      | .ok none h1 => lcLoop body src acc f (i + 1) h1
      | .ok (some y) h1 => (match h1[acc]? with
        | some (.lst ys) => if ys.length < 16777216 then lcLoop body src acc f (i + 1) (h1.set acc (.lst (ys ++ [y]))) else .bad
        | _ => .bad)
      | _ => .bad))
def lcBody (p : Pat) (c e : Sg → AH → R D) (σ : Sg) (d : D) (h : AH) : R (Option D) := match bindP p d (wipeD σ (slots p)) with
  | none => .bad
  | some σ' => (match c σ' h with
    | .ok (.bl true) h1 => (match e σ' h1 with
      | .ok y h2 => .ok (some y) h2
      | _ => .bad)
    | .ok (.bl false) h1 => .ok none h1
    | _ => .bad)
def argsOf : D → Option (List D)
  | .tup ds => some ds
  | _ => none
noncomputable def ev (g : Gs) : CE → Sg → AH → R D
  | .var i, σ, h => (match σ[i]? with
    | some (some d) => .ok d h
    | _ => .bad)
  | .cst d, _, h => .ok d h
  | .bop o a b, σ, h => (ev g a σ h).bind fun x h1 => (ev g b σ h1).bind fun y h2 => bopS o x y h2
  | .cmp o a b, σ, h => (ev g a σ h).bind fun x h1 => (ev g b σ h1).bind fun y h2 => cmpS o x y h2
  | .chn o o' a b c, σ, h => (ev g a σ h).bind fun x h1 => (ev g b σ h1).bind fun y h2 => (cmpS o x y h2).bind fun z h3 => (match z with
    | .bl true => (ev g c σ h3).bind fun w h4 => cmpS o' y w h4
    | .bl false => .ok (.bl false) h3
    | _ => .bad)
  | .neg a, σ, h => (ev g a σ h).bind fun x h1 => (match x with
    | .int i => .ok (.int (-i)) h1
    | _ => .bad)
  | .not_ a, σ, h => (ev g a σ h).bind fun x h1 => (match x with
    | .bl b => .ok (.bl (!b)) h1
    | _ => .bad)
  | .and_ a b, σ, h => (ev g a σ h).bind fun x h1 => (match x with
    | .bl true => ev g b σ h1
    | .bl false => .ok (.bl false) h1
    | _ => .bad)
  | .or_ a b, σ, h => (ev g a σ h).bind fun x h1 => (match x with
    | .bl true => .ok (.bl true) h1
    | .bl false => ev g b σ h1
    | _ => .bad)
  | .ite c a b, σ, h => (ev g c σ h).bind fun x h1 => (match x with
    | .bl true => ev g a σ h1
    | .bl false => ev g b σ h1
    | _ => .bad)
  | .tr a, σ, h => (ev g a σ h).bind fun x h1 => (match truS x h1 with
    | some b => .ok (.bl b) h1
    | none => .bad)
  | .nil, _, h => .ok (.tup []) h
  | .cons a r, σ, h => (ev g a σ h).bind fun x h1 => (ev g r σ h1).bind fun y h2 => (match y with
    | .tup ds => .ok (.tup (x :: ds)) h2
    | _ => .bad)
  | .consS a r, σ, h => (ev g a σ h).bind fun x h1 => (match seqOf h1 x with
    | some xs => (ev g r σ h1).bind fun y h2 => (match y with
      | .tup ds => .ok (.tup (xs ++ ds)) h2
      | _ => .bad)
    | none => .bad)
  | .rev a, σ, h => (ev g a σ h).bind fun x h1 => if isLstD h1 x = true then (match seqOf h1 x with
    | some xs => .ok (.ref h1.length) (h1 ++ [.lst xs.reverse])
    | none => .bad) else .bad
  | .tup a, σ, h => (ev g a σ h).bind fun x h1 => (match x with
    | .tup ds => if ds.length ≤ 16777216 then .ok (.tup ds) h1 else .bad
    | _ => .bad)
  | .lst a, σ, h => (ev g a σ h).bind fun x h1 => (match x with
    | .tup ds => if ds.length ≤ 16777216 then .ok (.ref h1.length) (h1 ++ [.lst ds]) else .bad
    | _ => .bad)
  | .call f a, σ, h => (ev g a σ h).bind fun x h1 => (match x with
    | .tup ds => g.cf f ds h1
    | _ => .bad)
  | .callk f p a b, σ, h => (ev g a σ h).bind fun x h1 => (match x with
    | .tup ds => (ev g b σ h1).bind fun y h2 => (match y with
      | .tup es => g.cf f (p.filterMap fun i => (ds ++ es)[i]?) h2
      | _ => .bad)
    | _ => .bad)
  | .bi b a, σ, h => (ev g a σ h).bind fun x h1 => (match x with
    | .tup ds => biS b ds h1
    | _ => .bad)
  | .mth m o a, σ, h => (ev g o σ h).bind fun x h1 => if isLst h1 x = true then (ev g a σ h1).bind fun y h2 => (match y with
    | .tup ds => mthS m x ds h2
    | _ => .bad) else .bad
  | .isi a cs, σ, h => (ev g a σ h).bind fun x h1 => (match tyOf h1 x with
    | some t => .ok (.bl (cs.any fun n => t.sub n)) h1
    | none => .bad)
  | .isE cs, _, h => (match g.ex with
    | some (c, _, _) => (match isSome1 g.T c cs with
      | some b => .ok (.bl b) h
      | none => .bad)
    | none => .bad)
  | .sub a i, σ, h => (ev g a σ h).bind fun x h1 => (ev g i σ h1).bind fun y h2 => getS x y h2
  | .slc a l u, σ, h => (ev g a σ h).bind fun x h1 => (ev g l σ h1).bind fun y h2 => if (partOf y).isSome = true then (ev g u σ h2).bind fun z h3 => slcS x y z h3 else .bad
  | .itr k a, σ, h => (ev g a σ h).bind fun x h1 => (match x with
    | .tup ds => itS k ds h1
    | _ => .bad)
  | .lc p it c e, σ, h => (ev g it σ h).bind fun src h1 => (match lcLoop (lcBody p (ev g c) (ev g e) σ) src h1.length wf 0 (h1 ++ [.lst []]) with
    | .ok _ h2 => .ok (.ref h1.length) h2
    | _ => .bad)
  | .fld f, _, h => (match g.ex with
    | some (_, fs, vs) => (match (fs.zip vs).lookup f with
      | some d => .ok d h
      | none => .bad)
    | none => .bad)
def whlLoop (c : Sg → AH → R D) (b : Sg → AH → RS) : Nat → Sg → AH → RS
  | 0, _, _ => .bad
  | f + 1, σ, h => (match c σ h with
    | .ok (.bl true) h1 => (match b σ h1 with
      | .nx σ' h' => whlLoop c b f σ' h'
      | .ct σ' h' => whlLoop c b f σ' h'
      | .bk σ' h' => .nx σ' h'
      | r => r)
    | .ok (.bl false) h1 => .nx σ h1
    | .exc x fs vs h1 => .exc x fs vs σ h1
    | _ => .bad)
def forLoop (p : Pat) (b : Sg → AH → RS) (src : D) : Nat → Nat → Sg → AH → RS
  | 0, _, _, _ => .bad
  | f + 1, i, σ, h => (match draw h src i with
    | none => .bad
    | some none => .nx σ h
    | some (some d) => (match bindP p d σ with
      | none => .bad
      | some σ1 => (match b σ1 h with
        | .nx σ' h' => forLoop p b src f (i + 1) σ' h'
        | .ct σ' h' => forLoop p b src f (i + 1) σ' h'
        | .bk σ' h' => .nx σ' h'
        | r => r)))
/-- a statement that begins by an expression -/
def evS (r : R D) (σ : Sg) (k : D → AH → RS) : RS := match r with
  | .ok d h => k d h
  | .exc c fs vs h => .exc c fs vs σ h
  | .bad => .bad
def seqS (r : RS) (k : Sg → AH → RS) : RS := match r with
  | .nx σ h => k σ h
  | r => r
noncomputable def exec (g : Gs) : CS → Sg → AH → RS
  | .skip, σ, h => .nx σ h
  | .seq a b, σ, h => seqS (exec g a σ h) (exec g b)
  | .ex e, σ, h => evS (ev g e σ h) σ fun _ h1 => .nx σ h1
  | .asg p e, σ, h => evS (ev g e σ h) σ fun d h1 => (match bindP p d σ with
    | some σ' => .nx σ' h1
    | none => .bad)
  | .setI o i e, σ, h => evS (ev g e σ h) σ fun v h1 => evS (ev g o σ h1) σ fun x h2 => evS (ev g i σ h2) σ fun y h3 => (match setS x y v h3 with
    | some h4 => .nx σ h4
    | none => .bad)
  | .aug i o e, σ, h => (match σ[i]? with
    | some (some x) => evS (ev g e σ h) σ fun y h1 => evS (augS o x y h1) σ fun z h2 => .nx (σ.set i (some z)) h2
    | _ => .bad)
  | .ifS c a b, σ, h => evS (ev g c σ h) σ fun x h1 => (match x with
    | .bl true => exec g a σ h1
    | .bl false => exec g b σ h1
    | _ => .bad)
  | .whl c b, σ, h => whlLoop (ev g c) (exec g b) wf σ h
  | .for_ p it b, σ, h => evS (ev g it σ h) σ fun src h1 => forLoop p (exec g b) src wf 0 σ h1
  | .ret e, σ, h => evS (ev g e σ h) σ fun d h1 => .rt d h1
  | .retN, _, h => .rt .non h
  | .raise c fs a, σ, h => evS (ev g a σ h) σ fun x h1 => (match x with
    | .tup ds => if ds.length = fs.length then .exc c fs.reverse ds.reverse σ h1 else .bad
    | _ => .bad)
  | .try_ b c i s, σ, h => (match exec g b σ h with
    | .exc c' fs vs σ1 h1 => (match subOf g.T c' c with
      | some true => if i < σ1.length then (match exec { g with ex := some (c', fs, vs) } s (σ1.set i none) h1 with
        | .nx σ2 h2 => .nx (σ2.set i none) h2
        | .bk σ2 h2 => .bk (σ2.set i none) h2
        | .ct σ2 h2 => .ct (σ2.set i none) h2
        | .rt d h2 => .rt d h2
        | _ => .bad) else .bad
      | some false => .exc c' fs vs σ1 h1
      | none => .bad)
    | r => r)
  | .brk, σ, h => .bk σ h
  | .cnt, σ, h => .ct σ h
/-- a def: how many names, how many parameters, its body -/
structure Df where
  name : Str
  N : List Str
  np : Nat
  body : CS
def startD (n : Nat) (ds : List D) : Sg := ds.map some ++ List.replicate (n - ds.length) none
def endS : RS → R D
  | .nx _ h => .ok .non h
  | .rt d h => .ok d h
  | .exc c fs vs _ h => .exc c fs vs h
  | _ => .bad
noncomputable def callN (T : SubT) (P : List Df) : Nat → Nat → List D → AH → R D
  | 0, _, _, _ => .bad
  | n + 1, f, ds, h => (match P[f]? with
    | some d => if ds.length = d.np then endS (exec ⟨callN T P n, T, none⟩ d.body (startD d.N.length ds) h) else .bad
    | none => .bad)
end Ly
end
section
set_option Elab.async false
set_option linter.all false
set_option maxRecDepth 100000
/-! Ly2: what a value, a heap of Ly stand for in the hand layer. -/
namespace Ly
open PySem PySem.Spec PyProof.Rows L2
abbrev St := L2.St

/-- what nobody changes -/
def Imm : HO → Prop
  | .tup _ => True
  | .frz _ _ => True
  | .xd _ => True
  | _ => False
structure Ext (H H' : Hp) : Prop where
  keep : ∀ a o, H a = some o → Imm o → H' a = some o
theorem Ext.refl (H : Hp) : Ext H H := ⟨fun _ _ e _ => e⟩
theorem Ext.trans {H H1 H2 : Hp} (a : Ext H H1) (b : Ext H1 H2) : Ext H H2 := ⟨fun c o e i => b.keep c o (a.keep c o e i) i⟩
theorem Ext.upd {H : Hp} {p : Addr} {o : HO} (h : ∀ u, H p = some u → ¬ Imm u) : Ext H (upd H p o) := ⟨fun a u e i => by
  have : a ≠ p := fun z => by subst z; exact h u e i
  rw [upd_ne this]; exact e⟩
theorem Ext.new {H : Hp} {p : Addr} {o : HO} (h : H p = none) : Ext H (L2.upd H p o) := Ext.upd fun u e => by rw [h] at e; cases e
/-- a list that nobody changes -/
def RoL (K : PySem.W.Frag) (H : Hp) (a : Addr) (xs : List V) : Prop :=
  (∃ o, H a = some (.frz o (.lst xs))) ∨
    ∃ (o : Obj) (its : Array Value) (n : Nat), K.lookup a = some o ∧ o.cls = .type "list" ∧ o.dict = none ∧ o.data = .seq its n ∧ its.size ≤ sizeLine ∧ Vals xs its.toList
theorem RoL.sq {K : PySem.W.Frag} {H : Hp} {a : Addr} {xs : List V} (h : RoL K H a xs) : SqL K H a xs := by
  rcases h with h | h
  · exact .inl (.inr h)
  · exact .inr h
theorem RoL.ext {K : PySem.W.Frag} {H H' : Hp} {a : Addr} {xs : List V} (h : RoL K H a xs) (e : Ext H H') : RoL K H' a xs := by
  rcases h with ⟨o, h⟩ | h
  · exact .inl ⟨o, e.keep _ _ h trivial⟩
  · exact .inr h
theorem sqT_ext {K : PySem.W.Frag} {H H' : Hp} {a : Addr} {xs : List V} (h : SqT K H a xs) (e : Ext H H') : SqT K H' a xs := by
  rcases h with (h | ⟨o, h⟩) | h
  · exact .inl (.inl (e.keep _ _ h trivial))
  · exact .inl (.inr ⟨o, e.keep _ _ h trivial⟩)
  · exact .inr h
/-- the exception in hand: where it is, its own dict, its slot, its class's name, its fields -/
structure XaR where
  a : Addr
  dd : Addr
  i : Nat
  c : Str
  fs : List Str
  vs : List D
abbrev Xa := Option XaR
mutual
inductive RepV (K : PySem.W.Frag) (xa : Xa) (ρ : List Addr) (H : Hp) : D → V → Prop
  | non : RepV K xa ρ H .non .non
  | bl (b : Bool) : RepV K xa ρ H (.bl b) (.bl b)
  | int (i : Int) : RepV K xa ρ H (.int i) (.int i)
  | str (x : Str) : RepV K xa ρ H (.str x) (.str x)
  | tup {ds : List D} {xs : List V} {a : Addr} : SqT K H a xs → RepVs K xa ρ H ds xs → RepV K xa ρ H (.tup ds) (.ref a)
  | rol {ds : List D} {xs : List V} {a : Addr} : RoL K H a xs → RepVs K xa ρ H ds xs → RepV K xa ρ H (.rol ds) (.ref a)
  | ref {n : Nat} {a : Addr} : ρ[n]? = some a → RepV K xa ρ H (.ref n) (.ref a)
inductive RepVs (K : PySem.W.Frag) (xa : Xa) (ρ : List Addr) (H : Hp) : List D → List V → Prop
  | nil : RepVs K xa ρ H [] []
  | cons {d : D} {v : V} {ds : List D} {vs : List V} : RepV K xa ρ H d v → RepVs K xa ρ H ds vs → RepVs K xa ρ H (d :: ds) (v :: vs)
end
section
variable {K : PySem.W.Frag} {xa : Xa} {ρ ρ' : List Addr} {H H' : Hp}
theorem get_pre {α : Type} {l l' : List α} {n : Nat} {a : α} (p : l <+: l') (h : l[n]? = some a) : l'[n]? = some a := by
  obtain ⟨t, rfl⟩ := p
  obtain ⟨h1, h2⟩ := List.getElem?_eq_some_iff.mp h
  rw [List.getElem?_append_left h1]; exact h
mutual
theorem RepV.ext (p : ρ <+: ρ') (e : Ext H H') : ∀ {d : D} {v : V}, RepV K xa ρ H d v → RepV K xa ρ' H' d v
  | _, _, .non => .non
  | _, _, .bl b => .bl b
  | _, _, .int i => .int i
  | _, _, .str x => .str x
  | _, _, .tup s r => .tup (sqT_ext s e) (RepVs.ext p e r)
  | _, _, .rol s r => .rol (s.ext e) (RepVs.ext p e r)
  | _, _, .ref h => .ref (get_pre p h)
theorem RepVs.ext (p : ρ <+: ρ') (e : Ext H H') : ∀ {ds : List D} {vs : List V}, RepVs K xa ρ H ds vs → RepVs K xa ρ' H' ds vs
  | _, _, .nil => .nil
  | _, _, .cons a b => .cons (RepV.ext p e a) (RepVs.ext p e b)
end
theorem RepVs.length : ∀ {ds : List D} {vs : List V}, RepVs K xa ρ H ds vs → ds.length = vs.length
  | _, _, .nil => rfl
  | _, _, .cons _ b => congrArg Nat.succ (RepVs.length b)
theorem RepVs.append : ∀ {ds es : List D} {vs ws : List V}, RepVs K xa ρ H ds vs → RepVs K xa ρ H es ws → RepVs K xa ρ H (ds ++ es) (vs ++ ws)
  | _, _, _, _, .nil, h => h
  | _, _, _, _, .cons a b, h => .cons a (RepVs.append b h)
theorem RepVs.get : ∀ {ds : List D} {vs : List V} {i : Nat} {d : D}, RepVs K xa ρ H ds vs → ds[i]? = some d → ∃ v, vs[i]? = some v ∧ RepV K xa ρ H d v
  | _, _, _, _, .nil, h => by simp at h
  | _, _, 0, _, .cons a b, h => by
    simp at h; subst h; exact ⟨_, rfl, a⟩
  | _, _, i + 1, _, .cons a b, h => by
    obtain ⟨v, h1, h2⟩ := RepVs.get (i := i) b (by simpa using h)
    exact ⟨v, by simpa using h1, h2⟩
theorem RepVs.get_none {ds : List D} {vs : List V} {i : Nat} (r : RepVs K xa ρ H ds vs) (h : ds[i]? = none) : vs[i]? = none := by
  have := r.length
  have := List.getElem?_eq_none_iff.mp h
  exact List.getElem?_eq_none_iff.mpr (by omega)
theorem RepVs.getV : ∀ {ds : List D} {vs : List V} {i : Nat} {v : V}, RepVs K xa ρ H ds vs → vs[i]? = some v → ∃ d, ds[i]? = some d ∧ RepV K xa ρ H d v := fun {ds vs i v} r h => by
  have hl := r.length
  obtain ⟨h1, _⟩ := List.getElem?_eq_some_iff.mp h
  have h2 : i < ds.length := by omega
  obtain ⟨w, e1, e2⟩ := r.get (List.getElem?_eq_getElem h2)
  rw [h] at e1; cases e1
  exact ⟨_, List.getElem?_eq_getElem h2, e2⟩
theorem RepVs.set {d : D} {v : V} (r : RepV K xa ρ H d v) : ∀ {ds : List D} {vs : List V} (i : Nat), RepVs K xa ρ H ds vs → RepVs K xa ρ H (ds.set i d) (vs.set i v)
  | _, _, _, .nil => .nil
  | _, _, 0, .cons _ b => .cons r b
  | _, _, i + 1, .cons a b => .cons a (RepVs.set r i b)
theorem RepVs.take : ∀ {ds : List D} {vs : List V} (n : Nat), RepVs K xa ρ H ds vs → RepVs K xa ρ H (ds.take n) (vs.take n)
  | _, _, 0, _ => .nil
  | _, _, _ + 1, .nil => .nil
  | _, _, n + 1, .cons a b => .cons a (RepVs.take n b)
theorem RepVs.drop : ∀ {ds : List D} {vs : List V} (n : Nat), RepVs K xa ρ H ds vs → RepVs K xa ρ H (ds.drop n) (vs.drop n)
  | _, _, 0, h => h
  | _, _, _ + 1, .nil => .nil
  | _, _, n + 1, .cons a b => RepVs.drop n b
theorem RepVs.eraseIdx : ∀ {ds : List D} {vs : List V} (n : Nat), RepVs K xa ρ H ds vs → RepVs K xa ρ H (ds.eraseIdx n) (vs.eraseIdx n)
  | _, _, _, .nil => .nil
  | _, _, 0, .cons a b => b
  | _, _, n + 1, .cons a b => .cons a (RepVs.eraseIdx n b)
theorem RepVs.dropLast {ds : List D} {vs : List V} (h : RepVs K xa ρ H ds vs) : RepVs K xa ρ H ds.dropLast vs.dropLast := by
  rw [List.dropLast_eq_take, List.dropLast_eq_take, h.length]; exact h.take _
theorem RepVs.reverse : ∀ {ds : List D} {vs : List V}, RepVs K xa ρ H ds vs → RepVs K xa ρ H ds.reverse vs.reverse
  | _, _, .nil => .nil
  | _, _, .cons a b => by
    rw [List.reverse_cons, List.reverse_cons]
    exact (RepVs.reverse b).append (.cons a .nil)
theorem RepVs.one {d : D} {v : V} (h : RepV K xa ρ H d v) : RepVs K xa ρ H [d] [v] := .cons h .nil
/-- the local names -/
inductive Rel0 (K : PySem.W.Frag) (xa : Xa) (ρ : List Addr) (H : Hp) : Sg → St → Prop
  | nil : Rel0 K xa ρ H [] []
  | none {σd : Sg} {σ : St} {o : Option V} : Rel0 K xa ρ H σd σ → Rel0 K xa ρ H (none :: σd) (o :: σ)
  | some {σd : Sg} {σ : St} {d : D} {v : V} : RepV K xa ρ H d v → Rel0 K xa ρ H σd σ → Rel0 K xa ρ H (some d :: σd) (some v :: σ)
theorem Rel0.ext (p : ρ <+: ρ') (e : Ext H H') : ∀ {σd : Sg} {σ : St}, Rel0 K xa ρ H σd σ → Rel0 K xa ρ' H' σd σ
  | _, _, .nil => .nil
  | _, _, .none h => .none (Rel0.ext p e h)
  | _, _, .some r h => .some (r.ext p e) (Rel0.ext p e h)
theorem Rel0.get : ∀ {σd : Sg} {σ : St} {i : Nat} {d : D}, Rel0 K xa ρ H σd σ → σd[i]? = Option.some (Option.some d) → ∃ v, σ[i]? = Option.some (Option.some v) ∧ RepV K xa ρ H d v
  | _, _, _, _, .nil, h => by simp at h
  | _, _, 0, _, .none _, h => by simp at h
  | _, _, 0, _, .some r _, h => by
    simp at h; subst h; exact ⟨_, rfl, r⟩
  | _, _, i + 1, _, .none b, h => by
    obtain ⟨v, h1, h2⟩ := Rel0.get (i := i) b (by simpa using h)
    exact ⟨v, by simpa using h1, h2⟩
  | _, _, i + 1, _, .some _ b, h => by
    obtain ⟨v, h1, h2⟩ := Rel0.get (i := i) b (by simpa using h)
    exact ⟨v, by simpa using h1, h2⟩
theorem Rel0.set {d : D} {v : V} (r : RepV K xa ρ H d v) : ∀ {σd : Sg} {σ : St} (i : Nat), Rel0 K xa ρ H σd σ → Rel0 K xa ρ H (σd.set i (Option.some d)) (σ.set i (Option.some v))
  | _, _, _, .nil => .nil
  | _, _, 0, .none b => .some r b
  | _, _, 0, .some _ b => .some r b
  | _, _, i + 1, .none b => .none (Rel0.set r i b)
  | _, _, i + 1, .some a b => .some a (Rel0.set r i b)
theorem Rel0.unset {o : Option V} : ∀ {σd : Sg} {σ : St} (i : Nat), Rel0 K xa ρ H σd σ → Rel0 K xa ρ H (σd.set i Option.none) (σ.set i o)
  | _, _, _, .nil => .nil
  | _, _, 0, .none b => .none b
  | _, _, 0, .some _ b => .none b
  | _, _, i + 1, .none b => .none (Rel0.unset i b)
  | _, _, i + 1, .some a b => .some a (Rel0.unset i b)
theorem Rel0.length : ∀ {σd : Sg} {σ : St}, Rel0 K xa ρ H σd σ → σd.length = σ.length
  | _, _, .nil => rfl
  | _, _, .none h => congrArg Nat.succ (Rel0.length h)
  | _, _, .some _ h => congrArg Nat.succ (Rel0.length h)
theorem Rel0.start : ∀ {ds : List D} {vs : List V} (n : Nat), RepVs K xa ρ H ds vs → Rel0 K xa ρ H (ds.map Option.some ++ List.replicate n Option.none) (vs.map Option.some ++ List.replicate n Option.none)
  | _, _, n, .nil => by
    show Rel0 K xa ρ H (List.replicate n Option.none) (List.replicate n Option.none)
    induction n with
    | zero => exact .nil
    | succ n ih => exact .none ih
  | _, _, n, .cons a b => .some a (Rel0.start n b)
/-- may slot i be stored to -/
def XaIx (xa : Xa) (i : Nat) : Prop := ∀ r, xa = some r → r.i ≠ i
theorem xaIx_none (i : Nat) : XaIx none i := fun _ h => by cases h
def XaOk (K : PySem.W.Frag) (xa : Xa) (ρ : List Addr) (H : Hp) (σ : St) : Prop := ∀ r, xa = some r → σ[r.i]? = some (some (.ref r.a)) ∧ ∃ fs, H r.dd = some (.xd fs) ∧ fs.map (·.1) = r.fs ∧ RepVs K xa ρ H r.vs (fs.map (·.2))
structure Rel (K : PySem.W.Frag) (xa : Xa) (ρ : List Addr) (H : Hp) (σd : Sg) (σ : St) : Prop where
  r : Rel0 K xa ρ H σd σ
  x : XaOk K xa ρ H σ
theorem XaOk.set {σ : St} {i : Nat} {o : Option V} (h : XaOk K xa ρ H σ) (hi : XaIx xa i) : XaOk K xa ρ H (σ.set i o) := fun r e => by
  obtain ⟨h1, h2⟩ := h r e
  exact ⟨by rw [List.getElem?_set_ne (Ne.symm (hi r e))]; exact h1, h2⟩
theorem Rel.ext (p : ρ <+: ρ') (e : Ext H H') {σd : Sg} {σ : St} (h : Rel K xa ρ H σd σ) : Rel K xa ρ' H' σd σ :=
  ⟨h.r.ext p e, fun r z => by
    obtain ⟨h1, fs, h2, h3, h4⟩ := h.x r z
    exact ⟨h1, fs, e.keep _ _ h2 trivial, h3, h4.ext p e⟩⟩
theorem Rel.get {σd : Sg} {σ : St} {i : Nat} {d : D} (h : Rel K xa ρ H σd σ) (e : σd[i]? = Option.some (Option.some d)) : ∃ v, σ[i]? = Option.some (Option.some v) ∧ RepV K xa ρ H d v := h.r.get e
theorem Rel.set {d : D} {v : V} (r : RepV K xa ρ H d v) {σd : Sg} {σ : St} (i : Nat) (hi : XaIx xa i) (h : Rel K xa ρ H σd σ) : Rel K xa ρ H (σd.set i (Option.some d)) (σ.set i (Option.some v)) := ⟨h.r.set r i, h.x.set hi⟩
theorem Rel.unset {o : Option V} {σd : Sg} {σ : St} (i : Nat) (hi : XaIx xa i) (h : Rel K xa ρ H σd σ) : Rel K xa ρ H (σd.set i Option.none) (σ.set i o) := ⟨h.r.unset i, h.x.set hi⟩
theorem Rel.length {σd : Sg} {σ : St} (h : Rel K xa ρ H σd σ) : σd.length = σ.length := h.r.length
theorem Rel.start {ds : List D} {vs : List V} (n : Nat) (h : RepVs K none ρ H ds vs) : Rel K none ρ H (ds.map Option.some ++ List.replicate n Option.none) (vs.map Option.some ++ List.replicate n Option.none) := ⟨Rel0.start n h, fun _ z => by cases z⟩
mutual
theorem RepV.sw {xb : Xa} : ∀ {d : D} {v : V}, RepV K xa ρ H d v → RepV K xb ρ H d v
  | _, _, .non => .non
  | _, _, .bl b => .bl b
  | _, _, .int i => .int i
  | _, _, .str x => .str x
  | _, _, .tup s r => .tup s (RepVs.sw r)
  | _, _, .rol s r => .rol s (RepVs.sw r)
  | _, _, .ref h => .ref h
theorem RepVs.sw {xb : Xa} : ∀ {ds : List D} {vs : List V}, RepVs K xa ρ H ds vs → RepVs K xb ρ H ds vs
  | _, _, .nil => .nil
  | _, _, .cons a b => .cons (RepV.sw a) (RepVs.sw b)
end
theorem Rel0.sw {xb : Xa} : ∀ {σd : Sg} {σ : St}, Rel0 K xa ρ H σd σ → Rel0 K xb ρ H σd σ
  | _, _, .nil => .nil
  | _, _, .none h => .none (Rel0.sw h)
  | _, _, .some r h => .some r.sw (Rel0.sw h)
/-! ### the heap -/
def RepO (K : PySem.W.Frag) (xa : Xa) (ρ : List Addr) (H : Hp) : AO → HO → Prop
  | .lst ds, o => ∃ xs, o = .lst xs ∧ RepVs K xa ρ H ds xs
  | .dct _, _ => False
theorem RepO.ext {ao : AO} {o : HO} (p : ρ <+: ρ') (e : Ext H H') (h : RepO K xa ρ H ao o) : RepO K xa ρ' H' ao o := by
  cases ao with
  | lst ds => obtain ⟨xs, a, r⟩ := h; exact ⟨xs, a, r.ext p e⟩
  | dct _ => exact h
theorem RepO.mut {ao : AO} {o : HO} (h : RepO K xa ρ H ao o) : ¬ Imm o := by
  cases ao with
  | lst ds => obtain ⟨xs, rfl, r⟩ := h; exact fun z => z
  | dct _ => exact h.elim
theorem nodup_ix' {N : List Addr} (hN : N.Nodup) {i j : Nat} {x : Addr} (a : N[i]? = some x) (b : N[j]? = some x) : i = j := by
  obtain ⟨h1, e1⟩ := List.getElem?_eq_some_iff.mp a
  obtain ⟨h2, e2⟩ := List.getElem?_eq_some_iff.mp b
  exact (List.getElem_inj hN).mp (e1.trans e2.symm)
structure RepH (K : PySem.W.Frag) (xa : Xa) (ρ : List Addr) (H : Hp) (h : AH) : Prop where
  len : ρ.length = h.length
  nd : ρ.Nodup
  obj : ∀ (n : Nat) (ao : AO), h[n]? = some ao → ∃ a o, ρ[n]? = some a ∧ H a = some o ∧ RepO K xa ρ H ao o
theorem RepH.mem {h : AH} (r : RepH K xa ρ H h) {a : Addr} (m : a ∈ ρ) : ∃ o, H a = some o ∧ ¬ Imm o := by
  obtain ⟨n, hn⟩ := List.mem_iff_getElem?.mp m
  obtain ⟨h1, _⟩ := List.getElem?_eq_some_iff.mp hn
  have h2 : n < h.length := by rw [← r.len]; exact h1
  obtain ⟨b, o, e1, e2, e3⟩ := r.obj n _ (List.getElem?_eq_getElem h2)
  rw [hn] at e1; cases e1
  exact ⟨o, e2, e3.mut⟩
theorem RepH.alloc {h : AH} (r : RepH K xa ρ H h) {p : Addr} {ao : AO} {o : HO} (hp : H p = none) (ro : RepO K xa ρ H ao o) : RepH K xa (ρ ++ [p]) (upd H p o) (h ++ [ao]) ∧ Ext H (upd H p o) ∧ ρ <+: ρ ++ [p] := by
  have e : Ext H (upd H p o) := Ext.new hp
  have pre : ρ <+: ρ ++ [p] := ⟨[p], rfl⟩
  refine ⟨⟨by simp [r.len], ?_, fun n a' hn => ?_⟩, e, pre⟩
  · refine List.nodup_append.mpr ⟨r.nd, by simp, fun a ha b hb => ?_⟩
    obtain rfl : b = p := by simpa using hb
    obtain ⟨u, hu, _⟩ := r.mem ha
    exact ne_of_none hu hp
  · by_cases hlt : n < h.length
    · rw [List.getElem?_append_left hlt] at hn
      obtain ⟨a, u, e1, e2, e3⟩ := r.obj n a' hn
      have hne : a ≠ p := ne_of_none e2 hp
      exact ⟨a, u, get_pre pre e1, by rw [upd_ne hne]; exact e2, e3.ext pre e⟩
    · have hl : n = h.length := by
        obtain ⟨h1, _⟩ := List.getElem?_eq_some_iff.mp hn
        simp at h1; omega
      subst hl
      simp at hn
      subst hn
      exact ⟨p, o, by rw [← r.len]; simp, upd_same, ro.ext pre e⟩
theorem RepH.write {h : AH} (r : RepH K xa ρ H h) {n : Nat} {a : Addr} {ao : AO} {o : HO} (ha : ρ[n]? = some a) (ro : RepO K xa ρ H ao o) : RepH K xa ρ (upd H a o) (h.set n ao) ∧ Ext H (upd H a o) := by
  have e : Ext H (upd H a o) := Ext.upd fun u hu => by
    obtain ⟨u', h1, h2⟩ := r.mem (List.mem_of_getElem? ha)
    rw [hu] at h1; cases h1; exact h2
  have pre : ρ <+: ρ := List.prefix_refl _
  refine ⟨⟨by rw [List.length_set]; exact r.len, r.nd, fun m a' hm => ?_⟩, e⟩
  by_cases hmn : n = m
  · subst hmn
    have hlt : n < h.length := by
      obtain ⟨h1, _⟩ := List.getElem?_eq_some_iff.mp ha
      rw [← r.len]; exact h1
    rw [List.getElem?_set_self hlt] at hm
    cases hm
    exact ⟨a, o, ha, upd_same, ro.ext pre e⟩
  · rw [List.getElem?_set_ne hmn] at hm
    obtain ⟨b, u, e1, e2, e3⟩ := r.obj m a' hm
    have hne : b ≠ a := fun z => by
      subst z
      exact hmn (nodup_ix' r.nd ha e1)
    exact ⟨b, u, e1, by rw [upd_ne hne]; exact e2, e3.ext pre e⟩
theorem RepH.sw {xb : Xa} {h : AH} (r : RepH K xa ρ H h) : RepH K xb ρ H h := ⟨r.len, r.nd, fun n ao hn => by
  obtain ⟨a, o, h1, h2, h3⟩ := r.obj n ao hn
  refine ⟨a, o, h1, h2, ?_⟩
  cases ao with
  | lst ds =>
    obtain ⟨xs, e, z⟩ := h3
    exact ⟨xs, e, z.sw⟩
  | dct _ => exact h3.elim⟩
theorem RepH.lst {h : AH} (r : RepH K xa ρ H h) {n : Nat} {a : Addr} {ds : List D} (ha : ρ[n]? = some a) (hn : h[n]? = some (.lst ds)) : ∃ xs, H a = some (.lst xs) ∧ RepVs K xa ρ H ds xs := by
  obtain ⟨b, o, e1, e2, xs, rfl, e4⟩ := r.obj n _ hn
  rw [ha] at e1; cases e1
  exact ⟨xs, e2, e4⟩
end
end Ly
end
section
set_option Elab.async false
set_option linter.all false
set_option maxRecDepth 100000
/-! Ly3: the rules: what the interpreter says of an expression is what the hand layer asks. -/
namespace Ly
open PySem PySem.Spec PyProof.Rows L2
abbrev RepF := List Addr → Hp → D → V → Prop
/-- what is wanted of a result -/
def Post (K : PySem.W.Frag) (xa : Xa) (Ex : XK) (ρ : List Addr) (H : Hp) (r : R D) (Q : VK) : Prop := match r with
  | .ok d h' => ∀ (ρ' : List Addr) (H' : Hp) (v : V), ρ <+: ρ' → Ext H H' → RepH K xa ρ' H' h' → RepV K xa ρ' H' d v → Q v H'
  | .exc c fs vs h' => ∀ (ρ' : List Addr) (H' : Hp) (dd : Addr) (xs : List (Str × V)), ρ <+: ρ' → Ext H H' → RepH K xa ρ' H' h' → H' dd = some (.xd xs) → xs.map (·.1) = fs → RepVs K xa ρ' H' vs (xs.map (·.2)) → Ex (.ref (He.ga K c)) (some dd) H'
  | .bad => False
section
variable {K : PySem.W.Frag} {xa : Xa} {Ex : XK} {ρ ρ' : List Addr} {H H' : Hp} {Q Q' : VK} {r : R D}
theorem Post.shift (p : ρ <+: ρ') (e : Ext H H') (h : Post K xa Ex ρ H r Q) : Post K xa Ex ρ' H' r Q := by
  cases r with
  | ok d h' => exact fun ρ2 H2 v p2 e2 => h ρ2 H2 v (p.trans p2) (e.trans e2)
  | exc c fs vs h' => exact fun ρ2 H2 dd xs p2 e2 => h ρ2 H2 dd xs (p.trans p2) (e.trans e2)
  | bad => exact h
/-- a step, then the rest -/
theorem Post.bind {k : D → AH → R D} (h : Post K xa Ex ρ H (r.bind k) Q)
    (hk : ∀ d h1 ρ1 H1 v, ρ <+: ρ1 → Ext H H1 → RepH K xa ρ1 H1 h1 → RepV K xa ρ1 H1 d v → Post K xa Ex ρ1 H1 (k d h1) Q → Q' v H1) : Post K xa Ex ρ H r Q' := by
  cases r with
  | ok d h' => exact fun ρ1 H1 v p e rh rv => hk d h' ρ1 H1 v p e rh rv (Post.shift p e h)
  | exc c fs vs h' => exact h
  | bad => exact h
theorem Post.imp (h : Post K xa Ex ρ H r Q) (hk : ∀ v H1, Q v H1 → Q' v H1) : Post K xa Ex ρ H r Q' := by
  cases r with
  | ok d h' => exact fun ρ1 H1 v p e rh rv => hk _ _ (h ρ1 H1 v p e rh rv)
  | exc c fs vs h' => exact h
  | bad => exact h
end
abbrev Fn := Sg → AH → R D
/-- the reading that a function of the interpreter gives -/
def semF (K : PySem.W.Frag) (xa : Xa) (W : WX) (f : Fn) : TE := fun σ H Q => ∃ (ρ : List Addr) (σd : Sg) (h : AH), Rel K xa ρ H σd σ ∧ RepH K xa ρ H h ∧ Post K xa (fun c d H' => W c d σ H') ρ H (f σd h) Q
/-- of a test -/
def semT (K : PySem.W.Frag) (xa : Xa) (W : WX) (f : Fn) : TT := fun σ H Q => ∃ (ρ : List Addr) (σd : Sg) (h : AH), Rel K xa ρ H σd σ ∧ RepH K xa ρ H h ∧ Post K xa (fun c d H' => W c d σ H') ρ H (f σd h) fun v H' => ∃ b, v = .bl b ∧ Q b H'
/-- of an argument list -/
def semA (K : PySem.W.Frag) (xa : Xa) (W : WX) (f : Fn) : TA := fun σ H Q => ∃ (ρ : List Addr) (σd : Sg) (h : AH), Rel K xa ρ H σd σ ∧ RepH K xa ρ H h ∧ (match f σd h with
  | .ok d h' => ∀ (ρ' : List Addr) (H' : Hp) (vs : List V) (ds : List D), d = .tup ds → ρ <+: ρ' → Ext H H' → RepH K xa ρ' H' h' → RepVs K xa ρ' H' ds vs → Q vs H'
  | .exc c fs vs h' => Post K xa (fun c d H' => W c d σ H') ρ H (.exc c fs vs h') fun _ _ => False
  | .bad => False)
theorem pe_w {X : Cx} {e : Expr} {t t' : TE} (h : PE X e t) (w : ∀ σ H Q, t' σ H Q → t σ H Q) : PE X e t' := ⟨fun pins s σ H Q I q => h.run pins s σ H Q I (w σ H Q q)⟩
theorem pt_w {X : Cx} {e : Expr} {t t' : TT} (h : PT X e t) (w : ∀ σ H Q, t' σ H Q → t σ H Q) : PT X e t' := ⟨fun pins s σ H Q I q => h.run pins s σ H Q I (w σ H Q q)⟩
theorem pw_w {X : Cx} {e : Expr} {t t' : TT} (h : PW X e t) (w : ∀ σ H Q, t' σ H Q → t σ H Q) : PW X e t' := ⟨fun wh pins s σ H Q I q => h.run wh pins s σ H Q I (w σ H Q q)⟩
theorem pa_w {X : Cx} {e : List Expr} {t t' : TA} (h : PA X e t) (w : ∀ σ H Q, t' σ H Q → t σ H Q) : PA X e t' := ⟨fun pos pins s σ H Q I q => h.run pos pins s σ H Q I (w σ H Q q)⟩
theorem ps_w {X : Cx} {e : Stmt} {t t' : TS} (h : PS X e t) (w : ∀ D σ H, t' D σ H → t D σ H) : PS X e t' := ⟨fun pins s σ H D I q => h.run pins s σ H D I (w D σ H q)⟩
theorem pss_w {X : Cx} {e : List Stmt} {t t' : TS} (h : PSs X e t) (w : ∀ D σ H, t' D σ H → t D σ H) : PSs X e t' := ⟨fun pins s σ H D I q => h.run pins s σ H D I (w D σ H q)⟩
section
variable {X : Cx} {xa : Xa} {W : WX} {a b c : Expr} {fa fb fc : Fn} {pos : Pos}
abbrev E1 (X : Cx) (xa : Xa) (W : WX) (e : Expr) (f : Fn) : Prop := PE X e (semF X.K xa W f)
abbrev T1 (X : Cx) (xa : Xa) (W : WX) (e : Expr) (f : Fn) : Prop := PT X e (semT X.K xa W f)
abbrev A1 (X : Cx) (xa : Xa) (W : WX) (es : List Expr) (f : Fn) : Prop := PA X es (semA X.K xa W f)
/-- run a, then what follows -/
theorem semF.then {K : PySem.W.Frag} {f : Fn} {k : D → AH → R D} {σ : St} {H : Hp} {Q Q' : VK} {ρ : List Addr} {σd : Sg} {h : AH} (rl : Rel K xa ρ H σd σ) (rh : RepH K xa ρ H h)
    (p : Post K xa (fun c d H' => W c d σ H') ρ H ((f σd h).bind k) Q)
    (hk : ∀ d h1 ρ1 H1 v, ρ <+: ρ1 → Ext H H1 → Rel K xa ρ1 H1 σd σ → RepH K xa ρ1 H1 h1 → RepV K xa ρ1 H1 d v → Post K xa (fun c d H' => W c d σ H') ρ1 H1 (k d h1) Q → Q' v H1) : semF K xa W f σ H Q' :=
  ⟨ρ, σd, h, rl, rh, p.bind fun d h1 ρ1 H1 v p1 e1 rh1 rv q => hk d h1 ρ1 H1 v p1 e1 (rl.ext p1 e1) rh1 rv q⟩
theorem Post.okv {K : PySem.W.Frag} {Ex : XK} {ρ : List Addr} {H : Hp} {d : D} {h : AH} {Q : VK} {v : V} (p : Post K xa Ex ρ H (.ok d h) Q) (rh : RepH K xa ρ H h) (rv : RepV K xa ρ H d v) : Q v H := p ρ H v (List.prefix_refl _) (Ext.refl _) rh rv
theorem Post.new {K : PySem.W.Frag} {Ex : XK} {ρ : List Addr} {H : Hp} {ds : List D} {xs : List V} {h : AH} {Q : VK} {q : Addr} (p : Post K xa Ex ρ H (.ok (.ref h.length) (h ++ [.lst ds])) Q) (rh : RepH K xa ρ H h) (hq : H q = none) (r : RepVs K xa ρ H ds xs) : Q (.ref q) (upd H q (.lst xs)) := by
  obtain ⟨a, b, c⟩ := rh.alloc (ao := .lst ds) hq ⟨xs, rfl, r⟩
  exact p _ _ _ c b a (.ref (by rw [← rh.len]; simp))
theorem RepH.tupx {K : PySem.W.Frag} {ρ : List Addr} {H : Hp} {h : AH} {p : Addr} {xs : List V} (rh : RepH K xa ρ H h) (hp : H p = none) : RepH K xa ρ (upd H p (.tup xs)) h ∧ Ext H (upd H p (.tup xs)) := by
  have e : Ext H (upd H p (.tup xs)) := Ext.new hp
  refine ⟨⟨rh.len, rh.nd, fun n ao hn => ?_⟩, e⟩
  obtain ⟨a, o, e1, e2, e3⟩ := rh.obj n ao hn
  exact ⟨a, o, e1, by rw [upd_ne (ne_of_none e2 hp)]; exact e2, e3.ext (List.prefix_refl _) e⟩
theorem Post.newT {K : PySem.W.Frag} {Ex : XK} {ρ : List Addr} {H : Hp} {ds : List D} {xs : List V} {h : AH} {Q : VK} {q : Addr} (p : Post K xa Ex ρ H (.ok (.tup ds) h) Q) (rh : RepH K xa ρ H h) (hq : H q = none) (r : RepVs K xa ρ H ds xs) : Q (.ref q) (upd H q (.tup xs)) := by
  obtain ⟨a, b⟩ := rh.tupx (xs := xs) hq
  exact p _ _ _ (List.prefix_refl _) b a (.tup (SqT.of upd_same) (r.ext (List.prefix_refl _) b))
theorem Post.write {K : PySem.W.Frag} {Ex : XK} {ρ : List Addr} {H : Hp} {ds : List D} {xs : List V} {h : AH} {Q : VK} {n : Nat} {a : Addr} {d : D} {v : V} (p : Post K xa Ex ρ H (.ok d (h.set n (.lst ds))) Q) (rh : RepH K xa ρ H h) (ha : ρ[n]? = some a) (r : RepVs K xa ρ H ds xs) (rv : RepV K xa ρ H d v) : Q v (upd H a (.lst xs)) := by
  obtain ⟨a1, b1⟩ := rh.write (ao := .lst ds) ha ⟨xs, rfl, r⟩
  exact p _ _ _ (List.prefix_refl _) b1 a1 (rv.ext (List.prefix_refl _) b1)
/-! ### names, constants -/
theorem e_var {i : Nat} {x : Str} {g : Gs} (hN : X.N[i]? = some x) (hv : Vis X.env.scope x) (hd : (x == ("__debug__" : Str)) = false) (hcd : (x == ("__classdict__" : Str)) = false) : E1 X xa W (.Name x pos) (ev g (.var i)) :=
  pe_w (pe_var hN hv hd hcd) fun σ H Q ⟨ρ, σd, h, rl, rh, p⟩ => by
    have p' : Post X.K xa (fun c d H' => W c d σ H') ρ H (match σd[i]? with
      | some (some d) => .ok d h
      | _ => .bad) Q := p
    cases e : σd[i]? with
    | none => rw [e] at p'; exact p'.elim
    | some o =>
      cases o with
      | none => rw [e] at p'; exact p'.elim
      | some d =>
        rw [e] at p'
        obtain ⟨v, e1, r⟩ := rl.get e
        exact ⟨v, e1, p'.okv rh r⟩
theorem e_cst {g : Gs} {d : D} {v : V} {e : Expr} (h : PE X e (tC v)) (r : ∀ (ρ : List Addr) (H : Hp), RepV X.K xa ρ H d v) : E1 X xa W e (ev g (.cst d)) :=
  pe_w h fun σ H Q ⟨ρ, σd, h, rl, rh, p⟩ => Post.okv p rh (r ρ H)
/-! ### operators -/
/-- what an operator asks of two values -/
def rB (K : PySem.W.Frag) (xa : Xa) (s : D → D → AH → R D) : R2 := fun x y H Q => ∃ (ρ : List Addr) (h : AH) (d e : D) (Ex : XK), RepH K xa ρ H h ∧ RepV K xa ρ H d x ∧ RepV K xa ρ H e y ∧ Post K xa Ex ρ H (s d e h) Q
theorem rB_of {K : PySem.W.Frag} {s : D → D → AH → R D} {σ : St} {H : Hp} {Q : VK} (h : semF K xa W (fun σ h => (fa σ h).bind fun x h1 => (fb σ h1).bind fun y h2 => s x y h2) σ H Q) : tOp (rB K xa s) (semF K xa W fa) (semF K xa W fb) σ H Q := by
  obtain ⟨ρ, σd, h, rl, rh, p⟩ := h
  refine semF.then rl rh p fun d h1 ρ1 H1 v q1 e1 rl1 rh1 rv p1 => semF.then rl1 rh1 p1 fun e h2 ρ2 H2 u q2 e2 rl2 rh2 ru p2 => ?_
  exact ⟨ρ2, h2, d, e, _, rh2, rv.ext q2 e2, ru, p2⟩
theorem e_bop {g : Gs} {o : Operator} {ca cb : CE} (ho : OpR X (binaryOp o) (rB X.K xa (bopS o))) (ha : E1 X xa W a (ev g ca)) (hb : E1 X xa W b (ev g cb)) : E1 X xa W (.BinOp a o b pos) (ev g (.bop o ca cb)) :=
  pe_w (pe_op ho ha hb) fun σ H Q h => rB_of h
theorem e_cmp {g : Gs} {o : CmpOp} {ca cb : CE} (ho : OpR X (compareOp o) (rB X.K xa (cmpS o))) (ha : E1 X xa W a (ev g ca)) (hb : E1 X xa W b (ev g cb)) (hm : behindInMarks o b = false) : E1 X xa W (.Compare a [o] [b] pos) (ev g (.cmp o ca cb)) :=
  pe_w (pe_cmpR ho ha hb hm) fun σ H Q h => rB_of h
/-! ### the operators' rules -/
theorem OpR_w {f : Value → Value → Sem Value} {r r' : R2} (h : OpR X f r) (w : ∀ x y H Q, r' x y H Q → r x y H Q) : OpR X f r' := fun pins s σ H x y v u Q I rx ry q => h pins s σ H x y v u Q I rx ry (w _ _ _ _ q)
end
end Ly
end
section
set_option Elab.async false
set_option linter.all false
set_option maxRecDepth 100000
set_option maxHeartbeats 4000000
namespace Ly
open PySem PySem.Spec PyProof.Rows L2
theorem tuple_mul1 (l : Addr) (items : Array Value) (n : Nat) (sl : Array (Option Value)) (dd : Option Addr) (x : Int) (u : Tok) (c0 : (decide (x < -(2 ^ 63)) || decide (x ≥ 2 ^ 63)) = false) (c1 : (items.isEmpty || x == 1) = true) :
    Meets (Builtin.«tuple.__mul__» ⟨[.ref l, .int x u], []⟩) (fun _ R s => s.heap.get? l = some { cls := .type "tuple", dict := dd, data := .seq items n, slots := sl } ∧
      R (.ok (.ret (Value.ref l))) s) :=
  .of_wp fun prog w A R s h => by
    obtain ⟨hp, g, d, tk, os⟩ := s
    obtain ⟨hl, h⟩ := h
    have f1 := AutoSeq1.idx_int
    wp_walk using wpAny_loadPart' hl
    repeat (first
      | (refine wpAny_ite_false (decide_eq_false (by rw [c0]; exact Bool.false_ne_true)) ?_; wp_walk using wpAny_loadPart' hl)
      | (refine wpAny_ite_true (decide_eq_true c1) ?_; wp_walk using wpAny_loadPart' hl))
    exact ⟨_, rfl, h⟩
theorem tuple_mul0 (l : Addr) (items : Array Value) (n : Nat) (sl : Array (Option Value)) (dd : Option Addr) (x : Int) (u : Tok) (c0 : (decide (x < -(2 ^ 63)) || decide (x ≥ 2 ^ 63)) = false) (c1 : (items.isEmpty || x == 1) = false) (c2 : (decide (x ≤ 0) || items.isEmpty) = true) :
    Meets (Builtin.«tuple.__mul__» ⟨[.ref l, .int x u], []⟩) (fun _ R s => s.heap.get? l = some { cls := .type "tuple", dict := dd, data := .seq items n, slots := sl } ∧
      R (.ok (.ret (Value.ref s.heap.objs.size))) { s with heap := s.heap.push { cls := Value.type "tuple", data := Data.seq #[] }, toks := s.toks }) :=
  .of_wp fun prog w A R s h => by
    obtain ⟨hp, g, d, tk, os⟩ := s
    obtain ⟨hl, h⟩ := h
    have f1 := AutoSeq1.idx_int
    wp_walk using wpAny_loadPart' hl
    repeat (first
      | (refine wpAny_ite_false (decide_eq_false (by rw [c0]; exact Bool.false_ne_true)) ?_; wp_walk using wpAny_loadPart' hl)
      | (refine wpAny_ite_false (decide_eq_false (by rw [c1]; exact Bool.false_ne_true)) ?_; wp_walk using wpAny_loadPart' hl)
      | (refine wpAny_ite_true (decide_eq_true c2) ?_; wp_walk using wpAny_loadPart' hl))
    exact ⟨_, rfl, h⟩
/-- a tuple times an int, whatever both are -/
def rRepA (K : PySem.W.Frag) : R2 := fun x y H Q => ∃ l k xs, x = .ref l ∧ y = .int k ∧ SqT K H l xs ∧ (-1000 ≤ k ∧ k ≤ 1000) ∧ xs.length ≤ 1000 ∧
  ((xs = [] ∨ k = 1) → Q (.ref l) H) ∧ (¬ (xs = [] ∨ k = 1) → ∀ p, H p = none → Q (.ref p) (upd H p (.tup (List.replicate k.toNat xs).flatten)))
section
variable {X : Cx}
theorem op_repA : OpR X (binaryOp .Mult) (rRepA X.K) := by
  intro pins s σ H x y v u Q I rx ry h
  obtain ⟨l, k, xs, rfl, rfl, hT, ⟨h1, h2⟩, hz, q1, q2⟩ := h
  by_cases c : xs = [] ∨ k = 1
  · have q := q1 c
    cases rx
    obtain ⟨t, rfl⟩ := ry
    obtain ⟨its, r, ⟨⟨cls, dd, data, sl⟩, ho, hc, n, hd⟩, hs⟩ := I.tuple hT
    simp only at hc hd
    subst hc hd
    have c0 : (decide (k < -(2 ^ 63)) || decide (k ≥ 2 ^ 63)) = false := by
      rw [decide_eq_false (by omega), decide_eq_false (by omega)] <;> rfl
    have c1 : (its.toArray.isEmpty || k == 1) = true := by
      rcases c with e | e
      · subst e
        cases r; rfl
      · subst e
        rw [Bool.or_eq_true]; exact .inr rfl
    refine wpAny_binaryOp_repeat_ref (T := "tuple") (U := "int") (by decide) ⟨_, ho, rfl⟩ (fun s' => typeIs_int s' k t) noFill_tuple_mul F.fills_int_mul F.slot_int_rmul repeat_tuple F.slot_int_index.lookup
      (call_meets F.slot_int_rmul (typeIs_int s k t) F.entry_int_rmul (F.args_int_rmul_2 _ _) (int_rmul_tuple k t l its.toArray n dd sl)
        ⟨ho, rfl, ⟨_, ho, rfl⟩, call_meets F.slot_tuple_mul ⟨_, ho, rfl⟩ F.entry_tuple_mul (F.args_tuple_mul_2 _ _) (tuple_mul1 l its.toArray n sl dd k t c0 c1) ⟨ho, ?_⟩⟩)
    exact ⟨.ref l, H, I, rfl, q⟩
  · have q := q2 c
    have hne : xs ≠ [] := fun e => c (.inl e)
    by_cases ck : 2 ≤ k
    · exact op_repT pins s σ H _ _ v u Q I rx ry ⟨l, k, xs, rfl, rfl, hT, hne, ck, h2, hz, q⟩
    · have hk0 : k ≤ 0 := by
        have : k ≠ 1 := fun e => c (.inr e)
        omega
      cases rx
      obtain ⟨t, rfl⟩ := ry
      obtain ⟨its, r, ⟨⟨cls, dd, data, sl⟩, ho, hc, n, hd⟩, hs⟩ := I.tuple hT
      simp only at hc hd
      subst hc hd
      have c0 : (decide (k < -(2 ^ 63)) || decide (k ≥ 2 ^ 63)) = false := by
        rw [decide_eq_false (by omega), decide_eq_false (by omega)] <;> rfl
      have hi : its.toArray.isEmpty = false := by
        cases its with
        | nil => cases r; exact absurd rfl hne
        | cons a b => rfl
      have c1 : (its.toArray.isEmpty || k == 1) = false := by
        rw [hi, Bool.false_or]
        exact beq_eq_false_iff_ne.mpr (by omega)
      have c2 : (decide (k ≤ 0) || its.toArray.isEmpty) = true := by
        rw [decide_eq_true hk0]; rfl
      have ez : k.toNat = 0 := by omega
      rw [ez] at q
      refine wpAny_binaryOp_repeat_ref (T := "tuple") (U := "int") (by decide) ⟨_, ho, rfl⟩ (fun s' => typeIs_int s' k t) noFill_tuple_mul F.fills_int_mul F.slot_int_rmul repeat_tuple F.slot_int_index.lookup
        (call_meets F.slot_int_rmul (typeIs_int s k t) F.entry_int_rmul (F.args_int_rmul_2 _ _) (int_rmul_tuple k t l its.toArray n dd sl)
          ⟨ho, rfl, ⟨_, ho, rfl⟩, call_meets F.slot_tuple_mul ⟨_, ho, rfl⟩ F.entry_tuple_mul (F.args_tuple_mul_2 _ _) (tuple_mul0 l its.toArray n sl dd k t c0 c1 c2) ⟨ho, ?_⟩⟩)
      refine ⟨.ref s.heap.objs.size, _, I.laid (t' := s.toks) (o := .tup []) (fun b ob q => Heap.get?_push_of_some _ q) (Nat.le_refl _) ?_, rfl, q _ (I.hok.fresh (Nat.le_refl _))⟩
      exact ⟨Nat.zero_le _, [], .nil, IsTup.new _ _⟩
end
end Ly
end
section
set_option Elab.async false
set_option linter.all false
set_option maxRecDepth 100000
set_option maxHeartbeats 1000000
/-! Ly4: the operators. -/
namespace Ly
open PySem PySem.Spec PyProof.Rows L2
theorem optMap_some {α β : Type} {f : α → Option β} : ∀ {xs : List α} {ys : List β}, optMap f xs = some ys → Paired (fun x y => f x = some y) xs ys
  | [], ys, h => by
    have : ys = [] := by simpa [optMap] using h.symm
    subst this; exact .nil
  | x :: xs, ys, h => by
    unfold optMap at h
    cases e1 : f x with
    | none => rw [e1] at h; cases h
    | some y =>
      cases e2 : optMap f xs with
      | none => rw [e1, e2] at h; cases h
      | some zs =>
        rw [e1, e2] at h
        cases h
        exact .cons e1 (optMap_some e2)
theorem seqOf_sq {X : Cx} {xa : Xa} {ρ : List Addr} {H : Hp} {h : AH} {d : D} {v : V} {ds : List D} (rh : RepH X.K xa ρ H h) (r : RepV X.K xa ρ H d v) (e : seqOf h d = some ds) :
    ∃ a xs, v = .ref a ∧ (SqL X.K H a xs ∨ SqT X.K H a xs) ∧ RepVs X.K xa ρ H ds xs := by
  cases r with
  | tup s r =>
    have e' : some _ = some ds := e
    cases e'
    exact ⟨_, _, rfl, .inr s, r⟩
  | rol s r =>
    have e' : some _ = some ds := e
    cases e'
    exact ⟨_, _, rfl, .inl s.sq, r⟩
  | @ref n a ha =>
    have e' : (match h[n]? with
      | some (.lst xs) => some xs
      | _ => none) = some ds := e
    cases q : h[n]? with
    | none => rw [q] at e'; cases e'
    | some ao =>
      rw [q] at e'
      cases ao with
      | dct _ => cases e'
      | lst xs =>
        cases e'
        obtain ⟨vs, h1, h2⟩ := rh.lst ha q
        exact ⟨_, _, rfl, .inl (SqL.of h1), h2⟩
  | non => cases e
  | bl => cases e
  | int => cases e
  | str => cases e
section
variable {X : Cx} {xa : Xa} {pins : List (Addr × Obj)} {σ : St} {H : Hp} {s : Shared} {ρ : List Addr} {h : AH}
theorem pds_of {k : Nat} (f : ∀ (d : D) (p : PyData) (v : V) (u : Value), pd h k d = some p → RepV X.K xa ρ H d v → RelV v u → (∃ as, Reads s.heap u p as) ∧ p.plain = true ∧ p.depth ≤ k) :
    ∀ {ds : List D} {ps : List PyData} {vs : List V} {us : List Value}, Paired (fun x y => pd h k x = some y) ds ps → RepVs X.K xa ρ H ds vs → Vals vs us → (∃ as, ReadsAll s.heap us ps as) ∧ PyData.plainAll ps = true ∧ PyData.depthAll ps ≤ k
  | _, _, _, _, .nil, r, q => by
    cases r; cases q
    exact ⟨⟨_, .nil⟩, rfl, Nat.zero_le _⟩
  | _, _, _, _, .cons e t, r, q => by
    cases r with
    | cons r1 r2 =>
      cases q with
      | cons q1 q2 =>
        obtain ⟨⟨as, a1⟩, a2, a3⟩ := f _ _ _ _ e r1 q1
        obtain ⟨⟨bs, b1⟩, b2, b3⟩ := pds_of f t r2 q2
        exact ⟨⟨_, .cons a1 b1⟩, by simp [PyData.plainAll, a2, b2], by simp only [PyData.depthAll]; omega⟩
theorem pd_reads (I : Inv X pins σ H s) (rh : RepH X.K xa ρ H h) : ∀ (k : Nat) (d : D) (p : PyData) (v : V) (u : Value), pd h k d = some p → RepV X.K xa ρ H d v → RelV v u → (∃ as, Reads s.heap u p as) ∧ p.plain = true ∧ p.depth ≤ k
  | 0, _, _, _, _, e, _, _ => by cases e
  | k + 1, d, p, v, u, e, r, q => by
    have tupc : ∀ {ds : List D} {xs : List V} {a : Addr} {u : Value} {p : PyData}, SqT X.K H a xs → RepVs X.K xa ρ H ds xs → RelV (.ref a) u → (optMap (pd h k) ds).map PyData.tuple = some p → (∃ as, Reads s.heap u p as) ∧ p.plain = true ∧ p.depth ≤ k + 1 := fun {ds xs a u p} hs hr hq he => by
      cases q2 : optMap (pd h k) ds with
      | none => rw [q2] at he; cases he
      | some ps =>
        rw [q2] at he
        cases he
        obtain ⟨its, rv, ⟨o, ho, hc, n, hd⟩, _⟩ := I.tuple hs
        obtain ⟨⟨as, a1⟩, a2, a3⟩ := pds_of (pd_reads I rh k) (optMap_some q2) hr rv
        cases hq
        exact ⟨⟨_, .tuple ho hc hd a1⟩, a2, by simp only [PyData.depth]; omega⟩
    have lstc : ∀ {ds : List D} {xs : List V} {a : Addr} {u : Value} {p : PyData}, SqL X.K H a xs → RepVs X.K xa ρ H ds xs → RelV (.ref a) u → (optMap (pd h k) ds).map PyData.list = some p → (∃ as, Reads s.heap u p as) ∧ p.plain = true ∧ p.depth ≤ k + 1 := fun {ds xs a u p} hs hr hq he => by
      cases q2 : optMap (pd h k) ds with
      | none => rw [q2] at he; cases he
      | some ps =>
        rw [q2] at he
        cases he
        obtain ⟨its, rv, ⟨o, n, ho, hc, _, hd⟩, _⟩ := I.list hs
        obtain ⟨⟨as, a1⟩, a2, a3⟩ := pds_of (pd_reads I rh k) (optMap_some q2) hr rv
        cases hq
        exact ⟨⟨_, .list ho hc hd a1⟩, a2, by simp only [PyData.depth]; omega⟩
    cases r with
    | non => cases e; cases q; exact ⟨⟨_, .none⟩, rfl, Nat.zero_le _⟩
    | bl b => cases e; cases q; exact ⟨⟨_, .bool b⟩, rfl, Nat.zero_le _⟩
    | int i => cases e; obtain ⟨t, rfl⟩ := q; exact ⟨⟨_, .int i t⟩, rfl, Nat.zero_le _⟩
    | str x => cases e; obtain ⟨t, rfl⟩ := q; exact ⟨⟨_, .str x t⟩, rfl, Nat.zero_le _⟩
    | tup hs hr => exact tupc hs hr q e
    | rol hs hr => exact lstc hs.sq hr q e
    | @ref n a ha =>
      have e' : (match h[n]? with
        | some (.lst xs) => (optMap (pd h k) xs).map .list
        | _ => none) = some p := e
      cases q2 : h[n]? with
      | none => rw [q2] at e'; cases e'
      | some ao =>
        rw [q2] at e'
        cases ao with
        | dct _ => cases e'
        | lst xs =>
          obtain ⟨vs, h1, h2⟩ := rh.lst ha q2
          exact lstc (SqL.of h1) h2 q e'
end
section
variable {X : Cx} {xa : Xa}
theorem Post.bad' {K : PySem.W.Frag} {Ex : XK} {ρ : List Addr} {H : Hp} {Q : VK} {C : Prop} (p : Post K xa Ex ρ H .bad Q) : C := p.elim
theorem vals_nil {ds : List D} {vs : List V} {K : PySem.W.Frag} {ρ : List Addr} {H : Hp} (r : RepVs K xa ρ H ds vs) : vs = [] ↔ ds = [] := by
  cases r <;> simp
theorem op_Add : OpR X (binaryOp .Add) (rB X.K xa (bopS .Add)) := by
  intro pins s σ H x y v u Q I rx ry ⟨ρ, h, d, e, Ex, rh, rd, re, p⟩
  cases rd with
  | int i =>
    cases re with
    | int j => exact op_add pins s σ H _ _ v u Q I rx ry ⟨i, j, rfl, rfl, p.okv rh (.int _)⟩
    | _ => exact p.elim
  | @tup ds xs a s1 r1 =>
    cases re with
    | @tup es ys b s2 r2 =>
      have p' : Post X.K xa Ex ρ H (if ds.length + es.length ≤ 16777216 then .ok (.tup (ds ++ es)) h else .bad) Q := p
      by_cases c : ds.length + es.length ≤ 16777216
      · rw [if_pos c] at p'
        have l1 := r1.length
        have l2 := r2.length
        refine op_catA pins s σ H _ _ v u Q I rx ry ⟨a, b, xs, ys, rfl, rfl, s1, s2, by rw [sizeLine_eq]; omega, fun z => ?_, fun _ z => ?_, fun _ _ q hq => ?_⟩
        · have z' := (vals_nil r1).mp z
          subst z'
          exact p'.okv rh (.tup s2 r2)
        · have z' := (vals_nil r2).mp z
          subst z'
          rw [List.append_nil] at p'
          exact p'.okv rh (.tup s1 r1)
        · exact p'.newT rh hq (r1.append r2)
      · rw [if_neg c] at p'; exact p'.elim
    | _ => exact p.elim
  | @ref n a ha =>
    cases re with
    | @ref m b hb =>
      have p' : Post X.K xa Ex ρ H (match h[n]?, h[m]? with
        | some (.lst xs), some (.lst ys) => if xs.length + ys.length ≤ 16777216 then .ok (.ref h.length) (h ++ [.lst (xs ++ ys)]) else .bad
        | _, _ => .bad) Q := p
      cases q1 : h[n]? with
      | none => rw [q1] at p'; exact p'.elim
      | some o1 =>
        cases o1 with
        | dct _ => rw [q1] at p'; exact p'.elim
        | lst ds =>
          cases q2 : h[m]? with
          | none => rw [q1, q2] at p'; exact p'.elim
          | some o2 =>
            cases o2 with
            | dct _ => rw [q1, q2] at p'; exact p'.elim
            | lst es =>
              rw [q1, q2] at p'
              have p' : Post X.K xa Ex ρ H (if ds.length + es.length ≤ 16777216 then .ok (.ref h.length) (h ++ [.lst (ds ++ es)]) else .bad) Q := p'
              by_cases c : ds.length + es.length ≤ 16777216
              · rw [if_pos c] at p'
                obtain ⟨xs, h1, r1⟩ := rh.lst ha q1
                obtain ⟨ys, h2, r2⟩ := rh.lst hb q2
                have l1 := r1.length
                have l2 := r2.length
                exact op_cat pins s σ H _ _ v u Q I rx ry ⟨a, b, xs, ys, rfl, rfl, h1, h2, by rw [sizeLine_eq]; omega, fun q hq => p'.new rh hq (r1.append r2)⟩
              · rw [if_neg c] at p'; exact p'.elim
    | _ => exact p.elim
  | _ => exact p.elim
theorem opInt {op : Value → Value → Sem Value} {C : Int → Int → Prop} {g : Int → Int → V} (ho : OpR X op (rI C g)) {sm : D → D → AH → R D} {gd : Int → Int → D} (c : Int → Int → Bool) (hc : ∀ i j, c i j = true → C i j)
    (hg : ∀ i j K ρ H, RepV K xa ρ H (gd i j) (g i j))
    (hs : ∀ i j h, sm (.int i) (.int j) h = if c i j = true then .ok (gd i j) h else .bad) (hb : ∀ d e h, (∀ i j, ¬ (d = .int i ∧ e = .int j)) → sm d e h = .bad) : OpR X op (rB X.K xa sm) := by
  intro pins s σ H x y v u Q I rx ry ⟨ρ, h, d, e, Ex, rh, rd, re, p⟩
  by_cases z : ∃ i j, d = .int i ∧ e = .int j
  · obtain ⟨i, j, rfl, rfl⟩ := z
    rw [hs] at p
    by_cases cc : c i j = true
    · rw [if_pos cc] at p
      cases rd
      cases re
      exact ho pins s σ H _ _ v u Q I rx ry ⟨i, j, rfl, rfl, hc _ _ cc, p.okv rh (hg _ _ _ _ _)⟩
    · rw [if_neg cc] at p; exact p.elim
  · rw [hb d e h fun i j q => z ⟨i, j, q⟩] at p; exact p.elim
theorem rI0_rI {op : Value → Value → Sem Value} {g : Int → Int → V} (ho : OpR X op (rI0 g)) : OpR X op (rI (fun _ _ => True) g) := OpR_w ho fun x y H Q ⟨i, j, a, b, _, q⟩ => ⟨i, j, a, b, q⟩
theorem op_Sub : OpR X (binaryOp .Sub) (rB X.K xa (bopS .Sub)) := opInt (gd := fun i j => .int (i - j)) (rI0_rI op_sub) (fun _ _ => true) (fun _ _ _ => trivial) (fun _ _ _ _ _ => .int _) (fun _ _ _ => rfl) fun d e h n => by
  cases d <;> try rfl
  cases e <;> try rfl
  exact absurd ⟨rfl, rfl⟩ (n _ _)
theorem op_MultI : OpR X (binaryOp .Mult) (rB X.K xa (fun d e h => match d, e with
    | .int i, .int j => if mulOk i j = true then .ok (.int (i * j)) h else .bad
    | _, _ => .bad)) := opInt (gd := fun i j => .int (i * j)) op_mul mulOk (fun i j h => by
    unfold mulOk at h
    simp only [Bool.or_eq_true, Bool.and_eq_true, decide_eq_true_eq] at h
    unfold two64 at h
    exact h) (fun _ _ _ _ _ => .int _) (fun _ _ _ => rfl) fun d e h n => by
  cases d <;> try rfl
  cases e <;> try rfl
  exact absurd ⟨rfl, rfl⟩ (n _ _)
theorem repVs_rep {K : PySem.W.Frag} {ρ : List Addr} {H : Hp} {ds : List D} {xs : List V} (r : RepVs K xa ρ H ds xs) : ∀ n : Nat, RepVs K xa ρ H (List.replicate n ds).flatten (List.replicate n xs).flatten
  | 0 => .nil
  | n + 1 => by
    rw [List.replicate_succ, List.replicate_succ, List.flatten_cons, List.flatten_cons]
    exact r.append (repVs_rep r n)
theorem op_Mult : OpR X (binaryOp .Mult) (rB X.K xa (bopS .Mult)) := by
  intro pins s σ H x y v u Q I rx ry ⟨ρ, h, d, e, Ex, rh, rd, re, p⟩
  cases rd with
  | int i =>
    cases re with
    | int j => exact op_MultI pins s σ H _ _ v u Q I rx ry ⟨ρ, h, .int i, .int j, Ex, rh, .int _, .int _, p⟩
    | _ => exact p.elim
  | @ref n a ha =>
    cases re with
    | int k =>
      have p' : Post X.K xa Ex ρ H (match h[n]? with
        | some (.lst xs) => if (-(2 ^ 63) ≤ k ∧ k < 2 ^ 63) ∧ xs.length * k.toNat ≤ 16777216 then .ok (.ref h.length) (h ++ [.lst (List.replicate k.toNat xs).flatten]) else .bad
        | _ => .bad) Q := p
      cases q1 : h[n]? with
      | none => rw [q1] at p'; exact p'.elim
      | some ao =>
        rw [q1] at p'
        cases ao with
        | dct => exact p'.elim
        | lst ds =>
          dsimp only at p'
          by_cases c : (-(2 ^ 63) ≤ k ∧ k < 2 ^ 63) ∧ ds.length * k.toNat ≤ 16777216
          · rw [if_pos c] at p'
            obtain ⟨xs, h1, r⟩ := rh.lst ha q1
            exact op_rep pins s σ H _ _ v u Q I rx ry ⟨a, k, xs, rfl, rfl, h1, c.1.1, c.1.2, by rw [sizeLine_eq, ← r.length]; exact c.2, fun q hq => p'.new rh hq (repVs_rep r _)⟩
          · rw [if_neg c] at p'; exact p'.elim
    | _ => exact p.elim
  | @tup ds xs a s1 r =>
    cases re with
    | int k =>
      have p' : Post X.K xa Ex ρ H (if (-1000 ≤ k ∧ k ≤ 1000) ∧ ds.length ≤ 1000 then .ok (.tup (List.replicate k.toNat ds).flatten) h else .bad) Q := p
      by_cases c : (-1000 ≤ k ∧ k ≤ 1000) ∧ ds.length ≤ 1000
      · rw [if_pos c] at p'
        refine op_repA pins s σ H _ _ v u Q I rx ry ⟨a, k, xs, rfl, rfl, s1, c.1, by rw [← r.length]; exact c.2, fun z => ?_, fun _ q hq => p'.newT rh hq (repVs_rep r _)⟩
        have e : (List.replicate k.toNat ds).flatten = ds := by
          rcases z with z | z
          · subst z
            cases r
            simp
          · subst z
            simp
        rw [e] at p'
        exact Post.okv p' rh (.tup s1 r)
      · rw [if_neg c] at p'; exact p'.elim
    | _ => exact p.elim
  | _ => exact p.elim
theorem op_FloorDiv : OpR X (binaryOp .FloorDiv) (rB X.K xa (bopS .FloorDiv)) := opInt (gd := fun i j => .int (i / j)) op_fdiv (fun i j => decide (0 < j ∧ j < 1073741824)) (fun i j h => by
    have z : 0 < j ∧ j < 1073741824 := of_decide_eq_true h
    exact z) (fun _ _ _ _ _ => .int _) (fun i j h => by
    show (if 0 < j ∧ j < 1073741824 then _ else _) = _
    by_cases c : 0 < j ∧ j < 1073741824
    · rw [if_pos c, if_pos (decide_eq_true c)]
    · rw [if_neg c, if_neg (by simpa using c)]) fun d e h n => by
  cases d <;> try rfl
  cases e <;> try rfl
  exact absurd ⟨rfl, rfl⟩ (n _ _)
theorem op_Mod : OpR X (binaryOp .Mod) (rB X.K xa (bopS .Mod)) := opInt (gd := fun i j => .int (i % j)) L2.op_mod (fun i j => decide (0 < j)) (fun i j h => of_decide_eq_true h) (fun _ _ _ _ _ => .int _) (fun i j h => by
    show (if 0 < j then _ else _) = _
    by_cases c : 0 < j
    · rw [if_pos c, if_pos (decide_eq_true c)]
    · rw [if_neg c, if_neg (by simpa using c)]) fun d e h n => by
  cases d <;> try rfl
  cases e <;> try rfl
  exact absurd ⟨rfl, rfl⟩ (n _ _)
theorem op_Pow : OpR X (binaryOp .Pow) (rB X.K xa (bopS .Pow)) := opInt (gd := fun i j => .int (i ^ j.toNat)) op_pow (fun i j => decide (0 ≤ j ∧ j ≤ 1000000 ∧ i.natAbs < 18446744073709551616)) (fun i j h => by
    have := of_decide_eq_true h
    exact ⟨this.1, this.2.1, this.2.2⟩) (fun _ _ _ _ _ => .int _) (fun i j h => by
    show (if 0 ≤ j ∧ j ≤ 1000000 ∧ i.natAbs < 18446744073709551616 then _ else _) = _
    by_cases c : 0 ≤ j ∧ j ≤ 1000000 ∧ i.natAbs < 18446744073709551616
    · rw [if_pos c, if_pos (decide_eq_true c)]
    · rw [if_neg c, if_neg (by simpa using c)]) fun d e h n => by
  cases d <;> try rfl
  cases e <;> try rfl
  exact absurd ⟨rfl, rfl⟩ (n _ _)
theorem op_Lt : OpR X (compareOp .Lt) (rB X.K xa (cmpS .Lt)) := opInt (gd := fun i j => .bl (decide (i < j))) (rI0_rI op_lt) (fun _ _ => true) (fun _ _ _ => trivial) (fun _ _ _ _ _ => .bl _) (fun _ _ _ => rfl) fun d e h n => by
  cases d <;> try rfl
  cases e <;> try rfl
  exact absurd ⟨rfl, rfl⟩ (n _ _)
theorem op_LtE : OpR X (compareOp .LtE) (rB X.K xa (cmpS .LtE)) := opInt (gd := fun i j => .bl (decide (i ≤ j))) (rI0_rI op_le) (fun _ _ => true) (fun _ _ _ => trivial) (fun _ _ _ _ _ => .bl _) (fun _ _ _ => rfl) fun d e h n => by
  cases d <;> try rfl
  cases e <;> try rfl
  exact absurd ⟨rfl, rfl⟩ (n _ _)
theorem op_Gt : OpR X (compareOp .Gt) (rB X.K xa (cmpS .Gt)) := opInt (gd := fun i j => .bl (decide (j < i))) (rI0_rI op_gt) (fun _ _ => true) (fun _ _ _ => trivial) (fun _ _ _ _ _ => .bl _) (fun _ _ _ => rfl) fun d e h n => by
  cases d <;> try rfl
  cases e <;> try rfl
  exact absurd ⟨rfl, rfl⟩ (n _ _)
theorem op_GtE : OpR X (compareOp .GtE) (rB X.K xa (cmpS .GtE)) := opInt (gd := fun i j => .bl (decide (j ≤ i))) (rI0_rI op_ge) (fun _ _ => true) (fun _ _ _ => trivial) (fun _ _ _ _ _ => .bl _) (fun _ _ _ => rfl) fun d e h n => by
  cases d <;> try rfl
  cases e <;> try rfl
  exact absurd ⟨rfl, rfl⟩ (n _ _)
theorem op_Eq (hu : X.A.units + 64 < cLine) : OpR X (compareOp .Eq) (rB X.K xa (cmpS .Eq)) := by
  intro pins s σ H x y v u Q I rx ry ⟨ρ, h, d, e, Ex, rh, rd, re, p⟩
  have p' : Post X.K xa Ex ρ H (match pd h pdN d, pd h pdN e with
    | some p, some q => okB (PyData.eqv p q) h
    | _, _ => .bad) Q := p
  cases q1 : pd h pdN d with
  | none => rw [q1] at p'; exact p'.elim
  | some a =>
    cases q2 : pd h pdN e with
    | none => rw [q1, q2] at p'; exact p'.elim
    | some b =>
      rw [q1, q2] at p'
      obtain ⟨⟨as, a1⟩, a2, a3⟩ := pd_reads I rh _ _ _ _ _ q1 rd rx
      obtain ⟨⟨bs, b1⟩, b2, b3⟩ := pd_reads I rh _ _ _ _ _ q2 re ry
      have z : a.depth ≤ 60 := a3
      refine SeqAt.eq_plain a1 b1 a2 b2 (by omega) ⟨.bl _, H, I, rfl, Post.okv p' rh (.bl _)⟩
theorem op_NotEq (hu : X.A.units + 64 < cLine) : OpR X (compareOp .NotEq) (rB X.K xa (cmpS .NotEq)) := by
  intro pins s σ H x y v u Q I rx ry ⟨ρ, h, d, e, Ex, rh, rd, re, p⟩
  have p' : Post X.K xa Ex ρ H (match pd h pdN d, pd h pdN e with
    | some p, some q => okB (!PyData.eqv p q) h
    | _, _ => .bad) Q := p
  cases q1 : pd h pdN d with
  | none => rw [q1] at p'; exact p'.elim
  | some a =>
    cases q2 : pd h pdN e with
    | none => rw [q1, q2] at p'; exact p'.elim
    | some b =>
      rw [q1, q2] at p'
      obtain ⟨⟨as, a1⟩, a2, a3⟩ := pd_reads I rh _ _ _ _ _ q1 rd rx
      obtain ⟨⟨bs, b1⟩, b2, b3⟩ := pd_reads I rh _ _ _ _ _ q2 re ry
      have z : a.depth ≤ 60 := a3
      refine SeqAt.ne_plain a1 b1 a2 b2 (by omega) ⟨.bl _, H, I, rfl, Post.okv p' rh (.bl _)⟩
theorem op_InS (hu : X.A.units + 65 < cLine) (neg : Bool) : OpR X (compareOp (if neg then .NotIn else .In)) (rB X.K xa (inS neg)) := by
  intro pins s σ H x y v u Q I rx ry ⟨ρ, h, d, e, Ex, rh, rd, re, p⟩
  unfold inS at p
  cases q0 : seqOf h e with
  | none => rw [q0] at p; exact p.elim
  | some ys =>
    rw [q0] at p
    dsimp only at p
    cases q1 : pd h pdN d with
    | none => rw [q1] at p; exact p.elim
    | some a =>
      cases q2 : optMap (pd h pdN) ys with
      | none => rw [q1, q2] at p; exact p.elim
      | some ps =>
        rw [q1, q2] at p
        dsimp only at p
        obtain ⟨⟨as, a1⟩, a2, a3⟩ := pd_reads I rh _ _ _ _ _ q1 rd rx
        obtain ⟨b, xs, rfl, hs, rv⟩ := seqOf_sq rh re q0
        cases ry
        have z : a.depth ≤ 60 := a3
        rcases hs with hs | hs
        · obtain ⟨its, rv2, ⟨o, n, ho, hc, _, hd⟩, _⟩ := I.list hs
          obtain ⟨⟨bs, b1⟩, b2, b3⟩ := pds_of (pd_reads I rh pdN) (optMap_some q2) rv rv2
          have rr : Reads s.heap (.ref b) (.list ps) _ := .list ho hc hd b1
          cases neg with
          | false => exact SeqAt.in_list_data rr a1 b2 a2 (by omega) ⟨.bl _, H, I, rfl, Post.okv p rh (.bl _)⟩
          | true => exact SeqAt.notIn_list_data rr a1 b2 a2 (by omega) ⟨.bl _, H, I, rfl, Post.okv p rh (.bl _)⟩
        · obtain ⟨its, rv2, ⟨o, ho, hc, n, hd⟩, _⟩ := I.tuple hs
          obtain ⟨⟨bs, b1⟩, b2, b3⟩ := pds_of (pd_reads I rh pdN) (optMap_some q2) rv rv2
          have rr : Reads s.heap (.ref b) (.tuple ps) _ := .tuple ho hc hd b1
          cases neg with
          | false => exact SeqAt.in_tuple_data rr a1 b2 a2 (by omega) ⟨.bl _, H, I, rfl, Post.okv p rh (.bl _)⟩
          | true => exact SeqAt.notIn_tuple_data rr a1 b2 a2 (by omega) ⟨.bl _, H, I, rfl, Post.okv p rh (.bl _)⟩
theorem op_Is : OpR X (compareOp .Is) (rB X.K xa (cmpS .Is)) := by
  intro pins s σ H x y v u Q I rx ry ⟨ρ, h, d, e, Ex, rh, rd, re, p⟩
  cases re with
  | non =>
    cases rd with
    | rol => exact p.elim
    | non => exact op_isN pins s σ H _ _ v u Q I rx ry ⟨rfl, Post.okv p rh (.bl _)⟩
    | bl b => exact op_isN pins s σ H _ _ v u Q I rx ry ⟨rfl, Post.okv p rh (.bl _)⟩
    | int b => exact op_isN pins s σ H _ _ v u Q I rx ry ⟨rfl, Post.okv p rh (.bl _)⟩
    | str b => exact op_isN pins s σ H _ _ v u Q I rx ry ⟨rfl, Post.okv p rh (.bl _)⟩
    | tup s1 r1 => exact op_isN pins s σ H _ _ v u Q I rx ry ⟨rfl, Post.okv p rh (.bl _)⟩
    | ref s1 => exact op_isN pins s σ H _ _ v u Q I rx ry ⟨rfl, Post.okv p rh (.bl _)⟩
  | bl b =>
    cases rd with
    | bl a => exact op_is_bl pins s σ H _ _ v u Q I rx ry ⟨a, b, rfl, rfl, Post.okv p rh (.bl _)⟩
    | _ => exact p.elim
  | _ => cases rd <;> exact p.elim
theorem op_IsNot : OpR X (compareOp .IsNot) (rB X.K xa (cmpS .IsNot)) := by
  intro pins s σ H x y v u Q I rx ry ⟨ρ, h, d, e, Ex, rh, rd, re, p⟩
  cases re with
  | non =>
    cases rd with
    | rol => exact p.elim
    | non => exact op_notN pins s σ H _ _ v u Q I rx ry ⟨rfl, Post.okv p rh (.bl _)⟩
    | bl b => exact op_notN pins s σ H _ _ v u Q I rx ry ⟨rfl, Post.okv p rh (.bl _)⟩
    | int b => exact op_notN pins s σ H _ _ v u Q I rx ry ⟨rfl, Post.okv p rh (.bl _)⟩
    | str b => exact op_notN pins s σ H _ _ v u Q I rx ry ⟨rfl, Post.okv p rh (.bl _)⟩
    | tup s1 r1 => exact op_notN pins s σ H _ _ v u Q I rx ry ⟨rfl, Post.okv p rh (.bl _)⟩
    | ref s1 => exact op_notN pins s σ H _ _ v u Q I rx ry ⟨rfl, Post.okv p rh (.bl _)⟩
  | bl b =>
    cases rd with
    | bl a => exact op_isnot_bl pins s σ H _ _ v u Q I rx ry ⟨a, b, rfl, rfl, Post.okv p rh (.bl _)⟩
    | _ => exact p.elim
  | _ => cases rd <;> exact p.elim
def okBop : Operator → Bool
  | .Add => true
  | .Sub => true
  | .Mult => true
  | .FloorDiv => true
  | .Mod => true
  | .Pow => true
  | _ => false
theorem bop_ok {o : Operator} (h : okBop o = true) : OpR X (binaryOp o) (rB X.K xa (bopS o)) := by
  cases o with
  | Add => exact op_Add
  | Sub => exact op_Sub
  | Mult => exact op_Mult
  | FloorDiv => exact op_FloorDiv
  | Mod => exact op_Mod
  | Pow => exact op_Pow
  | _ => cases h
theorem cmp_ok (o : CmpOp) (hu : X.A.units + 65 < cLine) : OpR X (compareOp o) (rB X.K xa (cmpS o)) := by
  cases o with
  | Eq => exact op_Eq (by omega)
  | NotEq => exact op_NotEq (by omega)
  | Lt => exact op_Lt
  | LtE => exact op_LtE
  | Gt => exact op_Gt
  | GtE => exact op_GtE
  | Is => exact op_Is
  | IsNot => exact op_IsNot
  | In => exact op_InS hu false
  | NotIn => exact op_InS hu true
end
end Ly
end
section
set_option Elab.async false
set_option linter.all false
set_option maxRecDepth 100000
set_option maxHeartbeats 1000000
/-! Ly5: the other expressions. -/
namespace Ly
open PySem PySem.Spec PyProof.Rows L2
/-! ### shapes of the text -/
def notStar : Expr → Bool
  | .Starred _ _ => false
  | _ => true
theorem star_one {e : Expr} (h : notStar e = true) (es : List Expr) (env : Env) : starEach (e :: es) env = (false, eval e env) :: starEach es env := by
  cases e <;> first | rfl | cases h
def notStars (es : List Expr) : Bool := es.all notStar
theorem star_none {es : List Expr} (h : notStars es = true) (env : Env) (pos : Pos) : (backTo pos (starEach es env)).any (·.1) = false := by
  induction es with
  | nil => rfl
  | cons e r ih =>
    have h' : notStar e = true ∧ notStars r = true := by simpa [notStars] using h
    rw [star_one h'.1]
    show (false || (backTo pos (starEach r env)).any (·.1)) = false
    rw [ih h'.2]; rfl
theorem star_len {es : List Expr} (env : Env) : (starEach es env).length = es.length := by
  induction es with
  | nil => rfl
  | cons e r ih => cases e <;> exact congrArg Nat.succ ih
/-- an expression that stands ahead of a dot -/
def plainBase : Expr → Bool
  | .Call _ _ _ _ => false
  | _ => true
theorem base_of {o : Expr} (h : plainBase o = true) (attr : Str) (env : Env) : attributeBase o attr env (eval o env) = eval o env := by
  cases o <;> first | rfl | cases h
/-- a test that is its value's truth -/
def plainTest : Expr → Bool
  | .UnaryOp _ _ _ => false
  | .BoolOp _ _ _ => false
  | .IfExp _ _ _ _ => false
  | .Compare _ _ _ _ => false
  | _ => true
theorem test_of {e : Expr} (h : plainTest e = true) (env : Env) (whole : Sem Value) : isTrue e env whole = (do let v ← whole; standAt e.pos; holding [v] (truthy v)) := by
  cases e with
  | UnaryOp o x p => cases h
  | BoolOp => cases h
  | IfExp => cases h
  | Compare => cases h
  | _ => rfl
def notSet : Expr → Bool
  | .Set _ _ _ => false
  | _ => true
theorem mark_of {b : Expr} (h : notSet b = true) (o : CmpOp) : behindInMarks o b = false := by
  cases b <;> first | rfl | cases h
theorem marks_of {b c : Expr} (h1 : notSet b = true) (h2 : notSet c = true) (o o' : CmpOp) : lastMarks [o, o'] [b, c] = false := by
  show behindInMarks o' c = false
  exact mark_of h2 o'
def notSlice : Expr → Bool
  | .Slice _ _ _ _ => false
  | _ => true
theorem ix_of {b : Expr} (h : notSlice b = true) : PlainIx b := by
  intro o i
  cases b <;> first | rfl | cases h
section
variable {X : Cx} {xa : Xa} {W : WX} {a b c : Expr} {pos : Pos} {g : Gs} {ca cb cc : CE}
/-! ### tests and truth -/
theorem semT_of {K : PySem.W.Frag} {f : Fn} {σ : St} {H : Hp} {Q : Bool → Hp → Prop} (h : semT K xa W f σ H Q) : semF K xa W f σ H fun v H' => ∃ b, v = .bl b ∧ Q b H' := h
theorem t_val (h : E1 X xa W a (ev g ca)) (hp : ∀ whole, isTrue a X.env whole = (do let v ← whole; standAt a.pos; holding [v] (truthy v))) : T1 X xa W a (ev g (.tr ca)) := by
  refine pt_w (pt_truth h hp) fun σ H Q ⟨ρ, σd, h, rl, rh, p⟩ => ?_
  refine semF.then rl rh p fun d h1 ρ1 H1 v q1 e1 rl1 rh1 rv p1 => ?_
  cases q : truS d h1 with
  | none => rw [q] at p1; exact p1.elim
  | some k =>
    rw [q] at p1
    obtain ⟨k', e, qq⟩ := Post.okv p1 rh1 (.bl k)
    cases e
    refine ⟨k, ?_, qq⟩
    cases rv with
    | non => cases q; rfl
    | bl b => cases q; rfl
    | int i => cases q; rfl
    | str => cases q
    | tup s r =>
      have q' : some _ = some k := q
      cases q'
      refine .inr (.inl ⟨_, s, ?_⟩)
      cases r <;> rfl
    | rol s r =>
      have q' : some _ = some k := q
      cases q'
      refine .inl ⟨_, s.sq, ?_⟩
      cases r <;> rfl
    | @ref n aa ha =>
      have q' : (match h1[n]? with
        | some (.lst xs) => some (!xs.isEmpty)
        | _ => none) = some k := q
      cases z : h1[n]? with
      | none => rw [z] at q'; cases q'
      | some ao =>
        rw [z] at q'
        cases ao with
        | dct => cases q'
        | lst ds =>
          cases q'
          obtain ⟨xs, e2, r⟩ := rh1.lst ha z
          refine .inl ⟨_, SqL.of e2, ?_⟩
          cases r <;> rfl
theorem t_cmp {o : CmpOp} (ho : OpR X (compareOp o) (rB X.K xa (cmpS o))) (ha : E1 X xa W a (ev g ca)) (hb : E1 X xa W b (ev g cb)) (hm : behindInMarks o b = false) : T1 X xa W (.Compare a [o] [b] pos) (ev g (.cmp o ca cb)) :=
  pt_w (pt_cmpR ho ha hb hm) fun σ H Q h => rB_of h
theorem chain_of {o o' : CmpOp} {σ : St} {H : Hp} {Q : VK} (h : semF X.K xa W (ev g (.chn o o' ca cb cc)) σ H Q) : tChain (rB X.K xa (cmpS o)) (rB X.K xa (cmpS o')) (semF X.K xa W (ev g ca)) (semF X.K xa W (ev g cb)) (semF X.K xa W (ev g cc)) σ H Q := by
  obtain ⟨ρ, σd, h, rl, rh, p⟩ := h
  refine semF.then rl rh p fun d h1 ρ1 H1 v q1 e1 rl1 rh1 rv p1 => semF.then rl1 rh1 p1 fun e h2 ρ2 H2 u q2 e2 rl2 rh2 ru p2 => ?_
  refine ⟨ρ2, h2, d, e, _, rh2, rv.ext q2 e2, ru, p2.bind fun z h3 ρ3 H3 w q3 e3 rh3 rw' p3 => ?_⟩
  cases rw' with
  | bl k =>
    refine ⟨k, rfl, ?_⟩
    cases k with
    | false => exact iteF (Post.okv p3 rh3 (.bl _))
    | true => exact iteT (semF.then (rl2.ext q3 e3) rh3 p3 fun y h4 ρ4 H4 v4 q4 e4 rl4 rh4 rv4 p4 => ⟨ρ4, h4, e, y, _, rh4, (ru.ext q3 e3).ext q4 e4, rv4, p4⟩)
  | _ => exact p3.elim
theorem e_chn {o o' : CmpOp} (ho : OpR X (compareOp o) (rB X.K xa (cmpS o))) (ho' : OpR X (compareOp o') (rB X.K xa (cmpS o'))) (ha : E1 X xa W a (ev g ca)) (hb : E1 X xa W b (ev g cb)) (hc : E1 X xa W c (ev g cc)) (hm : lastMarks [o, o'] [b, c] = false) : E1 X xa W (.Compare a [o, o'] [b, c] pos) (ev g (.chn o o' ca cb cc)) :=
  pe_w (pe_chain ho ho' ha hb hc hm) fun σ H Q h => chain_of h
theorem t_chn {o o' : CmpOp} (ho : OpR X (compareOp o) (rB X.K xa (cmpS o))) (ho' : OpR X (compareOp o') (rB X.K xa (cmpS o'))) (ha : E1 X xa W a (ev g ca)) (hb : E1 X xa W b (ev g cb)) (hc : E1 X xa W c (ev g cc)) (hm : lastMarks [o, o'] [b, c] = false) : T1 X xa W (.Compare a [o, o'] [b, c] pos) (ev g (.chn o o' ca cb cc)) :=
  pt_w (pt_chain ho ho' ha hb hc hm) fun σ H Q h => chain_of h
/-- run a test, then what follows -/
theorem semT.then {K : PySem.W.Frag} {f : Fn} {k : D → AH → R D} {σ : St} {H : Hp} {Q : VK} {Q' : Bool → Hp → Prop} {ρ : List Addr} {σd : Sg} {h : AH} (rl : Rel K xa ρ H σd σ) (rh : RepH K xa ρ H h)
    (p : Post K xa (fun c d H' => W c d σ H') ρ H ((f σd h).bind k) Q) (hb : ∀ d h1, (∀ b, d ≠ .bl b) → k d h1 = .bad)
    (hk : ∀ b h1 ρ1 H1, ρ <+: ρ1 → Ext H H1 → Rel K xa ρ1 H1 σd σ → RepH K xa ρ1 H1 h1 → Post K xa (fun c d H' => W c d σ H') ρ1 H1 (k (.bl b) h1) Q → Q' b H1) : semT K xa W f σ H Q' :=
  semF.then rl rh p fun d h1 ρ1 H1 v q1 e1 rl1 rh1 rv p1 => by
    cases rv with
    | bl b => exact ⟨b, rfl, hk b h1 ρ1 H1 q1 e1 rl1 rh1 p1⟩
    | _ => rw [hb _ _ (fun b z => by cases z)] at p1; exact p1.elim
theorem nbl {P : D → Prop} (h : ∀ d, (∀ b, d ≠ .bl b) → P d) : ∀ d, (∀ b, d ≠ .bl b) → P d := h
theorem w_and1 (ha : T1 X xa W a (ev g ca)) : PW X (.BoolOp .And [a] pos) (semT X.K xa W (ev g ca)) := pw_and1 ha
theorem w_or1 (ha : T1 X xa W a (ev g ca)) : PW X (.BoolOp .Or [a] pos) (semT X.K xa W (ev g ca)) := pw_or1 ha
theorem w_and {r : List Expr} (ha : T1 X xa W a (ev g ca)) (hb : PW X (.BoolOp .And (b :: r) pos) (semT X.K xa W (ev g cb))) : PW X (.BoolOp .And (a :: b :: r) pos) (semT X.K xa W (ev g (.and_ ca cb))) :=
  pw_w (pw_and ha hb) fun σ H Q ⟨ρ, σd, h, rl, rh, p⟩ => by
    refine semT.then rl rh p (fun d h1 n => by cases d <;> first | rfl | exact absurd rfl (n _)) fun b h1 ρ1 H1 q1 e1 rl1 rh1 p1 => ?_
    cases b with
    | true => exact iteT ⟨ρ1, σd, h1, rl1, rh1, p1⟩
    | false =>
      obtain ⟨b', e, q⟩ := Post.okv p1 rh1 (.bl _)
      cases e
      exact iteF q
theorem w_or {r : List Expr} (ha : T1 X xa W a (ev g ca)) (hb : PW X (.BoolOp .Or (b :: r) pos) (semT X.K xa W (ev g cb))) : PW X (.BoolOp .Or (a :: b :: r) pos) (semT X.K xa W (ev g (.or_ ca cb))) :=
  pw_w (pw_or ha hb) fun σ H Q ⟨ρ, σd, h, rl, rh, p⟩ => by
    refine semT.then rl rh p (fun d h1 n => by cases d <;> first | rfl | exact absurd rfl (n _)) fun b h1 ρ1 H1 q1 e1 rl1 rh1 p1 => ?_
    cases b with
    | true =>
      obtain ⟨b', e, q⟩ := Post.okv p1 rh1 (.bl _)
      cases e
      exact iteT q
    | false => exact iteF ⟨ρ1, σd, h1, rl1, rh1, p1⟩
theorem t_not (ha : T1 X xa W a (ev g ca)) : T1 X xa W (.UnaryOp .Not a pos) (ev g (.not_ ca)) :=
  pt_w (pt_not ha) fun σ H Q ⟨ρ, σd, h, rl, rh, p⟩ => by
    refine semT.then rl rh p (fun d h1 n => by cases d <;> first | rfl | exact absurd rfl (n _)) fun b h1 ρ1 H1 q1 e1 rl1 rh1 p1 => ?_
    obtain ⟨b', e, q⟩ := Post.okv p1 rh1 (.bl _)
    cases e
    exact q
theorem e_not (ha : E1 X xa W a (ev g ca)) : E1 X xa W (.UnaryOp .Not a pos) (ev g (.not_ ca)) :=
  pe_w (L2.pe_not ha) fun σ H Q ⟨ρ, σd, h, rl, rh, p⟩ => by
    obtain ⟨ρ, σd, h, rl, rh, p⟩ := semT.then (Q' := fun b H1 => Q (.bl (!b)) H1) rl rh p (fun d h1 n => by cases d <;> first | rfl | exact absurd rfl (n _)) fun b h1 ρ1 H1 q1 e1 rl1 rh1 p1 => Post.okv p1 rh1 (.bl _)
    exact ⟨ρ, σd, h, rl, rh, p⟩
theorem e_and1 {op} (ha : E1 X xa W a (ev g ca)) : E1 X xa W (.BoolOp op [a] pos) (ev g ca) := pe_one ha
theorem e_and {r : List Expr} (ha : E1 X xa W a (ev g ca)) (hb : E1 X xa W (.BoolOp .And (b :: r) pos) (ev g cb)) : E1 X xa W (.BoolOp .And (a :: b :: r) pos) (ev g (.and_ ca cb)) :=
  pe_w (pe_and ha hb) fun σ H Q ⟨ρ, σd, h, rl, rh, p⟩ => by
    refine semT.then (Q' := fun c H1 => if c = true then semF X.K xa W (ev g cb) σ H1 Q else Q (.bl false) H1) rl rh p (fun d h1 n => by cases d <;> first | rfl | exact absurd rfl (n _)) fun b h1 ρ1 H1 q1 e1 rl1 rh1 p1 => ?_
    cases b with
    | true => exact iteT ⟨ρ1, σd, h1, rl1, rh1, p1⟩
    | false => exact iteF (Post.okv p1 rh1 (.bl _))
theorem e_or {r : List Expr} (ha : E1 X xa W a (ev g ca)) (hb : E1 X xa W (.BoolOp .Or (b :: r) pos) (ev g cb)) : E1 X xa W (.BoolOp .Or (a :: b :: r) pos) (ev g (.or_ ca cb)) :=
  pe_w (pe_or ha hb) fun σ H Q ⟨ρ, σd, h, rl, rh, p⟩ => by
    refine semT.then (Q' := fun c H1 => if c = true then Q (.bl true) H1 else semF X.K xa W (ev g cb) σ H1 Q) rl rh p (fun d h1 n => by cases d <;> first | rfl | exact absurd rfl (n _)) fun b h1 ρ1 H1 q1 e1 rl1 rh1 p1 => ?_
    cases b with
    | true => exact iteT (Post.okv p1 rh1 (.bl _))
    | false => exact iteF ⟨ρ1, σd, h1, rl1, rh1, p1⟩
theorem e_ite (hc : T1 X xa W c (ev g cc)) (ha : E1 X xa W a (ev g ca)) (hb : E1 X xa W b (ev g cb)) : E1 X xa W (.IfExp c a b pos) (ev g (.ite cc ca cb)) :=
  pe_w (pe_ifExp hc ha hb) fun σ H Q ⟨ρ, σd, h, rl, rh, p⟩ => by
    refine semT.then rl rh p (fun d h1 n => by cases d <;> first | rfl | exact absurd rfl (n _)) fun b h1 ρ1 H1 q1 e1 rl1 rh1 p1 => ?_
    cases b with
    | true => exact iteT ⟨ρ1, σd, h1, rl1, rh1, p1⟩
    | false => exact iteF ⟨ρ1, σd, h1, rl1, rh1, p1⟩
theorem e_neg (ha : E1 X xa W a (ev g ca)) : E1 X xa W (.UnaryOp .USub a pos) (ev g (.neg ca)) :=
  pe_w (pe_un un_neg ha) fun σ H Q ⟨ρ, σd, h, rl, rh, p⟩ => by
    refine semF.then rl rh p fun d h1 ρ1 H1 v q1 e1 rl1 rh1 rv p1 => ?_
    cases rv with
    | int i => exact ⟨i, rfl, Post.okv p1 rh1 (.int _)⟩
    | _ => exact p1.elim
/-! ### arguments -/
def PostA (K : PySem.W.Frag) (xa : Xa) (Ex : XK) (ρ : List Addr) (H : Hp) (r : R D) (Q : List V → Hp → Prop) : Prop := match r with
  | .ok (.tup ds) h' => ∀ (ρ' : List Addr) (H' : Hp) (vs : List V), ρ <+: ρ' → Ext H H' → RepH K xa ρ' H' h' → RepVs K xa ρ' H' ds vs → Q vs H'
  | .ok _ _ => False
  | .exc c fs vs h' => Post K xa Ex ρ H (.exc c fs vs h') fun _ _ => False
  | .bad => False
theorem PostA.shift {K : PySem.W.Frag} {Ex : XK} {ρ ρ' : List Addr} {H H' : Hp} {r : R D} {Q : List V → Hp → Prop} (p : ρ <+: ρ') (e : Ext H H') (h : PostA K xa Ex ρ H r Q) : PostA K xa Ex ρ' H' r Q := by
  cases r with
  | ok d h' =>
    cases d with
    | tup ds => exact fun ρ2 H2 v p2 e2 => h ρ2 H2 v (p.trans p2) (e.trans e2)
    | _ => exact h
  | exc c fs vs h' => exact Post.shift (Q := fun _ _ => False) p e (show Post K xa Ex ρ H (.exc c fs vs h') (fun _ _ => False) from h)
  | bad => exact h
theorem PostA.bind0 {K : PySem.W.Frag} {Ex : XK} {ρ : List Addr} {H : Hp} {r : R D} {k : D → AH → R D} {Q : List V → Hp → Prop} {Q' : VK} (h : PostA K xa Ex ρ H (r.bind k) Q)
    (hk : ∀ d h1 ρ1 H1 v, ρ <+: ρ1 → Ext H H1 → RepH K xa ρ1 H1 h1 → RepV K xa ρ1 H1 d v → PostA K xa Ex ρ1 H1 (k d h1) Q → Q' v H1) : Post K xa Ex ρ H r Q' := by
  cases r with
  | ok d h' => exact fun ρ1 H1 v p e rh rv => hk d h' ρ1 H1 v p e rh rv (PostA.shift p e h)
  | exc c fs vs h' => exact h
  | bad => exact h
/-- arguments, then what follows -/
theorem PostA.bind {K : PySem.W.Frag} {Ex : XK} {ρ : List Addr} {H : Hp} {r : R D} {k : List D → AH → R D} {Q : VK} {Q' : List V → Hp → Prop} (h : Post K xa Ex ρ H (r.bind fun x h1 => match x with
      | .tup ds => k ds h1
      | _ => .bad) Q)
    (hk : ∀ ds h1 ρ1 H1 vs, ρ <+: ρ1 → Ext H H1 → RepH K xa ρ1 H1 h1 → RepVs K xa ρ1 H1 ds vs → Post K xa Ex ρ1 H1 (k ds h1) Q → Q' vs H1) : PostA K xa Ex ρ H r Q' := by
  cases r with
  | ok d h' =>
    cases d with
    | tup ds => exact fun ρ1 H1 vs p e rh rv => hk ds h' ρ1 H1 vs p e rh rv (Post.shift p e h)
    | _ => exact h
  | exc c fs vs h' => exact h
  | bad => exact h
theorem PostA.bindA {K : PySem.W.Frag} {Ex : XK} {ρ : List Addr} {H : Hp} {r : R D} {k : List D → AH → R D} {Q Q' : List V → Hp → Prop} (h : PostA K xa Ex ρ H (r.bind fun x h1 => match x with
      | .tup ds => k ds h1
      | _ => .bad) Q)
    (hk : ∀ ds h1 ρ1 H1 vs, ρ <+: ρ1 → Ext H H1 → RepH K xa ρ1 H1 h1 → RepVs K xa ρ1 H1 ds vs → PostA K xa Ex ρ1 H1 (k ds h1) Q → Q' vs H1) : PostA K xa Ex ρ H r Q' := by
  cases r with
  | ok d h' =>
    cases d with
    | tup ds => exact fun ρ1 H1 vs p e rh rv => hk ds h' ρ1 H1 vs p e rh rv (PostA.shift p e h)
    | _ => exact h
  | exc c fs vs h' => exact h
  | bad => exact h
def semAr (K : PySem.W.Frag) (xa : Xa) (W : WX) (f : Fn) : TA := fun σ H Q => ∃ (ρ : List Addr) (σd : Sg) (h : AH), Rel K xa ρ H σd σ ∧ RepH K xa ρ H h ∧ PostA K xa (fun c d H' => W c d σ H') ρ H (f σd h) Q
theorem semAr.then {K : PySem.W.Frag} {f : Fn} {k : List D → AH → R D} {σ : St} {H : Hp} {Q : VK} {Q' : List V → Hp → Prop} {ρ : List Addr} {σd : Sg} {h : AH} (rl : Rel K xa ρ H σd σ) (rh : RepH K xa ρ H h)
    (p : Post K xa (fun c d H' => W c d σ H') ρ H ((f σd h).bind fun x h1 => match x with
      | .tup ds => k ds h1
      | _ => .bad) Q)
    (hk : ∀ ds h1 ρ1 H1 vs, ρ <+: ρ1 → Ext H H1 → Rel K xa ρ1 H1 σd σ → RepH K xa ρ1 H1 h1 → RepVs K xa ρ1 H1 ds vs → Post K xa (fun c d H' => W c d σ H') ρ1 H1 (k ds h1) Q → Q' vs H1) : semAr K xa W f σ H Q' :=
  ⟨ρ, σd, h, rl, rh, PostA.bind p fun ds h1 ρ1 H1 vs q1 e1 rh1 rv p1 => hk ds h1 ρ1 H1 vs q1 e1 (rl.ext q1 e1) rh1 rv p1⟩
abbrev Ar (X : Cx) (xa : Xa) (W : WX) (es : List Expr) (f : Fn) : Prop := PA X es (semAr X.K xa W f)
theorem a_nil : Ar X xa W [] (ev g .nil) := pa_w pa_nil fun σ H Q ⟨ρ, σd, h, rl, rh, p⟩ => p ρ H [] (List.prefix_refl _) (Ext.refl _) rh .nil
theorem a_cons {es : List Expr} (ha : E1 X xa W a (ev g ca)) (hr : Ar X xa W es (ev g cb)) (hs : notStar a = true) : Ar X xa W (a :: es) (ev g (.cons ca cb)) :=
  pa_w (pa_cons ha hr (star_one hs es X.env)) fun σ H Q ⟨ρ, σd, h, rl, rh, p⟩ => by
    refine ⟨ρ, σd, h, rl, rh, PostA.bind0 p fun d h1 ρ1 H1 v q1 e1 rh1 rv p1 => ?_⟩
    refine ⟨ρ1, σd, h1, rl.ext q1 e1, rh1, PostA.bindA p1 fun ds h2 ρ2 H2 vs q2 e2 rh2 rvs p2 => ?_⟩
    exact p2 ρ2 H2 (v :: vs) (List.prefix_refl _) (Ext.refl _) rh2 (.cons (rv.ext q2 e2) rvs)
theorem e_tup {es : List Expr} {k : Nat} (h : Ar X xa W es (ev g ca)) : E1 X xa W (.Tuple es k pos) (ev g (.tup ca)) :=
  pe_w (pe_tup h) fun σ H Q ⟨ρ, σd, h, rl, rh, p⟩ => by
    refine semAr.then rl rh p fun ds h1 ρ1 H1 vs q1 e1 rl1 rh1 rv p1 => ?_
    by_cases c : ds.length ≤ 16777216
    · rw [if_pos c] at p1
      exact ⟨by rw [sizeLine_eq, ← rv.length]; exact c, fun q hq => p1.newT rh1 hq rv⟩
    · rw [if_neg c] at p1; exact p1.elim
theorem e_lst {es : List Expr} (h : Ar X xa W es (ev g ca)) : E1 X xa W (.List es pos) (ev g (.lst ca)) :=
  pe_w (pe_lst h) fun σ H Q ⟨ρ, σd, h, rl, rh, p⟩ => by
    refine semAr.then rl rh p fun ds h1 ρ1 H1 vs q1 e1 rl1 rh1 rv p1 => ?_
    by_cases c : ds.length ≤ 16777216
    · rw [if_pos c] at p1
      exact ⟨by rw [sizeLine_eq, ← rv.length]; exact c, fun q hq => p1.new rh1 hq rv⟩
    · rw [if_neg c] at p1; exact p1.elim
/-! ### calls of defs -/
/-- the promise that a function of the interpreter is -/
def spF (K : PySem.W.Frag) (n : Nat) (c : List D → AH → R D) : Sp := fun vs H Q E => ∃ (ρ : List Addr) (ds : List D) (h : AH), ds.length = n ∧ RepH K none ρ H h ∧ RepVs K none ρ H ds vs ∧ Post K none E ρ H (c ds h) Q
theorem spF_len {K : PySem.W.Frag} {n : Nat} {c : List D → AH → R D} {vs : List V} {H : Hp} {Q : VK} {E : XK} (h : spF K n c vs H Q E) : vs.length = n := by
  obtain ⟨ρ, ds, h, hl, _, r, _⟩ := h
  rw [← r.length]; exact hl
end
end Ly
end
section
set_option Elab.async false
set_option linter.all false
set_option maxRecDepth 100000
set_option maxHeartbeats 4000000
namespace Ly
open PySem PySem.Spec PyProof.Rows L2
theorem ext_tup (l : Addr) (items : Array Value) (n : Nat) (b : Addr) (items2 : Array Value) (n2 : Nat) (dd : Option Addr) (sl : Array (Option Value)) (hs0 : ¬(!items.isEmpty && Builtin.List.listTooLong (items.size + items2.size)) = true) (hs1 : items.size ≤ sizeLine) (hs2 : items.size + items2.size ≤ sizeLine + 1) :
    Meets (Builtin.«list.extend» ⟨[.ref l, .ref b], []⟩) (fun _ R s => s.heap.get? l = some { cls := .type "list", dict := none, data := .seq items n, slots := #[] } ∧ s.heap.get? b = some { cls := .type "tuple", dict := dd, data := .seq items2 n2, slots := sl } ∧ R (.ok (.ret Value.none)) { s with heap := s.heap.update l (Obj.mapSeq fun x => x ++ items2), toks := s.toks }) :=
  .of_wp fun prog w A R s h => by
    obtain ⟨hp, g, d, tk, os⟩ := s; obtain ⟨hl, hb, h⟩ := h; have f1 := AutoSeq1.idx_int; have f2 := AutoSeq1.sub_tuple_tuple; have f3 := AutoSeq1.sub_list_list; have f4 := AutoSeq1.sub_tuple_list; have f5 := AutoSeq1.sub_list_tuple;
    have hz' : (items ++ items2).size ≤ sizeLine + 1 := by rw [Array.size_append]; exact hs2
    wp_walk using (wpAny_updateSeq hl rfl (hz := hs1) (_hz' := hz')), wpAny_loadPart' hl, wpAny_loadPart' hb; exact ⟨_, rfl, h⟩
def rExtT (K : PySem.W.Frag) : V → List V → Hp → VK → Prop := fun x vs H Q => ∃ l b xs zs, x = .ref l ∧ vs = [.ref b] ∧ H l = some (.lst xs) ∧ SqT K H b zs ∧ xs.length + zs.length ≤ sizeLine ∧ Q .non (upd H l (.lst (xs ++ zs)))
theorem mt_extT {X : Cx} : MtR X "list.extend" (rExtT X.K) := by
  intro pins s σ H x vs v us Q I rx rv h
  obtain ⟨l, b, xs, zs, rfl, rfl, hH, hB, hz, q⟩ := h
  cases rx
  obtain ⟨u, rfl, ru⟩ := rv.one
  cases ru
  obtain ⟨z, its, n, r, hl, e⟩ := I.lstM hH
  obtain ⟨its2, r2, ⟨⟨cls, dd, data, sl⟩, e2, hc, n2, hd⟩, _⟩ := I.tuple hB
  simp only at hc hd
  subst hc hd
  have l1 := r.length
  have l2 := r2.length
  have hsz : its.toArray.size + its2.toArray.size ≤ sizeLine := by rw [List.size_toArray, List.size_toArray]; omega
  have hlong : ¬ (!its.toArray.isEmpty && Builtin.List.listTooLong (its.toArray.size + its2.toArray.size)) = true := by
    rw [notLongL hsz, Bool.and_false]
    exact Bool.false_ne_true
  refine call_meets F.slot_list_extend ⟨_, e, rfl⟩ F.entry_list_extend (F.args_list_extend_2 _ _)
    (ext_tup l its.toArray n b its2.toArray n2 dd sl hlong (by rw [List.size_toArray]; omega) (by omega)) ⟨e, e2, ?_⟩
  refine ⟨.non, _, I.lset (its' := its ++ its2) hH e (by simp) (r.append r2) ?_, rfl, q⟩
  rw [List.length_append]
  omega
end Ly
end
section
set_option Elab.async false
set_option linter.all false
set_option maxRecDepth 100000
set_option maxHeartbeats 2000000
/-! LyG: defs called where no container is being shown. -/
namespace Ly
open PySem PySem.Spec PyProof.Rows L2
/-- room, and nothing is being shown -/
structure Rm (k : Nat) (A : Around) : Prop where
  r : Room k A
  g : A.guards = some []
theorem Rm.mono {j k : Nat} {A : Around} (h : Rm k A) (e : j ≤ k) : Rm j A := ⟨h.r.mono e, h.g⟩
/-- the promise of a def, called so -/
structure FnG (P : Program) (w : World) (K : PySem.W.Frag) (mg : Str → Option Value) (B : Heap) (CX : CXT) (k : Nat) (f : Addr) (fd : FuncData) (ps : List Str) (sp : Sp) : Prop where
  ln : ∀ {vs H Q E}, sp vs H Q E → vs.length = ps.length
  go : ∀ {A : Around} {out : List Env} {s : Shared} {H : Hp} {args : Args} {us : List Value} {vs : List V} {Q : VK} {E : XK}, Rm k A → Env0 P w K mg B A out s H → BindsTo s fd args (ps.zip us) → Vals vs us → sp vs H Q E → codeAny (model P w) A (.call (.ref f) args) (CR CX out P w H s Q E) s
section
variable {X : Cx} {CX : CXT} {k : Nat} {f : Addr} {fd : FuncData} {ps : List Str} {sp : Sp} {E : St → XK} {x : Str} {p pos : Pos} {e : Expr} {es : List Expr} {t : TA} {pins : List (Addr × Obj)} {σ : St} {H : Hp} {s : Shared} {Q : VK}
/-- what stands behind the callee's code -/
theorem ends_G {args : Args} (hx : PassesAt CX X σ (E σ)) (I : Inv X pins σ H s) (h : codeAny (model X.prog X.w) X.A (.call (.ref f) args) (CR CX X.stack X.prog X.w H s Q (E σ)) s) : codeAny (model X.prog X.w) X.A (.call (.ref f) args) (fun r s' => match r with
    | .ok (.ret u) => EP X pins σ Q u s'
    | .ok _ => False
    | .error e => X.xe e s') s :=
  codeAny_mono h fun r s' q => by
    match r, q with
    | .error e, q => exact hx pins H s e s' I q
    | .ok (.ret u), q => exact I.after q
    | .ok .next, q => exact q.elim
    | .ok .brk, q => exact q.elim
    | .ok .cont, q => exact q.elim
theorem run_G {us : List Value} {vs : List V} (F : FnG X.prog X.w X.K X.mg X.base CX k f fd ps sp) (hr : Rm k X.A) (hb : Binds X.K fd ps []) (hx : PassesAt CX X σ (E σ)) (I : Inv X pins σ H s) (r : Vals vs us) (h : sp vs H Q (E σ)) :
    wpAny (model X.prog X.w) X.A (call (.ref f) us) (EP X pins σ Q) X.xe s := by
  have b := hb s us I.kIn (by rw [List.append_nil, ← r.length]; exact F.ln h)
  rw [List.append_nil] at b
  refine wpAny_call (codeAny_mono (ends_G hx I (F.go hr I.env0 b r h)) fun r s' q => ?_)
  match r, q with
  | .error e, q => exact q
  | .ok (.ret u), q => exact q
  | .ok .next, q => exact q.elim
  | .ok .brk, q => exact q.elim
  | .ok .cont, q => exact q.elim
theorem pe_callG (F : FnG X.prog X.w X.K X.mg X.base CX k f fd ps sp) (hr : Rm k X.A) (hg : Gl X x) (hm : X.mg x = some (.ref f)) (hk : PySem.W.keepIn X.K (.ref f) = true) (hb : Binds X.K fd ps []) (hx : ∀ σ, PassesAt CX X σ (E σ)) (ha : PA X (e :: es) t) (hdb : (x == ("__debug__" : Str)) = false)
    (he : starEach (e :: es) X.env = (false, eval e X.env) :: starEach es X.env) (hpl : (backTo pos (starEach es X.env)).any (·.1) = false) : PE X (.Call (.Name x p) (e :: es) [] pos) (tCallS sp E t) :=
  ⟨fun pins s σ H Q I h => wpAny_Call_Name_kw (ld_glob I hg hm (PySem.W.callWith_K (h₀ := X.base) I.ok.mod.kin hk (thn (ha.run pos pins s σ H _ I h) fun us s1 ⟨vs, H1, I1, r, q⟩ => ⟨I1.kIn, run_G F hr hb (hx σ) I1 r q⟩) he hpl) hdb)⟩
theorem pe_callG0 (F : FnG X.prog X.w X.K X.mg X.base CX k f fd ps sp) (hr : Rm k X.A) (hg : Gl X x) (hm : X.mg x = some (.ref f)) (hk : PySem.W.keepIn X.K (.ref f) = true) (hb : Binds X.K fd ps []) (hx : ∀ σ, PassesAt CX X σ (E σ)) (hdb : (x == ("__debug__" : Str)) = false) :
    PE X (.Call (.Name x p) [] [] pos) (tCallS sp E tNil) :=
  ⟨fun pins s σ H Q I h => wpAny_Call_Name_kw (ld_glob I hg hm (PySem.W.callWith_K0 I.kIn hk (run_G (us := []) F hr hb (hx σ) I .nil h)) hdb)⟩
end
/-- a def's promise by its body -/
theorem fn_ofG {CX : CXT} {P : Program} {w : World} {K : PySem.W.Frag} {mg : Str → Option Value} {B : Heap} {N ps : List Str} {k : Nat} {sp : Sp} {x qual : Str} {params : Arguments} {body : List Stmt} {scope : Scope} {f : Addr} {fd : FuncData}
    (F : FunD K x qual params body scope [] [] f fd) (S : FnScope N ps scope) (ln : ∀ {vs H Q E}, sp vs H Q E → vs.length = ps.length)
    (hbody : ∀ (cdv : Value) (A : Around) (out : List Env) (s : Shared) (H : Hp) (vs : List V) (Q : VK) (E : XK), Rm k (A.deeper (envOfC qual scope s.heap.objs.size f cdv)) → sp vs H Q E →
      ∃ t, PSs (cxOf CX P w K mg B N qual scope f cdv A out s H E) body t ∧ t { nx := fun _ H' => Q .non H', rt := Q } (start N vs) H) : FnG P w K mg B CX (k + 1) f fd ps sp := by
  obtain ⟨oc, od, dV, kV, doc, pm, an, cdv, ct, osl, rfl, lk, hcd, _, _⟩ := F.ex
  refine ⟨ln, fun {A out s H args us vs Q E} hr e0 hb r hsp => ?_⟩
  have keep : ∀ b o, B.get? b = some o → s.heap.get? b = some o := fun b o e => (e0.bs b o e).1
  have KX : K.In s.heap := e0.mod.kin.keeps keep
  refine codeAny_call_function hr.r.depth (KX _ _ lk) rfl S.co S.gen rfl (PySem.W.codeRec_of KX hcd) (hb _ _ _ _ (wpAny_newFunctionEnv_cells S.kind (fun y hy => ?_) fun env he s1 x1 => ?_))
  · rcases S.par y.1 (List.of_mem_zip (show (y.1, y.2) ∈ ps.zip us from hy)).1 with q | q
    · exact .inl q
    · exact .inr ⟨q, PySem.W.cellsFrom_some _ _ _ (.inl q)⟩
  · subst he
    refine ⟨(e0.mod.nolimit.keeps keep).keeps x1.toInCall.keep, codeAny_func ?_⟩
    obtain ⟨t, ht, hq⟩ := hbody cdv A out s H vs Q E ⟨hr.r.deeper _, hr.g⟩ hsp
    refine wpAny_mono (ht.run [] s1 (start N vs) H _ (inv_start S hr.r.hd e0 (ln hsp) r x1) hq) (fun fl s' hs => ?_) fun e s' hs => hs
    match fl, hs with
    | .ret u, ⟨v, σ', H', J, rv, q⟩ => exact ⟨v, H', J.os, J.bare, J.base, J.hok, rv, q⟩
    | .next, ⟨σ', H', J, q⟩ => exact ⟨.non, H', J.os, J.bare, J.base, J.hok, rfl, q⟩
    | .brk, ⟨_, _, _, q⟩ => exact q.elim
    | .cont, ⟨_, _, _, q⟩ => exact q.elim
end Ly
end
section
set_option Elab.async false
set_option linter.all false
set_option maxRecDepth 100000
set_option maxHeartbeats 1000000
/-! Ly6: calls of defs. -/
namespace Ly
open PySem PySem.Spec PyProof.Rows L2
def permG {α : Type} (p : List Nat) (xs : List α) : List α := p.filterMap fun i => xs[i]?
theorem permG_vals {p : List Nat} {vs : List V} {us : List Value} (r : Vals vs us) : Vals (permG p vs) (permG p us) := by
  induction p with
  | nil => exact .nil
  | cons i p ih =>
    unfold permG
    cases e : vs[i]? with
    | none =>
      rw [List.filterMap_cons_none e, List.filterMap_cons_none (r.none_of e)]
      exact ih
    | some v =>
      obtain ⟨u, h1, h2⟩ := r.get e
      rw [List.filterMap_cons_some e, List.filterMap_cons_some h1]
      exact .cons h2 ih
theorem permG_rep {K : PySem.W.Frag} {xa : Xa} {ρ : List Addr} {H : Hp} {p : List Nat} {ds : List D} {vs : List V} (r : RepVs K xa ρ H ds vs) : RepVs K xa ρ H (permG p ds) (permG p vs) := by
  induction p with
  | nil => exact .nil
  | cons i p ih =>
    unfold permG
    cases e : ds[i]? with
    | none =>
      rw [List.filterMap_cons_none e, List.filterMap_cons_none (r.get_none e)]
      exact ih
    | some v =>
      obtain ⟨u, h1, h2⟩ := r.get e
      rw [List.filterMap_cons_some e, List.filterMap_cons_some h1]
      exact .cons h2 ih
/-- how a call by keywords binds -/
def KwOk (K : PySem.W.Frag) (fd : FuncData) (ps : List Str) (n : Nat) (ks : List Str) (p : List Nat) : Prop :=
  ∀ (s : Shared) (us ws : List Value), K.In s.heap → us.length = n → ws.length = ks.length → BindsTo s fd ⟨us, ks.zip ws⟩ (ps.zip (permG p (us ++ ws)))
structure FnI where
  name : Str
  ps : List Str
  kws : List (Nat × List Str × List Nat)
structure CallOk (X : Cx) (c : List D → AH → R D) (i : FnI) : Prop where
  mg : X.mg i.name = some (.ref (He.ga X.K i.name))
  kp : PySem.W.keepIn X.K (.ref (He.ga X.K i.name)) = true
  fn : ∃ k fd, Rm k X.A ∧ FnG X.prog X.w X.K X.mg X.base (L2.CX X.prog X.w) k (He.ga X.K i.name) fd i.ps (spF X.K i.ps.length c) ∧ Binds X.K fd i.ps [] ∧ ∀ q ∈ i.kws, KwOk X.K fd i.ps q.1 q.2.1 q.2.2
section
variable {X : Cx} {W : WX} {a b c : Expr} {pos p : Pos} {g : Gs} {ca cb cc : CE}
theorem callS_of {K : PySem.W.Frag} {n : Nat} {i : Nat} {σ : St} {H : Hp} {Q : VK} (hn : ∀ ds h, ds.length ≠ n → g.cf i ds h = .bad) (h : semF K none W (ev g (.call i ca)) σ H Q) : tCallS (spF K n (g.cf i)) (WE W) (semAr K none W (ev g ca)) σ H Q := by
  obtain ⟨ρ, σd, h, rl, rh, p⟩ := h
  refine semAr.then rl rh p fun ds h1 ρ1 H1 vs q1 e1 rl1 rh1 rv p1 => ?_
  refine ⟨ρ1, ds, h1, ?_, rh1, rv, p1⟩
  by_cases c : ds.length = n
  · exact c
  · rw [hn _ _ c] at p1; exact p1.elim
theorem e_call0 {f : Nat} {i : FnI} (C : CallOk X (g.cf f) i) (hn : ∀ ds h, ds.length ≠ i.ps.length → g.cf f ds h = .bad) (tk : Takes X W) (hg : Gl X i.name) (hdb : (i.name == ("__debug__" : Str)) = false) :
    E1 X none W (.Call (.Name i.name p) [] [] pos) (ev g (.call f .nil)) := by
  obtain ⟨k, fd, hr, F, hb, _⟩ := C.fn
  refine pe_w (pe_callG0 F hr hg C.mg C.kp hb (fun σ => passAt tk σ) hdb) fun σ H Q h => ?_
  obtain ⟨ρ, σd, h, rl, rh, p⟩ := h
  have p' : Post X.K none (fun c d H' => W c d σ H') ρ H (g.cf f [] h) Q := p
  refine ⟨ρ, [], h, ?_, rh, .nil, p'⟩
  by_cases c : ([] : List D).length = i.ps.length
  · exact c
  · rw [hn _ _ c] at p'; exact p'.elim
theorem e_call {f : Nat} {i : FnI} {e : Expr} {es : List Expr} (C : CallOk X (g.cf f) i) (hn : ∀ ds h, ds.length ≠ i.ps.length → g.cf f ds h = .bad) (tk : Takes X W) (hg : Gl X i.name) (hdb : (i.name == ("__debug__" : Str)) = false) (ha : Ar X none W (e :: es) (ev g ca)) (hs : notStars (e :: es) = true) :
    E1 X none W (.Call (.Name i.name p) (e :: es) [] pos) (ev g (.call f ca)) := by
  obtain ⟨k, fd, hr, F, hb, _⟩ := C.fn
  have hs' : notStar e = true ∧ notStars es = true := by simpa [notStars] using hs
  exact pe_w (pe_callG F hr hg C.mg C.kp hb (fun σ => passAt tk σ) ha hdb (star_one hs'.1 _ _) (star_none hs'.2 _ _)) fun σ H Q h => callS_of hn h
/-! by keywords -/
abbrev Kr (X : Cx) (xa : Xa) (W : WX) (es : List Keyword) (f : Fn) : Prop := PK X es (semAr X.K xa W f)
theorem pk_w {X : Cx} {e : List Keyword} {t t' : TA} (h : PK X e t) (w : ∀ σ H Q, t' σ H Q → t σ H Q) : PK X e t' := ⟨fun pos pins s σ H Q I q => h.run pos pins s σ H Q I (w σ H Q q)⟩
theorem k_nil {xa : Xa} : Kr X xa W [] (ev g .nil) := pk_w pk_nil fun σ H Q ⟨ρ, σd, h, rl, rh, p⟩ => p ρ H [] (List.prefix_refl _) (Ext.refl _) rh .nil
theorem k_cons {xa : Xa} {es : List Keyword} {nm : Option Str} {kpos : Pos} (ha : E1 X xa W a (ev g ca)) (hr : Kr X xa W es (ev g cb)) : Kr X xa W (⟨nm, a, kpos⟩ :: es) (ev g (.cons ca cb)) :=
  pk_w (pk_cons ha hr) fun σ H Q ⟨ρ, σd, h, rl, rh, p⟩ => by
    refine ⟨ρ, σd, h, rl, rh, PostA.bind0 p fun d h1 ρ1 H1 v q1 e1 rh1 rv p1 => ?_⟩
    refine ⟨ρ1, σd, h1, rl.ext q1 e1, rh1, PostA.bindA p1 fun ds h2 ρ2 H2 vs q2 e2 rh2 rvs p2 => ?_⟩
    exact p2 ρ2 H2 (v :: vs) (List.prefix_refl _) (Ext.refl _) rh2 (.cons (rv.ext q2 e2) rvs)
def kwNames : List Keyword → List Str
  | [] => []
  | ⟨some n, _, _⟩ :: r => n :: kwNames r
  | ⟨none, _, _⟩ :: r => kwNames r
def kwAll : List Keyword → Bool
  | [] => true
  | ⟨some _, _, _⟩ :: r => kwAll r
  | ⟨none, _, _⟩ :: _ => false
theorem kw_all {kws : List Keyword} (h : kwAll kws = true) (pos : Pos) (env : Env) : (backToKw pos (keywordEach kws env)).all (·.1.isSome) = true := by
  induction kws with
  | nil => rfl
  | cons k r ih =>
    obtain ⟨n, v, p⟩ := k
    cases n with
    | none => cases h
    | some n =>
      show (true && (backToKw pos (keywordEach r env)).all (·.1.isSome)) = true
      rw [ih h]; rfl
theorem kw_any {kws : List Keyword} (h : kwAll kws = true) (pos : Pos) (env : Env) : (backToKw pos (keywordEach kws env)).any (·.1.isNone) = false := by
  induction kws with
  | nil => rfl
  | cons k r ih =>
    obtain ⟨n, v, p⟩ := k
    cases n with
    | none => cases h
    | some n =>
      show (false || (backToKw pos (keywordEach r env)).any (·.1.isNone)) = false
      rw [ih h]; rfl
theorem kw_names {kws : List Keyword} (h : kwAll kws = true) (pos : Pos) (env : Env) : (backToKw pos (keywordEach kws env)).filterMap (·.1) = kwNames kws := by
  induction kws with
  | nil => rfl
  | cons k r ih =>
    obtain ⟨n, v, p⟩ := k
    cases n with
    | none => cases h
    | some n =>
      show n :: (backToKw pos (keywordEach r env)).filterMap (·.1) = n :: kwNames r
      rw [ih h]
theorem run_fnKS {CX : CXT} {k n : Nat} {f : Addr} {fd : FuncData} {ps ks : List Str} {sp : Sp} {E : St → XK} {q : List Nat} {pins : List (Addr × Obj)} {σ : St} {H : Hp} {s : Shared} {Q : VK} {us ws : List Value} {vs zs : List V} (F : FnG X.prog X.w X.K X.mg X.base CX k f fd ps sp) (hr : Rm k X.A) (hb : KwOk X.K fd ps n ks q) (hx : PassesAt CX X σ (E σ))
    (I : Inv X pins σ H s) (r : Vals vs us) (rz : Vals zs ws) (l1 : vs.length = n) (l2 : zs.length = ks.length) (h : sp (permG q (vs ++ zs)) H Q (E σ)) : wpAny (model X.prog X.w) X.A (call (.ref f) us (ks.zip ws)) (EP X pins σ Q) X.xe s := by
  have r2 := permG_vals (p := q) (r.append rz)
  refine wpAny_call (codeAny_mono (ends_G hx I (F.go hr I.env0 (hb s us ws I.kIn (r.length.symm.trans l1) (rz.length.symm.trans l2)) r2 h)) fun r s' q => ?_)
  match r, q with
  | .error e, q => exact q
  | .ok (.ret u), q => exact q
  | .ok .next, q => exact q.elim
  | .ok .brk, q => exact q.elim
  | .ok .cont, q => exact q.elim
def tCallKS (n m : Nat) (q : List Nat) (sp : Sp) (E : St → XK) (t tk : TA) : TE := fun σ H Q => t σ H fun vs H1 => tk σ H1 fun zs H2 => vs.length = n ∧ zs.length = m ∧ sp (permG q (vs ++ zs)) H2 Q (E σ)
theorem pe_callKS {CX : CXT} {k n : Nat} {f : Addr} {fd : FuncData} {ps : List Str} {sp : Sp} {E : St → XK} {q : List Nat} {x : Str} {e : Expr} {es : List Expr} {kws : List Keyword} {t tk : TA} (F : FnG X.prog X.w X.K X.mg X.base CX k f fd ps sp) (hr : Rm k X.A) (hg : Gl X x) (hm : X.mg x = some (.ref f)) (hk : PySem.W.keepIn X.K (.ref f) = true)
    (hb : KwOk X.K fd ps n (kwNames kws) q) (hx : ∀ σ, PassesAt CX X σ (E σ)) (ha : PA X (e :: es) t) (hkw : PK X kws tk) (hall : kwAll kws = true) (hs : notStars (e :: es) = true)
    (hdb : (x == ("__debug__" : Str)) = false := by decide) : PE X (.Call (.Name x p) (e :: es) kws pos) (tCallKS n (kwNames kws).length q sp E t tk) := by
  refine ⟨fun pins s σ H Q I h => ?_⟩
  refine wpAny_Call_Name_kw (ld_glob I hg hm ?_ hdb)
  have hs' : notStar e = true ∧ notStars es = true := by simpa [notStars] using hs
  refine PySem.W.callWith_KW (h₀ := X.base) I.ok.mod.kin hk (kw_all hall _ _) (thn (ha.run pos pins s σ H _ I h) fun us s1 ⟨vs, H1, I1, r, q1⟩ => ?_) ?_ (star_one hs'.1 _ _)
  · refine thn (hkw.run pos pins s1 σ H1 _ I1 q1) fun ws s2 ⟨zs, H2, I2, rz, l1, l2, q2⟩ => ⟨I2.kIn, ?_⟩
    rw [kw_names hall]
    exact run_fnKS F hr hb (hx σ) I2 r rz l1 l2 q2
  · rw [kw_any hall, star_none hs]; rfl
theorem pe_callKS0 {CX : CXT} {k : Nat} {f : Addr} {fd : FuncData} {ps : List Str} {sp : Sp} {E : St → XK} {q : List Nat} {x : Str} {kws : List Keyword} {tk : TA} (F : FnG X.prog X.w X.K X.mg X.base CX k f fd ps sp) (hr : Rm k X.A) (hg : Gl X x) (hm : X.mg x = some (.ref f)) (hk : PySem.W.keepIn X.K (.ref f) = true)
    (hb : KwOk X.K fd ps 0 (kwNames kws) q) (hx : ∀ σ, PassesAt CX X σ (E σ)) (hkw : PK X kws tk) (hall : kwAll kws = true)
    (hdb : (x == ("__debug__" : Str)) = false := by decide) : PE X (.Call (.Name x p) [] kws pos) (tCallKS 0 (kwNames kws).length q sp E tNil tk) := by
  refine ⟨fun pins s σ H Q I h => ?_⟩
  refine wpAny_Call_Name_kw (ld_glob I hg hm ?_ hdb)
  refine PySem.W.callWith_KW0 (h₀ := X.base) I.ok.mod.kin hk (kw_all hall _ _) (thn (hkw.run pos pins s σ H _ I h) fun ws s2 ⟨zs, H2, I2, rz, l1, l2, q2⟩ => ⟨I2.kIn, ?_⟩) ?_
  · rw [kw_names hall]
    exact run_fnKS (us := []) (vs := []) F hr hb (hx σ) I2 .nil rz l1 l2 q2
  · rw [kw_any hall]; rfl
def argsLen : CE → Option Nat
  | .nil => some 0
  | .cons _ r => (argsLen r).map (· + 1)
  | _ => none
theorem argsLen_ok : ∀ {c : CE} {n : Nat}, argsLen c = some n → ∀ {σ : Sg} {h h1 : AH} {ds : List D}, ev g c σ h = .ok (.tup ds) h1 → ds.length = n := by
  intro c
  induction c with
  | nil =>
    intro n e σ h h1 ds q
    cases e
    have q' : R.ok (D.tup []) h = .ok (.tup ds) h1 := q
    cases q'; rfl
  | cons a r ih1 ih2 =>
    intro n e σ h h1 ds q
    have e' : (argsLen r).map (· + 1) = some n := e
    cases z : argsLen r with
    | none => rw [z] at e'; cases e'
    | some m =>
      rw [z] at e'
      cases e'
      have q' : (ev g a σ h).bind (fun (x : D) (h1 : AH) => (ev g r σ h1).bind fun (y : D) (h2 : AH) => (match y with
        | D.tup ds => R.ok (D.tup (x :: ds)) h2
        | _ => R.bad)) = R.ok (D.tup ds) h1 := q
      cases q1 : ev g a σ h with
      | exc => rw [q1] at q'; cases q'
      | bad => rw [q1] at q'; cases q'
      | ok x h2 =>
        rw [q1] at q'
        have q' : (ev g r σ h2).bind (fun (y : D) (h2 : AH) => (match y with
          | D.tup ds => R.ok (D.tup (x :: ds)) h2
          | _ => R.bad)) = R.ok (D.tup ds) h1 := q'
        cases q2 : ev g r σ h2 with
        | exc => rw [q2] at q'; cases q'
        | bad => rw [q2] at q'; cases q'
        | ok y h3 =>
          rw [q2] at q'
          cases y with
          | tup es =>
            have q' : R.ok (D.tup (x :: es)) h3 = .ok (.tup ds) h1 := q'
            cases q'
            exact congrArg (· + 1) (ih2 z q2)
          | _ => cases q'
  | _ => intro n e; cases e
theorem callk_of {K : PySem.W.Frag} {m f : Nat} {q : List Nat} {ρ : List Addr} {σ : St} {σd : Sg} {H : Hp} {h1 : AH} {ds : List D} {vs : List V} {Q : VK} {nk l : Nat} (hn : ∀ ds h, ds.length ≠ m → g.cf f ds h = .bad) (hl : argsLen cb = some nk) (hlen : ds.length = l)
    (rl : Rel K none ρ H σd σ) (rh : RepH K none ρ H h1) (rv : RepVs K none ρ H ds vs) (p : Post K none (fun c d H' => W c d σ H') ρ H ((ev g cb σd h1).bind fun (y : D) (h2 : AH) => (match y with
      | .tup es => g.cf f (permG q (ds ++ es)) h2
      | _ => .bad)) Q) : semAr K none W (ev g cb) σ H fun zs H2 => vs.length = l ∧ zs.length = nk ∧ spF K m (g.cf f) (permG q (vs ++ zs)) H2 Q (fun c d H' => W c d σ H') := by
  cases e : ev g cb σd h1 with
  | bad => rw [e] at p; exact p.elim
  | exc c fs ws h2 => rw [e] at p; exact ⟨ρ, σd, h1, rl, rh, by rw [e]; exact p⟩
  | ok y h2 =>
    cases y with
    | tup es =>
      have hes := argsLen_ok hl e
      rw [e] at p
      refine ⟨ρ, σd, h1, rl, rh, ?_⟩
      rw [e]
      intro ρ2 H2 zs q2 e2 rh2 rz
      have rr : RepVs K none ρ2 H2 (permG q (ds ++ es)) (permG q (vs ++ zs)) := permG_rep ((rv.ext q2 e2).append rz)
      refine ⟨by rw [← rv.length]; exact hlen, by rw [← rz.length]; exact hes, ρ2, permG q (ds ++ es), h2, ?_, rh2, rr, Post.shift q2 e2 p⟩
      by_cases c : (permG q (ds ++ es)).length = m
      · exact c
      · have p' : Post K none (fun c d H' => W c d σ H') ρ H (g.cf f (permG q (ds ++ es)) h2) Q := p
        rw [hn _ _ c] at p'; exact p'.elim
    | _ => rw [e] at p; exact p.elim
theorem e_callk0 {f : Nat} {i : FnI} {q : List Nat} {kws : List Keyword} (C : CallOk X (g.cf f) i) (hn : ∀ ds h, ds.length ≠ i.ps.length → g.cf f ds h = .bad) (tk : Takes X W) (hg : Gl X i.name) (hdb : (i.name == ("__debug__" : Str)) = false)
    (hk : (0, kwNames kws, q) ∈ i.kws) (hkw : Kr X none W kws (ev g cb)) (hall : kwAll kws = true) (hl : argsLen cb = some (kwNames kws).length) :
    E1 X none W (.Call (.Name i.name p) [] kws pos) (ev g (.callk f q .nil cb)) := by
  obtain ⟨k, fd, hr, F, hb, hkk⟩ := C.fn
  refine pe_w (pe_callKS0 F hr hg C.mg C.kp (hkk _ hk) (fun σ => passAt tk σ) hkw hall hdb) fun σ H Q ⟨ρ, σd, h, rl, rh, pp⟩ => ?_
  exact callk_of (l := 0) hn hl rfl rl rh .nil pp
theorem e_callk {f n : Nat} {i : FnI} {q : List Nat} {e : Expr} {es : List Expr} {kws : List Keyword} (C : CallOk X (g.cf f) i) (hn : ∀ ds h, ds.length ≠ i.ps.length → g.cf f ds h = .bad) (tk : Takes X W) (hg : Gl X i.name) (hdb : (i.name == ("__debug__" : Str)) = false)
    (hk : (n, kwNames kws, q) ∈ i.kws) (ha : Ar X none W (e :: es) (ev g ca)) (hkw : Kr X none W kws (ev g cb)) (hall : kwAll kws = true) (hs : notStars (e :: es) = true)
    (hla : argsLen ca = some n) (hl : argsLen cb = some (kwNames kws).length) :
    E1 X none W (.Call (.Name i.name p) (e :: es) kws pos) (ev g (.callk f q ca cb)) := by
  obtain ⟨k, fd, hr, F, hb, hkk⟩ := C.fn
  refine pe_w (pe_callKS F hr hg C.mg C.kp (hkk _ hk) (fun σ => passAt tk σ) ha hkw hall hs hdb) fun σ H Q ⟨ρ, σd, h, rl, rh, pp⟩ => ?_
  have pp' : Post X.K none (fun c d H' => W c d σ H') ρ H ((ev g ca σd h).bind fun x h1 => match x with
    | .tup ds => (ev g cb σd h1).bind fun y h2 => (match y with
      | .tup es => g.cf f (permG q (ds ++ es)) h2
      | _ => .bad)
    | _ => .bad) Q := pp
  cases e1 : ev g ca σd h with
  | bad => rw [e1] at pp'; exact pp'.elim
  | exc c fs ws h2 => rw [e1] at pp'; exact ⟨ρ, σd, h, rl, rh, by rw [e1]; exact pp'⟩
  | ok y h2 =>
    cases y with
    | tup ds =>
      have hds := argsLen_ok hla e1
      rw [e1] at pp'
      refine ⟨ρ, σd, h, rl, rh, ?_⟩
      rw [e1]
      intro ρ2 H2 vs q2 e2 rh2 rv
      exact callk_of hn hl hds (rl.ext q2 e2) rh2 rv (Post.shift q2 e2 pp')
    | _ => rw [e1] at pp'; exact pp'.elim
end
end Ly
end
section
set_option Elab.async false
set_option linter.all false
set_option maxRecDepth 100000
set_option maxHeartbeats 1000000
/-! Ly7: built-in functions, methods, isinstance, subscripts, slices. -/
namespace Ly
open PySem PySem.Spec PyProof.Rows L2
/-- what a built-in asks of its values -/
def rBi (K : PySem.W.Frag) (xa : Xa) (s : List D → AH → R D) : List V → Hp → VK → Prop := fun vs H Q => ∃ (ρ : List Addr) (h : AH) (ds : List D) (Ex : XK), RepH K xa ρ H h ∧ RepVs K xa ρ H ds vs ∧ Post K xa Ex ρ H (s ds h) Q
def rMt (K : PySem.W.Frag) (xa : Xa) (s : D → List D → AH → R D) : V → List V → Hp → VK → Prop := fun x vs H Q => ∃ (ρ : List Addr) (h : AH) (d : D) (ds : List D) (Ex : XK), RepH K xa ρ H h ∧ RepV K xa ρ H d x ∧ RepVs K xa ρ H ds vs ∧ Post K xa Ex ρ H (s d ds h) Q
section
variable {X : Cx} {xa : Xa}
theorem repVs_bls : ∀ {ds : List D} {bs : List Bool} {vs : List V} {K : PySem.W.Frag} {ρ : List Addr} {H : Hp}, blsOf ds = some bs → RepVs K xa ρ H ds vs → vs = bs.map V.bl := by
  intro ds
  induction ds with
  | nil =>
    intro bs vs K ρ H e r
    cases r
    cases e; rfl
  | cons d ds ih =>
    intro bs vs K ρ H e r
    cases r with
    | cons r1 r2 =>
      unfold blsOf optMap at e
      cases r1 with
      | bl b =>
        cases z : blsOf ds with
        | none => unfold blsOf at z; rw [z] at e; cases e
        | some ys =>
          have z' := z
          unfold blsOf at z'
          rw [z'] at e
          cases e
          rw [ih z r2]; rfl
      | _ => cases e
theorem repVs_ints : ∀ {ds : List D} {bs : List Int} {vs : List V} {K : PySem.W.Frag} {ρ : List Addr} {H : Hp}, intsOf ds = some bs → RepVs K xa ρ H ds vs → vs = bs.map V.int := by
  intro ds
  induction ds with
  | nil =>
    intro bs vs K ρ H e r
    cases r
    cases e; rfl
  | cons d ds ih =>
    intro bs vs K ρ H e r
    cases r with
    | cons r1 r2 =>
      unfold intsOf optMap at e
      cases r1 with
      | int b =>
        cases z : intsOf ds with
        | none => unfold intsOf at z; rw [z] at e; cases e
        | some ys =>
          have z' := z
          unfold intsOf at z'
          rw [z'] at e
          cases e
          rw [ih z r2]; rfl
      | _ => cases e
theorem CallR_w {f : Value} {r r' : List V → Hp → VK → Prop} (h : CallR X f r) (w : ∀ xs H Q, r' xs H Q → r xs H Q) : CallR X f r' := fun pins s σ H xs us Q I rv q => h pins s σ H xs us Q I rv (w _ _ _ q)
theorem MtR_w {id : String} {r r' : V → List V → Hp → VK → Prop} (h : MtR X id r) (w : ∀ x xs H Q, r' x xs H Q → r x xs H Q) : MtR X id r' := fun pins s σ H x xs v us Q I rv rvs q => h pins s σ H x xs v us Q I rv rvs (w _ _ _ _ q)
theorem repVs_one {K : PySem.W.Frag} {ρ : List Addr} {H : Hp} {d : D} {vs : List V} (r : RepVs K xa ρ H [d] vs) : ∃ v, vs = [v] ∧ RepV K xa ρ H d v := by
  cases r with
  | cons a b => cases b; exact ⟨_, rfl, a⟩
theorem repVs_two {K : PySem.W.Frag} {ρ : List Addr} {H : Hp} {d e : D} {vs : List V} (r : RepVs K xa ρ H [d, e] vs) : ∃ v w, vs = [v, w] ∧ RepV K xa ρ H d v ∧ RepV K xa ρ H e w := by
  cases r with
  | cons a b =>
    obtain ⟨w, rfl, q⟩ := repVs_one b
    exact ⟨_, _, rfl, a, q⟩
theorem b_len : CallR X (.builtin "len") (rBi X.K xa (biS .len)) := CallR_w call_len_seq fun vs H Q ⟨ρ, h, ds, Ex, rh, rv, p⟩ => by
  match ds, rv, p with
  | [d], rv, p =>
    obtain ⟨v, rfl, r⟩ := repVs_one rv
    have p' : Post X.K xa Ex ρ H (match seqOf h d with
      | some xs => .ok (.int xs.length) h
      | none => .bad) Q := p
    cases q : seqOf h d with
    | none => rw [q] at p'; exact p'.elim
    | some xs =>
      rw [q] at p'
      obtain ⟨a, ys, rfl, hs, r2⟩ := seqOf_sq rh r q
      refine ⟨a, ys, rfl, hs, ?_⟩
      rw [← r2.length]
      exact Post.okv p' rh (.int _)
  | [], _, p => exact p.elim
  | [_, _], _, p => exact p.elim
  | _ :: _ :: _ :: _, _, p => exact p.elim
theorem b_int : CallR X (.type "int") (rBi X.K xa (biS .int)) := CallR_w call_int1 fun vs H Q ⟨ρ, h, ds, Ex, rh, rv, p⟩ => by
  match ds, rv, p with
  | [d], rv, p =>
    obtain ⟨v, rfl, r⟩ := repVs_one rv
    cases r with
    | int i => exact .inl ⟨i, rfl, Post.okv p rh (.int _)⟩
    | bl b => exact .inr ⟨b, rfl, Post.okv p rh (.int _)⟩
    | _ => exact p.elim
  | [], _, p => exact p.elim
  | [_, _], _, p => exact p.elim
  | _ :: _ :: _ :: _, _, p => exact p.elim
theorem b_divmod : CallR X (.builtin "divmod") (rBi X.K xa (biS .divmod)) := CallR_w call_divmod fun vs H Q ⟨ρ, h, ds, Ex, rh, rv, p⟩ => by
  match ds, rv, p with
  | [d, e], rv, p =>
    obtain ⟨v, w, rfl, r1, r2⟩ := repVs_two rv
    cases r1 with
    | int i =>
      cases r2 with
      | int j =>
        have p' : Post X.K xa Ex ρ H (if 0 < j ∧ j < 1073741824 then .ok (.tup [.int (i / j), .int (i % j)]) h else .bad) Q := p
        by_cases c : 0 < j ∧ j < 1073741824
        · rw [if_pos c] at p'
          exact ⟨i, j, rfl, c, fun q hq => p'.newT rh hq (.cons (.int _) (.cons (.int _) .nil))⟩
        · rw [if_neg c] at p'; exact p'.elim
      | _ => exact p.elim
    | _ => exact p.elim
  | [], _, p => exact p.elim
  | [_], _, p => exact p.elim
  | _ :: _ :: _ :: _, _, p => exact p.elim
theorem b_list : CallR X (.type "list") (rBi X.K xa (biS .list)) := CallR_w call_list_of fun vs H Q ⟨ρ, h, ds, Ex, rh, rv, p⟩ => by
  match ds, rv, p with
  | [d], rv, p =>
    obtain ⟨v, rfl, r⟩ := repVs_one rv
    have p' : Post X.K xa Ex ρ H (match seqOf h d with
      | some xs => .ok (.ref h.length) (h ++ [.lst xs])
      | none => .bad) Q := p
    cases q : seqOf h d with
    | none => rw [q] at p'; exact p'.elim
    | some xs =>
      rw [q] at p'
      obtain ⟨a, ys, rfl, hs, r2⟩ := seqOf_sq rh r q
      exact ⟨a, ys, rfl, hs, fun l hl => p'.new rh hl r2⟩
  | [], _, p => exact p.elim
  | [_, _], _, p => exact p.elim
  | _ :: _ :: _ :: _, _, p => exact p.elim
theorem b_tuple : CallR X (.type "tuple") (rBi X.K xa (biS .tuple)) := CallR_w call_tuple_of fun vs H Q ⟨ρ, h, ds, Ex, rh, rv, p⟩ => by
  match ds, rv, p with
  | [d], rv, p =>
    obtain ⟨v, rfl, r⟩ := repVs_one rv
    have p' : Post X.K xa Ex ρ H (match seqOf h d with
      | some xs => .ok (.tup xs) h
      | none => .bad) Q := p
    cases q : seqOf h d with
    | none => rw [q] at p'; exact p'.elim
    | some xs =>
      rw [q] at p'
      obtain ⟨a, ys, rfl, hs, r2⟩ := seqOf_sq rh r q
      rcases hs with hs | hs
      · exact ⟨a, ys, rfl, .inl ⟨hs, fun l hl => p'.newT rh hl r2⟩⟩
      · exact ⟨a, ys, rfl, .inr ⟨hs, Post.okv p' rh (.tup hs r2)⟩⟩
  | [], _, p => exact p.elim
  | [_, _], _, p => exact p.elim
  | _ :: _ :: _ :: _, _, p => exact p.elim
theorem b_any (hc : X.calm = true) : CallR X (.builtin "any") (rBi X.K xa (biS .any)) := CallR_w (cr_any hc) fun vs H Q ⟨ρ, h, ds, Ex, rh, rv, p⟩ => by
  match ds, rv, p with
  | [d], rv, p =>
    obtain ⟨v, rfl, r⟩ := repVs_one rv
    cases r with
    | @ref n a ha =>
      have p' : Post X.K xa Ex ρ H (match h[n]? with
        | some (.lst xs) => (match blsOf xs with
          | some bs => okB (bs.any id) h
          | none => .bad)
        | _ => .bad) Q := p
      cases q : h[n]? with
      | none => rw [q] at p'; exact p'.elim
      | some ao =>
        cases ao with
        | dct => rw [q] at p'; exact p'.elim
        | lst xs =>
          rw [q] at p'
          dsimp only at p'
          cases q2 : blsOf xs with
          | none => rw [q2] at p'; exact p'.elim
          | some bs =>
            rw [q2] at p'
            obtain ⟨ys, h1, r2⟩ := rh.lst ha q
            have e := repVs_bls q2 r2
            subst e
            exact ⟨a, bs, rfl, SqL.of h1, Post.okv p' rh (.bl _)⟩
    | _ => exact p.elim
  | [], _, p => exact p.elim
  | [_, _], _, p => exact p.elim
  | _ :: _ :: _ :: _, _, p => exact p.elim
theorem b_all (hc : X.calm = true) : CallR X (.builtin "all") (rBi X.K xa (biS .all)) := CallR_w (cr_all hc) fun vs H Q ⟨ρ, h, ds, Ex, rh, rv, p⟩ => by
  match ds, rv, p with
  | [d], rv, p =>
    obtain ⟨v, rfl, r⟩ := repVs_one rv
    cases r with
    | @ref n a ha =>
      have p' : Post X.K xa Ex ρ H (match h[n]? with
        | some (.lst xs) => (match blsOf xs with
          | some bs => okB (bs.all id) h
          | none => .bad)
        | _ => .bad) Q := p
      cases q : h[n]? with
      | none => rw [q] at p'; exact p'.elim
      | some ao =>
        cases ao with
        | dct => rw [q] at p'; exact p'.elim
        | lst xs =>
          rw [q] at p'
          dsimp only at p'
          cases q2 : blsOf xs with
          | none => rw [q2] at p'; exact p'.elim
          | some bs =>
            rw [q2] at p'
            obtain ⟨ys, h1, r2⟩ := rh.lst ha q
            have e := repVs_bls q2 r2
            subst e
            exact ⟨a, bs, rfl, SqL.of h1, Post.okv p' rh (.bl _)⟩
    | _ => exact p.elim
  | [], _, p => exact p.elim
  | [_, _], _, p => exact p.elim
  | _ :: _ :: _ :: _, _, p => exact p.elim
theorem b_sum (hc : X.calm = true) : CallR X (.builtin "sum") (rBi X.K xa (biS .sum)) := CallR_w (cr_sum hc) fun vs H Q ⟨ρ, h, ds, Ex, rh, rv, p⟩ => by
  match ds, rv, p with
  | [d], rv, p =>
    obtain ⟨v, rfl, r⟩ := repVs_one rv
    cases r with
    | @ref n a ha =>
      have p' : Post X.K xa Ex ρ H (match h[n]? with
        | some (.lst xs) => (match intsOf xs with
          | some bs => .ok (.int bs.sum) h
          | none => .bad)
        | _ => .bad) Q := p
      cases q : h[n]? with
      | none => rw [q] at p'; exact p'.elim
      | some ao =>
        cases ao with
        | dct => rw [q] at p'; exact p'.elim
        | lst xs =>
          rw [q] at p'
          dsimp only at p'
          cases q2 : intsOf xs with
          | none => rw [q2] at p'; exact p'.elim
          | some bs =>
            rw [q2] at p'
            obtain ⟨ys, h1, r2⟩ := rh.lst ha q
            have e := repVs_ints q2 r2
            subst e
            exact ⟨a, bs, rfl, SqL.of h1, Post.okv p' rh (.int _)⟩
    | _ => exact p.elim
  | [], _, p => exact p.elim
  | [_, _], _, p => exact p.elim
  | _ :: _ :: _ :: _, _, p => exact p.elim
theorem b_abs : CallR X (.builtin "abs") (rBi X.K xa (biS .abs)) := CallR_w call_abs fun vs H Q ⟨ρ, h, ds, Ex, rh, rv, p⟩ => by
  match ds, rv, p with
  | [d], rv, p =>
    obtain ⟨v, rfl, r⟩ := repVs_one rv
    cases r with
    | int i => exact ⟨i, rfl, Post.okv p rh (.int _)⟩
    | _ => exact p.elim
  | [], _, p => exact p.elim
  | [_, _], _, p => exact p.elim
  | _ :: _ :: _ :: _, _, p => exact p.elim
theorem b_max2 (hc : X.calm = true) : CallR X (.builtin "max") (rBi X.K xa (biS .max2)) := CallR_w (call_max2 hc) fun vs H Q ⟨ρ, h, ds, Ex, rh, rv, p⟩ => by
  match ds, rv, p with
  | [d, e], rv, p =>
    obtain ⟨v, w, rfl, r1, r2⟩ := repVs_two rv
    cases r1 with
    | int i =>
      cases r2 with
      | int j => exact ⟨i, j, rfl, Post.okv p rh (.int _)⟩
      | _ => exact p.elim
    | _ => exact p.elim
  | [], _, p => exact p.elim
  | [_], _, p => exact p.elim
  | _ :: _ :: _ :: _, _, p => exact p.elim
theorem b_min2 (hc : X.calm = true) : CallR X (.builtin "min") (rBi X.K xa (biS .min2)) := CallR_w (call_min2 hc) fun vs H Q ⟨ρ, h, ds, Ex, rh, rv, p⟩ => by
  match ds, rv, p with
  | [d, e], rv, p =>
    obtain ⟨v, w, rfl, r1, r2⟩ := repVs_two rv
    cases r1 with
    | int i =>
      cases r2 with
      | int j => exact ⟨i, j, rfl, Post.okv p rh (.int _)⟩
      | _ => exact p.elim
    | _ => exact p.elim
  | [], _, p => exact p.elim
  | [_], _, p => exact p.elim
  | _ :: _ :: _ :: _, _, p => exact p.elim
/-! ### a built-in's call -/
variable {W : WX} {a b c e : Expr} {es : List Expr} {pos p : Pos} {g : Gs} {ca cb cc : CE}
theorem bi_of {K : PySem.W.Frag} {bi : Bi} {σ : St} {H : Hp} {Q : VK} (h : semF K xa W (ev g (.bi bi ca)) σ H Q) : tCB (rBi K xa (biS bi)) (semAr K xa W (ev g ca)) σ H Q := by
  obtain ⟨ρ, σd, h, rl, rh, p⟩ := h
  exact semAr.then rl rh p fun ds h1 ρ1 H1 vs q1 e1 rl1 rh1 rv p1 => ⟨ρ1, h1, ds, _, rh1, rv, p1⟩
theorem e_biB {bi : Bi} {x : Str} {id : String} (hc : CallR X (.builtin id) (rBi X.K xa (biS bi))) (hg : Gl X x) (hm : X.mg x = none) (hv : bootBuiltins x = some (.builtin id)) (hn : x ≠ "__name__") (hdb : (x == ("__debug__" : Str)) = false) (ha : Ar X xa W (e :: es) (ev g ca)) (hs : notStars (e :: es) = true) :
    E1 X xa W (.Call (.Name x p) (e :: es) [] pos) (ev g (.bi bi ca)) := by
  have hs' : notStar e = true ∧ notStars es = true := by simpa [notStars] using hs
  exact pe_w (pe_callB hc hg hm hv ha hn hdb (star_one hs'.1 _ _) (star_none hs'.2 _ _)) fun σ H Q h => bi_of h
theorem e_biT {bi : Bi} {x : Str} {id : String} (hc : CallR X (.type id) (rBi X.K xa (biS bi))) (hg : Gl X x) (hm : X.mg x = none) (hv : bootBuiltins x = some (.type id)) (hn : x ≠ "__name__") (hdb : (x == ("__debug__" : Str)) = false) (ha : Ar X xa W (e :: es) (ev g ca)) (hs : notStars (e :: es) = true) :
    E1 X xa W (.Call (.Name x p) (e :: es) [] pos) (ev g (.bi bi ca)) := by
  have hs' : notStar e = true ∧ notStars es = true := by simpa [notStars] using hs
  exact pe_w (pe_callTy hc hg hm hv ha hn hdb (star_one hs'.1 _ _) (star_none hs'.2 _ _)) fun σ H Q h => bi_of h
/-! ### methods of lists -/
theorem rMt_lst {K : PySem.W.Frag} {m : Mth} {x : V} {vs : List V} {H : Hp} {Q : VK} (h : rMt K xa (mthS m) x vs H Q) : ∃ (ρ : List Addr) (h : AH) (n : Nat) (a : Addr) (xs : List D) (ys : List V) (ds : List D) (Ex : XK), x = .ref a ∧ RepH K xa ρ H h ∧ ρ[n]? = some a ∧ h[n]? = some (.lst xs) ∧ H a = some (.lst ys) ∧ RepVs K xa ρ H xs ys ∧ RepVs K xa ρ H ds vs ∧ Post K xa Ex ρ H (mthS m (.ref n) ds h) Q := by
  obtain ⟨ρ, h, d, ds, Ex, rh, r, rv, p⟩ := h
  cases r with
  | @ref n a ha =>
    cases q : h[n]? with
    | none =>
      have p' : Post K xa Ex ρ H (match h[n]? with
        | some (.lst xs) => _
        | _ => .bad) Q := p
      rw [q] at p'; exact p'.elim
    | some ao =>
      cases ao with
      | dct =>
        have p' : Post K xa Ex ρ H (match h[n]? with
          | some (.lst xs) => _
          | _ => .bad) Q := p
        rw [q] at p'; exact p'.elim
      | lst xs =>
        obtain ⟨ys, h1, r2⟩ := rh.lst ha q
        exact ⟨ρ, h, n, a, xs, ys, ds, Ex, rfl, rh, ha, q, h1, r2, rv, p⟩
  | _ => exact p.elim
theorem m_append : MtR X "list.append" (rMt X.K xa (mthS .append)) := MtR_w mt_append fun x vs H Q h => by
  obtain ⟨ρ, h, n, a, xs, ys, ds, Ex, rfl, rh, ha, hn, hH, r, rv, p⟩ := rMt_lst h
  unfold mthS at p
  simp only [hn] at p
  match ds, rv, p with
  | [d], rv, p =>
    obtain ⟨v, rfl, r1⟩ := repVs_one rv
    dsimp only [mth1] at p
    by_cases c : xs.length < 16777216
    · rw [if_pos c] at p
      exact ⟨a, ys, v, rfl, rfl, hH, by rw [sizeLine_eq, ← r.length]; exact c, p.write rh ha (r.append (.one r1)) .non⟩
    · rw [if_neg c] at p; exact p.elim
  | [], _, p => exact p.elim
  | [_, _], _, p => exact p.elim
  | _ :: _ :: _ :: _, _, p => exact p.elim
theorem m_pop0 : MtR X "list.pop" (fun x vs H Q => vs = [] ∧ rMt X.K xa (mthS .pop) x vs H Q) := MtR_w mt_pop fun x vs H Q ⟨hv, h⟩ => by
  obtain ⟨ρ, h, n, a, xs, ys, ds, Ex, rfl, rh, ha, hn, hH, r, rv, p⟩ := rMt_lst h
  subst hv
  unfold mthS at p
  simp only [hn] at p
  cases rv
  dsimp only [mth0] at p
  cases q : xs[xs.length - 1]? with
  | none => rw [q] at p; exact p.elim
  | some d =>
    rw [q] at p
    obtain ⟨v, h1, r1⟩ := r.get q
    exact ⟨a, ys, v, rfl, rfl, hH, by rw [← r.length]; exact h1, p.write rh ha r.dropLast r1⟩
theorem ixN_seqI {n k : Nat} {i : Int} (h : ixN n i = some k) : seqIndex? i n = some k := (ixN_seq h).1
theorem m_pop1 : MtR X "list.pop" (fun x vs H Q => (∃ v, vs = [v]) ∧ rMt X.K xa (mthS .pop) x vs H Q) := MtR_w mt_popAt fun x vs H Q ⟨⟨v0, hv⟩, h⟩ => by
  obtain ⟨ρ, h, n, a, xs, ys, ds, Ex, rfl, rh, ha, hn, hH, r, rv, p⟩ := rMt_lst h
  subst hv
  unfold mthS at p
  simp only [hn] at p
  match ds, rv, p with
  | [d], rv, p =>
    obtain ⟨v, e, r1⟩ := repVs_one rv
    cases e
    cases r1 with
    | int i =>
      dsimp only [mth1] at p
      by_cases c : -9223372036854775808 ≤ i ∧ i < 9223372036854775808
      · rw [if_pos c] at p
        cases q : ixOf xs.length i with
        | none => rw [q] at p; exact p.elim
        | some k =>
          rw [q] at p
          dsimp only at p
          cases q2 : xs[k]? with
          | none => rw [q2] at p; exact p.elim
          | some d =>
            rw [q2] at p
            obtain ⟨v, h1, r1⟩ := r.get q2
            have q' : ixN xs.length i = some k := q
            exact ⟨a, ys, i, k, v, rfl, rfl, hH, c.1, c.2, by rw [← r.length]; exact ixN_seqI q', h1, p.write rh ha (r.eraseIdx k) r1⟩
      · rw [if_neg c] at p; exact p.elim
    | _ => exact p.elim
  | [], rv, _ => cases rv
  | _ :: _ :: _, rv, _ => cases rv with | cons _ t => cases t
theorem m_reverse : MtR X "list.reverse" (rMt X.K xa (mthS .reverse)) := MtR_w mt_reverse fun x vs H Q h => by
  obtain ⟨ρ, h, n, a, xs, ys, ds, Ex, rfl, rh, ha, hn, hH, r, rv, p⟩ := rMt_lst h
  unfold mthS at p
  simp only [hn] at p
  match ds, rv, p with
  | [], rv, p =>
    cases rv
    exact ⟨a, ys, rfl, rfl, hH, p.write rh ha r.reverse .non⟩
  | [_], _, p => exact p.elim
  | _ :: _ :: _, _, p => exact p.elim
theorem m_extend : MtR X "list.extend" (rMt X.K xa (mthS .extend)) := by
  intro pins s σ H x vs v us Q I rx rvs ⟨ρ0, h0, d0, ds0, Ex0, hh0⟩
  have h : rMt X.K xa (mthS .extend) x vs H Q := ⟨ρ0, h0, d0, ds0, Ex0, hh0⟩
  obtain ⟨ρ, hh, n, a, xs, ys, ds, Ex, rfl, rh, ha, hn, hH, r, rv, p⟩ := rMt_lst h
  unfold mthS at p
  simp only [hn] at p
  match ds, rv, p with
  | [d], rv, p =>
    obtain ⟨v', rfl, r1⟩ := repVs_one rv
    cases r1 with
    | @ref m b hb =>
      dsimp only [mth1] at p
      cases q : hh[m]? with
      | none => rw [q] at p; exact p.elim
      | some ao =>
        cases ao with
        | dct => rw [q] at p; exact p.elim
        | lst zs =>
          rw [q] at p
          dsimp only at p
          by_cases c : xs.length + zs.length ≤ 16777216
          · rw [if_pos c] at p
            obtain ⟨ws, h2, r2⟩ := rh.lst hb q
            exact mt_extend pins s σ H _ _ v us Q I rx rvs ⟨a, b, ys, ws, rfl, rfl, hH, h2, by rw [sizeLine_eq, ← r.length, ← r2.length]; exact c, p.write rh ha (r.append r2) .non⟩
          · rw [if_neg c] at p; exact p.elim
    | @tup zs ws b sq r2 =>
      dsimp only [mth1] at p
      by_cases c : xs.length + zs.length ≤ 16777216
      · rw [if_pos c] at p
        exact mt_extT pins s σ H _ _ v us Q I rx rvs ⟨a, b, ys, ws, rfl, rfl, hH, sq, by rw [sizeLine_eq, ← r.length, ← r2.length]; exact c, p.write rh ha (r.append r2) .non⟩
      · rw [if_neg c] at p; exact p.elim
    | _ => exact p.elim
  | [], _, p => exact p.elim
  | [_, _], _, p => exact p.elim
  | _ :: _ :: _ :: _, _, p => exact p.elim
theorem isLst_ty {K : PySem.W.Frag} {ρ : List Addr} {H : Hp} {h : AH} {d : D} {v : V} (rh : RepH K xa ρ H h) (r : RepV K xa ρ H d v) (e : isLst h d = true) : tyV K "list" v H := by
  cases r with
  | @ref n a ha =>
    have e' : (match h[n]? with
      | some (.lst _) => true
      | _ => false) = true := e
    cases q : h[n]? with
    | none => rw [q] at e'; cases e'
    | some ao =>
      rw [q] at e'
      cases ao with
      | dct => cases e'
      | lst xs =>
        obtain ⟨ys, h1, _⟩ := rh.lst ha q
        exact .inl ⟨rfl, ys, SqL.of h1⟩
  | _ => cases e
theorem mth_of {m : Mth} {σ : St} {H : Hp} {Q : VK} {r : V → List V → Hp → VK → Prop} (hr : ∀ x vs H Q, rMt X.K xa (mthS m) x vs H Q → r x vs H Q) (h : semF X.K xa W (ev g (.mth m ca cb)) σ H Q) : tBM X.K "list" r (semF X.K xa W (ev g ca)) (semAr X.K xa W (ev g cb)) σ H Q := by
  obtain ⟨ρ, σd, h, rl, rh, p⟩ := h
  refine semF.then rl rh p fun d h1 ρ1 H1 v q1 e1 rl1 rh1 rv p1 => ?_
  by_cases c : isLst h1 d = true
  · rw [if_pos c] at p1
    refine ⟨isLst_ty rh1 rv c, semAr.then rl1 rh1 p1 fun ds h2 ρ2 H2 vs q2 e2 rl2 rh2 rvs p2 => ?_⟩
    exact hr _ _ _ _ ⟨ρ2, h2, d, ds, _, rh2, rv.ext q2 e2, rvs, p2⟩
  · rw [if_neg c] at p1; exact p1.elim
theorem mth_of0 {m : Mth} {σ : St} {H : Hp} {Q : VK} {r : V → List V → Hp → VK → Prop} (hr : ∀ x H Q, rMt X.K xa (mthS m) x [] H Q → r x [] H Q) (h : semF X.K xa W (ev g (.mth m ca .nil)) σ H Q) : tBM0 X.K "list" r (semF X.K xa W (ev g ca)) σ H Q := by
  obtain ⟨ρ, σd, h, rl, rh, p⟩ := h
  refine semF.then rl rh p fun d h1 ρ1 H1 v q1 e1 rl1 rh1 rv p1 => ?_
  by_cases c : isLst h1 d = true
  · rw [if_pos c] at p1
    exact ⟨isLst_ty rh1 rv c, hr _ _ _ ⟨ρ1, h1, d, [], _, rh1, rv, .nil, p1⟩⟩
  · rw [if_neg c] at p1; exact p1.elim
theorem few_of {a : Expr} {env : Env} {cpos : Pos} (hs : notStar a = true) : ((backTo cpos (starEach [a] env)).all (fun x => !x.1) && (backToKw cpos (keywordEach [] env)).all (fun x => x.1.isSome)
      && decide (([a] : List Expr).length + ([] : List Keyword).length + (if ([] : List Keyword).isEmpty then 0 else 1) < 30)) = true := by
  rw [star_one hs]; rfl
theorem e_append {apos : Pos} (ha : E1 X xa W a (ev g ca)) (hb : Ar X xa W [b] (ev g cb)) (hba : plainBase a = true) (hs : notStar b = true) (hl : (apos.endLine == pos.line) = true) : E1 X xa W (.Call (.Attribute a "append" apos) [b] [] pos) (ev g (.mth .append ca cb)) :=
  pe_w (pe_bm PySem.F.plainAttrs_list PySem.F.slot_list_append PySem.F.type_list_append m_append ha hb (base_of hba _ _) (few_of hs) hl (star_one hs _ _) rfl) fun σ H Q h => mth_of (fun _ _ _ _ q => q) h
theorem e_extend {apos : Pos} (ha : E1 X xa W a (ev g ca)) (hb : Ar X xa W [b] (ev g cb)) (hba : plainBase a = true) (hs : notStar b = true) (hl : (apos.endLine == pos.line) = true) : E1 X xa W (.Call (.Attribute a "extend" apos) [b] [] pos) (ev g (.mth .extend ca cb)) :=
  pe_w (pe_bm PySem.F.plainAttrs_list PySem.F.slot_list_extend PySem.F.type_list_extend m_extend ha hb (base_of hba _ _) (few_of hs) hl (star_one hs _ _) rfl) fun σ H Q h => mth_of (fun _ _ _ _ q => q) h
theorem e_pop1 {apos : Pos} (ha : E1 X xa W a (ev g ca)) (hb : Ar X xa W [b] (ev g (.cons cb .nil))) (hba : plainBase a = true) (hs : notStar b = true) (hl : (apos.endLine == pos.line) = true) : E1 X xa W (.Call (.Attribute a "pop" apos) [b] [] pos) (ev g (.mth .pop ca (.cons cb .nil))) :=
  pe_w (pe_bm PySem.F.plainAttrs_list PySem.F.slot_list_pop PySem.F.type_list_pop m_pop1 ha hb (base_of hba _ _) (few_of hs) hl (star_one hs _ _) rfl) fun σ H Q h => by
    obtain ⟨ρ, σd, h, rl, rh, p⟩ := h
    refine semF.then rl rh p fun d h1 ρ1 H1 v q1 e1 rl1 rh1 rv p1 => ?_
    by_cases c : isLst h1 d = true
    · rw [if_pos c] at p1
      refine ⟨isLst_ty rh1 rv c, ?_⟩
      have hlen : argsLen (.cons cb .nil) = some 1 := rfl
      cases e : ev g (.cons cb .nil) σd h1 with
      | bad => rw [e] at p1; exact p1.elim
      | exc cc fs ws h2 => rw [e] at p1; exact ⟨ρ1, σd, h1, rl1, rh1, by rw [e]; exact p1⟩
      | ok y h2 =>
        cases y with
        | tup es =>
          have hes := argsLen_ok hlen e
          rw [e] at p1
          refine ⟨ρ1, σd, h1, rl1, rh1, ?_⟩
          rw [e]
          intro ρ2 H2 zs q2 e2 rh2 rz
          refine ⟨?_, ρ2, h2, d, es, _, rh2, rv.ext q2 e2, rz, Post.shift q2 e2 p1⟩
          have l := rz.length
          rw [hes] at l
          match zs, l with
          | [z], _ => exact ⟨z, rfl⟩
        | _ => rw [e] at p1; exact p1.elim
    · rw [if_neg c] at p1; exact p1.elim
theorem e_pop0 {apos : Pos} (ha : E1 X xa W a (ev g ca)) (hba : plainBase a = true) (hl : (apos.endLine == pos.line) = true) : E1 X xa W (.Call (.Attribute a "pop" apos) [] [] pos) (ev g (.mth .pop ca .nil)) :=
  pe_w (pe_bm0 PySem.F.plainAttrs_list PySem.F.slot_list_pop PySem.F.type_list_pop m_pop0 ha (base_of hba _ _) hl) fun σ H Q h => mth_of0 (fun _ _ _ q => ⟨rfl, q⟩) h
theorem e_reverse {apos : Pos} (ha : E1 X xa W a (ev g ca)) (hba : plainBase a = true) (hl : (apos.endLine == pos.line) = true) : E1 X xa W (.Call (.Attribute a "reverse" apos) [] [] pos) (ev g (.mth .reverse ca .nil)) :=
  pe_w (pe_bm0 PySem.F.plainAttrs_list PySem.F.slot_list_reverse PySem.F.type_list_reverse m_reverse ha (base_of hba _ _) hl) fun σ H Q h => mth_of0 (fun _ _ _ q => q) h
/-! ### subscripts -/
theorem ix_get : IxR X (rB X.K xa getS) := by
  intro value slice pins s σ H x y v u Q I rx ry ⟨ρ, h, d, e, Ex, rh, rd, re, p⟩ hsub
  cases re with
  | int i =>
    have p' : Post X.K xa Ex ρ H (match seqOf h d with
      | some xs => (match (ixOf xs.length i).bind fun j => xs[j]? with
        | some x => .ok x h
        | none => .bad)
      | none => .bad) Q := p
    cases q : seqOf h d with
    | none => rw [q] at p'; exact p'.elim
    | some xs =>
      rw [q] at p'
      dsimp only at p'
      obtain ⟨a, ys, rfl, hs, r2⟩ := seqOf_sq rh rd q
      cases q2 : (ixOf xs.length i).bind fun j => xs[j]? with
      | none => rw [q2] at p'; exact p'.elim
      | some z =>
        rw [q2] at p'
        have hat : ∃ w, atI ys i = some w ∧ RepV X.K xa ρ H z w := by
          unfold atI
          have q3 : ((ixN xs.length i).bind fun j => xs[j]?) = some z := q2
          cases q4 : ixN xs.length i with
          | none => rw [q4] at q3; cases q3
          | some j =>
            rw [q4] at q3
            obtain ⟨w, h1, h2⟩ := r2.get (show xs[j]? = some z from q3)
            exact ⟨w, by rw [← r2.length, q4]; exact h1, h2⟩
        obtain ⟨w, h1, h2⟩ := hat
        rcases hs with hs | hs
        · exact ix_list value slice pins s σ H _ _ v u Q I rx ry ⟨a, ys, i, w, rfl, rfl, hs, h1, Post.okv p' rh h2⟩ hsub
        · exact ix_tup value slice pins s σ H _ _ v u Q I rx ry ⟨a, ys, i, w, rfl, rfl, hs, h1, Post.okv p' rh h2⟩ hsub
  | _ => exact p.elim
theorem e_sub (ha : E1 X xa W a (ev g ca)) (hb : E1 X xa W b (ev g cb)) (hs : notSlice b = true) : E1 X xa W (.Subscript a b pos) (ev g (.sub ca cb)) :=
  pe_w (pe_ix ix_get ha hb (ix_of hs)) fun σ H Q h => rB_of h
end
end Ly
end
section
set_option Elab.async false
set_option linter.all false
set_option maxRecDepth 100000
set_option maxHeartbeats 2000000
/-! LyC: more built-ins: repr, max and min of a list, sorted. -/
namespace Ly
open PySem PySem.Spec PyProof.Rows L2
theorem max_is : ∀ (is : List Int) (i m : Int), m ∈ i :: is → (∀ y ∈ i :: is, y ≤ m) → is.foldl max i = m
  | [], i, m, h1, _ => by simp at h1; simp [h1]
  | j :: is, i, m, h1, h2 => by
    rw [List.foldl_cons]
    have hi := h2 i (by simp)
    have hj := h2 j (by simp)
    refine max_is is (max i j) m ?_ fun y hy => ?_
    · rcases List.mem_cons.mp h1 with e | e
      · subst e
        rw [Int.max_eq_left hj]; simp
      · rcases List.mem_cons.mp e with e | e
        · subst e
          rw [Int.max_eq_right hi]; simp
        · exact List.mem_cons_of_mem _ e
    · rcases List.mem_cons.mp hy with e | e
      · subst e
        exact Int.max_le.mpr ⟨hi, hj⟩
      · exact h2 y (List.mem_cons_of_mem _ (List.mem_cons_of_mem _ e))
theorem min_is : ∀ (is : List Int) (i m : Int), m ∈ i :: is → (∀ y ∈ i :: is, m ≤ y) → is.foldl min i = m
  | [], i, m, h1, _ => by simp at h1; simp [h1]
  | j :: is, i, m, h1, h2 => by
    rw [List.foldl_cons]
    have hi := h2 i (by simp)
    have hj := h2 j (by simp)
    refine min_is is (min i j) m ?_ fun y hy => ?_
    · rcases List.mem_cons.mp h1 with e | e
      · subst e
        rw [Int.min_eq_left hj]; simp
      · rcases List.mem_cons.mp e with e | e
        · subst e
          rw [Int.min_eq_right hi]; simp
        · exact List.mem_cons_of_mem _ e
    · rcases List.mem_cons.mp hy with e | e
      · subst e
        exact Int.le_min.mpr ⟨hi, hj⟩
      · exact h2 y (List.mem_cons_of_mem _ (List.mem_cons_of_mem _ e))
section
variable {X : Cx} {xa : Xa}
def mxS (f : Int → List Int → Int) (d : D) (h : AH) : R D := match d with
    | .ref n => (match h[n]? with
      | some (.lst xs) => (match intsOf xs with
        | some (i :: is) => .ok (.int (f i is)) h
        | _ => .bad)
      | _ => .bad)
    | _ => .bad
/-- a list of ints that is not empty -/
theorem ints_of {ρ : List Addr} {h : AH} {H : Hp} {d : D} {v : V} {Q : VK} {Ex : XK} {f : Int → List Int → Int} (rh : RepH X.K xa ρ H h) (r : RepV X.K xa ρ H d v) (p : Post X.K xa Ex ρ H (mxS f d h) Q) : ∃ a i is, v = .ref a ∧ SqL X.K H a ((i :: is).map V.int) ∧ Q (.int (f i is)) H := by
  cases r with
  | @ref n a ha =>
    unfold mxS at p
    dsimp only at p
    cases q : h[n]? with
    | none => rw [q] at p; exact p.elim
    | some ao =>
      cases ao with
      | dct => rw [q] at p; exact p.elim
      | lst xs =>
        rw [q] at p
        dsimp only at p
        cases q2 : intsOf xs with
        | none => rw [q2] at p; exact p.elim
        | some bs =>
          cases bs with
          | nil => rw [q2] at p; exact p.elim
          | cons i is =>
            rw [q2] at p
            obtain ⟨ys, h1, r2⟩ := rh.lst ha q
            have e := repVs_ints q2 r2
            subst e
            exact ⟨a, i, is, rfl, SqL.of h1, Post.okv p rh (.int _)⟩
  | _ => exact p.elim
theorem b_max1 (hc : X.calm = true) : CallR X (.builtin "max") (rBi X.K xa (biS .max1)) := CallR_w (cr_max hc) fun vs H Q ⟨ρ, h, ds, Ex, rh, rv, p⟩ => by
  match ds, rv, p with
  | [d], rv, p =>
    obtain ⟨v, rfl, r⟩ := repVs_one rv
    obtain ⟨a, i, is, rfl, s, q⟩ := ints_of (f := fun i is => is.foldl max i) rh r p
    exact ⟨a, i :: is, rfl, s, by simp, fun m h1 h2 => by rw [max_is is i m h1 h2] at q; exact q⟩
  | [], _, p => exact p.elim
  | [_, _], _, p => exact p.elim
  | _ :: _ :: _ :: _, _, p => exact p.elim
theorem b_min1 (hc : X.calm = true) : CallR X (.builtin "min") (rBi X.K xa (biS .min1)) := CallR_w (cr_min hc) fun vs H Q ⟨ρ, h, ds, Ex, rh, rv, p⟩ => by
  match ds, rv, p with
  | [d], rv, p =>
    obtain ⟨v, rfl, r⟩ := repVs_one rv
    obtain ⟨a, i, is, rfl, s, q⟩ := ints_of (f := fun i is => is.foldl min i) rh r p
    exact ⟨a, i :: is, rfl, s, by simp, fun m h1 h2 => by rw [min_is is i m h1 h2] at q; exact q⟩
  | [], _, p => exact p.elim
  | [_, _], _, p => exact p.elim
  | _ :: _ :: _ :: _, _, p => exact p.elim
mutual
theorem plain_noDict : ∀ d : PyData, d.plain = true → d.hasDict = false
  | .none, _ => by simp only [PyData.hasDict]
  | .bool _, _ => by simp only [PyData.hasDict]
  | .int _, _ => by simp only [PyData.hasDict]
  | .str _, _ => by simp only [PyData.hasDict]
  | .list xs, h => by
    simp only [PyData.hasDict]
    exact plain_noDictAll xs (by simpa only [PyData.plain] using h)
  | .tuple xs, h => by
    simp only [PyData.hasDict]
    exact plain_noDictAll xs (by simpa only [PyData.plain] using h)
  | .dict _, h => by simp [PyData.plain] at h
theorem plain_noDictAll : ∀ ds : List PyData, PyData.plainAll ds = true → PyData.hasDictAll ds = false
  | [], _ => by simp only [PyData.hasDictAll]
  | x :: xs, h => by
    simp only [PyData.plainAll, Bool.and_eq_true] at h
    simp only [PyData.hasDictAll, plain_noDict x h.1, plain_noDictAll xs h.2, Bool.or_false]
end
theorem b_repr (hu : X.A.units + 62 < cLine) (hgd : X.A.guards = some []) : CallR X (.builtin "repr") (rBi X.K xa (biS .repr)) := by
  intro pins s σ H vs us Q I rv0 ⟨ρ, h, ds, Ex, rh, rv, p⟩
  match ds, rv, p with
  | [d], rv, p =>
    obtain ⟨v, rfl, r⟩ := repVs_one rv
    have p' : Post X.K xa Ex ρ H (match shownS h d with
      | some x => .ok (.str x) h
      | none => .bad) Q := p
    unfold shownS at p'
    cases q1 : pd h pdN d with
    | none => rw [q1] at p'; exact p'.elim
    | some a =>
      rw [q1] at p'
      dsimp only at p'
      by_cases c : a.showable = true ∧ a.shown.length ≤ 16777216
      · rw [if_pos c] at p'
        have qq : Q (.str a.shown) H := Post.okv p' rh (.str _)
        have hsz : a.shown.length ≤ sizeLine := by rw [sizeLine_eq]; exact c.2
        cases rv0 with
        | cons rx t0 =>
          cases t0
          obtain ⟨⟨as, a1⟩, a2, a3⟩ := pd_reads I rh _ _ _ _ _ q1 r rx
          have a3' : a.depth ≤ 60 := a3
          have hnd := plain_noDict a a2
          cases r with
          | non =>
            cases rx; cases q1
            exact PySem.P.repr_of_none ⟨.str _, H, I.tok _, ⟨_, rfl⟩, qq⟩
          | bl b =>
            cases rx; cases q1
            exact PySem.P.repr_of_bool ⟨.str _, H, I.tok _, ⟨_, rfl⟩, qq⟩
          | int i =>
            obtain ⟨t, rfl⟩ := rx; cases q1
            refine PySem.P.repr_of_int ?_ ⟨.str _, H, I.tok _, ⟨_, rfl⟩, qq⟩
            simpa [PyData.showable] using c.1
          | str x =>
            obtain ⟨t, rfl⟩ := rx; cases q1
            exact PySem.P.repr_of_str ⟨.str _, H, I.tok _, ⟨_, rfl⟩, qq⟩ hsz
          | tup s1 r1 =>
            cases rx
            exact repr_of_reads' a1 c.1 (PyData.noDict_hsm hnd) hgd (by omega) (fun _ _ e => e) (fun h' u tk hk => ⟨.str _, H, I.kept (t' := tk) hk, ⟨_, rfl⟩, qq⟩) hsz
          | rol s1 r1 =>
            cases rx
            exact repr_of_reads' a1 c.1 (PyData.noDict_hsm hnd) hgd (by omega) (fun _ _ e => e) (fun h' u tk hk => ⟨.str _, H, I.kept (t' := tk) hk, ⟨_, rfl⟩, qq⟩) hsz
          | ref hr =>
            cases rx
            exact repr_of_reads' a1 c.1 (PyData.noDict_hsm hnd) hgd (by omega) (fun _ _ e => e) (fun h' u tk hk => ⟨.str _, H, I.kept (t' := tk) hk, ⟨_, rfl⟩, qq⟩) hsz
      · rw [if_neg c] at p'; exact p'.elim
  | [], _, p => exact p.elim
  | [_, _], _, p => exact p.elim
  | _ :: _ :: _ :: _, _, p => exact p.elim
end
section
variable {X : Cx} {xa : Xa}
theorem optMap_pairs {h : AH} : ∀ {xs : List D} {ps : List (D × PyData)}, optMap (fun d => (pd h pdN d).map fun p => (d, p)) xs = some ps → ps.map (·.1) = xs ∧ ∀ p ∈ ps, pd h pdN p.1 = some p.2
  | [], ps, e => by
    have : ps = [] := by simpa [optMap] using e.symm
    subst this; exact ⟨rfl, fun p h => by cases h⟩
  | x :: xs, ps, e => by
    unfold optMap at e
    cases q : pd h pdN x with
    | none => rw [q] at e; cases e
    | some p =>
      cases q2 : optMap (fun d => (pd h pdN d).map fun p => (d, p)) xs with
      | none => rw [q, q2] at e; cases e
      | some qs =>
        rw [q, q2] at e
        cases e
        obtain ⟨h1, h2⟩ := optMap_pairs q2
        refine ⟨by rw [List.map_cons, h1], fun p hp => ?_⟩
        rcases List.mem_cons.mp hp with rfl | hp
        · exact q
        · exact h2 p hp
theorem each_rep {K : PySem.W.Frag} {ρ : List Addr} {H : Hp} : ∀ {ps : List (D × PyData)} {vs : List V} {us : List Value}, RepVs K xa ρ H (ps.map (·.1)) vs → Vals vs us → PySem.W.EachIs (fun u (b : D × PyData) => (∃ v, RelV v u ∧ RepV K xa ρ H b.1 v)) us ps
  | [], _, _, r, q => by
    cases r; cases q; exact .nil
  | p :: ps, _, _, r, q => by
    cases r with
    | cons r1 r2 =>
      cases q with
      | cons q1 q2 => exact .cons ⟨_, q1, r1⟩ (each_rep r2 q2)
theorem rep_each {K : PySem.W.Frag} {ρ : List Addr} {H : Hp} : ∀ {us : List Value} {ps : List (D × PyData)}, PySem.W.EachIs (fun u (b : D × PyData) => (∃ v, RelV v u ∧ RepV K xa ρ H b.1 v)) us ps → ∃ vs, Vals vs us ∧ RepVs K xa ρ H (ps.map (·.1)) vs
  | _, _, .nil => ⟨[], .nil, .nil⟩
  | _, _, .cons ⟨v, h1, h2⟩ t => by
    obtain ⟨vs, h3, h4⟩ := rep_each t
    exact ⟨v :: vs, .cons h1 h3, .cons h2 h4⟩
theorem srt_alike {ps : List (D × PyData)} (h : srtOk ps = true) : PySem.W.AllAlike (ps.map (·.2)) ∧ PySem.W.Sortable (ps.map (·.2)) := by
  unfold srtOk at h
  simp only [Bool.and_eq_true, Bool.or_eq_true, List.all_eq_true] at h
  obtain ⟨h1, h2⟩ := h
  refine ⟨fun d hd d' hd' => ?_, ?_⟩
  · obtain ⟨p, hp, rfl⟩ := List.mem_map.mp hd
    obtain ⟨q, hq, rfl⟩ := List.mem_map.mp hd'
    exact h1 p hp q hq
  · rcases h2 with h2 | h2
    · refine .inl fun d hd => ?_
      obtain ⟨p, hp, rfl⟩ := List.mem_map.mp hd
      have z := h2 p hp
      split at z
      · rename_i x r e; exact ⟨x, r, e⟩
      · cases z
    · refine .inr fun d hd => ?_
      obtain ⟨p, hp, rfl⟩ := List.mem_map.mp hd
      have z := h2 p hp
      split at z
      · cases z
      · cases z
      · rename_i a b; exact ⟨fun e => a e, fun xs e => b xs e⟩
theorem pd_depth {h : AH} : ∀ (k : Nat) (d : D) (p : PyData), pd h k d = some p → p.depth ≤ k
  | 0, d, p, e => by cases e
  | k + 1, d, p, e => by
    have all : ∀ {ds : List D} {ps : List PyData}, optMap (pd h k) ds = some ps → PyData.depthAll ps ≤ k := fun {ds} => by
      induction ds with
      | nil =>
        intro ps e
        have : ps = [] := by simpa [optMap] using e.symm
        subst this
        simp only [PyData.depthAll]; omega
      | cons x xs ih =>
        intro ps e
        unfold optMap at e
        cases q : pd h k x with
        | none => rw [q] at e; cases e
        | some p =>
          cases q2 : optMap (pd h k) xs with
          | none => rw [q, q2] at e; cases e
          | some qs =>
            rw [q, q2] at e
            cases e
            have a := pd_depth k x p q
            have b := ih q2
            simp only [PyData.depthAll]; omega
    cases d with
    | non => cases e; simp [PyData.depth]
    | bl b => cases e; simp [PyData.depth]
    | int b => cases e; simp [PyData.depth]
    | str b => cases e; simp [PyData.depth]
    | tup xs =>
      have e' : (optMap (pd h k) xs).map PyData.tuple = some p := e
      cases q : optMap (pd h k) xs with
      | none => rw [q] at e'; cases e'
      | some ps =>
        rw [q] at e'; cases e'
        have := all q
        simp only [PyData.depth]; omega
    | rol xs =>
      have e' : (optMap (pd h k) xs).map PyData.list = some p := e
      cases q : optMap (pd h k) xs with
      | none => rw [q] at e'; cases e'
      | some ps =>
        rw [q] at e'; cases e'
        have := all q
        simp only [PyData.depth]; omega
    | ref n =>
      have e' : (match h[n]? with
        | some (.lst xs) => (optMap (pd h k) xs).map PyData.list
        | _ => none) = some p := e
      cases q0 : h[n]? with
      | none => rw [q0] at e'; cases e'
      | some ao =>
        cases ao with
        | dct => rw [q0] at e'; cases e'
        | lst xs =>
          rw [q0] at e'
          have e' : (optMap (pd h k) xs).map PyData.list = some p := e'
          cases q : optMap (pd h k) xs with
          | none => rw [q] at e'; cases e'
          | some ps =>
            rw [q] at e'; cases e'
            have := all q
            simp only [PyData.depth]; omega
    | it _ _ => cases e
theorem b_sorted (hu : X.A.units + 64 < cLine) : CallR X (.builtin "sorted") (rBi X.K xa (biS .sorted)) := by
  intro pins s σ H vs us Q I rv0 ⟨ρ, h, ds, Ex, rh, rv, p⟩
  match ds, rv, p with
  | [d], rv, p =>
    obtain ⟨v, rfl, r⟩ := repVs_one rv
    cases r with
    | @ref n a ha =>
      have p' : Post X.K xa Ex ρ H (match h[n]? with
        | some (.lst xs) => (match srtS h xs with
          | some ys => .ok (.ref h.length) (h ++ [.lst ys])
          | none => .bad)
        | _ => .bad) Q := p
      cases q : h[n]? with
      | none => rw [q] at p'; exact p'.elim
      | some ao =>
        cases ao with
        | dct => rw [q] at p'; exact p'.elim
        | lst xs =>
          rw [q] at p'
          dsimp only at p'
          unfold srtS at p'
          cases q2 : optMap (fun d => (pd h pdN d).map fun p => (d, p)) xs with
          | none => rw [q2] at p'; exact p'.elim
          | some ps =>
            rw [q2] at p'
            dsimp only at p'
            by_cases c : srtOk ps = true ∧ ps.length ≤ 16777216
            · rw [if_pos c] at p'
              dsimp only at p'
              obtain ⟨e1, e2⟩ := optMap_pairs q2
              obtain ⟨ys, hy, r2⟩ := rh.lst ha q
              obtain ⟨its, rv2, hl, hz⟩ := I.list (SqL.of hy)
              have hu2 : us = [.ref a] := Vals.ref1 rv0
              subst hu2
              rw [← e1] at r2
              have E1 := each_rep r2 rv2
              have hmem : ∀ b ∈ ps, b.2.depth ≤ 60 := fun b hb => pd_depth pdN b.1 b.2 (e2 b hb)
              have E2 : PySem.W.EachIs (fun u (b : D × PyData) => ∃ as, Reads s.heap u b.2 as) its ps := (PySem.W.each_mem E1).mono fun u b ⟨⟨v, h1, h2⟩, hb⟩ => (pd_reads I rh pdN b.1 b.2 v u (e2 b hb) h2 h1).1
              obtain ⟨al, so⟩ := srt_alike c.1
              refine PySem.W.sorted_data (enc := fun b : D × PyData => b.2) hl.isList E1 E2 al so (by rw [sizeLine_eq]; exact c.2) (fun b hb => by have := hmem b hb; omega) fun out ho E3 => ?_
              obtain ⟨ws, w1, w2⟩ := rep_each E3
              obtain ⟨ep, he'⟩ := PyProof.Rows.sortedAll_at s.heap its out.toArray
              have hlen : ws.length ≤ sizeLine := by rw [w1.length, ho, sizeLine_eq]; exact c.2
              exact ⟨.ref _, upd H (s.heap.objs.size + 1) (.lst ws), I.laid (t' := s.toks) (fun _ _ => PyProof.Rows.sortedAll_old) (Nat.le_succ _) ⟨hlen, out, ep, w1, by simpa using he'⟩, rfl, p'.new rh (I.hok.fresh (Nat.le_succ _)) w2⟩
            · rw [if_neg c] at p'; exact p'.elim
    | _ => exact p.elim
  | [], _, p => exact p.elim
  | [_, _], _, p => exact p.elim
  | _ :: _ :: _ :: _, _, p => exact p.elim
end
end Ly
end
section
set_option Elab.async false
set_option linter.all false
set_option maxRecDepth 100000
set_option maxHeartbeats 1000000
/-! Ly8: isinstance, slices, what loops walk, comprehensions. -/
namespace Ly
open PySem PySem.Spec PyProof.Rows L2
theorem kit_sub (a b : Bt) : kitB a.name b.name = some (a.sub b) := by
  cases a <;> cases b <;> decide +kernel
section
variable {X : Cx} {xa : Xa} {W : WX} {a b c e : Expr} {es : List Expr} {pos p : Pos} {g : Gs} {ca cb cc : CE}
theorem tyOf_ty {K : PySem.W.Frag} {ρ : List Addr} {H : Hp} {h : AH} {d : D} {v : V} {t : Bt} (rh : RepH K xa ρ H h) (r : RepV K xa ρ H d v) (e : tyOf h d = some t) : TyX K H v (.type t.name) := by
  cases r with
  | non => cases e; exact .base .non
  | bl b => cases e; exact .base (.bl b)
  | int i => cases e; exact .base (.int i)
  | str x => cases e; exact .base (.str x)
  | tup s r =>
    cases e
    rcases s with (s | ⟨o, s⟩) | ⟨o, its, n, h1, h2, h3⟩
    · exact .base (.tup s)
    · exact .fTuple s
    · exact .kTuple h1 h2
  | rol s r =>
    cases e
    rcases s with ⟨o, s⟩ | ⟨o, its, n, h1, h2, h3⟩
    · exact .base (.frz s)
    · exact .kList h1 h2
  | @ref n a ha =>
    have e' : (match h[n]? with
      | some (.lst _) => some Bt.list
      | some (.dct _) => some Bt.dict
      | _ => none) = some t := e
    cases q : h[n]? with
    | none => rw [q] at e'; cases e'
    | some ao =>
      rw [q] at e'
      cases ao with
      | dct kvs =>
        obtain ⟨b, o, e1, e2, e3⟩ := rh.obj n _ q
        exact e3.elim
      | lst xs =>
        cases e'
        obtain ⟨ys, h1, _⟩ := rh.lst ha q
        exact .base (.lst h1)
def clNames : List Expr → Option (List Str)
  | [] => some []
  | .Name x _ :: r => (clNames r).map (x :: ·)
  | _ => none
/-- a class by its name, not within an except suite -/
def btOf (x : Str) : Option Bt :=
  if x = "int" then some .int else if x = "bool" then some .bool else if x = "str" then some .str else if x = "tuple" then some .tuple else if x = "list" then some .list else if x = "dict" then some .dict else none
theorem btOf_boot {x : Str} {t : Bt} (h : btOf x = some t) : bootBuiltins x = some (.type t.name) ∧ x ≠ "__name__" ∧ (x == ("__debug__" : Str)) = false := by
  unfold btOf at h
  by_cases c1 : x = "int"
  · rw [if_pos c1] at h; cases h; subst c1; exact ⟨by decide +kernel, by decide +kernel, by decide +kernel⟩
  · rw [if_neg c1] at h
    by_cases c2 : x = "bool"
    · rw [if_pos c2] at h; cases h; subst c2; exact ⟨by decide +kernel, by decide +kernel, by decide +kernel⟩
    · rw [if_neg c2] at h
      by_cases c3 : x = "str"
      · rw [if_pos c3] at h; cases h; subst c3; exact ⟨by decide +kernel, by decide +kernel, by decide +kernel⟩
      · rw [if_neg c3] at h
        by_cases c4 : x = "tuple"
        · rw [if_pos c4] at h; cases h; subst c4; exact ⟨by decide +kernel, by decide +kernel, by decide +kernel⟩
        · rw [if_neg c4] at h
          by_cases c5 : x = "list"
          · rw [if_pos c5] at h; cases h; subst c5; exact ⟨by decide +kernel, by decide +kernel, by decide +kernel⟩
          · rw [if_neg c5] at h
            by_cases c6 : x = "dict"
            · rw [if_pos c6] at h; cases h; subst c6; exact ⟨by decide +kernel, by decide +kernel, by decide +kernel⟩
            · rw [if_neg c6] at h; cases h
theorem pe_bt {x : Str} {t : Bt} (h : btOf x = some t) (hg : Gl X x) (hm : X.mg x = none) : PE X (.Name x p) (tC (.ty t.name)) := by
  obtain ⟨h1, h2, h3⟩ := btOf_boot h
  exact pe_bltn hg hm h1 rfl h2 h3
theorem boot_isinstance' : bootBuiltins "isinstance" = some (.builtin "isinstance") := by decide +kernel
/-- isinstance(x, T), T a built-in class -/
theorem e_isi1 {t : Bt} {x : Str} {p2 : Pos} (hg0 : Gl X "isinstance") (hm0 : X.mg "isinstance" = none) (ha : E1 X xa W a (ev g ca)) (hs : notStar a = true) (hb : btOf x = some t) (hg : Gl X x) (hm : X.mg x = none) :
    E1 X xa W (.Call (.Name "isinstance" p) [a, .Name x p2] [] pos) (ev g (.isi ca [t])) := by
  refine pe_w (pe_callB call_isi hg0 hm0 boot_isinstance' (pa_cons ha (pa_cons (pe_bt hb hg hm) pa_nil rfl) (star_one hs _ _)) (by decide) (by decide) (star_one hs _ _) rfl) fun σ H Q ⟨ρ, σd, h, rl, rh, p⟩ => ?_
  refine semF.then rl rh p fun d h1 ρ1 H1 v q1 e1 rl1 rh1 rv p1 => ?_
  have p1' : Post X.K xa (fun c d H' => W c d σ H') ρ1 H1 (match tyOf h1 d with
    | some t' => .ok (.bl (t'.sub t || false)) h1
    | none => .bad) Q := p1
  cases q : tyOf h1 d with
  | none => rw [q] at p1'; exact p1'.elim
  | some t' =>
    rw [q] at p1'
    have p1' : Post X.K xa (fun c d H' => W c d σ H') ρ1 H1 (.ok (.bl (t'.sub t || false)) h1) Q := p1'
    rw [Bool.or_false] at p1'
    exact ⟨v, .ty t.name, .type t'.name, .type t.name, t'.sub t, rfl, .ty _, tyOf_ty rh1 rv q, kit_ty (kit_sub t' t), Post.okv p1' rh1 (.bl _)⟩
/-- names of built-in classes -/
def btL : List Expr → Option (List (Str × Bt))
  | [] => some []
  | .Name x _ :: es => (match btOf x, btL es with
    | some t, some ts => some ((x, t) :: ts)
    | _, _ => none)
  | _ => none
theorem pa_bts : ∀ {es : List Expr} {ts : List (Str × Bt)}, btL es = some ts → (∀ q ∈ ts, Gl X q.1 ∧ X.mg q.1 = none) → PA X es (fun σ H Q => Q (ts.map fun q => V.ty q.2.name) H)
  | [], ts, h, _ => by
    cases h
    exact pa_nil
  | e :: es, ts, h, hh => by
    cases e with
    | Name x p =>
      have h' : (match btOf x, btL es with
        | some t, some ts => some ((x, t) :: ts)
        | _, _ => none) = some ts := h
      cases h1 : btOf x with
      | none => rw [h1] at h'; cases h'
      | some t =>
        cases h2 : btL es with
        | none => rw [h1, h2] at h'; cases h'
        | some ts' =>
          rw [h1, h2] at h'
          cases h'
          obtain ⟨g1, g2⟩ := hh _ (List.mem_cons_self ..)
          exact pa_w (pa_cons (pe_bt h1 g1 g2) (pa_bts h2 fun q hq => hh q (List.mem_cons_of_mem _ hq)) rfl) fun σ H Q q => q
    | _ => cases h
theorem cls_bts : ∀ (ts : List (Str × Bt)), Paired ClsV (ts.map fun q => V.ty q.2.name) (ts.map fun q => Value.type q.2.name)
  | [] => .nil
  | _ :: ts => .cons (.ty _) (cls_bts ts)
theorem kitAny_bts {K : PySem.W.Frag} {t' : Bt} : ∀ {ts : List (Str × Bt)}, PySem.W.kitAny K (.type t'.name) (ts.map fun q => Value.type q.2.name) = some ((ts.map (·.2)).any fun n => t'.sub n)
  | [] => rfl
  | q :: ts => kitAny_cons (b := t'.sub q.2) (kit_ty (kit_sub t' q.2)) (fun z => by
      have e := kitAny_bts (K := K) (t' := t') (ts := ts)
      rw [e, List.map_cons, List.any_cons, z, Bool.false_or]) fun z => by rw [List.map_cons, List.any_cons, z, Bool.true_or]
theorem e_isiT {ts : List (Str × Bt)} {es : List Expr} {k : Nat} {p2 : Pos} (hg0 : Gl X "isinstance") (hm0 : X.mg "isinstance" = none) (ha : E1 X xa W a (ev g ca)) (hs : notStar a = true) (hb : btL es = some ts) (hn : ∀ q ∈ ts, Gl X q.1 ∧ X.mg q.1 = none) (hl : ts.length ≤ 1000) :
    E1 X xa W (.Call (.Name "isinstance" p) [a, .Tuple es k p2] [] pos) (ev g (.isi ca (ts.map (·.2)))) := by
  refine pe_w (pe_callB call_isiT hg0 hm0 boot_isinstance' (pa_cons ha (pa_cons (pe_tup (pa_bts hb hn)) pa_nil rfl) (star_one hs _ _)) (by decide) (by decide) (star_one hs _ _) rfl) fun σ H Q ⟨ρ, σd, h, rl, rh, p⟩ => ?_
  refine semF.then rl rh p fun d h1 ρ1 H1 v q1 e1 rl1 rh1 rv p1 => ?_
  have p1' : Post X.K xa (fun c d H' => W c d σ H') ρ1 H1 (match tyOf h1 d with
    | some t' => .ok (.bl ((ts.map (·.2)).any fun n => t'.sub n)) h1
    | none => .bad) Q := p1
  cases q : tyOf h1 d with
  | none => rw [q] at p1'; exact p1'.elim
  | some t' =>
    rw [q] at p1'
    refine ⟨by rw [List.length_map, sizeLine_eq]; omega, fun tp htp => ?_⟩
    obtain ⟨rh2, e2⟩ := rh1.tupx (xs := ts.map fun q => V.ty q.2.name) htp
    refine ⟨v, tp, _, .type t'.name, ts.map fun q => Value.type q.2.name, _, rfl, upd_same, ?_, tyOf_ty rh2 (rv.ext (List.prefix_refl _) e2) q, kitAny_bts, p1' _ _ _ (List.prefix_refl _) e2 rh2 (.bl _)⟩
    exact cls_bts ts
/-! ### slices -/
abbrev O1 (X : Cx) (xa : Xa) (W : WX) (e : Option Expr) (f : Fn) : Prop := PO X e (fun σ H Q => ∃ (ρ : List Addr) (σd : Sg) (h : AH), Rel X.K xa ρ H σd σ ∧ RepH X.K xa ρ H h ∧ (match f σd h with
  | .ok d h' => (match partOf d with
    | some o => ∀ (ρ' : List Addr) (H' : Hp), ρ <+: ρ' → Ext H H' → RepH X.K xa ρ' H' h' → Q o H'
    | none => False)
  | .exc c fs vs h' => Post X.K xa (fun c d H' => W c d σ H') ρ H (.exc c fs vs h') fun _ _ => False
  | .bad => False))
theorem po_w {X : Cx} {e : Option Expr} {t t' : TO} (h : PO X e t) (w : ∀ σ H Q, t' σ H Q → t σ H Q) : PO X e t' := ⟨fun pins s σ H Q I q => h.run pins s σ H Q I (w σ H Q q)⟩
theorem o_none : O1 X xa W none (ev g (.cst (.it 9 []))) := po_w po_none fun σ H Q ⟨ρ, σd, h, rl, rh, p⟩ => p ρ H (List.prefix_refl _) (Ext.refl _) rh
theorem o_some (ha : E1 X xa W a (ev g ca)) : O1 X xa W (some a) (ev g ca) := po_w (po_some ha) fun σ H Q ⟨ρ, σd, h, rl, rh, p⟩ => by
  refine ⟨ρ, σd, h, rl, rh, ?_⟩
  cases e : ev g ca σd h with
  | bad => rw [e] at p; exact p.elim
  | exc c fs vs h' => rw [e] at p; exact p
  | ok d h' =>
    rw [e] at p
    dsimp only at p
    intro ρ1 H1 v q1 e1 rh1 rv
    cases rv with
    | int i => exact ⟨i, rfl, p ρ1 H1 q1 e1 rh1⟩
    | _ => exact p.elim
/-- a part, then what follows -/
theorem part_then {f : Fn} {k : D → AH → R D} {σ : St} {H : Hp} {Q : VK} {Q' : Option Int → Hp → Prop} {ρ : List Addr} {σd : Sg} {h : AH} (rl : Rel X.K xa ρ H σd σ) (rh : RepH X.K xa ρ H h)
    (p : Post X.K xa (fun c d H' => W c d σ H') ρ H ((f σd h).bind k) Q) (hb : ∀ d h, partOf d = none → k d h = .bad)
    (hk : ∀ d o h1 ρ1 H1, partOf d = some o → ρ <+: ρ1 → Ext H H1 → Rel X.K xa ρ1 H1 σd σ → RepH X.K xa ρ1 H1 h1 → Post X.K xa (fun c d H' => W c d σ H') ρ1 H1 (k d h1) Q → Q' o H1) :
    ∃ (ρ : List Addr) (σd : Sg) (h : AH), Rel X.K xa ρ H σd σ ∧ RepH X.K xa ρ H h ∧ (match f σd h with
      | .ok d h' => (match partOf d with
        | some o => ∀ (ρ' : List Addr) (H' : Hp), ρ <+: ρ' → Ext H H' → RepH X.K xa ρ' H' h' → Q' o H'
        | none => False)
      | .exc c fs vs h' => Post X.K xa (fun c d H' => W c d σ H') ρ H (.exc c fs vs h') fun _ _ => False
      | .bad => False) := by
  refine ⟨ρ, σd, h, rl, rh, ?_⟩
  cases e : f σd h with
  | bad => rw [e] at p; exact p.elim
  | exc c fs vs h' => rw [e] at p; exact p
  | ok d h' =>
    rw [e] at p
    have p : Post X.K xa (fun c d H' => W c d σ H') ρ H (k d h') Q := p
    dsimp only
    cases q : partOf d with
    | none => rw [hb d h' q] at p; exact p.elim
    | some o => exact fun ρ1 H1 q1 e1 rh1 => hk d o h' ρ1 H1 q q1 e1 (rl.ext q1 e1) rh1 (Post.shift q1 e1 p)
/-- what a slice asks -/
def rSl (K : PySem.W.Frag) (xa : Xa) : V → Option Int → Option Int → Hp → VK → Prop := fun x lo hi H Q => ∃ (ρ : List Addr) (h : AH) (d l u : D) (Ex : XK), RepH K xa ρ H h ∧ RepV K xa ρ H d x ∧ partOf l = some lo ∧ partOf u = some hi ∧ Post K xa Ex ρ H (slcS d l u h) Q
theorem cut_rep {K : PySem.W.Frag} {ρ : List Addr} {H : Hp} {ds : List D} {vs : List V} (r : RepVs K xa ρ H ds vs) (lo hi : Option Int) : RepVs K xa ρ H (cutD ds lo hi) (cutV vs lo hi) := by
  unfold cutD cutV
  rw [r.length]
  exact (r.drop _).take _
theorem cut_whole {α : Type} {ds : List α} {lo hi : Option Int} (h : HT.sIx ds.length 0 lo = 0 ∧ HT.sIx ds.length ds.length hi = ds.length) : (ds.drop (HT.sIx ds.length 0 lo)).take (HT.sIx ds.length ds.length hi - HT.sIx ds.length 0 lo) = ds := by
  rw [h.1, h.2]
  simp
theorem sl_any : SlR X (rSl X.K xa) := by
  intro pins s σ H x v vl vu lo hi sl Q I rx hs pl pu ⟨ρ, h, d, l, u, Ex, rh, rd, hl, hu, p⟩
  unfold slcS at p
  rw [hl, hu] at p
  dsimp only at p
  cases rd with
  | @tup ds xs a s1 r =>
    refine sl_tupA pins s σ H _ v vl vu lo hi sl Q I rx hs pl pu ⟨a, xs, rfl, s1, fun z => ?_, fun _ q hq => p.newT rh hq (cut_rep r lo hi)⟩
    have e : cutD ds lo hi = ds := by
      unfold cutD
      rw [r.length] at *
      rw [z.1, z.2, ← r.length]
      simp
    have p' : Post X.K xa Ex ρ H (.ok (.tup (cutD ds lo hi)) h) Q := p
    rw [e] at p'
    exact Post.okv p' rh (.tup s1 r)
  | @rol ds xs a s1 r => exact sl_list pins s σ H _ v vl vu lo hi sl Q I rx hs pl pu ⟨a, xs, rfl, s1.sq, fun q hq => p.new rh hq (cut_rep r lo hi)⟩
  | @ref n a ha =>
    dsimp only at p
    cases q : h[n]? with
    | none => rw [q] at p; exact p.elim
    | some ao =>
      cases ao with
      | dct => rw [q] at p; exact p.elim
      | lst ds =>
        rw [q] at p
        obtain ⟨xs, h1, r⟩ := rh.lst ha q
        exact sl_list pins s σ H _ v vl vu lo hi sl Q I rx hs pl pu ⟨a, xs, rfl, SqL.of h1, fun q hq => p.new rh hq (cut_rep r lo hi)⟩
  | _ => exact p.elim
theorem e_slc {lo hi : Option Expr} {p2 : Pos} (ha : E1 X xa W a (ev g ca)) (hb : O1 X xa W lo (ev g cb)) (hc : O1 X xa W hi (ev g cc)) : E1 X xa W (.Subscript a (.Slice lo hi none p2) pos) (ev g (.slc ca cb cc)) :=
  pe_w (pe_slice sl_any ha hb hc) fun σ H Q ⟨ρ, σd, h, rl, rh, p⟩ => by
    refine semF.then rl rh p fun d h1 ρ1 H1 v q1 e1 rl1 rh1 rv p1 => ?_
    refine part_then (X := X) (xa := xa) (W := W) (Q := Q) (k := fun y h2 => if (partOf y).isSome = true then (ev g cc σd h2).bind fun z h3 => slcS d y z h3 else .bad) rl1 rh1 p1 (fun y h2 z => by rw [z]; rfl) fun y o h2 ρ2 H2 hy q2 e2 rl2 rh2 p2 => ?_
    rw [hy] at p2
    have p2 : Post X.K xa (fun c d H' => W c d σ H') ρ2 H2 ((ev g cc σd h2).bind fun z h3 => slcS d y z h3) Q := p2
    refine part_then (X := X) (xa := xa) (W := W) (Q := Q) (k := fun z h3 => slcS d y z h3) rl2 rh2 p2 (fun z h3 zz => by unfold slcS; rw [hy, zz]) fun z o2 h3 ρ3 H3 hz q3 e3 rl3 rh3 p3 => ?_
    exact ⟨ρ3, h3, d, y, z, _, rh3, (rv.ext q2 e2).ext q3 e3, hy, hz, p3⟩
/-! ### what a loop walks -/
/-- the walk of a source, as the hand layer tells it -/
def ItOk (K : PySem.W.Frag) (xa : Xa) (src : D) (J : It) (ρ : List Addr) (H : Hp) : Prop := ∀ (ρ' : List Addr) (H' : Hp) (h' : AH), ρ <+: ρ' → Ext H H' → RepH K xa ρ' H' h' → ∀ i : Nat, match draw h' src i with
  | none => True
  | some none => J.stop i H'
  | some (some d) => J.go i H' ∧ ∀ x H2, J.yld i H' x H2 → Ext H' H2 ∧ RepH K xa ρ' H2 h' ∧ RepV K xa ρ' H2 d x
theorem ItOk.ext {K : PySem.W.Frag} {src : D} {J : It} {ρ ρ' : List Addr} {H H' : Hp} (h : ItOk K xa src J ρ H) (p : ρ <+: ρ') (e : Ext H H') : ItOk K xa src J ρ' H' := fun ρ2 H2 h2 p2 e2 => h ρ2 H2 h2 (p.trans p2) (e.trans e2)
def semI (K : PySem.W.Frag) (xa : Xa) (W : WX) (f : Fn) : TI := fun σ H R => ∃ (ρ : List Addr) (σd : Sg) (h : AH), Rel K xa ρ H σd σ ∧ RepH K xa ρ H h ∧ (match f σd h with
  | .ok src h' => ∀ (ρ' : List Addr) (H' : Hp) (J : It), ρ <+: ρ' → Ext H H' → RepH K xa ρ' H' h' → ItOk K xa src J ρ' H' → R J H'
  | .exc c fs vs h' => Post K xa (fun c d H' => W c d σ H') ρ H (.exc c fs vs h') fun _ _ => False
  | .bad => False)
abbrev I1 (X : Cx) (xa : Xa) (W : WX) (tg e : Expr) (f : Fn) : Prop := PI X tg e (semI X.K xa W f)
theorem pi_w {X : Cx} {tg e : Expr} {t t' : TI} (h : PI X tg e t) (w : ∀ σ H Q, t' σ H Q → t σ H Q) : PI X tg e t' := ⟨fun pins s σ H Q I q => h.run pins s σ H Q I (w σ H Q q)⟩
/-- a list or a tuple -/
def iSeq (K : PySem.W.Frag) (tl : TE) : TI := fun σ H R => tl σ H fun x H1 => ∃ a, x = .ref a ∧ (((∃ xs, SqL K H1 a xs) ∧ R (Itl K a) H1) ∨ ((∃ xs, SqT K H1 a xs) ∧ R (Itt K a) H1))
theorem pi_seq {tg l : Expr} {tl : TE} (hl : PE X l tl) : PI X tg l (iSeq X.K tl) := by
  refine ⟨fun pins s σ H R I h => ?_⟩
  refine thn (hl.run pins s σ H _ I h) fun v s1 ⟨x, H1, I1, r1, q1⟩ => ?_
  obtain ⟨a, e, q1⟩ := q1
  subst e
  cases r1
  rcases q1 with ⟨⟨xs, hq⟩, q⟩ | ⟨⟨xs, hq⟩, q⟩
  · obtain ⟨its, rv, p, hz⟩ := I1.list hq
    refine wpAny_pyIter_list p.isList ?_
    refine ⟨s1.heap.objs.size, [s1.heap.objs.size], _, _, H1, rfl, I1.kept (t' := s1.toks) fun b o e => Heap.get?_push_of_some _ e, turn_list a _, ⟨_, Heap.get?_push_size _ rfl, rfl, rfl⟩, fun b hb => ?_, q⟩
    have e : b = s1.heap.objs.size := by simpa using hb
    subst e
    exact I1.fpOk (Nat.le_refl _) (I1.hok.fresh (Nat.le_refl _))
  · obtain ⟨its, rv, p, hz⟩ := I1.tuple hq
    refine wpAny_pyIter_tuple (show s1.heap.IsTuple a its.toArray from p) ?_
    refine ⟨s1.heap.objs.size, [s1.heap.objs.size], _, _, H1, rfl, I1.kept (t' := s1.toks) fun b o e => Heap.get?_push_of_some _ e, turn_tuple a _, ⟨_, Heap.get?_push_size _ rfl, rfl, rfl⟩, fun b hb => ?_, q⟩
    have e : b = s1.heap.objs.size := by simpa using hb
    subst e
    exact I1.fpOk (Nat.le_refl _) (I1.hok.fresh (Nat.le_refl _))
theorem itok_seq {K : PySem.W.Frag} {ρ : List Addr} {H : Hp} {h : AH} {d : D} {v : V} (rh : RepH K xa ρ H h) (rv : RepV K xa ρ H d v) (hs : isSeq h d = true) :
    ∃ a, v = .ref a ∧ (((∃ xs, SqL K H a xs) ∧ ItOk K xa (.it 0 [d]) (Itl K a) ρ H) ∨ ((∃ xs, SqT K H a xs) ∧ ItOk K xa (.it 0 [d]) (Itt K a) ρ H)) := by
  have lst : ∀ {a : Addr} {H' : Hp} {ys : List V} {xs : List D} {ρ' : List Addr} {h' : AH} {i : Nat}, SqL K H' a ys → RepH K xa ρ' H' h' → RepVs K xa ρ' H' xs ys → match (some xs[i]? : Option (Option D)) with
      | none => True
      | some none => (Itl K a).stop i H'
      | some (some d) => (Itl K a).go i H' ∧ ∀ x H2, (Itl K a).yld i H' x H2 → Ext H' H2 ∧ RepH K xa ρ' H2 h' ∧ RepV K xa ρ' H2 d x := by
    intro a H' ys xs ρ' h' i hS rh' r
    cases e : xs[i]? with
    | none =>
      refine ⟨ys, hS, ?_⟩
      have := List.getElem?_eq_none_iff.mp e
      rw [← r.length]; exact this
    | some d =>
      obtain ⟨w, h1, h2⟩ := r.get e
      refine ⟨⟨ys, w, hS, h1⟩, fun x H2 hy => ?_⟩
      obtain ⟨e1, e2⟩ := hy
      subst e1
      have e3 := e2 ys hS
      rw [h1] at e3; cases e3
      exact ⟨Ext.refl _, rh', h2⟩
  cases rv with
  | @tup ds xs a s r =>
    refine ⟨a, rfl, .inr ⟨⟨xs, s⟩, fun ρ' H' h' p e rh' i => ?_⟩⟩
    have hS := sqT_ext s e
    have r' := r.ext p e
    have e0 : draw h' (.it 0 [.tup ds]) i = some ds[i]? := rfl
    rw [e0]
    cases q : ds[i]? with
    | none =>
      refine ⟨xs, hS, ?_⟩
      have := List.getElem?_eq_none_iff.mp q
      rw [← r.length]; exact this
    | some d =>
      obtain ⟨w, h1, h2⟩ := r'.get q
      refine ⟨⟨xs, w, hS, h1⟩, fun x H2 hy => ?_⟩
      obtain ⟨e1, e2⟩ := hy
      subst e1
      have e3 := e2 xs hS
      rw [h1] at e3; cases e3
      exact ⟨Ext.refl _, rh', h2⟩
  | @rol ds xs a s r =>
    exact ⟨a, rfl, .inl ⟨⟨xs, s.sq⟩, fun ρ' H' h' p e rh' i => lst (s.ext e).sq rh' (r.ext p e)⟩⟩
  | @ref n a ha =>
    have hs' : (match h[n]? with
      | some (.lst xs) => some xs
      | _ => none : Option (List D)).isSome = true := hs
    cases q : h[n]? with
    | none => rw [q] at hs'; cases hs'
    | some ao =>
      cases ao with
      | dct => rw [q] at hs'; cases hs'
      | lst xs =>
        obtain ⟨ys, h1, _⟩ := rh.lst ha q
        refine ⟨a, rfl, .inl ⟨⟨ys, SqL.of h1⟩, fun ρ' H' h' p e rh' i => ?_⟩⟩
        have e0 : draw h' (.it 0 [.ref n]) i = (match h'[n]? with
          | some (.lst xs) => some xs
          | _ => none : Option (List D)).map fun xs => xs[i]? := rfl
        rw [e0]
        cases q2 : h'[n]? with
        | none => trivial
        | some ao =>
          cases ao with
          | dct => trivial
          | lst zs =>
            obtain ⟨ws, h2, r2⟩ := rh'.lst (get_pre p ha) q2
            exact lst (SqL.of h2) rh' r2
  | _ => cases hs
theorem itok_rng {K : PySem.W.Frag} {ρ : List Addr} {H : Hp} (lo n : Int) : ItOk K xa (.it 1 [.int lo, .int n]) (Itr lo n.toNat) ρ H := fun ρ' H' h' p e rh' i => by
  have e0 : draw h' (.it 1 [.int lo, .int n]) i = some (if i < n.toNat then some (.int (lo + i)) else none) := rfl
  rw [e0]
  by_cases c : i < n.toNat
  · rw [if_pos c]
    refine ⟨c, fun x H2 hy => ?_⟩
    obtain ⟨e1, e2⟩ := hy
    subst e1 e2
    exact ⟨Ext.refl _, rh', .int _⟩
  · rw [if_neg c]
    show n.toNat ≤ i
    omega
theorem i_seq {tg : Expr} (ha : E1 X xa W a (ev g ca)) : I1 X xa W tg a (ev g (.itr 0 (.cons ca .nil))) :=
  pi_w (pi_seq ha) fun σ H R ⟨ρ, σd, h, rl, rh, p⟩ => by
    refine ⟨ρ, σd, h, rl, rh, ?_⟩
    have p' : (match ((ev g ca σd h).bind fun x h1 => if isSeq h1 x = true then .ok (.it 0 [x]) h1 else .bad : Ly.R D) with
      | .ok src h' => ∀ (ρ' : List Addr) (H' : Hp) (J : It), ρ <+: ρ' → Ext H H' → RepH X.K xa ρ' H' h' → ItOk X.K xa src J ρ' H' → R J H'
      | .exc c fs vs h' => Post X.K xa (fun c d H' => W c d σ H') ρ H (.exc c fs vs h') fun _ _ => False
      | .bad => False) := by
      cases e : ev g ca σd h with
      | bad =>
        have e0 : ev g (.itr 0 (.cons ca .nil)) σd h = .bad := by show ((ev g ca σd h).bind _).bind _ = _; rw [e]; rfl
        rw [e0] at p; exact p
      | exc c fs vs h' =>
        have e0 : ev g (.itr 0 (.cons ca .nil)) σd h = .exc c fs vs h' := by show ((ev g ca σd h).bind _).bind _ = _; rw [e]; rfl
        rw [e0] at p; exact p
      | ok d h' =>
        have e0 : ev g (.itr 0 (.cons ca .nil)) σd h = if isSeq h' d = true then .ok (.it 0 [d]) h' else .bad := by show ((ev g ca σd h).bind _).bind _ = _; rw [e]; rfl
        rw [e0] at p; exact p
    cases e : ev g ca σd h with
    | bad => rw [e] at p'; exact p'.elim
    | exc c fs vs h' => rw [e] at p'; exact p'
    | ok d h' =>
      rw [e] at p'
      have p' : (match (if isSeq h' d = true then .ok (.it 0 [d]) h' else .bad : Ly.R D) with
        | .ok src h' => ∀ (ρ' : List Addr) (H' : Hp) (J : It), ρ <+: ρ' → Ext H H' → RepH X.K xa ρ' H' h' → ItOk X.K xa src J ρ' H' → R J H'
        | .exc c fs vs h' => Post X.K xa (fun c d H' => W c d σ H') ρ H (.exc c fs vs h') fun _ _ => False
        | .bad => False) := p'
      intro ρ1 H1 v q1 e1 rh1 rv
      by_cases c : isSeq h' d = true
      · rw [if_pos c] at p'
        obtain ⟨a, rfl, hh⟩ := itok_seq rh1 rv c
        refine ⟨a, rfl, ?_⟩
        rcases hh with ⟨h1, h2⟩ | ⟨h1, h2⟩
        · exact .inl ⟨h1, p' ρ1 H1 _ q1 e1 rh1 h2⟩
        · exact .inr ⟨h1, p' ρ1 H1 _ q1 e1 rh1 h2⟩
      · rw [if_neg c] at p'; exact p'.elim
/-- what follows the arguments of a walk -/
theorem itr_then {K : PySem.W.Frag} {k : Nat} {σ : St} {H : Hp} {R : It → Hp → Prop} {Q' : List V → Hp → Prop} (h : semI K xa W (ev g (.itr k ca)) σ H R)
    (hk : ∀ (ds : List D) (h1 : AH) (ρ1 : List Addr) (H1 : Hp) (vs : List V), RepH K xa ρ1 H1 h1 → RepVs K xa ρ1 H1 ds vs → (match itS k ds h1 with
      | .ok src h' => ∀ (ρ' : List Addr) (H' : Hp) (J : It), ρ1 <+: ρ' → Ext H1 H' → RepH K xa ρ' H' h' → ItOk K xa src J ρ' H' → R J H'
      | .exc _ _ _ _ => False
      | .bad => False) → Q' vs H1) (hx : ∀ ds h, ∀ c fs vs h', itS k ds h ≠ .exc c fs vs h') : semAr K xa W (ev g ca) σ H Q' := by
  obtain ⟨ρ, σd, h, rl, rh, p⟩ := h
  refine ⟨ρ, σd, h, rl, rh, ?_⟩
  cases e : ev g ca σd h with
  | bad =>
    have e0 : ev g (.itr k ca) σd h = .bad := by show (ev g ca σd h).bind _ = _; rw [e]; rfl
    rw [e0] at p; exact p
  | exc c fs vs h' =>
    have e0 : ev g (.itr k ca) σd h = .exc c fs vs h' := by show (ev g ca σd h).bind _ = _; rw [e]; rfl
    rw [e0] at p; exact p
  | ok y h' =>
    cases y with
    | tup ds =>
      have e0 : ev g (.itr k ca) σd h = itS k ds h' := by show (ev g ca σd h).bind _ = _; rw [e]; rfl
      rw [e0] at p
      intro ρ1 H1 vs q1 e1 rh1 rv
      refine hk ds h' ρ1 H1 vs rh1 rv ?_
      cases q : itS k ds h' with
      | bad => rw [q] at p; exact p
      | exc c fs vs h2 => exact (hx _ _ _ _ _ _ q).elim
      | ok src h2 =>
        rw [q] at p
        exact fun ρ2 H2 J q2 e2 => p ρ2 H2 J (q1.trans q2) (e1.trans e2)
    | _ =>
      have e0 : ev g (.itr k ca) σd h = .bad := by show (ev g ca σd h).bind _ = _; rw [e]; rfl
      rw [e0] at p; exact p.elim
theorem itS_noexc (k : Nat) (ds : List D) (h : AH) : ∀ c fs vs h', itS k ds h ≠ .exc c fs vs h' := by
  intro c fs vs h' e
  have one : ∀ s, it1 k s h ≠ .exc c fs vs h' := fun s e => by
    unfold it1 at e
    split at e
    · split at e <;> cases e
    · split at e
      · split at e <;> cases e
      · cases e
    · split at e <;> cases e
    · split at e <;> cases e
    · split at e
      · split at e <;> cases e
      · cases e
    · cases e
  have two : ∀ s t, it2 k s t h ≠ .exc c fs vs h' := fun s t e => by
    unfold it2 at e
    split at e
    · split at e
      · split at e <;> cases e
      · cases e
    · split at e <;> cases e
    · cases e
  match ds, e with
  | [], e => cases e
  | [s], e => exact one s e
  | [s, t], e => exact two s t e
  | _ :: _ :: _ :: _, e => cases e
theorem i_rng1 {tg : Expr} (hg : Gl X "range") (hm : X.mg "range" = none) (ha : Ar X xa W [a] (ev g ca)) (hs : notStar a = true) : I1 X xa W tg (.Call (.Name "range" p) [a] [] pos) (ev g (.itr 1 ca)) :=
  pi_w (pi_range1 hg hm ha (star_one hs [] _)) fun σ H R h => itr_then h (fun ds h1 ρ1 H1 vs rh rv q => by
    match ds, rv, q with
    | [d], rv, q =>
      obtain ⟨v, rfl, r⟩ := repVs_one rv
      cases r with
      | int j =>
        have q' : (match (if -4611686018427387904 ≤ j ∧ j < 4611686018427387904 then .ok (.it 1 [.int 0, .int j]) h1 else .bad : Ly.R D) with
          | .ok src h' => ∀ (ρ' : List Addr) (H' : Hp) (J : It), ρ1 <+: ρ' → Ext H1 H' → RepH X.K xa ρ' H' h' → ItOk X.K xa src J ρ' H' → R J H'
          | .exc _ _ _ _ => False
          | .bad => False) := q
        by_cases c : -4611686018427387904 ≤ j ∧ j < 4611686018427387904
        · rw [if_pos c] at q'
          exact ⟨j, rfl, c.1, c.2, q' ρ1 H1 _ (List.prefix_refl _) (Ext.refl _) rh (itok_rng 0 j)⟩
        · rw [if_neg c] at q'; exact q'.elim
      | _ => exact q.elim
    | [], _, q => exact q.elim
    | [_, _], _, q => exact q.elim
    | _ :: _ :: _ :: _, _, q => exact q.elim) (itS_noexc 1)
theorem i_rng2 {tg : Expr} (hg : Gl X "range") (hm : X.mg "range" = none) (ha : Ar X xa W [a, b] (ev g ca)) (hs : notStar a = true) (hs2 : notStar b = true) : I1 X xa W tg (.Call (.Name "range" p) [a, b] [] pos) (ev g (.itr 4 ca)) :=
  pi_w (pi_range2 hg hm ha (by rw [star_one hs, star_one hs2]; rfl) (by rw [star_one hs2]; rfl)) fun σ H R h => itr_then h (fun ds h1 ρ1 H1 vs rh rv q => by
    match ds, rv, q with
    | [d, e], rv, q =>
      obtain ⟨v, w, rfl, r1, r2⟩ := repVs_two rv
      cases r1 with
      | int i =>
        cases r2 with
        | int j =>
          have q' : (match (if (-4611686018427387904 ≤ i ∧ i < 4611686018427387904) ∧ (-4611686018427387904 ≤ j ∧ j < 4611686018427387904) then .ok (.it 1 [.int i, .int (j - i)]) h1 else .bad : Ly.R D) with
            | .ok src h' => ∀ (ρ' : List Addr) (H' : Hp) (J : It), ρ1 <+: ρ' → Ext H1 H' → RepH X.K xa ρ' H' h' → ItOk X.K xa src J ρ' H' → R J H'
            | .exc _ _ _ _ => False
            | .bad => False) := q
          by_cases c : (-4611686018427387904 ≤ i ∧ i < 4611686018427387904) ∧ (-4611686018427387904 ≤ j ∧ j < 4611686018427387904)
          · rw [if_pos c] at q'
            exact ⟨i, j, rfl, ⟨c.1.1, c.1.2, c.2.1, c.2.2⟩, q' ρ1 H1 _ (List.prefix_refl _) (Ext.refl _) rh (itok_rng i (j - i))⟩
          · rw [if_neg c] at q'; exact q'.elim
        | _ => exact q.elim
      | _ => exact q.elim
    | [], _, q => exact q.elim
    | [_], _, q => exact q.elim
    | _ :: _ :: _ :: _, _, q => exact q.elim) (itS_noexc 4)
end
end Ly
end
section
set_option Elab.async false
set_option linter.all false
set_option maxRecDepth 100000
set_option maxHeartbeats 2000000
/-! LyD: more that loops walk; starred items; xs[::-1]. -/
namespace Ly
open PySem PySem.Spec PyProof.Rows L2
section
variable {X : Cx} {xa : Xa} {W : WX} {a b c e : Expr} {es : List Expr} {pos p : Pos} {g : Gs} {ca cb cc : CE}
/-- a list, a tuple -/
theorem lst_or {K : PySem.W.Frag} {ρ : List Addr} {H : Hp} {h : AH} {d : D} {v : V} {ds : List D} (rh : RepH K xa ρ H h) (r : RepV K xa ρ H d v) (e : seqOf h d = some ds) :
    ∃ a xs, v = .ref a ∧ RepVs K xa ρ H ds xs ∧ ((isTupD d = true ∧ SqT K H a xs) ∨ (isTupD d = false ∧ SqL K H a xs)) := by
  cases r with
  | tup s r =>
    have e' : some _ = some ds := e
    cases e'
    exact ⟨_, _, rfl, r, .inl ⟨rfl, s⟩⟩
  | rol s r =>
    have e' : some _ = some ds := e
    cases e'
    exact ⟨_, _, rfl, r, .inr ⟨rfl, s.sq⟩⟩
  | @ref n a ha =>
    have e' : (match h[n]? with
      | some (.lst xs) => some xs
      | _ => none) = some ds := e
    cases q : h[n]? with
    | none => rw [q] at e'; cases e'
    | some ao =>
      rw [q] at e'
      cases ao with
      | dct _ => cases e'
      | lst xs =>
        cases e'
        obtain ⟨vs, h1, h2⟩ := rh.lst ha q
        exact ⟨_, _, rfl, h2, .inr ⟨rfl, SqL.of h1⟩⟩
  | _ => cases e
theorem lst_at {K : PySem.W.Frag} {ρ : List Addr} {H : Hp} {h : AH} {d : D} {a : Addr} {ds : List D} (rh : RepH K xa ρ H h) (r : RepV K xa ρ H d (.ref a)) (hl : isTupD d = false) (e : seqOf h d = some ds) : ∃ xs, SqL K H a xs ∧ RepVs K xa ρ H ds xs := by
  obtain ⟨a', xs, e1, r2, hh⟩ := lst_or rh r e
  cases e1
  rcases hh with ⟨z, _⟩ | ⟨_, s⟩
  · rw [hl] at z; cases z
  · exact ⟨xs, s, r2⟩
theorem tup_at {K : PySem.W.Frag} {ρ : List Addr} {H : Hp} {h : AH} {d : D} {a : Addr} {ds : List D} (rh : RepH K xa ρ H h) (r : RepV K xa ρ H d (.ref a)) (hl : isTupD d = true) (e : seqOf h d = some ds) : ∃ xs, SqT K H a xs ∧ RepVs K xa ρ H ds xs := by
  obtain ⟨a', xs, e1, r2, hh⟩ := lst_or rh r e
  cases e1
  rcases hh with ⟨_, s⟩ | ⟨z, _⟩
  · exact ⟨xs, s, r2⟩
  · rw [hl] at z; cases z
/-- a pair just made -/
theorem pair_new {K : PySem.W.Frag} {ρ : List Addr} {H H2 : Hp} {h : AH} {T : Addr} {x y : V} {d e : D} (rh : RepH K xa ρ H h) (hT : H T = none) (e2 : H2 = upd H T (.tup [x, y])) (r1 : RepV K xa ρ H d x) (r2 : RepV K xa ρ H e y) : Ext H H2 ∧ RepH K xa ρ H2 h ∧ RepV K xa ρ H2 (.tup [d, e]) (.ref T) := by
  subst e2
  obtain ⟨q1, q2⟩ := rh.tupx (xs := [x, y]) hT
  exact ⟨q2, q1, .tup (SqT.of upd_same) (.cons (r1.ext (List.prefix_refl _) q2) (.cons (r2.ext (List.prefix_refl _) q2) .nil))⟩
theorem itok_enum {K : PySem.W.Frag} {ρ : List Addr} {H : Hp} {d : D} {a : Addr} (rv : RepV K xa ρ H d (.ref a)) (hl : isTupD d = false) : ItOk K xa (.it 2 [d]) (Ite K a) ρ H := fun ρ' H' h' p e rh' i => by
  have e0 : draw h' (.it 2 [d]) i = (seqOf h' d).map fun xs => (xs[i]?).map fun x => .tup [.int i, x] := rfl
  rw [e0]
  cases q : seqOf h' d with
  | none => trivial
  | some ds =>
    obtain ⟨xs, s, r⟩ := lst_at rh' (rv.ext p e) hl q
    show match some ((ds[i]?).map fun x => D.tup [.int i, x]) with
      | none => True
      | some none => _
      | some (some d) => _
    cases q2 : ds[i]? with
    | none =>
      refine ⟨xs, s, ?_⟩
      have := List.getElem?_eq_none_iff.mp q2
      rw [← r.length]; exact this
    | some y =>
      obtain ⟨w, h1, h2⟩ := r.get q2
      refine ⟨⟨xs, w, s, h1⟩, fun x H2 ⟨T, z, e1, hT, e2, hz⟩ => ?_⟩
      subst e1
      have e3 := hz xs s
      rw [h1] at e3; cases e3
      exact pair_new rh' hT e2 (.int _) h2
theorem itok_zipL {K : PySem.W.Frag} {ρ : List Addr} {H : Hp} {d d2 : D} {a b : Addr} (rv : RepV K xa ρ H d (.ref a)) (rv2 : RepV K xa ρ H d2 (.ref b)) (hl : isTupD d = false) (hl2 : isTupD d2 = false) : ItOk K xa (.it 3 [d, d2]) (Itz K a b) ρ H := fun ρ' H' h' p e rh' i => by
  have e0 : draw h' (.it 3 [d, d2]) i = (match seqOf h' d, seqOf h' d2 with
    | some xs, some ys => some (match xs[i]?, ys[i]? with
      | some x, some y => some (.tup [x, y])
      | _, _ => none)
    | _, _ => none) := rfl
  rw [e0]
  cases q : seqOf h' d with
  | none => trivial
  | some ds =>
    cases q' : seqOf h' d2 with
    | none => trivial
    | some es =>
      obtain ⟨xs, s, r⟩ := lst_at rh' (rv.ext p e) hl q
      obtain ⟨ys, s', r'⟩ := lst_at rh' (rv2.ext p e) hl2 q'
      dsimp only
      cases q2 : ds[i]? with
      | none =>
        have := List.getElem?_eq_none_iff.mp q2
        exact ⟨xs, ys, s, s', .inl (by rw [← r.length]; exact this)⟩
      | some x =>
        cases q3 : es[i]? with
        | none =>
          have := List.getElem?_eq_none_iff.mp q3
          exact ⟨xs, ys, s, s', .inr (by rw [← r'.length]; exact this)⟩
        | some y =>
          obtain ⟨w, h1, h2⟩ := r.get q2
          obtain ⟨w', h1', h2'⟩ := r'.get q3
          refine ⟨⟨xs, ys, w, w', s, s', h1, h1'⟩, fun v H2 ⟨T, z, z', e1, hT, e2, hz, hz'⟩ => ?_⟩
          subst e1
          have e3 := hz xs s
          rw [h1] at e3; cases e3
          have e4 := hz' ys s'
          rw [h1'] at e4; cases e4
          exact pair_new rh' hT e2 h2 h2'
theorem itok_zipT {K : PySem.W.Frag} {ρ : List Addr} {H : Hp} {d d2 : D} {a b : Addr} (rv : RepV K xa ρ H d (.ref a)) (rv2 : RepV K xa ρ H d2 (.ref b)) (hl : isTupD d = true) (hl2 : isTupD d2 = true) : ItOk K xa (.it 3 [d, d2]) (RZ.ItzT K a b) ρ H := fun ρ' H' h' p e rh' i => by
  have e0 : draw h' (.it 3 [d, d2]) i = (match seqOf h' d, seqOf h' d2 with
    | some xs, some ys => some (match xs[i]?, ys[i]? with
      | some x, some y => some (.tup [x, y])
      | _, _ => none)
    | _, _ => none) := rfl
  rw [e0]
  cases q : seqOf h' d with
  | none => trivial
  | some ds =>
    cases q' : seqOf h' d2 with
    | none => trivial
    | some es =>
      obtain ⟨xs, s, r⟩ := tup_at rh' (rv.ext p e) hl q
      obtain ⟨ys, s', r'⟩ := tup_at rh' (rv2.ext p e) hl2 q'
      dsimp only
      cases q2 : ds[i]? with
      | none =>
        have := List.getElem?_eq_none_iff.mp q2
        exact ⟨xs, ys, s, s', .inl (by rw [← r.length]; exact this)⟩
      | some x =>
        cases q3 : es[i]? with
        | none =>
          have := List.getElem?_eq_none_iff.mp q3
          exact ⟨xs, ys, s, s', .inr (by rw [← r'.length]; exact this)⟩
        | some y =>
          obtain ⟨w, h1, h2⟩ := r.get q2
          obtain ⟨w', h1', h2'⟩ := r'.get q3
          refine ⟨⟨xs, ys, w, w', s, s', h1, h1'⟩, fun v H2 ⟨T, z, z', e1, hT, e2, hz, hz'⟩ => ?_⟩
          subst e1
          have e3 := hz xs s
          rw [h1] at e3; cases e3
          have e4 := hz' ys s'
          rw [h1'] at e4; cases e4
          exact pair_new rh' hT e2 h2 h2'
/-- the rest of a walk's arguments, what the interpreter makes of them in hand -/
abbrev ItP (K : PySem.W.Frag) (xa : Xa) (ρ1 : List Addr) (H1 : Hp) (R : It → Hp → Prop) (r : Ly.R D) : Prop := match r with
  | .ok src h' => ∀ (ρ' : List Addr) (H' : Hp) (J : It), ρ1 <+: ρ' → Ext H1 H' → RepH K xa ρ' H' h' → ItOk K xa src J ρ' H' → R J H'
  | .exc _ _ _ _ => False
  | .bad => False
theorem ItP.ok {K : PySem.W.Frag} {ρ1 : List Addr} {H1 : Hp} {R : It → Hp → Prop} {src : D} {h' : AH} {J : It} (h : ItP K xa ρ1 H1 R (.ok src h')) (rh : RepH K xa ρ1 H1 h') (i : ItOk K xa src J ρ1 H1) : R J H1 := h ρ1 H1 J (List.prefix_refl _) (Ext.refl _) rh i
theorem i_zip {elts : List Expr} {kk : Nat} {tpos : Pos} (hg : Gl X "zip") (hm : X.mg "zip" = none) (ha : Ar X xa W [a, b] (ev g ca)) (hs : notStar a = true) (hs2 : notStar b = true) : I1 X xa W (.Tuple elts kk tpos) (.Call (.Name "zip" p) [a, b] [] pos) (ev g (.itr 3 ca)) :=
  pi_w (RZ.pi_zipA hg hm ha (by rw [star_one hs]) (by rw [star_one hs2]; rfl)) fun σ H R h => itr_then h (fun ds h1 ρ1 H1 vs rh rv q => by
    match ds, rv, q with
    | [d, e], rv, q =>
      obtain ⟨v, w, rfl, r1, r2⟩ := repVs_two rv
      have q' : ItP X.K xa ρ1 H1 R (if (isTupD d = true ∧ isTupD e = true) ∨ (isLstD h1 d = true ∧ isLstD h1 e = true) then .ok (.it 3 [d, e]) h1 else .bad) := q
      by_cases c : (isTupD d = true ∧ isTupD e = true) ∨ (isLstD h1 d = true ∧ isLstD h1 e = true)
      · rw [if_pos c] at q'
        have sq : ∀ {d : D}, isTupD d = true ∨ isLstD h1 d = true → ∃ ds, seqOf h1 d = some ds := fun {d} z => by
          rcases z with z | z
          · cases d with
            | tup xs => exact ⟨xs, rfl⟩
            | _ => cases z
          · unfold isLstD at z
            rw [Bool.and_eq_true] at z
            exact Option.isSome_iff_exists.mp z.2
        obtain ⟨ds, s1⟩ := sq (d := d) (by rcases c with c | c; exact .inl c.1; exact .inr c.1)
        obtain ⟨es, s2⟩ := sq (d := e) (by rcases c with c | c; exact .inl c.2; exact .inr c.2)
        obtain ⟨a1, xs, rfl, k1, o1⟩ := lst_or rh r1 s1
        obtain ⟨a2, ys, rfl, k2, o2⟩ := lst_or rh r2 s2
        refine ⟨a1, a2, xs, ys, rfl, ?_⟩
        rcases c with ⟨c1, c2⟩ | ⟨c1, c2⟩
        · rcases o1 with ⟨_, t1⟩ | ⟨z, _⟩
          · rcases o2 with ⟨_, t2⟩ | ⟨z, _⟩
            · exact .inr ⟨t1, t2, q'.ok rh (itok_zipT r1 r2 c1 c2)⟩
            · rw [c2] at z; cases z
          · rw [c1] at z; cases z
        · have n1 : isTupD d = false := by unfold isLstD at c1; rw [Bool.and_eq_true] at c1; simpa using c1.1
          have n2 : isTupD e = false := by unfold isLstD at c2; rw [Bool.and_eq_true] at c2; simpa using c2.1
          rcases o1 with ⟨z, _⟩ | ⟨_, t1⟩
          · rw [n1] at z; cases z
          · rcases o2 with ⟨z, _⟩ | ⟨_, t2⟩
            · rw [n2] at z; cases z
            · exact .inl ⟨t1, t2, q'.ok rh (itok_zipL r1 r2 n1 n2)⟩
      · rw [if_neg c] at q'; exact q'.elim
    | [], _, q => exact q.elim
    | [_], _, q => exact q.elim
    | _ :: _ :: _ :: _, _, q => exact q.elim) (itS_noexc 3)
theorem itok_revL {K : PySem.W.Frag} {ρ : List Addr} {H : Hp} {d : D} {a : Addr} (n : Nat) (rv : RepV K xa ρ H d (.ref a)) (hl : isTupD d = false) : ItOk K xa (.it 5 [d, .int n]) (Itv K a n) ρ H := fun ρ' H' h' p e rh' i => by
  have e0 : draw h' (.it 5 [d, .int n]) i = (match seqOf h' d with
    | some xs => if i < (n : Int).toNat then (if xs.length = (n : Int).toNat then some (xs[(n : Int).toNat - 1 - i]?) else none) else some none
    | none => none) := rfl
  rw [e0, Int.toNat_natCast]
  cases q : seqOf h' d with
  | none => trivial
  | some ds =>
    obtain ⟨xs, s, r⟩ := lst_at rh' (rv.ext p e) hl q
    dsimp only
    by_cases c : i < n
    · rw [if_pos c]
      by_cases c2 : ds.length = n
      · rw [if_pos c2, List.getElem?_eq_getElem (by omega)]
        obtain ⟨w, h1, h2⟩ := r.get (List.getElem?_eq_getElem (show n - 1 - i < ds.length by omega))
        refine ⟨⟨c, xs, w, s, h1⟩, fun x H2 ⟨e1, hz⟩ => ?_⟩
        subst e1
        have e3 := hz xs s
        rw [h1] at e3; cases e3
        exact ⟨Ext.refl _, rh', h2⟩
      · rw [if_neg c2]; trivial
    · rw [if_neg c]
      show n ≤ i
      omega
theorem itok_revT {K : PySem.W.Frag} {ρ : List Addr} {H : Hp} {d : D} {a : Addr} (n : Nat) (rv : RepV K xa ρ H d (.ref a)) (hl : isTupD d = true) : ItOk K xa (.it 5 [d, .int n]) (RT.ItvT K a n) ρ H := fun ρ' H' h' p e rh' i => by
  have e0 : draw h' (.it 5 [d, .int n]) i = (match seqOf h' d with
    | some xs => if i < (n : Int).toNat then (if xs.length = (n : Int).toNat then some (xs[(n : Int).toNat - 1 - i]?) else none) else some none
    | none => none) := rfl
  rw [e0, Int.toNat_natCast]
  cases q : seqOf h' d with
  | none => trivial
  | some ds =>
    obtain ⟨xs, s, r⟩ := tup_at rh' (rv.ext p e) hl q
    dsimp only
    by_cases c : i < n
    · rw [if_pos c]
      by_cases c2 : ds.length = n
      · rw [if_pos c2, List.getElem?_eq_getElem (by omega)]
        obtain ⟨w, h1, h2⟩ := r.get (List.getElem?_eq_getElem (show n - 1 - i < ds.length by omega))
        refine ⟨⟨c, xs, w, s, h1⟩, fun x H2 ⟨e1, hz⟩ => ?_⟩
        subst e1
        have e3 := hz xs s
        rw [h1] at e3; cases e3
        exact ⟨Ext.refl _, rh', h2⟩
      · rw [if_neg c2]; trivial
    · rw [if_neg c]
      show n ≤ i
      omega
theorem itok_revR {K : PySem.W.Frag} {ρ : List Addr} {H : Hp} (n : Int) : ItOk K xa (.it 6 [.int n]) (Itc (0 + (((n - 0).toNat : Nat) : Int) - 1) (-1) (n - 0).toNat) ρ H := fun ρ' H' h' p e rh' i => by
  have e0 : draw h' (.it 6 [.int n]) i = some (if i < n.toNat then some (.int (n - 1 - i)) else none) := rfl
  rw [e0]
  have en : n - 0 = n := by omega
  rw [en]
  by_cases c : i < n.toNat
  · rw [if_pos c]
    refine ⟨c, fun x H2 ⟨e1, e2⟩ => ?_⟩
    subst e1 e2
    refine ⟨Ext.refl _, rh', ?_⟩
    have ez : (0 : Int) + ((n.toNat : Nat) : Int) - 1 + (i : Nat) * (-1) = n - 1 - i := by omega
    rw [ez]
    exact .int _
  · rw [if_neg c]
    show n.toNat ≤ i
    omega
/-- what follows the one argument of a walk -/
theorem itr_one {K : PySem.W.Frag} {k : Nat} {σ : St} {H : Hp} {R : It → Hp → Prop} {Q' : VK} (h : semI K xa W (ev g (.itr k (.cons ca .nil))) σ H R)
    (hk : ∀ (d : D) (h1 : AH) (ρ1 : List Addr) (H1 : Hp) (v : V), RepH K xa ρ1 H1 h1 → RepV K xa ρ1 H1 d v → ItP K xa ρ1 H1 R (it1 k d h1) → Q' v H1) : semF K xa W (ev g ca) σ H Q' := by
  obtain ⟨ρ, σd, h, rl, rh, p⟩ := h
  refine ⟨ρ, σd, h, rl, rh, ?_⟩
  cases e : ev g ca σd h with
  | bad =>
    have e0 : ev g (.itr k (.cons ca .nil)) σd h = .bad := by show ((ev g ca σd h).bind _).bind _ = _; rw [e]; rfl
    rw [e0] at p; exact p.elim
  | exc c fs vs h' =>
    have e0 : ev g (.itr k (.cons ca .nil)) σd h = .exc c fs vs h' := by show ((ev g ca σd h).bind _).bind _ = _; rw [e]; rfl
    rw [e0] at p; exact p
  | ok d h' =>
    have e0 : ev g (.itr k (.cons ca .nil)) σd h = it1 k d h' := by show ((ev g ca σd h).bind _).bind _ = _; rw [e]; rfl
    rw [e0] at p
    intro ρ1 H1 v q1 e1 rh1 rv
    refine hk d h' ρ1 H1 v rh1 rv ?_
    cases q : it1 k d h' with
    | bad => rw [q] at p; exact p.elim
    | exc c fs vs h2 => exact (itS_noexc k [d] h' c fs vs h2 q).elim
    | ok src h2 =>
      rw [q] at p
      exact fun ρ2 H2 J q2 e2 => p ρ2 H2 J (q1.trans q2) (e1.trans e2)
theorem i_rev {tg : Expr} (hg : Gl X "reversed") (hm : X.mg "reversed" = none) (ha : E1 X xa W a (ev g ca)) (hs : notStar a = true) : I1 X xa W tg (.Call (.Name "reversed" p) [a] [] pos) (ev g (.itr 5 (.cons ca .nil))) :=
  pi_w (RT.pi_revA hg hm ha (star_one hs [] _)) fun σ H R h => itr_one h fun d h1 ρ1 H1 v rh rv q => by
    have q' : ItP X.K xa ρ1 H1 R (match seqOf h1 d with
      | some xs => .ok (.it 5 [d, .int xs.length]) h1
      | none => .bad) := q
    cases s : seqOf h1 d with
    | none => rw [s] at q'; exact q'.elim
    | some ds =>
      rw [s] at q'
      obtain ⟨a1, xs, rfl, k1, o1⟩ := lst_or rh rv s
      refine ⟨a1, xs, rfl, ?_⟩
      rw [← k1.length]
      rcases o1 with ⟨c, t⟩ | ⟨c, t⟩
      · exact .inr ⟨t, q'.ok rh (itok_revT _ rv c)⟩
      · exact .inl ⟨t, q'.ok rh (itok_revL _ rv c)⟩
theorem i_revR {tg : Expr} {p2 pos2 : Pos} (hg : Gl X "reversed") (hm : X.mg "reversed" = none) (hg2 : Gl X "range") (hm2 : X.mg "range" = none) (ha : E1 X xa W a (ev g ca)) (hs : notStar a = true) : I1 X xa W tg (.Call (.Name "reversed" p) [.Call (.Name "range" p2) [a] [] pos2] [] pos) (ev g (.itr 6 (.cons ca .nil))) :=
  pi_w (pi_revR hg hm (prg_1 hg2 hm2 ha (star_one hs [] _)) rfl) fun σ H R h => itr_one h fun d h1 ρ1 H1 v rh rv q => by
    cases rv with
    | int j =>
      have q' : ItP X.K xa ρ1 H1 R (if -4611686018427387904 ≤ j ∧ j < 4611686018427387904 then .ok (.it 6 [.int j]) h1 else .bad) := q
      by_cases c : -4611686018427387904 ≤ j ∧ j < 4611686018427387904
      · rw [if_pos c] at q'
        exact ⟨j, rfl, by decide, by decide, c.1, c.2, q'.ok rh (itok_revR j)⟩
      · rw [if_neg c] at q'; exact q'.elim
    | _ => exact q.elim
theorem i_enumL {elts : List Expr} {kk : Nat} {tpos : Pos} (hg : Gl X "enumerate") (hm : X.mg "enumerate" = none) (ha : Ar X xa W [a] (ev g ca)) (hs : notStar a = true) : I1 X xa W (.Tuple elts kk tpos) (.Call (.Name "enumerate" p) [a] [] pos) (ev g (.itr 2 ca)) :=
  pi_w (L2.pi_enum hg hm ha (star_one hs [] _)) fun σ H R h => itr_then h (fun ds h1 ρ1 H1 vs rh rv q => by
    match ds, rv, q with
    | [d], rv, q =>
      obtain ⟨v, rfl, r1⟩ := repVs_one rv
      have q' : ItP X.K xa ρ1 H1 R (if isLstD h1 d = true then .ok (.it 2 [d]) h1 else .bad) := q
      by_cases c : isLstD h1 d = true
      · rw [if_pos c] at q'
        unfold isLstD at c
        rw [Bool.and_eq_true] at c
        obtain ⟨ds, s⟩ := Option.isSome_iff_exists.mp c.2
        have n : isTupD d = false := by simpa using c.1
        obtain ⟨a1, xs, rfl, k1, o1⟩ := lst_or rh r1 s
        rcases o1 with ⟨z, _⟩ | ⟨_, t⟩
        · rw [n] at z; cases z
        · exact ⟨a1, xs, rfl, t, q'.ok rh (itok_enum r1 n)⟩
      · rw [if_neg c] at q'; exact q'.elim
    | [], _, q => exact q.elim
    | [_, _], _, q => exact q.elim
    | _ :: _ :: _ :: _, _, q => exact q.elim) (itS_noexc 2)
/-! ### starred items, a list from behind -/
theorem a_consS {es : List Expr} {p2 : Pos} (ha : E1 X xa W a (ev g ca)) (hr : Ar X xa W es (ev g cb)) : Ar X xa W (.Starred a p2 :: es) (ev g (.consS ca cb)) :=
  pa_w (StX.pa_star ha hr rfl) fun σ H Q ⟨ρ, σd, h, rl, rh, p⟩ => by
    refine ⟨ρ, σd, h, rl, rh, PostA.bind0 p fun d h1 ρ1 H1 v q1 e1 rh1 rv p1 => ?_⟩
    cases s : seqOf h1 d with
    | none => rw [s] at p1; exact p1.elim
    | some xs =>
      rw [s] at p1
      dsimp only at p1
      obtain ⟨a1, ys, rfl, k1, o1⟩ := lst_or rh1 rv s
      refine ⟨a1, ys, rfl, ?_, ρ1, σd, h1, rl.ext q1 e1, rh1, PostA.bindA p1 fun ds h2 ρ2 H2 vs q2 e2 rh2 rvs p2 => ?_⟩
      · rcases o1 with ⟨_, t⟩ | ⟨_, t⟩
        · exact .inl t
        · exact .inr t
      · exact p2 ρ2 H2 (ys ++ vs) (List.prefix_refl _) (Ext.refl _) rh2 ((k1.ext q2 e2).append rvs)
theorem e_rev {k : Nat} {p1 p2 p3 : Pos} (ha : E1 X xa W a (ev g ca)) : E1 X xa W (.Subscript a (.Slice none none (some (.UnaryOp .USub (.Constant (.int 1) k p1) p2)) p3) pos) (ev g (.rev ca)) :=
  pe_w (pe_revL ha) fun σ H Q ⟨ρ, σd, h, rl, rh, p⟩ => by
    refine semF.then rl rh p fun d h1 ρ1 H1 v q1 e1 rl1 rh1 rv p1 => ?_
    by_cases c : isLstD h1 d = true
    · rw [if_pos c] at p1
      unfold isLstD at c
      rw [Bool.and_eq_true] at c
      obtain ⟨ds, s⟩ := Option.isSome_iff_exists.mp c.2
      have n : isTupD d = false := by simpa using c.1
      rw [s] at p1
      dsimp only at p1
      obtain ⟨a1, xs, rfl, k1, o1⟩ := lst_or rh1 rv s
      rcases o1 with ⟨z, _⟩ | ⟨_, t⟩
      · rw [n] at z; cases z
      · exact ⟨a1, xs, rfl, t, fun q hq => p1.new rh1 hq k1.reverse⟩
    · rw [if_neg c] at p1; exact p1.elim
end
end Ly
end
section
set_option Elab.async false
set_option linter.all false
set_option maxRecDepth 100000
set_option maxHeartbeats 1000000
/-! Ly9: targets, statements. -/
namespace Ly
open PySem PySem.Spec PyProof.Rows L2
theorem wipe_get {σ : St} {j : Nat} : ∀ {vs : List Nat}, (wipe σ vs)[j]? = if j ∈ vs then (σ[j]?).map (fun _ => none) else σ[j]?
  | [] => by simp [wipe]
  | v :: vs => by
    unfold wipe
    by_cases hj : v = j
    · subst hj
      rw [if_pos (by simp)]
      by_cases hl : v < (wipe σ vs).length
      · rw [List.getElem?_set_self hl]
        rw [wipe_length] at hl
        rw [List.getElem?_eq_getElem hl]; rfl
      · rw [List.getElem?_eq_none (by rw [List.length_set]; omega)]
        rw [wipe_length] at hl
        rw [List.getElem?_eq_none (by omega)]; rfl
    · rw [List.getElem?_set_ne hj, wipe_get (vs := vs)]
      by_cases hm : j ∈ vs
      · rw [if_pos hm, if_pos (List.mem_cons_of_mem _ hm)]
      · rw [if_neg hm, if_neg (by simp only [List.mem_cons, not_or]; exact ⟨fun z => hj z.symm, hm⟩)]
theorem wipe_set {σ : St} {i : Nat} {o : Option V} {vs : List Nat} (h : i ∈ vs) : wipe (σ.set i o) vs = wipe σ vs := by
  apply List.ext_getElem?
  intro j
  rw [wipe_get, wipe_get]
  by_cases hj : j ∈ vs
  · rw [if_pos hj, if_pos hj]
    by_cases hij : i = j
    · subst hij
      by_cases hl : i < σ.length
      · rw [List.getElem?_set_self hl, List.getElem?_eq_getElem hl]; rfl
      · rw [List.getElem?_eq_none (by rw [List.length_set]; omega), List.getElem?_eq_none (by omega)]
    · rw [List.getElem?_set_ne hij]
  · rw [if_neg hj, if_neg hj, List.getElem?_set_ne (fun z => hj (by rw [← z]; exact h))]
theorem wipe_idem (σ : St) (vs : List Nat) : wipe (wipe σ vs) vs = wipe σ vs := by
  apply List.ext_getElem?
  intro j
  rw [wipe_get, wipe_get]
  by_cases hj : j ∈ vs
  · rw [if_pos hj, if_pos hj, Option.map_map]; rfl
  · rw [if_neg hj, if_neg hj]
theorem Rel.wipe {K : PySem.W.Frag} {xa : Xa} {ρ : List Addr} {H : Hp} {σd : Sg} {σ : St} (r : Rel K xa ρ H σd σ) : ∀ (vs : List Nat), (∀ v ∈ vs, XaIx xa v) → Rel K xa ρ H (wipeD σd vs) (L2.wipe σ vs)
  | [], _ => r
  | v :: vs, h => Rel.unset v (h v (List.mem_cons_self ..)) (Rel.wipe r vs fun w hw => h w (List.mem_cons_of_mem _ hw))
section
variable {X : Cx} {xa : Xa} {W : WX} {a b c e : Expr} {es : List Expr} {pos p : Pos} {g : Gs} {ca cb cc : CE}
/-! ### targets -/
def semG (K : PySem.W.Frag) (xa : Xa) (p : Pat) : TG := fun v σ H Q => ∃ (ρ : List Addr) (σd : Sg) (h : AH) (d : D), Rel K xa ρ H σd σ ∧ RepH K xa ρ H h ∧ RepV K xa ρ H d v ∧ ∃ σd', bindP p d σd = some σd' ∧ ∀ σ', Rel K xa ρ H σd' σ' → (∀ vs : List Nat, (∀ i ∈ slots p, i ∈ vs) → wipe σ' vs = wipe σ vs) → Q σ' H
def semGs (K : PySem.W.Frag) (xa : Xa) (p : Pat) : TGs := fun vs σ H Q => ∃ (ρ : List Addr) (σd : Sg) (h : AH) (ds : List D), Rel K xa ρ H σd σ ∧ RepH K xa ρ H h ∧ RepVs K xa ρ H ds vs ∧ ∃ σd', bindPs p ds σd = some σd' ∧ ∀ σ', Rel K xa ρ H σd' σ' → (∀ vs : List Nat, (∀ i ∈ slots p, i ∈ vs) → wipe σ' vs = wipe σ vs) → Q σ' H
theorem pg_w {tg : Expr} {t t' : TG} (h : PG X tg t) (w : ∀ v σ H Q, t' v σ H Q → t v σ H Q) : PG X tg t' := ⟨fun pins s σ H v u Q I r q => h.run pins s σ H v u Q I r (w v σ H Q q)⟩
theorem pgs_w {tg : List Expr} {t t' : TGs} (h : PGs X tg t) (w : ∀ v σ H Q, t' v σ H Q → t v σ H Q) : PGs X tg t' := ⟨fun pins s σ H v u Q I r q => h.run pins s σ H v u Q I r (w v σ H Q q)⟩
abbrev G1 (X : Cx) (xa : Xa) (tg : Expr) (p : Pat) : Prop := PG X tg (semG X.K xa p)
abbrev Gs1 (X : Cx) (xa : Xa) (tg : List Expr) (p : Pat) : Prop := PGs X tg (semGs X.K xa p)
theorem g_v {i : Nat} {x : Str} (hxi : XaIx xa i) (hN : X.N.Nodup) (hi : X.N[i]? = some x) (hx : Loc X.env.scope x) (hf : X.fn x = true ∨ X.env.scope.names.lookup x = some .local) : G1 X xa (.Name x pos) (.v i) :=
  pg_w (pg_name hN hi hx hf) fun v σ H Q ⟨ρ, σd, h, d, rl, rh, rv, σd', e, q⟩ => by
    cases e
    exact q _ (rl.set rv i hxi) fun vs hv => wipe_set (hv i (by simp [slots]))
theorem gs_nil : Gs1 X xa [] .nil := pgs_w pgs_nil fun v σ H Q ⟨ρ, σd, h, ds, rl, rh, rv, σd', e, q⟩ => by
  cases ds with
  | cons => cases e
  | nil =>
    cases rv
    cases e
    exact ⟨rfl, q _ rl fun _ _ => rfl⟩
theorem asgEach_one {e : Expr} (h : notStar e = true) (es : List Expr) (env : Env) : assignEach (e :: es) env = (false, assign e env) :: assignEach es env := by
  cases e <;> first | rfl | cases h
theorem asgEach_len (env : Env) : ∀ {es : List Expr}, (assignEach es env).length = es.length
  | [] => rfl
  | e :: r => by cases e <;> exact congrArg Nat.succ (asgEach_len env)
theorem asgEach_find {es : List Expr} (h : notStars es = true) (env : Env) : (assignEach es env).findIdx? (·.1) = none := by
  rw [List.findIdx?_eq_none_iff]
  intro x hx
  induction es with
  | nil => cases hx
  | cons e r ih =>
    have h' : notStar e = true ∧ notStars r = true := by simpa [notStars] using h
    rw [asgEach_one h'.1] at hx
    rcases List.mem_cons.mp hx with rfl | hx
    · rfl
    · exact ih h'.2 hx
theorem gs_cons {p r : Pat} (h1 : G1 X xa e p) (h2 : Gs1 X xa es r) (hs : notStar e = true) : Gs1 X xa (e :: es) (.cons p r) :=
  pgs_w (pgs_cons h1 h2 (by rw [asgEach_one hs]; rfl)) fun v σ H Q ⟨ρ, σd, h, ds, rl, rh, rv, σd', e, q⟩ => by
    cases ds with
    | nil => cases e
    | cons d ds =>
      cases rv with
      | cons r1 r2 =>
        have e' : (match bindP p d σd with
          | some σ' => bindPs r ds σ'
          | none => none) = some σd' := e
        cases z : bindP p d σd with
        | none => rw [z] at e'; cases e'
        | some σ1 =>
          rw [z] at e'
          refine ⟨_, _, rfl, ρ, σd, h, d, rl, rh, r1, σ1, z, fun σ2 rl2 w2 => ?_⟩
          refine ⟨ρ, σ1, h, ds, rl2, rh, r2, σd', e', fun σ3 rl3 w3 => q σ3 rl3 fun vs hv => ?_⟩
          rw [w3 vs fun i hi => hv i (by simp [slots, hi]), w2 vs fun i hi => hv i (by simp [slots, hi])]
def patLen : Pat → Option Nat
  | .nil => some 0
  | .cons _ r => (patLen r).map (· + 1)
  | _ => none
theorem bindPs_len : ∀ {p : Pat} {n : Nat}, patLen p = some n → ∀ {ds : List D} {σ σ' : Sg}, bindPs p ds σ = some σ' → ds.length = n := by
  intro p
  induction p with
  | nil =>
    intro n e ds σ σ' q
    cases e
    cases ds with
    | nil => rfl
    | cons => cases q
  | cons a r ih1 ih2 =>
    intro n e ds σ σ' q
    have e' : (patLen r).map (· + 1) = some n := e
    cases z : patLen r with
    | none => rw [z] at e'; cases e'
    | some m =>
      rw [z] at e'
      cases e'
      cases ds with
      | nil => cases q
      | cons d ds =>
        have q' : (match bindP a d σ with
          | some σ1 => bindPs r ds σ1
          | none => none) = some σ' := q
        cases y : bindP a d σ with
        | none => rw [y] at q'; cases q'
        | some σ1 =>
          rw [y] at q'
          exact congrArg (· + 1) (ih2 z q')
  | _ => intro n e; cases e
theorem g_tup {r : Pat} {k : Nat} (hc : X.calm = true) (h : Gs1 X xa es r) (hs : notStars es = true) (hl : patLen r = some es.length) : G1 X xa (.Tuple es k pos) (.tup r) :=
  pg_w (pg_tup hc h (n := es.length) (asgEach_len _) (asgEach_find hs _)) fun v σ H Q ⟨ρ, σd, h, d, rl, rh, rv, σd', e, q⟩ => by
    cases rv with
    | @tup ds xs a s r1 =>
      have e' : bindPs r ds σd = some σd' := e
      refine ⟨a, xs, rfl, s, ?_, ρ, σd, h, ds, rl, rh, r1, σd', e', q⟩
      rw [← r1.length]
      exact bindPs_len hl e'
    | _ => cases e
/-! ### statements -/
def PostS (K : PySem.W.Frag) (xa : Xa) (W : WX) (D' : Ends) (ρ : List Addr) (H : Hp) (r : RS) : Prop := match r with
  | .nx σd h' => ∀ (ρ' : List Addr) (H' : Hp) (σ' : St), ρ <+: ρ' → Ext H H' → RepH K xa ρ' H' h' → Rel K xa ρ' H' σd σ' → D'.nx σ' H'
  | .bk σd h' => ∀ (ρ' : List Addr) (H' : Hp) (σ' : St), ρ <+: ρ' → Ext H H' → RepH K xa ρ' H' h' → Rel K xa ρ' H' σd σ' → D'.bk σ' H'
  | .ct σd h' => ∀ (ρ' : List Addr) (H' : Hp) (σ' : St), ρ <+: ρ' → Ext H H' → RepH K xa ρ' H' h' → Rel K xa ρ' H' σd σ' → D'.ct σ' H'
  | .rt d h' => ∀ (ρ' : List Addr) (H' : Hp) (v : V), ρ <+: ρ' → Ext H H' → RepH K xa ρ' H' h' → RepV K xa ρ' H' d v → D'.rt v H'
  | .exc c fs vs σd h' => ∀ (ρ' : List Addr) (H' : Hp) (σ' : St) (dd : Addr) (xs : List (Str × V)), ρ <+: ρ' → Ext H H' → RepH K xa ρ' H' h' → Rel K xa ρ' H' σd σ' → H' dd = some (.xd xs) → xs.map (·.1) = fs → RepVs K xa ρ' H' vs (xs.map (·.2)) → W (.ref (He.ga K c)) (some dd) σ' H'
  | .bad => False
theorem PostS.shift {K : PySem.W.Frag} {D' : Ends} {ρ ρ' : List Addr} {H H' : Hp} {r : RS} (p : ρ <+: ρ') (e : Ext H H') (h : PostS K xa W D' ρ H r) : PostS K xa W D' ρ' H' r := by
  cases r with
  | nx σd h' => exact fun ρ2 H2 v p2 e2 => h ρ2 H2 v (p.trans p2) (e.trans e2)
  | bk σd h' => exact fun ρ2 H2 v p2 e2 => h ρ2 H2 v (p.trans p2) (e.trans e2)
  | ct σd h' => exact fun ρ2 H2 v p2 e2 => h ρ2 H2 v (p.trans p2) (e.trans e2)
  | rt σd h' => exact fun ρ2 H2 v p2 e2 => h ρ2 H2 v (p.trans p2) (e.trans e2)
  | exc c fs vs σd h' => exact fun ρ2 H2 v dd xs p2 e2 => h ρ2 H2 v dd xs (p.trans p2) (e.trans e2)
  | bad => exact h
abbrev FnS := Sg → AH → RS
def semS (K : PySem.W.Frag) (xa : Xa) (W : WX) (f : FnS) : TS := fun D' σ H => ∃ (ρ : List Addr) (σd : Sg) (h : AH), Rel K xa ρ H σd σ ∧ RepH K xa ρ H h ∧ PostS K xa W D' ρ H (f σd h)
abbrev S1 (X : Cx) (xa : Xa) (W : WX) (st : Stmt) (f : FnS) : Prop := PS X st (semS X.K xa W f)
abbrev Ss1 (X : Cx) (xa : Xa) (W : WX) (st : List Stmt) (f : FnS) : Prop := PSs X st (semS X.K xa W f)
/-- an expression, then what follows -/
theorem evS_then {K : PySem.W.Frag} {f : Fn} {k : D → AH → RS} {D' : Ends} {σ : St} {H : Hp} {Q' : VK} {ρ : List Addr} {σd : Sg} {h : AH} (rl : Rel K xa ρ H σd σ) (rh : RepH K xa ρ H h)
    (p : PostS K xa W D' ρ H (evS (f σd h) σd k))
    (hk : ∀ d h1 ρ1 H1 v, ρ <+: ρ1 → Ext H H1 → Rel K xa ρ1 H1 σd σ → RepH K xa ρ1 H1 h1 → RepV K xa ρ1 H1 d v → PostS K xa W D' ρ1 H1 (k d h1) → Q' v H1) : semF K xa W f σ H Q' := by
  refine ⟨ρ, σd, h, rl, rh, ?_⟩
  cases e : f σd h with
  | bad => rw [e] at p; exact p.elim
  | exc c fs vs h' =>
    rw [e] at p
    exact fun ρ1 H1 dd xs q1 e1 rh1 => p ρ1 H1 σ dd xs q1 e1 rh1 (rl.ext q1 e1)
  | ok d h' =>
    rw [e] at p
    exact fun ρ1 H1 v q1 e1 rh1 rv => hk d h' ρ1 H1 v q1 e1 (rl.ext q1 e1) rh1 rv (PostS.shift q1 e1 (show PostS K xa W D' ρ H (k d h') from p))
theorem s_nil : Ss1 X xa W [] (exec g .skip) := pss_w pss_nil fun D' σ H ⟨ρ, σd, h, rl, rh, p⟩ => p ρ H σ (List.prefix_refl _) (Ext.refl _) rh rl
theorem s_pass : S1 X xa W (.Pass pos) (exec g .skip) := ps_w ps_pass fun D' σ H ⟨ρ, σd, h, rl, rh, p⟩ => p ρ H σ (List.prefix_refl _) (Ext.refl _) rh rl
theorem s_brk : S1 X xa W (.Break pos) (exec g .brk) := ps_w ps_break fun D' σ H ⟨ρ, σd, h, rl, rh, p⟩ => p ρ H σ (List.prefix_refl _) (Ext.refl _) rh rl
theorem s_cnt : S1 X xa W (.Continue pos) (exec g .cnt) := ps_w ps_continue fun D' σ H ⟨ρ, σd, h, rl, rh, p⟩ => p ρ H σ (List.prefix_refl _) (Ext.refl _) rh rl
theorem s_cons {st : Stmt} {rest : List Stmt} {ia ib : CS} (h1 : S1 X xa W st (exec g ia)) (h2 : Ss1 X xa W rest (exec g ib)) : Ss1 X xa W (st :: rest) (exec g (.seq ia ib)) :=
  pss_w (pss_cons h1 h2) fun D' σ H ⟨ρ, σd, h, rl, rh, p⟩ => by
    refine ⟨ρ, σd, h, rl, rh, ?_⟩
    have p' : PostS X.K xa W D' ρ H (seqS (exec g ia σd h) (exec g ib)) := p
    cases e : exec g ia σd h with
    | nx σ1 h1 =>
      rw [e] at p'
      exact fun ρ1 H1 σ' q1 e1 rh1 rl1 => ⟨ρ1, σ1, h1, rl1, rh1, PostS.shift q1 e1 (show PostS X.K xa W D' ρ H (exec g ib σ1 h1) from p')⟩
    | bk => rw [e] at p'; exact p'
    | ct => rw [e] at p'; exact p'
    | rt => rw [e] at p'; exact p'
    | exc => rw [e] at p'; exact p'
    | bad => rw [e] at p'; exact p'.elim
/-- no comprehension as a value -/
def notComp : Expr → Bool
  | .ListComp _ _ _ _ => false
  | .SetComp _ _ _ _ => false
  | .DictComp _ _ _ _ _ => false
  | _ => true
theorem swaps_no {e : Expr} (h : notComp e = true) (t : Option Expr) (l : Nat) (env : Env) : swapsWith e t l env = pure false := by
  cases e <;> first | rfl | cases h
theorem s_ex (ha : E1 X xa W e (ev g ca)) (hc : notComp e = true) : S1 X xa W (.Expr e pos) (exec g (.ex ca)) :=
  ps_w (ps_expr ha (swaps_no hc _ _ _)) fun D' σ H ⟨ρ, σd, h, rl, rh, p⟩ =>
    evS_then rl rh p fun d h1 ρ1 H1 v q1 e1 rl1 rh1 rv p1 => p1 ρ1 H1 σ (List.prefix_refl _) (Ext.refl _) rh1 rl1
theorem s_ret (ha : E1 X xa W e (ev g ca)) : S1 X xa W (.Return (some e) pos) (exec g (.ret ca)) :=
  ps_w (ps_ret ha) fun D' σ H ⟨ρ, σd, h, rl, rh, p⟩ =>
    evS_then rl rh p fun d h1 ρ1 H1 v q1 e1 rl1 rh1 rv p1 => p1 ρ1 H1 v (List.prefix_refl _) (Ext.refl _) rh1 rv
theorem s_retN : S1 X xa W (.Return none pos) (exec g .retN) :=
  ps_w ps_retN fun D' σ H ⟨ρ, σd, h, rl, rh, p⟩ => p ρ H .non (List.prefix_refl _) (Ext.refl _) rh .non
theorem asg_of {pt : Pat} {D' : Ends} {σ : St} {H : Hp} (h : semS X.K xa W (exec g (.asg pt ca)) D' σ H) : tAsg (semF X.K xa W (ev g ca)) (semG X.K xa pt) D' σ H := by
  obtain ⟨ρ, σd, h, rl, rh, p⟩ := h
  refine evS_then rl rh p fun d h1 ρ1 H1 v q1 e1 rl1 rh1 rv p1 => ?_
  cases z : bindP pt d σd with
  | none => rw [z] at p1; exact p1.elim
  | some σ1 =>
    rw [z] at p1
    exact ⟨ρ1, σd, h1, d, rl1, rh1, rv, σ1, z, fun σ' rl2 _ => p1 ρ1 H1 σ' (List.prefix_refl _) (Ext.refl _) rh1 rl2⟩
theorem pg_name' {i : Nat} {x : Str} (hxi : XaIx xa i) (v : V) (σ : St) (H : Hp) (Q : St → Hp → Prop) (h : semG X.K xa (.v i) v σ H Q) : gName i v σ H Q := by
  obtain ⟨ρ, σd, h, d, rl, rh, rv, σd', e, q⟩ := h
  cases e
  exact q _ (rl.set rv i hxi) fun vs hv => wipe_set (hv i (by simp [slots]))
theorem s_set {i : Nat} {x : Str} {pos' : Pos} (hxi : XaIx xa i) (hN : X.N.Nodup) (hi : X.N[i]? = some x) (hx : Loc X.env.scope x) (hf : X.fn x = true ∨ X.env.scope.names.lookup x = some .local) (ha : E1 X xa W e (ev g ca)) (hc : notComp e = true) :
    S1 X xa W (.Assign [.Name x pos'] e pos) (exec g (.asg (.v i) ca)) :=
  ps_w (ps_set hN hi hx ha (swaps_no hc _ _ _) hf) fun D' σ H h => by
    obtain ⟨ρ, σd, h, rl, rh, p⟩ := asg_of h
    refine ⟨ρ, σd, h, rl, rh, p.imp fun v H1 q => pg_name' (x := x) hxi v σ H1 _ q⟩
def notTup : Expr → Bool
  | .Tuple _ _ _ => false
  | _ => true
theorem swapped_no {tg e : Expr} (h : notTup e = true) (env : Env) : swappedStores [tg] e env = pure none := by
  cases e with
  | Tuple => cases h
  | _ => cases tg <;> rfl
theorem s_asg {pt : Pat} {tg : Expr} (hg : G1 X xa tg pt) (hst : notStar tg = true) (ha : E1 X xa W e (ev g ca)) (hc : notComp e = true) (ht : notTup e = true) : S1 X xa W (.Assign [tg] e pos) (exec g (.asg pt ca)) :=
  ps_w (ps_asg ha hg (swaps_no hc _ _ _) (swapped_no ht _) (by rw [asgEach_one hst]; rfl)) fun D' σ H h => asg_of h
theorem s_if {sa sb : List Stmt} {ia ib : CS} (hc : T1 X xa W c (ev g cc)) (ha : Ss1 X xa W sa (exec g ia)) (hb : Ss1 X xa W sb (exec g ib)) : S1 X xa W (.If c sa sb pos) (exec g (.ifS cc ia ib)) :=
  ps_w (ps_if hc ha hb) fun D' σ H ⟨ρ, σd, h, rl, rh, p⟩ => by
    refine evS_then (W := W) rl rh p fun d h1 ρ1 H1 v q1 e1 rl1 rh1 rv p1 => ?_
    cases rv with
    | bl b =>
      refine ⟨b, rfl, ?_⟩
      cases b with
      | true => exact iteT ⟨ρ1, σd, h1, rl1, rh1, p1⟩
      | false => exact iteF ⟨ρ1, σd, h1, rl1, rh1, p1⟩
    | _ => exact p1.elim
/-! ### loops -/
theorem s_whl {sa : List Stmt} {ia : CS} (hp : PassesOwn (model X.prog X.w) X.A X.env X.xe) (hc : T1 X xa W c (ev g cc)) (ha : Ss1 X xa W sa (exec g ia)) : S1 X xa W (.While c sa [] pos) (exec g (.whl cc ia)) :=
  ps_w (ps_while hp hc ha) fun D' σ H ⟨ρ, σd, h, rl, rh, p⟩ => by
    refine ⟨fun m σ H => ∃ (ρ : List Addr) (σd : Sg) (h : AH), Rel X.K xa ρ H σd σ ∧ RepH X.K xa ρ H h ∧ PostS X.K xa W D' ρ H (whlLoop (ev g cc) (exec g ia) m σd h), ⟨wf, ρ, σd, h, rl, rh, p⟩, ?_⟩
    rintro m σ H ⟨ρ, σd, h, rl, rh, p⟩
    cases m with
    | zero => exact p.elim
    | succ f =>
      refine ⟨ρ, σd, h, rl, rh, ?_⟩
      unfold whlLoop at p
      cases e : ev g cc σd h with
      | bad => rw [e] at p; exact p.elim
      | exc c fs vs h' =>
        rw [e] at p
        exact fun ρ1 H1 dd xs q1 e1 rh1 => p ρ1 H1 σ dd xs q1 e1 rh1 (rl.ext q1 e1)
      | ok d h' =>
        rw [e] at p
        intro ρ1 H1 v q1 e1 rh1 rv
        have p := PostS.shift q1 e1 p
        cases rv with
        | bl b =>
          refine ⟨b, rfl, ?_⟩
          cases b with
          | false =>
            rw [if_neg Bool.false_ne_true]
            exact p ρ1 H1 σ (List.prefix_refl _) (Ext.refl _) rh1 (rl.ext q1 e1)
          | true =>
            rw [if_pos rfl]
            refine ⟨fun σ' H' => ∃ (ρ : List Addr) (σd : Sg) (h : AH), Rel X.K xa ρ H' σd σ' ∧ RepH X.K xa ρ H' h ∧ PostS X.K xa W D' ρ H' (whlLoop (ev g cc) (exec g ia) f σd h), fun σ' H' z => ⟨f, Nat.lt_succ_self f, z⟩, ρ1, σd, h', rl.ext q1 e1, rh1, ?_⟩
            dsimp only at p
            cases e2 : exec g ia σd h' with
            | nx σ2 h2 =>
              rw [e2] at p
              exact fun ρ2 H2 σ' q2 e2 rh2 rl2 => ⟨ρ2, σ2, h2, rl2, rh2, PostS.shift q2 e2 p⟩
            | ct σ2 h2 =>
              rw [e2] at p
              exact fun ρ2 H2 σ' q2 e2 rh2 rl2 => ⟨ρ2, σ2, h2, rl2, rh2, PostS.shift q2 e2 p⟩
            | bk σ2 h2 => rw [e2] at p; exact p
            | rt d h2 => rw [e2] at p; exact p
            | exc => rw [e2] at p; exact p
            | bad => rw [e2] at p; exact p.elim
        | _ => exact p.elim
def plainIter : Expr → Bool
  | .Set _ _ _ => false
  | _ => true
theorem folded_no {e : Expr} (h : plainIter e = true) (env : Env) (x : Value) : foldedSetIterable e env x = pure x := by
  cases e <;> first | rfl | cases h
theorem s_for {tg it : Expr} {sa : List Stmt} {pt : Pat} {ia : CS} (hp : PassesOwn (model X.prog X.w) X.A X.env X.xe) (hc : X.calm = true) (hi : I1 X xa W tg it (ev g cc)) (hg : G1 X xa tg pt) (ha : Ss1 X xa W sa (exec g ia)) (hs : plainIter it = true) : S1 X xa W (.For tg it sa [] pos) (exec g (.for_ pt cc ia)) :=
  ps_w (ps_for hp hc hi hg ha (folded_no hs _)) fun D' σ H ⟨ρ, σd, h, rl, rh, p⟩ => by
    refine ⟨ρ, σd, h, rl, rh, ?_⟩
    have p : PostS X.K xa W D' ρ H (evS (ev g cc σd h) σd fun src h1 => forLoop pt (exec g ia) src wf 0 σd h1) := p
    cases e : ev g cc σd h with
    | bad => rw [e] at p; exact p.elim
    | exc c fs vs h' =>
      rw [e] at p
      exact fun ρ1 H1 dd xs q1 e1 rh1 => p ρ1 H1 σ dd xs q1 e1 rh1 (rl.ext q1 e1)
    | ok src h' =>
      rw [e] at p
      intro ρ1 H1 J q1 e1 rh1 ok
      have p : PostS X.K xa W D' ρ1 H1 (forLoop pt (exec g ia) src wf 0 σd h') := PostS.shift q1 e1 p
      refine ⟨fun i m σ H => ∃ (ρ : List Addr) (σd : Sg) (h : AH), Rel X.K xa ρ H σd σ ∧ RepH X.K xa ρ H h ∧ ItOk X.K xa src J ρ H ∧ PostS X.K xa W D' ρ H (forLoop pt (exec g ia) src m i σd h), ⟨wf, ρ1, σd, h', rl.ext q1 e1, rh1, ok, p⟩, ?_⟩
      rintro i m σ H ⟨ρ, σd, h, rl, rh, ok, p⟩
      cases m with
      | zero => exact p.elim
      | succ f =>
        unfold forLoop at p
        have ok1 := ok ρ H h (List.prefix_refl _) (Ext.refl _) rh i
        cases e : draw h src i with
        | none => rw [e] at p; exact p.elim
        | some o =>
          rw [e] at p ok1
          cases o with
          | none => exact .inl ⟨ok1, p ρ H σ (List.prefix_refl _) (Ext.refl _) rh rl⟩
          | some d =>
            obtain ⟨go, yld⟩ := ok1
            refine .inr ⟨go, fun σ' H' => ∃ (ρ : List Addr) (σd : Sg) (h : AH), Rel X.K xa ρ H' σd σ' ∧ RepH X.K xa ρ H' h ∧ ItOk X.K xa src J ρ H' ∧ PostS X.K xa W D' ρ H' (forLoop pt (exec g ia) src f (i + 1) σd h), fun σ' H' z => ⟨f, Nat.lt_succ_self f, z⟩, fun x H2 hy => ?_⟩
            obtain ⟨e2, rh2, rv⟩ := yld x H2 hy
            have p := PostS.shift (List.prefix_refl _) e2 p
            dsimp only at p
            cases eb : bindP pt d σd with
            | none => rw [eb] at p; exact p.elim
            | some σ1 =>
              rw [eb] at p
              dsimp only at p
              refine ⟨ρ, σd, h, d, rl.ext (List.prefix_refl _) e2, rh2, rv, σ1, eb, fun σ' rl1 _ => ⟨ρ, σ1, h, rl1, rh2, ?_⟩⟩
              have okk := ok.ext (List.prefix_refl _) e2
              cases ee : exec g ia σ1 h with
              | nx σ2 h2 =>
                rw [ee] at p
                exact fun ρ2 H3 σ' q3 e3 rh3 rl3 => ⟨ρ2, σ2, h2, rl3, rh3, okk.ext q3 e3, PostS.shift q3 e3 p⟩
              | ct σ2 h2 =>
                rw [ee] at p
                exact fun ρ2 H3 σ' q3 e3 rh3 rl3 => ⟨ρ2, σ2, h2, rl3, rh3, okk.ext q3 e3, PostS.shift q3 e3 p⟩
              | bk σ2 h2 => rw [ee] at p; exact p
              | rt d h2 => rw [ee] at p; exact p
              | exc => rw [ee] at p; exact p
              | bad => rw [ee] at p; exact p.elim
/-! ### stores to places -/
theorem set_ok : PSet X (fun o i v H Q => ∃ (ρ : List Addr) (h : AH) (x y z : D), RepH X.K xa ρ H h ∧ RepV X.K xa ρ H x o ∧ RepV X.K xa ρ H y i ∧ RepV X.K xa ρ H z v ∧ ∃ h', setS x y z h = some h' ∧ ∀ H', Ext H H' → RepH X.K xa ρ H' h' → Q H') := by
  intro pins s σ H o i v ov iv u Q I ro ri rv ⟨ρ, h, x, y, z, rh, rx, ry, rz, h', e, q⟩
  cases rx with
  | @ref n a ha =>
    cases ry with
    | int k =>
      have e' : (match h[n]? with
        | some (.lst xs) => (match ixOf xs.length k with
          | some j => some (h.set n (.lst (xs.set j z)))
          | none => none)
        | _ => none) = some h' := e
      cases q1 : h[n]? with
      | none => rw [q1] at e'; cases e'
      | some ao =>
        cases ao with
        | dct => rw [q1] at e'; cases e'
        | lst xs =>
          rw [q1] at e'
          dsimp only at e'
          cases q2 : ixOf xs.length k with
          | none => rw [q2] at e'; cases e'
          | some j =>
            rw [q2] at e'
            cases e'
            obtain ⟨ys, h1, r⟩ := rh.lst ha q1
            have q2' : ixN xs.length k = some j := q2
            obtain ⟨w1, w2⟩ := rh.write (ao := .lst (xs.set j z)) (o := .lst (ys.set j v)) ha ⟨_, rfl, r.set rz j⟩
            exact set_list pins s σ H _ _ _ ov iv u Q I ro ri rv ⟨a, ys, k, j, rfl, rfl, h1, by rw [← r.length]; exact q2', q _ w2 w1⟩
    | _ => cases e
  | _ => cases e
theorem sub_asg {o i : Expr} (hs : notSlice i = true) (env : Env) (v : Value) : assign (.Subscript o i pos) env v = (do
      let ov ← holding [v] (eval o env)
      let iv ← holding [v, ov] (eval i env)
      standAt pos
      holding [v, ov, iv] (setItem ov iv v)
      release [v, ov, iv] []) := by
  cases i <;> first | rfl | cases hs
theorem s_setI {o i : Expr} {spos : Pos} (hv : E1 X xa W e (ev g ca)) (ho : E1 X xa W o (ev g cb)) (hi : E1 X xa W i (ev g cc)) (hs : notSlice i = true) (hc : notComp e = true) (ht : notTup e = true) : S1 X xa W (.Assign [.Subscript o i pos] e spos) (exec g (.setI cb cc ca)) :=
  ps_w (ps_asg hv (pg_sub ho hi (set_ok (xa := xa)) (sub_asg hs _)) (by unfold swapsWithSole; exact swaps_no hc _ _ _) (swapped_no ht _) (by rfl)) fun D' σ H ⟨ρ, σd, h, rl, rh, p⟩ => by
    refine evS_then rl rh p fun d h1 ρ1 H1 v q1 e1 rl1 rh1 rv p1 => ?_
    refine evS_then (f := ev g cb) rl1 rh1 p1 fun x h2 ρ2 H2 v2 q2 e2 rl2 rh2 rx p2 => ?_
    refine evS_then (f := ev g cc) rl2 rh2 p2 fun y h3 ρ3 H3 v3 q3 e3 rl3 rh3 ry p3 => ?_
    cases ee : setS x y d h3 with
    | none => rw [ee] at p3; exact p3.elim
    | some h4 =>
      rw [ee] at p3
      exact ⟨ρ3, h3, x, y, d, rh3, rx.ext q3 e3, ry, (rv.ext q2 e2).ext q3 e3, h4, ee, fun H' e4 rh4 => p3 ρ3 H' σ (List.prefix_refl _) e4 rh4 (rl3.ext (List.prefix_refl _) e4)⟩
/-! ### comprehensions -/
theorem e_lc {tg it elt : Expr} {ifs : List Expr} {scope : Scope} {own : List (Str × Nat)} {pt : Pat} {W0 : WX} (hc : X.calm = true) (hN : X.N.Nodup) (hi : I1 X xa W tg it (ev g ca)) (ok : BlkOk X.N X.env.scope scope own)
    (hg : ∀ (s : Shared) (H : Hp) (C : Addr) (cl : List (Str × Addr)) (fp : List Addr), G1 (X.blk s H scope (compEnvC scope cl C X.env) fp) xa tg pt)
    (ht : ∀ (s : Shared) (H : Hp) (C : Addr) (cl : List (Str × Addr)) (fp : List Addr), PTs (X.blk s H scope (compEnvC scope cl C X.env) fp) ifs (semT X.K xa (fun _ _ _ _ => False) (ev g cb)))
    (he : ∀ (s : Shared) (H : Hp) (C : Addr) (cl : List (Str × Addr)) (fp : List Addr), E1 (X.blk s H scope (compEnvC scope cl C X.env) fp) xa (fun _ _ _ _ => False) elt (ev g cc))
    (hs : plainIter it = true) (hsl : own.map (·.2) = slots pt) (hxs : ∀ v ∈ slots pt, XaIx xa v) : ∀ {σ : St} {H : Hp} {Q : VK}, semF X.K xa W (ev g (.lc pt ca cb cc)) σ H Q → tLc (semI X.K xa W (ev g ca)) (semG X.K xa pt) (semT X.K xa (fun _ _ _ _ => False) (ev g cb)) (semF X.K xa (fun _ _ _ _ => False) (ev g cc)) (own.map (·.2)) σ H Q := by
  intro σ H Q ⟨ρ, σd, h, rl, rh, p⟩
  refine ⟨ρ, σd, h, rl, rh, ?_⟩
  have p : Post X.K xa (fun c d H' => W c d σ H') ρ H ((ev g ca σd h).bind fun src h1 => (match lcLoop (lcBody pt (ev g cb) (ev g cc) σd) src h1.length wf 0 (h1 ++ [.lst []]) with
    | .ok _ h2 => .ok (.ref h1.length) h2
    | _ => .bad)) Q := p
  cases e : ev g ca σd h with
  | bad => rw [e] at p; exact p.elim
  | exc c fs vs h' => rw [e] at p; exact p
  | ok src h' =>
    rw [e] at p
    intro ρ1 H1 J q1 e1 rh1 okJ D0 hD
    have p := Post.shift q1 e1 p
    have p : Post X.K xa (fun c d H' => W c d σ H') ρ1 H1 (match lcLoop (lcBody pt (ev g cb) (ev g cc) σd) src h'.length wf 0 (h' ++ [.lst []]) with
      | .ok _ h2 => .ok (.ref h'.length) h2
      | _ => .bad) Q := p
    obtain ⟨rh2, e2, q2⟩ := rh1.alloc (ao := .lst []) (o := .lst []) hD ⟨[], rfl, .nil⟩
    have hDn : (ρ1 ++ [D0])[h'.length]? = some D0 := by rw [← rh1.len]; simp
    have p := Post.shift q2 e2 p
    generalize hn : h'.length = n at p hDn
    refine ⟨fun i m H => ∃ (ρ : List Addr) (h : AH), Rel X.K xa ρ H σd σ ∧ RepH X.K xa ρ H h ∧ ItOk X.K xa src J ρ H ∧ ρ[n]? = some D0 ∧ Post X.K xa (fun c d H' => W c d σ H') ρ H (match lcLoop (lcBody pt (ev g cb) (ev g cc) σd) src n m i h with
      | .ok _ h2 => .ok (.ref n) h2
      | _ => .bad) Q, ⟨wf, ρ1 ++ [D0], h' ++ [.lst []], (rl.ext q1 e1).ext q2 e2, rh2, okJ.ext q2 e2, hDn, p⟩, ?_⟩
    rintro i m H2 ⟨ρ, h, rl, rh, okJ, hDn, p⟩
    cases m with
    | zero => exact p.elim
    | succ f =>
      have ok1 := okJ ρ H2 h (List.prefix_refl _) (Ext.refl _) rh i
      unfold lcLoop at p
      cases e : draw h src i with
      | none => rw [e] at p; exact p.elim
      | some o =>
        rw [e] at p ok1
        cases o with
        | none => exact .inl ⟨ok1, Post.okv p rh (.ref hDn)⟩
        | some d =>
          obtain ⟨go, yld⟩ := ok1
          refine .inr ⟨go, fun H => ∃ (ρ : List Addr) (h : AH), Rel X.K xa ρ H σd σ ∧ RepH X.K xa ρ H h ∧ ItOk X.K xa src J ρ H ∧ ρ[n]? = some D0 ∧ Post X.K xa (fun c d H' => W c d σ H') ρ H (match lcLoop (lcBody pt (ev g cb) (ev g cc) σd) src n f (i + 1) h with
            | .ok _ h2 => .ok (.ref n) h2
            | _ => .bad) Q, fun H' z => ⟨f, Nat.lt_succ_self f, z⟩, fun x H3 hy => ?_⟩
          obtain ⟨e3, rh3, rv⟩ := yld x H3 hy
          have p := Post.shift (List.prefix_refl _) e3 p
          have rl3 := rl.ext (List.prefix_refl _) e3
          have ok3 := okJ.ext (List.prefix_refl _) e3
          dsimp only at p
          unfold lcBody at p
          rw [hsl]
          cases eb : bindP pt d (wipeD σd (slots pt)) with
          | none => rw [eb] at p; exact p.elim
          | some σ1 =>
            rw [eb] at p
            dsimp only at p
            refine ⟨ρ, wipeD σd (slots pt), h, d, rl3.wipe _ hxs, rh3, rv, σ1, eb, fun σ' rl4 w4 => ⟨(w4 _ fun _ z => z).trans (wipe_idem _ _), ρ, σ1, h, rl4, rh3, ?_⟩⟩
            cases ec : ev g cb σ1 h with
            | bad => rw [ec] at p; exact p.elim
            | exc => rw [ec] at p; exact p.elim
            | ok b h1 =>
              rw [ec] at p
              try dsimp only at p
              intro ρ5 H5 v5 q5 e5 rh5 rv5
              have p := Post.shift q5 e5 p
              cases rv5 with
              | bl b =>
                refine ⟨b, rfl, ?_⟩
                cases b with
                | false =>
                  rw [if_neg Bool.false_ne_true]
                  exact ⟨ρ5, h1, rl3.ext q5 e5, rh5, ok3.ext q5 e5, get_pre q5 hDn, p⟩
                | true =>
                  rw [if_pos rfl]
                  refine ⟨ρ5, σ1, h1, rl4.ext q5 e5, rh5, ?_⟩
                  dsimp only at p
                  cases ee : ev g cc σ1 h1 with
                  | bad => rw [ee] at p; exact p.elim
                  | exc => rw [ee] at p; exact p.elim
                  | ok y h2 =>
                    rw [ee] at p
                    dsimp only at p
                    intro ρ6 H6 v6 q6 e6 rh6 rv6
                    have p := Post.shift q6 e6 p
                    have hD6 := get_pre q6 (get_pre q5 hDn)
                    cases ea : h2[n]? with
                    | none => rw [ea] at p; exact p.elim
                    | some ao =>
                      cases ao with
                      | dct => rw [ea] at p; exact p.elim
                      | lst ys =>
                        rw [ea] at p
                        dsimp only at p
                        by_cases c : ys.length < 16777216
                        · rw [if_pos c] at p
                          obtain ⟨zs, h7, r7⟩ := rh6.lst hD6 ea
                          obtain ⟨w1, w2⟩ := rh6.write (ao := .lst (ys ++ [y])) (o := .lst (zs ++ [v6])) hD6 ⟨_, rfl, r7.append (.one rv6)⟩
                          refine ⟨zs, h7, by rw [sizeLine_eq, ← r7.length]; exact c, ρ6, h2.set n (.lst (ys ++ [y])), ?_, w1, ?_, hD6, Post.shift (List.prefix_refl _) w2 p⟩
                          · exact (((rl3.ext q5 e5).ext q6 e6).ext (List.prefix_refl _) w2)
                          · exact (((ok3.ext q5 e5).ext q6 e6).ext (List.prefix_refl _) w2)
                        · rw [if_neg c] at p; exact p.elim
              | _ => exact p.elim
theorem e_lcE {tg it elt : Expr} {ifs : List Expr} {scope : Scope} {own : List (Str × Nat)} {pt : Pat} (hc : X.calm = true) (hN : X.N.Nodup) (hi : I1 X xa W tg it (ev g ca)) (ok : BlkOk X.N X.env.scope scope own)
    (hg : ∀ (s : Shared) (H : Hp) (C : Addr) (cl : List (Str × Addr)) (fp : List Addr), G1 (X.blk s H scope (compEnvC scope cl C X.env) fp) xa tg pt)
    (ht : ∀ (s : Shared) (H : Hp) (C : Addr) (cl : List (Str × Addr)) (fp : List Addr), PTs (X.blk s H scope (compEnvC scope cl C X.env) fp) ifs (semT X.K xa (fun _ _ _ _ => False) (ev g cb)))
    (he : ∀ (s : Shared) (H : Hp) (C : Addr) (cl : List (Str × Addr)) (fp : List Addr), E1 (X.blk s H scope (compEnvC scope cl C X.env) fp) xa (fun _ _ _ _ => False) elt (ev g cc))
    (hs : plainIter it = true) (hsl : own.map (·.2) = slots pt) (hxs : ∀ v ∈ slots pt, XaIx xa v) : E1 X xa W (.ListComp elt [⟨tg, it, ifs, 0⟩] scope pos) (ev g (.lc pt ca cb cc)) :=
  pe_w (pe_lc hc hN hi ok hg ht he (folded_no hs _)) fun σ H Q h => e_lc (W0 := W) hc hN hi ok hg ht he hs hsl hxs h
theorem s_setLc {i : Nat} {y : Str} (hxi : XaIx xa i) {py spos : Pos} {tg it elt : Expr} {ifs : List Expr} {scope : Scope} {own : List (Str × Nat)} {pt : Pat} (hc : X.calm = true) (hN : X.N.Nodup) (hy : X.N[i]? = some y) (hyl : X.env.scope.names.lookup y = some .local)
    (hsw : swapsWith (.ListComp elt [⟨tg, it, ifs, 0⟩] scope pos) (some (.Name y py)) spos.line X.env = pure true) (hi : I1 X xa W tg it (ev g ca)) (ok : BlkOk X.N X.env.scope scope own)
    (hg : ∀ (s : Shared) (H : Hp) (C : Addr) (cl : List (Str × Addr)) (fp : List Addr), G1 (X.blk s H scope (compEnvC scope cl C X.env) fp) xa tg pt)
    (ht : ∀ (s : Shared) (H : Hp) (C : Addr) (cl : List (Str × Addr)) (fp : List Addr), PTs (X.blk s H scope (compEnvC scope cl C X.env) fp) ifs (semT X.K xa (fun _ _ _ _ => False) (ev g cb)))
    (he : ∀ (s : Shared) (H : Hp) (C : Addr) (cl : List (Str × Addr)) (fp : List Addr), E1 (X.blk s H scope (compEnvC scope cl C X.env) fp) xa (fun _ _ _ _ => False) elt (ev g cc))
    (hs : plainIter it = true) (hsl : own.map (·.2) = slots pt) (hxs : ∀ v ∈ slots pt, XaIx xa v) : S1 X xa W (.Assign [.Name y py] (.ListComp elt [⟨tg, it, ifs, 0⟩] scope pos) spos) (exec g (.asg (.v i) (.lc pt ca cb cc))) :=
  ps_w (ps_setLc hc hN hy hyl hsw hi ok hg ht he (folded_no hs _)) fun D' σ H h => by
    obtain ⟨ρ, σd, h, rl, rh, p⟩ := asg_of h
    refine e_lc (W0 := W) hc hN hi ok hg ht he hs hsl hxs ⟨ρ, σd, h, rl, rh, p.imp fun v H1 q => pg_name' (x := y) hxi v σ H1 _ q⟩
end
end Ly
end
section
set_option Elab.async false
set_option linter.all false
set_option maxRecDepth 100000
set_option maxHeartbeats 2000000
/-! LyE: x op= e; a, b = e1, e2. -/
namespace Ly
open PySem PySem.Spec PyProof.Rows L2
def augOp : Operator → Option (Int → Int → Int)
  | .Add => some fun i j => i + j
  | .Sub => some fun i j => i - j
  | _ => none
theorem augOp_ip {X : Cx} {o : Operator} {f : Int → Int → Int} (h : augOp o = some f) : PIp X o (ipI f) := by
  cases o <;> first | (cases h; done) | (have e : some _ = some f := h; cases e; first | exact ip_add | exact ip_sub)
theorem augS_int {o : Operator} {f : Int → Int → Int} (h : augOp o = some f) (i j : Int) (hh : AH) : augS o (.int i) (.int j) hh = .ok (.int (f i j)) hh := by
  cases o <;> first | (cases h; done) | (have e : some _ = some f := h; cases e; rfl)
theorem augS_bad {o : Operator} {d e : D} {hh : AH} (h : ∀ i j, ¬ (d = .int i ∧ e = .int j)) : augS o d e hh = .bad := by
  unfold augS
  split
  · exact absurd ⟨rfl, rfl⟩ (h _ _)
  · exact absurd ⟨rfl, rfl⟩ (h _ _)
  · rfl
section
variable {X : Cx} {xa : Xa} {W : WX} {a b c e : Expr} {es : List Expr} {pos p : Pos} {g : Gs} {ca cb cc : CE}
theorem s_aug {i : Nat} {x : Str} {o : Operator} {f : Int → Int → Int} {pos' : Pos} (hxi : XaIx xa i) (hN : X.N.Nodup) (hi : X.N[i]? = some x) (hx : Loc X.env.scope x) (hf : X.fn x = true ∨ X.env.scope.names.lookup x = some .local) (ho : augOp o = some f) (ha : E1 X xa W e (ev g ca)) :
    S1 X xa W (.AugAssign (.Name x pos') o e pos) (exec g (.aug i o ca)) :=
  ps_w (ps_aug hN hi hx ha (augOp_ip ho) hf) fun D' σ H ⟨ρ, σd, h, rl, rh, p⟩ => by
    have p' : PostS X.K xa W D' ρ H (match σd[i]? with
      | some (some x) => evS (ev g ca σd h) σd fun y h1 => evS (augS o x y h1) σd fun z h2 => .nx (σd.set i (some z)) h2
      | _ => .bad) := p
    cases q : σd[i]? with
    | none => rw [q] at p'; exact p'.elim
    | some od =>
      cases od with
      | none => rw [q] at p'; exact p'.elim
      | some d =>
        rw [q] at p'
        dsimp only at p'
        obtain ⟨v, e1, r⟩ := rl.get q
        refine ⟨v, e1, evS_then rl rh p' fun y h1 ρ1 H1 w q1 e1 rl1 rh1 rw' p1 => ?_⟩
        by_cases z : ∃ k j, d = .int k ∧ y = .int j
        · obtain ⟨k, j, rfl, rfl⟩ := z
          rw [augS_int ho] at p1
          cases r
          cases rw'
          exact ⟨k, j, rfl, rfl, p1 ρ1 H1 _ (List.prefix_refl _) (Ext.refl _) rh1 (rl1.set (.int _) i hxi)⟩
        · rw [augS_bad fun k j hh => z ⟨k, j, hh⟩] at p1; exact p1.elim
/-! ### a, b = e1, e2 -/
def isStarE : Expr → Bool
  | .Starred _ _ => true
  | _ => false
def swNames (nl : List (Str × NameKind)) (ts : List Expr) : List Str := ts.filterMap fun
  | .Name id pos => if nl.lookup id == some .local && pos.line == ((ts.head?.map (·.pos.line)).getD 0) then some id else none
  | _ => none
/-- which stores are swapped -/
def swB (nl : List (Str × NameKind)) (ts vs : List Expr) : Option (Option (List Str)) :=
  if (!(ts.length == 2 || ts.length == 3) || vs.length != ts.length) = true then some none
  else if (vs.any isStarE) = true then some none
  else if ((swNames nl ts).length != ts.length || (swNames nl ts).eraseDups.length != (swNames nl ts).length) = true then some none
  else if (vs.all (foldedForSure 8)) = true then some none
  else if (vs.all (constantsAlone 8)) = true then none
  else some (some (swNames nl ts))
theorem swB_ok {env : Env} {nl : List (Str × NameKind)} {ts vs : List Expr} {r : Option (List Str)} {k k2 p p2} (hn : env.scope.names = nl) (hk : env.scope.kind = .function) (h : swB nl ts vs = some r) : swappedStores [.Tuple ts k p] (.Tuple vs k2 p2) env = pure r := by
  have hb : env.blockKind = .function := by
    unfold Env.blockKind
    rw [hk]; rfl
  subst hn
  have e0 : swappedStores [.Tuple ts k p] (.Tuple vs k2 p2) env = (if (!(ts.length == 2 || ts.length == 3) || vs.length != ts.length || env.blockKind != .function) = true then pure none
    else if (vs.any isStarE) = true then pure none
    else if ((swNames env.scope.names ts).length != ts.length || (swNames env.scope.names ts).eraseDups.length != (swNames env.scope.names ts).length) = true then pure none
    else if (vs.all (foldedForSure 8)) = true then pure none
    else if (vs.all (constantsAlone 8)) = true then (do unsupported "assign.tuple-of-constant-expressions:order-of-the-stores"; pure (some (swNames env.scope.names ts)))
    else pure (some (swNames env.scope.names ts))) := rfl
  rw [e0, hb]
  simp only [bne_self_eq_false, Bool.or_false]
  unfold swB at h
  by_cases c : (!(ts.length == 2 || ts.length == 3) || vs.length != ts.length) = true
  · rw [if_pos c] at h ⊢; cases h; rfl
  · rw [if_neg c] at h ⊢
    by_cases c1 : (vs.any isStarE) = true
    · rw [if_pos c1] at h ⊢; cases h; rfl
    · rw [if_neg c1] at h ⊢
      by_cases c2 : ((swNames env.scope.names ts).length != ts.length || (swNames env.scope.names ts).eraseDups.length != (swNames env.scope.names ts).length) = true
      · rw [if_pos c2] at h ⊢; cases h; rfl
      · rw [if_neg c2] at h ⊢
        by_cases c3 : (vs.all (foldedForSure 8)) = true
        · rw [if_pos c3] at h ⊢; cases h; rfl
        · rw [if_neg c3] at h ⊢
          by_cases c4 : (vs.all (constantsAlone 8)) = true
          · rw [if_pos c4] at h; cases h
          · rw [if_neg c4] at h ⊢; cases h; rfl
theorem s_asgN {pt : Pat} {tg : Expr} (hg : G1 X xa tg pt) (hst : notStar tg = true) (ha : E1 X xa W e (ev g ca)) (hc : notComp e = true) (ht : swappedStores [tg] e X.env = pure none) : S1 X xa W (.Assign [tg] e pos) (exec g (.asg pt ca)) :=
  ps_w (ps_asg ha hg (swaps_no hc _ _ _) ht (by rw [asgEach_one hst]; rfl)) fun D' σ H h => asg_of h
theorem sole_no (t : Expr) (vs : List Expr) (l : Nat) (env : Env) {k : Nat} {p : Pos} : swapsWithSole [t] (.Tuple vs k p) l env = pure false := swaps_no (e := .Tuple vs k p) rfl (some t) l env
theorem s_par2 {i j : Nat} {x y : Str} {px py pt : Pos} {kt k2 pt2} (hc : X.calm = true) (hN : X.N.Nodup) (hxi : XaIx xa i) (hxj : XaIx xa j) (hi : X.N[i]? = some x) (hj : X.N[j]? = some y) (hij : i ≠ j) (hx : X.env.scope.names.lookup x = some .local) (hy : X.env.scope.names.lookup y = some .local)
    (ha : Ar X xa W [a, b] (ev g ca)) (hw : swappedStores [.Tuple [.Name x px, .Name y py] kt pt] (.Tuple [a, b] k2 pt2) X.env = pure (some [x, y])) :
    S1 X xa W (.Assign [.Tuple [.Name x px, .Name y py] kt pt] (.Tuple [a, b] k2 pt2) pos) (exec g (.asg (.tup (.cons (.v i) (.cons (.v j) .nil))) (.tup ca))) :=
  ps_w (ps_par hc hN hi hj hij hx hy ha hw (sole_no _ _ _ _)) fun D' σ H ⟨ρ, σd, h, rl, rh, p⟩ => by
    have p' : PostS X.K xa W D' ρ H (evS ((ev g ca σd h).bind fun x h1 => (match x with
      | .tup ds => if ds.length ≤ 16777216 then .ok (.tup ds) h1 else .bad
      | _ => .bad)) σd fun d h1 => (match bindP (.tup (.cons (.v i) (.cons (.v j) .nil))) d σd with
        | some σ' => .nx σ' h1
        | none => .bad)) := p
    refine ⟨ρ, σd, h, rl, rh, ?_⟩
    cases q : ev g ca σd h with
    | bad => rw [q] at p'; exact p'.elim
    | exc cc fs vs h1 => rw [q] at p'; exact fun ρ1 H1 dd xs q1 e1 rh1 => p' ρ1 H1 σ dd xs q1 e1 rh1 (rl.ext q1 e1)
    | ok d h1 =>
      rw [q] at p'
      cases d with
      | tup ds =>
        have p' : PostS X.K xa W D' ρ H (evS (if ds.length ≤ 16777216 then .ok (.tup ds) h1 else .bad) σd fun d h1 => (match bindP (.tup (.cons (.v i) (.cons (.v j) .nil))) d σd with
          | some σ' => .nx σ' h1
          | none => .bad)) := p'
        by_cases cl : ds.length ≤ 16777216
        · rw [if_pos cl] at p'
          intro ρ1 H1 vs q1 e1 rh1 rv
          match ds, rv, p' with
          | [d1, d2], rv, p' =>
            obtain ⟨v, w, rfl, r1, r2⟩ := repVs_two rv
            exact ⟨v, w, rfl, p' ρ1 H1 _ q1 e1 rh1 (((rl.ext q1 e1).set r1 i hxi).set r2 j hxj)⟩
          | [], _, p' => exact p'.elim
          | [_], _, p' => exact p'.elim
          | _ :: _ :: _ :: _, _, p' => exact p'.elim
        · rw [if_neg cl] at p'; exact p'.elim
      | _ => exact p'.elim
theorem s_par3 {i j l : Nat} {x y z : Str} {px py pz pt : Pos} {kt k2 pt2} (hc : X.calm = true) (hN : X.N.Nodup) (hxi : XaIx xa i) (hxj : XaIx xa j) (hxl : XaIx xa l) (hi : X.N[i]? = some x) (hj : X.N[j]? = some y) (hl : X.N[l]? = some z) (hij : i ≠ j) (hil : i ≠ l) (hjl : j ≠ l)
    (hx : X.env.scope.names.lookup x = some .local) (hy : X.env.scope.names.lookup y = some .local) (hz : X.env.scope.names.lookup z = some .local)
    (ha : Ar X xa W [a, b, c] (ev g ca)) (hw : swappedStores [.Tuple [.Name x px, .Name y py, .Name z pz] kt pt] (.Tuple [a, b, c] k2 pt2) X.env = pure (some [x, y, z])) :
    S1 X xa W (.Assign [.Tuple [.Name x px, .Name y py, .Name z pz] kt pt] (.Tuple [a, b, c] k2 pt2) pos) (exec g (.asg (.tup (.cons (.v i) (.cons (.v j) (.cons (.v l) .nil)))) (.tup ca))) :=
  ps_w (ps_par3 hc hN hi hj hl hij hil hjl hx hy hz ha hw (sole_no _ _ _ _)) fun D' σ H ⟨ρ, σd, h, rl, rh, p⟩ => by
    have p' : PostS X.K xa W D' ρ H (evS ((ev g ca σd h).bind fun x h1 => (match x with
      | .tup ds => if ds.length ≤ 16777216 then .ok (.tup ds) h1 else .bad
      | _ => .bad)) σd fun d h1 => (match bindP (.tup (.cons (.v i) (.cons (.v j) (.cons (.v l) .nil)))) d σd with
        | some σ' => .nx σ' h1
        | none => .bad)) := p
    refine ⟨ρ, σd, h, rl, rh, ?_⟩
    cases q : ev g ca σd h with
    | bad => rw [q] at p'; exact p'.elim
    | exc cc fs vs h1 => rw [q] at p'; exact fun ρ1 H1 dd xs q1 e1 rh1 => p' ρ1 H1 σ dd xs q1 e1 rh1 (rl.ext q1 e1)
    | ok d h1 =>
      rw [q] at p'
      cases d with
      | tup ds =>
        have p' : PostS X.K xa W D' ρ H (evS (if ds.length ≤ 16777216 then .ok (.tup ds) h1 else .bad) σd fun d h1 => (match bindP (.tup (.cons (.v i) (.cons (.v j) (.cons (.v l) .nil)))) d σd with
          | some σ' => .nx σ' h1
          | none => .bad)) := p'
        by_cases cl : ds.length ≤ 16777216
        · rw [if_pos cl] at p'
          intro ρ1 H1 vs q1 e1 rh1 rv
          match ds, rv, p' with
          | [d1, d2, d3], rv, p' =>
            cases rv with
            | cons r1 rv2 =>
              obtain ⟨v, w, rfl, r2, r3⟩ := repVs_two rv2
              exact ⟨_, v, w, rfl, p' ρ1 H1 _ q1 e1 rh1 ((((rl.ext q1 e1).set r1 i hxi).set r2 j hxj).set r3 l hxl)⟩
          | [], _, p' => exact p'.elim
          | [_], _, p' => exact p'.elim
          | [_, _], _, p' => exact p'.elim
          | _ :: _ :: _ :: _ :: _, _, p' => exact p'.elim
        · rw [if_neg cl] at p'; exact p'.elim
      | _ => exact p'.elim
end
end Ly
end
section
set_option Elab.async false
set_option linter.all false
set_option maxRecDepth 100000
set_option maxHeartbeats 1000000
/-! Ly10: own exceptions under ValueError whose __init__ says super().__init__(its args) and keeps each arg in a field of the same name. -/
namespace LyE
open PySem PySem.W PySem.Calls PyProof.Rows PySem.HandSPX
/-- the args as names -/
inductive NArgs : List Expr → List Str → Prop
  | nil : NArgs [] []
  | cons {f : Str} {p : Pos} {es : List Expr} {fs : List Str} : NArgs es fs → NArgs (.Name f p :: es) (f :: fs)
/-- self.f = f, for each -/
inductive NStores : List Stmt → List Str → Prop
  | nil : NStores [] []
  | cons {f : Str} {p1 p2 p3 p4 : Pos} {ss : List Stmt} {fs : List Str} : NStores ss fs → NStores (.Assign [.Attribute (.Name "self" p1) f p2] (.Name f p3) p4 :: ss) (f :: fs)
def put {α : Type} : List Str → List α → List (Str × α) → List (Str × α)
  | f :: fs, v :: vs, ws => put fs vs ((f, v) :: ws)
  | _, _, ws => ws
/-- the locals hold the args -/
def Holds (m : Str → Option Value) : List Str → List Value → Prop
  | [], [] => True
  | f :: fs, v :: vs => m f = some v ∧ f ≠ "__debug__" ∧ Holds m fs vs
  | _, _ => False
def within_l (ws : List (Str × Value)) : Within (fun y => ws.lookup y) (ws.map (·.1)) := fun y hy => by
  induction ws with
  | nil => exact absurd rfl hy
  | cons p r ih =>
    obtain ⟨f, v⟩ := p
    by_cases h : y = f
    · subst h; exact List.mem_cons_self ..
    · have e : (y == f) = false := by simpa using h
      refine List.mem_cons_of_mem _ (ih ?_)
      intro z
      exact hy (by show List.lookup y ((f, v) :: r) = none; simp only [List.lookup, e]; exact z)
theorem lookup_ite (f : Str) (v : Value) (ws : List (Str × Value)) : (fun y => if y = f then some v else ws.lookup y) = fun y => ((f, v) :: ws).lookup y := by
  funext y
  by_cases h : y = f
  · subst h; rw [if_pos rfl]; simp [List.lookup]
  · have e : (y == f) = false := by simpa using h
    rw [if_neg h]; simp [List.lookup, e]
section
variable {prog : Program} {w : World} {A : Around} {E : Value → Shared → Prop} {s : Shared} {env : Env} {m : Str → Option Value}
theorem nm_free {f : Str} (h : f ≠ "__debug__") : (f == ("__debug__" : Str)) = false := by simpa using h
theorem spliced_args (hk : env.scope.kind = .function) (pos : Pos) : ∀ {es : List Expr} {fs : List Str} {vs : List Value}, NArgs es fs → Holds m fs vs → (∀ f ∈ fs, env.kindOf f = some .local) → ∀ {s : Shared} {Q : List Value → Shared → Prop}, s.heap.Ns env.locals m → Q vs s → wpAny (model prog w) A (spliced (backTo pos (starEach es env))) Q E s := by
  intro es fs vs na
  induction na generalizing vs with
  | nil =>
    intro hh _ s Q hn q
    cases vs with
    | nil => exact spliced_nil q
    | cons => exact hh.elim
  | @cons f p es fs na ih =>
    intro hh hl s Q hn q
    cases vs with
    | nil => exact hh.elim
    | cons v vs =>
      obtain ⟨h1, h2, h3⟩ := hh
      show wpAny _ _ (spliced ((false, eval (.Name f p) env) :: backTo pos (starEach es env))) _ _ s
      refine spliced_cons (ESX.ldL hn h1 ?_ hk (hl f (List.mem_cons_self ..)) (nm_free h2))
      exact ih h3 (fun g hg => hl g (List.mem_cons_of_mem _ hg)) (Q := fun us s2 => Q (v :: us) s2) hn q
/-- the stores behind the first -/
theorem stores_old {K : Frag} {x C dx : Addr} {fv : Array Value} {cd : ClassData} (hk : env.scope.kind = .function) (hcd : clsIn K C = some cd) (hm : refsVE cd.mro = true) (hh : cd.hasDict = true)
    (sa : findIn K (.ref C) "__setattr__" = some (some (.builtin "object.__setattr__"))) (hs : m "self" = some (.ref x)) (hsl : env.kindOf "self" = some .local) (hxd : x ≠ dx) (hLd : env.locals ≠ dx) (hKd : K.lookup dx = none) :
    ∀ {ss : List Stmt} {fs : List Str} {vs : List Value}, NStores ss fs → Holds m fs vs → (∀ f ∈ fs, env.kindOf f = some .local ∧ findIn K (.ref C) f = some none) → ∀ {ws : List (Str × Value)}, ws.length + fs.length ≤ 900 →
      ∀ {s : Shared} {Q : Flow → Shared → Prop}, K.In s.heap → s.heap.Ns env.locals m → s.heap.get? x = some { cls := .ref C, dict := some dx, data := .fields fv } → s.heap.Ns1 dx (fun y => ws.lookup y) →
        (∀ h' tk', (∀ b o, b ≠ dx → s.heap.get? b = some o → h'.get? b = some o) → h'.Ns1 dx (fun y => (put fs vs ws).lookup y) → Q .next { s with heap := h', toks := tk' }) → wpAny (model prog w) A (execs ss env) Q E s := by
  intro ss fs vs na
  induction na generalizing vs with
  | nil =>
    intro hh' _ ws _ s Q X hn hx hns q
    cases vs with
    | nil => exact wpAny_execs_nil (q s.heap s.toks (fun _ _ _ e => e) hns)
    | cons => exact hh'.elim
  | @cons f p1 p2 p3 p4 ss fs na ih =>
    intro hh' hl ws hz s Q X hn hx hns q
    cases vs with
    | nil => exact hh'.elim
    | cons v vs =>
      obtain ⟨h1, h2, h3⟩ := hh'
      obtain ⟨l1, l2⟩ := hl f (List.mem_cons_self ..)
      refine wpAny_execs_cons (plainObj_wpAny_Assign_Attribute ?_)
      refine ESX.ldL hn h1 (ESX.ldL hn hs ?_ hk hsl (by decide)) hk l1 (nm_free h2)
      have hw := within_l ws
      obtain ⟨oD, _, _, hoD, _, _⟩ := hns.count hw
      obtain ⟨hp, g, d, t, os⟩ := s
      refine set_plain X (ox := { cls := .ref C, dict := some dx, data := .fields fv }) (od := some oD) ⟨hx, rfl, rfl, hoD⟩ sa ?_
      refine OEX.osa_old X hx hns hw (by rw [List.length_map]; simp at hz; omega) hcd hm hh l2 fun h' tk' k hn' => ?_
      rw [lookup_ite] at hn'
      obtain ⟨oL, es, ep, hL, r⟩ := hn
      refine ih h3 (fun g hg => hl g (List.mem_cons_of_mem _ hg)) (ws := (f, v) :: ws) (by simp at hz ⊢; omega) (s := ⟨h', g, d, tk', os⟩) (fun b o e => k b o (fun z => by rw [z, hKd] at e; cases e) (X b o e)) ⟨oL, es, ep, k _ _ hLd hL, r⟩ (k _ _ hxd hx) hn' fun h2 tk2 k2 n2 => ?_
      exact q h2 tk2 (fun b o hb e => k2 b o hb (k b o hb e)) n2
/-- ValueError.__init__ bound to an instance, called -/
theorem call_ve {h : Heap} {g : Array GenState} {d : Drawn} {t : Nat} {os : OsState} {u e t0 C N : Addr} {nm q : Str} {bs bm sub : List Value} {hdct : Bool} {sn : List Str} {ab : Bool} {col : Option Bool} {dd : Option Addr} {k0 k1 k2 k3 k5 : Option Value} {rest : List Value} {Q : Value → Shared → Prop}
    (hC : h.get? C = some (excClassObj nm q C N bs bm hdct sn sub ab col dd k0 k1 k2 k3 k5 "ValueError.__new__")) (he : h.get? e = some (excO C t0)) (hu : h.get? u = some (kxs_mw "ValueError.__init__" e)) (hrest : rest.length ≤ sizeLine)
    (hq : ∀ h' t1, (∀ b o, b ≠ e → h.get? b = some o → h'.get? b = some o) → h'.get? e = some (excO C t1) → Q .none ⟨h', g, d, t, os⟩) :
    wpAny (model prog w) A (call (.ref u) rest) Q E ⟨h, g, d, t, os⟩ := by
  refine wpAny_call (codeAny_of_tree ?_)
  show wpAny _ A.in1 (callAny (.ref u) ⟨rest, []⟩) _ _ _
  simp only [callAny]
  refine wpAny_bind (wpAny_load hu ?_)
  simp only [kxs_mw, show (Value.type "method-wrapper" == Value.type "method" || Value.type "method-wrapper" == Value.type "builtin_function_or_method" || Value.type "method-wrapper" == Value.type "method-wrapper") = true by decide, if_true]
  refine KFB.if_so (by decide) ?_
  refine wpAny_bind (check_bound_init F.excBase_ValueError.toExcCallFacts hC he rfl ?_)
  refine wpAny_bind (wpAny_pure (wpAny_pure ?_))
  refine ⟨plainId_quiet F.excBase_ValueError.init.plain _, codeAny_builtin F.excBase_ValueError.initEntry ?_⟩
  exact exc_init_tree (cls := .ref C) (t0 := t0) (dv := none) (c2 := .none) (c3 := .none) (b4 := .bool false) he hrest fun h' k hx _ => hq h' _ k hx
end
end LyE
end
section
set_option Elab.async false
set_option linter.all false
set_option maxRecDepth 100000
set_option maxHeartbeats 1000000
/-! Ly11: the __init__ of such a class, the making of an error, its rule. -/
namespace LyE
open PySem PySem.W PySem.Calls PyProof.Rows PySem.HandSPX
/-- what the written part says of the class at C, of its __init__ at fI; fs: its fields -/
structure SupT (K : Frag) (mg : Str → Option Value) (prog : Program) (C fI : Addr) (fs : List Str) : Prop where
  ox : L2.OexC K C
  no : ∀ f ∈ fs, findIn K (.ref C) f = some none
  iC : findIn K (.ref C) "__init__" = some (some (.ref fI))
  tI : typeIn K (.ref fI) = some (.type "function")
  ve : subIn K (.ref C) (.type "ValueError") = some true
  mr : mroIn K C (.ref C) = some true
  su : ks_superIn K C C "__init__" = some (some (.builtin "ValueError.__init__"))
  op : nsIn K cStatics "thirdparty.any" = some none
  sg : mg "super" = none
  top : (prog.main.scope.names.lookup ("super" : Str)).isSome = false
  sm : fs.length ≤ 2
  nz : fs ≠ []
  fn : ∃ (oc ct doc pm ccl cl : Value) (od cdd cld an : Option Addr) (osl ccs csl : Array (Option Value)) (cda cc : Addr) (q file : Str) (tf : Tok) (vs : Array Value) (pr : Arguments) (ns : List (Str × NameKind)) (mo : List (Str × Const)) (ar : Arg) (es : List Expr) (ss : List Stmt) (p0 p1 p2 p3 p4 : Pos) (dv kv : Value),
    K.lookup fI = some ⟨oc, od, .func (ksFn "__init__" q pr (.Expr (.Call (.Attribute (.Call (.Name "super" p0) [] [] p1) "__init__" p2) es [] p3) p4 :: ss) { kind := .function, names := ns, isGenerator := false, isCoroutine := false, more := mo } dv kv doc pm an (.ref cda) ct cc), osl⟩ ∧
    codeIn K (.ref cda) q = true ∧ K.lookup cda = some ⟨ccl, cdd, .fields vs, ccs⟩ ∧ vs[2]? = some (.str file tf) ∧ ((prog.main.file : Str) == file) = true ∧ K.lookup cc = some ⟨cl, cld, .cell (some (.ref C)), csl⟩ ∧
    (p2.endLine == p3.line) = true ∧ (pr.posonlyargs ++ pr.args).head? = some ar ∧ ar.arg = "self" ∧ NArgs es fs ∧ NStores ss fs ∧
    (∀ (s : Shared) (x : Value) (us : List Value), us.length = fs.length → BindsTo s (ksFn "__init__" q pr (.Expr (.Call (.Attribute (.Call (.Name "super" p0) [] [] p1) "__init__" p2) es [] p3) p4 :: ss) { kind := .function, names := ns, isGenerator := false, isCoroutine := false, more := mo } dv kv doc pm an (.ref cda) ct cc) ⟨x :: us, []⟩ ((("self" : Str), x) :: fs.zip us)) ∧
    (∀ x ∈ ns, x.2 ≠ .cell) ∧ ns.lookup ("self" : Str) = some .local ∧ (∀ f ∈ fs, ns.lookup f = some .local) ∧ ns.lookup ("super" : Str) = some .globalImplicit ∧ ns.lookup ("__class__" : Str) = some .free ∧
    (∀ (x : Value) (us : List Value), us.length = fs.length → List.lookup ("self" : Str) ((("self" : Str), x) :: fs.zip us).reverse = some x ∧ Holds (fun y => List.lookup y ((("self" : Str), x) :: fs.zip us).reverse) fs us)
/-- a made error -/
structure InitEnd (h h' : Heap) (x C dx t1 : Addr) (fs : List Str) (us : List Value) : Prop where
  keep : ∀ b o, b ≠ x → h.get? b = some o → h'.get? b = some o
  obj : h'.get? x = some { cls := .ref C, dict := some dx, data := .fields #[.ref t1, .none, .none, .none, .bool false, .none] }
  dbig : h.objs.size ≤ dx
  dne : dx ≠ x
  ns : h'.Ns1 dx (fun y => (put fs us []).lookup y)
theorem ns_but {h h' : Heap} {L x : Addr} {m : Str → Option Value} (hn : h.Ns L m) (hx : L ≠ x) (k : ∀ b o, b ≠ x → h.get? b = some o → h'.get? b = some o) : h'.Ns L m := by
  obtain ⟨oL, es, ep, hL, r⟩ := hn
  exact ⟨oL, es, ep, k _ _ hx hL, r⟩
theorem nocell {ns : List (Str × NameKind)} {y : Str} : ∀ {k : NameKind}, ns.lookup y = some k → (y, k) ∈ ns := by
  intro k h
  induction ns with
  | nil => cases h
  | cons p r ih =>
    obtain ⟨a, b⟩ := p
    by_cases e : y = a
    · subst e
      simp [List.lookup] at h
      subst h
      exact List.mem_cons_self ..
    · have e' : (y == a) = false := by simpa using e
      simp [List.lookup, e'] at h
      exact List.mem_cons_of_mem _ (ih h)
theorem call_eq {es : List Expr} {fs : List Str} (na : NArgs es fs) (hl : fs.length ≤ 2) (p0 p1 p2 p3 : Pos) (env : Env) (hpos : (p2.endLine == p3.line) = true) : ∃ pl : Sem Bool, eval (.Call (.Attribute (.Call (.Name "super" p0) [] [] p1) "__init__" p2) es [] p3) env = (do
      let ov ← attributeBase (.Call (.Name "super" p0) [] [] p1) "__init__" env (eval (.Call (.Name "super" p0) [] [] p1) env)
      standAt p2.atName
      let (f, first) ← holding [ov] (getMethod ov "__init__" pl)
      callWith p3 f first (backTo p3 (starEach es env)) []) := by
  have key : ∀ (o : Expr) (n : Nat) (args : List (Bool × Sem Value)), methodCallForm n args [] = true → ∀ ov, methodCall o "__init__" p2 p3 env ov n args [] = (do
      let (f, first) ← holding [ov] (getMethod ov "__init__" (do return (← importBound o env).getD true))
      callWith p3 f first args []) := fun o n args hf ov => by
    unfold methodCall calleeOf methodCallPos
    rw [hf]
    simp only [Bool.not_true, Bool.false_or, hpos, if_true, pure_bind]
  refine ⟨(do return (← importBound (.Call (.Name "super" p0) [] [] p1) env).getD true), ?_⟩
  show (do
    let ov ← attributeBase (.Call (.Name "super" p0) [] [] p1) "__init__" env (eval (.Call (.Name "super" p0) [] [] p1) env)
    standAt p2.atName
    methodCall (.Call (.Name "super" p0) [] [] p1) "__init__" p2 p3 env ov (es.length + 0) (backTo p3 (starEach es env)) []) = _
  have hf : methodCallForm (es.length + 0) (backTo p3 (starEach es env)) [] = true := by
    cases na with
    | nil => rfl
    | cons na =>
      cases na with
      | nil => rfl
      | cons na =>
        cases na with
        | nil => rfl
        | cons na => simp at hl
  simp only [key _ _ _ hf]
theorem plain_args {es : List Expr} {fs : List Str} (na : NArgs es fs) (pos : Pos) (env : Env) : (backTo pos (starEach es env)).any (·.1) = false := by
  induction na with
  | nil => rfl
  | cons na ih => exact ih
section
variable {prog : Program} {w : World} {A : Around} {E : Value → Shared → Prop} {R : Result → Shared → Prop} {s : Shared} {K : Frag} {mg mb : Str → Option Value} {C fI : Addr} {fs : List Str}
theorem sup_init (T : SupT K mg prog C fI fs) {x t0 : Addr} {us : List Value} (hu : us.length = fs.length) (X : K.In s.heap) (G : s.heap.Ns mainGlobals mg) (B : s.heap.Ns builtinsNs mb) (hb : mb "super" = some (.type "super")) (hlim : s.heap.NoLimit)
    (hx : s.heap.get? x = some (excO C t0)) (hnx : K.lookup x = none) (hroom : A.depth < recursionLimit)
    (hq : ∀ h' tk dx t1, InitEnd s.heap h' x C dx t1 fs us → R (.ok (.ret .none)) { s with heap := h', toks := tk }) :
    codeAny (model prog w) A (.call (.ref fI) ⟨.ref x :: us, []⟩) R s := by
  obtain ⟨oc, ct, doc, pm, ccl, cl, od, cdd, cld, an, osl, ccs, csl, cda, cc, q, file, tf, vs, pr, ns, mo, ar, es, ss, p0, p1, p2, p3, p4, dv, kv, ho, hcd, hcode, hvs, hfile, hcell, hpos, hp, har, na, nst, hbind, hnc, hsl, hfl, hsup, hcls, hlk⟩ := T.fn
  obtain ⟨nm, q', N, bs, bm, sn, sub, ab, col, dd, k0, k1, k2, k3, k5, hC, hbm⟩ := T.ox.cls
  have hcl : clsIn K C = some { name := nm, bases := bs, mro := .ref C :: bm, ns := N, qualname := q', hasDict := true, slotNames := sn, subclasses := sub, abstract := ab, collection := col, hasDel := false } := by unfold clsIn; rw [hC] <;> rfl
  obtain ⟨hself, hhold⟩ := hlk (.ref x) us hu
  have hloc : ∀ y ∈ (("self" : Str), Value.ref x) :: fs.zip us, ns.lookup y.1 = some .local := fun y hy => by
    rcases List.mem_cons.mp hy with rfl | hy
    · exact hsl
    · exact hfl _ (List.of_mem_zip hy).1
  refine ks_codeAny_call_defAt (binds := (("self" : Str), .ref x) :: fs.zip us) hroom (X _ _ ho) rfl hlim (codeRec_of X hcd) rfl (hbind _ _ _ hu) hnc hloc (fun h₁ hns hk₁ => ?_) rfl rfl rfl
  have X₁ : K.In h₁ := X.keeps hk₁
  have hx₁ := hk₁ _ _ hx
  have G₁ := G.keeps hk₁
  have B₁ := B.keeps hk₁
  have hxL : s.heap.objs.size ≠ x := Nat.ne_of_gt (Heap.lt_size hx)
  obtain ⟨hh, g, d, t, os⟩ := s
  dsimp only at hns hk₁ hxL ⊢
  -- super().__init__(..)
  show _root_.PySem.wpAt _ _ (.func _ (ksEnv q { kind := .function, names := ns, isGenerator := false, isCoroutine := false, more := mo } hh.objs.size fI (.ref cda) cc)) (execs _ (ksEnv q { kind := .function, names := ns, isGenerator := false, isCoroutine := false, more := mo } hh.objs.size fI (.ref cda) cc)) _ _ _
  obtain ⟨pl, heq⟩ := call_eq na T.sm p0 p1 p2 p3 (ksEnv q { kind := .function, names := ns, isGenerator := false, isCoroutine := false, more := mo } hh.objs.size fI (.ref cda) cc) hpos
  refine ks_wpAt_execs_cons (ks_wpAt_Expr_any (ks_wpAt_MethodCall (pl := pl) ?_ heq))
  refine ks_wpAt_super_base (env := ksEnv q _ hh.objs.size fI (.ref cda) cc) hsup hcls (by decide) rfl (X₁ _ _ ho) rfl hp rfl (X₁ _ _ hcode) rfl hvs hfile T.top ?_
  refine ks_loadName_global rfl hsup (loadGlobal_builtin (env := ksEnv q _ hh.objs.size fI (.ref cda) cc) G₁ T.sg B₁ hb ⟨rfl, ?_⟩)
  refine wpAny_loadName_free rfl hcls rfl ⟨_, X₁ _ _ hcell, rfl⟩ ?_
  rw [har]
  refine wpAny_loadName_local rfl hsl hns hself ?_
  refine ks_wpAny_isType_cls (X₁ _ _ hC) rfl ⟨rfl, ?_⟩
  refine ks_wpAny_call_super (X₁ _ _ hC) rfl hx₁ rfl (fun c e => by cases e) (looks_mroIn X₁ T.mr) (fun h₂ hso k₂ => ?_)
  have X₂ : K.In h₂ := X₁.keeps k₂
  have hx₂ := k₂ _ _ hx₁
  have xC : x ≠ C := fun z => by rw [z, hC] at hnx; cases hnx
  have su := T.su
  unfold ks_superIn at su
  rw [hcl] at su
  refine kxs_getMethod kxs_ValueError hso (looks_opaque X₂ T.op) (l₀ := .ref C :: bm) (fun A Q E s k q => wpAny_bind ((looks_clsIn X₂ hcl) A _ E s k (wpAny_pure q))) rfl X₂ su
    ((show Looks _ h₂ (typeOf (.ref x)) (.ref C) from fun A Q E s k q => wpAny_typeOf_ref (k _ _ hx₂) q).andThen (looks_subIn X₂ T.ve)) xC (by decide) ?_
  have hmw : (h₂.push (kxs_mw "ValueError.__init__" x)).get? h₂.objs.size = some (kxs_mw "ValueError.__init__" x) := Heap.get?_push_at rfl rfl
  have k₃ : ∀ b o, h₂.get? b = some o → (h₂.push (kxs_mw "ValueError.__init__" x)).get? b = some o := fun b o e => Heap.get?_push_of_some _ e
  have X₃ := X₂.keeps k₃
  have hn₃ := (hns.keeps k₂).keeps k₃
  cases na with
  | nil => exact absurd rfl T.nz
  | @cons f0 fp es' fs' na' =>
  refine kxs_callWith1 (i := "ValueError.__init__") (x := x) (h₀ := h₂) (L := hh.objs.size) (news := [(h₂.objs.size, kxs_mw "ValueError.__init__" x)]) (fun p hp => ?_) (List.mem_singleton.mpr rfl) ?_ rfl (plain_args na' _ _)
  · rw [List.mem_singleton.mp hp]
    refine ⟨hmw, fun z => ?_, ?_⟩
    · obtain ⟨oL, es, ep, hL, r⟩ := hns.keeps k₂
      exact absurd (Heap.lt_size hL) (by rw [← z]; exact Nat.lt_irrefl _)
    · cases z : h₂.get? h₂.objs.size with
      | none => rfl
      | some o => exact absurd (Heap.lt_size z) (Nat.lt_irrefl _)
  refine spliced_args (env := ksEnv q { kind := .function, names := ns, isGenerator := false, isCoroutine := false, more := mo } hh.objs.size fI (.ref cda) cc) (m := fun y => List.lookup y ((("self" : Str), Value.ref x) :: List.zip (f0 :: fs') us).reverse) rfl p3 (.cons na') hhold (fun f hf => hfl f hf) hn₃ ⟨hmw, ?_⟩
  have hus : us.length ≤ sizeLine := by rw [hu, sizeLine_eq]; have := T.sm; omega
  refine call_ve (X₃ _ _ hC) (k₃ _ _ hx₂) hmw hus fun h₄ t1 k₄ hx₄ => ?_
  have K4 : ∀ b o, b ≠ x → hh.get? b = some o → h₄.get? b = some o := fun b o hb e => k₄ b o hb (k₃ _ _ (k₂ _ _ (hk₁ _ _ e)))
  have X₄ : K.In h₄ := fun b o e => k₄ b o (fun z => by rw [z, hnx] at e; cases e) (X₃ b o e)
  have hn₄ := ns_but hn₃ hxL k₄
  have hsz : hh.objs.size < h₄.objs.size := by
    obtain ⟨oL, es, ep, hL, r⟩ := hn₄
    exact Heap.lt_size hL
  -- the first store
  refine wpAt_of_wpAny ?_
  cases us with
  | nil => cases hu
  | cons v vs' =>
  cases nst with
  | @cons _ a1 a2 a3 a4 ss' _ nst' =>
  obtain ⟨h1, h2, h3⟩ := hhold
  have l1 := hfl f0 (List.mem_cons_self ..)
  refine wpAny_execs_cons (plainObj_wpAny_Assign_Attribute ?_)
  refine ESX.ldL hn₄ h1 (ESX.ldL hn₄ hself ?_ rfl hsl (by decide)) rfl l1 (nm_free h2)
  refine set_plain X₄ (ox := excO C t1) (od := none) ⟨hx₄, rfl, rfl, trivial⟩ T.ox.sa ?_
  refine exc_osa X₄ hx₄ hcl (show refsVE (.ref C :: bm) = true from hbm) rfl (T.no f0 (List.mem_cons_self ..)) (fun h₅ tk₅ dx k₅ dn dne hx₅ hn₅ => ?_)
  have hKd : K.lookup dx = none := by
    cases z : K.lookup dx with
    | none => rfl
    | some o => exact absurd (Heap.lt_size (X₄ _ _ z)) (Nat.not_lt.mpr dn)
  have X₅ : K.In h₅ := fun b o e => k₅ b o (fun z => by rw [z, hnx] at e; cases e) (X₄ b o e)
  have hn₅' := ns_but hn₄ hxL k₅
  have hn₅1 : h₅.Ns1 dx (fun y => ([(f0, v)] : List (Str × Value)).lookup y) := by
    have e : (fun y => if y = f0 then some v else none) = fun y => ([(f0, v)] : List (Str × Value)).lookup y := (lookup_ite f0 v []).symm ▸ rfl
    rw [← e]; exact hn₅
  have hLd : hh.objs.size ≠ dx := Nat.ne_of_lt (Nat.lt_of_lt_of_le hsz dn)
  refine stores_old (env := ksEnv q { kind := .function, names := ns, isGenerator := false, isCoroutine := false, more := mo } hh.objs.size fI (.ref cda) cc) rfl hcl (show refsVE (.ref C :: bm) = true from hbm) rfl T.ox.sa hself hsl (Ne.symm dne) hLd hKd nst' h3 (fun f hf => ⟨hfl f (List.mem_cons_of_mem _ hf), T.no f (List.mem_cons_of_mem _ hf)⟩) (ws := [(f0, v)]) (by have := T.sm; simp at this ⊢; omega)
    (s := ⟨h₅, g, d, tk₅, os⟩) X₅ hn₅' hx₅ hn₅1 fun h₆ tk₆ k₆ n₆ => ?_
  refine hq h₆ tk₆ dx t1 ⟨fun b o hb e => k₆ b o ?_ (k₅ b o hb (K4 b o hb e)), k₆ _ _ (Ne.symm dne) hx₅, Nat.le_trans (Nat.le_of_lt hsz) dn, dne, n₆⟩
  exact Nat.ne_of_lt (Nat.lt_of_lt_of_le (Nat.lt_trans (Heap.lt_size e) hsz) dn)
end
end LyE
namespace Ly
open PySem PySem.Spec PyProof.Rows L2
theorem relO_put' {fs : List Str} : ∀ {vs : List V} {us : List Value} {ws : List (Str × V)} {zs : List (Str × Value)}, Vals vs us → (∀ f, RelO (ws.lookup f) (zs.lookup f)) → ∀ f, RelO ((LyE.put fs vs ws).lookup f) ((LyE.put fs us zs).lookup f) := by
  induction fs with
  | nil => intro vs us ws zs r h f; exact h f
  | cons g fs ih =>
    intro vs us ws zs r h f
    cases r with
    | nil => exact h f
    | @cons v u vs us rv r =>
      refine ih r (fun f => ?_) f
      have e : RelO (((g, v) :: ws).lookup f) (if f = g then some u else zs.lookup f) := relO_put (f := g) (mA := fun y => zs.lookup y) rv h f
      have q : (if f = g then some u else zs.lookup f) = ((g, u) :: zs).lookup f := congrFun (LyE.lookup_ite g u zs) f
      rw [q] at e
      exact e
/-- C(e, ..): its fields -/
def tMkS (C : Addr) (fs : List Str) (ta : TA) : St → Hp → XK → Prop := fun σ H Q => ta σ H fun vs H1 => vs.length = fs.length ∧ ∀ d, H1 d = none → Q (.ref C) (some d) (upd H1 d (.xd (LyE.put fs vs [])))
theorem pmk_sup {X : Cx} {C fI : Addr} {fs : List Str} {x : Str} {e : Expr} {es : List Expr} {ta : TA} {p pos : Pos} {k : Nat} (T : LyE.SupT X.K X.mg X.prog C fI fs) (hr : Room k X.A) (ha : PA X (e :: es) ta) (hg : Gl X x) (hm : X.mg x = some (.ref C)) (hdb : (x == ("__debug__" : Str)) = false)
    (he : starEach (e :: es) X.env = (false, eval e X.env) :: starEach es X.env) (hpl : (backTo pos (starEach es X.env)).any (·.1) = false) :
    PMk X (.Call (.Name x p) (e :: es) [] pos) (tMkS C fs ta) := by
  intro pins s σ H Q I h
  refine wpAny_Call_Name_kw (ld_glob I hg hm ?_ hdb)
  refine PySem.W.callWith_K (h₀ := X.base) I.ok.mod.kin T.ox.kC (thn (ha.run pos pins s σ H _ I h) fun us s1 hh => ?_) he hpl
  obtain ⟨vs, H1, I1, r1, hvl, q1⟩ := hh
  refine ⟨I1.kIn, ?_⟩
  show wpAny _ _ (call (.ref C) us) _ _ _
  have hlim := I1.nolimit
  have hus : us.length = fs.length := by rw [← Paired.length r1]; exact hvl
  obtain ⟨mb, hB1, hB2⟩ := I1.mod.blt
  have GB := I1.mod.glob.keeps I1.bk
  have BB := hB1.keeps I1.bk
  have X1 := I1.kIn
  obtain ⟨hp, g, dr, tk, os⟩ := s1
  obtain ⟨nm, q, N, bs, bm, sn, sub, ab, col, dd, k0, k1, k2, k3, k5, hC, hbm⟩ := T.ox.cls
  have kk : ∀ b o, hp.get? b = some o → ((hp.push (PySem.W.kdv_tup us)).push (PySem.HandSPX.excO C hp.objs.size)).get? b = some o := fun b o e => Heap.get?_push_of_some _ (Heap.get?_push_of_some _ e)
  have hget : ((hp.push (PySem.W.kdv_tup us)).push (PySem.HandSPX.excO C hp.objs.size)).get? (hp.objs.size + 1) = some (PySem.HandSPX.excO C hp.objs.size) := by heap_get
  have hnx : X.K.lookup (hp.objs.size + 1) = none := by
    cases e : X.K.lookup (hp.objs.size + 1) with
    | none => rfl
    | some o =>
      have z : hp.get? (hp.objs.size + 1) = some o := X1 _ _ e
      exact absurd (Nat.lt_of_succ_lt (Heap.lt_size z)) (Nat.lt_irrefl _)
  have hsl : us.length ≤ sizeLine := by rw [hus, sizeLine_eq]; have := T.sm; omega
  refine wpAny_call (PySem.HandSPX.call_own F.excBase_ValueError (fun Y => PySem.HandSPX.refsVE_contains Y bm hbm) (X1 _ _ hC) (PySem.W.looks_findIn X1 T.iC) (fun self => PySem.W.bind_fn X1 self T.tI) hsl ?_)
  refine LyE.sup_init (s := ⟨(hp.push (PySem.W.kdv_tup us)).push (PySem.HandSPX.excO C hp.objs.size), g, dr, tk, os⟩) T hus (X1.keeps kk) (GB.keeps kk) (BB.keeps kk) ((hB2 _ (by decide)).trans rfl) (hlim.keeps kk) hget hnx ?_ fun h' tk' dx t1 ⟨k', hx, dn, dne, hns⟩ => ?_
  · show X.A.depth + 1 < recursionLimit
    have := hr.dp
    omega
  · have new : hp.objs.size ≤ hp.objs.size + 1 := Nat.le_succ _
    have old : ∀ b o, hp.get? b = some o → h'.get? b = some o := fun b o e => k' b o (Nat.ne_of_lt (Nat.lt_succ_of_lt (Heap.lt_size e))) (kk b o e)
    have dbig : hp.objs.size + 1 + 1 ≤ dx := by
      first
        | (simpa only [Heap.size_push] using dn)
        | exact dn
        | (have q := dn; rw [Heap.size_push, Heap.size_push] at q; exact q)
    refine ⟨rfl, ?_⟩
    show MkP X pins σ Q (.ref (hp.objs.size + 1)) ⟨h', g, dr, tk', os⟩
    obtain ⟨G', g1, g2⟩ := restrict h' fun b => decide (b ≠ hp.objs.size + 1)
    have gk : ∀ b, b ≠ hp.objs.size + 1 → G'.get? b = h'.get? b := fun b hb => g1 b (decide_eq_true hb)
    have ge : G'.get? (hp.objs.size + 1) = none := g2 _ (by simp)
    have old' : ∀ b o, hp.get? b = some o → G'.get? b = some o := fun b o q => (gk b (Nat.ne_of_lt (Nat.lt_of_lt_of_le (Heap.lt_size q) new))).trans (old b o q)
    have ob : ObjOk X.prog X.w (upd H1 dx (.xd (LyE.put fs vs []))) G' dx (.xd (LyE.put fs vs [])) :=
      ⟨_, hns.at (fun o q => (gk dx dne).trans q), relO_put' r1 fun f => True.intro⟩
    have J : Inv X pins σ (upd H1 dx (.xd (LyE.put fs vs []))) ⟨G', g, dr, tk', os⟩ := I1.laid (t' := tk') old' (Nat.le_trans (Nat.le_trans new (Nat.le_succ _)) dbig) ob
    refine ⟨hp.objs.size + 1, _, _, ⟨G', g, dr, tk', os⟩, _, .ref C, some dx, rfl, J, fun b o q => ?_, ge, hx, ⟨rfl, rfl⟩, rfl, rfl, ?_, rfl, I1.bare, raises_own T.ox.exC T.ox.tyC, q1 dx (I1.hok.fresh (Nat.le_trans (Nat.le_trans new (Nat.le_succ _)) dbig))⟩
    · by_cases hb : b = hp.objs.size + 1
      · have q' : G'.get? b = some o := q
        rw [hb, ge] at q'; cases q'
      · exact (gk b hb).symm.trans q
    · rw [upd_ne (Ne.symm dne)]
      exact I1.hok.fresh new
end Ly
end
section
set_option Elab.async false
set_option linter.all false
set_option maxRecDepth 100000
set_option maxHeartbeats 1000000
/-! Ly12: the exception in hand: isinstance, its fields; raise; try. -/
namespace LyE
open PySem PySem.W PySem.Calls PyProof.Rows
section
variable {prog : Program} {w : World} {A : Around} {E : Value → Shared → Prop} {s : Shared} {K : Frag} {x D : Addr} {ox : Obj} {od : Option Obj}
theorem findObj_dataN {C : Addr} {name : Str} {a g : Value} (hc : (clsIn K C).isSome = true) (ha : findIn K (.ref C) name = some (some a)) (hg : specialIn K a "__get__" = some (some g)) (ht : takesIn K a = some true) : findObj K C od name = some (.bind g a) := by
  obtain ⟨cd, hc⟩ := Option.isSome_iff_exists.mp hc
  unfold findObj
  rw [hc, Option.bind_some, ha, Option.bind_some]
  simp [hg, ht]
theorem kin_classE {Q : Option Value → Shared → Prop} (hga : findIn K (.ref D) "__getattribute__" = some (some (.builtin "BaseException.__getattribute__"))) (hgt : findIn K (.ref D) "__getattr__" = some none) (hsub : subIn K (.ref D) (.type "BaseException") = some true)
    (hdct : hasDictIn K D = true) (ha : findIn K (.ref D) "__class__" = some (some (.builtin "object.__class__")))
    (hn : specialIn K (.builtin "object.__class__") "__get__" = some (some (.builtin "getset_descriptor.__get__"))) (htk : takesIn K (.builtin "object.__class__") = some true) (hm : mroIn K D (.type "object") = some true)
    (X : K.In s.heap) (I : InstAt s.heap x ox D od) (h : Q (some (.ref D)) { s with toks := s.toks + 1 }) : wpAny (model prog w) A (getAttr? (.ref x) "__class__") Q E s := by
  have hf : findObj K D od "__class__" = some (.bind (.builtin "getset_descriptor.__get__") (.builtin "object.__class__")) := findObj_dataN (by obtain ⟨cd, hc, _⟩ := any_some hdct; rw [hc]; rfl) ha hn htk
  obtain ⟨hp, g, d, t, os⟩ := s
  have L0 := I.type (M := model prog w)
  have L1 := looks_findIn (M := model prog w) X hga
  have L2 := looks_findIn (M := model prog w) X hgt
  have L3 := looks_find (M := model prog w) X I hf
  have sub : Looks (model prog w) hp (isInstance (.ref x) (.type "BaseException")) true := L0.andThen (looks_subIn X hsub)
  have hx0 : (false && onTheHeap (Value.builtin "BaseException.__getattribute__")) = false := rfl
  have hx2 : (Value.builtin "BaseException.__getattribute__" == Value.builtin "object.__getattribute__") = false := by decide +kernel
  have hx1 : (onTheHeap (Value.ref D) && Value.builtin "BaseException.__getattribute__" == Value.builtin "object.__getattribute__") = false := by rw [hx2]; rfl
  unfold getAttr? getAttrBy? getAttrBy
  refine wpAny_bind (wpAny_mkText (wpAny_bind (wpAny_attempt (wpAny_holding (wpAny_bind (L0.at (wpAny_bind (L1.at ?_))))))))
  show wpAny _ _ (if (onTheHeap (Value.ref D) && Value.builtin "BaseException.__getattribute__" == Value.builtin "object.__getattribute__") = true then _ else _) _ _ _
  rw [hx1, if_neg Bool.false_ne_true]
  unfold getAttrByItsOwn hookBefore
  refine wpAny_bind ?_
  rw [if_pos (show onTheHeap (Value.ref D) = true from rfl)]
  refine L2.at ?_
  refine wpAny_bind (wpAny_attempt (wpAny_holding ?_))
  unfold callGetattribute
  rw [hx0, if_neg Bool.false_ne_true]
  unfold boundAndCalled
  rw [PySem.F.excAttr_ValueError.ga.bind (.ref x)]
  refine wpAny_bind (wpAny_pure ?_)
  show wpAny _ _ (call (.builtin "BaseException.__getattribute__") [.ref x, .str "__class__" t]) _ _ _
  refine wpAny_call (codeAny_call_builtin PySem.F.excAttr_ValueError.ga.plain PySem.F.entry_bexc_ga ?_)
  refine @check_slot (model prog w) _ _ ⟨hp, g, d, t + 1, os⟩ "BaseException.__getattribute__" "BaseException" "__getattribute__" (.ref x) [.str "__class__" t] [] _ (by decide +kernel) (by decide +kernel) sub (PySem.F.args_bexc_ga (.ref x) (.str "__class__" t)) ?_
  unfold Builtin.«object.__getattribute__»
  refine wpAny_bind (wpAny_of_eq (a := ((Value.ref x : Value), [Value.str "__class__" t])) (by first | rfl | (simp only [slotArgs]; rfl)) ?_)
  refine wpAny_bind (wpAny_pure (wpAny_bind (L0.at (wpAny_bind (L3.at ?_)))))
  show wpAny _ _ (holding [Value.builtin "object.__class__"] (call (.builtin "getset_descriptor.__get__") [.builtin "object.__class__", .ref x, .ref D]) >>= ret) _ _ _
  refine wpAny_bind (wpAny_holding (wpAny_call (class_get (s := ⟨hp, g, d, t + 1, os⟩) (ox := ox) (od := od) X I hm ?_)))
  refine wpAny_pure ?_
  show wpAny _ _ (handedOut (.ref D)) _ _ _
  rw [handedOut_of (v := .ref D) rfl]
  first
    | exact wpAny_pure (wpAny_pure h)
    | exact wpAny_pure h
    | exact wpAny_pure (wpAny_bind (wpAny_pure (wpAny_pure h)))
theorem kitx_exc (C : L2.ExcC K D) : KitX K (.ref x) (.ref D) (fun h => ∃ od, InstAt h x ox D od) where
  ty := fun _ _ _ ⟨_, I⟩ => I.type
  it := fun _ _ X _ => by
    obtain ⟨cdD, hcD, _⟩ := any_some C.hd
    unfold clsIn at hcD
    split at hcD
    · rename_i c' d' cd' sl' ho
      intro A' Q' E' s' k q
      unfold isType loadHead
      exact wpAny_bind (wpAny_loadPart (k _ _ (X _ _ ho)) (wpAny_pure q))
    · cases hcD
  ne := fun h tp dd its n sl X htp => by
    obtain ⟨cdD, hcD, _⟩ := any_some C.hd
    refine Bool.eq_false_iff.mpr fun q => ?_
    have e : D = tp := Value.ref.inj (beq_iff_eq.mp q)
    subst e
    unfold clsIn at hcD
    split at hcD
    · rename_i c' d' cd' sl' ho
      have z := (X _ _ ho).symm.trans htp
      cases z
    · cases hcD
  ca := fun X ⟨_, I⟩ k => kin_classE C.hg C.hk C.hs C.hd C.ha C.hn C.ht C.hm X I k
end
end LyE
namespace Ly
open PySem PySem.Spec PyProof.Rows L2
def exOf (xa : Xa) : Option (Str × List Str × List D) := xa.map fun r => (r.c, r.fs, r.vs)
/-- what a class needs, whose errors are asked in a suite -/
structure EcOk (K : PySem.W.Frag) (c : Str) : Prop where
  is : ExcC K (He.ga K c)
  xf : XfC K (He.ga K c)
/-- the context of the suite -/
def SuiteOk (X : Cx) (T : SubT) (xa : Xa) : Prop := ∀ r, xa = some r → ∃ (Y : Cx) (oe : Obj) (pn : List (Addr × Obj)), X = Y.suite r.a ((r.a, oe) :: pn) ∧ Zc (.ref (He.ga Y.K r.c)) (some r.dd) oe ∧ (∃ vs, oe.data = .fields vs) ∧ EcOk Y.K r.c ∧ ∃ x b, subOf T r.c x = some b
theorem suiteOk_none {X : Cx} {T : SubT} : SuiteOk X T none := fun _ h => by cases h
/-- the name of a class -/
def ClN (X : Cx) (c : Str) (v : V) (u : Value) : Prop := Gl X c ∧ (c == ("__debug__" : Str)) = false ∧ ((X.mg c = some u ∧ ∃ a, v = .ref a ∧ u = .ref a) ∨ (X.mg c = none ∧ bootBuiltins c = some u ∧ c ≠ "__name__" ∧ ∃ n, v = .ty n ∧ u = .type n))
theorem ClN.clsV {X : Cx} {c : Str} {v : V} {u : Value} (h : ClN X c v u) : ClsV v u := by
  obtain ⟨_, _, ⟨_, a, rfl, rfl⟩ | ⟨_, _, _, n, rfl, rfl⟩⟩ := h
  · exact .own _
  · exact .ty _
theorem ClN.pe {X : Cx} {c : Str} {v : V} {u : Value} {p : Pos} (h : ClN X c v u) : PE X (.Name c p) (tC v) := by
  obtain ⟨hg, hd, ⟨hm, a, rfl, rfl⟩ | ⟨hm, hb, hn, n, rfl, rfl⟩⟩ := h
  · exact pe_glob hg hm rfl hd
  · exact pe_bltn hg hm hb rfl hn hd
theorem ClN.names {X : Cx} {c : Str} {v : V} {u : Value} (h : ClN X c v u) : Names X c u := by
  obtain ⟨hg, hd, ⟨hm, _⟩ | ⟨hm, hb, hn, _⟩⟩ := h
  · exact ⟨hg, hd, .inl hm⟩
  · exact ⟨hg, hd, .inr ⟨hm, hb, hn⟩⟩
section
variable {X : Cx} {xa : Xa} {W : WX} {a b c e : Expr} {es : List Expr} {pos p : Pos} {g : Gs} {ca cb cc : CE}
def rIsX (K : PySem.W.Frag) (xa : Xa) : List V → Hp → VK → Prop := fun xs H Q => ∃ (r : XaR) (fs : List (Str × V)) (v : V) (u : Value) (b : Bool), xa = some r ∧ H r.dd = some (.xd fs) ∧ xs = [.ref r.a, v] ∧ ClsV v u ∧ PySem.W.kitOne K (.ref (He.ga K r.c)) u = some b ∧ Q (.bl b) H
def rIsXT (K : PySem.W.Frag) (xa : Xa) : List V → Hp → VK → Prop := fun xs H Q => ∃ (r : XaR) (fs : List (Str × V)) (tp : Addr) (cs : List V) (us : List Value) (b : Bool), xa = some r ∧ H r.dd = some (.xd fs) ∧ xs = [.ref r.a, .ref tp] ∧ H tp = some (.tup cs) ∧ Paired ClsV cs us ∧ PySem.W.kitAny K (.ref (He.ga K r.c)) us = some b ∧ Q (.bl b) H
theorem inst_of {pins : List (Addr × Obj)} {σ : St} {H : Hp} {s : Shared} {r : XaR} {Y : Cx} {oe : Obj} {pn : List (Addr × Obj)} {fs : List (Str × V)} (I : Inv (Y.suite r.a ((r.a, oe) :: pn)) pins σ H s) (hz : Zc (.ref (He.ga Y.K r.c)) (some r.dd) oe) (hf : ∃ vs, oe.data = .fields vs) (hd : H r.dd = some (.xd fs)) :
    ∃ od, PySem.W.InstAt s.heap r.a oe (He.ga Y.K r.c) od := by
  obtain ⟨hget, _⟩ := I.pin (r.a, oe) (List.mem_append.mpr (.inl List.mem_cons_self))
  obtain ⟨vs, hv⟩ := hf
  have hx : ObjOk _ _ H s.heap r.dd (.xd fs) := I.hok r.dd _ hd
  obtain ⟨mA, hns, _⟩ := hx
  obtain ⟨od, ho, _⟩ := lookIn_ns hns
  exact ⟨some od, hget, hz.1, by unfold PySem.W.notCls; rw [hv] <;> rfl, by rw [hz.2]; exact ho⟩
theorem call_isX (S : SuiteOk X g.T xa) : CallR X (.builtin "isinstance") (rIsX X.K xa) := by
  intro pins s σ H xs us Q I rv h
  obtain ⟨r, fs, v, u, b, hxa, hd, rfl, hcv, e, q⟩ := h
  obtain ⟨Y, oe, pn, rfl, hz, hf, he, _⟩ := S r hxa
  obtain ⟨u1, u2, rfl, r1, r2⟩ := vals2 rv
  have e2 := hcv.eq r2
  subst e2
  cases (show u1 = Value.ref r.a from r1)
  exact PySem.W.kia_one (LyE.kitx_exc (ox := oe) he.is) I.kIn (inst_of I hz hf hd) e (fun z => nomatch z) fun tk => ⟨.bl b, H, I.kept (t' := tk) fun _ _ z => z, rfl, q⟩
theorem call_isXT (S : SuiteOk X g.T xa) : CallR X (.builtin "isinstance") (rIsXT X.K xa) := by
  intro pins s σ H xs us Q I rv h
  obtain ⟨r, fs, tp, cs, ws, b, hxa, hd, rfl, hT, k, e, q⟩ := h
  obtain ⟨Y, oe, pn, rfl, hz, hf, he, _⟩ := S r hxa
  obtain ⟨u1, u2, rfl, r1, r2⟩ := vals2 rv
  cases (show u2 = Value.ref tp from r2)
  cases (show u1 = Value.ref r.a from r1)
  obtain ⟨_, its, rv, o, h1, h2, n, h3⟩ := (show ObjOk _ _ H s.heap tp (.tup cs) from I.hok tp _ hT)
  have e3 := ClsV.all k rv
  subst e3
  obtain ⟨oc, od, dt, sl⟩ := o
  simp only at h2 h3
  subst h2 h3
  exact PySem.W.kia_tup (LyE.kitx_exc (ox := oe) he.is) I.kIn (inst_of I hz hf hd) h1 e (fun z => nomatch z) fun tk => ⟨.bl b, H, I.kept (t' := tk) fun _ _ z => z, rfl, q⟩
/-- what the table of the classes says is so -/
def TabC (K : PySem.W.Frag) (T : SubT) (c : Str) (u : Value) : Prop := ∀ c' b, subOf T c' c = some b → PySem.W.kitOne K (.ref (He.ga K c')) u = some b
theorem e_isE1 {i : Nat} {n x : Str} {v : V} {u : Value} {p1 p2 : Pos} (S : SuiteOk X g.T xa) (hx : exOf xa = g.ex) (hix : ∀ r, xa = some r → r.i = i) (hN : X.N[i]? = some n) (hv : Vis X.env.scope n) (hd : (n == ("__debug__" : Str)) = false) (hcd : (n == ("__classdict__" : Str)) = false)
    (hg0 : Gl X "isinstance") (hm0 : X.mg "isinstance" = none) (hc : ClN X x v u) (ht : TabC X.K g.T x u) :
    E1 X xa W (.Call (.Name "isinstance" p) [.Name n p1, .Name x p2] [] pos) (ev g (.isE [x])) :=
  pe_w (pe_callB (call_isX S) hg0 hm0 boot_isinstance' (pa_cons (pe_var hN hv hd hcd) (pa_cons hc.pe pa_nil rfl) rfl) (by decide) (by decide) rfl rfl) fun σ H Q ⟨ρ, σd, h, rl, rh, p⟩ => by
    have p' : Post X.K xa (fun c d H' => W c d σ H') ρ H (match g.ex with
      | some (c, _, _) => (match (match subOf g.T c x with
        | some true => some true
        | some false => some false
        | none => none) with
        | some b => R.ok (.bl b) h
        | none => .bad)
      | none => .bad) Q := p
    rw [← hx] at p'
    cases hxa : xa with
    | none => rw [hxa] at p'; exact p'.elim
    | some r =>
      obtain ⟨h1, fs, h2, h3, h4⟩ := rl.x r hxa
      rw [hix r hxa] at h1
      have p2 : Post X.K xa (fun c d H' => W c d σ H') ρ H (match (match subOf g.T r.c x with
        | some true => some true
        | some false => some false
        | none => none) with
        | some b => R.ok (.bl b) h
        | none => .bad) Q := by rw [hxa] at p' ⊢; exact p'
      cases z : subOf g.T r.c x with
      | none => rw [z] at p2; exact p2.elim
      | some b =>
        rw [z] at p2
        refine ⟨.ref r.a, h1, r, fs, v, u, b, by rw [← hxa], h2, rfl, hc.clsV, ht _ _ z, ?_⟩
        cases b <;> exact Post.okv p2 rh (.bl _)
/-- the names of classes -/
inductive ClL (X : Cx) : List Expr → List Str → List V → List Value → Prop
  | nil : ClL X [] [] [] []
  | cons {x : Str} {p : Pos} {v : V} {u : Value} {es : List Expr} {xs : List Str} {vs : List V} {us : List Value} : ClN X x v u → ClL X es xs vs us → ClL X (.Name x p :: es) (x :: xs) (v :: vs) (u :: us)
theorem ClL.pa {es : List Expr} {xs : List Str} {vs : List V} {us : List Value} (h : ClL X es xs vs us) : PA X es (fun _ H Q => Q vs H) := by
  induction h with
  | nil => exact pa_nil
  | cons hc _ ih => exact pa_w (pa_cons hc.pe ih rfl) fun σ H Q q => q
theorem ClL.cls {es : List Expr} {xs : List Str} {vs : List V} {us : List Value} (h : ClL X es xs vs us) : Paired ClsV vs us := by
  induction h with
  | nil => exact .nil
  | cons hc _ ih => exact .cons hc.clsV ih
theorem ClL.len {es : List Expr} {xs : List Str} {vs : List V} {us : List Value} (h : ClL X es xs vs us) : vs.length = xs.length := by
  induction h with
  | nil => rfl
  | cons hc _ ih => exact congrArg Nat.succ ih
theorem ClL.kit {T : SubT} {es : List Expr} {xs : List Str} {vs : List V} {us : List Value} (h : ClL X es xs vs us) (ht : ∀ x u v, x ∈ xs → ClN X x v u → TabC X.K T x u) {c : Str} {b : Bool} (e : isSome1 T c xs = some b) : PySem.W.kitAny X.K (.ref (He.ga X.K c)) us = some b := by
  induction h with
  | nil => exact e
  | @cons x p v u es xs vs us hc _ ih =>
    have e' : (match subOf T c x with
      | some true => some true
      | some false => isSome1 T c xs
      | none => none) = some b := e
    cases z : subOf T c x with
    | none => rw [z] at e'; cases e'
    | some b0 =>
      rw [z] at e'
      have k := ht x u v (List.mem_cons_self ..) hc _ _ z
      cases b0 with
      | true =>
        cases e'
        exact kitAny_cons (b := true) k (fun q => nomatch q) fun _ => rfl
      | false => exact kitAny_cons (b := false) k (fun _ => ih (fun x u v hx => ht x u v (List.mem_cons_of_mem _ hx)) e') fun q => nomatch q
theorem e_isET {i : Nat} {n : Str} {xs : List Str} {vs : List V} {us : List Value} {k : Nat} {p1 p2 : Pos} (S : SuiteOk X g.T xa) (hx : exOf xa = g.ex) (hix : ∀ r, xa = some r → r.i = i) (hN : X.N[i]? = some n) (hv : Vis X.env.scope n) (hd : (n == ("__debug__" : Str)) = false) (hcd : (n == ("__classdict__" : Str)) = false)
    (hg0 : Gl X "isinstance") (hm0 : X.mg "isinstance" = none) (hc : ClL X es xs vs us) (ht : ∀ x u v, x ∈ xs → ClN X x v u → TabC X.K g.T x u) (hl : xs.length ≤ 1000) :
    E1 X xa W (.Call (.Name "isinstance" p) [.Name n p1, .Tuple es k p2] [] pos) (ev g (.isE xs)) :=
  pe_w (pe_callB (call_isXT S) hg0 hm0 boot_isinstance' (pa_cons (pe_var hN hv hd hcd) (pa_cons (pe_tup hc.pa) pa_nil rfl) rfl) (by decide) (by decide) rfl rfl) fun σ H Q ⟨ρ, σd, h, rl, rh, p⟩ => by
    have p' : Post X.K xa (fun c d H' => W c d σ H') ρ H (match g.ex with
      | some (c, _, _) => (match isSome1 g.T c xs with
        | some b => R.ok (.bl b) h
        | none => .bad)
      | none => .bad) Q := p
    rw [← hx] at p'
    cases hxa : xa with
    | none => rw [hxa] at p'; exact p'.elim
    | some r =>
      obtain ⟨h1, fs, h2, h3, h4⟩ := rl.x r hxa
      rw [hix r hxa] at h1
      have p2 : Post X.K xa (fun c d H' => W c d σ H') ρ H (match isSome1 g.T r.c xs with
        | some b => R.ok (.bl b) h
        | none => .bad) Q := by rw [hxa] at p' ⊢; exact p'
      cases z : isSome1 g.T r.c xs with
      | none => rw [z] at p2; exact p2.elim
      | some b =>
        rw [z] at p2
        refine ⟨.ref r.a, h1, by rw [hc.len, sizeLine_eq]; omega, fun tp htp => ?_⟩
        obtain ⟨rh2, e2⟩ := rh.tupx (xs := vs) htp
        exact ⟨r, fs, tp, vs, us, b, by rw [← hxa], e2.keep _ _ h2 trivial, rfl, upd_same, hc.cls, hc.kit ht z, p2 _ _ _ (List.prefix_refl _) e2 rh2 (.bl _)⟩
/-- e.f -/
theorem e_fld {i : Nat} {n f : Str} {p1 : Pos} (S : SuiteOk X g.T xa) (hx : exOf xa = g.ex) (hix : ∀ r, xa = some r → r.i = i) (hN : X.N[i]? = some n) (hv : Vis X.env.scope n) (hd : (n == ("__debug__" : Str)) = false) (hcd : (n == ("__classdict__" : Str)) = false)
    (hno : ∀ c' x b, subOf g.T c' x = some b → PySem.W.findIn X.K (.ref (He.ga X.K c')) f = some none) : E1 X xa W (.Attribute (.Name n p1) f pos) (ev g (.fld f)) := by
  cases hxa : xa with
  | none =>
    refine ⟨fun pins s σ H Q I ⟨ρ, σd, h, rl, rh, p⟩ => ?_⟩
    have p' : Post X.K none (fun c d H' => W c d σ H') ρ H (match g.ex with
      | some (_, fs, vs) => (match (fs.zip vs).lookup f with
        | some d => .ok d h
        | none => .bad)
      | none => .bad) Q := p
    rw [← hx, hxa] at p'
    exact p'.elim
  | some r =>
    obtain ⟨Y, oe, pn, rfl, hz, hf, he, x0, b0, hsub⟩ := S r hxa
    refine pe_w (pe_xf he.xf (hno _ _ _ hsub) hz hf (pe_var hN hv hd hcd) rfl) fun σ H Q ⟨ρ, σd, h, rl, rh, p⟩ => ?_
    obtain ⟨h1, fs, h2, h3, h4⟩ := rl.x r rfl
    rw [hix r hxa] at h1
    have p' : Post Y.K (some r) (fun c d H' => W c d σ H') ρ H (match g.ex with
      | some (_, fs, vs) => (match (fs.zip vs).lookup f with
        | some d => .ok d h
        | none => .bad)
      | none => .bad) Q := p
    rw [← hx, hxa] at p'
    have p2 : Post Y.K (some r) (fun c d H' => W c d σ H') ρ H (match (r.fs.zip r.vs).lookup f with
        | some d => .ok d h
        | none => .bad) Q := p'
    rw [← h3] at p2
    have key : ∀ (fs : List (Str × V)) (vs : List D), RepVs Y.K (some r) ρ H vs (fs.map (·.2)) → ∀ d, ((fs.map (·.1)).zip vs).lookup f = some d → ∃ v, fs.lookup f = some v ∧ RepV Y.K (some r) ρ H d v := by
      intro fs
      induction fs with
      | nil => intro vs _ d hd; cases vs <;> cases hd
      | cons q fs ih =>
        intro vs rv d hd
        obtain ⟨k, v⟩ := q
        cases rv with
        | @cons d0 v0 ds0 vs0 r0 rs =>
          by_cases hk : f = k
          · subst hk
            simp [List.lookup] at hd ⊢
            rw [← hd]; exact r0
          · have hk' : (f == k) = false := by simpa using hk
            simp [List.lookup, hk'] at hd ⊢
            exact ih _ rs d hd
    cases z : ((fs.map (·.1)).zip r.vs).lookup f with
    | none => rw [z] at p2; exact p2.elim
    | some d =>
      rw [z] at p2
      obtain ⟨v, l, rv⟩ := key fs r.vs h4 d z
      exact ⟨.ref r.a, h1, rfl, rfl, r.dd, fs, v, rfl, h2, l, p2.okv rh rv⟩
/-! ### raise -/
theorem put_eq {α : Type} : ∀ (fs : List Str) (vs : List α) (ws : List (Str × α)), LyE.put fs vs ws = (fs.zip vs).reverse ++ ws
  | [], _, ws => rfl
  | _ :: _, [], ws => rfl
  | f :: fs, v :: vs, ws => by
    show LyE.put fs vs ((f, v) :: ws) = _
    rw [put_eq]
    simp
theorem zip_fst {α : Type} : ∀ {fs : List Str} {vs : List α}, vs.length = fs.length → (fs.zip vs).map (·.1) = fs
  | [], _, _ => by simp
  | f :: fs, [], h => by cases h
  | f :: fs, v :: vs, h => by
    simp only [List.zip_cons_cons, List.map_cons]
    rw [zip_fst (by simpa using h)]
theorem zip_snd {α : Type} : ∀ {fs : List Str} {vs : List α}, vs.length = fs.length → (fs.zip vs).map (·.2) = vs
  | [], [], _ => rfl
  | [], _ :: _, h => by cases h
  | f :: fs, [], h => by cases h
  | f :: fs, v :: vs, h => by
    simp only [List.zip_cons_cons, List.map_cons]
    rw [zip_snd (by simpa using h)]
theorem s_raise {fs : List Str} {x : Str} {fI : Addr} {k : Nat} {pos2 : Pos} (hcalm : X.calm = true) (T : LyE.SupT X.K X.mg X.prog (He.ga X.K x) fI fs) (hr : Room k X.A) (tk : Takes X W) (ha : Ar X xa W (e :: es) (ev g ca)) (hs : notStars (e :: es) = true) (hg : Gl X x) (hm : X.mg x = some (.ref (He.ga X.K x))) (hdb : (x == ("__debug__" : Str)) = false) :
    S1 X xa W (.Raise (some (.Call (.Name x p) (e :: es) [] pos2)) none pos) (exec g (.raise x fs ca)) := by
  have hs1 : notStar e = true := (Bool.and_eq_true_iff.mp hs).1
  have hs2 : notStars es = true := (Bool.and_eq_true_iff.mp hs).2
  refine ps_w (ps_raise hcalm tk (pmk_sup T hr ha hg hm hdb (star_one hs1 _ _) (star_none hs2 _ _))) fun D' σ H ⟨ρ, σd, h, rl, rh, p⟩ => ⟨ρ, σd, h, rl, rh, ?_⟩
  have p' : PostS X.K xa W D' ρ H (evS (ev g ca σd h) σd fun y h1 => (match y with
    | .tup ds => if ds.length = fs.length then .exc x fs.reverse ds.reverse σd h1 else .bad
    | _ => .bad)) := p
  cases z : ev g ca σd h with
  | bad => rw [z] at p'; exact p'.elim
  | exc c' fs' vs' h' =>
    rw [z] at p'
    exact fun ρ1 H1 dd ys q1 e1 rh1 => p' ρ1 H1 σ dd ys q1 e1 rh1 (rl.ext q1 e1)
  | ok y h1 =>
    rw [z] at p'
    cases y with
    | tup ds =>
      intro ρ1 H1 vs q1 e1 rh1 rv
      have p2 : PostS X.K xa W D' ρ H (if ds.length = fs.length then .exc x fs.reverse ds.reverse σd h1 else .bad) := p'
      by_cases hl : ds.length = fs.length
      · rw [if_pos hl] at p2
        have hvl : vs.length = fs.length := by rw [← rv.length]; exact hl
        refine ⟨hvl, fun d hd => ?_⟩
        have pe : LyE.put fs vs [] = (fs.zip vs).reverse := by rw [put_eq, List.append_nil]
        have e2 : Ext H1 (upd H1 d (.xd (LyE.put fs vs []))) := Ext.new hd
        have rh2 : RepH X.K xa ρ1 (upd H1 d (.xd (LyE.put fs vs []))) h1 := ⟨rh1.len, rh1.nd, fun n ao hn => by
          obtain ⟨a, o, f1, f2, f3⟩ := rh1.obj n ao hn
          exact ⟨a, o, f1, by rw [upd_ne (ne_of_none f2 hd)]; exact f2, f3.ext (List.prefix_refl _) e2⟩⟩
        refine p2 ρ1 _ σ d _ q1 (e1.trans e2) rh2 (rl.ext q1 (e1.trans e2)) upd_same ?_ ?_
        · rw [pe, List.map_reverse, zip_fst hvl]
        · have em : (LyE.put fs vs []).map (·.2) = vs.reverse := by rw [pe, List.map_reverse, zip_snd hvl]
          rw [em]
          exact (rv.ext (List.prefix_refl _) e2).reverse
      · rw [if_neg hl] at p2; exact p2.elim
    | _ => exact p'.elim
/-! ### try -/
theorem s_try {n x : Str} {v : V} {u : Value} {i : Nat} {ib is : CS} {body suite : List Stmt} {b₀ : Stmt} {np pos' : Pos} (hst : X.stack = X.env :: X.outer) (hf : X.env.frame = some X.env.locals) (hN : X.N.Nodup) (hi : X.N[i]? = some n) (hln : X.env.kindOf n = some .local) (hc : ClN X x v u) (tk : Takes X W)
    (hex : ∀ c' b, subOf g.T c' x = some b → PySem.W.exmOne X.K (.ref (He.ga X.K c')) u = some b) (hec : ∀ c' b, subOf g.T c' x = some b → EcOk X.K c')
    (hb : ∀ (W' : WX) (pn : List (Addr × Obj)) (xe : Value → Shared → Prop), Takes (X.tr pn xe) W' → PassesOwn (model X.prog X.w) X.A X.env xe → Ss1 (X.tr pn xe) none W' body (exec g ib))
    (hs : ∀ (r : XaR) (oe : Obj) (pn : List (Addr × Obj)), r.i = i → SuiteOk (X.suite r.a ((r.a, oe) :: pn)) g.T (some r) → Ss1 (X.suite r.a ((r.a, oe) :: pn)) (some r) (fun _ _ _ _ => False) (b₀ :: suite) (exec { g with ex := some (r.c, r.fs, r.vs) } is)) :
    S1 X none W (.Try body [.ExceptHandler (some (.Name x np)) (some n) (b₀ :: suite) pos'] [] [] pos) (exec g (.try_ ib x i is)) := by
  refine ps_w (ps_try_as (i := i) (tb := fun W' => semS X.K none W' (exec g ib))
    (ts := fun a cls d D σ H => ∃ r : XaR, r.a = a ∧ r.i = i ∧ d = some r.dd ∧ cls = .ref (He.ga X.K r.c) ∧ EcOk X.K r.c ∧ (∃ y b, subOf g.T r.c y = some b) ∧ semS X.K (some r) (fun _ _ _ _ => False) (exec { g with ex := some (r.c, r.fs, r.vs) } is) D σ H)
    (Wout := W) hst hf hN hi hln hc.names tk hb ?_) fun D' σ H ⟨ρ, σd, h, rl, rh, p⟩ => ⟨ρ, σd, h, rl, rh, ?_⟩
  · intro a oe cls d pn hz hfd
    refine ⟨fun pins s σ H D I h => ?_⟩
    obtain ⟨r, rfl, hri, rfl, rfl, he, ht, hsem⟩ := h
    exact (hs r oe pn hri fun r' hr' => by
      cases hr'
      exact ⟨X, oe, pn, rfl, hz, hfd, he, ht⟩).run pins s σ H D I hsem
  · have p' : PostS X.K none W D' ρ H (match exec g ib σd h with
      | .exc c' fs vs σ1 h1 => (match subOf g.T c' x with
        | some true => if i < σ1.length then (match exec { g with ex := some (c', fs, vs) } is (σ1.set i none) h1 with
          | .nx σ2 h2 => .nx (σ2.set i none) h2
          | .bk σ2 h2 => .bk (σ2.set i none) h2
          | .ct σ2 h2 => .ct (σ2.set i none) h2
          | .rt d h2 => .rt d h2
          | _ => .bad) else .bad
        | some false => .exc c' fs vs σ1 h1
        | none => .bad)
      | r => r) := p
    cases z : exec g ib σd h with
    | nx => rw [z] at p'; exact p'
    | bk => rw [z] at p'; exact p'
    | ct => rw [z] at p'; exact p'
    | rt => rw [z] at p'; exact p'
    | bad => rw [z] at p'; exact p'
    | exc c' fs vs σ1 h1 =>
      rw [z] at p'
      intro ρ1 H1 σ' dd ys q1 e1 rh1 rl1 hdd hfs rv
      have p' := PostS.shift q1 e1 p'
      dsimp only at p'
      cases zs : subOf g.T c' x with
      | none => rw [zs] at p'; exact p'.elim
      | some b =>
        rw [zs] at p'
        refine ⟨b, hex _ _ zs, fun hb1 a ha => ?_, fun hb1 => ?_⟩
        · subst hb1
          dsimp only at p'
          by_cases hl : i < σ1.length
          · rw [if_pos hl] at p'
            refine ⟨⟨a, dd, i, c', fs, vs⟩, rfl, rfl, rfl, rfl, hec _ _ zs, ⟨x, _, zs⟩, ρ1, σ1.set i none, h1, ⟨(rl1.r.unset i).sw, fun r' hr' => ?_⟩, rh1.sw, ?_⟩
            · cases hr'
              refine ⟨?_, ys, hdd, hfs, rv.sw⟩
              have hl' : i < σ'.length := by rw [← rl1.r.length]; exact hl
              rw [List.getElem?_set_self hl']
            · have un : ∀ {ρ2 : List Addr} {H2 : Hp} {σ2 : Sg} {σ2' : St}, Rel X.K (some ⟨a, dd, i, c', fs, vs⟩) ρ2 H2 σ2 σ2' → Rel X.K none ρ2 H2 (σ2.set i none) (σ2'.set i none) := fun r2 => ⟨(r2.r.unset i).sw, fun _ q => by cases q⟩
              cases zz : exec { g with ex := some (c', fs, vs) } is (σ1.set i none) h1 with
              | nx σ2 h2 =>
                rw [zz] at p'
                exact fun ρ2 H2 σ2' q2 e2 rh2 rl2 => p' ρ2 H2 _ q2 e2 rh2.sw (un rl2)
              | bk σ2 h2 =>
                rw [zz] at p'
                exact fun ρ2 H2 σ2' q2 e2 rh2 rl2 => p' ρ2 H2 _ q2 e2 rh2.sw (un rl2)
              | ct σ2 h2 =>
                rw [zz] at p'
                exact fun ρ2 H2 σ2' q2 e2 rh2 rl2 => p' ρ2 H2 _ q2 e2 rh2.sw (un rl2)
              | rt d h2 =>
                rw [zz] at p'
                exact fun ρ2 H2 v2 q2 e2 rh2 rv2 => p' ρ2 H2 v2 q2 e2 rh2.sw rv2.sw
              | exc => rw [zz] at p'; exact p'.elim
              | bad => rw [zz] at p'; exact p'.elim
          · rw [if_neg hl] at p'; exact p'.elim
        · subst hb1
          exact p' ρ1 H1 σ' dd ys (List.prefix_refl _) (Ext.refl _) rh1 rl1 hdd hfs rv
end
end Ly
end
section
set_option Elab.async false
set_option linter.all false
set_option maxRecDepth 100000
set_option maxHeartbeats 1000000
/-! Ly13: the checker: does a program of the interpreter say what the text says. -/
namespace Ly
open PySem PySem.Spec PyProof.Rows L2
/-! ### equality of constants -/
mutual
def eqD : D → D → Bool
  | .non, .non => true
  | .bl a, .bl b => a == b
  | .int a, .int b => decide (a = b)
  | .str a, .str b => decide (a = b)
  | .tup xs, .tup ys => eqDs xs ys
  | .rol xs, .rol ys => eqDs xs ys
  | _, _ => false
def eqDs : List D → List D → Bool
  | [], [] => true
  | x :: xs, y :: ys => eqD x y && eqDs xs ys
  | _, _ => false
end
mutual
theorem eqD_ok : ∀ {x y : D}, eqD x y = true → x = y
  | .non, y, h => by cases y <;> first | rfl | cases h
  | .bl a, y, h => by
    cases y <;> try cases h
    rename_i b
    exact congrArg D.bl (eq_of_beq (show (a == b) = true from h))
  | .int a, y, h => by
    cases y <;> try cases h
    rename_i b
    exact congrArg D.int (of_decide_eq_true (show decide (a = b) = true from h))
  | .str a, y, h => by
    cases y <;> try cases h
    rename_i b
    exact congrArg D.str (of_decide_eq_true (show decide (a = b) = true from h))
  | .tup xs, y, h => by
    cases y <;> try cases h
    rename_i ys
    exact congrArg D.tup (eqDs_ok (show eqDs xs ys = true from h))
  | .rol xs, y, h => by
    cases y <;> try cases h
    rename_i ys
    exact congrArg D.rol (eqDs_ok (show eqDs xs ys = true from h))
  | .ref _, y, h => by cases y <;> cases h
  | .it _ _, y, h => by cases y <;> cases h
theorem eqDs_ok : ∀ {x y : List D}, eqDs x y = true → x = y
  | [], y, h => by cases y <;> first | rfl | cases h
  | x :: xs, y, h => by
    cases y with
    | nil => cases h
    | cons y ys =>
      obtain ⟨h1, h2⟩ := Bool.and_eq_true_iff.mp (show (eqD x y && eqDs xs ys) = true from h)
      rw [eqD_ok h1, eqDs_ok h2]
end
theorem btNm {a b : Bt} (h : a.name = b.name) : a = b := by cases a <;> cases b <;> first | rfl | (exact absurd h (by decide))
def eqBts : List Bt → List Bt → Bool
  | [], [] => true
  | a :: r, b :: s => decide (a.name = b.name) && eqBts r s
  | _, _ => false
theorem eqBts_ok : ∀ {a b : List Bt}, eqBts a b = true → a = b
  | [], [], _ => rfl
  | [], _ :: _, h => by cases h
  | _ :: _, [], h => by cases h
  | a :: r, b :: s, h => by
    obtain ⟨h1, h2⟩ := Bool.and_eq_true_iff.mp (show (decide (a.name = b.name) && eqBts r s) = true from h)
    rw [btNm (of_decide_eq_true h1), eqBts_ok h2]
/-! ### what is known of the text around -/
inductive GK where
  | fn (i : Nat) (f : FnI) | cst (d : D)
structure Sc where
  N : List Str
  names : List (Str × NameKind)
  G : List (Str × GK)
  free : List Str
  cls : List Str
  flds : List Str
  errs : List (Str × List Str)
  calm : Bool
  ei : Option Nat
  fcell : Str → Bool
def ClM (mg : Str → Option Value) (x : Str) (v : V) (u : Value) : Prop := (mg x = some u ∧ ∃ a, v = .ref a ∧ u = .ref a) ∨ (mg x = none ∧ bootBuiltins x = some u ∧ x ≠ "__name__" ∧ ∃ n, v = .ty n ∧ u = .type n)
theorem ClM.uniq {mg : Str → Option Value} {x : Str} {v v' : V} {u u' : Value} (h : ClM mg x v u) (h' : ClM mg x v' u') : u = u' := by
  rcases h with ⟨h, _⟩ | ⟨h, hb, _⟩ <;> rcases h' with ⟨h', _⟩ | ⟨h', hb', _⟩
  · rw [h] at h'; exact Option.some.inj h'
  · rw [h] at h'; cases h'
  · rw [h] at h'; cases h'
  · rw [hb] at hb'; exact Option.some.inj hb'
structure Stat (X : Cx) (xa : Xa) (W : WX) (g : Gs) (sc : Sc) : Prop where
  nd : X.N.Nodup
  N : X.N = sc.N
  names : X.env.scope.names = sc.names
  kind : X.env.scope.kind = .function
  fns : ∀ x, sc.fcell x = true → X.fn x = true
  gc : ∀ x d, sc.G.lookup x = some (.cst d) → ∃ v u, X.mg x = some u ∧ RelV v u ∧ ∀ ρ H, RepV X.K xa ρ H d v
  gf : sc.calm = true → ∀ x f i, sc.G.lookup x = some (.fn f i) → i.name = x ∧ CallOk X (g.cf f) i ∧ ∀ ds h, ds.length ≠ i.ps.length → g.cf f ds h = .bad
  free : ∀ x ∈ sc.free, X.mg x = none
  un : X.A.units + 65 < cLine
  gd : X.A.guards = some []
  calm : sc.calm = true → X.calm = true
  xn : sc.calm = true → xa = none
  tk : Takes X W
  su : SuiteOk X g.T xa
  ex : exOf xa = g.ex
  ei : ∀ r, xa = some r → sc.ei = some r.i
  cl : ∀ x ∈ sc.cls, (x == ("__debug__" : Str)) = false ∧ ∃ v u, ClM X.mg x v u ∧ TabC X.K g.T x u ∧ ∀ c' b, subOf g.T c' x = some b → PySem.W.exmOne X.K (.ref (He.ga X.K c')) u = some b
  ec : ∀ c' x b, subOf g.T c' x = some b → EcOk X.K c'
  fl : ∀ f ∈ sc.flds, ∀ c' x b, subOf g.T c' x = some b → PySem.W.findIn X.K (.ref (He.ga X.K c')) f = some none
  er : sc.calm = true → ∀ x fs, (x, fs) ∈ sc.errs → (x == ("__debug__" : Str)) = false ∧ X.mg x = some (.ref (He.ga X.K x)) ∧ ∃ fI k, LyE.SupT X.K X.mg X.prog (He.ga X.K x) fI fs ∧ Room k X.A
section
variable {X : Cx} {xa : Xa} {W : WX} {g : Gs} {sc : Sc}
theorem Stat.gl (S : Stat X xa W g sc) {x : Str} (h : sc.names.lookup x = some .globalImplicit) : Gl X x := by
  show X.env.scope.names.lookup x = _
  rw [S.names]; exact h
theorem Stat.xi (S : Stat X xa W g sc) {i : Nat} (h : sc.ei ≠ some i) : XaIx xa i := fun r hr hi => h (by rw [S.ei r hr, hi])
theorem Stat.cln (S : Stat X xa W g sc) {x : Str} (hx : x ∈ sc.cls) (h : sc.names.lookup x = some .globalImplicit) : ∃ v u, ClN X x v u ∧ TabC X.K g.T x u ∧ ∀ c' b, subOf g.T c' x = some b → PySem.W.exmOne X.K (.ref (He.ga X.K c')) u = some b := by
  obtain ⟨hd, v, u, hc, h1, h2⟩ := S.cl x hx
  exact ⟨v, u, ⟨S.gl h, hd, hc⟩, h1, h2⟩
end
/-! ### the checks of names -/
def glB (sc : Sc) (x : Str) : Bool := decide (sc.names.lookup x = some .globalImplicit)
def visB (sc : Sc) (x : Str) : Bool := decide (sc.names.lookup x = some .local) || (decide (sc.names.lookup x = some .cell) || decide (sc.names.lookup x = some .free))
def okN (x : Str) : Bool := !(x == ("__debug__" : Str)) && !(x == ("__classdict__" : Str))
def freeB (sc : Sc) (x : Str) : Bool := sc.free.contains x && glB sc x
def clsB (sc : Sc) (x : Str) : Bool := sc.cls.contains x && glB sc x
def clsL (sc : Sc) : List Expr → List Str → Bool
  | [], [] => true
  | .Name x _ :: es, y :: ys => decide (x = y) && clsB sc x && clsL sc es ys
  | _, _ => false
def cstB : Const → D → Bool
  | .none, .non => true
  | .bool b, .bl c => b == c
  | .int i, .int j => decide (i = j)
  | .str x, .str y => decide (x = y)
  | _, _ => false
def strip : Expr → Expr
  | .BoolOp _ [a] _ => a
  | e => e
def lookFn (sc : Sc) (x : Str) (f : Nat) : Option FnI := match sc.G.lookup x with
  | some (.fn f' i) => if f' = f then some i else none
  | _ => none
def lookC (sc : Sc) (x : Str) : Option D := match sc.G.lookup x with
  | some (.cst d) => some d
  | _ => none
def biNm : Bi → Option (Str × Bool)
  | .len => some ("len", false)
  | .int => some ("int", false)
  | .divmod => some ("divmod", false)
  | .list => some ("list", false)
  | .tuple => some ("tuple", false)
  | .any => some ("any", true)
  | .all => some ("all", true)
  | .sum => some ("sum", true)
  | .abs => some ("abs", false)
  | .max2 => some ("max", true)
  | .min2 => some ("min", true)
  | .max1 => some ("max", true)
  | .min1 => some ("min", true)
  | .repr => some ("repr", false)
  | .sorted => some ("sorted", false)
def isOpen : CE → Bool
  | .cst (.it 9 []) => true
  | _ => false
def isYes : CE → Bool
  | .cst (.bl true) => true
  | _ => false
def isNilC : CE → Bool
  | .nil => true
  | _ => false
/-! ### targets -/
mutual
def chkP (sc : Sc) : Pat → Expr → Bool
  | .v i, e => (match e with
    | .Name x _ => decide (sc.N[i]? = some x) && ((decide (sc.names.lookup x = some .local) || (decide (sc.names.lookup x = some .cell) && sc.fcell x)) && decide (sc.ei ≠ some i))
    | _ => false)
  | .tup p, e => (match e with
    | .Tuple es _ _ => sc.calm && (notStars es && (decide (patLen p = some es.length) && chkPs sc p es))
    | _ => false)
  | .nil, _ => false
  | .cons _ _, _ => false
def chkPs (sc : Sc) : Pat → List Expr → Bool
  | .nil, es => es.isEmpty
  | .cons p r, es => (match es with
    | e :: es => notStar e && (chkP sc p e && chkPs sc r es)
    | [] => false)
  | .v _, _ => false
  | .tup _, _ => false
end
/-! ### blocks of comprehensions -/
def ownOf (sc : Sc) (p : Pat) : List (Str × Nat) := (slots p).map fun i => (sc.N.getD i Str.empty, i)
def blkB (sc : Sc) (scope : Scope) (p : Pat) : Bool :=
  decide (scope.kind = .function) && ((scope.names.all fun y => decide (scope.names.lookup y.1 = some y.2)) && (((ownOf sc p).all fun q => decide (sc.N[q.2]? = some q.1)) &&
    ((scope.names.all fun y => !decide (y.2 = .free) || (decide (sc.names.lookup y.1 = some .cell) || decide (sc.names.lookup y.1 = some .free))) &&
      scope.names.all fun y => !(decide (y.2 = .local) || decide (y.2 = .cell)) || (((ownOf sc p).map (·.1)).contains y.1 || !sc.N.contains y.1))))
def Sc.blk (sc : Sc) (scope : Scope) : Sc := { sc with names := scope.names.map fun (n, k) => if (k == NameKind.free && sc.names.lookup n == some .cell) then (n, NameKind.cell) else (n, k), fcell := fun x => scope.names.lookup x == some .cell }
theorem blkB_ok {sc : Sc} {scope : Scope} {p : Pat} {X : Cx} (hN : X.N = sc.N) (hn : X.env.scope.names = sc.names) (h : blkB sc scope p = true) : BlkOk X.N X.env.scope scope (ownOf sc p) ∧ (ownOf sc p).map (·.2) = slots p := by
  unfold blkB at h
  simp only [Bool.and_eq_true, List.all_eq_true, decide_eq_true_eq] at h
  obtain ⟨h1, h2, h3, h4, h5⟩ := h
  refine ⟨⟨h1, h2, fun q hq => by rw [hN]; exact h3 q hq, fun y hy e => ?_, fun y hy e => ?_⟩, ?_⟩
  · have z := h4 y hy
    rw [hn]
    simpa [e] using z
  · have z := h5 y hy
    rw [hN]
    rcases e with e | e <;> simpa [e] using z
  · unfold ownOf
    rw [List.map_map]
    exact (List.map_congr_left fun i _ => rfl).trans (List.map_id _)
section
variable {X : Cx} {xa : Xa} {W : WX} {g : Gs} {sc : Sc}
theorem Stat.blk (S : Stat X xa W g sc) (hc : sc.calm = true) {scope : Scope} (hk : scope.kind = .function) (s : Shared) (H : Hp) (C : Addr) (cl : List (Str × Addr)) (fp : List Addr) :
    Stat (X.blk s H scope (compEnvC scope cl C X.env) fp) xa (fun _ _ _ _ => False) g (sc.blk scope) where
  nd := S.nd
  N := S.N
  names := by
    show (relabel scope X.env).names = _
    unfold relabel Sc.blk Env.kindOf
    rw [S.kind, S.names]
    simp
  kind := hk
  fns := fun x h => h
  gc := S.gc
  gf := fun h x f i e => by
    obtain ⟨a, c, b⟩ := S.gf h x f i e
    exact ⟨a, ⟨c.mg, c.kp, c.fn⟩, b⟩
  free := S.free
  un := S.un
  gd := S.gd
  calm := S.calm
  xn := S.xn
  tk := takes0
  su := fun r hr => by rw [S.xn hc] at hr; cases hr
  ex := S.ex
  ei := S.ei
  cl := S.cl
  ec := S.ec
  fl := S.fl
  er := S.er
end
def isTupE : Expr → Bool
  | .Tuple _ _ _ => true
  | _ => false
/-! ### expressions, tests, argument lists, iterables -/
mutual
def chkE (sc : Sc) : CE → Expr → Bool
  | .var i, e => (match strip e with
    | .Name x _ => decide (sc.N[i]? = some x) && (visB sc x && okN x)
    | _ => false)
  | .cst d, e => (match strip e with
    | .Constant c _ _ => cstB c d
    | .Name x _ => glB sc x && (okN x && (match lookC sc x with
      | some d' => eqD d' d
      | none => false))
    | _ => false)
  | .bop o ca cb, e => (match strip e with
    | .BinOp a o' b _ => decide (o' = o) && (okBop o && (chkE sc ca a && chkE sc cb b))
    | _ => false)
  | .cmp o ca cb, e => (match strip e with
    | .Compare a [o'] [b] _ => decide (o' = o) && (notSet b && (chkE sc ca a && chkE sc cb b))
    | _ => false)
  | .chn o1 o2 ca cb cc, e => (match strip e with
    | .Compare a [p1, p2] [b, c] _ => decide (p1 = o1) && (decide (p2 = o2) && (notSet b && (notSet c && (chkE sc ca a && (chkE sc cb b && chkE sc cc c)))))
    | _ => false)
  | .neg ca, e => (match strip e with
    | .UnaryOp .USub a _ => chkE sc ca a
    | _ => false)
  | .not_ ca, e => (match strip e with
    | .UnaryOp .Not a _ => chkE sc ca a
    | _ => false)
  | .and_ ca cb, e => (match strip e with
    | .BoolOp .And (a :: b :: r) p => chkE sc ca a && chkE sc cb (.BoolOp .And (b :: r) p)
    | _ => false)
  | .or_ ca cb, e => (match strip e with
    | .BoolOp .Or (a :: b :: r) p => chkE sc ca a && chkE sc cb (.BoolOp .Or (b :: r) p)
    | _ => false)
  | .ite cc ca cb, e => (match strip e with
    | .IfExp c a b _ => chkT sc cc c && (chkE sc ca a && chkE sc cb b)
    | _ => false)
  | .tr _, _ => false
  | .nil, _ => false
  | .cons _ _, _ => false
  | .consS _ _, _ => false
  | .rev ca, e => (match strip e with
    | .Subscript a (.Slice none none (some (.UnaryOp .USub (.Constant (.int j) _ _) _)) _) _ => decide (j = 1) && chkE sc ca a
    | _ => false)
  | .tup ca, e => (match strip e with
    | .Tuple es _ _ => chkD sc ca es
    | _ => false)
  | .lst ca, e => (match strip e with
    | .List es _ => chkD sc ca es
    | _ => false)
  | .call f ca, e => (match strip e with
    | .Call (.Name x _) args [] _ => sc.calm && (glB sc x && (okN x && ((lookFn sc x f).isSome && chkL sc ca args)))
    | _ => false)
  | .callk f q ca cb, e => (match strip e with
    | .Call (.Name x _) args kws _ => sc.calm && (glB sc x && (okN x && ((match lookFn sc x f with
      | some i => decide ((args.length, kwNames kws, q) ∈ i.kws)
      | none => false) && (kwAll kws && (decide (argsLen ca = some args.length) && (decide (argsLen cb = some (kwNames kws).length) && (chkL sc ca args && chkK sc cb kws)))))))
    | _ => false)
  | .bi b ca, e => (match strip e with
    | .Call (.Name x _) (a :: as) [] _ => freeB sc x && ((match biNm b with
      | some (y, c) => decide (x = y) && (!c || sc.calm)
      | none => false) && chkL sc ca (a :: as))
    | _ => false)
  | .mth m co ca, e => (match strip e with
    | .Call (.Attribute o m' apos) args [] pos => plainBase o && ((apos.endLine == pos.line) && (chkE sc co o && (chkL sc ca args && (match m, args with
      | .append, [b] => decide (m' = "append") && notStar b
      | .extend, [b] => decide (m' = "extend") && notStar b
      | .pop, [b] => decide (m' = "pop") && notStar b
      | .pop, [] => decide (m' = "pop")
      | .reverse, [] => decide (m' = "reverse")
      | _, _ => false))))
    | _ => false)
  | .isi ca ts, e => (match strip e with
    | .Call (.Name y _) [a, c] [] _ => decide (y = "isinstance") && (freeB sc y && (notStar a && (chkE sc ca a && (match c with
      | .Name x _ => (match btOf x with
        | some t => eqBts [t] ts && freeB sc x
        | none => false)
      | .Tuple es _ _ => (match btL es with
        | some qs => eqBts (qs.map (·.2)) ts && ((qs.all fun q => freeB sc q.1) && decide (qs.length ≤ 1000))
        | none => false)
      | _ => false))))
    | _ => false)
  | .isE cs, e => (match strip e with
    | .Call (.Name y _) [.Name n _, c] [] _ => decide (y = "isinstance") && (freeB sc y && (visB sc n && (okN n && ((match sc.ei with
      | some i => decide (sc.N[i]? = some n)
      | none => false) && (match c with
      | .Name x _ => (match cs with
        | [x'] => decide (x' = x) && clsB sc x
        | _ => false)
      | .Tuple es _ _ => clsL sc es cs && decide (cs.length ≤ 1000)
      | _ => false)))))
    | _ => false)
  | .sub ca ci, e => (match strip e with
    | .Subscript a i _ => notSlice i && (chkE sc ca a && chkE sc ci i)
    | _ => false)
  | .slc ca cl cu, e => (match strip e with
    | .Subscript a (.Slice lo hi none _) _ => chkE sc ca a && ((match lo with
      | none => isOpen cl
      | some l => chkE sc cl l) && (match hi with
      | none => isOpen cu
      | some u => chkE sc cu u))
    | _ => false)
  | .itr _ _, _ => false
  | .lc p ci cc ce, e => (match strip e with
    | .ListComp elt [⟨tg, it, ifs, 0⟩] scope _ => sc.calm && (chkI sc (isTupE tg) ci it && (plainIter it && (blkB sc scope p && (((slots p).all fun i => decide (sc.ei ≠ some i)) && (chkP (sc.blk scope) p tg && ((match ifs with
      | [] => isYes cc
      | [t] => chkT (sc.blk scope) cc t
      | _ => false) && chkE (sc.blk scope) ce elt))))))
    | _ => false)
  | .fld f, e => (match strip e with
    | .Attribute (.Name n _) f' _ => decide (f' = f) && (sc.flds.contains f && (visB sc n && (okN n && (match sc.ei with
      | some i => decide (sc.N[i]? = some n)
      | none => false))))
    | _ => false)
def chkT (sc : Sc) : CE → Expr → Bool
  | .cmp o ca cb, e => (match strip e with
    | .Compare a [o'] [b] _ => decide (o' = o) && (notSet b && (chkE sc ca a && chkE sc cb b))
    | _ => false)
  | .chn o1 o2 ca cb cc, e => (match strip e with
    | .Compare a [p1, p2] [b, c] _ => decide (p1 = o1) && (decide (p2 = o2) && (notSet b && (notSet c && (chkE sc ca a && (chkE sc cb b && chkE sc cc c)))))
    | _ => false)
  | .not_ ca, e => (match strip e with
    | .UnaryOp .Not a _ => chkT sc ca a
    | _ => false)
  | .and_ ca cb, e => (match strip e with
    | .BoolOp .And (a :: b :: r) p => chkT sc ca a && chkT sc cb (.BoolOp .And (b :: r) p)
    | _ => false)
  | .or_ ca cb, e => (match strip e with
    | .BoolOp .Or (a :: b :: r) p => chkT sc ca a && chkT sc cb (.BoolOp .Or (b :: r) p)
    | _ => false)
  | .tr ca, e => plainTest (strip e) && chkE sc ca (strip e)
  | _, _ => false
def chkL (sc : Sc) : CE → List Expr → Bool
  | .nil, es => es.isEmpty
  | .cons ca cr, es => (match es with
    | a :: r => notStar a && (chkE sc ca a && chkL sc cr r)
    | [] => false)
  | _, _ => false
def chkD (sc : Sc) : CE → List Expr → Bool
  | .nil, es => es.isEmpty
  | .cons ca cr, es => (match es with
    | a :: r => notStar a && (chkE sc ca a && chkD sc cr r)
    | [] => false)
  | .consS ca cr, es => (match es with
    | .Starred a _ :: r => chkE sc ca a && chkD sc cr r
    | _ => false)
  | _, _ => false
def chkK (sc : Sc) : CE → List Keyword → Bool
  | .nil, es => es.isEmpty
  | .cons ca cr, es => (match es with
    | ⟨_, a, _⟩ :: r => chkE sc ca a && chkK sc cr r
    | [] => false)
  | _, _ => false
def chkI (sc : Sc) (tt : Bool) : CE → Expr → Bool
  | .itr k ca, e => (match k with
    | 0 => chkL sc ca [e]
    | 1 => (match e with
      | .Call (.Name x _) [a] [] _ => decide (x = "range") && (freeB sc x && (notStar a && chkL sc ca [a]))
      | _ => false)
    | 2 => (match e with
      | .Call (.Name x _) [a] [] _ => decide (x = "enumerate") && (tt && (freeB sc x && (notStar a && chkL sc ca [a])))
      | _ => false)
    | 3 => (match e with
      | .Call (.Name x _) [a, b] [] _ => decide (x = "zip") && (tt && (freeB sc x && (notStar a && (notStar b && chkL sc ca [a, b]))))
      | _ => false)
    | 5 => (match e, ca with
      | .Call (.Name x _) [a] [] _, .cons cb .nil => decide (x = "reversed") && (freeB sc x && (notStar a && chkE sc cb a))
      | _, _ => false)
    | 6 => (match e, ca with
      | .Call (.Name x _) [.Call (.Name y _) [a] [] _] [] _, .cons cb .nil => decide (x = "reversed") && (freeB sc x && (decide (y = "range") && (freeB sc y && (notStar a && chkE sc cb a))))
      | _, _ => false)
    | 4 => (match e with
      | .Call (.Name x _) [a, b] [] _ => decide (x = "range") && (freeB sc x && (notStar a && (notStar b && chkL sc ca [a, b])))
      | _ => false)
    | _ => false)
  | _, _ => false
end
end Ly
end
section
set_option Elab.async false
set_option linter.all false
set_option maxRecDepth 100000
set_option maxHeartbeats 4000000
/-! Ly14: the checker is right (expressions). -/
namespace Ly
open PySem PySem.Spec PyProof.Rows L2
section
variable {X : Cx} {xa : Xa} {W : WX} {g : Gs} {sc : Sc}
theorem b2 {a b : Bool} (h : (a && b) = true) : a = true ∧ b = true := Bool.and_eq_true_iff.mp h
theorem glB_ok (S : Stat X xa W g sc) {x : Str} (h : glB sc x = true) : Gl X x := S.gl (of_decide_eq_true h)
theorem freeB_ok (S : Stat X xa W g sc) {x : Str} (h : freeB sc x = true) : Gl X x ∧ X.mg x = none := by
  obtain ⟨h1, h2⟩ := b2 h
  exact ⟨glB_ok S h2, S.free x (by simpa using h1)⟩
theorem visB_ok (S : Stat X xa W g sc) {x : Str} (h : visB sc x = true) : Vis X.env.scope x := by
  unfold visB at h
  simp only [Bool.or_eq_true, decide_eq_true_eq] at h
  unfold Vis
  rw [S.names]; exact h
theorem okN_ok {x : Str} (h : okN x = true) : (x == ("__debug__" : Str)) = false ∧ (x == ("__classdict__" : Str)) = false := by
  obtain ⟨h1, h2⟩ := b2 h
  exact ⟨by simpa using h1, by simpa using h2⟩
theorem nix (S : Stat X xa W g sc) {i : Nat} {x : Str} (h : decide (sc.N[i]? = some x) = true) : X.N[i]? = some x := by rw [S.N]; exact of_decide_eq_true h
theorem clsB_ok (S : Stat X xa W g sc) {x : Str} (h : clsB sc x = true) : ∃ v u, ClN X x v u ∧ TabC X.K g.T x u ∧ ∀ c' b, subOf g.T c' x = some b → PySem.W.exmOne X.K (.ref (He.ga X.K c')) u = some b := by
  obtain ⟨h1, h2⟩ := b2 h
  exact S.cln (by simpa using h1) (of_decide_eq_true h2)
theorem clsL_ok (S : Stat X xa W g sc) : ∀ {es : List Expr} {ys : List Str}, clsL sc es ys = true → ∃ vs us, ClL X es ys vs us ∧ ∀ x ∈ ys, clsB sc x = true
  | [], [], _ => ⟨[], [], .nil, fun _ h => by cases h⟩
  | [], _ :: _, h => by cases h
  | e :: es, [], h => by cases e <;> cases h
  | e :: es, y :: ys, h => by
    cases e with
    | Name x p =>
      obtain ⟨h1, h2⟩ := b2 (show (decide (x = y) && clsB sc x && clsL sc es ys) = true from h)
      obtain ⟨h3, h4⟩ := b2 h1
      have e := of_decide_eq_true h3
      subst e
      obtain ⟨vs, us, a, b⟩ := clsL_ok S h2
      obtain ⟨v, u, c, _⟩ := clsB_ok S h4
      exact ⟨v :: vs, u :: us, .cons c a, fun z hz => by
        rcases List.mem_cons.mp hz with rfl | hz
        · exact h4
        · exact b z hz⟩
    | _ => cases h
theorem strip_E {e : Expr} {f : Fn} (h : E1 X xa W (strip e) f) : E1 X xa W e f := by
  unfold strip at h
  split at h
  · exact pe_one h
  · exact h
theorem strip_T {e : Expr} {f : Fn} (h : T1 X xa W (strip e) f ∧ (∀ op vs p, strip e = .BoolOp op vs p → PW X (strip e) (semT X.K xa W f))) : T1 X xa W e f ∧ (∀ op vs p, e = .BoolOp op vs p → PW X e (semT X.K xa W f)) := by
  unfold strip at h
  split at h
  · rename_i op a p
    cases op with
    | And => exact ⟨(pw_and1 h.1).pt, fun _ _ _ _ => pw_and1 h.1⟩
    | Or => exact ⟨(pw_or1 h.1).pt, fun _ _ _ _ => pw_or1 h.1⟩
  · exact h
theorem lookFn_ok (S : Stat X xa W g sc) (hc : sc.calm = true) {x : Str} {f : Nat} {i : FnI} (h : lookFn sc x f = some i) : i.name = x ∧ CallOk X (g.cf f) i ∧ ∀ ds h, ds.length ≠ i.ps.length → g.cf f ds h = .bad := by
  unfold lookFn at h
  split at h
  · rename_i f' i' e
    split at h
    · rename_i ef
      cases h
      subst ef
      exact S.gf hc x _ _ e
    · cases h
  · cases h
theorem lookC_ok (S : Stat X xa W g sc) {x : Str} {d : D} (h : lookC sc x = some d) : ∃ v u, X.mg x = some u ∧ RelV v u ∧ ∀ ρ H, RepV X.K xa ρ H d v := by
  unfold lookC at h
  split at h
  · rename_i d' e
    cases h
    exact S.gc x _ e
  · cases h
/-! ### built-ins -/
theorem e_bi (S : Stat X xa W g sc) {b : Bi} {x y : Str} {c : Bool} {ca : CE} {a : Expr} {as : List Expr} {p pos : Pos} (hb : biNm b = some (y, c)) (hx : x = y) (hcalm : (!c || sc.calm) = true) (hf : freeB sc x = true) (ha : Ar X xa W (a :: as) (ev g ca)) (hs : notStars (a :: as) = true) :
    E1 X xa W (.Call (.Name x p) (a :: as) [] pos) (ev g (.bi b ca)) := by
  subst hx
  obtain ⟨h1, h2⟩ := freeB_ok S hf
  cases b <;> first | (cases hb; done) | (have e : _ = some (x, c) := hb; cases e; first
    | exact e_biB b_len h1 h2 (by decide +kernel) (by decide) (by decide) ha hs
    | exact e_biT b_int h1 h2 (by decide +kernel) (by decide) (by decide) ha hs
    | exact e_biB b_divmod h1 h2 (by decide +kernel) (by decide) (by decide) ha hs
    | exact e_biT b_list h1 h2 (by decide +kernel) (by decide) (by decide) ha hs
    | exact e_biT b_tuple h1 h2 (by decide +kernel) (by decide) (by decide) ha hs
    | exact e_biB (b_any (S.calm (by simpa using hcalm))) h1 h2 (by decide +kernel) (by decide) (by decide) ha hs
    | exact e_biB (b_all (S.calm (by simpa using hcalm))) h1 h2 (by decide +kernel) (by decide) (by decide) ha hs
    | exact e_biB (b_sum (S.calm (by simpa using hcalm))) h1 h2 (by decide +kernel) (by decide) (by decide) ha hs
    | exact e_biB b_abs h1 h2 (by decide +kernel) (by decide) (by decide) ha hs
    | exact e_biB (b_max2 (S.calm (by simpa using hcalm))) h1 h2 (by decide +kernel) (by decide) (by decide) ha hs
    | exact e_biB (b_min2 (S.calm (by simpa using hcalm))) h1 h2 (by decide +kernel) (by decide) (by decide) ha hs
    | exact e_biB (b_max1 (S.calm (by simpa using hcalm))) h1 h2 (by decide +kernel) (by decide) (by decide) ha hs
    | exact e_biB (b_min1 (S.calm (by simpa using hcalm))) h1 h2 (by decide +kernel) (by decide) (by decide) ha hs
    | exact e_biB (b_repr (by have := S.un; omega) S.gd) h1 h2 (by decide +kernel) (by decide) (by decide) ha hs
    | exact e_biB (b_sorted (by have := S.un; omega)) h1 h2 (by decide +kernel) (by decide) (by decide) ha hs)
/-! ### targets -/
mutual
theorem okP (S : Stat X xa W g sc) : ∀ (p : Pat) {e : Expr}, chkP sc p e = true → G1 X xa e p
  | .v i, e, h => by
    cases e with
    | Name x pos =>
      obtain ⟨h1, h2⟩ := b2 (show (decide (sc.N[i]? = some x) && ((decide (sc.names.lookup x = some .local) || (decide (sc.names.lookup x = some .cell) && sc.fcell x)) && decide (sc.ei ≠ some i))) = true from h)
      obtain ⟨h2, h3⟩ := b2 h2
      simp only [Bool.or_eq_true, Bool.and_eq_true, decide_eq_true_eq] at h2
      refine g_v (S.xi (of_decide_eq_true h3)) S.nd (nix S h1) ?_ ?_
      · unfold L2.Loc
        rw [S.names]
        rcases h2 with z | ⟨z, _⟩
        · exact .inl z
        · exact .inr z
      · rw [S.names]
        rcases h2 with z | ⟨_, z⟩
        · exact .inr z
        · exact .inl (S.fns x z)
    | _ => cases h
  | .tup p, e, h => by
    cases e with
    | Tuple es k pos =>
      obtain ⟨h1, h2⟩ := b2 (show (sc.calm && (notStars es && (decide (patLen p = some es.length) && chkPs sc p es))) = true from h)
      obtain ⟨h2, h3⟩ := b2 h2
      obtain ⟨h3, h4⟩ := b2 h3
      exact g_tup (S.calm h1) (okPs S p h4) h2 (of_decide_eq_true h3)
    | _ => cases h
  | .nil, e, h => by cases h
  | .cons _ _, e, h => by cases h
theorem okPs (S : Stat X xa W g sc) : ∀ (p : Pat) {es : List Expr}, chkPs sc p es = true → Gs1 X xa es p
  | .nil, es, h => by
    cases es with
    | nil => exact gs_nil
    | cons => cases h
  | .cons p r, es, h => by
    cases es with
    | nil => cases h
    | cons e es =>
      obtain ⟨h1, h2⟩ := b2 (show (notStar e && (chkP sc p e && chkPs sc r es)) = true from h)
      obtain ⟨h2, h3⟩ := b2 h2
      exact gs_cons (okP S p h2) (okPs S r h3) h1
  | .v _, es, h => by cases h
  | .tup _, es, h => by cases h
end
theorem chkL_stars : ∀ {ca : CE} {es : List Expr}, chkL sc ca es = true → notStars es = true := by
  intro ca
  induction ca with
  | nil =>
    intro es h
    cases es with
    | nil => rfl
    | cons => cases h
  | cons a r _ ih =>
    intro es h
    cases es with
    | nil => cases h
    | cons e es =>
      obtain ⟨h1, h2⟩ := b2 (show (notStar e && (chkE sc a e && chkL sc r es)) = true from h)
      obtain ⟨_, h3⟩ := b2 h2
      show (notStar e && notStars es) = true
      rw [h1, ih h3]; rfl
  | _ => intro es h; cases h
end
end Ly
end
section
set_option Elab.async false
set_option linter.all false
set_option maxRecDepth 100000
set_option maxHeartbeats 8000000
/-! Ly15: the checker is right (expressions, tests, lists, iterables). -/
namespace Ly
open PySem PySem.Spec PyProof.Rows L2
theorem isTupE_ok {e : Expr} (h : isTupE e = true) : ∃ elts kk tp, e = .Tuple elts kk tp := by
  cases e with
  | Tuple es k p => exact ⟨_, _, _, rfl⟩
  | _ => cases h
mutual
theorem okE : ∀ (ce : CE) {X : Cx} {xa : Xa} {W : WX} {g : Gs} {sc : Sc} {e : Expr}, Stat X xa W g sc → chkE sc ce e = true → E1 X xa W e (ev g ce)
  | .var i, X, xa, W, g, sc, e, S, h => by
    refine strip_E ?_
    unfold chkE at h
    split at h
    · rename_i x p he
      rw [he]
      obtain ⟨h1, h2⟩ := b2 h
      obtain ⟨h2, h3⟩ := b2 h2
      exact e_var (nix S h1) (visB_ok S h2) (okN_ok h3).1 (okN_ok h3).2
    · cases h
  | .cst d, X, xa, W, g, sc, e, S, h => by
    refine strip_E ?_
    unfold chkE at h
    split at h
    · rename_i c k p he
      rw [he]
      cases c <;> cases d <;> first
        | (cases h; done)
        | exact e_cst pe_non fun _ _ => .non
        | (rename_i b c; obtain rfl : b = c := eq_of_beq (show (b == c) = true from h); exact e_cst pe_bl fun _ _ => .bl _)
        | (rename_i b c; obtain rfl : b = c := of_decide_eq_true (show decide (b = c) = true from h); first
          | exact e_cst pe_int fun _ _ => .int _
          | exact e_cst pe_str fun _ _ => .str _)
    · rename_i x p he
      rw [he]
      obtain ⟨h1, h⟩ := b2 h
      obtain ⟨hh, h3⟩ := b2 h
      split at h3
      · rename_i d' hd
        obtain rfl := eqD_ok h3
        obtain ⟨v, u, m, r, q⟩ := lookC_ok S hd
        exact e_cst (pe_glob (glB_ok S h1) m r (okN_ok hh).1) q
      · cases h3
    · cases h
  | .bop o ca cb, X, xa, W, g, sc, e, S, h => by
    refine strip_E ?_
    unfold chkE at h
    split at h
    · rename_i a o' b p he
      rw [he]
      obtain ⟨h1, h2⟩ := b2 h
      obtain ⟨h2, h3⟩ := b2 h2
      obtain ⟨h3, h4⟩ := b2 h3
      obtain rfl := of_decide_eq_true h1
      exact e_bop (bop_ok h2) (okE ca S h3) (okE cb S h4)
    · cases h
  | .cmp o ca cb, X, xa, W, g, sc, e, S, h => by
    refine strip_E ?_
    unfold chkE at h
    split at h
    · rename_i a o' b p he
      rw [he]
      obtain ⟨h1, h2⟩ := b2 h
      obtain ⟨h2, h3⟩ := b2 h2
      obtain ⟨h3, h4⟩ := b2 h3
      obtain rfl := of_decide_eq_true h1
      exact e_cmp (cmp_ok _ S.un) (okE ca S h3) (okE cb S h4) (mark_of h2 _)
    · cases h
  | .chn o1 o2 ca cb cc, X, xa, W, g, sc, e, S, h => by
    refine strip_E ?_
    unfold chkE at h
    split at h
    · rename_i a p1 p2 b c p he
      rw [he]
      obtain ⟨h1, h⟩ := b2 h
      obtain ⟨h2, h⟩ := b2 h
      obtain ⟨h3, h⟩ := b2 h
      obtain ⟨h4, h⟩ := b2 h
      obtain ⟨h5, h⟩ := b2 h
      obtain ⟨h6, h7⟩ := b2 h
      obtain rfl := of_decide_eq_true h1
      obtain rfl := of_decide_eq_true h2
      exact e_chn (cmp_ok _ S.un) (cmp_ok _ S.un) (okE ca S h5) (okE cb S h6) (okE cc S h7) (marks_of h3 h4 _ _)
    · cases h
  | .neg ca, X, xa, W, g, sc, e, S, h => by
    refine strip_E ?_
    unfold chkE at h
    split at h
    · rename_i a p he
      rw [he]
      exact e_neg (okE ca S h)
    · cases h
  | .not_ ca, X, xa, W, g, sc, e, S, h => by
    refine strip_E ?_
    unfold chkE at h
    split at h
    · rename_i a p he
      rw [he]
      exact e_not (okE ca S h)
    · cases h
  | .and_ ca cb, X, xa, W, g, sc, e, S, h => by
    refine strip_E ?_
    unfold chkE at h
    split at h
    · rename_i a b r p he
      rw [he]
      obtain ⟨h1, h2⟩ := b2 h
      exact e_and (okE ca S h1) (okE cb S h2)
    · cases h
  | .or_ ca cb, X, xa, W, g, sc, e, S, h => by
    refine strip_E ?_
    unfold chkE at h
    split at h
    · rename_i a b r p he
      rw [he]
      obtain ⟨h1, h2⟩ := b2 h
      exact e_or (okE ca S h1) (okE cb S h2)
    · cases h
  | .ite cc ca cb, X, xa, W, g, sc, e, S, h => by
    refine strip_E ?_
    unfold chkE at h
    split at h
    · rename_i c a b p he
      rw [he]
      obtain ⟨h1, h2⟩ := b2 h
      obtain ⟨h2, h3⟩ := b2 h2
      exact e_ite (okT cc S h1).1 (okE ca S h2) (okE cb S h3)
    · cases h
  | .tr _, X, xa, W, g, sc, e, S, h => by unfold chkE at h; cases h
  | .consS _ _, X, xa, W, g, sc, e, S, h => by unfold chkE at h; cases h
  | .rev ca, X, xa, W, g, sc, e, S, h => by
    refine strip_E ?_
    unfold chkE at h
    split at h
    · rename_i a j k p1 p2 p3 pos he
      rw [he]
      obtain ⟨h1, h2⟩ := b2 h
      obtain rfl := of_decide_eq_true h1
      exact e_rev (okE ca S h2)
    · cases h
  | .nil, X, xa, W, g, sc, e, S, h => by unfold chkE at h; cases h
  | .cons _ _, X, xa, W, g, sc, e, S, h => by unfold chkE at h; cases h
  | .tup ca, X, xa, W, g, sc, e, S, h => by
    refine strip_E ?_
    unfold chkE at h
    split at h
    · rename_i es k p he
      rw [he]
      exact e_tup (okD ca S h)
    · cases h
  | .lst ca, X, xa, W, g, sc, e, S, h => by
    refine strip_E ?_
    unfold chkE at h
    split at h
    · rename_i es p he
      rw [he]
      exact e_lst (okD ca S h)
    · cases h
  | .call f ca, X, xa, W, g, sc, e, S, h => by
    refine strip_E ?_
    unfold chkE at h
    split at h
    · rename_i x p args pos he
      rw [he]
      obtain ⟨h1, h⟩ := b2 h
      obtain ⟨h2, h⟩ := b2 h
      obtain ⟨h3, h⟩ := b2 h
      obtain ⟨h4, h5⟩ := b2 h
      obtain ⟨i, hi⟩ := Option.isSome_iff_exists.mp h4
      obtain ⟨rfl, C, hn⟩ := lookFn_ok S h1 hi
      have hxa := S.xn h1
      subst hxa
      cases args with
      | nil =>
        cases ca <;> first
          | exact e_call0 C hn S.tk (glB_ok S h2) (okN_ok h3).1
          | (unfold chkL at h5; cases h5)
      | cons a as => exact e_call C hn S.tk (glB_ok S h2) (okN_ok h3).1 (okL ca S h5) (chkL_stars h5)
    · cases h
  | .callk f q ca cb, X, xa, W, g, sc, e, S, h => by
    refine strip_E ?_
    unfold chkE at h
    split at h
    · rename_i x p args kws pos he
      rw [he]
      obtain ⟨h1, h⟩ := b2 h
      obtain ⟨h2, h⟩ := b2 h
      obtain ⟨h3, h⟩ := b2 h
      obtain ⟨h4, h⟩ := b2 h
      obtain ⟨h5, h⟩ := b2 h
      obtain ⟨h6, h⟩ := b2 h
      obtain ⟨h7, h⟩ := b2 h
      obtain ⟨h8, h9⟩ := b2 h
      have hxa := S.xn h1
      subst hxa
      split at h4
      · rename_i i hi
        obtain ⟨rfl, C, hn⟩ := lookFn_ok S h1 hi
        have hk := of_decide_eq_true h4
        cases args with
        | nil =>
          cases ca <;> first
            | exact e_callk0 C hn S.tk (glB_ok S h2) (okN_ok h3).1 hk (okK cb S h9) h5 (of_decide_eq_true h7)
            | (unfold chkL at h8; cases h8)
        | cons a as => exact e_callk C hn S.tk (glB_ok S h2) (okN_ok h3).1 hk (okL ca S h8) (okK cb S h9) h5 (chkL_stars h8) (of_decide_eq_true h6) (of_decide_eq_true h7)
      · cases h4
    · cases h
  | .bi b ca, X, xa, W, g, sc, e, S, h => by
    refine strip_E ?_
    unfold chkE at h
    split at h
    · rename_i x p a as pos he
      rw [he]
      obtain ⟨h1, h⟩ := b2 h
      obtain ⟨h2, h3⟩ := b2 h
      split at h2
      · rename_i y c hb
        obtain ⟨h4, h5⟩ := b2 h2
        exact e_bi S hb (of_decide_eq_true h4) h5 h1 (okL ca S h3) (chkL_stars h3)
      · cases h2
    · cases h
  | .mth m co ca, X, xa, W, g, sc, e, S, h => by
    refine strip_E ?_
    unfold chkE at h
    split at h
    · rename_i o m' apos args pos he
      rw [he]
      obtain ⟨h1, h⟩ := b2 h
      obtain ⟨h2, h⟩ := b2 h
      obtain ⟨h3, h⟩ := b2 h
      obtain ⟨h4, h5⟩ := b2 h
      have hE := okE co S h3
      have hL := okL ca S h4
      split at h5
      · obtain ⟨h6, h7⟩ := b2 h5
        obtain rfl := of_decide_eq_true h6
        exact e_append hE hL h1 h7 h2
      · obtain ⟨h6, h7⟩ := b2 h5
        obtain rfl := of_decide_eq_true h6
        exact e_extend hE hL h1 h7 h2
      · obtain ⟨h6, h7⟩ := b2 h5
        obtain rfl := of_decide_eq_true h6
        rename_i b
        cases ca with
        | cons cb cr =>
          have z := h4
          unfold chkL at z
          obtain ⟨_, z⟩ := b2 z
          obtain ⟨_, z⟩ := b2 z
          cases cr <;> first
            | exact e_pop1 hE hL h1 h7 h2
            | (unfold chkL at z; cases z)
        | _ => unfold chkL at h4; cases h4
      · obtain rfl := of_decide_eq_true h5
        cases ca <;> first
          | exact e_pop0 hE h1 h2
          | (unfold chkL at h4; cases h4)
      · obtain rfl := of_decide_eq_true h5
        cases ca <;> first
          | exact e_reverse hE h1 h2
          | (unfold chkL at h4; cases h4)
      · cases h5
    · cases h
  | .isi ca ts, X, xa, W, g, sc, e, S, h => by
    refine strip_E ?_
    unfold chkE at h
    split at h
    · rename_i y p a c pos he
      rw [he]
      obtain ⟨h1, h⟩ := b2 h
      obtain ⟨h2, h⟩ := b2 h
      obtain ⟨h3, h⟩ := b2 h
      obtain ⟨h4, h5⟩ := b2 h
      obtain rfl := of_decide_eq_true h1
      have hE := okE ca S h4
      obtain ⟨f1, f2⟩ := freeB_ok S h2
      split at h5
      · rename_i x p2
        split at h5
        · rename_i t ht
          obtain ⟨h6, h7⟩ := b2 h5
          obtain rfl := eqBts_ok h6
          obtain ⟨f3, f4⟩ := freeB_ok S h7
          exact e_isi1 f1 f2 hE h3 ht f3 f4
        · cases h5
      · rename_i es k p2
        split at h5
        · rename_i qs hq
          obtain ⟨h6, h7⟩ := b2 h5
          obtain ⟨h7, h8⟩ := b2 h7
          obtain rfl := eqBts_ok h6
          exact e_isiT f1 f2 hE h3 hq (fun q hq' => freeB_ok S (List.all_eq_true.mp h7 q hq')) (of_decide_eq_true h8)
        · cases h5
      · cases h5
    · cases h
  | .isE cs, X, xa, W, g, sc, e, S, h => by
    refine strip_E ?_
    unfold chkE at h
    split at h
    · rename_i y p n p1 c pos he
      rw [he]
      obtain ⟨h1, h⟩ := b2 h
      obtain ⟨h2, h⟩ := b2 h
      obtain ⟨h3, h⟩ := b2 h
      obtain ⟨h4, h⟩ := b2 h
      obtain ⟨h5, h6⟩ := b2 h
      obtain rfl := of_decide_eq_true h1
      obtain ⟨f1, f2⟩ := freeB_ok S h2
      split at h5
      · rename_i i hi
        have hix : ∀ r, xa = some r → r.i = i := fun r hr => by
          have := S.ei r hr
          rw [hi] at this
          exact (Option.some.inj this).symm
        split at h6
        · rename_i x p2
          split at h6
          · rename_i x'
            obtain ⟨h7, h8⟩ := b2 h6
            obtain rfl := of_decide_eq_true h7
            obtain ⟨v, u, c1, c2, _⟩ := clsB_ok S h8
            exact e_isE1 S.su S.ex hix (nix S h5) (visB_ok S h3) (okN_ok h4).1 (okN_ok h4).2 f1 f2 c1 c2
          · cases h6
        · rename_i es k p2
          obtain ⟨h7, h8⟩ := b2 h6
          obtain ⟨vs, us, c1, c2⟩ := clsL_ok S h7
          refine e_isET S.su S.ex hix (nix S h5) (visB_ok S h3) (okN_ok h4).1 (okN_ok h4).2 f1 f2 c1 (fun x u v hx hc => ?_) (of_decide_eq_true h8)
          obtain ⟨v', u', c3, c4, _⟩ := clsB_ok S (c2 x hx)
          have e : u = u' := ClM.uniq (v := v) (v' := v') hc.2.2 c3.2.2
          rw [e]; exact c4
        · cases h6
      · cases h5
    · cases h
  | .sub ca ci, X, xa, W, g, sc, e, S, h => by
    refine strip_E ?_
    unfold chkE at h
    split at h
    · rename_i a i p he
      rw [he]
      obtain ⟨h1, h⟩ := b2 h
      obtain ⟨h2, h3⟩ := b2 h
      exact e_sub (okE ca S h2) (okE ci S h3) h1
    · cases h
  | .slc ca cl cu, X, xa, W, g, sc, e, S, h => by
    refine strip_E ?_
    unfold chkE at h
    split at h
    · rename_i a lo hi p2 p he
      rw [he]
      obtain ⟨h1, h⟩ := b2 h
      obtain ⟨h2, h3⟩ := b2 h
      have op : ∀ {c : CE}, isOpen c = true → c = .cst (.it 9 []) := fun {c} z => by
        unfold isOpen at z
        split at z
        · rfl
        · cases z
      refine e_slc (okE ca S h1) ?_ ?_
      · cases lo with
        | none =>
          rw [op h2]
          exact o_none
        | some l => exact o_some (okE cl S h2)
      · cases hi with
        | none =>
          rw [op h3]
          exact o_none
        | some l => exact o_some (okE cu S h3)
    · cases h
  | .itr _ _, X, xa, W, g, sc, e, S, h => by unfold chkE at h; cases h
  | .lc p ci cc ce, X, xa, W, g, sc, e, S, h => by
    refine strip_E ?_
    unfold chkE at h
    split at h
    · rename_i elt tg it ifs scope pos he
      rw [he]
      obtain ⟨h1, h⟩ := b2 h
      obtain ⟨h2, h⟩ := b2 h
      obtain ⟨h3, h⟩ := b2 h
      obtain ⟨h4, h⟩ := b2 h
      obtain ⟨h5, h⟩ := b2 h
      obtain ⟨h6, h⟩ := b2 h
      obtain ⟨h7, h8⟩ := b2 h
      obtain ⟨k1, k2⟩ := blkB_ok S.N S.names h4
      have hk : scope.kind = .function := k1.kind
      refine e_lcE (own := ownOf sc p) (S.calm h1) S.nd (okI ci (tg := tg) S h2) k1 (fun s H C cl fp => okP (S.blk h1 hk s H C cl fp) p h6) (fun s H C cl fp => ?_) (fun s H C cl fp => okE ce (S.blk h1 hk s H C cl fp) h8) h3 k2 (fun v hv => S.xi (of_decide_eq_true (List.all_eq_true.mp h5 v hv)))
      split at h7
      · have op : cc = .cst (.bl true) := by
          unfold isYes at h7
          split at h7
          · rfl
          · cases h7
        subst op
        refine ⟨fun pins s0 σ H0 Q I hq => pts_nil.run pins s0 σ H0 Q I ?_⟩
        obtain ⟨ρ, σd, hh, rl, rh, q⟩ := hq
        obtain ⟨b, e1, q⟩ := Post.okv q rh (.bl true)
        cases e1
        exact q
      · exact pts_one (okT cc (S.blk h1 hk s H C cl fp) h7).1
      · cases h7
    · cases h
  | .fld f, X, xa, W, g, sc, e, S, h => by
    refine strip_E ?_
    unfold chkE at h
    split at h
    · rename_i n p1 f' p he
      rw [he]
      obtain ⟨h1, h⟩ := b2 h
      obtain ⟨h2, h⟩ := b2 h
      obtain ⟨h3, h⟩ := b2 h
      obtain ⟨h4, h5⟩ := b2 h
      obtain rfl := of_decide_eq_true h1
      split at h5
      · rename_i i hi
        exact e_fld S.su S.ex (fun r hr => by
          have := S.ei r hr
          rw [hi] at this
          exact (Option.some.inj this).symm) (nix S h5) (visB_ok S h3) (okN_ok h4).1 (okN_ok h4).2 (S.fl _ (by simpa using h2))
      · cases h5
    · cases h
theorem okT : ∀ (ce : CE) {X : Cx} {xa : Xa} {W : WX} {g : Gs} {sc : Sc} {e : Expr}, Stat X xa W g sc → chkT sc ce e = true → T1 X xa W e (ev g ce) ∧ (∀ op vs p, e = .BoolOp op vs p → PW X e (semT X.K xa W (ev g ce)))
  | .cmp o ca cb, X, xa, W, g, sc, e, S, h => by
    refine strip_T ?_
    unfold chkT at h
    split at h
    · rename_i a o' b p he
      rw [he]
      obtain ⟨h1, h2⟩ := b2 h
      obtain ⟨h2, h3⟩ := b2 h2
      obtain ⟨h3, h4⟩ := b2 h3
      obtain rfl := of_decide_eq_true h1
      exact ⟨t_cmp (cmp_ok _ S.un) (okE ca S h3) (okE cb S h4) (mark_of h2 _), fun _ _ _ z => by cases z⟩
    · cases h
  | .chn o1 o2 ca cb cc, X, xa, W, g, sc, e, S, h => by
    refine strip_T ?_
    unfold chkT at h
    split at h
    · rename_i a p1 p2 b c p he
      rw [he]
      obtain ⟨h1, h⟩ := b2 h
      obtain ⟨h2, h⟩ := b2 h
      obtain ⟨h3, h⟩ := b2 h
      obtain ⟨h4, h⟩ := b2 h
      obtain ⟨h5, h⟩ := b2 h
      obtain ⟨h6, h7⟩ := b2 h
      obtain rfl := of_decide_eq_true h1
      obtain rfl := of_decide_eq_true h2
      exact ⟨t_chn (cmp_ok _ S.un) (cmp_ok _ S.un) (okE ca S h5) (okE cb S h6) (okE cc S h7) (marks_of h3 h4 _ _), fun _ _ _ z => by cases z⟩
    · cases h
  | .not_ ca, X, xa, W, g, sc, e, S, h => by
    refine strip_T ?_
    unfold chkT at h
    split at h
    · rename_i a p he
      rw [he]
      exact ⟨t_not (okT ca S h).1, fun _ _ _ z => by cases z⟩
    · cases h
  | .and_ ca cb, X, xa, W, g, sc, e, S, h => by
    refine strip_T ?_
    unfold chkT at h
    split at h
    · rename_i a b r p he
      rw [he]
      obtain ⟨h1, h2⟩ := b2 h
      have w := w_and (okT ca S h1).1 ((okT cb S h2).2 _ _ _ rfl)
      exact ⟨w.pt, fun _ _ _ _ => w⟩
    · cases h
  | .or_ ca cb, X, xa, W, g, sc, e, S, h => by
    refine strip_T ?_
    unfold chkT at h
    split at h
    · rename_i a b r p he
      rw [he]
      obtain ⟨h1, h2⟩ := b2 h
      have w := w_or (okT ca S h1).1 ((okT cb S h2).2 _ _ _ rfl)
      exact ⟨w.pt, fun _ _ _ _ => w⟩
    · cases h
  | .tr ca, X, xa, W, g, sc, e, S, h => by
    refine strip_T ?_
    unfold chkT at h
    obtain ⟨h1, h2⟩ := b2 h
    refine ⟨t_val (okE ca S h2) (fun whole => test_of h1 _ _), fun op vs p z => ?_⟩
    rw [z] at h1
    cases h1
  | .var _, X, xa, W, g, sc, e, S, h => by unfold chkT at h; cases h
  | .cst _, X, xa, W, g, sc, e, S, h => by unfold chkT at h; cases h
  | .bop _ _ _, X, xa, W, g, sc, e, S, h => by unfold chkT at h; cases h
  | .neg _, X, xa, W, g, sc, e, S, h => by unfold chkT at h; cases h
  | .ite _ _ _, X, xa, W, g, sc, e, S, h => by unfold chkT at h; cases h
  | .nil, X, xa, W, g, sc, e, S, h => by unfold chkT at h; cases h
  | .cons _ _, X, xa, W, g, sc, e, S, h => by unfold chkT at h; cases h
  | .tup _, X, xa, W, g, sc, e, S, h => by unfold chkT at h; cases h
  | .lst _, X, xa, W, g, sc, e, S, h => by unfold chkT at h; cases h
  | .call _ _, X, xa, W, g, sc, e, S, h => by unfold chkT at h; cases h
  | .callk _ _ _ _, X, xa, W, g, sc, e, S, h => by unfold chkT at h; cases h
  | .bi _ _, X, xa, W, g, sc, e, S, h => by unfold chkT at h; cases h
  | .mth _ _ _, X, xa, W, g, sc, e, S, h => by unfold chkT at h; cases h
  | .isi _ _, X, xa, W, g, sc, e, S, h => by unfold chkT at h; cases h
  | .isE _, X, xa, W, g, sc, e, S, h => by unfold chkT at h; cases h
  | .sub _ _, X, xa, W, g, sc, e, S, h => by unfold chkT at h; cases h
  | .slc _ _ _, X, xa, W, g, sc, e, S, h => by unfold chkT at h; cases h
  | .itr _ _, X, xa, W, g, sc, e, S, h => by unfold chkT at h; cases h
  | .lc _ _ _ _, X, xa, W, g, sc, e, S, h => by unfold chkT at h; cases h
  | .fld _, X, xa, W, g, sc, e, S, h => by unfold chkT at h; cases h
  | .consS _ _, X, xa, W, g, sc, e, S, h => by unfold chkT at h; cases h
  | .rev _, X, xa, W, g, sc, e, S, h => by unfold chkT at h; cases h
theorem okL : ∀ (ce : CE) {X : Cx} {xa : Xa} {W : WX} {g : Gs} {sc : Sc} {es : List Expr}, Stat X xa W g sc → chkL sc ce es = true → Ar X xa W es (ev g ce)
  | .nil, X, xa, W, g, sc, es, S, h => by
    cases es with
    | nil => exact a_nil
    | cons => unfold chkL at h; cases h
  | .cons ca cr, X, xa, W, g, sc, es, S, h => by
    cases es with
    | nil => unfold chkL at h; cases h
    | cons e es =>
      unfold chkL at h
      obtain ⟨h1, h2⟩ := b2 h
      obtain ⟨h2, h3⟩ := b2 h2
      exact a_cons (okE ca S h2) (okL cr S h3) h1
  | .var _, X, xa, W, g, sc, e, S, h => by unfold chkL at h; cases h
  | .cst _, X, xa, W, g, sc, e, S, h => by unfold chkL at h; cases h
  | .bop _ _ _, X, xa, W, g, sc, e, S, h => by unfold chkL at h; cases h
  | .cmp _ _ _, X, xa, W, g, sc, e, S, h => by unfold chkL at h; cases h
  | .chn _ _ _ _ _, X, xa, W, g, sc, e, S, h => by unfold chkL at h; cases h
  | .neg _, X, xa, W, g, sc, e, S, h => by unfold chkL at h; cases h
  | .not_ _, X, xa, W, g, sc, e, S, h => by unfold chkL at h; cases h
  | .and_ _ _, X, xa, W, g, sc, e, S, h => by unfold chkL at h; cases h
  | .or_ _ _, X, xa, W, g, sc, e, S, h => by unfold chkL at h; cases h
  | .tr _, X, xa, W, g, sc, e, S, h => by unfold chkL at h; cases h
  | .consS _ _, X, xa, W, g, sc, e, S, h => by unfold chkL at h; cases h
  | .rev _, X, xa, W, g, sc, e, S, h => by unfold chkL at h; cases h
  | .ite _ _ _, X, xa, W, g, sc, e, S, h => by unfold chkL at h; cases h
  | .tup _, X, xa, W, g, sc, e, S, h => by unfold chkL at h; cases h
  | .lst _, X, xa, W, g, sc, e, S, h => by unfold chkL at h; cases h
  | .call _ _, X, xa, W, g, sc, e, S, h => by unfold chkL at h; cases h
  | .callk _ _ _ _, X, xa, W, g, sc, e, S, h => by unfold chkL at h; cases h
  | .bi _ _, X, xa, W, g, sc, e, S, h => by unfold chkL at h; cases h
  | .mth _ _ _, X, xa, W, g, sc, e, S, h => by unfold chkL at h; cases h
  | .isi _ _, X, xa, W, g, sc, e, S, h => by unfold chkL at h; cases h
  | .isE _, X, xa, W, g, sc, e, S, h => by unfold chkL at h; cases h
  | .sub _ _, X, xa, W, g, sc, e, S, h => by unfold chkL at h; cases h
  | .slc _ _ _, X, xa, W, g, sc, e, S, h => by unfold chkL at h; cases h
  | .itr _ _, X, xa, W, g, sc, e, S, h => by unfold chkL at h; cases h
  | .lc _ _ _ _, X, xa, W, g, sc, e, S, h => by unfold chkL at h; cases h
  | .fld _, X, xa, W, g, sc, e, S, h => by unfold chkL at h; cases h
theorem okD : ∀ (ce : CE) {X : Cx} {xa : Xa} {W : WX} {g : Gs} {sc : Sc} {es : List Expr}, Stat X xa W g sc → chkD sc ce es = true → Ar X xa W es (ev g ce)
  | .nil, X, xa, W, g, sc, es, S, h => by
    cases es with
    | nil => exact a_nil
    | cons => unfold chkD at h; cases h
  | .cons ca cr, X, xa, W, g, sc, es, S, h => by
    cases es with
    | nil => unfold chkD at h; cases h
    | cons e es =>
      unfold chkD at h
      obtain ⟨h1, h2⟩ := b2 h
      obtain ⟨h2, h3⟩ := b2 h2
      exact a_cons (okE ca S h2) (okD cr S h3) h1
  | .var _, X, xa, W, g, sc, e, S, h => by unfold chkD at h; cases h
  | .cst _, X, xa, W, g, sc, e, S, h => by unfold chkD at h; cases h
  | .bop _ _ _, X, xa, W, g, sc, e, S, h => by unfold chkD at h; cases h
  | .cmp _ _ _, X, xa, W, g, sc, e, S, h => by unfold chkD at h; cases h
  | .chn _ _ _ _ _, X, xa, W, g, sc, e, S, h => by unfold chkD at h; cases h
  | .neg _, X, xa, W, g, sc, e, S, h => by unfold chkD at h; cases h
  | .not_ _, X, xa, W, g, sc, e, S, h => by unfold chkD at h; cases h
  | .and_ _ _, X, xa, W, g, sc, e, S, h => by unfold chkD at h; cases h
  | .or_ _ _, X, xa, W, g, sc, e, S, h => by unfold chkD at h; cases h
  | .tr _, X, xa, W, g, sc, e, S, h => by unfold chkD at h; cases h
  | .consS ca cr, X, xa, W, g, sc, es, S, h => by
    unfold chkD at h
    split at h
    · obtain ⟨h1, h2⟩ := b2 h
      exact a_consS (okE ca S h1) (okD cr S h2)
    · cases h
  | .rev _, X, xa, W, g, sc, e, S, h => by unfold chkD at h; cases h
  | .ite _ _ _, X, xa, W, g, sc, e, S, h => by unfold chkD at h; cases h
  | .tup _, X, xa, W, g, sc, e, S, h => by unfold chkD at h; cases h
  | .lst _, X, xa, W, g, sc, e, S, h => by unfold chkD at h; cases h
  | .call _ _, X, xa, W, g, sc, e, S, h => by unfold chkD at h; cases h
  | .callk _ _ _ _, X, xa, W, g, sc, e, S, h => by unfold chkD at h; cases h
  | .bi _ _, X, xa, W, g, sc, e, S, h => by unfold chkD at h; cases h
  | .mth _ _ _, X, xa, W, g, sc, e, S, h => by unfold chkD at h; cases h
  | .isi _ _, X, xa, W, g, sc, e, S, h => by unfold chkD at h; cases h
  | .isE _, X, xa, W, g, sc, e, S, h => by unfold chkD at h; cases h
  | .sub _ _, X, xa, W, g, sc, e, S, h => by unfold chkD at h; cases h
  | .slc _ _ _, X, xa, W, g, sc, e, S, h => by unfold chkD at h; cases h
  | .itr _ _, X, xa, W, g, sc, e, S, h => by unfold chkD at h; cases h
  | .lc _ _ _ _, X, xa, W, g, sc, e, S, h => by unfold chkD at h; cases h
  | .fld _, X, xa, W, g, sc, e, S, h => by unfold chkD at h; cases h
theorem okK : ∀ (ce : CE) {X : Cx} {xa : Xa} {W : WX} {g : Gs} {sc : Sc} {es : List Keyword}, Stat X xa W g sc → chkK sc ce es = true → Kr X xa W es (ev g ce)
  | .nil, X, xa, W, g, sc, es, S, h => by
    cases es with
    | nil => exact k_nil
    | cons => unfold chkK at h; cases h
  | .cons ca cr, X, xa, W, g, sc, es, S, h => by
    cases es with
    | nil => unfold chkK at h; cases h
    | cons k es =>
      obtain ⟨n, e, p⟩ := k
      unfold chkK at h
      obtain ⟨h1, h2⟩ := b2 h
      exact k_cons (okE ca S h1) (okK cr S h2)
  | .var _, X, xa, W, g, sc, e, S, h => by unfold chkK at h; cases h
  | .cst _, X, xa, W, g, sc, e, S, h => by unfold chkK at h; cases h
  | .bop _ _ _, X, xa, W, g, sc, e, S, h => by unfold chkK at h; cases h
  | .cmp _ _ _, X, xa, W, g, sc, e, S, h => by unfold chkK at h; cases h
  | .chn _ _ _ _ _, X, xa, W, g, sc, e, S, h => by unfold chkK at h; cases h
  | .neg _, X, xa, W, g, sc, e, S, h => by unfold chkK at h; cases h
  | .not_ _, X, xa, W, g, sc, e, S, h => by unfold chkK at h; cases h
  | .and_ _ _, X, xa, W, g, sc, e, S, h => by unfold chkK at h; cases h
  | .or_ _ _, X, xa, W, g, sc, e, S, h => by unfold chkK at h; cases h
  | .tr _, X, xa, W, g, sc, e, S, h => by unfold chkK at h; cases h
  | .ite _ _ _, X, xa, W, g, sc, e, S, h => by unfold chkK at h; cases h
  | .tup _, X, xa, W, g, sc, e, S, h => by unfold chkK at h; cases h
  | .lst _, X, xa, W, g, sc, e, S, h => by unfold chkK at h; cases h
  | .call _ _, X, xa, W, g, sc, e, S, h => by unfold chkK at h; cases h
  | .callk _ _ _ _, X, xa, W, g, sc, e, S, h => by unfold chkK at h; cases h
  | .bi _ _, X, xa, W, g, sc, e, S, h => by unfold chkK at h; cases h
  | .mth _ _ _, X, xa, W, g, sc, e, S, h => by unfold chkK at h; cases h
  | .isi _ _, X, xa, W, g, sc, e, S, h => by unfold chkK at h; cases h
  | .isE _, X, xa, W, g, sc, e, S, h => by unfold chkK at h; cases h
  | .sub _ _, X, xa, W, g, sc, e, S, h => by unfold chkK at h; cases h
  | .slc _ _ _, X, xa, W, g, sc, e, S, h => by unfold chkK at h; cases h
  | .itr _ _, X, xa, W, g, sc, e, S, h => by unfold chkK at h; cases h
  | .lc _ _ _ _, X, xa, W, g, sc, e, S, h => by unfold chkK at h; cases h
  | .fld _, X, xa, W, g, sc, e, S, h => by unfold chkK at h; cases h
  | .consS _ _, X, xa, W, g, sc, e, S, h => by unfold chkK at h; cases h
  | .rev _, X, xa, W, g, sc, e, S, h => by unfold chkK at h; cases h
theorem okI : ∀ (ce : CE) {X : Cx} {xa : Xa} {W : WX} {g : Gs} {sc : Sc} {tg e : Expr}, Stat X xa W g sc → chkI sc (isTupE tg) ce e = true → I1 X xa W tg e (ev g ce)
  | .itr k ca, X, xa, W, g, sc, tg, e, S, h => by
    unfold chkI at h
    split at h
    · cases ca with
      | cons cb cr =>
        unfold chkL at h
        obtain ⟨h1, h⟩ := b2 h
        obtain ⟨hh, h3⟩ := b2 h
        have hE := okE cb S hh
        cases cr <;> first
          | exact i_seq hE
          | (unfold chkL at h3; cases h3)
      | _ => unfold chkL at h; cases h
    · split at h
      · rename_i x p a pos
        obtain ⟨h1, h⟩ := b2 h
        obtain ⟨h2, h⟩ := b2 h
        obtain ⟨h3, h4⟩ := b2 h
        obtain rfl := of_decide_eq_true h1
        obtain ⟨f1, f2⟩ := freeB_ok S h2
        exact i_rng1 f1 f2 (okL ca S h4) h3
      · cases h
    · split at h
      · rename_i x p a pos
        obtain ⟨h1, h⟩ := b2 h
        obtain ⟨h0, h⟩ := b2 h
        obtain ⟨h2, h⟩ := b2 h
        obtain ⟨h3, h4⟩ := b2 h
        obtain rfl := of_decide_eq_true h1
        obtain ⟨f1, f2⟩ := freeB_ok S h2
        obtain ⟨elts, kk, tp, rfl⟩ := isTupE_ok h0
        exact i_enumL f1 f2 (okL ca S h4) h3
      · cases h
    · split at h
      · rename_i x p a b pos
        obtain ⟨h1, h⟩ := b2 h
        obtain ⟨h0, h⟩ := b2 h
        obtain ⟨h2, h⟩ := b2 h
        obtain ⟨h3, h⟩ := b2 h
        obtain ⟨h4, h5⟩ := b2 h
        obtain rfl := of_decide_eq_true h1
        obtain ⟨f1, f2⟩ := freeB_ok S h2
        obtain ⟨elts, kk, tp, rfl⟩ := isTupE_ok h0
        exact i_zip f1 f2 (okL ca S h5) h3 h4
      · cases h
    · split at h
      · rename_i x p a pos cb
        obtain ⟨h1, h⟩ := b2 h
        obtain ⟨h2, h⟩ := b2 h
        obtain ⟨h3, h4⟩ := b2 h
        obtain rfl := of_decide_eq_true h1
        obtain ⟨f1, f2⟩ := freeB_ok S h2
        exact i_rev f1 f2 (okE cb S h4) h3
      · cases h
    · split at h
      · rename_i x p y p2 a pos2 pos cb
        obtain ⟨h1, h⟩ := b2 h
        obtain ⟨h2, h⟩ := b2 h
        obtain ⟨h5, h⟩ := b2 h
        obtain ⟨h6, h⟩ := b2 h
        obtain ⟨h3, h4⟩ := b2 h
        obtain rfl := of_decide_eq_true h1
        obtain rfl := of_decide_eq_true h5
        obtain ⟨f1, f2⟩ := freeB_ok S h2
        obtain ⟨f3, f4⟩ := freeB_ok S h6
        exact i_revR f1 f2 f3 f4 (okE cb S h4) h3
      · cases h
    · split at h
      · rename_i x p a b pos
        obtain ⟨h1, h⟩ := b2 h
        obtain ⟨h2, h⟩ := b2 h
        obtain ⟨h3, h⟩ := b2 h
        obtain ⟨h4, h5⟩ := b2 h
        obtain rfl := of_decide_eq_true h1
        obtain ⟨f1, f2⟩ := freeB_ok S h2
        exact i_rng2 f1 f2 (okL ca S h5) h3 h4
      · cases h
    · cases h
  | .nil, X, xa, W, g, sc, tg, e, S, h => by unfold chkI at h; cases h
  | .cons _ _, X, xa, W, g, sc, tg, e, S, h => by unfold chkI at h; cases h
  | .var _, X, xa, W, g, sc, tg, e, S, h => by unfold chkI at h; cases h
  | .cst _, X, xa, W, g, sc, tg, e, S, h => by unfold chkI at h; cases h
  | .bop _ _ _, X, xa, W, g, sc, tg, e, S, h => by unfold chkI at h; cases h
  | .cmp _ _ _, X, xa, W, g, sc, tg, e, S, h => by unfold chkI at h; cases h
  | .chn _ _ _ _ _, X, xa, W, g, sc, tg, e, S, h => by unfold chkI at h; cases h
  | .neg _, X, xa, W, g, sc, tg, e, S, h => by unfold chkI at h; cases h
  | .not_ _, X, xa, W, g, sc, tg, e, S, h => by unfold chkI at h; cases h
  | .and_ _ _, X, xa, W, g, sc, tg, e, S, h => by unfold chkI at h; cases h
  | .or_ _ _, X, xa, W, g, sc, tg, e, S, h => by unfold chkI at h; cases h
  | .tr _, X, xa, W, g, sc, tg, e, S, h => by unfold chkI at h; cases h
  | .ite _ _ _, X, xa, W, g, sc, tg, e, S, h => by unfold chkI at h; cases h
  | .tup _, X, xa, W, g, sc, tg, e, S, h => by unfold chkI at h; cases h
  | .lst _, X, xa, W, g, sc, tg, e, S, h => by unfold chkI at h; cases h
  | .call _ _, X, xa, W, g, sc, tg, e, S, h => by unfold chkI at h; cases h
  | .callk _ _ _ _, X, xa, W, g, sc, tg, e, S, h => by unfold chkI at h; cases h
  | .bi _ _, X, xa, W, g, sc, tg, e, S, h => by unfold chkI at h; cases h
  | .mth _ _ _, X, xa, W, g, sc, tg, e, S, h => by unfold chkI at h; cases h
  | .isi _ _, X, xa, W, g, sc, tg, e, S, h => by unfold chkI at h; cases h
  | .isE _, X, xa, W, g, sc, tg, e, S, h => by unfold chkI at h; cases h
  | .sub _ _, X, xa, W, g, sc, tg, e, S, h => by unfold chkI at h; cases h
  | .slc _ _ _, X, xa, W, g, sc, tg, e, S, h => by unfold chkI at h; cases h
  | .lc _ _ _ _, X, xa, W, g, sc, tg, e, S, h => by unfold chkI at h; cases h
  | .fld _, X, xa, W, g, sc, tg, e, S, h => by unfold chkI at h; cases h
  | .consS _ _, X, xa, W, g, sc, tg, e, S, h => by unfold chkI at h; cases h
  | .rev _, X, xa, W, g, sc, tg, e, S, h => by unfold chkI at h; cases h
end
end Ly
end
section
set_option Elab.async false
set_option linter.all false
set_option maxRecDepth 100000
set_option maxHeartbeats 2000000
/-! LyH: the law's call by such a promise. -/
namespace Ly
open PySem PySem.Spec PyProof.Rows L2
section
variable {P : Program} {w : World} {K : PySem.W.Frag} {mg mb : Str → Option Value} {CX : CXT} {k : Nat} {fa a : Addr} {fd : FuncData} {x : Str} {sp : Sp} {t : Shared} {us : List Value} {ns : List Int}
/-- what a law's call must come to -/
abbrev Told (t : Shared) (r : Result) (t' : Shared) : Prop := r = .ok (.ret (.bool true)) ∧ OldK t.heap t'.heap ∧ t'.os = t.os ∧ AllBare t'.gens
/-- from a heap in which at most the script is tracked -/
theorem law_core (KX : K.In t.heap) (hns : t.heap.Ns mainGlobals mg) (hb : t.heap.Ns builtinsNs mb) (hbb : ∀ x : Str, x ≠ "__name__" → mb x = bootBuiltins x) (hlim : t.heap.NoLimit) (hg : t.gens = #[]) (ha : t.heap.get? a = some { cls := .type "list", data := .seq us.toArray })
    (hr : Rm k callerA) (F : ∀ B : Heap, K.In B → B.Ns mainGlobals mg → FnG P w K mg B CX k fa fd [x] sp) (hbind : ∀ (s : Shared) (u : Value), BindsTo s fd ⟨[u], []⟩ [(x, u)]) (hCX : ∀ H e t', CX [] H t (fun _ _ _ => False) e t' → False)
    {H : Hp} (hO : Only H) (hok : HOk P w H t.heap) (hA : ∀ b, H b ≠ none → b = a) (hK : H a ≠ none → K.lookup a = none) (hsp : sp [.ref a] H (fun v _ => v = .bl true) fun _ _ _ => False) : codeAny (model P w) callerA (.call (.ref fa) ⟨[.ref a], []⟩) (Told t) t := by
  have away : ∀ {b : Addr} {o : Obj}, t.heap.get? b = some o → (b = a → H b = none) → (hidT t.heap H).get? b = some o := fun {b o} e z => hidT_get e (by
    cases q : H b with
    | none => rfl
    | some u =>
      have e1 := z (hA b (by rw [q]; exact Option.some_ne_none u))
      rw [q] at e1; exact e1)
  have ns2 : ∀ {b : Addr} {m : Str → Option Value}, t.heap.Ns b m → (hidT t.heap H).Ns b m := fun {b m} ⟨o, es, ep, e, d, r⟩ => ⟨o, es, ep, (away e fun z => by
    subst z
    have e2 := ha.symm.trans e
    cases e2
    have d2 : Data.seq us.toArray _ = Data.dict es ep := d
    cases d2), d, r⟩
  have KB : K.In (hidT t.heap H) := fun b o e => away (KX b o e) fun z => by
    subst z
    cases q : H b with
    | none => rfl
    | some u =>
      have e2 := hK (by rw [q]; exact Option.some_ne_none u)
      rw [e2] at e; cases e
  obtain ⟨mc, l1, l2⟩ := hlim
  have E0 : Env0 P w K mg (hidT t.heap H) callerA [] t H :=
    { frames := rfl, mod := ⟨KB, ns2 hns, ⟨mb, ns2 hb, hbb⟩, ⟨mc, ns2 l1, l2⟩⟩, bs := fun b o e => of_hidT e, bsz := Nat.le_of_eq (hidT_size _ _), funs := trivial, frf := fun b z => (List.not_mem_nil (show b ∈ ([] : List Addr) from z)).elim, hok := hok, bare := .of_eq hg }
  refine codeAny_mono ((F _ KB (ns2 hns)).go (args := ⟨[.ref a], []⟩) (us := [.ref a]) (vs := [.ref a]) hr E0 (hbind t (.ref a)) (.cons rfl .nil) hsp) fun r t' h => ?_
  match r, h with
  | .error e, h => exact (hCX H e t' h).elim
  | .ok .next, h => exact h.elim
  | .ok .brk, h => exact h.elim
  | .ok .cont, h => exact h.elim
  | .ok (.ret u), ⟨v, H', os, bare, un, hok', rv, q⟩ =>
    have q : v = .bl true := q
    subst q
    have rv : u = Value.bool true := rv
    subst rv
    refine ⟨rfl, OldK.of_keep fun b o e => ?_, os, bare⟩
    have no : ∀ b : Addr, b ∉ ([] : List Addr) := fun b => List.not_mem_nil
    rcases hO b with z | ⟨ob, xs, z⟩
    · exact un.keep b o e z (no b) (no b)
    · have e1 := (hok b _ z).1
      rw [e] at e1; cases e1
      exact (hok' b _ (un.frzs b _ _ z)).1
theorem law_callG (KX : K.In t.heap) (hns : t.heap.Ns mainGlobals mg) (hb : t.heap.Ns builtinsNs mb) (hbb : ∀ x : Str, x ≠ "__name__" → mb x = bootBuiltins x) (hlim : t.heap.NoLimit) (hg : t.gens = #[]) (ha : t.heap.get? a = some { cls := .type "list", data := .seq us.toArray })
    (hi : IntsAre us ns) (hl : ns.length ≤ sizeLine) (hr : Rm k callerA) (F : ∀ B : Heap, K.In B → B.Ns mainGlobals mg → FnG P w K mg B CX k fa fd [x] sp) (hbind : ∀ (s : Shared) (u : Value), BindsTo s fd ⟨[u], []⟩ [(x, u)])
    (hsp : ∀ H : Hp, Only H → SqL K H a (ns.map V.int) → sp [.ref a] H (fun v _ => v = .bl true) fun _ _ _ => False) (hCX : ∀ H e t', CX [] H t (fun _ _ _ => False) e t' → False) : codeAny (model P w) callerA (.call (.ref fa) ⟨[.ref a], []⟩) (Told t) t := by
  have rv := vals_ints hi
  cases hk : K.lookup a with
  | some o =>
    have e := ha.symm.trans (KX a o hk)
    cases e
    exact law_core KX hns hb hbb hlim hg ha hr F hbind hCX (H := fun _ => none) (fun _ => .inl rfl) (fun _ _ z => by cases z) (fun _ z => (z rfl).elim) (fun z => (z rfl).elim)
      (hsp _ (fun _ => .inl rfl) (.inr ⟨_, us.toArray, _, hk, rfl, rfl, rfl, by rw [List.size_toArray, hi.length]; exact hl, by simpa using rv⟩))
  | none =>
    have one : ∀ b u, (if b = a then some (HO.frz { cls := .type "list", data := .seq us.toArray } (.lst (ns.map V.int))) else none) = some u → b = a ∧ u = HO.frz { cls := .type "list", data := .seq us.toArray } (.lst (ns.map V.int)) := fun b u z => by
      by_cases c : b = a
      · rw [if_pos c] at z; cases z; exact ⟨c, rfl⟩
      · rw [if_neg c] at z; cases z
    refine law_core KX hns hb hbb hlim hg ha hr F hbind hCX (H := fun b => if b = a then some (.frz { cls := .type "list", data := .seq us.toArray } (.lst (ns.map V.int))) else none) (fun b => ?_) (fun b u z => ?_) (fun b z => ?_) (fun _ => hk) (hsp _ (fun b => ?_) (.inl (.inr ⟨_, if_pos rfl⟩)))
    · by_cases c : b = a
      · exact .inr ⟨_, _, if_pos c⟩
      · exact .inl (if_neg c)
    · obtain ⟨c, e⟩ := one b u z
      subst c e
      exact ⟨ha, by rw [List.length_map]; exact hl, us, _, rv, ha⟩
    · by_cases c : b = a
      · exact c
      · exact (z (if_neg c)).elim
    · by_cases c : b = a
      · exact .inr ⟨_, _, if_pos c⟩
      · exact .inl (if_neg c)
end
end Ly
end
section
set_option Elab.async false
set_option linter.all false
set_option maxRecDepth 100000
set_option maxHeartbeats 8000000
/-! Ly16: the checker of statements. -/
namespace Ly
open PySem PySem.Spec PyProof.Rows L2
def isLC : Expr → Bool
  | .ListComp _ _ _ _ => true
  | _ => false
/-- a, b = e1, e2 -/
def tupB (sc : Sc) (p : Pat) (ce : CE) (tg e : Expr) : Bool := match tg, e with
  | .Tuple ts _ _, .Tuple vs _ _ => (match swB sc.names ts vs with
    | some none => true
    | some (some ns) => (match p, ts, vs, ce with
      | .tup (.cons (.v i) (.cons (.v j) .nil)), [.Name x _, .Name y _], [a, b], .tup ca => sc.calm && (decide (ns = [x, y]) && (decide (i ≠ j) && (decide (sc.names.lookup x = some .local) && (decide (sc.names.lookup y = some .local) && chkL sc ca [a, b]))))
      | .tup (.cons (.v i) (.cons (.v j) (.cons (.v l) .nil))), [.Name x _, .Name y _, .Name z _], [a, b, c], .tup ca => sc.calm && (decide (ns = [x, y, z]) && (decide (i ≠ j) && (decide (i ≠ l) && (decide (j ≠ l) && (decide (sc.names.lookup x = some .local) && (decide (sc.names.lookup y = some .local) && (decide (sc.names.lookup z = some .local) && chkL sc ca [a, b, c])))))))
      | _, _, _, _ => false)
    | none => false)
  | _, _ => false
theorem chkP_v {sc : Sc} {i : Nat} {x : Str} {px : Pos} (h : chkP sc (.v i) (.Name x px) = true) : sc.N[i]? = some x ∧ sc.ei ≠ some i := by
  have h : (decide (sc.N[i]? = some x) && ((decide (sc.names.lookup x = some .local) || (decide (sc.names.lookup x = some .cell) && sc.fcell x)) && decide (sc.ei ≠ some i))) = true := h
  obtain ⟨h1, h⟩ := b2 h
  obtain ⟨_, h⟩ := b2 h
  exact ⟨of_decide_eq_true h1, of_decide_eq_true h⟩
theorem tupB_ok {X : Cx} {xa : Xa} {W : WX} {g : Gs} {sc : Sc} {p : Pat} {ce : CE} {tg e : Expr} {pos : Pos} (S : Stat X xa W g sc) (h : tupB sc p ce tg e = true) (hp : chkP sc p tg = true) (he : chkE sc ce e = true) (hc : notComp e = true) (hst : notStar tg = true) : S1 X xa W (.Assign [tg] e pos) (exec g (.asg p ce)) := by
  unfold tupB at h
  split at h
  · rename_i ts k p1 vs k2 p2
    split at h
    · rename_i hs
      exact s_asgN (okP S _ hp) hst (okE ce S he) hc (swB_ok S.names S.kind hs)
    · rename_i ns hs
      have hw := fun {k k2 p p2} => swB_ok (k := k) (k2 := k2) (p := p) (p2 := p2) S.names S.kind hs
      split at h
      · rename_i i j x px y py a b ca
        obtain ⟨h1, h⟩ := b2 h
        obtain ⟨h2, h⟩ := b2 h
        obtain ⟨h3, h⟩ := b2 h
        obtain ⟨h4, h⟩ := b2 h
        obtain ⟨h5, h6⟩ := b2 h
        obtain rfl := of_decide_eq_true h2
        have hp' : (sc.calm && (notStars [.Name x px, .Name y py] && (decide (patLen (.cons (.v i) (.cons (.v j) .nil)) = some 2) && chkPs sc (.cons (.v i) (.cons (.v j) .nil)) [.Name x px, .Name y py]))) = true := hp
        obtain ⟨_, hp'⟩ := b2 hp'
        obtain ⟨_, hp'⟩ := b2 hp'
        obtain ⟨_, hp'⟩ := b2 hp'
        have hp' : (notStar (.Name x px) && (chkP sc (.v i) (.Name x px) && (notStar (.Name y py) && (chkP sc (.v j) (.Name y py) && true)))) = true := hp'
        obtain ⟨_, hp'⟩ := b2 hp'
        obtain ⟨k1, hp'⟩ := b2 hp'
        obtain ⟨_, hp'⟩ := b2 hp'
        obtain ⟨k2, _⟩ := b2 hp'
        obtain ⟨n1, x1⟩ := chkP_v k1
        obtain ⟨n2, x2⟩ := chkP_v k2
        exact s_par2 (S.calm h1) S.nd (S.xi x1) (S.xi x2) (by rw [S.N]; exact n1) (by rw [S.N]; exact n2) (of_decide_eq_true h3) (by rw [S.names]; exact of_decide_eq_true h4) (by rw [S.names]; exact of_decide_eq_true h5) (okL ca S h6) hw
      · rename_i i j l x px y py z pz a b c ca
        obtain ⟨h1, h⟩ := b2 h
        obtain ⟨h2, h⟩ := b2 h
        obtain ⟨h3, h⟩ := b2 h
        obtain ⟨h4, h⟩ := b2 h
        obtain ⟨h5, h⟩ := b2 h
        obtain ⟨h6, h⟩ := b2 h
        obtain ⟨h7, h⟩ := b2 h
        obtain ⟨h8, h9⟩ := b2 h
        obtain rfl := of_decide_eq_true h2
        have hp' : (sc.calm && (notStars [.Name x px, .Name y py, .Name z pz] && (decide (patLen (.cons (.v i) (.cons (.v j) (.cons (.v l) .nil))) = some 3) && chkPs sc (.cons (.v i) (.cons (.v j) (.cons (.v l) .nil))) [.Name x px, .Name y py, .Name z pz]))) = true := hp
        obtain ⟨_, hp'⟩ := b2 hp'
        obtain ⟨_, hp'⟩ := b2 hp'
        obtain ⟨_, hp'⟩ := b2 hp'
        have hp' : (notStar (.Name x px) && (chkP sc (.v i) (.Name x px) && (notStar (.Name y py) && (chkP sc (.v j) (.Name y py) && (notStar (.Name z pz) && (chkP sc (.v l) (.Name z pz) && true)))))) = true := hp'
        obtain ⟨_, hp'⟩ := b2 hp'
        obtain ⟨k1, hp'⟩ := b2 hp'
        obtain ⟨_, hp'⟩ := b2 hp'
        obtain ⟨k2, hp'⟩ := b2 hp'
        obtain ⟨_, hp'⟩ := b2 hp'
        obtain ⟨k3, _⟩ := b2 hp'
        obtain ⟨n1, x1⟩ := chkP_v k1
        obtain ⟨n2, x2⟩ := chkP_v k2
        obtain ⟨n3, x3⟩ := chkP_v k3
        exact s_par3 (S.calm h1) S.nd (S.xi x1) (S.xi x2) (S.xi x3) (by rw [S.N]; exact n1) (by rw [S.N]; exact n2) (by rw [S.N]; exact n3) (of_decide_eq_true h3) (of_decide_eq_true h4) (of_decide_eq_true h5) (by rw [S.names]; exact of_decide_eq_true h6) (by rw [S.names]; exact of_decide_eq_true h7) (by rw [S.names]; exact of_decide_eq_true h8) (okL ca S h9) hw
      · cases h
    · cases h
  · cases h
/-- an assignment to one target -/
def chkA (sc : Sc) (p : Pat) (ce : CE) (tg e : Expr) : Bool := match isLC e with
  | true => (match p, tg, e, ce with
    | .v i, .Name y py, .ListComp _ _ scope pos, .lc _ _ _ _ => sc.calm && (decide (sc.N[i]? = some y) && (decide (sc.names.lookup y = some .local) && ((py.line == pos.line) && (!(scope.names.any fun (n, k) => n == y && (k == .local || k == .cell)) && (decide (sc.ei ≠ some i) && chkE sc ce e)))))
    | _, _, _, _ => false)
  | false => notComp e && (chkP sc p tg && (chkE sc ce e && (match p with
    | .v _ => true
    | _ => notStar tg && (notTup e || tupB sc p ce tg e))))
mutual
def chkS (sc : Sc) : CS → Stmt → Bool
  | .skip, st => (match st with
    | .Pass _ => true
    | _ => false)
  | .seq _ _, _ => false
  | .ex ce, st => (match st with
    | .Expr e _ => notComp e && chkE sc ce e
    | _ => false)
  | .asg p ce, st => (match st with
    | .Assign [tg] e _ => chkA sc p ce tg e
    | _ => false)
  | .setI co ci ce, st => (match st with
    | .Assign [.Subscript o i _] e _ => notSlice i && (notComp e && (notTup e && (chkE sc ce e && (chkE sc co o && chkE sc ci i))))
    | _ => false)
  | .aug i o ce, st => (match st with
    | .AugAssign (.Name x _) o' e _ => decide (o' = o) && ((augOp o).isSome && (decide (sc.N[i]? = some x) && ((decide (sc.names.lookup x = some .local) || (decide (sc.names.lookup x = some .cell) && sc.fcell x)) && (decide (sc.ei ≠ some i) && chkE sc ce e))))
    | _ => false)
  | .ifS cc a b, st => (match st with
    | .If c sa sb _ => chkT sc cc c && (chkSs sc a sa && chkSs sc b sb)
    | _ => false)
  | .whl cc b, st => (match st with
    | .While c sa [] _ => sc.calm && (chkT sc cc c && chkSs sc b sa)
    | _ => false)
  | .for_ p ci b, st => (match st with
    | .For tg it sa [] _ => sc.calm && (chkI sc (isTupE tg) ci it && (plainIter it && (chkP sc p tg && chkSs sc b sa)))
    | _ => false)
  | .ret ce, st => (match st with
    | .Return (some e) _ => chkE sc ce e
    | _ => false)
  | .retN, st => (match st with
    | .Return none _ => true
    | _ => false)
  | .raise c fs ca, st => (match st with
    | .Raise (some (.Call (.Name x _) (e :: es) [] _)) none _ => sc.calm && (decide (x = c) && (glB sc x && (decide ((x, fs) ∈ sc.errs) && chkL sc ca (e :: es))))
    | _ => false)
  | .try_ b c i s, st => (match st with
    | .Try body [.ExceptHandler (some (.Name x _)) (some n) (b₀ :: suite) _] [] [] _ => sc.calm && (decide (sc.N[i]? = some n) && (decide (sc.names.lookup n = some .local) && (decide (x = c) && (clsB sc x && (chkSs sc b body && chkSs { sc with calm := false, ei := some i } s (b₀ :: suite))))))
    | _ => false)
  | .brk, st => (match st with
    | .Break _ => true
    | _ => false)
  | .cnt, st => (match st with
    | .Continue _ => true
    | _ => false)
def chkSs (sc : Sc) : CS → List Stmt → Bool
  | .skip, sts => sts.isEmpty
  | .seq a b, sts => (match sts with
    | st :: rest => chkS sc a st && chkSs sc b rest
    | [] => false)
  | _, _ => false
end
structure StatS (X : Cx) (xa : Xa) (W : WX) (g : Gs) (sc : Sc) : Prop where
  s : Stat X xa W g sc
  pass : sc.calm = true → PassesOwn (model X.prog X.w) X.A X.env X.xe
  st : X.stack = X.env :: X.outer ∧ X.env.frame = some X.env.locals
theorem Stat.tr {X : Cx} {W W' : WX} {g : Gs} {sc : Sc} (S : Stat X none W g sc) (pn : List (Addr × Obj)) (xe : Value → Shared → Prop) (tk : Takes (X.tr pn xe) W') : Stat (X.tr pn xe) none W' g sc where
  nd := S.nd
  N := S.N
  names := S.names
  kind := S.kind
  fns := S.fns
  gc := S.gc
  gf := fun h x f i e => by
    obtain ⟨a, c, b⟩ := S.gf h x f i e
    exact ⟨a, ⟨c.mg, c.kp, c.fn⟩, b⟩
  free := S.free
  un := S.un
  gd := S.gd
  calm := S.calm
  xn := S.xn
  tk := tk
  su := suiteOk_none
  ex := S.ex
  ei := S.ei
  cl := S.cl
  ec := S.ec
  fl := S.fl
  er := S.er
theorem Stat.suite {X : Cx} {W : WX} {g : Gs} {sc : Sc} (S : Stat X none W g sc) (r : XaR) (oe : Obj) (pn : List (Addr × Obj)) {i : Nat} (hi : r.i = i) (su : SuiteOk (X.suite r.a ((r.a, oe) :: pn)) g.T (some r)) :
    Stat (X.suite r.a ((r.a, oe) :: pn)) (some r) (fun _ _ _ _ => False) { g with ex := some (r.c, r.fs, r.vs) } { sc with calm := false, ei := some i } where
  nd := S.nd
  N := S.N
  names := S.names
  kind := S.kind
  fns := S.fns
  gc := fun x d h => by
    obtain ⟨v, u, a, b, c⟩ := S.gc x d h
    exact ⟨v, u, a, b, fun ρ H => (c ρ H).sw⟩
  gf := fun h => by cases h
  free := S.free
  un := S.un
  gd := S.gd
  calm := fun h => by cases h
  xn := fun h => by cases h
  tk := takes0
  su := su
  ex := rfl
  ei := fun r' h => by
    cases h
    show some i = some r.i
    rw [hi]
  cl := S.cl
  ec := S.ec
  fl := S.fl
  er := fun h => by cases h
theorem chkA_ok {X : Cx} {xa : Xa} {W : WX} {g : Gs} {sc : Sc} {p : Pat} {ce : CE} {tg e : Expr} {pos : Pos} (S : Stat X xa W g sc) (h : chkA sc p ce tg e = true) : S1 X xa W (.Assign [tg] e pos) (exec g (.asg p ce)) := by
  unfold chkA at h
  split at h
  · split at h
    · rename_i i y py elt gens scope lpos p' ci cc ce' heq
      obtain ⟨h1, h⟩ := b2 h
      obtain ⟨h2, h⟩ := b2 h
      obtain ⟨h3, h⟩ := b2 h
      obtain ⟨h4, h⟩ := b2 h
      obtain ⟨h5, h⟩ := b2 h
      obtain ⟨h6, h⟩ := b2 h
      unfold chkE at h
      have es : strip (.ListComp elt gens scope lpos) = .ListComp elt gens scope lpos := rfl
      rw [es] at h
      split at h
      · rename_i elt tg it ifs scope pos he
        cases he
        obtain ⟨_, h⟩ := b2 h
        obtain ⟨k2, h⟩ := b2 h
        obtain ⟨k3, h⟩ := b2 h
        obtain ⟨k4, h⟩ := b2 h
        obtain ⟨k5, h⟩ := b2 h
        obtain ⟨k6, h⟩ := b2 h
        obtain ⟨k7, k8⟩ := b2 h
        obtain ⟨b1, b3⟩ := blkB_ok S.N S.names k4
        have hk : scope.kind = .function := b1.kind
        have hyl : X.env.scope.names.lookup y = some .local := by rw [S.names]; exact of_decide_eq_true h3
        refine s_setLc (own := ownOf sc p') (S.xi (of_decide_eq_true h6)) (S.calm h1) S.nd (nix S h2) hyl (sw_true S.kind hyl h4 (by simpa using h5)) (okI ci (tg := tg) S k2) b1 (fun s H C cl fp => okP (S.blk h1 hk s H C cl fp) p' k6) (fun s H C cl fp => ?_) (fun s H C cl fp => okE ce' (S.blk h1 hk s H C cl fp) k8) k3 b3 (fun v hv => S.xi (of_decide_eq_true (List.all_eq_true.mp k5 v hv)))
        split at k7
        · have op : cc = .cst (.bl true) := by
            unfold isYes at k7
            split at k7
            · rfl
            · cases k7
          subst op
          refine ⟨fun pins s0 σ H0 Q I hq => pts_nil.run pins s0 σ H0 Q I ?_⟩
          obtain ⟨ρ, σd, hh, rl, rh, q⟩ := hq
          obtain ⟨b, e1, q⟩ := Post.okv q rh (.bl true)
          cases e1
          exact q
        · exact pts_one (okT cc (S.blk h1 hk s H C cl fp) k7).1
        · cases k7
      · cases h
    · cases h
  · obtain ⟨h1, h⟩ := b2 h
    obtain ⟨h2, h⟩ := b2 h
    obtain ⟨h3, h4⟩ := b2 h
    have hE := okE ce S h3
    cases p with
    | v i =>
      cases tg with
      | Name x px =>
        have h2' : (decide (sc.N[i]? = some x) && ((decide (sc.names.lookup x = some .local) || (decide (sc.names.lookup x = some .cell) && sc.fcell x)) && decide (sc.ei ≠ some i))) = true := h2
        obtain ⟨k1, k⟩ := b2 h2'
        obtain ⟨k2, k3⟩ := b2 k
        simp only [Bool.or_eq_true, Bool.and_eq_true, decide_eq_true_eq] at k2
        refine s_set (S.xi (of_decide_eq_true k3)) S.nd (nix S k1) ?_ ?_ hE h1
        · unfold L2.Loc
          rw [S.names]
          rcases k2 with z | ⟨z, _⟩
          · exact .inl z
          · exact .inr z
        · rw [S.names]
          rcases k2 with z | ⟨_, z⟩
          · exact .inr z
          · exact .inl (S.fns x z)
      | _ => cases h2
    | tup q =>
      obtain ⟨h5, h6⟩ := b2 h4
      rw [Bool.or_eq_true] at h6
      rcases h6 with h6 | h6
      · exact s_asg (okP S _ h2) h5 hE h1 h6
      · exact tupB_ok S h6 h2 h3 h1 h5
    | nil => cases h2
    | cons => cases h2
mutual
theorem okS : ∀ (cs : CS) {X : Cx} {xa : Xa} {W : WX} {g : Gs} {sc : Sc} {st : Stmt}, StatS X xa W g sc → chkS sc cs st = true → S1 X xa W st (exec g cs)
  | .skip, X, xa, W, g, sc, st, S, h => by
    unfold chkS at h
    split at h
    · exact s_pass
    · cases h
  | .seq _ _, X, xa, W, g, sc, st, S, h => by unfold chkS at h; cases h
  | .ex ce, X, xa, W, g, sc, st, S, h => by
    unfold chkS at h
    split at h
    · obtain ⟨h1, h2⟩ := b2 h
      exact s_ex (okE ce S.s h2) h1
    · cases h
  | .asg p ce, X, xa, W, g, sc, st, S, h => by
    unfold chkS at h
    split at h
    · exact chkA_ok S.s h
    · cases h
  | .setI co ci ce, X, xa, W, g, sc, st, S, h => by
    unfold chkS at h
    split at h
    · obtain ⟨h1, h⟩ := b2 h
      obtain ⟨h2, h⟩ := b2 h
      obtain ⟨h3, h⟩ := b2 h
      obtain ⟨h4, h⟩ := b2 h
      obtain ⟨h5, h6⟩ := b2 h
      exact s_setI (okE ce S.s h4) (okE co S.s h5) (okE ci S.s h6) h1 h2 h3
    · cases h
  | .aug i o ce, X, xa, W, g, sc, st, S, h => by
    unfold chkS at h
    split at h
    · rename_i x px o' e pos
      obtain ⟨h1, h⟩ := b2 h
      obtain ⟨h2, h⟩ := b2 h
      obtain ⟨h3, h⟩ := b2 h
      obtain ⟨h4, h⟩ := b2 h
      obtain ⟨h5, h6⟩ := b2 h
      obtain rfl := of_decide_eq_true h1
      obtain ⟨f, hf⟩ := Option.isSome_iff_exists.mp h2
      simp only [Bool.or_eq_true, Bool.and_eq_true, decide_eq_true_eq] at h4
      refine s_aug (S.s.xi (of_decide_eq_true h5)) S.s.nd (nix S.s h3) ?_ ?_ hf (okE ce S.s h6)
      · unfold L2.Loc
        rw [S.s.names]
        rcases h4 with z | ⟨z, _⟩
        · exact .inl z
        · exact .inr z
      · rw [S.s.names]
        rcases h4 with z | ⟨_, z⟩
        · exact .inr z
        · exact .inl (S.s.fns x z)
    · cases h
  | .ifS cc a b, X, xa, W, g, sc, st, S, h => by
    unfold chkS at h
    split at h
    · obtain ⟨h1, h⟩ := b2 h
      obtain ⟨h2, h3⟩ := b2 h
      exact s_if (okT cc S.s h1).1 (okSs a S h2) (okSs b S h3)
    · cases h
  | .whl cc b, X, xa, W, g, sc, st, S, h => by
    unfold chkS at h
    split at h
    · obtain ⟨h1, h⟩ := b2 h
      obtain ⟨h2, h3⟩ := b2 h
      exact s_whl (S.pass h1) (okT cc S.s h2).1 (okSs b S h3)
    · cases h
  | .for_ p ci b, X, xa, W, g, sc, st, S, h => by
    unfold chkS at h
    split at h
    · rename_i tg it sa pos
      obtain ⟨h1, h⟩ := b2 h
      obtain ⟨h2, h⟩ := b2 h
      obtain ⟨h3, h⟩ := b2 h
      obtain ⟨h4, h5⟩ := b2 h
      exact s_for (S.pass h1) (S.s.calm h1) (okI ci (tg := tg) S.s h2) (okP S.s p h4) (okSs b S h5) h3
    · cases h
  | .ret ce, X, xa, W, g, sc, st, S, h => by
    unfold chkS at h
    split at h
    · exact s_ret (okE ce S.s h)
    · cases h
  | .retN, X, xa, W, g, sc, st, S, h => by
    unfold chkS at h
    split at h
    · exact s_retN
    · cases h
  | .raise c fs ca, X, xa, W, g, sc, st, S, h => by
    unfold chkS at h
    split at h
    · obtain ⟨h1, h⟩ := b2 h
      obtain ⟨h2, h⟩ := b2 h
      obtain ⟨h3, h⟩ := b2 h
      obtain ⟨h4, h5⟩ := b2 h
      obtain rfl := of_decide_eq_true h2
      obtain ⟨hd, hm, fI, k, T, hr⟩ := S.s.er h1 _ _ (of_decide_eq_true h4)
      exact s_raise (S.s.calm h1) T hr S.s.tk (okL ca S.s h5) (chkL_stars h5) (glB_ok S.s h3) hm hd
    · cases h
  | .try_ b c i s, X, xa, W, g, sc, st, S, h => by
    unfold chkS at h
    split at h
    · rename_i body x np n b₀ suite p1 p2
      obtain ⟨h1, h⟩ := b2 h
      obtain ⟨h2, h⟩ := b2 h
      obtain ⟨h3, h⟩ := b2 h
      obtain ⟨h4, h⟩ := b2 h
      obtain ⟨h5, h⟩ := b2 h
      obtain ⟨h6, h7⟩ := b2 h
      obtain rfl := of_decide_eq_true h4
      have hxa := S.s.xn h1
      subst hxa
      obtain ⟨v, u, c1, c2, c3⟩ := clsB_ok S.s h5
      refine s_try S.st.1 S.st.2 S.s.nd (nix S.s h2) ?_ c1 S.s.tk c3 (fun c' b e => S.s.ec _ _ _ e) (fun W' pn xe tk ps => ?_) (fun r oe pn hi su => ?_)
      · show X.env.scope.names.lookup n = _
        rw [S.s.names]; exact of_decide_eq_true h3
      · exact okSs b ⟨S.s.tr pn xe tk, fun _ => ps, S.st⟩ h6
      · exact okSs s ⟨S.s.suite r oe pn hi su, (fun z => by cases z), S.st⟩ h7
    · cases h
  | .brk, X, xa, W, g, sc, st, S, h => by
    unfold chkS at h
    split at h
    · exact s_brk
    · cases h
  | .cnt, X, xa, W, g, sc, st, S, h => by
    unfold chkS at h
    split at h
    · exact s_cnt
    · cases h
theorem okSs : ∀ (cs : CS) {X : Cx} {xa : Xa} {W : WX} {g : Gs} {sc : Sc} {sts : List Stmt}, StatS X xa W g sc → chkSs sc cs sts = true → Ss1 X xa W sts (exec g cs)
  | .skip, X, xa, W, g, sc, st, S, h => by
    unfold chkSs at h
    cases st with
    | nil => exact s_nil
    | cons => cases h
  | .seq a b, X, xa, W, g, sc, st, S, h => by
    unfold chkSs at h
    split at h
    · obtain ⟨h1, h2⟩ := b2 h
      exact s_cons (okS a S h1) (okSs b S h2)
    · cases h
  | .ex _, X, xa, W, g, sc, st, S, h => by unfold chkSs at h; cases h
  | .asg _ _, X, xa, W, g, sc, st, S, h => by unfold chkSs at h; cases h
  | .setI _ _ _, X, xa, W, g, sc, st, S, h => by unfold chkSs at h; cases h
  | .aug _ _ _, X, xa, W, g, sc, st, S, h => by unfold chkSs at h; cases h
  | .ifS _ _ _, X, xa, W, g, sc, st, S, h => by unfold chkSs at h; cases h
  | .whl _ _, X, xa, W, g, sc, st, S, h => by unfold chkSs at h; cases h
  | .for_ _ _ _, X, xa, W, g, sc, st, S, h => by unfold chkSs at h; cases h
  | .ret _, X, xa, W, g, sc, st, S, h => by unfold chkSs at h; cases h
  | .retN, X, xa, W, g, sc, st, S, h => by unfold chkSs at h; cases h
  | .raise _ _ _, X, xa, W, g, sc, st, S, h => by unfold chkSs at h; cases h
  | .try_ _ _ _ _, X, xa, W, g, sc, st, S, h => by unfold chkSs at h; cases h
  | .brk, X, xa, W, g, sc, st, S, h => by unfold chkSs at h; cases h
  | .cnt, X, xa, W, g, sc, st, S, h => by unfold chkSs at h; cases h
end
end Ly
end
section
set_option Elab.async false
set_option linter.all false
set_option maxRecDepth 100000
set_option maxHeartbeats 4000000
/-! Ly17: a table of defs keeps what the interpreter says; a law's end. -/
namespace Ly
open PySem PySem.Spec PyProof.Rows L2
/-- one def: its program, its text, how it is called by keywords -/
structure Fd where
  df : Df
  params : Arguments
  body : List Stmt
  scope : Scope
  ps : List Str
  kws : List (Nat × List Str × List Nat)
structure Md where
  fs : List Fd
  cs : List (Str × D)
  free : List Str
  cls : List Str
  flds : List Str
  errs : List (Str × List Str)
  T : SubT
def Md.P (m : Md) : List Df := m.fs.map (·.df)
def Fd.i (f : Fd) : FnI := ⟨f.df.name, f.ps, f.kws⟩
def Md.G (m : Md) : List (Str × GK) := (m.cs.map fun q => (q.1, .cst q.2)) ++ m.fs.zipIdx.map fun q => (q.1.df.name, .fn q.2 q.1.i)
def Md.sc (m : Md) (f : Fd) : Sc := ⟨f.df.N, f.scope.names, m.G, m.free, m.cls, m.flds, m.errs, true, none, fun _ => true⟩
def scB (N ps : List Str) (sc : Scope) : Bool :=
  decide (sc.kind = .function) && (!sc.isCoroutine && (!sc.isGenerator && (decide N.Nodup && (decide (N.take ps.length = ps) && ((ps.all fun x => decide (sc.names.lookup x = some .local) || decide (sc.names.lookup x = some .cell)) && sc.names.all fun y => !decide (y.2 = .free))))))
theorem scB_ok {N ps : List Str} {sc : Scope} (h : scB N ps sc = true) : FnScope N ps sc := by
  unfold scB at h
  simp only [Bool.and_eq_true, List.all_eq_true, decide_eq_true_eq, Bool.or_eq_true, Bool.not_eq_true', decide_eq_false_iff_not] at h
  obtain ⟨h1, h2, h3, h4, h5, h6, h7⟩ := h
  exact ⟨h1, h2, h3, h4, h5, h6, h7⟩
def Md.okF (m : Md) (f : Fd) : Bool := chkSs (m.sc f) f.df.body f.body && (scB f.df.N f.ps f.scope && decide (f.ps.length = f.df.np))
def Md.ok (m : Md) : Bool := m.fs.all m.okF
structure MdOk (K : PySem.W.Frag) (mg : Str → Option Value) (prog : Program) (m : Md) : Prop where
  fn : ∀ f ∈ m.fs, mg f.df.name = some (.ref (He.ga K f.df.name)) ∧ ∃ fd, FunD K f.df.name f.df.name f.params f.body f.scope [] [] (He.ga K f.df.name) fd ∧ Binds K fd f.ps [] ∧ ∀ q ∈ f.kws, KwOk K fd f.ps q.1 q.2.1 q.2.2
  cst : ∀ q ∈ m.cs, ∃ v u, mg q.1 = some u ∧ RelV v u ∧ ∀ ρ H, RepV K none ρ H q.2 v
  free : ∀ x ∈ m.free, mg x = none
  cl : ∀ x ∈ m.cls, (x == ("__debug__" : Str)) = false ∧ ∃ v u, ClM mg x v u ∧ TabC K m.T x u ∧ ∀ c' b, subOf m.T c' x = some b → PySem.W.exmOne K (.ref (He.ga K c')) u = some b
  ec : ∀ c' x b, subOf m.T c' x = some b → EcOk K c'
  fl : ∀ f ∈ m.flds, ∀ c' x b, subOf m.T c' x = some b → PySem.W.findIn K (.ref (He.ga K c')) f = some none
  er : ∀ x fs, (x, fs) ∈ m.errs → (x == ("__debug__" : Str)) = false ∧ mg x = some (.ref (He.ga K x)) ∧ ∃ fI, LyE.SupT K mg prog (He.ga K x) fI fs
theorem lookup_mem {α β : Type} [BEq α] [LawfulBEq α] {l : List (α × β)} {x : α} {v : β} (h : l.lookup x = some v) : (x, v) ∈ l := by
  induction l with
  | nil => cases h
  | cons p r ih =>
    obtain ⟨a, b⟩ := p
    by_cases e : (x == a) = true
    · simp [List.lookup, e] at h
      subst h
      rw [eq_of_beq e]
      exact List.mem_cons_self ..
    · have e' : (x == a) = false := by simpa using e
      simp [List.lookup, e'] at h
      exact List.mem_cons_of_mem _ (ih h)
theorem G_cst {m : Md} {x : Str} {d : D} (h : m.G.lookup x = some (.cst d)) : (x, d) ∈ m.cs := by
  have z := lookup_mem h
  unfold Md.G at z
  rcases List.mem_append.mp z with z | z
  · obtain ⟨q, hq, e⟩ := List.mem_map.mp z
    cases e
    exact hq
  · obtain ⟨q, hq, e⟩ := List.mem_map.mp z
    cases e
theorem G_fn {m : Md} {x : Str} {f : Nat} {i : FnI} (h : m.G.lookup x = some (.fn f i)) : ∃ d : Fd, m.fs[f]? = some d ∧ d.df.name = x ∧ i = d.i := by
  have z := lookup_mem h
  unfold Md.G at z
  rcases List.mem_append.mp z with z | z
  · obtain ⟨q, hq, e⟩ := List.mem_map.mp z
    cases e
  · obtain ⟨q, hq, e⟩ := List.mem_map.mp z
    cases e
    exact ⟨q.1, List.mk_mem_zipIdx_iff_getElem?.mp hq, rfl, rfl⟩
theorem callN_len {m : Md} (hm : m.ok = true) (n f : Nat) (d : Fd) (hf : m.fs[f]? = some d) (ds : List D) (h : AH) (hl : ds.length ≠ d.ps.length) : callN m.T m.P n f ds h = .bad := by
  cases n with
  | zero => rfl
  | succ n =>
    have hd := List.all_eq_true.mp hm d (List.mem_of_getElem? hf)
    obtain ⟨_, hd⟩ := b2 hd
    obtain ⟨_, hd⟩ := b2 hd
    have hd := of_decide_eq_true hd
    have e : m.P[f]? = some d.df := by unfold Md.P; rw [List.getElem?_map, hf]; rfl
    unfold callN
    rw [e]
    show (if ds.length = d.df.np then _ else R.bad) = R.bad
    rw [if_neg (by rw [← hd]; exact hl)]
section
variable {P : Program} {w : World} {K : PySem.W.Frag} {mg : Str → Option Value} {base : Heap} {m : Md}
theorem fnOk (M : MdOk K mg P m) (hm : m.ok = true) : ∀ (n f : Nat) (d : Fd) (fd : FuncData), m.fs[f]? = some d → FunD K d.df.name d.df.name d.params d.body d.scope [] [] (He.ga K d.df.name) fd →
    FnG P w K mg base (L2.CX P w) n (He.ga K d.df.name) fd d.ps (spF K d.ps.length (callN m.T m.P n f)) := by
  intro n
  induction n with
  | zero =>
    intro f d fd hf F
    refine ⟨fun h => spF_len h, fun hr he hb hv h => ?_⟩
    obtain ⟨_, _, _, _, _, _, p⟩ := h
    exact p.elim
  | succ n ih =>
    intro f d fd hf F
    have hd := List.all_eq_true.mp hm d (List.mem_of_getElem? hf)
    obtain ⟨hc, hd⟩ := b2 hd
    obtain ⟨hs, hnp⟩ := b2 hd
    have hnp := of_decide_eq_true hnp
    have S := scB_ok hs
    refine fn_ofG F S (fun h => spF_len h) fun cdv A outer s H vs Q E hr h => ?_
    refine ⟨semS K none (fun c dd _ H' => E c dd H') (exec ⟨callN m.T m.P n, m.T, none⟩ d.df.body), okSs d.df.body (sc := m.sc d) ⟨?_, fun _ => passes_of rfl, rfl, rfl⟩ hc, ?_⟩
    · exact {
        nd := S.nd
        N := rfl
        names := rfl
        kind := S.kind
        fns := fun _ _ => rfl
        gc := fun x dd e => M.cst _ (G_cst e)
        gf := fun _ x f' i e => by
          obtain ⟨d', h1, h2, rfl⟩ := G_fn e
          obtain ⟨hmg, fd', F', hb, hk⟩ := M.fn d' (List.mem_of_getElem? h1)
          exact ⟨h2, ⟨hmg, F'.kp, n, fd', hr, ih f' d' fd' h1 F', hb, hk⟩, fun ds h hl => callN_len hm n f' d' h1 ds h hl⟩
        free := M.free
        un := by
          have := hr.r.un
          show (A.deeper (envOfC d.df.name d.scope s.heap.objs.size (He.ga K d.df.name) cdv)).units + 65 < cLine
          omega
        gd := hr.g
        calm := fun _ => rfl
        xn := fun _ => rfl
        tk := takes_of rfl rfl rfl rfl
        su := suiteOk_none
        ex := rfl
        ei := fun r hr => by cases hr
        cl := M.cl
        ec := M.ec
        fl := M.fl
        er := fun _ x fs hx => by
          obtain ⟨h1, h2, fI, T⟩ := M.er x fs hx
          exact ⟨h1, h2, fI, n, T, hr.r⟩ }
    · obtain ⟨ρ, ds, h0, hl, rh, rv, p⟩ := h
      refine ⟨ρ, startD d.df.N.length ds, h0, ?_, rh, ?_⟩
      · unfold startD L2.start
        rw [← rv.length]
        exact Rel.start _ rv
      · have e : m.P[f]? = some d.df := by unfold Md.P; rw [List.getElem?_map, hf]; rfl
        have e2 : callN m.T m.P (n + 1) f ds h0 = endS (exec ⟨callN m.T m.P n, m.T, none⟩ d.df.body (startD d.df.N.length ds) h0) := by
          show (match m.P[f]? with
            | some d => if ds.length = d.np then endS (exec ⟨callN m.T m.P n, m.T, none⟩ d.body (startD d.N.length ds) h0) else .bad
            | none => .bad) = _
          rw [e]
          show (if ds.length = d.df.np then _ else R.bad) = _
          rw [if_pos (by rw [← hnp]; exact hl)]
        rw [e2] at p
        cases z : exec ⟨callN m.T m.P n, m.T, none⟩ d.df.body (startD d.df.N.length ds) h0 with
        | nx σ h1 =>
          rw [z] at p
          exact fun ρ1 H1 σ' q1 e1 rh1 rl1 => p ρ1 H1 .non q1 e1 rh1 .non
        | rt v h1 =>
          rw [z] at p
          exact fun ρ1 H1 v1 q1 e1 rh1 rv1 => p ρ1 H1 v1 q1 e1 rh1 rv1
        | exc c fs vs σ h1 =>
          rw [z] at p
          exact fun ρ1 H1 σ' dd xs q1 e1 rh1 rl1 h2 h3 h4 => p ρ1 H1 dd xs q1 e1 rh1 h2 h3 h4
        | bk => rw [z] at p; exact p.elim
        | ct => rw [z] at p; exact p.elim
        | bad => rw [z] at p; exact p.elim
end
/-! ### the law's end -/
theorem rep_ints {K : PySem.W.Frag} {ρ : List Addr} {H : Hp} : ∀ (ns : List Int), RepVs K none ρ H (ns.map D.int) (ns.map V.int)
  | [] => .nil
  | n :: ns => .cons (.int n) (rep_ints ns)
theorem law_sp {K : PySem.W.Frag} {c : List D → AH → R D} {H : Hp} {a : Addr} {ns : List Int} (ho : Only H) (hs : SqL K H a (ns.map V.int)) {h' : AH} (hc : c [.rol (ns.map D.int)] [] = .ok (.bl true) h') : spF K 1 c [.ref a] H (fun v _ => v = .bl true) fun _ _ _ => False := by
  refine ⟨[], [.rol (ns.map D.int)], [], rfl, ⟨rfl, .nil, fun n ao hn => by simp at hn⟩, .one (.rol ?_ (rep_ints ns)), ?_⟩
  · rcases hs with (hs | ⟨o, hs⟩) | hs
    · rcases ho a with h | ⟨o, xs, h⟩
      · rw [h] at hs; cases hs
      · rw [h] at hs; cases hs
    · exact .inl ⟨o, hs⟩
    · exact .inr hs
  · rw [hc]
    intro ρ1 H1 v q e rh rv
    cases rv
    rfl
theorem cx_none {P : Program} {w : World} (H : Hp) (s : Shared) (e : Value) (s' : Shared) (h : L2.CX P w [] H s (fun _ _ _ => False) e s') : False := by
  obtain ⟨_, _, _, _, _, _, _, _, _, _, _, _, z⟩ := h
  exact z
end Ly
end
section
set_option Elab.async false
set_option linter.all false
set_option maxRecDepth 100000
set_option maxHeartbeats 4000000
/-! Ly18: a head's Hook with what Ly wants of the written part. -/
namespace Ly
open PySem PySem.Spec PyProof.Rows L2
/-! ### constants -/
mutual
def repB (K : PySem.W.Frag) : D → Value → Bool
  | .non, u => (match u with
    | .none => true
    | _ => false)
  | .bl b, u => (match u with
    | .bool c => b == c
    | _ => false)
  | .int i, u => (match u with
    | .int j _ => decide (i = j)
    | _ => false)
  | .str x, u => (match u with
    | .str y _ => decide (x = y)
    | _ => false)
  | .tup ds, u => (match u with
    | .ref a => (match K.lookup a with
      | some ⟨.type c, _, .seq its _, _⟩ => decide (c = "tuple") && (decide (its.size ≤ sizeLine) && repBs K ds its.toList)
      | _ => false)
    | _ => false)
  | .rol ds, u => (match u with
    | .ref a => (match K.lookup a with
      | some ⟨.type c, none, .seq its _, _⟩ => decide (c = "list") && (decide (its.size ≤ sizeLine) && repBs K ds its.toList)
      | _ => false)
    | _ => false)
  | .ref _, _ => false
  | .it _ _, _ => false
def repBs (K : PySem.W.Frag) : List D → List Value → Bool
  | [], us => us.isEmpty
  | d :: ds, us => (match us with
    | u :: us => repB K d u && repBs K ds us
    | [] => false)
end
mutual
theorem repB_ok {K : PySem.W.Frag} : ∀ (d : D) {u : Value}, repB K d u = true → ∃ v, RelV v u ∧ ∀ ρ H, RepV K none ρ H d v
  | .non, u, h => by
    cases u <;> first | exact ⟨.non, rfl, fun _ _ => .non⟩ | (unfold repB at h; cases h)
  | .bl b, u, h => by
    unfold repB at h
    cases u <;> first | (cases h; done) | (rename_i c; obtain rfl : b = c := eq_of_beq h; exact ⟨.bl b, rfl, fun _ _ => .bl _⟩)
  | .int i, u, h => by
    unfold repB at h
    cases u <;> first | (cases h; done) | (rename_i j t; obtain rfl : i = j := of_decide_eq_true h; exact ⟨.int i, ⟨t, rfl⟩, fun _ _ => .int _⟩)
  | .str i, u, h => by
    unfold repB at h
    cases u <;> first | (cases h; done) | (rename_i j t; obtain rfl : i = j := of_decide_eq_true h; exact ⟨.str i, ⟨t, rfl⟩, fun _ _ => .str _⟩)
  | .tup ds, u, h => by
    unfold repB at h
    split at h
    · rename_i a
      split at h
      · rename_i c dd its n sl hl
        obtain ⟨h1, h⟩ := b2 h
        obtain ⟨h2, h3⟩ := b2 h
        obtain ⟨vs, r, q⟩ := repBs_ok ds h3
        exact ⟨.ref a, rfl, fun ρ H => .tup (.inr ⟨_, its, n, hl, congrArg Value.type (of_decide_eq_true h1), rfl, of_decide_eq_true h2, r⟩) (q ρ H)⟩
      · cases h
    · cases h
  | .rol ds, u, h => by
    unfold repB at h
    split at h
    · rename_i a
      split at h
      · rename_i c its n sl hl
        obtain ⟨h1, h⟩ := b2 h
        obtain ⟨h2, h3⟩ := b2 h
        obtain ⟨vs, r, q⟩ := repBs_ok ds h3
        exact ⟨.ref a, rfl, fun ρ H => .rol (.inr ⟨_, its, n, hl, congrArg Value.type (of_decide_eq_true h1), rfl, rfl, of_decide_eq_true h2, r⟩) (q ρ H)⟩
      · cases h
    · cases h
  | .ref _, u, h => by unfold repB at h; cases h
  | .it _ _, u, h => by unfold repB at h; cases h
theorem repBs_ok {K : PySem.W.Frag} : ∀ (ds : List D) {us : List Value}, repBs K ds us = true → ∃ vs, Vals vs us ∧ ∀ ρ H, RepVs K none ρ H ds vs
  | [], us, h => by
    unfold repBs at h
    cases us with
    | nil => exact ⟨[], .nil, fun _ _ => .nil⟩
    | cons => cases h
  | d :: ds, us, h => by
    unfold repBs at h
    cases us with
    | nil => cases h
    | cons u us =>
      obtain ⟨h1, h2⟩ := b2 h
      obtain ⟨v, a, b⟩ := repB_ok d h1
      obtain ⟨vs, c, e⟩ := repBs_ok ds h2
      exact ⟨v :: vs, .cons a c, fun ρ H => .cons (b ρ H) (e ρ H)⟩
end
def cstOk (K : PySem.W.Frag) (q : Str × D) : Bool := match PySem.W.nsIn K mainGlobals q.1 with
  | some (some u) => repB K q.2 u
  | _ => false
/-! ### classes -/
def bltCls (x : Str) : Bool := decide (x = "ValueError")
def clU (K : PySem.W.Frag) (x : Str) : Value := if bltCls x = true then .type "ValueError" else .ref (He.ga K x)
def clOk (K : PySem.W.Frag) (x : Str) : Bool := !(x == ("__debug__" : Str)) && (if bltCls x = true then He.eqO (PySem.W.nsIn K mainGlobals x) (some none) else He.eqO (PySem.W.nsIn K mainGlobals x) (some (some (.ref (He.ga K x)))))
def tabOk (K : PySem.W.Frag) (q : Str × Str × Bool) : Bool := decide (PySem.W.kitOne K (.ref (He.ga K q.1)) (clU K q.2.1) = some q.2.2) && decide (PySem.W.exmOne K (.ref (He.ga K q.1)) (clU K q.2.1) = some q.2.2)
def ecB (K : PySem.W.Frag) (c : Str) : Bool :=
  decide (PySem.W.findIn K (.ref (He.ga K c)) "__getattribute__" = some (some (.builtin "BaseException.__getattribute__"))) && (decide (PySem.W.findIn K (.ref (He.ga K c)) "__getattr__" = some none) && (decide (PySem.W.subIn K (.ref (He.ga K c)) (.type "BaseException") = some true) && (PySem.W.hasDictIn K (He.ga K c) &&
    (decide (PySem.W.findIn K (.ref (He.ga K c)) "__class__" = some (some (.builtin "object.__class__"))) && (decide (PySem.W.specialIn K (.builtin "object.__class__") "__get__" = some (some (.builtin "getset_descriptor.__get__"))) && (decide (PySem.W.takesIn K (.builtin "object.__class__") = some true) && decide (PySem.W.mroIn K (He.ga K c) (.type "object") = some true)))))))
theorem ecB_ok {K : PySem.W.Frag} {c : Str} (h : ecB K c = true) : EcOk K c := by
  unfold ecB at h
  simp only [Bool.and_eq_true, decide_eq_true_eq] at h
  obtain ⟨h1, h2, h3, h4, h5, h6, h7, h8⟩ := h
  exact ⟨⟨h1, h2, h3, h4, h5, h6, h7, h8⟩, ⟨h1, h2, h3, h4⟩⟩
/-! ### an error's __init__ -/
structure IniD where
  cls : Str
  fs : List Str
  qual : Str
  params : Arguments
  body : List Stmt
  scope : Scope
abbrev IniW : Type := Option (Str × Str × Arguments × FuncBody × Scope × Addr × Addr)
def iniW (K : PySem.W.Frag) (c : Str) : IniW := match K.lookup (He.ma K (He.ga K c) "__init__") with
  | some ⟨_, _, .func fd, _⟩ => some (fd.name, fd.qualname, fd.params, fd.body, fd.scope, fd.globals, fd.builtins)
  | _ => none
def IniD.val (d : IniD) : IniW := some ("__init__", d.qual, d.params, .stmts d.body, d.scope, mainGlobals, builtinsNs)
def oexB (K : PySem.W.Frag) (C : Addr) : Bool := (match K.lookup C with
  | some ⟨.type t, _, .cls cd, sl⟩ => decide (t = "type") && (match cd.mro, sl.toList with
    | .ref C' :: bm, [_, _, _, _, some (.builtin n), _] => decide (C' = C) && (decide (n = "ValueError.__new__") && (!cd.hasDel && (cd.hasDict && PySem.HandSPX.refsVE bm)))
    | _, _ => false)
  | _ => false) && (decide (PySem.W.findIn K (.ref C) "__setattr__" = some (some (.builtin "object.__setattr__"))) && (decide (PySem.W.subIn K (.ref C) (.type "BaseException") = some true) && (decide (PySem.W.typeIn K (.ref C) = some (.type "type")) && PySem.W.keepIn K (.ref C))))
theorem oexB_ok {K : PySem.W.Frag} {C : Addr} (h : oexB K C = true) : OexC K C := by
  unfold oexB at h
  obtain ⟨h1, h⟩ := b2 h
  obtain ⟨h2, h⟩ := b2 h
  obtain ⟨h3, h⟩ := b2 h
  obtain ⟨h4, h5⟩ := b2 h
  refine ⟨?_, of_decide_eq_true h2, of_decide_eq_true h3, of_decide_eq_true h4, h5⟩
  split at h1
  · rename_i t dd cd sl hl
    obtain ⟨k1, k⟩ := b2 h1
    have e1 : t = "type" := of_decide_eq_true k1
    subst e1
    split at k
    · rename_i C' bm k0 k1 k2 k3 n k5 hm hs
      obtain ⟨q1, k⟩ := b2 k
      obtain ⟨q2, k⟩ := b2 k
      obtain ⟨q3, k⟩ := b2 k
      obtain ⟨q4, q5⟩ := b2 k
      have e2 : C' = C := of_decide_eq_true q1
      have e3 : n = "ValueError.__new__" := of_decide_eq_true q2
      subst e2 e3
      obtain ⟨nm, bs, mro, ns, qn, hd, sn, sub, ab, col, del⟩ := cd
      dsimp only at hm q3 q4
      subst hm q4
      have e4 : del = false := by simpa using q3
      subst e4
      have e5 : sl = #[k0, k1, k2, k3, some (.builtin "ValueError.__new__"), k5] := by
        have := congrArg List.toArray hs
        simpa using this
      subst e5
      exact ⟨nm, qn, ns, bs, bm, sn, sub, ab, col, dd, k0, k1, k2, k3, k5, hl, q5⟩
    · cases k
  · cases h1
/-- file: the program's -/
def iniB (K : PySem.W.Frag) (file : Str) (d : IniD) : Bool :=
  oexB K (He.ga K d.cls) && ((d.fs.all fun f => decide (PySem.W.findIn K (.ref (He.ga K d.cls)) f = some none)) && (decide (PySem.W.findIn K (.ref (He.ga K d.cls)) "__init__" = some (some (.ref (He.ma K (He.ga K d.cls) "__init__")))) && (decide (PySem.W.typeIn K (.ref (He.ma K (He.ga K d.cls) "__init__")) = some (.type "function")) &&
    (decide (PySem.W.subIn K (.ref (He.ga K d.cls)) (.type "ValueError") = some true) && (decide (PySem.W.mroIn K (He.ga K d.cls) (.ref (He.ga K d.cls)) = some true) && (decide (PySem.W.ks_superIn K (He.ga K d.cls) (He.ga K d.cls) "__init__" = some (some (.builtin "ValueError.__init__"))) &&
      (decide (PySem.W.nsIn K cStatics "thirdparty.any" = some none) && (He.eqO (PySem.W.nsIn K mainGlobals "super") (some none) && (He.eqO (PySem.W.nsIn K mainGlobals d.cls) (some (some (.ref (He.ga K d.cls)))) && (!(d.cls == ("__debug__" : Str)) &&
        (match K.lookup (He.ma K (He.ga K d.cls) "__init__") with
        | some ⟨_, _, .func fd, _⟩ => PySem.W.codeIn K fd.code d.qual && ((match fd.defaults with
          | .none => true
          | _ => false) && ((match fd.code with
          | .ref cda => (match K.lookup cda with
            | some ⟨_, _, .fields vs, _⟩ => (match (vs[2]? : Option Value) with
              | some (.str f _) => file == f
              | _ => false)
            | _ => false)
          | _ => false) && (match fd.closure with
          | [(n, cc)] => decide (n = "__class__") && (match K.lookup cc with
            | some ⟨_, _, .cell (some (.ref D)), _⟩ => decide (D = He.ga K d.cls)
            | _ => false)
          | _ => false)))
        | _ => false)))))))))))
/-- what the text of such an __init__ says -/
structure IniOk (d : IniD) : Prop where
  sm : d.fs.length ≤ 2
  nz : d.fs ≠ []
  tx : ∃ (ns : List (Str × NameKind)) (mo : List (Str × Const)) (ar : Arg) (es : List Expr) (ss : List Stmt) (p0 p1 p2 p3 p4 : Pos),
    d.scope = { kind := .function, names := ns, isGenerator := false, isCoroutine := false, more := mo } ∧ d.body = .Expr (.Call (.Attribute (.Call (.Name "super" p0) [] [] p1) "__init__" p2) es [] p3) p4 :: ss ∧
    (p2.endLine == p3.line) = true ∧ (d.params.posonlyargs ++ d.params.args).head? = some ar ∧ ar.arg = "self" ∧ LyE.NArgs es d.fs ∧ LyE.NStores ss d.fs ∧
    (∀ x ∈ ns, x.2 ≠ .cell) ∧ ns.lookup ("self" : Str) = some .local ∧ (∀ f ∈ d.fs, ns.lookup f = some .local) ∧ ns.lookup ("super" : Str) = some .globalImplicit ∧ ns.lookup ("__class__" : Str) = some .free
  bd : ∀ (s : Shared) (x : Value) (us : List Value) (kv doc pm cdv ct : Value) (an : Option Addr) (cc : Addr), us.length = d.fs.length → BindsTo s (PySem.W.ksFn "__init__" d.qual d.params d.body d.scope .none kv doc pm an cdv ct cc) ⟨x :: us, []⟩ ((("self" : Str), x) :: d.fs.zip us)
  lk : ∀ (x : Value) (us : List Value), us.length = d.fs.length → List.lookup ("self" : Str) ((("self" : Str), x) :: d.fs.zip us).reverse = some x ∧ LyE.Holds (fun y => List.lookup y ((("self" : Str), x) :: d.fs.zip us).reverse) d.fs us
theorem iniB_ok {K : PySem.W.Frag} {h : Heap} {mg : Str → Option Value} {prog : Program} {d : IniD} (X : K.In h) (G : h.Ns mainGlobals mg) (hb : iniB K prog.main.file d = true) (e : iniW K d.cls = d.val) (ok : IniOk d) (top : (prog.main.scope.names.lookup ("super" : Str)).isSome = false) :
    (d.cls == ("__debug__" : Str)) = false ∧ mg d.cls = some (.ref (He.ga K d.cls)) ∧ ∃ fI, LyE.SupT K mg prog (He.ga K d.cls) fI d.fs := by
  unfold iniB at hb
  obtain ⟨h1, hb⟩ := b2 hb
  obtain ⟨h2, hb⟩ := b2 hb
  obtain ⟨h3, hb⟩ := b2 hb
  obtain ⟨h4, hb⟩ := b2 hb
  obtain ⟨h5, hb⟩ := b2 hb
  obtain ⟨h6, hb⟩ := b2 hb
  obtain ⟨h7, hb⟩ := b2 hb
  obtain ⟨h8, hb⟩ := b2 hb
  obtain ⟨h9, hb⟩ := b2 hb
  obtain ⟨h10, hb⟩ := b2 hb
  obtain ⟨h11, hb⟩ := b2 hb
  refine ⟨by simpa using h11, PySem.W.mg_of X G (He.eqO_ok h10), He.ma K (He.ga K d.cls) "__init__", ?_⟩
  refine { ox := oexB_ok h1, no := fun f hf => of_decide_eq_true (List.all_eq_true.mp h2 f hf), iC := of_decide_eq_true h3, tI := of_decide_eq_true h4, ve := of_decide_eq_true h5, mr := of_decide_eq_true h6, su := of_decide_eq_true h7, op := of_decide_eq_true h8, sg := PySem.W.mg_none_of X G (He.eqO_ok h9), top := top, sm := ok.sm, nz := ok.nz, fn := ?_ }
  unfold iniW at e
  cases q : K.lookup (He.ma K (He.ga K d.cls) "__init__") with
  | none => rw [q] at hb; cases hb
  | some o =>
    obtain ⟨oc, od, dt, osl⟩ := o
    rw [q] at hb e
    cases dt with
    | func fd =>
      obtain ⟨n1, n2, n3, n4, n5, n6, n7, n8, n9, n10, n11, n12, n13, n14, n15⟩ := fd
      have e2 : (some (n1, n2, n3, n4, n5, n6, n15) : IniW) = some (PySem.Str.ofString "__init__", d.qual, d.params, .stmts d.body, d.scope, mainGlobals, builtinsNs) := e
      simp only [Option.some.injEq, Prod.mk.injEq] at e2
      obtain ⟨r1, r2, r3, r4, r5, r6, r7⟩ := e2
      subst r1 r2 r3 r4 r5 r6 r7
      obtain ⟨c1, hb⟩ := b2 hb
      obtain ⟨c0, hb⟩ := b2 hb
      obtain ⟨c2, c3⟩ := b2 hb
      dsimp only at c0 c1 c2 c3
      have c0' : n8 = .none := by
        split at c0
        · rfl
        · cases c0
      subst c0'
      cases n13 with
      | ref cda =>
        dsimp only at c2
        split at c2
        · rename_i ccl cdd vs ccs hcda
          split at c2
          · rename_i f tf hvs
            cases n7 with
            | nil => cases c3
            | cons pr r =>
              obtain ⟨n, cc⟩ := pr
              cases r with
              | cons => cases c3
              | nil =>
                obtain ⟨d1, d2⟩ := b2 c3
                have en : n = PySem.Str.ofString "__class__" := of_decide_eq_true d1
                subst en
                split at d2
                · rename_i cl cld D csl hcc
                  have eD : D = He.ga K d.cls := of_decide_eq_true d2
                  subst eD
                  obtain ⟨ns, mo, ar, es, ss, p0, p1, p2, p3, p4, s1, s2, s3, s4, s5, s6, s7, s8, s9, s10, s11, s12⟩ := ok.tx
                  refine ⟨oc, n14, n10, n11, ccl, cl, od, cdd, cld, n12, osl, ccs, csl, cda, cc, d.qual, f, tf, vs, d.params, ns, mo, ar, es, ss, p0, p1, p2, p3, p4, .none, n9, ?_, c1, hcda, hvs, c2, hcc, s3, s4, s5, s6, s7, ?_, s8, s9, s10, s11, s12, ok.lk⟩
                  · rw [← s1, ← s2]
                  · intro s x us hu
                    rw [← s1, ← s2]
                    exact ok.bd s x us _ _ _ _ _ _ _ hu
                · cases d2
          · cases c2
        · cases c2
      | _ => cases c1
    | _ => cases hb
/-! ### the Hook -/
def asY (g : Addr → Option Obj) : Nat → List Addr
  | 0 => [mainGlobals, cStatics]
  | n + 1 => He.growD g (asY g n)
abbrev AlY : Type := Bool × List He.FnW × List IniW
structure Hk where
  m : Md
  file : Str
  ini : List IniD
def Fd.dd (f : Fd) : He.DefD := ⟨(f.df.name, none), f.df.name, f.df.name, f.params, f.body, f.scope, [], []⟩
def boolY (k : Hk) (K : PySem.W.Frag) : Bool :=
  (k.m.fs.all fun f => f.dd.ok K && (He.Fa.glo f.df.name).ok K) && ((k.m.cs.all fun q => cstOk K q) && ((k.m.free.all fun x => (He.Fa.free x).ok K) && ((k.m.cls.all fun x => clOk K x) && ((k.m.T.all fun q => tabOk K q && ecB K q.1) && ((k.m.flds.all fun f => k.m.T.all fun q => decide (PySem.W.findIn K (.ref (He.ga K q.1)) f = some none)) && k.ini.all fun d => iniB K k.file d)))))
def obsY (k : Hk) (K : PySem.W.Frag) : AlY := (boolY k K, k.m.fs.map (fun f => He.fnW K (f.df.name, none)), k.ini.map fun d => iniW K d.cls)
def valY (k : Hk) : AlY := (true, k.m.fs.map (fun f => f.dd.val), k.ini.map IniD.val)
def hookY (n : Nat) (k : Hk) : PySem.W.Hook where
  α := AlY
  obs := fun s => obsY k (He.frG s.heap.get? (asY s.heap.get? n))
  val := fun _ => valY k
  says := fun _ h => ∃ K : PySem.W.Frag, K.In h ∧ obsY k K = valY k
  of := fun _ _ e => ⟨_, He.frG_in, e⟩
  keeps := fun _ _ _ ⟨K, hK, c⟩ kk => ⟨K, PySem.W.Frag.In.keeps hK kk, c⟩
def obY (n : Nat) (k : Hk) (s : PySem.W.SharedT) : AlY := obsY k (He.frG (HandSHeadRun.getT s) (asY (HandSHeadRun.getT s) n))
theorem obY_eq (n : Nat) (k : Hk) (s : PySem.W.SharedT) : obY n k s = (hookY n k).obs s.abs := by
  have e : HandSHeadRun.getT s = s.abs.heap.get? := funext (HandSHeadRun.getT_eq s)
  unfold obY
  rw [e] <;> rfl
/-- how the defs bind -/
structure BdOk (f : Fd) : Prop where
  b : ∀ (kV doc pm : Value) (an : Option Addr) (cdv ct : Value) (us : List Value), us.length = f.ps.length → bindArgs (PySem.W.fnOf f.df.name f.df.name f.params f.body f.scope .none kV doc pm an cdv ct) ⟨us, []⟩ = pure (f.ps.zip us)
  k : ∀ q ∈ f.kws, ∀ (kV doc pm : Value) (an : Option Addr) (cdv ct : Value) (us ws : List Value), us.length = q.1 → ws.length = q.2.1.length → bindArgs (PySem.W.fnOf f.df.name f.df.name f.params f.body f.scope .none kV doc pm an cdv ct) ⟨us, q.2.1.zip ws⟩ = pure (f.ps.zip (permG q.2.2 (us ++ ws)))
theorem all_get {α β : Type} {l : List α} {f g : α → β} (h : l.map f = l.map g) {x : α} (hx : x ∈ l) : f x = g x := by
  induction l with
  | nil => cases hx
  | cons a r ih =>
    obtain ⟨h1, h2⟩ := List.cons.inj h
    rcases List.mem_cons.mp hx with rfl | hx
    · exact h1
    · exact ih h2 hx
theorem mdOk {K : PySem.W.Frag} {h : Heap} {mg : Str → Option Value} {prog : Program} {k : Hk} (X : K.In h) (G : h.Ns mainGlobals mg) (c : obsY k K = valY k) (hfile : k.file = prog.main.file) (top : (prog.main.scope.names.lookup ("super" : Str)).isSome = false)
    (bd : ∀ f ∈ k.m.fs, BdOk f) (io : ∀ d ∈ k.ini, IniOk d) (ie : ∀ x fs, (x, fs) ∈ k.m.errs → ∃ d ∈ k.ini, d.cls = x ∧ d.fs = fs) : MdOk K mg prog k.m ∧ ∀ f ∈ k.m.fs, ∃ fd, FunD K f.df.name f.df.name f.params f.body f.scope [] [] (He.ga K f.df.name) fd := by
  have c1 : boolY k K = true := congrArg (fun z : AlY => z.1) c
  have c2 : k.m.fs.map (fun f => He.fnW K (f.df.name, none)) = k.m.fs.map (fun f => f.dd.val) := congrArg (fun z : AlY => z.2.1) c
  have c3 : k.ini.map (fun d => iniW K d.cls) = k.ini.map IniD.val := congrArg (fun z : AlY => z.2.2) c
  unfold boolY at c1
  obtain ⟨d1, c1⟩ := b2 c1
  obtain ⟨d2, c1⟩ := b2 c1
  obtain ⟨d3, c1⟩ := b2 c1
  obtain ⟨d4, c1⟩ := b2 c1
  obtain ⟨d5, c1⟩ := b2 c1
  obtain ⟨d6, d7⟩ := b2 c1
  have tab : ∀ c' x b, subOf k.m.T c' x = some b → tabOk K (c', x, b) = true ∧ ecB K c' = true ∧ ∀ f ∈ k.m.flds, PySem.W.findIn K (.ref (He.ga K c')) f = some none := fun c' x b e => by
    unfold subOf at e
    cases z : k.m.T.find? (fun p => decide (p.1 = c') && decide (p.2.1 = x)) with
    | none => rw [z] at e; cases e
    | some q =>
      rw [z] at e
      obtain ⟨q1, q2, q3⟩ := q
      have e3 : q3 = b := Option.some.inj e
      have hm := List.mem_of_find?_eq_some z
      have hp := List.find?_some z
      obtain ⟨p1, p2⟩ := b2 hp
      have e1 : q1 = c' := of_decide_eq_true p1
      have e2 : q2 = x := of_decide_eq_true p2
      subst e1 e2 e3
      obtain ⟨t1, t2⟩ := b2 (List.all_eq_true.mp d5 _ hm)
      exact ⟨t1, t2, fun f hf => of_decide_eq_true (List.all_eq_true.mp (List.all_eq_true.mp d6 f hf) _ hm)⟩
  have fun_ : ∀ f ∈ k.m.fs, ∃ fd, FunD K f.df.name f.df.name f.params f.body f.scope [] [] (He.ga K f.df.name) fd := fun f hf => by
    obtain ⟨t1, t2⟩ := b2 (List.all_eq_true.mp d1 f hf)
    exact He.DefD.funD (d := f.dd) (all_get c2 hf) t1
  refine ⟨{ fn := fun f hf => ?_, cst := fun q hq => ?_, free := fun x hx => He.free_ok X G (List.all_eq_true.mp d3 x hx), cl := fun x hx => ?_, ec := fun c' x b e => ecB_ok (tab c' x b e).2.1, fl := fun f hf c' x b e => (tab c' x b e).2.2 f hf, er := fun x fs hx => ?_ }, fun_⟩
  · obtain ⟨t1, t2⟩ := b2 (List.all_eq_true.mp d1 f hf)
    obtain ⟨fd, F⟩ := fun_ f hf
    refine ⟨He.glo_ok X G t2, fd, F, F.bindsN (bd f hf).b, fun q hq => ?_⟩
    obtain ⟨oc, od, dV, kV, doc, pm, an, cdv, ct, osl, rfl, lk, hcd, hD, hK⟩ := F.ex
    rcases hD with ⟨_, rfl⟩ | ⟨e, _⟩
    · exact fun s us ws _ l1 l2 => .of_eq ((bd f hf).k q hq kV doc pm an cdv ct us ws l1 l2)
    · exact absurd rfl e
  · have z := List.all_eq_true.mp d2 q hq
    unfold cstOk at z
    split at z
    · rename_i u hu
      obtain ⟨v, r, p⟩ := repB_ok q.2 z
      exact ⟨v, u, PySem.W.mg_of X G hu, r, p⟩
    · cases z
  · have z := List.all_eq_true.mp d4 x hx
    unfold clOk at z
    obtain ⟨z1, z2⟩ := b2 z
    refine ⟨by simpa using z1, ?_⟩
    by_cases hb : bltCls x = true
    · rw [if_pos hb] at z2
      have ex : x = "ValueError" := of_decide_eq_true hb
      have eu : clU K x = .type "ValueError" := by unfold clU; rw [if_pos hb]
      refine ⟨.ty "ValueError", .type "ValueError", .inr ⟨PySem.W.mg_none_of X G (He.eqO_ok z2), by rw [ex]; exact PyProof.Rows.Boot.«ValueError», by rw [ex]; decide, "ValueError", rfl, rfl⟩, fun c' b e => ?_, fun c' b e => ?_⟩
      · have t := (tab c' x b e).1
        unfold tabOk at t
        rw [eu] at t
        exact of_decide_eq_true (b2 t).1
      · have t := (tab c' x b e).1
        unfold tabOk at t
        rw [eu] at t
        exact of_decide_eq_true (b2 t).2
    · rw [if_neg hb] at z2
      have eu : clU K x = .ref (He.ga K x) := by unfold clU; rw [if_neg hb]
      refine ⟨.ref (He.ga K x), .ref (He.ga K x), .inl ⟨PySem.W.mg_of X G (He.eqO_ok z2), _, rfl, rfl⟩, fun c' b e => ?_, fun c' b e => ?_⟩
      · have t := (tab c' x b e).1
        unfold tabOk at t
        rw [eu] at t
        exact of_decide_eq_true (b2 t).1
      · have t := (tab c' x b e).1
        unfold tabOk at t
        rw [eu] at t
        exact of_decide_eq_true (b2 t).2
  · obtain ⟨d, hd, rfl, rfl⟩ := ie x fs hx
    have z := List.all_eq_true.mp d7 d hd
    rw [hfile] at z
    exact iniB_ok X G z (all_get c3 hd) (io d hd) top
end Ly
end
section
set_option Elab.async false
set_option linter.all false
set_option maxRecDepth 100000
set_option maxHeartbeats 4000000
/-! Ly19: a law's end, CX by the world. -/
namespace Ly
open PySem PySem.Spec PyProof.Rows L2
theorem walk_ofW {l : PySem.W.OpenLaw} {n k : Nat} {q : Program} {loose : List Str} {XP : (Str → Option Value) → Heap → Prop} {YP : World → Heap → Prop} {d : DefRec} {CX : World → CXT} {x : Str}
    (hn : l.most = some n) (hn2 : n ≤ sizeLine) (hdf : d.params.defaults = []) (hr : Room k callerA)
    (F : ∀ (w : World) (mg : Str → Option Value) (fa : Addr) (h : Heap), YP w h → h.Ns mainGlobals mg → mg d.name = some (.ref fa) →
      ∃ (K : PySem.W.Frag) (fd : FuncData) (sp : Sp), K.In h ∧ (∀ (s : Shared) (u : Value), BindsTo s fd ⟨[u], []⟩ [(x, u)]) ∧
        (∀ (H : Hp) (a : Addr) (ns : List Int), ns.length ≤ n → Only H → SqL K H a (ns.map V.int) → sp [.ref a] H (fun v _ => v = .bl true) fun _ _ _ => False) ∧
        ∀ base : Heap, K.In base → base.Ns mainGlobals mg → FnG l.prog w K mg base (CX w) k fa fd [x] sp)
    (hCX : ∀ (w : World) (H : Hp) (s : Shared) (e : Value) (s' : Shared), CX w [] H s (fun _ _ _ => False) e s' → False) :
    PySem.W.WalkO q loose XP YP l.row.toRowW d [] (fun f vs => PySem.call f vs) := by
  refine Att.attach_call hn hdf fun w s₀ s₁ mg mb fa o pm cd doc a vs ns G Y ho hd hcd hmg hobj hints hlen hg => ?_
  obtain ⟨K, fd, sp, KX, hb, hsp, hF⟩ := F w mg fa _ Y G.T.g hmg
  exact law_callG KX G.T.g G.T.b G.T.builtins G.T.nolimit hg hobj hints (Nat.le_trans hlen hn2) ⟨hr, rfl⟩ hF hb (fun H hO hS => hsp H a ns hlen hO hS) fun H e s' => hCX w H s₁ e s'
/-- a law by its program of the interpreter: f, the law's def, the li-th -/
theorem law_end {l : PySem.W.OpenLaw} {n k : Nat} {q : Program} {loose : List Str} {XP : (Str → Option Value) → Heap → Prop} {d : DefRec} {hk : Hk} {g li : Nat} {f : Fd} {x : Str}
    (hn : l.most = some n) (hn2 : n ≤ sizeLine) (hdf : d.params.defaults = []) (hr : Room k callerA) (hfile : hk.file = l.prog.main.file) (top : (l.prog.main.scope.names.lookup ("super" : Str)).isSome = false)
    (bd : ∀ f ∈ hk.m.fs, BdOk f) (io : ∀ d ∈ hk.ini, IniOk d) (ie : ∀ x fs, (x, fs) ∈ hk.m.errs → ∃ d ∈ hk.ini, d.cls = x ∧ d.fs = fs) (hm : hk.m.ok = true) (hf : hk.m.fs[li]? = some f) (hps : f.ps = [x]) (hdn : d.name = f.df.name)
    (hlaw : ∀ ns : List Int, ns.length ≤ n → ∃ h, callN hk.m.T hk.m.P k li [.rol (ns.map D.int)] [] = .ok (.bl true) h) :
    PySem.W.WalkO q loose XP (hookY g hk).says l.row.toRowW d [] (fun f vs => PySem.call f vs) := by
  refine walk_ofW (x := x) (CX := fun w => L2.CX l.prog w) hn hn2 hdf hr (fun w mg fa h Y G hmg => ?_) fun w H s e s' => cx_none H s e s'
  obtain ⟨K, KX, c⟩ := Y
  obtain ⟨M, hfun⟩ := mdOk KX G c hfile top bd io ie
  obtain ⟨fd, F⟩ := hfun f (List.mem_of_getElem? hf)
  obtain ⟨hmf, _⟩ := M.fn f (List.mem_of_getElem? hf)
  rw [hdn] at hmg
  have e := hmg.symm.trans hmf
  cases e
  have b := F.bindsA (bd f (List.mem_of_getElem? hf)).b
  refine ⟨K, fd, spF K 1 (callN hk.m.T hk.m.P k li), KX, fun s u => ?_, fun H a ns hl ho hs => ?_, fun base KB GB => ?_⟩
  · have z := b s [u] (by rw [hps]; rfl)
    rw [hps] at z
    exact z
  · obtain ⟨h', hh⟩ := hlaw ns hl
    exact law_sp ho hs hh
  · have z := fnOk (P := l.prog) (w := w) (base := base) M hm k li f fd hf F
    rw [hps] at z
    exact z
end Ly
end
section
set_option Elab.async false
set_option linter.all false
set_option maxRecDepth 100000
set_option maxHeartbeats 1000000
/-! Ly20: plain laws of the interpreter. -/
namespace Ly
open PySem
theorem callN_eq {T : SubT} {P : List Df} {n f : Nat} {ds : List D} {h : AH} {d : Df} (e : P[f]? = some d) (hl : ds.length = d.np) : callN T P (n + 1) f ds h = endS (exec ⟨callN T P n, T, none⟩ d.body (startD d.N.length ds) h) := by
  show (match P[f]? with
    | some d => if ds.length = d.np then endS (exec ⟨callN T P n, T, none⟩ d.body (startD d.N.length ds) h) else .bad
    | none => .bad) = _
  rw [e]
  show (if ds.length = d.np then _ else R.bad) = _
  rw [if_pos hl]
/-- a loop that runs through or leaves by a return -/
theorem for_run {p : Pat} {b : Sg → AH → RS} {src : D} {xs : List D} (I : Nat → Sg → AH → Prop) (Out : RS → Prop) (hd : ∀ i σ h, I i σ h → draw h src i = some (xs[i]?))
    (step : ∀ i x σ h, xs[i]? = some x → I i σ h → ∃ σ1, bindP p x σ = some σ1 ∧ ((∃ σ' h', (b σ1 h = .nx σ' h' ∨ b σ1 h = .ct σ' h') ∧ I (i + 1) σ' h') ∨ (∃ d h', b σ1 h = .rt d h' ∧ Out (.rt d h')) ∨ (∃ σ' h', b σ1 h = .bk σ' h' ∧ Out (.nx σ' h'))))
    (fin : ∀ σ h, I xs.length σ h → Out (.nx σ h)) : ∀ (f i : Nat) (σ : Sg) (h : AH), i ≤ xs.length → xs.length < i + f → I i σ h → Out (forLoop p b src f i σ h)
  | 0, i, σ, h, h1, h2, _ => by omega
  | f + 1, i, σ, h, h1, h2, hI => by
    unfold forLoop
    rw [hd i σ h hI]
    cases e : xs[i]? with
    | none =>
      have : i = xs.length := by
        have := List.getElem?_eq_none_iff.mp e
        omega
      subst this
      exact fin σ h hI
    | some x =>
      have hlt : i < xs.length := (List.getElem?_eq_some_iff.mp e).1
      obtain ⟨σ1, e1, q⟩ := step i x σ h e hI
      dsimp only
      rw [e1]
      dsimp only
      rcases q with ⟨σ', h', q | q, hI'⟩ | ⟨d, h', q, o⟩ | ⟨σ', h', q, o⟩
      · rw [q]; exact for_run I Out hd step fin f (i + 1) σ' h' hlt (by omega) hI'
      · rw [q]; exact for_run I Out hd step fin f (i + 1) σ' h' hlt (by omega) hI'
      · rw [q]; exact o
      · rw [q]; exact o
/-- a loop that runs through -/
theorem for_inv {p : Pat} {b : Sg → AH → RS} {src : D} {xs : List D} (I : Nat → Sg → AH → Prop) (hd : ∀ i σ h, I i σ h → draw h src i = some (xs[i]?))
    (step : ∀ i x σ h, xs[i]? = some x → I i σ h → ∃ σ1, bindP p x σ = some σ1 ∧ ∃ σ' h', b σ1 h = .nx σ' h' ∧ I (i + 1) σ' h') (hl : xs.length < wf) {σ : Sg} {h : AH} (h0 : I 0 σ h) : ∃ σ' h', forLoop p b src wf 0 σ h = .nx σ' h' ∧ I xs.length σ' h' := by
  refine for_run I (fun r => ∃ σ' h', r = .nx σ' h' ∧ I xs.length σ' h') hd (fun i x σ h e hI => ?_) (fun σ h hI => ⟨σ, h, rfl, hI⟩) wf 0 σ h (Nat.zero_le _) (by omega) h0
  obtain ⟨σ1, e1, σ', h', q, hI'⟩ := step i x σ h e hI
  exact ⟨σ1, e1, .inl ⟨σ', h', .inl q, hI'⟩⟩
/-- the turns of a range -/
def rng (lo : Int) (n : Nat) : List D := (List.range n).map fun (i : Nat) => D.int (lo + (i : Int))
theorem rng_len (lo : Int) (n : Nat) : (rng lo n).length = n := by simp [rng]
theorem rng_get {lo : Int} {n i : Nat} {x : D} (h : (rng lo n)[i]? = some x) : x = .int (lo + i) ∧ i < n := by
  have hlt : i < n := by
    have := (List.getElem?_eq_some_iff.mp h).1
    rwa [rng_len] at this
  refine ⟨?_, hlt⟩
  unfold rng at h
  rw [List.getElem?_map, List.getElem?_range hlt] at h
  exact (Option.some.inj h).symm
theorem draw_rng {h : AH} {lo n : Int} (i : Nat) : draw h (.it 1 [.int lo, .int n]) i = some ((rng lo n.toNat)[i]?) := by
  show some (if i < n.toNat then some (D.int (lo + i)) else none) = _
  by_cases c : i < n.toNat
  · rw [if_pos c]
    unfold rng
    rw [List.getElem?_map, List.getElem?_range c]
    rfl
  · rw [if_neg c, List.getElem?_eq_none (by rw [rng_len]; omega)]
theorem draw_tup {h : AH} {ds : List D} (i : Nat) : draw h (.it 0 [.tup ds]) i = some (ds[i]?) := rfl
end Ly
end
section
set_option Elab.async false
set_option linter.all false
set_option maxRecDepth 100000
set_option maxHeartbeats 1000000
/-! LyW: what a program of the interpreter must come to, step by step. -/
namespace Ly
open PySem
abbrev XE := Str → List Str → List D → AH → Prop
def RE (r : R D) (P : D → AH → Prop) (X : XE) : Prop := match r with
  | .ok d h => P d h
  | .exc c fs vs h => X c fs vs h
  | .bad => False
structure Kn where
  nx : Sg → AH → Prop
  rt : D → AH → Prop
  bk : Sg → AH → Prop
  ct : Sg → AH → Prop
  ex : Str → List Str → List D → Sg → AH → Prop
def WS (r : RS) (K : Kn) : Prop := match r with
  | .nx σ h => K.nx σ h
  | .rt d h => K.rt d h
  | .bk σ h => K.bk σ h
  | .ct σ h => K.ct σ h
  | .exc c fs vs σ h => K.ex c fs vs σ h
  | .bad => False
def W (g : Gs) (s : CS) (σ : Sg) (h : AH) (K : Kn) : Prop := WS (exec g s σ h) K
def E (g : Gs) (e : CE) (σ : Sg) (h : AH) (P : D → AH → Prop) (X : XE) : Prop := RE (ev g e σ h) P X
/-- arguments -/
def EA (g : Gs) (e : CE) (σ : Sg) (h : AH) (P : List D → AH → Prop) (X : XE) : Prop := E g e σ h (fun x h1 => ∃ ds, x = .tup ds ∧ P ds h1) X
def noX : XE := fun _ _ _ _ => False
section
variable {g : Gs} {σ : Sg} {h : AH} {P Q : D → AH → Prop} {X : XE} {K : Kn} {r : R D} {a b c e : CE} {s t : CS}
theorem RE.imp (w : RE r P X) (f : ∀ d h, P d h → Q d h) : RE r Q X := by
  cases r with
  | ok d h => exact f _ _ w
  | exc => exact w
  | bad => exact w
theorem RE.impX {Y : XE} (w : RE r P X) (f : ∀ d h, P d h → Q d h) (k : ∀ c fs vs h, X c fs vs h → Y c fs vs h) : RE r Q Y := by
  cases r with
  | ok d h => exact f _ _ w
  | exc => exact k _ _ _ _ w
  | bad => exact w
/-- what cannot raise -/
theorem RE.any (w : RE r P noX) (f : ∀ d h, P d h → Q d h) : RE r Q X := by
  cases r with
  | ok d h => exact f _ _ w
  | exc => exact w.elim
  | bad => exact w
theorem RE_bind {k : D → AH → R D} (w : RE r (fun d h1 => RE (k d h1) P X) X) : RE (r.bind k) P X := by
  cases r with
  | ok d h => exact w
  | exc => exact w
  | bad => exact w
theorem RE_ok {d : D} (w : P d h) : RE (.ok d h) P X := w
theorem RE_get (w : RE r P noX) : ∃ d h, r = .ok d h ∧ P d h := by
  cases r with
  | ok d h => exact ⟨d, h, rfl, w⟩
  | exc => exact w.elim
  | bad => exact w.elim
theorem WS.imp {r : RS} {K K' : Kn} (w : WS r K) (h1 : ∀ σ h, K.nx σ h → K'.nx σ h) (h2 : ∀ d h, K.rt d h → K'.rt d h) (h3 : ∀ σ h, K.bk σ h → K'.bk σ h) (h4 : ∀ σ h, K.ct σ h → K'.ct σ h) (h5 : ∀ c fs vs σ h, K.ex c fs vs σ h → K'.ex c fs vs σ h) : WS r K' := by
  cases r with
  | nx => exact h1 _ _ w
  | rt => exact h2 _ _ w
  | bk => exact h3 _ _ w
  | ct => exact h4 _ _ w
  | exc => exact h5 _ _ _ _ _ w
  | bad => exact w
theorem WS_ev {r : R D} {k : D → AH → RS} (w : RE r (fun d h1 => WS (k d h1) K) (fun c fs vs h1 => K.ex c fs vs σ h1)) : WS (evS r σ k) K := by
  cases r with
  | ok d h => exact w
  | exc => exact w
  | bad => exact w
/-! ### expressions -/
theorem E_var {i : Nat} {d : D} (hd : σ[i]? = some (some d)) (w : P d h) : E g (.var i) σ h P X := by
  show RE (match σ[i]? with
    | some (some d) => .ok d h
    | _ => .bad) P X
  rw [hd]; exact w
theorem E_cst {d : D} (w : P d h) : E g (.cst d) σ h P X := w
theorem E_bop {o : Operator} (w : E g a σ h (fun x h1 => E g b σ h1 (fun y h2 => RE (bopS o x y h2) P X) X) X) : E g (.bop o a b) σ h P X :=
  RE_bind (RE.impX w (fun _ _ q => RE_bind q) fun _ _ _ _ q => q)
theorem E_cmp {o : CmpOp} (w : E g a σ h (fun x h1 => E g b σ h1 (fun y h2 => RE (cmpS o x y h2) P X) X) X) : E g (.cmp o a b) σ h P X :=
  RE_bind (RE.impX w (fun _ _ q => RE_bind q) fun _ _ _ _ q => q)
theorem E_chn {o o' : CmpOp} (w : E g a σ h (fun x h1 => E g b σ h1 (fun y h2 => RE (cmpS o x y h2) (fun z h3 => ∃ k, z = .bl k ∧ (k = true → E g c σ h3 (fun v h4 => RE (cmpS o' y v h4) P X) X) ∧ (k = false → P (.bl false) h3)) X) X) X) : E g (.chn o o' a b c) σ h P X := by
  refine RE_bind (RE.impX w (fun x h1 q => RE_bind (RE.impX q (fun y h2 q => RE_bind (RE.impX q (fun z h3 q => ?_) fun _ _ _ _ q => q)) fun _ _ _ _ q => q)) fun _ _ _ _ q => q)
  obtain ⟨k, rfl, q1, q2⟩ := q
  cases k with
  | true => exact RE_bind (q1 rfl)
  | false => exact q2 rfl
theorem E_neg (w : E g a σ h (fun x h1 => ∃ i, x = .int i ∧ P (.int (-i)) h1) X) : E g (.neg a) σ h P X :=
  RE_bind (RE.impX w (fun _ _ q => by obtain ⟨i, rfl, q⟩ := q; exact q) fun _ _ _ _ q => q)
theorem E_not (w : E g a σ h (fun x h1 => ∃ i, x = .bl i ∧ P (.bl (!i)) h1) X) : E g (.not_ a) σ h P X :=
  RE_bind (RE.impX w (fun _ _ q => by obtain ⟨i, rfl, q⟩ := q; exact q) fun _ _ _ _ q => q)
theorem E_and (w : E g a σ h (fun x h1 => ∃ k, x = .bl k ∧ (k = true → E g b σ h1 P X) ∧ (k = false → P (.bl false) h1)) X) : E g (.and_ a b) σ h P X :=
  RE_bind (RE.impX w (fun _ _ q => by
    obtain ⟨k, rfl, q1, q2⟩ := q
    cases k with
    | true => exact q1 rfl
    | false => exact q2 rfl) fun _ _ _ _ q => q)
theorem E_or (w : E g a σ h (fun x h1 => ∃ k, x = .bl k ∧ (k = true → P (.bl true) h1) ∧ (k = false → E g b σ h1 P X)) X) : E g (.or_ a b) σ h P X :=
  RE_bind (RE.impX w (fun _ _ q => by
    obtain ⟨k, rfl, q1, q2⟩ := q
    cases k with
    | true => exact q1 rfl
    | false => exact q2 rfl) fun _ _ _ _ q => q)
theorem E_ite (w : E g c σ h (fun x h1 => ∃ k, x = .bl k ∧ (k = true → E g a σ h1 P X) ∧ (k = false → E g b σ h1 P X)) X) : E g (.ite c a b) σ h P X :=
  RE_bind (RE.impX w (fun _ _ q => by
    obtain ⟨k, rfl, q1, q2⟩ := q
    cases k with
    | true => exact q1 rfl
    | false => exact q2 rfl) fun _ _ _ _ q => q)
theorem E_tr (w : E g a σ h (fun x h1 => ∃ k, truS x h1 = some k ∧ P (.bl k) h1) X) : E g (.tr a) σ h P X :=
  RE_bind (RE.impX w (fun _ _ q => by obtain ⟨k, e, q⟩ := q; rw [e]; exact q) fun _ _ _ _ q => q)
theorem EA_nil {P : List D → AH → Prop} (w : P [] h) : EA g .nil σ h P X := ⟨[], rfl, w⟩
theorem EA_cons {P : List D → AH → Prop} (w : E g a σ h (fun x h1 => EA g b σ h1 (fun ds h2 => P (x :: ds) h2) X) X) : EA g (.cons a b) σ h P X :=
  RE_bind (RE.impX w (fun x h1 q => RE_bind (RE.impX q (fun y h2 q => by obtain ⟨ds, rfl, q⟩ := q; exact ⟨_, rfl, q⟩) fun _ _ _ _ q => q)) fun _ _ _ _ q => q)
theorem EA_star {P : List D → AH → Prop} (w : E g a σ h (fun x h1 => ∃ xs, seqOf h1 x = some xs ∧ EA g b σ h1 (fun ds h2 => P (xs ++ ds) h2) X) X) : EA g (.consS a b) σ h P X :=
  RE_bind (RE.impX w (fun x h1 q => by
    obtain ⟨xs, e, q⟩ := q
    rw [e]
    exact RE_bind (RE.impX q (fun y h2 q => by obtain ⟨ds, rfl, q⟩ := q; exact ⟨_, rfl, q⟩) fun _ _ _ _ q => q)) fun _ _ _ _ q => q)
theorem E_tup (w : EA g a σ h (fun ds h1 => ds.length ≤ 16777216 ∧ P (.tup ds) h1) X) : E g (.tup a) σ h P X :=
  RE_bind (RE.impX w (fun _ _ q => by obtain ⟨ds, rfl, l, q⟩ := q; dsimp only; rw [if_pos l]; exact q) fun _ _ _ _ q => q)
theorem E_lst (w : EA g a σ h (fun ds h1 => ds.length ≤ 16777216 ∧ P (.ref h1.length) (h1 ++ [.lst ds])) X) : E g (.lst a) σ h P X :=
  RE_bind (RE.impX w (fun _ _ q => by obtain ⟨ds, rfl, l, q⟩ := q; dsimp only; rw [if_pos l]; exact q) fun _ _ _ _ q => q)
theorem E_rev (w : E g a σ h (fun x h1 => isLstD h1 x = true ∧ ∃ xs, seqOf h1 x = some xs ∧ P (.ref h1.length) (h1 ++ [.lst xs.reverse])) X) : E g (.rev a) σ h P X :=
  RE_bind (RE.impX w (fun _ _ q => by obtain ⟨l, xs, e, q⟩ := q; rw [if_pos l, e]; exact q) fun _ _ _ _ q => q)
theorem E_call {f : Nat} (w : EA g a σ h (fun ds h1 => RE (g.cf f ds h1) P X) X) : E g (.call f a) σ h P X :=
  RE_bind (RE.impX w (fun _ _ q => by obtain ⟨ds, rfl, q⟩ := q; exact q) fun _ _ _ _ q => q)
theorem E_callk {f : Nat} {p : List Nat} (w : EA g a σ h (fun ds h1 => EA g b σ h1 (fun es h2 => RE (g.cf f (p.filterMap fun i => (ds ++ es)[i]?) h2) P X) X) X) : E g (.callk f p a b) σ h P X :=
  RE_bind (RE.impX w (fun _ _ q => by
    obtain ⟨ds, rfl, q⟩ := q
    exact RE_bind (RE.impX q (fun _ _ q => by obtain ⟨es, rfl, q⟩ := q; exact q) fun _ _ _ _ q => q)) fun _ _ _ _ q => q)
theorem E_bi {f : Bi} (w : EA g a σ h (fun ds h1 => RE (biS f ds h1) P X) X) : E g (.bi f a) σ h P X :=
  RE_bind (RE.impX w (fun _ _ q => by obtain ⟨ds, rfl, q⟩ := q; exact q) fun _ _ _ _ q => q)
theorem E_mth {m : Mth} (w : E g a σ h (fun x h1 => isLst h1 x = true ∧ EA g b σ h1 (fun ds h2 => RE (mthS m x ds h2) P X) X) X) : E g (.mth m a b) σ h P X :=
  RE_bind (RE.impX w (fun _ _ q => by
    obtain ⟨l, q⟩ := q
    rw [if_pos l]
    exact RE_bind (RE.impX q (fun _ _ q => by obtain ⟨ds, rfl, q⟩ := q; exact q) fun _ _ _ _ q => q)) fun _ _ _ _ q => q)
theorem E_isi {cs : List Bt} (w : E g a σ h (fun x h1 => ∃ t, tyOf h1 x = some t ∧ P (.bl (cs.any fun n => t.sub n)) h1) X) : E g (.isi a cs) σ h P X :=
  RE_bind (RE.impX w (fun _ _ q => by obtain ⟨k, e, q⟩ := q; rw [e]; exact q) fun _ _ _ _ q => q)
theorem E_isE {cs : List Str} {x : Str × List Str × List D} {k : Bool} (e1 : g.ex = some x) (e2 : isSome1 g.T x.1 cs = some k) (w : P (.bl k) h) : E g (.isE cs) σ h P X := by
  obtain ⟨c, fs, vs⟩ := x
  show RE (match g.ex with
    | some (c, _, _) => (match isSome1 g.T c cs with
      | some b => .ok (.bl b) h
      | none => .bad)
    | none => .bad) P X
  rw [e1]
  dsimp only
  rw [e2]; exact w
theorem E_fld {f : Str} {x : Str × List Str × List D} {d : D} (e1 : g.ex = some x) (e2 : (x.2.1.zip x.2.2).lookup f = some d) (w : P d h) : E g (.fld f) σ h P X := by
  obtain ⟨c, fs, vs⟩ := x
  show RE (match g.ex with
    | some (_, fs, vs) => (match (fs.zip vs).lookup f with
      | some d => .ok d h
      | none => .bad)
    | none => .bad) P X
  rw [e1]
  dsimp only
  rw [e2]; exact w
theorem E_sub (w : E g a σ h (fun x h1 => E g b σ h1 (fun y h2 => RE (getS x y h2) P X) X) X) : E g (.sub a b) σ h P X :=
  RE_bind (RE.impX w (fun _ _ q => RE_bind q) fun _ _ _ _ q => q)
theorem E_slc (w : E g a σ h (fun x h1 => E g b σ h1 (fun y h2 => (partOf y).isSome = true ∧ E g c σ h2 (fun z h3 => RE (slcS x y z h3) P X) X) X) X) : E g (.slc a b c) σ h P X :=
  RE_bind (RE.impX w (fun _ _ q => RE_bind (RE.impX q (fun _ _ q => by rw [if_pos q.1]; exact RE_bind q.2) fun _ _ _ _ q => q)) fun _ _ _ _ q => q)
theorem E_itr {k : Nat} (w : EA g a σ h (fun ds h1 => RE (itS k ds h1) P X) X) : E g (.itr k a) σ h P X :=
  RE_bind (RE.impX w (fun _ _ q => by obtain ⟨ds, rfl, q⟩ := q; exact q) fun _ _ _ _ q => q)
/-- what an item is -/
theorem RE_get1 {d : D} {xs : List D} {k : Int} {j : Nat} {y : D} (e : seqOf h d = some xs) (hj : ixOf xs.length k = some j) (hy : xs[j]? = some y) (w : P y h) : RE (getS d (.int k) h) P X := by
  show RE (match seqOf h d with
    | some xs => (match (ixOf xs.length k).bind fun j => xs[j]? with
      | some x => .ok x h
      | none => .bad)
    | none => .bad) P X
  rw [e]
  dsimp only
  rw [hj]
  show RE (match xs[j]? with
      | some x => .ok x h
      | none => .bad) P X
  rw [hy]; exact w
theorem ixOf_nat {n i : Nat} (h : i < n) : ixOf n (i : Int) = some i := by
  unfold ixOf L2.ixN
  simp [h]
theorem RE_eq {o : CmpOp} {d e : D} {p q : PyData} (h1 : pd h pdN d = some p) (h2 : pd h pdN e = some q) (ho : o = .Eq) (w : P (.bl (PyData.eqv p q)) h) : RE (cmpS o d e h) P X := by
  subst ho
  show RE (match pd h pdN d, pd h pdN e with
    | some p, some q => okB (PyData.eqv p q) h
    | _, _ => .bad) P X
  rw [h1, h2]; exact w
theorem RE_ne {o : CmpOp} {d e : D} {p q : PyData} (h1 : pd h pdN d = some p) (h2 : pd h pdN e = some q) (ho : o = .NotEq) (w : P (.bl (!PyData.eqv p q)) h) : RE (cmpS o d e h) P X := by
  subst ho
  show RE (match pd h pdN d, pd h pdN e with
    | some p, some q => okB (!PyData.eqv p q) h
    | _, _ => .bad) P X
  rw [h1, h2]; exact w
theorem RE_mul {i j : Int} (hm : mulOk i j = true) (w : P (.int (i * j)) h) : RE (bopS .Mult (.int i) (.int j) h) P X := by
  show RE (if mulOk i j = true then .ok (.int (i * j)) h else .bad) P X
  rw [if_pos hm]; exact w
theorem RE_div {i j : Int} (hm : 0 < j ∧ j < 1073741824) (w : P (.int (i / j)) h) : RE (bopS .FloorDiv (.int i) (.int j) h) P X := by
  show RE (if 0 < j ∧ j < 1073741824 then .ok (.int (i / j)) h else .bad) P X
  rw [if_pos hm]; exact w
theorem RE_mod {i j : Int} (hm : 0 < j) (w : P (.int (i % j)) h) : RE (bopS .Mod (.int i) (.int j) h) P X := by
  show RE (if 0 < j then .ok (.int (i % j)) h else .bad) P X
  rw [if_pos hm]; exact w
/-! ### statements -/
theorem W_skip (w : K.nx σ h) : W g .skip σ h K := w
theorem W_seq (w : W g s σ h ⟨fun σ1 h1 => W g t σ1 h1 K, K.rt, K.bk, K.ct, K.ex⟩) : W g (.seq s t) σ h K := by
  show WS (seqS (exec g s σ h) (exec g t)) K
  have w' : WS (exec g s σ h) ⟨fun σ1 h1 => W g t σ1 h1 K, K.rt, K.bk, K.ct, K.ex⟩ := w
  cases q : exec g s σ h with
  | nx σ1 h1 => rw [q] at w'; exact w'
  | rt d h1 => rw [q] at w'; exact w'
  | bk σ1 h1 => rw [q] at w'; exact w'
  | ct σ1 h1 => rw [q] at w'; exact w'
  | exc c fs vs σ1 h1 => rw [q] at w'; exact w'
  | bad => rw [q] at w'; exact w'
theorem W_ex (w : E g e σ h (fun _ h1 => K.nx σ h1) (fun c fs vs h1 => K.ex c fs vs σ h1)) : W g (.ex e) σ h K := WS_ev w
theorem W_asg {p : Pat} (w : E g e σ h (fun d h1 => ∃ σ', bindP p d σ = some σ' ∧ K.nx σ' h1) (fun c fs vs h1 => K.ex c fs vs σ h1)) : W g (.asg p e) σ h K :=
  WS_ev (RE.impX w (fun d h1 q => by obtain ⟨σ', e, q⟩ := q; rw [e]; exact q) fun _ _ _ _ q => q)
theorem W_set {i : Nat} (w : E g e σ h (fun d h1 => K.nx (σ.set i (some d)) h1) (fun c fs vs h1 => K.ex c fs vs σ h1)) : W g (.asg (.v i) e) σ h K := WS_ev w
theorem W_setI {o i : CE} (w : E g e σ h (fun v h1 => E g o σ h1 (fun x h2 => E g i σ h2 (fun y h3 => ∃ h4, setS x y v h3 = some h4 ∧ K.nx σ h4) (fun c fs vs h1 => K.ex c fs vs σ h1)) (fun c fs vs h1 => K.ex c fs vs σ h1)) (fun c fs vs h1 => K.ex c fs vs σ h1)) : W g (.setI o i e) σ h K :=
  WS_ev (RE.impX w (fun v h1 q => WS_ev (RE.impX q (fun x h2 q => WS_ev (RE.impX q (fun y h3 q => by obtain ⟨h4, e, q⟩ := q; rw [e]; exact q) fun _ _ _ _ q => q)) fun _ _ _ _ q => q)) fun _ _ _ _ q => q)
theorem W_aug {i : Nat} {o : Operator} {x : D} (hx : σ[i]? = some (some x)) (w : E g e σ h (fun y h1 => RE (augS o x y h1) (fun z h2 => K.nx (σ.set i (some z)) h2) (fun c fs vs h1 => K.ex c fs vs σ h1)) (fun c fs vs h1 => K.ex c fs vs σ h1)) : W g (.aug i o e) σ h K := by
  show WS (match σ[i]? with
    | some (some x) => evS (ev g e σ h) σ fun y h1 => evS (augS o x y h1) σ fun z h2 => .nx (σ.set i (some z)) h2
    | _ => .bad) K
  rw [hx]
  exact WS_ev (RE.impX w (fun y h1 q => WS_ev q) fun _ _ _ _ q => q)
theorem W_if (w : E g c σ h (fun x h1 => ∃ k, x = .bl k ∧ (k = true → W g s σ h1 K) ∧ (k = false → W g t σ h1 K)) (fun c fs vs h1 => K.ex c fs vs σ h1)) : W g (.ifS c s t) σ h K :=
  WS_ev (RE.impX w (fun _ _ q => by
    obtain ⟨k, rfl, q1, q2⟩ := q
    cases k with
    | true => exact q1 rfl
    | false => exact q2 rfl) fun _ _ _ _ q => q)
theorem W_ret (w : E g e σ h K.rt (fun c fs vs h1 => K.ex c fs vs σ h1)) : W g (.ret e) σ h K := WS_ev w
theorem W_retN (w : K.rt .non h) : W g .retN σ h K := w
theorem W_brk (w : K.bk σ h) : W g .brk σ h K := w
theorem W_cnt (w : K.ct σ h) : W g .cnt σ h K := w
theorem W_raise {x : Str} {fs : List Str} (w : EA g a σ h (fun ds h1 => ds.length = fs.length ∧ K.ex x fs.reverse ds.reverse σ h1) (fun c fs vs h1 => K.ex c fs vs σ h1)) : W g (.raise x fs a) σ h K :=
  WS_ev (RE.impX w (fun _ _ q => by obtain ⟨ds, rfl, l, q⟩ := q; dsimp only; rw [if_pos l]; exact q) fun _ _ _ _ q => q)
theorem W_try {x : Str} {i : Nat} (w : W g s σ h ⟨K.nx, K.rt, K.bk, K.ct, fun c' fs vs σ1 h1 => (subOf g.T c' x = some true ∧ i < σ1.length ∧ W { g with ex := some (c', fs, vs) } t (σ1.set i none) h1 ⟨fun σ2 h2 => K.nx (σ2.set i none) h2, K.rt, fun σ2 h2 => K.bk (σ2.set i none) h2, fun σ2 h2 => K.ct (σ2.set i none) h2, fun _ _ _ _ _ => False⟩) ∨ (subOf g.T c' x = some false ∧ K.ex c' fs vs σ1 h1)⟩) : W g (.try_ s x i t) σ h K := by
  unfold W at w ⊢
  unfold exec
  cases q : exec g s σ h with
  | nx σ1 h1 => rw [q] at w; exact w
  | rt d h1 => rw [q] at w; exact w
  | bk σ1 h1 => rw [q] at w; exact w
  | ct σ1 h1 => rw [q] at w; exact w
  | bad => rw [q] at w; exact w
  | exc c fs vs σ1 h1 =>
    rw [q] at w
    dsimp only
    rcases w with ⟨e, l, w⟩ | ⟨e, w⟩
    · rw [e]
      dsimp only
      rw [if_pos l]
      cases q2 : exec { g with ex := some (c, fs, vs) } t (σ1.set i none) h1 with
      | nx σ2 h2 => rw [q2] at w; exact w
      | rt d h2 => rw [q2] at w; exact w
      | bk σ2 h2 => rw [q2] at w; exact w
      | ct σ2 h2 => rw [q2] at w; exact w
      | exc => rw [q2] at w; exact w.elim
      | bad => rw [q2] at w; exact w.elim
    · rw [e]; exact w
/-- a walk -/
def FW (g : Gs) (p : Pat) (b : CS) (src : D) (σ : Sg) (h : AH) (K : Kn) : Prop := WS (forLoop p (exec g b) src wf 0 σ h) K
theorem W_for {p : Pat} (w : E g e σ h (fun src h1 => FW g p s src σ h1 K) (fun c fs vs h1 => K.ex c fs vs σ h1)) : W g (.for_ p e s) σ h K := WS_ev w
theorem for_go {p : Pat} {src : D} {xs : List D} (I : Nat → Sg → AH → Prop) (hd : ∀ i σ h, I i σ h → i ≤ xs.length → draw h src i = some xs[i]?)
    (step : ∀ i x σ h, xs[i]? = some x → I i σ h → ∃ σ1, bindP p x σ = some σ1 ∧ W g s σ1 h ⟨I (i + 1), K.rt, K.nx, I (i + 1), K.ex⟩) (fin : ∀ σ h, I xs.length σ h → K.nx σ h) :
    ∀ (f i : Nat) (σ : Sg) (h : AH), i ≤ xs.length → xs.length < i + f → I i σ h → WS (forLoop p (exec g s) src f i σ h) K
  | 0, i, σ, h, h1, h2, _ => by omega
  | f + 1, i, σ, h, h1, h2, hI => by
    unfold forLoop
    rw [hd i σ h hI h1]
    cases e : xs[i]? with
    | none =>
      have : i = xs.length := by
        have := List.getElem?_eq_none_iff.mp e
        omega
      subst this
      exact fin σ h hI
    | some x =>
      have hlt : i < xs.length := (List.getElem?_eq_some_iff.mp e).1
      obtain ⟨σ1, e1, q⟩ := step i x σ h e hI
      dsimp only
      rw [e1]
      dsimp only
      unfold W at q
      cases z : exec g s σ1 h with
      | nx σ2 h2' => rw [z] at q; exact for_go I hd step fin f (i + 1) σ2 h2' hlt (by omega) q
      | ct σ2 h2' => rw [z] at q; exact for_go I hd step fin f (i + 1) σ2 h2' hlt (by omega) q
      | bk σ2 h2' => rw [z] at q; exact q
      | rt d h2' => rw [z] at q; exact q
      | exc => rw [z] at q; exact q
      | bad => rw [z] at q; exact q
theorem FW_inv {p : Pat} {src : D} (xs : List D) (I : Nat → Sg → AH → Prop) (hl : xs.length < wf) (h0 : I 0 σ h) (hd : ∀ i σ h, I i σ h → i ≤ xs.length → draw h src i = some xs[i]?)
    (step : ∀ i x σ h, xs[i]? = some x → I i σ h → ∃ σ1, bindP p x σ = some σ1 ∧ W g s σ1 h ⟨I (i + 1), K.rt, K.nx, I (i + 1), K.ex⟩) (fin : ∀ σ h, I xs.length σ h → K.nx σ h) : FW g p s src σ h K :=
  for_go I hd step fin wf 0 σ h (Nat.zero_le _) (by omega) h0
theorem whl_go (I : Nat → Sg → AH → Prop) (step : ∀ n σ h, I n σ h → E g c σ h (fun x h1 => ∃ k, x = .bl k ∧ (k = true → ∃ m, n = m + 1 ∧ W g s σ h1 ⟨I m, K.rt, K.nx, I m, K.ex⟩) ∧ (k = false → K.nx σ h1)) (fun c fs vs h1 => K.ex c fs vs σ h1)) :
    ∀ (f n : Nat) (σ : Sg) (h : AH), n < f → I n σ h → WS (whlLoop (ev g c) (exec g s) f σ h) K
  | 0, n, σ, h, hf, _ => by omega
  | f + 1, n, σ, h, hf, hI => by
    unfold whlLoop
    have q := step n σ h hI
    unfold E at q
    cases z : ev g c σ h with
    | bad => rw [z] at q; exact q
    | exc => rw [z] at q; exact q
    | ok x h1 =>
      rw [z] at q
      obtain ⟨k, rfl, q1, q2⟩ := q
      cases k with
      | false => exact q2 rfl
      | true =>
        obtain ⟨m, rfl, q⟩ := q1 rfl
        dsimp only
        unfold W at q
        cases z2 : exec g s σ h1 with
        | nx σ2 h2 => rw [z2] at q; exact whl_go I step f m σ2 h2 (by omega) q
        | ct σ2 h2 => rw [z2] at q; exact whl_go I step f m σ2 h2 (by omega) q
        | bk => rw [z2] at q; exact q
        | rt => rw [z2] at q; exact q
        | exc => rw [z2] at q; exact q
        | bad => rw [z2] at q; exact q
/-- a while: a measure goes down -/
theorem W_whl (n : Nat) (I : Nat → Sg → AH → Prop) (hn : n < wf) (h0 : I n σ h) (step : ∀ n σ h, I n σ h → E g c σ h (fun x h1 => ∃ k, x = .bl k ∧ (k = true → ∃ m, n = m + 1 ∧ W g s σ h1 ⟨I m, K.rt, K.nx, I m, K.ex⟩) ∧ (k = false → K.nx σ h1)) (fun c fs vs h1 => K.ex c fs vs σ h1)) : W g (.whl c s) σ h K :=
  whl_go I step wf n σ h hn h0
end
/-! ### heaps -/
/-- all but what S says stays -/
def Kp (S : Nat → Prop) (h h' : AH) : Prop := h.length ≤ h'.length ∧ ∀ j, j < h.length → ¬ S j → h'[j]? = h[j]?
theorem Kp.refl {S : Nat → Prop} {h : AH} : Kp S h h := ⟨Nat.le_refl _, fun _ _ _ => rfl⟩
theorem Kp.trans {S : Nat → Prop} {h1 h2 h3 : AH} (a : Kp S h1 h2) (b : Kp S h2 h3) : Kp S h1 h3 := ⟨Nat.le_trans a.1 b.1, fun j hj hs => (b.2 j (Nat.lt_of_lt_of_le hj a.1) hs).trans (a.2 j hj hs)⟩
theorem Kp.app {S : Nat → Prop} {h : AH} (t : AH) : Kp S h (h ++ t) := ⟨by simp, fun j hj _ => List.getElem?_append_left hj⟩
theorem Kp.then {S : Nat → Prop} {h h' : AH} (a : Kp S h h') (t : AH) : Kp S h (h' ++ t) := a.trans (.app t)
theorem Kp.mono {S S' : Nat → Prop} {h h' : AH} (a : Kp S h h') (f : ∀ j, j < h.length → S j → S' j) : Kp S' h h' := ⟨a.1, fun j hj hs => a.2 j hj fun z => hs (f j hj z)⟩
theorem Kp.set {S : Nat → Prop} {h h' : AH} (a : Kp S h h') {n : Nat} (hn : S n ∨ h.length ≤ n) (x : AO) : Kp S h (h'.set n x) := ⟨by rw [List.length_set]; exact a.1, fun j hj hs => by
  have hne : n ≠ j := by
    rintro rfl
    rcases hn with hn | hn
    · exact hs hn
    · omega
  rw [List.getElem?_set_ne hne]; exact a.2 j hj hs⟩
theorem Kp.get {S : Nat → Prop} {h h' : AH} (a : Kp S h h') {n : Nat} {x : AO} (e : h[n]? = some x) (hs : ¬ S n) : h'[n]? = some x := by
  rw [a.2 n (List.getElem?_eq_some_iff.mp e).1 hs]; exact e
/-- nothing changes -/
abbrev no1 : Nat → Prop := fun _ => False
theorem lt_of_get {h : AH} {n : Nat} {x : AO} (e : h[n]? = some x) : n < h.length := (List.getElem?_eq_some_iff.mp e).1
section
variable {g : Gs} {σ : Sg} {h : AH} {P : D → AH → Prop} {X : XE} {a b c e : CE}
theorem lc_go {p : Pat} {src : D} {xs : List D} {acc : Nat} (I : Nat → List D → AH → Prop) (hd : ∀ i ys h, I i ys h → i ≤ xs.length → draw h src i = some xs[i]?)
    (step : ∀ i x ys h, xs[i]? = some x → I i ys h → ∃ σ1, bindP p x (wipeD σ (slots p)) = some σ1 ∧ E g c σ1 h (fun k h1 => (k = .bl false ∧ I (i + 1) ys h1) ∨ (k = .bl true ∧ E g e σ1 h1 (fun y h2 => h2[acc]? = some (.lst ys) ∧ ys.length < 16777216 ∧ I (i + 1) (ys ++ [y]) (h2.set acc (.lst (ys ++ [y])))) noX)) noX) :
    ∀ (f i : Nat) (ys : List D) (h : AH), i ≤ xs.length → xs.length < i + f → I i ys h → ∃ ys' h', lcLoop (lcBody p (ev g c) (ev g e) σ) src acc f i h = .ok () h' ∧ I xs.length ys' h'
  | 0, i, ys, h, h1, h2, _ => by omega
  | f + 1, i, ys, h, h1, h2, hI => by
    unfold lcLoop
    rw [hd i ys h hI h1]
    cases q : xs[i]? with
    | none =>
      have : i = xs.length := by
        have := List.getElem?_eq_none_iff.mp q
        omega
      subst this
      exact ⟨ys, h, rfl, hI⟩
    | some x =>
      have hlt : i < xs.length := (List.getElem?_eq_some_iff.mp q).1
      obtain ⟨σ1, e1, w⟩ := step i x ys h q hI
      dsimp only
      unfold lcBody
      rw [e1]
      dsimp only
      obtain ⟨k, h3, z, w⟩ := RE_get w
      rw [z]
      rcases w with ⟨rfl, w⟩ | ⟨rfl, w⟩
      · exact lc_go I hd step f (i + 1) ys h3 hlt (by omega) w
      · obtain ⟨y, h4, z2, w1, w2, w3⟩ := RE_get w
        dsimp only
        rw [z2]
        dsimp only
        rw [w1]
        dsimp only
        rw [if_pos w2]
        exact lc_go I hd step f (i + 1) _ _ hlt (by omega) w3
def LC (g : Gs) (p : Pat) (c e : CE) (σ : Sg) (src : D) (h : AH) (P : D → AH → Prop) : Prop := ∃ h', lcLoop (lcBody p (ev g c) (ev g e) σ) src h.length wf 0 (h ++ [.lst []]) = .ok () h' ∧ P (.ref h.length) h'
theorem E_lc {p : Pat} (w : E g a σ h (fun src h1 => LC g p c e σ src h1 P) X) : E g (.lc p a c e) σ h P X :=
  RE_bind (RE.impX w (fun _ _ q => by obtain ⟨h', z, q⟩ := q; rw [z]; exact q) fun _ _ _ _ q => q)
/-- a comprehension: S may change, J stays -/
theorem LC_keep {p : Pat} {src : D} (S : Nat → Prop) (J : AH → Prop) (Y : Nat → List D → Prop) (xs : List D) (hl : xs.length < wf) (hl2 : xs.length < 16777216) (hS : ¬ S h.length) (hJ : ∀ h2 x, J h2 → J (h2.set h.length x)) (hJ0 : J (h ++ [.lst []])) (Y0 : Y 0 [])
    (hd : ∀ h2, Kp S h h2 → J h2 → ∀ i, i ≤ xs.length → draw h2 src i = some xs[i]?)
    (step : ∀ i x ys h2, xs[i]? = some x → Y i ys → Kp S h h2 → J h2 → h2[h.length]? = some (.lst ys) → ∃ σ1, bindP p x (wipeD σ (slots p)) = some σ1 ∧ E g c σ1 h2 (fun k h3 => Kp S h2 h3 ∧ J h3 ∧ ((k = .bl false ∧ Y (i + 1) ys) ∨ (k = .bl true ∧ E g e σ1 h3 (fun y h4 => Kp S h3 h4 ∧ J h4 ∧ Y (i + 1) (ys ++ [y])) noX))) noX)
    (fin : ∀ ys hF, Y xs.length ys → Kp S h hF → J hF → hF[h.length]? = some (.lst ys) → P (.ref h.length) hF) : LC g p c e σ src h P := by
  have main := lc_go (g := g) (c := c) (e := e) (σ := σ) (p := p) (src := src) (xs := xs) (acc := h.length) (fun i ys h2 => Y i ys ∧ ys.length ≤ i ∧ Kp S h h2 ∧ J h2 ∧ h2[h.length]? = some (.lst ys))
    (fun i ys h2 ⟨_, _, k, j, _⟩ hi => hd h2 k j i hi) (fun i x ys h2 hx ⟨y, ly, k, j, ac⟩ => by
      have hi : i < xs.length := (List.getElem?_eq_some_iff.mp hx).1
      obtain ⟨σ1, e1, w⟩ := step i x ys h2 hx y k j ac
      refine ⟨σ1, e1, RE.imp w fun b h3 ⟨k3, j3, w⟩ => ?_⟩
      rcases w with ⟨rfl, w⟩ | ⟨rfl, w⟩
      · exact .inl ⟨rfl, w, by omega, k.trans k3, j3, k3.get ac hS⟩
      · refine .inr ⟨rfl, RE.imp w fun v h4 ⟨k4, j4, w⟩ => ?_⟩
        have ac4 := k4.get (k3.get ac hS) hS
        exact ⟨ac4, by omega, w, by simp; omega, ((k.trans k3).trans k4).set (.inr (Nat.le_refl _)) _, hJ _ _ j4, by rw [List.getElem?_set_self (lt_of_get ac4)]⟩) wf 0 [] (h ++ [.lst []]) (Nat.zero_le _) (by omega) ⟨Y0, Nat.le_refl _, .app _, hJ0, by simp⟩
  obtain ⟨ys, h', z, y, _, k, j, ac⟩ := main
  exact ⟨h', z, fin ys h' y k j ac⟩
end
/-! ### calls -/
@[irreducible] noncomputable def cF (T : SubT) (P : List Df) (n : Nat) : Nat → List D → AH → R D := callN T P n
noncomputable abbrev gN (T : SubT) (P : List Df) (n : Nat) : Gs := ⟨cF T P n, T, none⟩
theorem cF_eq (T : SubT) (P : List Df) (n : Nat) : cF T P n = callN T P n := by unfold cF; rfl
theorem cF_wp {T : SubT} {L : List Df} {n f : Nat} {ds : List D} {h : AH} {d : Df} {P : D → AH → Prop} {X : XE} (e : L[f]? = some d) (hl : ds.length = d.np)
    (w : W (gN T L n) d.body (startD d.N.length ds) h ⟨fun _ h => P .non h, P, fun _ _ => False, fun _ _ => False, fun c fs vs _ h => X c fs vs h⟩) : RE (cF T L (n + 1) f ds h) P X := by
  rw [cF_eq, callN_eq e hl]
  unfold W gN at w
  rw [cF_eq] at w
  cases q : exec ⟨callN T L n, T, none⟩ d.body (startD d.N.length ds) h with
  | nx => rw [q] at w; exact w
  | rt => rw [q] at w; exact w
  | exc => rw [q] at w; exact w
  | bk => rw [q] at w; exact w
  | ct => rw [q] at w; exact w
  | bad => rw [q] at w; exact w
end Ly
end
section
set_option Elab.async false
set_option linter.all false
set_option maxRecDepth 100000
set_option maxHeartbeats 1000000
/-! LyX: answers of the built-in steps. -/
namespace Ly
open PySem
section
variable {g : Gs} {σ : Sg} {h : AH} {P : D → AH → Prop} {X : XE} {A B : Prop}
theorem bl_if {c : Prop} [Decidable c] (h1 : c → A) (h2 : ¬ c → B) : ∃ k, D.bl (decide c) = .bl k ∧ (k = true → A) ∧ (k = false → B) := ⟨decide c, rfl, fun z => h1 (of_decide_eq_true z), fun z => h2 (of_decide_eq_false z)⟩
theorem bl_b {b : Bool} (h1 : b = true → A) (h2 : b = false → B) : ∃ k, D.bl b = .bl k ∧ (k = true → A) ∧ (k = false → B) := ⟨b, rfl, h1, h2⟩
theorem bl_t {b : Bool} (e : b = true) (h1 : A) : ∃ k, D.bl b = .bl k ∧ (k = true → A) ∧ (k = false → B) := ⟨b, rfl, fun _ => h1, fun z => by rw [e] at z; cases z⟩
theorem bl_f {b : Bool} (e : b = false) (h1 : B) : ∃ k, D.bl b = .bl k ∧ (k = true → A) ∧ (k = false → B) := ⟨b, rfl, (fun z => by rw [e] at z; cases z), fun _ => h1⟩
theorem bl_y {c : Prop} [Decidable c] (e : c) (h1 : A) : ∃ k, D.bl (decide c) = .bl k ∧ (k = true → A) ∧ (k = false → B) := bl_t (decide_eq_true e) h1
theorem bl_n {c : Prop} [Decidable c] (e : ¬ c) (h1 : B) : ∃ k, D.bl (decide c) = .bl k ∧ (k = true → A) ∧ (k = false → B) := bl_f (decide_eq_false e) h1
theorem cj_t {b : Bool} (e : b = true) (w : A) : (b = true → A) ∧ (b = false → B) := ⟨fun _ => w, fun z => by rw [e] at z; cases z⟩
theorem cj_f {b : Bool} (e : b = false) (w : B) : (b = true → A) ∧ (b = false → B) := ⟨(fun z => by rw [e] at z; cases z), fun _ => w⟩
theorem cj_y {c : Prop} [Decidable c] (e : c) (w : A) : (decide c = true → A) ∧ (decide c = false → B) := cj_t (decide_eq_true e) w
theorem cj_n {c : Prop} [Decidable c] (e : ¬ c) (w : B) : (decide c = true → A) ∧ (decide c = false → B) := cj_f (decide_eq_false e) w
theorem cj_if {c : Prop} [Decidable c] (h1 : c → A) (h2 : ¬ c → B) : (decide c = true → A) ∧ (decide c = false → B) := ⟨fun z => h1 (of_decide_eq_true z), fun z => h2 (of_decide_eq_false z)⟩
theorem bl_1 {b : Bool} {R : Bool → Prop} (w : R b) : ∃ i, D.bl b = .bl i ∧ R i := ⟨b, rfl, w⟩
theorem tr_1 {d : D} {b : Bool} {R : Bool → Prop} (e : truS d h = some b) (w : R b) : ∃ k, truS d h = some k ∧ R k := ⟨b, e, w⟩
theorem tr_b {b : Bool} {R : Bool → Prop} (w : R b) : ∃ k, truS (.bl b) h = some k ∧ R k := ⟨b, rfl, w⟩
theorem asg_go {p : Pat} {d : D} {σ σ' : Sg} {K : Sg → AH → Prop} (e : bindP p d σ = some σ') (w : K σ' h) : ∃ σ', bindP p d σ = some σ' ∧ K σ' h := ⟨σ', e, w⟩
theorem tup_go {ds : List D} (e : ds.length ≤ 16777216) (w : A) : ds.length ≤ 16777216 ∧ A := ⟨e, w⟩
theorem isi_go {d : D} {t : Bt} {R : Bt → Prop} (e : tyOf h d = some t) (w : R t) : ∃ t, tyOf h d = some t ∧ R t := ⟨t, e, w⟩
theorem neg_go {i : Int} {R : Int → Prop} (w : R i) : ∃ j, D.int i = .int j ∧ R j := ⟨i, rfl, w⟩
theorem RE_augA {i j : Int} (w : P (.int (i + j)) h) : RE (augS .Add (.int i) (.int j) h) P X := w
theorem RE_max2 {i j : Int} (w : P (.int (if j > i then j else i)) h) : RE (biS .max2 [.int i, .int j] h) P X := w
theorem RE_min2 {i j : Int} (w : P (.int (if j < i then j else i)) h) : RE (biS .min2 [.int i, .int j] h) P X := w
theorem RE_cat {xs ys : List D} (l : xs.length + ys.length ≤ 16777216) (w : P (.tup (xs ++ ys)) h) : RE (bopS .Add (.tup xs) (.tup ys) h) P X := by
  show RE (if xs.length + ys.length ≤ 16777216 then .ok (.tup (xs ++ ys)) h else .bad) P X
  rw [if_pos l]; exact w
theorem RE_catL {n m : Nat} {xs ys : List D} (e : h[n]? = some (.lst xs)) (e2 : h[m]? = some (.lst ys)) (l : xs.length + ys.length ≤ 16777216) (w : P (.ref h.length) (h ++ [.lst (xs ++ ys)])) : RE (bopS .Add (.ref n) (.ref m) h) P X := by
  show RE (match h[n]?, h[m]? with
      | some (.lst xs), some (.lst ys) => if xs.length + ys.length ≤ 16777216 then .ok (.ref h.length) (h ++ [.lst (xs ++ ys)]) else .bad
      | _, _ => .bad) P X
  rw [e, e2]
  dsimp only
  rw [if_pos l]; exact w
theorem RE_repT {xs : List D} {k : Int} (hk : -1000 ≤ k ∧ k ≤ 1000) (l : xs.length ≤ 1000) (w : P (.tup (List.replicate k.toNat xs).flatten) h) : RE (bopS .Mult (.tup xs) (.int k) h) P X := by
  show RE (if (-1000 ≤ k ∧ k ≤ 1000) ∧ xs.length ≤ 1000 then .ok (.tup (List.replicate k.toNat xs).flatten) h else .bad) P X
  rw [if_pos ⟨hk, l⟩]; exact w
theorem RE_isNo {d : D} {b : Bool} (hd : cmpS .IsNot d .non h = okB b h) (w : P (.bl b) h) : RE (cmpS .IsNot d .non h) P X := by rw [hd]; exact w
theorem RE_is0 (w : P (.bl true) h) : RE (cmpS .Is .non .non h) P X := w
theorem RE_is1 {i : Int} (w : P (.bl false) h) : RE (cmpS .Is (.int i) .non h) P X := w
theorem RE_is2 {i : List D} (w : P (.bl false) h) : RE (cmpS .Is (.tup i) .non h) P X := w
theorem RE_is3 {i : Nat} (w : P (.bl false) h) : RE (cmpS .Is (.ref i) .non h) P X := w
theorem RE_is4 {i : Bool} (w : P (.bl false) h) : RE (cmpS .Is (.bl i) .non h) P X := w
theorem RE_is5 {i : Str} (w : P (.bl false) h) : RE (cmpS .Is (.str i) .non h) P X := w
theorem RE_in0 (w : P (.bl false) h) : RE (cmpS .IsNot .non .non h) P X := w
theorem RE_in1 {i : Int} (w : P (.bl true) h) : RE (cmpS .IsNot (.int i) .non h) P X := w
theorem RE_in2 {i : List D} (w : P (.bl true) h) : RE (cmpS .IsNot (.tup i) .non h) P X := w
theorem RE_in3 {i : Nat} (w : P (.bl true) h) : RE (cmpS .IsNot (.ref i) .non h) P X := w
theorem RE_in4 {i : Bool} (w : P (.bl true) h) : RE (cmpS .IsNot (.bl i) .non h) P X := w
theorem RE_in5 {i : Str} (w : P (.bl true) h) : RE (cmpS .IsNot (.str i) .non h) P X := w
theorem RE_isB {a b : Bool} (w : P (.bl (decide (a = b))) h) : RE (cmpS .Is (.bl a) (.bl b) h) P X := w
theorem RE_inB {a b : Bool} (w : P (.bl (!decide (a = b))) h) : RE (cmpS .IsNot (.bl a) (.bl b) h) P X := w
theorem RE_pow {i j : Int} (hj : 0 ≤ j ∧ j ≤ 1000000 ∧ i.natAbs < 18446744073709551616) (w : P (.int (i ^ j.toNat)) h) : RE (bopS .Pow (.int i) (.int j) h) P X := by
  show RE (if 0 ≤ j ∧ j ≤ 1000000 ∧ i.natAbs < 18446744073709551616 then .ok (.int (i ^ j.toNat)) h else .bad) P X
  rw [if_pos hj]; exact w
theorem RE_len0 {xs : List D} (w : P (.int xs.length) h) : RE (biS .len [.tup xs] h) P X := w
theorem RE_len1 {xs : List D} (w : P (.int xs.length) h) : RE (biS .len [.rol xs] h) P X := w
theorem RE_seq0 {xs : List D} (w : P (.it 0 [.tup xs]) h) : RE (itS 0 [.tup xs] h) P X := w
theorem mulOkR (i j : Int) (h : -two64 < j ∧ j < two64) : mulOk i j = true := by
  unfold mulOk
  simp [h.1, h.2]
theorem mulOkL (i j : Int) (h : -two64 < i ∧ i < two64) : mulOk i j = true := by
  unfold mulOk
  simp [h.1, h.2]
theorem RE_add {i j : Int} (w : P (.int (i + j)) h) : RE (bopS .Add (.int i) (.int j) h) P X := w
theorem RE_sub {i j : Int} (w : P (.int (i - j)) h) : RE (bopS .Sub (.int i) (.int j) h) P X := w
theorem RE_lt {i j : Int} (w : P (.bl (decide (i < j))) h) : RE (cmpS .Lt (.int i) (.int j) h) P X := w
theorem RE_le {i j : Int} (w : P (.bl (decide (i ≤ j))) h) : RE (cmpS .LtE (.int i) (.int j) h) P X := w
theorem RE_gt {i j : Int} (w : P (.bl (decide (j < i))) h) : RE (cmpS .Gt (.int i) (.int j) h) P X := w
theorem RE_ge {i j : Int} (w : P (.bl (decide (j ≤ i))) h) : RE (cmpS .GtE (.int i) (.int j) h) P X := w
theorem eqv_int (i j : Int) : PyData.eqv (.int i) (.int j) = decide (i = j) := by
  by_cases c : i = j
  · subst c; simp [PyData.eqv]
  · rw [decide_eq_false c]; simp [PyData.eqv, c]
theorem eqv_str (i j : Str) : PyData.eqv (.str i) (.str j) = decide (i = j) := by
  by_cases c : i = j
  · subst c; simp [PyData.eqv]
  · rw [decide_eq_false c]; simp [PyData.eqv, c]
theorem RE_eqI {i j : Int} (w : P (.bl (decide (i = j))) h) : RE (cmpS .Eq (.int i) (.int j) h) P X := RE_eq rfl rfl rfl (by rw [eqv_int]; exact w)
theorem RE_neI {i j : Int} (w : P (.bl (!decide (i = j))) h) : RE (cmpS .NotEq (.int i) (.int j) h) P X := RE_ne rfl rfl rfl (by rw [eqv_int]; exact w)
theorem RE_eqS {i j : Str} (w : P (.bl (decide (i = j))) h) : RE (cmpS .Eq (.str i) (.str j) h) P X := RE_eq rfl rfl rfl (by rw [eqv_str]; exact w)
theorem RE_neS {i j : Str} (w : P (.bl (!decide (i = j))) h) : RE (cmpS .NotEq (.str i) (.str j) h) P X := RE_ne rfl rfl rfl (by rw [eqv_str]; exact w)
theorem RE_len {d : D} {xs : List D} (e : seqOf h d = some xs) (w : P (.int xs.length) h) : RE (biS .len [d] h) P X := by
  show RE (match seqOf h d with
    | some xs => .ok (.int xs.length) h
    | none => .bad) P X
  rw [e]; exact w
theorem RE_int {i : Int} (w : P (.int i) h) : RE (biS .int [.int i] h) P X := w
theorem RE_intb {b : Bool} (w : P (.int (if b then 1 else 0)) h) : RE (biS .int [.bl b] h) P X := w
theorem RE_tuple {d : D} {xs : List D} (e : seqOf h d = some xs) (w : P (.tup xs) h) : RE (biS .tuple [d] h) P X := by
  show RE (match seqOf h d with
    | some xs => .ok (.tup xs) h
    | none => .bad) P X
  rw [e]; exact w
theorem RE_list {d : D} {xs : List D} (e : seqOf h d = some xs) (w : P (.ref h.length) (h ++ [.lst xs])) : RE (biS .list [d] h) P X := by
  show RE (match seqOf h d with
    | some xs => .ok (.ref h.length) (h ++ [.lst xs])
    | none => .bad) P X
  rw [e]; exact w
theorem isLst_of {n : Nat} {xs : List D} (e : h[n]? = some (.lst xs)) : isLst h (.ref n) = true := by
  show (match h[n]? with
    | some (.lst _) => true
    | _ => false) = true
  rw [e]
theorem seq_ref {n : Nat} {xs : List D} (e : h[n]? = some (.lst xs)) : seqOf h (.ref n) = some xs := by
  show (match h[n]? with
    | some (.lst xs) => some xs
    | _ => none) = some xs
  rw [e]
theorem RE_append {n : Nat} {xs : List D} {d : D} (e : h[n]? = some (.lst xs)) (hl : xs.length < 16777216) (w : P .non (h.set n (.lst (xs ++ [d])))) : RE (mthS .append (.ref n) [d] h) P X := by
  show RE (match h[n]? with
    | some (.lst xs) => mth1 .append n xs d h
    | _ => .bad) P X
  rw [e]
  show RE (if xs.length < 16777216 then .ok .non (h.set n (.lst (xs ++ [d]))) else .bad) P X
  rw [if_pos hl]; exact w
theorem RE_extend {n m : Nat} {xs ys : List D} (e : h[n]? = some (.lst xs)) (e2 : h[m]? = some (.lst ys)) (hl : xs.length + ys.length ≤ 16777216) (w : P .non (h.set n (.lst (xs ++ ys)))) : RE (mthS .extend (.ref n) [.ref m] h) P X := by
  show RE (match h[n]? with
    | some (.lst xs) => mth1 .extend n xs (.ref m) h
    | _ => .bad) P X
  rw [e]
  show RE (match h[m]? with
      | some (.lst ys) => if xs.length + ys.length ≤ 16777216 then .ok .non (h.set n (.lst (xs ++ ys))) else .bad
      | _ => .bad) P X
  rw [e2]
  dsimp only
  rw [if_pos hl]; exact w
theorem RE_pop {n : Nat} {xs : List D} {d : D} (e : h[n]? = some (.lst (xs ++ [d]))) (w : P d (h.set n (.lst xs))) : RE (mthS .pop (.ref n) [] h) P X := by
  show RE (match h[n]? with
    | some (.lst xs) => mth0 .pop n xs h
    | _ => .bad) P X
  rw [e]
  show RE (match (xs ++ [d])[(xs ++ [d]).length - 1]? with
    | some d' => .ok d' (h.set n (.lst (xs ++ [d]).dropLast))
    | none => .bad) P X
  rw [show (xs ++ [d])[(xs ++ [d]).length - 1]? = some d by simp]
  simp only [List.dropLast_concat]
  exact w
theorem RE_reverse {n : Nat} {xs : List D} (e : h[n]? = some (.lst xs)) (w : P .non (h.set n (.lst xs.reverse))) : RE (mthS .reverse (.ref n) [] h) P X := by
  show RE (match h[n]? with
    | some (.lst xs) => mth0 .reverse n xs h
    | _ => .bad) P X
  rw [e]; exact w
theorem ints_of_map (is : List Int) : intsOf (is.map D.int) = some is := by
  unfold intsOf
  induction is with
  | nil => rfl
  | cons i is ih =>
    rw [List.map_cons]
    unfold optMap
    rw [ih]
theorem RE_sum {n : Nat} {is : List Int} (e : h[n]? = some (.lst (is.map .int))) (w : P (.int is.sum) h) : RE (biS .sum [.ref n] h) P X := by
  show RE (match h[n]? with
      | some (.lst xs) => (match intsOf xs with
        | some is => .ok (.int is.sum) h
        | none => .bad)
      | _ => .bad) P X
  rw [e]
  dsimp only
  rw [ints_of_map]; exact w
theorem RE_max1 {n : Nat} {i : Int} {is : List Int} (e : h[n]? = some (.lst ((i :: is).map .int))) (w : P (.int (is.foldl max i)) h) : RE (biS .max1 [.ref n] h) P X := by
  show RE (match h[n]? with
      | some (.lst xs) => (match intsOf xs with
        | some (i :: is) => .ok (.int (is.foldl max i)) h
        | _ => .bad)
      | _ => .bad) P X
  rw [e]
  dsimp only
  rw [ints_of_map]; exact w
theorem bls_of_map (is : List Bool) : blsOf (is.map D.bl) = some is := by
  unfold blsOf
  induction is with
  | nil => rfl
  | cons i is ih =>
    rw [List.map_cons]
    unfold optMap
    rw [ih]
theorem RE_all {n : Nat} {bs : List Bool} (e : h[n]? = some (.lst (bs.map .bl))) (w : P (.bl (bs.all id)) h) : RE (biS .all [.ref n] h) P X := by
  show RE (match h[n]? with
      | some (.lst xs) => (match blsOf xs with
        | some bs => okB (bs.all id) h
        | none => .bad)
      | _ => .bad) P X
  rw [e]
  dsimp only
  rw [bls_of_map]; exact w
theorem RE_any {n : Nat} {bs : List Bool} (e : h[n]? = some (.lst (bs.map .bl))) (w : P (.bl (bs.any id)) h) : RE (biS .any [.ref n] h) P X := by
  show RE (match h[n]? with
      | some (.lst xs) => (match blsOf xs with
        | some bs => okB (bs.any id) h
        | none => .bad)
      | _ => .bad) P X
  rw [e]
  dsimp only
  rw [bls_of_map]; exact w
/-- the truth of what is no None -/
theorem RE_isNon {d : D} {b : Bool} (hd : cmpS .Is d .non h = okB b h) (w : P (.bl b) h) : RE (cmpS .Is d .non h) P X := by rw [hd]; exact w
theorem RE_seq {d : D} {xs : List D} (e : seqOf h d = some xs) (w : P (.it 0 [d]) h) : RE (itS 0 [d] h) P X := by
  show RE (if isSeq h d = true then .ok (.it 0 [d]) h else .bad) P X
  have q : isSeq h d = true := by unfold isSeq; rw [e]; rfl
  rw [if_pos q]; exact w
theorem RE_rng {j : Int} (h1 : -4611686018427387904 ≤ j ∧ j < 4611686018427387904) (w : P (.it 1 [.int 0, .int j]) h) : RE (itS 1 [.int j] h) P X := by
  show RE (if -4611686018427387904 ≤ j ∧ j < 4611686018427387904 then .ok (.it 1 [.int 0, .int j]) h else .bad) P X
  rw [if_pos h1]; exact w
theorem RE_slT {d : List D} {l u : D} {lo hi : Option Int} (e1 : partOf l = some lo) (e2 : partOf u = some hi) (w : P (.tup (cutD d lo hi)) h) : RE (slcS (.tup d) l u h) P X := by
  show RE (match partOf l, partOf u with
    | some lo, some hi => .ok (.tup (cutD d lo hi)) h
    | _, _ => .bad) P X
  rw [e1, e2]; exact w
theorem draw_ref {n : Nat} {xs : List D} (e : h[n]? = some (.lst xs)) (i : Nat) : draw h (.it 0 [.ref n]) i = some xs[i]? := by
  show (match h[n]? with
    | some (.lst xs) => some xs
    | _ => none : Option (List D)).map (fun xs => xs[i]?) = _
  rw [e]; rfl
theorem draw_seq {d : D} {xs : List D} (e : seqOf h d = some xs) (i : Nat) : draw h (.it 0 [d]) i = some xs[i]? := by
  show (seqOf h d).map (fun xs => xs[i]?) = _
  rw [e]; rfl
/-- item by item -/
def Each (R : D → D → Prop) (xs ys : List D) : Prop := ys.length = xs.length ∧ ∀ (j : Nat) x y, xs[j]? = some x → ys[j]? = some y → R x y
theorem Each.map {f : D → D} {xs ys : List D} (e : Each (fun x y => y = f x) xs ys) : ys = xs.map f := by
  apply List.ext_getElem?
  intro j
  rw [List.getElem?_map]
  cases q : xs[j]? with
  | none =>
    have := List.getElem?_eq_none_iff.mp q
    rw [List.getElem?_eq_none (by rw [e.1]; exact this)]; rfl
  | some x =>
    have hj := (List.getElem?_eq_some_iff.mp q).1
    have hj2 : j < ys.length := by rw [e.1]; exact hj
    have hy : ys[j]? = some ys[j] := List.getElem?_eq_getElem hj2
    rw [hy]
    exact congrArg some (e.2 j x _ q hy)
theorem LC_gen {i : Nat} {e : CE} {src : D} (S : Nat → Prop) (J : AH → Prop) (R : D → D → Prop) (xs : List D) (hl : xs.length ≤ 10000000) (hS : ¬ S h.length) (hJ : ∀ h2 x, J h2 → J (h2.set h.length x)) (hJ0 : J (h ++ [.lst []]))
    (hd : ∀ h2, Kp S h h2 → J h2 → ∀ j, j ≤ xs.length → draw h2 src j = some xs[j]?)
    (step : ∀ x ∈ xs, ∀ h2, Kp S h h2 → J h2 → E g e ((σ.set i none).set i (some x)) h2 (fun y h3 => Kp S h2 h3 ∧ J h3 ∧ R x y) noX)
    (fin : ∀ ys hF, Each R xs ys → Kp S h hF → J hF → hF[h.length]? = some (.lst ys) → P (.ref h.length) hF) : LC g (.v i) (.cst (.bl true)) e σ src h P := by
  refine LC_keep S J (fun k ys => ys.length = k ∧ ∀ (j : Nat) x y, xs[j]? = some x → ys[j]? = some y → R x y) xs (lt_wf (by omega)) (by omega) hS hJ hJ0 ⟨rfl, fun j x y _ h => by simp at h⟩ hd (fun k x ys h2 hx hy kp j _ => ?_) (fun ys hF hy kp j ac => fin ys hF ⟨hy.1, hy.2⟩ kp j ac)
  refine ⟨_, rfl, E_cst ⟨.refl, j, .inr ⟨rfl, ?_⟩⟩⟩
  refine RE.imp (step x (List.mem_of_getElem? hx) h2 kp j) fun y h3 ⟨k3, j3, r⟩ => ⟨k3, j3, by simp [hy.1], fun q x' y' hx' hy' => ?_⟩
  by_cases c : q < ys.length
  · rw [List.getElem?_append_left c] at hy'
    exact hy.2 q x' y' hx' hy'
  · have e1 : q = ys.length := by
      have := (List.getElem?_eq_some_iff.mp hy').1
      simp at this; omega
    subst e1
    rw [hy.1, hx] at hx'
    cases hx'
    simp at hy'
    subst hy'; exact r
theorem LC_map {i : Nat} {e : CE} {src : D} (f : D → D) (xs : List D) (hl : xs.length ≤ 10000000) (hd : ∀ h2, Kp no1 h h2 → ∀ j, draw h2 src j = some xs[j]?)
    (step : ∀ x ∈ xs, ∀ h2, Kp no1 h h2 → E g e ((σ.set i none).set i (some x)) h2 (fun y h3 => Kp no1 h2 h3 ∧ y = f x) noX)
    (fin : ∀ hF, Kp no1 h hF → hF[h.length]? = some (.lst (xs.map f)) → P (.ref h.length) hF) : LC g (.v i) (.cst (.bl true)) e σ src h P :=
  LC_gen no1 (fun _ => True) (fun x y => y = f x) xs hl id (fun _ _ _ => trivial) trivial (fun h2 k _ j _ => hd h2 k j) (fun x hx h2 k _ => RE.imp (step x hx h2 k) fun y h3 q => ⟨q.1, trivial, q.2⟩)
    fun ys hF ee k _ ac => fin hF k (by rw [← ee.map]; exact ac)
end
end Ly
end
section
set_option Elab.async false
set_option linter.all false
set_option maxRecDepth 100000
set_option maxHeartbeats 0
namespace K07
open PySem PySem.Spec PyProof.Rows L2 Ly
def top (i : Nat) : Stmt := PySem.Challenge.pw_linkneed_k07_whole_values.main.body.getD i (.Pass ⟨0, 0, 0, 0⟩)
def clsBody : Stmt → List Stmt
  | .ClassDef _ _ _ b _ _ _ _ _ _ _ => b
  | _ => []
def sub (i j : Nat) : Stmt := (clsBody (top i)).getD j (.Pass ⟨0, 0, 0, 0⟩)
def c0 : CS := (.seq (.ret (.and_ (.isi (.var 0) [.int]) (.not_ (.isi (.var 0) [.bool]))))
    .skip)
def f0 : Fd := ⟨⟨"is_integer", ["thing"], 1, c0⟩, defArgs (top 7), defBody (top 7), defScope (top 7), ["thing"], []⟩
def c1 : CS := (.seq (.ret (.and_ (.call 0 (.cons (.var 0) .nil)) (.cmp .GtE (.var 0) (.cst (.int 0)))))
    .skip)
def f1 : Fd := ⟨⟨"is_number", ["thing"], 1, c1⟩, defArgs (top 8), defBody (top 8), defScope (top 8), ["thing"], []⟩
def c2 : CS := (.seq (.ret (.and_ (.call 1 (.cons (.var 0) .nil)) (.cmp .Lt (.var 0) (.cst (.int 65536)))))
    .skip)
def f2 : Fd := ⟨⟨"is_word", ["thing"], 1, c2⟩, defArgs (top 9), defBody (top 9), defScope (top 9), ["thing"], []⟩
def c3 : CS := (.seq (.ifS (.cmp .Eq (.var 0) (.cst (.str "word"))) (.seq (.ret (.cst (.int 1)))
    .skip) .skip)
    (.seq (.asg (.v 1) (.lc (.v 2) (.itr 0 (.cons (.var 0) .nil)) (.cst (.bl true)) (.bi .sum (.cons (.lc (.v 3) (.itr 0 (.cons (.var 2) .nil)) (.cst (.bl true)) (.call 3 (.cons (.var 3) .nil))) .nil))))
    (.seq (.ifS (.cmp .Eq (.bi .len (.cons (.var 1) .nil)) (.cst (.int 1))) (.seq (.ret (.sub (.var 1) (.cst (.int 0))))
    .skip) .skip)
    (.seq (.ret (.bop .Add (.cst (.int 1)) (.bi .max1 (.cons (.var 1) .nil))))
    .skip))))
def f3 : Fd := ⟨⟨"width_of", ["structure", "widths", "fields", "part"], 1, c3⟩, defArgs (top 11), defBody (top 11), defScope (top 11), ["structure"], []⟩
def c4 : CS := (.seq (.ifS (.or_ (.not_ (.tr (.isi (.var 1) [.tuple]))) (.cmp .NotEq (.bi .len (.cons (.var 1) .nil)) (.call 3 (.cons (.var 0) .nil)))) (.seq (.ret (.cst (.bl false)))
    .skip) .skip)
    (.seq (.ifS (.not_ (.tr (.bi .all (.cons (.lc (.v 2) (.itr 0 (.cons (.var 1) .nil)) (.cst (.bl true)) (.call 2 (.cons (.var 2) .nil))) .nil)))) (.seq (.ret (.cst (.bl false)))
    .skip) .skip)
    (.seq (.ret (.cmp .IsNot (.call 7 (.cons (.var 0) (.cons (.var 1) (.cons (.cst (.int 0)) .nil)))) (.cst (.non))))
    .skip)))
def f4 : Fd := ⟨⟨"is_value", ["structure", "words", "one"], 2, c4⟩, defArgs (top 13), defBody (top 13), defScope (top 13), ["structure", "words"], [(0, ["structure", "words"], [0, 1])]⟩
def c5 : CS := (.seq (.ifS (.not_ (.tr (.call 4 (.cons (.var 0) (.cons (.var 1) .nil))))) (.seq (.raise "NotUsable" ["word", "at"] (.cons (.cst (.str "words")) (.cons (.neg (.cst (.int 1))) .nil)))
    .skip) .skip)
    (.seq (.ret (.call 7 (.cons (.var 0) (.cons (.var 1) (.cons (.cst (.int 0)) .nil)))))
    .skip))
def f5 : Fd := ⟨⟨"nested_of", ["structure", "words"], 2, c5⟩, defArgs (top 14), defBody (top 14), defScope (top 14), ["structure", "words"], [(0, ["words", "structure"], [1, 0])]⟩
def c6 : CS := (.seq (.asg (.v 2) (.call 8 (.cons (.var 0) (.cons (.var 1) .nil))))
    (.seq (.ifS (.cmp .Is (.var 2) (.cst (.non))) (.seq (.raise "NotUsable" ["word", "at"] (.cons (.cst (.str "value")) (.cons (.neg (.cst (.int 1))) .nil)))
    .skip) .skip)
    (.seq (.ret (.bi .tuple (.cons (.var 2) .nil)))
    .skip)))
def f6 : Fd := ⟨⟨"flat_of", ["structure", "value", "words"], 2, c6⟩, defArgs (top 15), defBody (top 15), defScope (top 15), ["structure", "value"], [(0, ["value", "structure"], [1, 0])]⟩
def l7_0 : CS := (.seq (.asg (.v 8) (.call 7 (.cons (.var 4) (.cons (.var 1) (.cons (.var 7) .nil)))))
    (.seq (.ifS (.cmp .Is (.var 8) (.cst (.non))) (.seq (.ret (.cst (.non)))
    .skip) .skip)
    (.seq (.ex (.mth .append (.var 3) (.cons (.var 8) .nil)))
    (.seq (.aug 7 .Add (.call 3 (.cons (.var 4) .nil)))
    .skip))))
def c7 : CS := (.seq (.ifS (.cmp .Eq (.var 0) (.cst (.str "word"))) (.seq (.ret (.sub (.var 1) (.var 2)))
    .skip) .skip)
    (.seq (.asg (.tup (.cons (.v 6) (.cons (.v 7) .nil))) (.tup (.cons (.cst (.int 0)) (.cons (.var 2) .nil))))
    (.seq (.ifS (.cmp .Gt (.bi .len (.cons (.var 0) .nil)) (.cst (.int 1))) (.seq (.asg (.tup (.cons (.v 6) (.cons (.v 7) .nil))) (.tup (.cons (.sub (.var 1) (.var 2)) (.cons (.bop .Add (.var 2) (.cst (.int 1))) .nil))))
    (.seq (.ifS (.cmp .GtE (.var 6) (.bi .len (.cons (.var 0) .nil))) (.seq (.ret (.cst (.non)))
    .skip) .skip)
    .skip)) .skip)
    (.seq (.asg (.v 3) (.lst .nil))
    (.seq (.for_ (.v 4) (.itr 0 (.cons (.sub (.var 0) (.var 6)) .nil)) l7_0)
    (.seq (.asg (.v 5) (.slc (.var 1) (.var 7) (.bop .Add (.var 2) (.call 3 (.cons (.var 0) .nil)))))
    (.seq (.ifS (.not_ (.tr (.bi .all (.cons (.lc (.v 9) (.itr 0 (.cons (.var 5) .nil)) (.cst (.bl true)) (.cmp .Eq (.var 9) (.cst (.int 0)))) .nil)))) (.seq (.ret (.cst (.non)))
    .skip) .skip)
    (.seq (.ret (.tup (.cons (.var 6) (.cons (.bi .tuple (.cons (.var 3) .nil)) .nil))))
    .skip))))))))
def f7 : Fd := ⟨⟨"_nested", ["structure", "words", "start", "parts", "field", "left", "case", "place", "part", "one"], 3, c7⟩, defArgs (top 16), defBody (top 16), defScope (top 16), ["structure", "words", "start"], []⟩
def l8_0 : CS := (.seq (.asg (.v 7) (.call 8 (.cons (.var 5) (.cons (.var 6) .nil))))
    (.seq (.ifS (.cmp .Is (.var 7) (.cst (.non))) (.seq (.ret (.cst (.non)))
    .skip) .skip)
    (.seq (.ex (.mth .extend (.var 2) (.cons (.var 7) .nil)))
    .skip)))
def c8 : CS := (.seq (.ifS (.cmp .Eq (.var 0) (.cst (.str "word"))) (.seq (.ret (.ite (.tr (.call 2 (.cons (.var 1) .nil))) (.lst (.cons (.var 1) .nil)) (.cst (.non))))
    .skip) .skip)
    (.seq (.ifS (.not_ (.tr (.call 9 (.cons (.var 0) (.cons (.var 1) .nil))))) (.seq (.ret (.cst (.non)))
    .skip) .skip)
    (.seq (.asg (.tup (.cons (.v 3) (.cons (.v 4) .nil))) (.var 1))
    (.seq (.asg (.v 2) (.ite (.cmp .Gt (.bi .len (.cons (.var 0) .nil)) (.cst (.int 1))) (.lst (.cons (.var 3) .nil)) (.lst .nil)))
    (.seq (.for_ (.tup (.cons (.v 5) (.cons (.v 6) .nil))) (.itr 3 (.cons (.sub (.var 0) (.var 3)) (.cons (.var 4) .nil))) l8_0)
    (.seq (.ex (.mth .extend (.var 2) (.cons (.bop .Mult (.lst (.cons (.cst (.int 0)) .nil)) (.bop .Sub (.call 3 (.cons (.var 0) .nil)) (.bi .len (.cons (.var 2) .nil)))) .nil)))
    (.seq (.ret (.var 2))
    .skip)))))))
def f8 : Fd := ⟨⟨"_flat", ["structure", "value", "words", "case", "parts", "field", "part", "flat"], 2, c8⟩, defArgs (top 17), defBody (top 17), defScope (top 17), ["structure", "value"], []⟩
def c9 : CS := (.seq (.ifS (.or_ (.not_ (.tr (.isi (.var 1) [.tuple]))) (.cmp .NotEq (.bi .len (.cons (.var 1) .nil)) (.cst (.int 2)))) (.seq (.ret (.cst (.bl false)))
    .skip) .skip)
    (.seq (.asg (.tup (.cons (.v 2) (.cons (.v 3) .nil))) (.var 1))
    (.seq (.ifS (.or_ (.not_ (.tr (.call 1 (.cons (.var 2) .nil)))) (.cmp .GtE (.var 2) (.bi .len (.cons (.var 0) .nil)))) (.seq (.ret (.cst (.bl false)))
    .skip) .skip)
    (.seq (.ret (.and_ (.isi (.var 3) [.tuple]) (.cmp .Eq (.bi .len (.cons (.var 3) .nil)) (.bi .len (.cons (.sub (.var 0) (.var 2)) .nil)))))
    .skip))))
def f9 : Fd := ⟨⟨"_names_case", ["structure", "value", "case", "parts"], 2, c9⟩, defArgs (top 18), defBody (top 18), defScope (top 18), ["structure", "value"], []⟩
def l10_0 : CS := (.seq (.asg (.v 2) (.bop .Mod (.bop .Mult (.var 2) (.cst (.int 69621))) (.cst (.int 2147483587))))
    (.seq (.ex (.mth .append (.var 1) (.cons (.bop .Mod (.bop .FloorDiv (.var 2) (.cst (.int 17))) (.cst (.int 5040))) .nil)))
    .skip))
def l10_1 : CS := (.seq (.ifS (.cmp .Gt (.var 6) (.cst (.int 0))) (.seq (.ex (.mth .append (.var 1) (.cons (.bop .Mod (.bi .int (.cons (.var 6) .nil)) (.cst (.int 5040))) .nil)))
    (.seq (.asg (.v 6) (.bop .FloorDiv (.var 6) (.cst (.int 5040))))
    .skip)) .skip)
    .skip)
def l10_2 : CS := (.seq (.asg (.v 5) (.sub (.var 0) (.var 3)))
    (.seq (.asg (.v 2) (.bop .Mod (.bop .Add (.bop .Add (.bop .Mult (.var 2) (.cst (.int 7451))) (.bop .Mult (.bop .Mod (.bi .int (.cons (.var 5) .nil)) (.cst (.int 1000033))) (.bop .Add (.var 3) (.cst (.int 5))))) (.cst (.int 173))) (.cst (.int 2147483587))))
    (.seq (.ifS (.cmp .GtE (.var 5) (.bop .Pow (.cst (.int 10)) (.cst (.int 18)))) (.seq (.asg (.v 6) (.var 5))
    (.seq (.for_ (.v 4) (.itr 1 (.cons (.cst (.int 60)) .nil)) l10_1)
    .skip)) .skip)
    .skip)))
def c10 : CS := (.seq (.asg (.v 1) (.lst .nil))
    (.seq (.asg (.v 2) (.cst (.int 0)))
    (.seq (.for_ (.v 3) (.itr 1 (.cons (.bi .len (.cons (.var 0) .nil)) .nil)) l10_2)
    (.seq (.for_ (.v 4) (.itr 1 (.cons (.cst (.int 900)) .nil)) l10_0)
    (.seq (.ex (.mth .reverse (.var 1) .nil))
    (.seq (.ret (.var 1))
    .skip))))))
def f10 : Fd := ⟨⟨"_law_tape", ["_law_script", "_law_tape_here", "_law_state", "_law_at", "_law_k", "_law_cell", "_law_rest"], 1, c10⟩, defArgs (top 20), defBody (top 20), defScope (top 20), ["_law_script"], []⟩
def c11 : CS := (.seq (.ifS (.cmp .Gt (.bi .len (.cons (.var 0) .nil)) (.cst (.int 0))) (.seq (.ret (.bop .Mod (.bi .int (.cons (.mth .pop (.var 0) .nil) .nil)) (.var 1)))
    .skip) .skip)
    (.seq (.ret (.cst (.int 0)))
    .skip))
def f11 : Fd := ⟨⟨"_law_take", ["_law_tape_here", "_law_many"], 2, c11⟩, defArgs (top 21), defBody (top 21), defScope (top 21), ["_law_tape_here", "_law_many"], []⟩
def c12 : CS := (.seq (.asg (.v 1) (.call 11 (.cons (.var 0) (.cons (.cst (.int 6)) .nil))))
    (.seq (.ifS (.cmp .Eq (.var 1) (.cst (.int 0))) (.seq (.ret (.sub (.tup (.cons (.cst (.int 65535)) (.cons (.cst (.int 0)) (.cons (.cst (.int 256)) (.cons (.cst (.int 1)) .nil))))) (.call 11 (.cons (.var 0) (.cons (.cst (.int 4)) .nil)))))
    .skip) .skip)
    (.seq (.ifS (.cmp .Lt (.var 1) (.cst (.int 4))) (.seq (.ret (.call 11 (.cons (.var 0) (.cons (.cst (.int 5)) .nil))))
    .skip) .skip)
    (.seq (.ret (.bop .Mod (.bi .int (.cons (.bop .Add (.bop .Mult (.call 11 (.cons (.var 0) (.cons (.cst (.int 5040)) .nil))) (.cst (.int 5040))) (.call 11 (.cons (.var 0) (.cons (.cst (.int 5040)) .nil)))) .nil)) (.cst (.int 65536))))
    .skip))))
def f12 : Fd := ⟨⟨"_law_word", ["_law_tape_here", "_law_sort"], 1, c12⟩, defArgs (top 22), defBody (top 22), defScope (top 22), ["_law_tape_here"], []⟩
def l13_0 : CS := (.seq (.asg (.v 12) (.sub (.var 1) (.call 11 (.cons (.var 0) (.cons (.bi .len (.cons (.var 1) .nil)) .nil)))))
    (.seq (.ifS (.and_ (.cmp .Lt (.bop .Add (.var 9) (.sub (.var 12) (.cst (.int 1)))) (.cst (.int 8))) (.and_ (.cmp .Lt (.bop .Add (.var 4) (.sub (.var 12) (.cst (.int 2)))) (.cst (.int 44))) (.and_ (.cmp .Lt (.sub (.var 12) (.cst (.int 3))) (.cst (.int 3))) (.cmp .Lt (.bop .Mult (.var 10) (.sub (.var 12) (.cst (.int 4)))) (.cst (.int 25)))))) (.seq (.ex (.mth .append (.var 8) (.cons (.sub (.var 12) (.cst (.int 0))) .nil)))
    (.seq (.asg (.v 9) (.bop .Add (.var 9) (.sub (.var 12) (.cst (.int 1)))))
    (.seq (.asg (.v 4) (.bop .Add (.var 4) (.sub (.var 12) (.cst (.int 2)))))
    (.seq (.asg (.v 5) (.bi .max2 (.cons (.var 5) (.cons (.sub (.var 12) (.cst (.int 3))) .nil))))
    (.seq (.asg (.v 10) (.bop .Mult (.var 10) (.sub (.var 12) (.cst (.int 4)))))
    .skip))))) .skip)
    .skip))
def l13_1 : CS := (.seq (.asg (.v 8) (.lst .nil))
    (.seq (.asg (.v 9) (.cst (.int 0)))
    (.seq (.asg (.v 10) (.cst (.int 1)))
    (.seq (.asg (.v 4) (.bop .Add (.var 4) (.cst (.int 1))))
    (.seq (.for_ (.v 11) (.itr 1 (.cons (.sub (.tup (.cons (.cst (.int 1)) (.cons (.cst (.int 0)) (.cons (.cst (.int 2)) (.cons (.cst (.int 3)) (.cons (.cst (.int 1)) (.cons (.cst (.int 2)) (.cons (.cst (.int 6)) (.cons (.cst (.int 4)) .nil))))))))) (.call 11 (.cons (.var 0) (.cons (.cst (.int 8)) .nil)))) .nil)) l13_0)
    (.seq (.ex (.mth .append (.var 2) (.cons (.bi .tuple (.cons (.var 8) .nil)) .nil)))
    (.seq (.asg (.v 3) (.bi .max2 (.cons (.var 3) (.cons (.var 9) .nil))))
    (.seq (.asg (.v 6) (.bop .Add (.var 6) (.var 10)))
    .skip))))))))
def c13 : CS := (.seq (.asg (.v 2) (.lst .nil))
    (.seq (.asg (.v 3) (.cst (.int 0)))
    (.seq (.asg (.v 4) (.cst (.int 1)))
    (.seq (.asg (.v 5) (.cst (.int 0)))
    (.seq (.asg (.v 6) (.cst (.int 0)))
    (.seq (.for_ (.v 7) (.itr 1 (.cons (.sub (.tup (.cons (.cst (.int 1)) (.cons (.cst (.int 2)) (.cons (.cst (.int 3)) (.cons (.cst (.int 1)) (.cons (.cst (.int 4)) (.cons (.cst (.int 2)) (.cons (.cst (.int 6)) (.cons (.cst (.int 5)) .nil))))))))) (.call 11 (.cons (.var 0) (.cons (.cst (.int 8)) .nil)))) .nil)) l13_1)
    (.seq (.ifS (.cmp .Gt (.bi .len (.cons (.var 2) .nil)) (.cst (.int 1))) (.seq (.asg (.v 3) (.bop .Add (.var 3) (.cst (.int 1))))
    .skip) .skip)
    (.seq (.ret (.tup (.cons (.bi .tuple (.cons (.var 2) .nil)) (.cons (.var 3) (.cons (.var 4) (.cons (.bop .Add (.var 5) (.cst (.int 1))) (.cons (.var 6) .nil)))))))
    .skip))))))))
def f13 : Fd := ⟨⟨"_law_shape", ["_law_tape_here", "_law_known", "_law_cases", "_law_width", "_law_size", "_law_deep", "_law_ways", "_law_turn", "_law_fields", "_law_wide", "_law_many", "_law_k", "_law_one"], 2, c13⟩, defArgs (top 23), defBody (top 23), defScope (top 23), ["_law_tape_here", "_law_known"], []⟩
def l14_0 : CS := (.seq (.ex (.mth .append (.var 5) (.cons (.call 13 (.cons (.var 0) (.cons (.var 5) .nil))) .nil)))
    .skip)
def c14 : CS := (.seq (.asg (.v 1) (.tup (.cons (.tup .nil) (.cons (.tup (.cons (.cst (.str "word")) .nil)) .nil))))
    (.seq (.asg (.v 2) (.tup (.cons (.tup .nil) (.cons (.tup .nil) .nil))))
    (.seq (.asg (.v 3) (.tup (.cons (.tup (.cons (.var 2) (.cons (.var 1) .nil))) .nil)))
    (.seq (.asg (.v 4) (.tup (.cons (.tup (.cons (.tup .nil) .nil)) (.cons (.var 2) (.cons (.var 1) (.cons (.tup (.cons (.tup (.cons (.cst (.str "word")) (.cons (.var 1) (.cons (.cst (.str "word")) .nil)))) .nil)) (.cons (.tup (.cons (.tup (.cons (.cst (.str "word")) (.cons (.cst (.str "word")) (.cons (.cst (.str "word")) (.cons (.cst (.str "word")) (.cons (.cst (.str "word")) (.cons (.cst (.str "word")) .nil))))))) .nil)) (.cons (.tup (.cons (.tup .nil) (.cons (.tup .nil) (.cons (.tup (.cons (.cst (.str "word")) .nil)) (.cons (.tup .nil) (.cons (.tup (.cons (.var 1) (.cons (.var 1) .nil))) (.cons (.tup .nil) .nil))))))) (.cons (.tup (.cons (.tup (.cons (.var 1) (.cons (.tup (.cons (.tup (.cons (.cst (.str "word")) .nil)) .nil)) .nil))) (.cons (.tup (.cons (.var 3) .nil)) .nil))) .nil)))))))))
    (.seq (.asg (.v 5) (.lst (.cons (.tup (.cons (.cst (.str "word")) (.cons (.cst (.int 1)) (.cons (.cst (.int 1)) (.cons (.cst (.int 0)) (.cons (.cst (.int 1)) .nil)))))) .nil)))
    (.seq (.for_ (.v 6) (.itr 1 (.cons (.cst (.int 3)) .nil)) l14_0)
    (.seq (.ret (.bop .Add (.lc (.v 7) (.itr 0 (.cons (.var 5) .nil)) (.cst (.bl true)) (.sub (.var 7) (.cst (.int 0)))) (.lst (.cons (.sub (.var 4) (.call 11 (.cons (.var 0) (.cons (.cst (.int 7)) .nil)))) .nil))))
    .skip)))))))
def f14 : Fd := ⟨⟨"_law_frames", ["_law_tape_here", "_law_opt", "_law_flag", "_law_pair", "_law_written", "_law_known", "_law_turn", "_law_one"], 1, c14⟩, defArgs (top 24), defBody (top 24), defScope (top 24), ["_law_tape_here"], []⟩
def l15_0 : CS := (.seq (.ex (.mth .extend (.var 4) (.cons (.lc (.v 10) (.itr 0 (.cons (.sub (.var 1) (.var 5)) .nil)) (.cst (.bl true)) (.bop .Add (.bop .Add (.tup (.cons (.var 5) .nil)) (.var 10)) (.bop .Mult (.tup (.cons (.cst (.int 0)) .nil)) (.bop .Sub (.var 3) (.bi .len (.cons (.var 10) .nil)))))) .nil)))
    .skip)
def l15_1 : CS := (.seq (.ex (.mth .extend (.var 9) (.cons (.lc (.v 11) (.itr 0 (.cons (.var 8) .nil)) (.cst (.bl true)) (.bop .Add (.var 10) (.var 11))) .nil)))
    .skip)
def l15_2 : CS := (.seq (.asg (.v 8) (.call 15 (.cons (.var 7) .nil)))
    (.seq (.asg (.v 9) (.lst .nil))
    (.seq (.for_ (.v 10) (.itr 0 (.cons (.var 6) .nil)) l15_1)
    (.seq (.asg (.v 6) (.bi .list (.cons (.var 9) .nil)))
    .skip))))
def l15_3 : CS := (.seq (.asg (.v 6) (.lst (.cons (.tup .nil) .nil)))
    (.seq (.for_ (.v 7) (.itr 0 (.cons (.var 2) .nil)) l15_2)
    (.seq (.ex (.mth .append (.var 1) (.cons (.var 6) .nil)))
    .skip)))
def c15 : CS := (.seq (.ifS (.cmp .Eq (.var 0) (.cst (.str "word"))) (.seq (.ret (.lst (.cons (.tup (.cons (.cst (.non)) .nil)) .nil)))
    .skip) .skip)
    (.seq (.asg (.v 1) (.lst .nil))
    (.seq (.for_ (.v 2) (.itr 0 (.cons (.var 0) .nil)) l15_3)
    (.seq (.ifS (.cmp .Eq (.bi .len (.cons (.var 1) .nil)) (.cst (.int 1))) (.seq (.ret (.sub (.var 1) (.cst (.int 0))))
    .skip) .skip)
    (.seq (.asg (.v 3) (.bi .max1 (.cons (.lc (.v 6) (.itr 0 (.cons (.var 1) .nil)) (.cst (.bl true)) (.bi .len (.cons (.sub (.var 6) (.cst (.int 0))) .nil))) .nil)))
    (.seq (.asg (.v 4) (.lst .nil))
    (.seq (.for_ (.v 5) (.itr 1 (.cons (.bi .len (.cons (.var 1) .nil)) .nil)) l15_0)
    (.seq (.ret (.var 4))
    .skip))))))))
def f15 : Fd := ⟨⟨"_law_patterns", ["_law_frame", "_law_cases", "_law_fields", "_law_width", "_law_out", "_law_at", "_law_rows", "_law_field", "_law_more", "_law_longer", "_law_row", "_law_one"], 1, c15⟩, defArgs (top 25), defBody (top 25), defScope (top 25), ["_law_frame"], []⟩
def c16 : CS := (.seq (.ret (.and_ (.isi (.var 0) [.int]) (.and_ (.not_ (.isi (.var 0) [.bool])) (.and_ (.cmp .LtE (.cst (.int 0)) (.var 0)) (.cmp .Lt (.var 0) (.cst (.int 65536)))))))
    .skip)
def f16 : Fd := ⟨⟨"_law_is_word", ["_law_thing"], 1, c16⟩, defArgs (top 26), defBody (top 26), defScope (top 26), ["_law_thing"], []⟩
def l17_0 : CS := (.seq (.ifS (.cmp .Eq (.bi .len (.cons (.lc (.v 4) (.itr 1 (.cons (.bi .len (.cons (.var 3) .nil)) .nil)) (.and_ (.cmp .IsNot (.sub (.var 3) (.var 4)) (.cst (.non))) (.cmp .NotEq (.sub (.var 3) (.var 4)) (.sub (.var 1) (.var 4)))) (.var 4)) .nil)) (.cst (.int 0))) (.seq (.ret (.cst (.bl true)))
    .skip) .skip)
    .skip)
def l17_1 : CS := (.seq (.ifS (.not_ (.tr (.call 16 (.cons (.var 2) .nil)))) (.seq (.ret (.cst (.bl false)))
    .skip) .skip)
    .skip)
def c17 : CS := (.seq (.ifS (.or_ (.not_ (.tr (.isi (.var 1) [.tuple]))) (.cmp .NotEq (.bi .len (.cons (.var 1) .nil)) (.bi .len (.cons (.sub (.var 0) (.cst (.int 0))) .nil)))) (.seq (.ret (.cst (.bl false)))
    .skip) .skip)
    (.seq (.for_ (.v 2) (.itr 0 (.cons (.var 1) .nil)) l17_1)
    (.seq (.for_ (.v 3) (.itr 0 (.cons (.var 0) .nil)) l17_0)
    (.seq (.ret (.cst (.bl false)))
    .skip))))
def f17 : Fd := ⟨⟨"_law_fits", ["_law_patterns_here", "_law_thing", "_law_part", "_law_row", "_law_at"], 2, c17⟩, defArgs (top 27), defBody (top 27), defScope (top 27), ["_law_patterns_here", "_law_thing"], []⟩
def l18_0 : CS := (.seq (.ifS (.not_ (.tr (.call 18 (.cons (.sub (.var 2) (.var 3)) (.cons (.sub (.sub (.var 1) (.cst (.int 1))) (.var 3)) .nil))))) (.seq (.ret (.cst (.bl false)))
    .skip) .skip)
    .skip)
def c18 : CS := (.seq (.ifS (.cmp .Eq (.var 0) (.cst (.str "word"))) (.seq (.ret (.call 16 (.cons (.var 1) .nil)))
    .skip) .skip)
    (.seq (.ifS (.or_ (.not_ (.tr (.isi (.var 1) [.tuple]))) (.or_ (.cmp .NotEq (.bi .len (.cons (.var 1) .nil)) (.cst (.int 2))) (.or_ (.not_ (.tr (.call 16 (.cons (.sub (.var 1) (.cst (.int 0))) .nil)))) (.cmp .GtE (.sub (.var 1) (.cst (.int 0))) (.bi .len (.cons (.var 0) .nil)))))) (.seq (.ret (.cst (.bl false)))
    .skip) .skip)
    (.seq (.asg (.v 2) (.sub (.var 0) (.sub (.var 1) (.cst (.int 0)))))
    (.seq (.ifS (.or_ (.not_ (.tr (.isi (.sub (.var 1) (.cst (.int 1))) [.tuple]))) (.cmp .NotEq (.bi .len (.cons (.sub (.var 1) (.cst (.int 1))) .nil)) (.bi .len (.cons (.var 2) .nil)))) (.seq (.ret (.cst (.bl false)))
    .skip) .skip)
    (.seq (.for_ (.v 3) (.itr 1 (.cons (.bi .len (.cons (.var 2) .nil)) .nil)) l18_0)
    (.seq (.ret (.cst (.bl true)))
    .skip))))))
def f18 : Fd := ⟨⟨"_law_is_nested", ["_law_frame", "_law_thing", "_law_fields", "_law_at"], 2, c18⟩, defArgs (top 28), defBody (top 28), defScope (top 28), ["_law_frame", "_law_thing"], []⟩
def l19_0 : CS := (.seq (.asg (.v 8) (.call 19 (.cons (.var 0) (.cons (.var 6) (.cons (.bi .len (.cons (.sub (.call 15 (.cons (.var 6) .nil)) (.cst (.int 0))) .nil)) .nil)))))
    (.seq (.ex (.mth .append (.var 4) (.cons (.sub (.var 8) (.cst (.int 0))) .nil)))
    (.seq (.asg (.v 5) (.bop .Add (.var 5) (.sub (.var 8) (.cst (.int 1)))))
    .skip)))
def c19 : CS := (.seq (.ifS (.cmp .Eq (.var 1) (.cst (.str "word"))) (.seq (.asg (.v 7) (.call 12 (.cons (.var 0) .nil)))
    (.seq (.ret (.tup (.cons (.var 7) (.cons (.tup (.cons (.var 7) .nil)) .nil))))
    .skip)) .skip)
    (.seq (.asg (.v 3) (.call 11 (.cons (.var 0) (.cons (.bi .len (.cons (.var 1) .nil)) .nil))))
    (.seq (.asg (.v 4) (.lst .nil))
    (.seq (.asg (.v 5) (.tup .nil))
    (.seq (.for_ (.v 6) (.itr 0 (.cons (.sub (.var 1) (.var 3)) .nil)) l19_0)
    (.seq (.ifS (.cmp .Gt (.bi .len (.cons (.var 1) .nil)) (.cst (.int 1))) (.seq (.asg (.v 5) (.bop .Add (.tup (.cons (.var 3) .nil)) (.var 5)))
    (.seq (.asg (.v 5) (.bop .Add (.var 5) (.bop .Mult (.tup (.cons (.cst (.int 0)) .nil)) (.bop .Sub (.var 2) (.bi .len (.cons (.var 5) .nil))))))
    .skip)) .skip)
    (.seq (.ret (.tup (.cons (.tup (.cons (.var 3) (.cons (.bi .tuple (.cons (.var 4) .nil)) .nil))) (.cons (.var 5) .nil))))
    .skip)))))))
def f19 : Fd := ⟨⟨"_law_both", ["_law_tape_here", "_law_frame", "_law_width", "_law_case", "_law_parts", "_law_flat", "_law_field", "_law_word_here", "_law_two"], 3, c19⟩, defArgs (top 29), defBody (top 29), defScope (top 29), ["_law_tape_here", "_law_frame", "_law_width"], []⟩
def c20 : CS := (.seq (.asg (.v 4) (.lst .nil))
    (.seq (.try_ (.seq (.ifS (.tr (.var 0)) (.seq (.ex (.mth .append (.var 4) (.cons (.call 6 (.cons (.var 1) (.cons (.var 2) .nil))) .nil)))
    .skip) (.seq (.ex (.mth .append (.var 4) (.cons (.call 5 (.cons (.var 1) (.cons (.var 2) .nil))) .nil)))
    .skip))
    (.seq (.ret (.cst (.bl false)))
    .skip)) "NeedError" 5 (.seq (.ifS (.or_ (.not_ (.tr (.isE ["NotUsable"]))) (.or_ (.not_ (.tr (.isE ["UnitError"]))) (.tr (.isE ["LinkError"])))) (.seq (.ret (.cst (.bl false)))
    .skip) .skip)
    (.seq (.ret (.and_ (.cmp .Eq (.fld "word") (.var 3)) (.cmp .Eq (.fld "at") (.neg (.cst (.int 1))))))
    .skip)))
    .skip))
def f20 : Fd := ⟨⟨"_law_refused", ["_law_nested", "_law_frame", "_law_thing", "_law_name", "_law_told", "e"], 4, c20⟩, defArgs (top 30), defBody (top 30), defScope (top 30), ["_law_nested", "_law_frame", "_law_thing", "_law_name"], []⟩
def l21_0 : CS := (.seq (.ex (.mth .append (.var 3) (.cons (.bop .Add (.bop .Add (.slc (.var 1) (.cst (.it 9 [])) (.var 2)) (.tup (.cons (.var 4) .nil))) (.slc (.var 1) (.bop .Add (.var 2) (.cst (.int 1))) (.cst (.it 9 [])))) .nil)))
    .skip)
def c21 : CS := (.seq (.asg (.v 2) (.call 11 (.cons (.var 0) (.cons (.bop .Add (.bi .len (.cons (.var 1) .nil)) (.cst (.int 1))) .nil))))
    (.seq (.asg (.v 3) (.lst (.cons (.bop .Add (.var 1) (.tup (.cons (.cst (.int 0)) .nil))) (.cons (.slc (.var 1) (.cst (.it 9 [])) (.neg (.cst (.int 1)))) (.cons (.bi .list (.cons (.var 1) .nil)) (.cons (.cst (.non)) (.cons (.tup (.cons (.var 1) .nil)) (.cons (.bop .Add (.var 1) (.tup (.cons (.cst (.bl true)) .nil))) (.cons (.bi .tuple (.cons (.lc (.v 5) (.itr 0 (.cons (.var 1) .nil)) (.cst (.bl true)) (.cst (.int 0))) .nil)) .nil)))))))))
    (.seq (.ex (.mth .append (.var 3) (.cons (.bi .tuple (.cons (.lc (.v 5) (.itr 0 (.cons (.var 1) .nil)) (.cst (.bl true)) (.call 11 (.cons (.var 0) (.cons (.cst (.int 4)) .nil)))) .nil)) .nil)))
    (.seq (.ex (.mth .append (.var 3) (.cons (.bi .tuple (.cons (.lc (.v 5) (.itr 0 (.cons (.var 1) .nil)) (.cst (.bl true)) (.call 11 (.cons (.var 0) (.cons (.cst (.int 3)) .nil)))) .nil)) .nil)))
    (.seq (.ifS (.cmp .Lt (.var 2) (.bi .len (.cons (.var 1) .nil))) (.seq (.for_ (.v 4) (.itr 0 (.cons (.tup (.cons (.bop .Add (.sub (.var 1) (.var 2)) (.cst (.int 1))) (.cons (.cst (.int 1)) (.cons (.cst (.int 0)) (.cons (.cst (.int 65536)) (.cons (.neg (.cst (.int 1))) (.cons (.cst (.bl false)) (.cons (.cst (.bl true)) (.cons (.cst (.non)) (.cons (.cst (.str "0")) (.cons (.tup (.cons (.sub (.var 1) (.var 2)) .nil)) (.cons (.call 11 (.cons (.var 0) (.cons (.cst (.int 6)) .nil))) .nil)))))))))))) .nil)) l21_0)
    .skip) .skip)
    (.seq (.ret (.var 3))
    .skip))))))
def f21 : Fd := ⟨⟨"_law_bent_words", ["_law_tape_here", "_law_flat", "_law_at", "_law_bent", "_law_thing", "_law_word_here"], 2, c21⟩, defArgs (top 31), defBody (top 31), defScope (top 31), ["_law_tape_here", "_law_flat"], []⟩
def l22_0 : CS := (.seq (.ex (.mth .append (.var 4) (.cons (.tup (.cons (.var 5) (.cons (.bop .Add (.bop .Add (.slc (.var 6) (.cst (.it 9 [])) (.var 7)) (.tup (.cons (.var 8) .nil))) (.slc (.var 6) (.bop .Add (.var 7) (.cst (.int 1))) (.cst (.it 9 [])))) .nil))) .nil)))
    .skip)
def c22 : CS := (.seq (.asg (.v 4) (.lst (.cons (.cst (.non)) (.cons (.bi .list (.cons (.var 2) .nil)) (.cons (.tup (.cons (.var 1) .nil)) (.cons (.tup (.cons (.var 1) (.cons (.tup .nil) .nil))) (.cons (.cst (.bl true)) (.cons (.cst (.int 65536)) (.cons (.neg (.cst (.int 1))) (.cons (.cst (.str "word")) (.cons (.var 2) .nil)))))))))))
    (.seq (.ifS (.cmp .Eq (.var 3) (.cst (.str "word"))) (.seq (.ret (.var 4))
    .skip) .skip)
    (.seq (.asg (.v 5) (.sub (.var 1) (.cst (.int 0))))
    (.seq (.asg (.v 6) (.sub (.var 1) (.cst (.int 1))))
    (.seq (.ex (.mth .extend (.var 4) (.cons (.lst (.cons (.bi .list (.cons (.var 1) .nil)) (.cons (.tup (.cons (.var 5) (.cons (.bi .list (.cons (.var 6) .nil)) .nil))) (.cons (.tup (.cons (.var 5) (.cons (.var 6) (.cons (.tup .nil) .nil)))) (.cons (.tup (.cons (.bi .len (.cons (.var 3) .nil)) (.cons (.var 6) .nil))) (.cons (.tup (.cons (.cmp .Eq (.var 5) (.cst (.int 1))) (.cons (.var 6) .nil))) .nil)))))) .nil)))
    (.seq (.ex (.mth .extend (.var 4) (.cons (.lst (.cons (.tup (.cons (.var 5) (.cons (.bop .Add (.var 6) (.tup (.cons (.cst (.int 0)) .nil))) .nil))) (.cons (.tup (.cons (.bop .Add (.var 5) (.cst (.int 1))) (.cons (.var 6) .nil))) (.cons (.tup (.cons (.neg (.cst (.int 1))) (.cons (.var 6) .nil))) (.cons (.tup (.cons (.var 5) (.cons (.slc (.var 6) (.cst (.it 9 [])) (.neg (.cst (.int 1)))) .nil))) .nil))))) .nil)))
    (.seq (.ex (.mth .extend (.var 4) (.cons (.lst (.cons (.tup (.cons (.var 5) .nil)) (.cons (.tup (.cons (.cst (.int 0)) (.cons (.var 6) .nil))) (.cons (.tup (.cons (.cst (.int 0)) (.cons (.tup .nil) .nil))) .nil)))) .nil)))
    (.seq (.ifS (.cmp .Gt (.bi .len (.cons (.var 6) .nil)) (.cst (.int 0))) (.seq (.asg (.v 7) (.call 11 (.cons (.var 0) (.cons (.bi .len (.cons (.var 6) .nil)) .nil))))
    (.seq (.for_ (.v 8) (.itr 0 (.cons (.tup (.cons (.cst (.bl true)) (.cons (.cst (.int 65536)) (.cons (.cst (.int 7)) (.cons (.tup (.cons (.cst (.int 0)) (.cons (.tup .nil) .nil))) (.cons (.tup (.cons (.cst (.int 1)) (.cons (.tup .nil) .nil))) (.cons (.tup (.cons (.cst (.int 1)) (.cons (.tup (.cons (.cst (.int 7)) .nil)) .nil))) (.cons (.tup (.cons (.cst (.int 0)) (.cons (.tup (.cons (.cst (.int 7)) .nil)) .nil))) (.cons (.cst (.non)) .nil))))))))) .nil)) l22_0)
    .skip)) .skip)
    (.seq (.ret (.var 4))
    .skip)))))))))
def f22 : Fd := ⟨⟨"_law_bent_parts", ["_law_tape_here", "_law_nested", "_law_flat", "_law_frame", "_law_bent", "_law_case", "_law_parts", "_law_at", "_law_thing"], 4, c22⟩, defArgs (top 32), defBody (top 32), defScope (top 32), ["_law_tape_here", "_law_nested", "_law_flat", "_law_frame"], []⟩
def l23_0 : CS := (.seq (.ifS (.tr (.call 18 (.cons (.var 1) (.cons (.var 5) .nil)))) (.seq (.asg (.v 9) (.call 6 (.cons (.var 1) (.cons (.var 5) .nil))))
    (.seq (.ifS (.or_ (.not_ (.tr (.call 17 (.cons (.var 2) (.cons (.var 9) .nil))))) (.cmp .NotEq (.bi .repr (.cons (.call 5 (.cons (.var 1) (.cons (.var 9) .nil))) .nil)) (.bi .repr (.cons (.var 5) .nil)))) (.seq (.ret (.cst (.bl false)))
    .skip) .skip)
    .skip)) (.seq (.ifS (.not_ (.tr (.call 20 (.cons (.cst (.bl true)) (.cons (.var 1) (.cons (.var 5) (.cons (.cst (.str "value")) .nil))))))) (.seq (.ret (.cst (.bl false)))
    .skip) .skip)
    .skip))
    .skip)
def l23_1 : CS := (.seq (.asg (.v 7) (.call 17 (.cons (.var 2) (.cons (.var 5) .nil))))
    (.seq (.asg (.v 8) (.call 4 (.cons (.var 1) (.cons (.var 5) .nil))))
    (.seq (.ifS (.or_ (.and_ (.cmp .IsNot (.var 8) (.cst (.bl true))) (.cmp .IsNot (.var 8) (.cst (.bl false)))) (.cmp .NotEq (.var 8) (.var 7))) (.seq (.ret (.cst (.bl false)))
    .skip) .skip)
    (.seq (.ifS (.and_ (.tr (.var 7)) (.cmp .NotEq (.bi .repr (.cons (.call 6 (.cons (.var 1) (.cons (.call 5 (.cons (.var 1) (.cons (.var 5) .nil))) .nil))) .nil)) (.bi .repr (.cons (.var 5) .nil)))) (.seq (.ret (.cst (.bl false)))
    .skip) .skip)
    (.seq (.ifS (.and_ (.not_ (.tr (.var 7))) (.not_ (.tr (.call 20 (.cons (.cst (.bl false)) (.cons (.var 1) (.cons (.var 5) (.cons (.cst (.str "words")) .nil)))))))) (.seq (.ret (.cst (.bl false)))
    .skip) .skip)
    .skip)))))
def l23_2 : CS := (.seq (.asg (.v 6) (.call 19 (.cons (.var 0) (.cons (.var 1) (.cons (.bi .len (.cons (.sub (.var 2) (.cst (.int 0))) .nil)) .nil)))))
    (.seq (.ifS (.cmp .IsNot (.callk 4 [0, 1] .nil (.cons (.var 1) (.cons (.sub (.var 6) (.cst (.int 1))) .nil))) (.cst (.bl true))) (.seq (.ret (.cst (.bl false)))
    .skip) .skip)
    (.seq (.ifS (.cmp .NotEq (.bi .repr (.cons (.callk 5 [1, 0] .nil (.cons (.sub (.var 6) (.cst (.int 1))) (.cons (.var 1) .nil))) .nil)) (.bi .repr (.cons (.sub (.var 6) (.cst (.int 0))) .nil))) (.seq (.ret (.cst (.bl false)))
    .skip) .skip)
    (.seq (.ifS (.cmp .NotEq (.bi .repr (.cons (.callk 6 [1, 0] .nil (.cons (.sub (.var 6) (.cst (.int 0))) (.cons (.var 1) .nil))) .nil)) (.bi .repr (.cons (.sub (.var 6) (.cst (.int 1))) .nil))) (.seq (.ret (.cst (.bl false)))
    .skip) .skip)
    .skip))))
def c23 : CS := (.seq (.asg (.v 2) (.call 15 (.cons (.var 1) .nil)))
    (.seq (.for_ (.v 3) (.itr 1 (.cons (.cst (.int 3)) .nil)) l23_2)
    (.seq (.asg (.v 4) (.call 21 (.cons (.var 0) (.cons (.sub (.var 6) (.cst (.int 1))) .nil))))
    (.seq (.for_ (.v 5) (.itr 0 (.cons (.var 4) .nil)) l23_1)
    (.seq (.for_ (.v 5) (.itr 0 (.cons (.call 22 (.cons (.var 0) (.cons (.sub (.var 6) (.cst (.int 0))) (.cons (.sub (.var 6) (.cst (.int 1))) (.cons (.var 1) .nil))))) .nil)) l23_0)
    (.seq (.ret (.cst (.bl true)))
    .skip))))))
def f23 : Fd := ⟨⟨"_law_judged", ["_law_tape_here", "_law_frame", "_law_patterns_here", "_law_turn", "_law_bent", "_law_thing", "_law_two", "_law_fits_here", "_law_told", "_law_flat"], 2, c23⟩, defArgs (top 33), defBody (top 33), defScope (top 33), ["_law_tape_here", "_law_frame"], []⟩
def l24_0 : CS := (.seq (.ifS (.not_ (.tr (.call 23 (.cons (.var 1) (.cons (.var 2) .nil))))) (.seq (.ret (.cst (.bl false)))
    .skip) .skip)
    .skip)
def c24 : CS := (.seq (.asg (.v 1) (.call 10 (.cons (.var 0) .nil)))
    (.seq (.for_ (.v 2) (.itr 0 (.cons (.call 14 (.cons (.var 1) .nil)) .nil)) l24_0)
    (.seq (.ret (.cst (.bl true)))
    .skip)))
def f24 : Fd := ⟨⟨"law", ["_law_script", "_law_tape_here", "_law_frame"], 1, c24⟩, defArgs (top 34), defBody (top 34), defScope (top 34), ["_law_script"], []⟩
def m : Md where
  fs := [f0, f1, f2, f3, f4, f5, f6, f7, f8, f9, f10, f11, f12, f13, f14, f15, f16, f17, f18, f19, f20, f21, f22, f23, f24]
  cs := [("WORDS", .int 65536)]
  free := ["all", "bool", "int", "isinstance", "len", "list", "max", "range", "repr", "sum", "tuple", "zip"]
  cls := ["LinkError", "NeedError", "NotUsable", "UnitError"]
  flds := ["at", "word"]
  errs := [("NotUsable", ["word", "at"])]
  T := [("NotUsable", "LinkError", false), ("NotUsable", "NeedError", true), ("NotUsable", "NotUsable", true), ("NotUsable", "UnitError", true)]
theorem ok0 : m.okF f0 = true := by kernel_rfl
theorem ok1 : m.okF f1 = true := by kernel_rfl
theorem ok2 : m.okF f2 = true := by kernel_rfl
theorem ok3 : m.okF f3 = true := by kernel_rfl
theorem ok4 : m.okF f4 = true := by kernel_rfl
theorem ok5 : m.okF f5 = true := by kernel_rfl
theorem ok6 : m.okF f6 = true := by kernel_rfl
theorem ok7 : m.okF f7 = true := by kernel_rfl
theorem ok8 : m.okF f8 = true := by kernel_rfl
theorem ok9 : m.okF f9 = true := by kernel_rfl
theorem ok10 : m.okF f10 = true := by kernel_rfl
theorem ok11 : m.okF f11 = true := by kernel_rfl
theorem ok12 : m.okF f12 = true := by kernel_rfl
theorem ok13 : m.okF f13 = true := by kernel_rfl
theorem ok14 : m.okF f14 = true := by kernel_rfl
theorem ok15 : m.okF f15 = true := by kernel_rfl
theorem ok16 : m.okF f16 = true := by kernel_rfl
theorem ok17 : m.okF f17 = true := by kernel_rfl
theorem ok18 : m.okF f18 = true := by kernel_rfl
theorem ok19 : m.okF f19 = true := by kernel_rfl
theorem ok20 : m.okF f20 = true := by kernel_rfl
theorem ok21 : m.okF f21 = true := by kernel_rfl
theorem ok22 : m.okF f22 = true := by kernel_rfl
theorem ok23 : m.okF f23 = true := by kernel_rfl
theorem ok24 : m.okF f24 = true := by kernel_rfl
theorem m_ok : m.ok = true := by
  unfold Md.ok m
  simp only [List.all_cons, List.all_nil, Bool.and_true, Bool.and_eq_true]
  exact ⟨ok0, ok1, ok2, ok3, ok4, ok5, ok6, ok7, ok8, ok9, ok10, ok11, ok12, ok13, ok14, ok15, ok16, ok17, ok18, ok19, ok20, ok21, ok22, ok23, ok24⟩
def e0 : IniD := ⟨"NotUsable", ["word", "at"], "NotUsable.__init__", defArgs (sub 4 0), defBody (sub 4 0), defScope (sub 4 0)⟩
theorem io0 : IniOk e0 where
  sm := by decide
  nz := by decide
  tx := ⟨_, _, _, _, _, _, _, _, _, _, rfl, rfl, rfl, rfl, rfl, (.cons (.cons .nil)), (.cons (.cons .nil)), by decide +kernel, by kernel_rfl, by decide +kernel, by kernel_rfl, by kernel_rfl⟩
  bd := fun s x us _ _ _ _ _ _ _ hu => match us, hu with | [_, _], _ => .of_eq rfl
  lk := fun x us hu => match us, hu with | [_, _], _ => ⟨rfl, rfl, by decide, rfl, by decide, trivial⟩
def k : Hk := ⟨m, PySem.Challenge.pw_linkneed_k07_whole_values.main.file, [e0]⟩
theorem bd0 : BdOk f0 where
  b := fun _ _ _ _ _ _ us hl => match us, hl with | [_], _ => rfl
  k := fun _ h => by cases h
theorem bd1 : BdOk f1 where
  b := fun _ _ _ _ _ _ us hl => match us, hl with | [_], _ => rfl
  k := fun _ h => by cases h
theorem bd2 : BdOk f2 where
  b := fun _ _ _ _ _ _ us hl => match us, hl with | [_], _ => rfl
  k := fun _ h => by cases h
theorem bd3 : BdOk f3 where
  b := fun _ _ _ _ _ _ us hl => match us, hl with | [_], _ => rfl
  k := fun _ h => by cases h
theorem bd4 : BdOk f4 where
  b := fun _ _ _ _ _ _ us hl => match us, hl with | [_, _], _ => rfl
  k := fun q h => by
    simp only [f4, List.mem_cons, List.not_mem_nil, or_false] at h
    subst h
    · exact fun _ _ _ _ _ _ us ws h1 h2 => match us, ws, h1, h2 with | [], [_, _], _, _ => rfl
theorem bd5 : BdOk f5 where
  b := fun _ _ _ _ _ _ us hl => match us, hl with | [_, _], _ => rfl
  k := fun q h => by
    simp only [f5, List.mem_cons, List.not_mem_nil, or_false] at h
    subst h
    · exact fun _ _ _ _ _ _ us ws h1 h2 => match us, ws, h1, h2 with | [], [_, _], _, _ => rfl
theorem bd6 : BdOk f6 where
  b := fun _ _ _ _ _ _ us hl => match us, hl with | [_, _], _ => rfl
  k := fun q h => by
    simp only [f6, List.mem_cons, List.not_mem_nil, or_false] at h
    subst h
    · exact fun _ _ _ _ _ _ us ws h1 h2 => match us, ws, h1, h2 with | [], [_, _], _, _ => rfl
theorem bd7 : BdOk f7 where
  b := fun _ _ _ _ _ _ us hl => match us, hl with | [_, _, _], _ => rfl
  k := fun _ h => by cases h
theorem bd8 : BdOk f8 where
  b := fun _ _ _ _ _ _ us hl => match us, hl with | [_, _], _ => rfl
  k := fun _ h => by cases h
theorem bd9 : BdOk f9 where
  b := fun _ _ _ _ _ _ us hl => match us, hl with | [_, _], _ => rfl
  k := fun _ h => by cases h
theorem bd10 : BdOk f10 where
  b := fun _ _ _ _ _ _ us hl => match us, hl with | [_], _ => rfl
  k := fun _ h => by cases h
theorem bd11 : BdOk f11 where
  b := fun _ _ _ _ _ _ us hl => match us, hl with | [_, _], _ => rfl
  k := fun _ h => by cases h
theorem bd12 : BdOk f12 where
  b := fun _ _ _ _ _ _ us hl => match us, hl with | [_], _ => rfl
  k := fun _ h => by cases h
theorem bd13 : BdOk f13 where
  b := fun _ _ _ _ _ _ us hl => match us, hl with | [_, _], _ => rfl
  k := fun _ h => by cases h
theorem bd14 : BdOk f14 where
  b := fun _ _ _ _ _ _ us hl => match us, hl with | [_], _ => rfl
  k := fun _ h => by cases h
theorem bd15 : BdOk f15 where
  b := fun _ _ _ _ _ _ us hl => match us, hl with | [_], _ => rfl
  k := fun _ h => by cases h
theorem bd16 : BdOk f16 where
  b := fun _ _ _ _ _ _ us hl => match us, hl with | [_], _ => rfl
  k := fun _ h => by cases h
theorem bd17 : BdOk f17 where
  b := fun _ _ _ _ _ _ us hl => match us, hl with | [_, _], _ => rfl
  k := fun _ h => by cases h
theorem bd18 : BdOk f18 where
  b := fun _ _ _ _ _ _ us hl => match us, hl with | [_, _], _ => rfl
  k := fun _ h => by cases h
theorem bd19 : BdOk f19 where
  b := fun _ _ _ _ _ _ us hl => match us, hl with | [_, _, _], _ => rfl
  k := fun _ h => by cases h
theorem bd20 : BdOk f20 where
  b := fun _ _ _ _ _ _ us hl => match us, hl with | [_, _, _, _], _ => rfl
  k := fun _ h => by cases h
theorem bd21 : BdOk f21 where
  b := fun _ _ _ _ _ _ us hl => match us, hl with | [_, _], _ => rfl
  k := fun _ h => by cases h
theorem bd22 : BdOk f22 where
  b := fun _ _ _ _ _ _ us hl => match us, hl with | [_, _, _, _], _ => rfl
  k := fun _ h => by cases h
theorem bd23 : BdOk f23 where
  b := fun _ _ _ _ _ _ us hl => match us, hl with | [_, _], _ => rfl
  k := fun _ h => by cases h
theorem bd24 : BdOk f24 where
  b := fun _ _ _ _ _ _ us hl => match us, hl with | [_], _ => rfl
  k := fun _ h => by cases h
theorem bds : ∀ f ∈ k.m.fs, BdOk f := by
  intro f hf
  simp only [k, m, List.mem_cons, List.not_mem_nil, or_false] at hf
  rcases hf with rfl | rfl | rfl | rfl | rfl | rfl | rfl | rfl | rfl | rfl | rfl | rfl | rfl | rfl | rfl | rfl | rfl | rfl | rfl | rfl | rfl | rfl | rfl | rfl | rfl
  · exact bd0
  · exact bd1
  · exact bd2
  · exact bd3
  · exact bd4
  · exact bd5
  · exact bd6
  · exact bd7
  · exact bd8
  · exact bd9
  · exact bd10
  · exact bd11
  · exact bd12
  · exact bd13
  · exact bd14
  · exact bd15
  · exact bd16
  · exact bd17
  · exact bd18
  · exact bd19
  · exact bd20
  · exact bd21
  · exact bd22
  · exact bd23
  · exact bd24
theorem ios : ∀ d ∈ k.ini, IniOk d := by
  intro d hd
  simp only [k, List.mem_cons, List.not_mem_nil, or_false] at hd
  subst hd
  · exact io0
theorem ies : ∀ x fs, (x, fs) ∈ k.m.errs → ∃ d ∈ k.ini, d.cls = x ∧ d.fs = fs := by
  intro x fs h
  simp only [k, m, List.mem_cons, List.not_mem_nil, or_false, Prod.mk.injEq] at h
  rcases h with ⟨rfl, rfl⟩
  · exact ⟨e0, by simp [k], rfl, rfl⟩
abbrev R : PySem.W.OpenRow := PySem.W.OpenLaw.row PySem.Challenge.rw_linkneed_k07_whole_values
def loose : List Str := ["NeedError", "UnitError", "LinkError", "NotUsable", "WORDS", "is_integer", "is_number", "is_word", "width_of", "is_value", "nested_of", "flat_of", "_nested", "_flat", "_names_case", "_law_tape", "_law_take", "_law_word", "_law_shape", "_law_frames", "_law_patterns", "_law_is_word", "_law_fits", "_law_is_nested", "_law_both", "_law_refused", "_law_bent_words", "_law_bent_parts", "_law_judged"]
theorem run (w : World) : HandSHeadRun.RunEq R (PySem.W.view R.prog [34]) (hookY 6 k) (obY 6 k) 3000 loose w := by
  intro os
  kernel_rfl
/-- the law, said of the interpreter -/
def LawOk (n : Nat) : Prop := ∀ ns : List Int, ns.length ≤ 63 → ∃ h, callN m.T m.P n 24 [.rol (ns.map D.int)] [] = .ok (.bl true) h
end K07
open PySem PySem.W PySem.Calls PyProof.Rows
theorem K07.law_holds (hlaw : K07.LawOk 30) : PySem.Challenge.rw_linkneed_k07_whole_values.Holds := by
  w_on; o_law
  refine HandSHeadRun.head_any (r := OpenLaw.row PySem.Challenge.rw_linkneed_k07_whole_values) (q := view (OpenLaw.row PySem.Challenge.rw_linkneed_k07_whole_values).prog [34]) (H := Ly.hookY 6 K07.k) (ob := Ly.obY 6 K07.k) (M := 3000) (loose := K07.loose) (d := HandSHeadRun.topDef (OpenLaw.row PySem.Challenge.rw_linkneed_k07_whole_values).prog 34) (kwd := []) (Ly.obY_eq 6 K07.k)
    (by kernel_rfl) (fun s => by kernel_rfl) K07.run (by kernel_rfl) (by kernel_rfl) (by kernel_rfl) (by rfl) (by first | assumption | decide +kernel) (by decide +kernel) ⟨rfl, rfl, rfl, rfl, rfl, by decide +kernel⟩ ?hw ?hc
  case hw => w_witness2
  case hc => exact Ly.law_end (l := PySem.Challenge.rw_linkneed_k07_whole_values) (n := 63) (k := 30) (hk := K07.k) (g := 6) (li := 24) (f := K07.f24) (x := "_law_script") rfl (by decide) (by kernel_rfl) ⟨rfl, by decide, by decide⟩ rfl (by kernel_rfl) K07.bds K07.ios K07.ies K07.m_ok rfl rfl (by kernel_rfl) hlaw
end
section
set_option Elab.async false
set_option linter.all false
set_option maxRecDepth 100000
set_option maxHeartbeats 1000000
/-! K07b: values by structures, plain. -/
namespace Q07
open Ly
abbrev Row := List (Option Int)
def isWd (i : Int) : Prop := 0 ≤ i ∧ i < 65536
instance (i : Int) : Decidable (isWd i) := by unfold isWd; infer_instance
def csum (w : D → Nat) (c : D) : Nat := match c with
  | .tup fs => (fs.map w).sum
  | _ => 0
def wcs (ws : List Nat) : Nat := match ws with
  | [c] => c
  | ws => 1 + ws.foldl max 0
def wd : Nat → D → Nat
  | 0, _ => 0
  | k + 1, .tup cs => wcs (cs.map (csum (wd k)))
  | _ + 1, _ => 1
/-- a structure, k deep -/
def isSh : Nat → D → Prop
  | 0, _ => False
  | k + 1, .tup cs => cs ≠ [] ∧ ∀ c ∈ cs, ∃ fs, c = .tup fs ∧ ∀ f ∈ fs, isSh k f
  | _ + 1, .str x => x = "word"
  | _ + 1, _ => False
def nsts (N : D → Nat → Option D) (w : D → Nat) : List D → Nat → Option (List D × Nat)
  | [], p => some ([], p)
  | f :: fs, p => match N f p with
    | none => none
    | some v => (nsts N w fs (p + w f)).map fun q => (v :: q.1, q.2)
def sl {α : Type} (ws : List α) (p n : Nat) : List α := (ws.drop p).take n
def nst : Nat → D → List Int → Nat → Option D
  | 0, _, _, _ => none
  | k + 1, .tup cs, ws, st => match (if cs.length > 1 then (ws[st]?).getD (-1) else 0) with
    | c => if 0 ≤ c ∧ c < cs.length then match cs[c.toNat]? with
      | some (.tup fs) => (match nsts (fun f p => nst k f ws p) (wd k) fs (if cs.length > 1 then st + 1 else st) with
        | some (vs, p) => if ∀ x ∈ sl ws p (st + wd (k + 1) (.tup cs) - p), x = 0 then some (.tup [.int c, .tup vs]) else none
        | none => none)
      | _ => none else none
  | _ + 1, _, ws, st => (ws[st]?).map .int
def flts (F : D → D → Option (List Int)) : List D → List D → Option (List Int)
  | f :: fs, v :: vs => match F f v with
    | none => none
    | some ws => (flts F fs vs).map (ws ++ ·)
  | [], [] => some []
  | _, _ => none
def asPair : D → Option (Int × List D)
  | .tup [.int c, .tup vs] => some (c, vs)
  | _ => none
theorem asPair_eq {v : D} {q : Int × List D} (h : asPair v = some q) : v = .tup [.int q.1, .tup q.2] := by
  unfold asPair at h
  split at h
  · cases h; rfl
  · cases h
def asInt : D → Option Int
  | .int i => some i
  | _ => none
theorem asInt_eq {v : D} {q : Int} (h : asInt v = some q) : v = .int q := by
  unfold asInt at h
  split at h
  · cases h; rfl
  · cases h
def flt : Nat → D → D → Option (List Int)
  | 0, _, _ => none
  | k + 1, .tup cs, v => match asPair v with
    | some (c, vs) => if 0 ≤ c ∧ c < cs.length then match cs[c.toNat]? with
      | some (.tup fs) => if vs.length = fs.length then (flts (flt k) fs vs).map fun ws => ((if cs.length > 1 then [c] else []) ++ ws) ++ List.replicate (wd (k + 1) (.tup cs) - ((if cs.length > 1 then [c] else []) ++ ws).length) 0 else none
      | _ => none else none
    | none => none
  | _ + 1, _, v => match asInt v with
    | some i => if isWd i then some [i] else none
    | none => none
def prodR (P : D → List Row) : List D → List Row
  | [] => [[]]
  | f :: fs => (P f).flatMap fun a => (prodR P fs).map (a ++ ·)
/-- a row fits -/
def mt (r : Row) (ws : List Int) : Prop := r.length = ws.length ∧ ∀ q ∈ r.zip ws, q.1 = none ∨ q.1 = some q.2
theorem mt_nil : mt [] [] := ⟨rfl, fun q h => by cases h⟩
theorem mt_app {r1 r2 : Row} {a b : List Int} (h : r1.length = a.length) : mt (r1 ++ r2) (a ++ b) ↔ mt r1 a ∧ mt r2 b := by
  unfold mt
  rw [List.zip_append h]
  simp only [List.length_append, List.mem_append]
  constructor
  · rintro ⟨h1, h2⟩
    exact ⟨⟨h, fun q hq => h2 q (.inl hq)⟩, by omega, fun q hq => h2 q (.inr hq)⟩
  · rintro ⟨⟨h1, h2⟩, h3, h4⟩
    exact ⟨by omega, fun q hq => hq.elim (h2 q) (h4 q)⟩
theorem mt_cons {o : Option Int} {r : Row} {x : Int} {ws : List Int} : mt (o :: r) (x :: ws) ↔ (o = none ∨ o = some x) ∧ mt r ws := by
  unfold mt
  simp only [List.length_cons, List.zip_cons_cons, List.mem_cons]
  constructor
  · rintro ⟨h1, h2⟩
    exact ⟨h2 _ (.inl rfl), by omega, fun q hq => h2 q (.inr hq)⟩
  · rintro ⟨h1, h2, h3⟩
    refine ⟨by omega, fun q hq => ?_⟩
    rcases hq with rfl | hq
    · exact h1
    · exact h3 q hq
theorem mt_zeros : ∀ {n : Nat} {ws : List Int}, ws.length = n → (mt (List.replicate n (some 0)) ws ↔ ∀ x ∈ ws, x = 0)
  | 0, ws, h => by
    have : ws = [] := List.eq_nil_of_length_eq_zero h
    subst this
    simp [mt_nil]
  | n + 1, ws, h => by
    cases ws with
    | nil => cases h
    | cons x ws =>
      rw [List.replicate_succ, mt_cons, mt_zeros (by simpa using h)]
      constructor
      · rintro ⟨h1, h2⟩ y hy
        rcases List.mem_cons.mp hy with rfl | hy
        · simpa [eq_comm] using h1
        · exact h2 y hy
      · intro h
        exact ⟨.inr (by rw [h x (by simp)]), fun y hy => h y (by simp [hy])⟩
section
variable {α : Type}
theorem sl_len {ws : List α} {p n : Nat} (h : p + n ≤ ws.length) : (sl ws p n).length = n := by
  unfold sl
  rw [List.length_take, List.length_drop]; omega
theorem sl_add (ws : List α) (p a b : Nat) : sl ws p (a + b) = sl ws p a ++ sl ws (p + a) b := by
  unfold sl
  rw [List.take_add, List.drop_drop]
theorem sl_zero (ws : List α) (p : Nat) : sl ws p 0 = [] := by unfold sl; simp
theorem sl_one {ws : List α} {p : Nat} {x : α} (h : ws[p]? = some x) : sl ws p 1 = [x] := by
  obtain ⟨h1, h2⟩ := List.getElem?_eq_some_iff.mp h
  unfold sl
  rw [List.drop_eq_getElem_cons h1, h2]
  simp
theorem sl_all {ws : List α} : sl ws 0 ws.length = ws := by unfold sl; simp
end
theorem sum_cons (f : D) (fs : List D) (w : D → Nat) : ((f :: fs).map w).sum = w f + (fs.map w).sum := by simp
section
variable {N : D → Nat → Option D} {w : D → Nat}
theorem nsts_end : ∀ {fs : List D} {p q : Nat} {vs : List D}, nsts N w fs p = some (vs, q) → q = p + (fs.map w).sum ∧ vs.length = fs.length
  | [], p, q, vs, h => by cases h; simp
  | f :: fs, p, q, vs, h => by
    unfold nsts at h
    cases e : N f p with
    | none => rw [e] at h; cases h
    | some v =>
      rw [e] at h
      dsimp only at h
      cases e2 : nsts N w fs (p + w f) with
      | none => rw [e2] at h; cases h
      | some r =>
        rw [e2] at h
        cases h
        obtain ⟨h1, h2⟩ := nsts_end (vs := r.1) (q := r.2) e2
        exact ⟨by rw [h1, sum_cons]; omega, by simp [h2]⟩
end
theorem wd_word {k : Nat} {x : PySem.Str} : wd (k + 1) (.str x) = 1 := rfl
theorem foldmax_ge : ∀ (ws : List Nat) (a : Nat), a ≤ ws.foldl max a ∧ ∀ x ∈ ws, x ≤ ws.foldl max a
  | [], a => ⟨Nat.le_refl _, fun x h => by cases h⟩
  | w :: ws, a => by
    obtain ⟨h1, h2⟩ := foldmax_ge ws (max a w)
    refine ⟨Nat.le_trans (Nat.le_max_left _ _) h1, fun x hx => ?_⟩
    rcases List.mem_cons.mp hx with rfl | hx
    · exact Nat.le_trans (Nat.le_max_right _ _) h1
    · exact h2 x hx
/-- the width of a case within the structure's -/
theorem case_le {k : Nat} {cs : List D} {c : D} (hc : c ∈ cs) : csum (wd k) c + (if cs.length > 1 then 1 else 0) ≤ wd (k + 1) (.tup cs) := by
  show _ ≤ wcs (cs.map (csum (wd k)))
  match cs, hc with
  | [a], hc =>
    have : c = a := by simpa using hc
    subst this
    simp [wcs]
  | a :: b :: cs, hc =>
    have h := (foldmax_ge ((a :: b :: cs).map (csum (wd k))) 0).2 (csum (wd k) c) (List.mem_map_of_mem hc)
    have e : wcs ((a :: b :: cs).map (csum (wd k))) = 1 + ((a :: b :: cs).map (csum (wd k))).foldl max 0 := rfl
    rw [e]
    have e2 : (a :: b :: cs).length > 1 := by simp
    rw [if_pos e2]
    omega
theorem case_one {k : Nat} {c : D} : wd (k + 1) (.tup [c]) = csum (wd k) c := rfl
/-! ### from a value to its words and back -/
/-- what is to be shown of a structure -/
structure Good (k : Nat) (f : D) : Prop where
  to : ∀ v us, flt k f v = some us → us.length = wd k f ∧ (∀ x ∈ us, isWd x) ∧ ∀ ws st, sl ws st (wd k f) = us → nst k f ws st = some v
  fro : ∀ ws st v, (∀ x ∈ ws, isWd x) → st + wd k f ≤ ws.length → nst k f ws st = some v → flt k f v = some (sl ws st (wd k f))
theorem flts_to {k : Nat} : ∀ {fs : List D} (hg : ∀ f ∈ fs, Good k f) {vs : List D} {us : List Int}, flts (flt k) fs vs = some us → us.length = (fs.map (wd k)).sum ∧ (∀ x ∈ us, isWd x) ∧ vs.length = fs.length ∧ ∀ ws p, sl ws p (fs.map (wd k)).sum = us → nsts (fun f p => nst k f ws p) (wd k) fs p = some (vs, p + (fs.map (wd k)).sum)
  | [], _, [], us, h => by
    cases h
    exact ⟨rfl, (fun x h => by cases h), rfl, fun ws p _ => rfl⟩
  | [], _, _ :: _, us, h => by cases h
  | _ :: _, _, [], us, h => by cases h
  | f :: fs, hg, v :: vs, us, h => by
    unfold flts at h
    cases e : flt k f v with
    | none => rw [e] at h; cases h
    | some a =>
      rw [e] at h
      dsimp only at h
      cases e2 : flts (flt k) fs vs with
      | none => rw [e2] at h; cases h
      | some b =>
        rw [e2] at h
        cases h
        obtain ⟨h1, h2, h3⟩ := (hg f (by simp)).to v a e
        obtain ⟨g1, g2, g4, g3⟩ := flts_to (fun f hf => hg f (by simp [hf])) e2
        rw [sum_cons]
        refine ⟨by simp [h1, g1], fun x hx => ?_, by simp [g4], fun ws p hp => ?_⟩
        · rcases List.mem_append.mp hx with hx | hx
          · exact h2 x hx
          · exact g2 x hx
        · rw [sl_add] at hp
          have l1 : (sl ws p (wd k f)).length = a.length := by
            have l2 := congrArg List.length hp
            simp only [List.length_append, h1, g1] at l2
            have q1 : (sl ws p (wd k f)).length ≤ wd k f := by unfold sl; rw [List.length_take]; omega
            have q2 : (sl ws (p + wd k f) (fs.map (wd k)).sum).length ≤ (fs.map (wd k)).sum := by unfold sl; rw [List.length_take]; omega
            omega
          obtain ⟨z1, z2⟩ := List.append_inj hp l1
          unfold nsts
          rw [h3 ws p z1]
          dsimp only
          rw [g3 ws (p + wd k f) z2]
          simp; omega
theorem flts_fro {k : Nat} {ws : List Int} (hw : ∀ x ∈ ws, isWd x) : ∀ {fs : List D} (hg : ∀ f ∈ fs, Good k f) {p q : Nat} {vs : List D}, p + (fs.map (wd k)).sum ≤ ws.length → nsts (fun f p => nst k f ws p) (wd k) fs p = some (vs, q) → flts (flt k) fs vs = some (sl ws p (fs.map (wd k)).sum)
  | [], _, p, q, vs, _, h => by
    cases h
    simp [flts, sl_zero]
  | f :: fs, hg, p, q, vs, hl, h => by
    rw [sum_cons] at hl ⊢
    unfold nsts at h
    cases e : nst k f ws p with
    | none => rw [e] at h; cases h
    | some v =>
      rw [e] at h
      dsimp only at h
      cases e2 : nsts (fun f p => nst k f ws p) (wd k) fs (p + wd k f) with
      | none => rw [e2] at h; cases h
      | some r =>
        rw [e2] at h
        cases h
        have h1 := (hg f (by simp)).fro ws p v hw (by omega) e
        have h2 := flts_fro hw (fun f hf => hg f (by simp [hf])) (by omega) (show nsts _ _ fs (p + wd k f) = some (r.1, r.2) from e2)
        unfold flts
        rw [h1]
        dsimp only
        rw [h2, sl_add]; rfl
theorem good_word {k : Nat} : Good (k + 1) (.str "word") where
  to := fun v us h => by
    replace h : (match asInt v with
      | some i => if isWd i then some [i] else none
      | none => none) = some us := h
    cases q : asInt v with
    | some i =>
      rw [q] at h
      have hv := asInt_eq q
      subst hv
      dsimp only at h
      by_cases c : isWd i
      · rw [if_pos c] at h
        cases h
        refine ⟨rfl, fun x hx => by simp at hx; subst hx; exact c, fun ws st hs => ?_⟩
        show (ws[st]?).map D.int = some (.int i)
        have hs : sl ws st 1 = [i] := hs
        cases e : ws[st]? with
        | none =>
          unfold sl at hs
          rw [List.drop_eq_nil_of_le (List.getElem?_eq_none_iff.mp e)] at hs
          cases hs
        | some x =>
          rw [sl_one e] at hs
          cases hs; rfl
      · rw [if_neg c] at h; cases h
    | none => rw [q] at h; cases h
  fro := fun ws st v hw hl h => by
    have h : (ws[st]?).map D.int = some v := h
    cases e : ws[st]? with
    | none => rw [e] at h; cases h
    | some x =>
      rw [e] at h
      cases h
      show (if isWd x then some [x] else none) = _
      rw [if_pos (hw x (List.mem_of_getElem? e))]
      show some [x] = some (sl ws st 1)
      rw [sl_one e]
theorem good_tup {k : Nat} {cs : List D} (hg : ∀ c ∈ cs, ∃ fs, c = .tup fs ∧ ∀ f ∈ fs, Good k f) (h65 : cs.length ≤ 65536) : Good (k + 1) (.tup cs) where
  to := fun v us h => by
    unfold flt at h
    cases qq : asPair v with
    | none => rw [qq] at h; cases h
    | some cv =>
      obtain ⟨c, vs⟩ := cv
      rw [qq] at h
      have hv : v = .tup [.int c, .tup vs] := asPair_eq qq
      subst hv
      dsimp only at h
      by_cases hc : 0 ≤ c ∧ c < cs.length
      · rw [if_pos hc] at h
        split at h
        · rename_i fs hfs
          by_cases hl : vs.length = fs.length
          · rw [if_pos hl] at h
            cases e2 : flts (flt k) fs vs with
            | none => rw [e2] at h; cases h
            | some ws0 =>
              rw [e2] at h
              have h : some (((if cs.length > 1 then [c] else []) ++ ws0) ++ List.replicate (wd (k + 1) (.tup cs) - ((if cs.length > 1 then [c] else []) ++ ws0).length) 0) = some us := h
              have hm := List.mem_of_getElem? hfs
              obtain ⟨fs', e, hgf⟩ := hg _ hm
              cases e
              obtain ⟨g1, g2, g4, g3⟩ := flts_to hgf e2
              have hle := case_le (k := k) hm
              have hcs : csum (wd k) (.tup fs) = (fs.map (wd k)).sum := rfl
              rw [hcs] at hle
              have hlen : ((if cs.length > 1 then [c] else []) ++ ws0).length = (if cs.length > 1 then 1 else 0) + (fs.map (wd k)).sum := by
                rw [List.length_append, g1]; split <;> simp
              obtain ⟨pre, hpre⟩ : ∃ pre, pre = (if cs.length > 1 then [c] else []) := ⟨_, rfl⟩
              have hpl : pre.length = (if cs.length > 1 then 1 else 0) := by rw [hpre]; split <;> rfl
              cases h
              rw [hlen]
              refine ⟨by rw [List.length_append, hlen, List.length_replicate]; omega, fun x hx => ?_, fun ws st hs => ?_⟩
              · rw [List.mem_append, List.mem_append] at hx
                rcases hx with (hx | hx) | hx
                · split at hx
                  · have : x = c := by simpa using hx
                    subst this
                    exact ⟨hc.1, by omega⟩
                  · cases hx
                · exact g2 x hx
                · have := List.eq_of_mem_replicate hx
                  subst this
                  exact ⟨by decide, by decide⟩
              · have tot : wd (k + 1) (.tup cs) = (if cs.length > 1 then 1 else 0) + ((fs.map (wd k)).sum + (wd (k + 1) (.tup cs) - ((if cs.length > 1 then 1 else 0) + (fs.map (wd k)).sum))) := by omega
                have hs' := hs
                rw [tot, sl_add, sl_add, List.append_assoc] at hs'
                have hlens := congrArg List.length hs
                rw [List.length_append, hlen, List.length_replicate] at hlens
                have hfull : (sl ws st (wd (k + 1) (.tup cs))).length = wd (k + 1) (.tup cs) := by omega
                have q0 : (sl ws st (if cs.length > 1 then 1 else 0)).length = (if cs.length > 1 then 1 else 0) := by
                  unfold sl at hfull ⊢
                  rw [List.length_take] at hfull ⊢; omega
                have q1 : (sl ws (st + (if cs.length > 1 then 1 else 0)) (fs.map (wd k)).sum).length = (fs.map (wd k)).sum := by
                  unfold sl at hfull ⊢
                  rw [List.length_take, List.length_drop] at hfull ⊢; omega
                have e0 : (if cs.length > 1 then [c] else ([] : List Int)).length = (if cs.length > 1 then 1 else 0) := by split <;> rfl
                obtain ⟨z1, z2⟩ := List.append_inj hs' (by rw [q0, e0])
                obtain ⟨z2, z3⟩ := List.append_inj z2 (by rw [q1, g1])
                have hcase : (if cs.length > 1 then (ws[st]?).getD (-1) else 0) = c := by
                  by_cases c1 : cs.length > 1
                  · rw [if_pos c1] at z1 ⊢
                    rw [if_pos c1] at z1
                    cases e : ws[st]? with
                    | none =>
                      unfold sl at z1
                      rw [List.drop_eq_nil_of_le (List.getElem?_eq_none_iff.mp e)] at z1
                      cases z1
                    | some x =>
                      rw [sl_one e] at z1
                      cases z1; rfl
                  · rw [if_neg c1]; omega
                unfold nst
                rw [hcase]
                dsimp only
                rw [if_pos hc, hfs]
                dsimp only
                have ep : (if cs.length > 1 then st + 1 else st) = st + (if cs.length > 1 then 1 else 0) := by split <;> rfl
                rw [ep, g3 ws _ z2]
                dsimp only
                rw [if_pos]
                intro x hx
                have ez : st + wd (k + 1) (.tup cs) - (st + (if cs.length > 1 then 1 else 0) + (fs.map (wd k)).sum) = wd (k + 1) (.tup cs) - ((if cs.length > 1 then 1 else 0) + (fs.map (wd k)).sum) := by omega
                rw [ez, z3] at hx
                exact List.eq_of_mem_replicate hx
          · rw [if_neg hl] at h; cases h
        · cases h
      · rw [if_neg hc] at h; cases h
  fro := fun ws st v hw hl h => by
    unfold nst at h
    dsimp only at h
    generalize hcc : (if cs.length > 1 then (ws[st]?).getD (-1) else 0) = c at h
    by_cases hc : 0 ≤ c ∧ c < cs.length
    · rw [if_pos hc] at h
      split at h
      · rename_i fs hfs
        have hm := List.mem_of_getElem? hfs
        obtain ⟨fs', e, hgf⟩ := hg _ hm
        cases e
        have hle := case_le (k := k) hm
        have hcs : csum (wd k) (.tup fs) = (fs.map (wd k)).sum := rfl
        rw [hcs] at hle
        split at h
        · rename_i vs p hn
          split at h
          · rename_i hz
            cases h
            obtain ⟨e1, e2⟩ := nsts_end hn
            have ep : (if cs.length > 1 then st + 1 else st) = st + (if cs.length > 1 then 1 else 0) := by split <;> rfl
            rw [ep] at hn e1
            have hf := flts_fro hw hgf (by omega) hn
            show (if 0 ≤ c ∧ c < cs.length then _ else none) = _
            rw [if_pos hc, hfs]
            dsimp only
            rw [if_pos e2, hf]
            show some (((if cs.length > 1 then [c] else []) ++ _) ++ List.replicate (wd (k + 1) (.tup cs) - ((if cs.length > 1 then [c] else []) ++ _).length) 0) = _
            have tot : wd (k + 1) (.tup cs) = (if cs.length > 1 then 1 else 0) + ((fs.map (wd k)).sum + (wd (k + 1) (.tup cs) - ((if cs.length > 1 then 1 else 0) + (fs.map (wd k)).sum))) := by omega
            have e0 : (if cs.length > 1 then [c] else ([] : List Int)) = sl ws st (if cs.length > 1 then 1 else 0) := by
              by_cases c1 : cs.length > 1
              · rw [if_pos c1, if_pos c1]
                rw [if_pos c1] at hcc hle
                have : st < ws.length := by omega
                rw [List.getElem?_eq_getElem this] at hcc
                rw [sl_one (List.getElem?_eq_getElem this)]
                rw [← hcc]; rfl
              · rw [if_neg c1, if_neg c1, sl_zero]
            have l0 : (sl ws st (if cs.length > 1 then 1 else 0)).length = (if cs.length > 1 then 1 else 0) := sl_len (by omega)
            have l1 : (sl ws (st + (if cs.length > 1 then 1 else 0)) (fs.map (wd k)).sum).length = (fs.map (wd k)).sum := sl_len (by omega)
            congr 1
            rw [e0, List.length_append, l0, l1]
            conv => rhs; rw [tot, sl_add, sl_add, ← List.append_assoc]
            congr 1
            have l2 : (sl ws (st + (if cs.length > 1 then 1 else 0) + (fs.map (wd k)).sum) (wd (k + 1) (.tup cs) - ((if cs.length > 1 then 1 else 0) + (fs.map (wd k)).sum))).length = wd (k + 1) (.tup cs) - ((if cs.length > 1 then 1 else 0) + (fs.map (wd k)).sum) := sl_len (by omega)
            refine (List.eq_replicate_iff.mpr ⟨l2, fun x hx => hz x ?_⟩).symm
            rw [e1]
            have ez : st + wd (k + 1) (.tup cs) - (st + (if cs.length > 1 then 1 else 0) + (fs.map (wd k)).sum) = wd (k + 1) (.tup cs) - ((if cs.length > 1 then 1 else 0) + (fs.map (wd k)).sum) := by omega
            rw [ez]; exact hx
          · cases h
        · cases h
      · cases h
    · rw [if_neg hc] at h; cases h
end Q07
end
section
set_option Elab.async false
set_option linter.all false
set_option maxRecDepth 100000
set_option maxHeartbeats 1000000
/-! K07c: the patterns of a structure, plain. -/
namespace Q07
open Ly
def rowsF (P : D → List Row) (fs : List D) (rows : List Row) : List Row := fs.foldl (fun rows f => rows.flatMap fun r => (P f).map (r ++ ·)) rows
def headLen (rs : List Row) : Nat := (rs.headD []).length
def padR (W : Nat) (at_ : Nat) (rs : List Row) : List Row := rs.map fun r => (some (at_ : Int) :: r) ++ List.replicate (W - r.length) (some 0)
def crows (P : D → List Row) (c : D) : List Row := match c with
  | .tup fs => rowsF P fs [[]]
  | _ => []
def allR (css : List (List Row)) : List Row := match css with
  | [rs] => rs
  | css => css.zipIdx.flatMap fun q => padR ((css.map headLen).foldl max 0) q.2 q.1
def pats : Nat → D → List Row
  | 0, _ => []
  | k + 1, .tup cs => allR (cs.map (crows (pats k)))
  | _ + 1, _ => [[none]]
theorem rowsF_mem (P : D → List Row) : ∀ (fs : List D) (rows : List Row) (r : Row), r ∈ rowsF P fs rows ↔ ∃ r0 ∈ rows, ∃ r1 ∈ prodR P fs, r = r0 ++ r1
  | [], rows, r => by simp [rowsF, prodR]
  | f :: fs, rows, r => by
    show r ∈ rowsF P fs (rows.flatMap fun r => (P f).map (r ++ ·)) ↔ _
    rw [rowsF_mem P fs]
    constructor
    · rintro ⟨r0, h0, r1, h1, rfl⟩
      obtain ⟨a, ha, h0⟩ := List.mem_flatMap.mp h0
      obtain ⟨b, hb, rfl⟩ := List.mem_map.mp h0
      exact ⟨a, ha, b ++ r1, List.mem_flatMap.mpr ⟨b, hb, List.mem_map.mpr ⟨r1, h1, rfl⟩⟩, by simp⟩
    · rintro ⟨r0, h0, r1, h1, rfl⟩
      obtain ⟨b, hb, h1⟩ := List.mem_flatMap.mp h1
      obtain ⟨c, hc, rfl⟩ := List.mem_map.mp h1
      exact ⟨r0 ++ b, List.mem_flatMap.mpr ⟨r0, h0, List.mem_map.mpr ⟨b, hb, rfl⟩⟩, c, hc, by simp⟩
/-- what is to be shown of a structure's patterns -/
structure GoodP (k : Nat) (f : D) : Prop where
  ne : pats k f ≠ []
  ln : ∀ r ∈ pats k f, r.length = wd k f
  fit : ∀ ws st, (∀ x ∈ ws, isWd x) → st + wd k f ≤ ws.length → ((∃ r ∈ pats k f, mt r (sl ws st (wd k f))) ↔ (nst k f ws st).isSome = true)
theorem prod_ok {k : Nat} : ∀ {fs : List D} (hg : ∀ f ∈ fs, GoodP k f), prodR (pats k) fs ≠ [] ∧ (∀ r ∈ prodR (pats k) fs, r.length = (fs.map (wd k)).sum) ∧
    ∀ ws p, (∀ x ∈ ws, isWd x) → p + (fs.map (wd k)).sum ≤ ws.length → ((∃ r ∈ prodR (pats k) fs, mt r (sl ws p (fs.map (wd k)).sum)) ↔ (nsts (fun f p => nst k f ws p) (wd k) fs p).isSome = true)
  | [], _ => by
    refine ⟨by simp [prodR], fun r hr => by simp [prodR] at hr; subst hr; rfl, fun ws p _ _ => ?_⟩
    constructor
    · intro _; rfl
    · intro _
      refine ⟨[], by simp [prodR], ?_⟩
      show mt [] (sl ws p 0)
      rw [sl_zero]; exact mt_nil
  | f :: fs, hg => by
    obtain ⟨h1, h2, h3⟩ := prod_ok (fs := fs) fun f hf => hg f (by simp [hf])
    have g := hg f (by simp)
    refine ⟨?_, fun r hr => ?_, fun ws p hw hl => ?_⟩
    · obtain ⟨a, ha⟩ := List.exists_mem_of_ne_nil _ g.ne
      obtain ⟨b, hb⟩ := List.exists_mem_of_ne_nil _ h1
      exact List.ne_nil_of_mem (List.mem_flatMap.mpr ⟨a, ha, List.mem_map.mpr ⟨b, hb, rfl⟩⟩)
    · obtain ⟨a, ha, hr⟩ := List.mem_flatMap.mp hr
      obtain ⟨b, hb, rfl⟩ := List.mem_map.mp hr
      rw [sum_cons, List.length_append, g.ln a ha, h2 b hb]
    · rw [sum_cons] at hl ⊢
      have e1 := g.fit ws p hw (by omega)
      have e2 := h3 ws (p + wd k f) hw (by omega)
      have l1 : (sl ws p (wd k f)).length = wd k f := sl_len (by omega)
      rw [sl_add]
      unfold nsts
      constructor
      · rintro ⟨r, hr, hm⟩
        obtain ⟨a, ha, hr⟩ := List.mem_flatMap.mp hr
        obtain ⟨b, hb, rfl⟩ := List.mem_map.mp hr
        rw [mt_app (by rw [g.ln a ha, l1])] at hm
        have z1 := e1.mp ⟨a, ha, hm.1⟩
        have z2 := e2.mp ⟨b, hb, hm.2⟩
        obtain ⟨v, hv⟩ := Option.isSome_iff_exists.mp z1
        obtain ⟨q, hq⟩ := Option.isSome_iff_exists.mp z2
        rw [hv]
        dsimp only
        rw [hq]; rfl
      · intro h
        cases hv : nst k f ws p with
        | none => rw [hv] at h; cases h
        | some v =>
          rw [hv] at h
          dsimp only at h
          cases hq : nsts (fun f p => nst k f ws p) (wd k) fs (p + wd k f) with
          | none => rw [hq] at h; cases h
          | some q =>
            obtain ⟨a, ha, ma⟩ := e1.mpr (by rw [hv]; rfl)
            obtain ⟨b, hb, mb⟩ := e2.mpr (by rw [hq]; rfl)
            exact ⟨a ++ b, List.mem_flatMap.mpr ⟨a, ha, List.mem_map.mpr ⟨b, hb, rfl⟩⟩, (mt_app (by rw [g.ln a ha, l1])).mpr ⟨ma, mb⟩⟩
theorem goodP_word {k : Nat} : GoodP (k + 1) (.str "word") where
  ne := by simp [pats]
  ln := fun r hr => by
    have hr : r ∈ ([[none]] : List Row) := hr
    simp at hr; subst hr; rfl
  fit := fun ws st hw hl => by
    have hl : st + 1 ≤ ws.length := hl
    have e : ws[st]? = some ws[st] := List.getElem?_eq_getElem (by omega)
    show (∃ r ∈ ([[none]] : List Row), mt r (sl ws st 1)) ↔ ((ws[st]?).map D.int).isSome = true
    rw [sl_one e, e]
    simp [mt_cons, mt_nil]
theorem crow_mem {k : Nat} {fs : List D} {r : Row} : r ∈ crows (pats k) (.tup fs) ↔ r ∈ prodR (pats k) fs := by
  show r ∈ rowsF (pats k) fs [[]] ↔ _
  rw [rowsF_mem]
  simp
theorem crow_len {k : Nat} {fs : List D} (hg : ∀ f ∈ fs, GoodP k f) : crows (pats k) (.tup fs) ≠ [] ∧ ∀ r ∈ crows (pats k) (.tup fs), r.length = csum (wd k) (.tup fs) := by
  obtain ⟨h1, h2, _⟩ := prod_ok hg
  obtain ⟨a, ha⟩ := List.exists_mem_of_ne_nil _ h1
  exact ⟨List.ne_nil_of_mem (crow_mem.mpr ha), fun r hr => h2 r (crow_mem.mp hr)⟩
theorem head_len {k : Nat} {fs : List D} (hg : ∀ f ∈ fs, GoodP k f) : headLen (crows (pats k) (.tup fs)) = csum (wd k) (.tup fs) := by
  obtain ⟨h1, h2⟩ := crow_len hg
  unfold headLen
  cases e : crows (pats k) (.tup fs) with
  | nil => exact absurd e h1
  | cons a b =>
    rw [e] at h2
    exact h2 a (by simp)
theorem nst_tup {k : Nat} {cs : List D} {ws : List Int} {st : Nat} : nst (k + 1) (.tup cs) ws st = (match (if cs.length > 1 then (ws[st]?).getD (-1) else 0) with
    | c => if 0 ≤ c ∧ c < cs.length then match cs[c.toNat]? with
      | some (.tup fs) => (match nsts (fun f p => nst k f ws p) (wd k) fs (if cs.length > 1 then st + 1 else st) with
        | some (vs, p) => if ∀ x ∈ sl ws p (st + wd (k + 1) (.tup cs) - p), x = 0 then some (.tup [.int c, .tup vs]) else none
        | none => none)
      | _ => none else none) := rfl
theorem goodP_tup {k : Nat} {cs : List D} (hne : cs ≠ []) (hg : ∀ c ∈ cs, ∃ fs, c = .tup fs ∧ ∀ f ∈ fs, GoodP k f) (h65 : cs.length ≤ 65536) : GoodP (k + 1) (.tup cs) := by
  -- the heads' lengths are the cases' sums
  have heads : (cs.map (crows (pats k))).map headLen = cs.map (csum (wd k)) := by
    rw [List.map_map]
    refine List.map_congr_left fun c hc => ?_
    obtain ⟨fs, rfl, hf⟩ := hg c hc
    exact head_len hf
  match cs, hne, hg, h65, heads with
  | [c], _, hg, _, _ =>
    obtain ⟨fs, rfl, hf⟩ := hg c (by simp)
    obtain ⟨h1, h2⟩ := crow_len hf
    obtain ⟨_, _, h3⟩ := prod_ok hf
    refine ⟨h1, h2, fun ws st hw hl => ?_⟩
    have hl : st + (fs.map (wd k)).sum ≤ ws.length := hl
    show (∃ r ∈ crows (pats k) (.tup fs), mt r (sl ws st (fs.map (wd k)).sum)) ↔ _
    have e : (∃ r ∈ crows (pats k) (.tup fs), mt r (sl ws st (fs.map (wd k)).sum)) ↔ ∃ r ∈ prodR (pats k) fs, mt r (sl ws st (fs.map (wd k)).sum) :=
      ⟨fun ⟨r, hr, m⟩ => ⟨r, crow_mem.mp hr, m⟩, fun ⟨r, hr, m⟩ => ⟨r, crow_mem.mpr hr, m⟩⟩
    rw [e, h3 ws st hw hl]
    rw [nst_tup]
    dsimp only
    have c0 : ¬ ([D.tup fs].length > 1) := by simp
    rw [if_neg c0, if_neg c0, if_pos (by simp)]
    show _ ↔ Option.isSome (match nsts (fun f p => nst k f ws p) (wd k) fs st with
      | some (vs, p) => if ∀ x ∈ sl ws p (st + wd (k + 1) (.tup [.tup fs]) - p), x = 0 then some (D.tup [.int 0, .tup vs]) else none
      | none => none) = true
    cases q : nsts (fun f p => nst k f ws p) (wd k) fs st with
    | none => simp
    | some r =>
      obtain ⟨vs, p⟩ := r
      obtain ⟨e1, _⟩ := nsts_end q
      dsimp only
      rw [if_pos]
      · simp
      · have ez : st + wd (k + 1) (.tup [.tup fs]) - p = 0 := by
          show st + (fs.map (wd k)).sum - p = 0
          omega
        rw [ez, sl_zero]
        intro x hx; cases hx
  | c1 :: c2 :: cs, _, hg, h65, heads =>
    obtain ⟨cl, hcl⟩ : ∃ cl, cl = c1 :: c2 :: cs := ⟨_, rfl⟩
    rw [← hcl] at hg h65 heads ⊢
    have hlen : cl.length > 1 := by rw [hcl]; simp
    obtain ⟨Wm, hWm⟩ : ∃ Wm, Wm = (cl.map (csum (wd k))).foldl max 0 := ⟨_, rfl⟩
    have hpat : pats (k + 1) (.tup cl) = (cl.map (crows (pats k))).zipIdx.flatMap fun q => padR Wm q.2 q.1 := by
      show allR (cl.map (crows (pats k))) = _
      rw [hWm, ← heads]
      rw [hcl]; rfl
    have hwd : wd (k + 1) (.tup cl) = 1 + Wm := by
      rw [hWm, hcl]; rfl
    have hmem : ∀ r, r ∈ pats (k + 1) (.tup cl) ↔ ∃ (i : Nat) (fs : List D) (r0 : Row), cl[i]? = some (.tup fs) ∧ r0 ∈ prodR (pats k) fs ∧ r = (some (i : Int) :: r0) ++ List.replicate (Wm - r0.length) (some 0) := fun r => by
      rw [hpat, List.mem_flatMap]
      constructor
      · rintro ⟨q, hq, hr⟩
        have hq := List.mem_zipIdx' hq
        obtain ⟨hq1, hq2⟩ := hq
        rw [List.length_map] at hq1
        have hc : cl[q.2] ∈ cl := List.getElem_mem _
        obtain ⟨fs, e, _⟩ := hg _ hc
        unfold padR at hr
        obtain ⟨r0, h0, rfl⟩ := List.mem_map.mp hr
        refine ⟨q.2, fs, r0, by rw [List.getElem?_eq_getElem hq1, e], ?_, rfl⟩
        rw [hq2, List.getElem_map, e] at h0
        exact crow_mem.mp h0
      · rintro ⟨i, fs, r0, hi, h0, rfl⟩
        refine ⟨(crows (pats k) (.tup fs), i), ?_, List.mem_map.mpr ⟨r0, crow_mem.mpr h0, rfl⟩⟩
        rw [List.mk_mem_zipIdx_iff_getElem?, List.getElem?_map, hi]; rfl
    have hle : ∀ (i : Nat) (fs : List D), cl[i]? = some (.tup fs) → (fs.map (wd k)).sum ≤ Wm := fun i fs hi => by
      rw [hWm]
      exact (foldmax_ge (cl.map (csum (wd k))) 0).2 (csum (wd k) (.tup fs)) (List.mem_map_of_mem (List.mem_of_getElem? hi))
    refine ⟨?_, fun r hr => ?_, fun ws st hw hl => ?_⟩
    · have h0 : cl[0]? = some c1 := by rw [hcl]; rfl
      obtain ⟨fs, e, hf⟩ := hg c1 (List.mem_of_getElem? h0)
      subst e
      obtain ⟨h1, _⟩ := prod_ok hf
      obtain ⟨a, ha⟩ := List.exists_mem_of_ne_nil _ h1
      exact List.ne_nil_of_mem ((hmem _).mpr ⟨0, fs, a, h0, ha, rfl⟩)
    · obtain ⟨i, fs, r0, hi, h0, rfl⟩ := (hmem r).mp hr
      obtain ⟨fs', e, hf⟩ := hg _ (List.mem_of_getElem? hi)
      cases e
      obtain ⟨_, h2, _⟩ := prod_ok hf
      have := h2 r0 h0
      have := hle i fs hi
      rw [hwd]
      simp; omega
    · have hls : st < ws.length := by omega
      have ew : ws[st]? = some ws[st] := List.getElem?_eq_getElem hls
      obtain ⟨c, hc⟩ : ∃ c, c = ws[st] := ⟨_, rfl⟩
      rw [← hc] at ew
      have hcw : isWd c := hw c (List.mem_of_getElem? ew)
      rw [hwd, sl_add, sl_one ew]
      rw [nst_tup]
      dsimp only
      rw [if_pos hlen, if_pos hlen, ew]
      show _ ↔ Option.isSome (if 0 ≤ c ∧ c < cl.length then match cl[c.toNat]? with
        | some (.tup fs) => (match nsts (fun f p => nst k f ws p) (wd k) fs (st + 1) with
          | some (vs, p) => if ∀ x ∈ sl ws p (st + wd (k + 1) (.tup cl) - p), x = 0 then some (D.tup [.int c, .tup vs]) else none
          | none => none)
        | _ => none else none) = true
      -- the case in hand
      have key : ∀ (i : Nat) (fs : List D), cl[i]? = some (.tup fs) → c = (i : Int) → ((∃ r0 ∈ prodR (pats k) fs, mt (r0 ++ List.replicate (Wm - r0.length) (some 0)) (sl ws (st + 1) Wm)) ↔ Option.isSome (match nsts (fun f p => nst k f ws p) (wd k) fs (st + 1) with
          | some (vs, p) => if ∀ x ∈ sl ws p (st + wd (k + 1) (.tup cl) - p), x = 0 then some (D.tup [.int c, .tup vs]) else none
          | none => none) = true) := fun i fs hi ci => by
        obtain ⟨fs', e, hf⟩ := hg _ (List.mem_of_getElem? hi)
        cases e
        obtain ⟨_, h2, h3⟩ := prod_ok hf
        have hm := hle i fs hi
        have h3 := h3 ws (st + 1) hw (by omega)
        have tot : Wm = (fs.map (wd k)).sum + (Wm - (fs.map (wd k)).sum) := by omega
        have l1 : (sl ws (st + 1) (fs.map (wd k)).sum).length = (fs.map (wd k)).sum := sl_len (by omega)
        have l2 : (sl ws (st + 1 + (fs.map (wd k)).sum) (Wm - (fs.map (wd k)).sum)).length = Wm - (fs.map (wd k)).sum := sl_len (by omega)
        have split : ∀ r0 ∈ prodR (pats k) fs, (mt (r0 ++ List.replicate (Wm - r0.length) (some 0)) (sl ws (st + 1) Wm) ↔ mt r0 (sl ws (st + 1) (fs.map (wd k)).sum) ∧ ∀ x ∈ sl ws (st + 1 + (fs.map (wd k)).sum) (Wm - (fs.map (wd k)).sum), x = 0) := fun r0 h0 => by
          conv => lhs; rw [tot]
          rw [sl_add, mt_app (by rw [h2 r0 h0, l1]), h2 r0 h0]
          have : (fs.map (wd k)).sum + (Wm - (fs.map (wd k)).sum) - (fs.map (wd k)).sum = Wm - (fs.map (wd k)).sum := by omega
          rw [this, mt_zeros l2]
        constructor
        · rintro ⟨r0, h0, hmt⟩
          rw [split r0 h0] at hmt
          obtain ⟨q, hq⟩ := Option.isSome_iff_exists.mp (h3.mp ⟨r0, h0, hmt.1⟩)
          obtain ⟨vs, p⟩ := q
          obtain ⟨e1, _⟩ := nsts_end hq
          rw [hq]
          dsimp only
          rw [if_pos]
          · rfl
          · intro x hx
            refine hmt.2 x ?_
            rw [e1] at hx
            have ez : st + wd (k + 1) (.tup cl) - (st + 1 + (fs.map (wd k)).sum) = Wm - (fs.map (wd k)).sum := by omega
            rw [ez] at hx; exact hx
        · intro h
          cases hq : nsts (fun f p => nst k f ws p) (wd k) fs (st + 1) with
          | none => rw [hq] at h; cases h
          | some q =>
            obtain ⟨vs, p⟩ := q
            obtain ⟨e1, _⟩ := nsts_end hq
            rw [hq] at h
            dsimp only at h
            by_cases hz : ∀ x ∈ sl ws p (st + wd (k + 1) (.tup cl) - p), x = 0
            · obtain ⟨r0, h0, hm0⟩ := h3.mpr (by rw [hq]; rfl)
              refine ⟨r0, h0, (split r0 h0).mpr ⟨hm0, fun x hx => hz x ?_⟩⟩
              rw [e1]
              have ez : st + wd (k + 1) (.tup cl) - (st + 1 + (fs.map (wd k)).sum) = Wm - (fs.map (wd k)).sum := by omega
              rw [ez]; exact hx
            · rw [if_neg hz] at h; cases h
      constructor
      · rintro ⟨r, hr, hm⟩
        obtain ⟨i, fs, r0, hi, h0, rfl⟩ := (hmem r).mp hr
        have hm : mt (some (i : Int) :: (r0 ++ List.replicate (Wm - r0.length) (some 0))) (c :: sl ws (st + 1) Wm) := hm
        rw [mt_cons] at hm
        have ci : c = (i : Int) := by
          rcases hm.1 with z | z
          · cases z
          · exact (Option.some.inj z).symm
        have il := (List.getElem?_eq_some_iff.mp hi).1
        rw [if_pos (by omega)]
        have et : c.toNat = i := by omega
        rw [et, hi]
        exact (key i fs hi ci).mp ⟨r0, h0, hm.2⟩
      · intro h
        by_cases hcl2 : 0 ≤ c ∧ c < cl.length
        · rw [if_pos hcl2] at h
          have hlt : c.toNat < cl.length := by omega
          have hi : cl[c.toNat]? = some cl[c.toNat] := List.getElem?_eq_getElem hlt
          obtain ⟨fs, e, hf⟩ := hg _ (List.getElem_mem hlt)
          rw [e] at hi
          rw [hi] at h
          have ci : c = (c.toNat : Int) := by omega
          obtain ⟨r0, h0, hm⟩ := (key c.toNat fs hi ci).mpr h
          refine ⟨_, (hmem _).mpr ⟨c.toNat, fs, r0, hi, h0, rfl⟩, ?_⟩
          show mt (some (c.toNat : Int) :: (r0 ++ List.replicate (Wm - r0.length) (some 0))) (c :: sl ws (st + 1) Wm)
          rw [mt_cons]
          exact ⟨.inr (by rw [← ci]), hm⟩
        · rw [if_neg hcl2] at h; cases h
end Q07
end
section
set_option Elab.async false
set_option linter.all false
set_option maxRecDepth 100000
set_option maxHeartbeats 2000000
/-! K07d: the program's functions. -/
namespace Q07
open Ly
open K07 (m f0 f1 f2 f3 f4 f5 f6 f7 f8 f9 c0 c1 c2 c3 c4 c5 c6 c7 c8 c9 l7_0 l8_0)
noncomputable abbrev cf (n : Nat) := cF m.T m.P n
/-- one step -/
local macro_rules | `(tactic| array_get_dec) => `(tactic| first
  | refine W_seq ?_ | refine W_ret ?_ | refine W_set ?_ | refine W_asg ?_ | refine W_if ?_ | refine W_skip ?_ | refine W_ex ?_ | refine W_setI ?_ | refine W_aug rfl ?_ | refine W_retN ?_ | refine W_for ?_
  | refine E_var rfl ?_ | refine E_cst ?_ | refine E_bop ?_ | refine E_cmp ?_ | refine E_chn ?_ | refine E_neg ?_ | refine E_not ?_ | refine E_and ?_ | refine E_or ?_ | refine E_ite ?_ | refine E_tr ?_ | refine E_tup ?_ | refine E_lst ?_ | refine E_call ?_ | refine E_bi ?_ | refine E_mth ?_ | refine E_isi ?_ | refine E_sub ?_ | refine E_slc ?_ | refine E_itr ?_ | refine E_lc ?_ | refine EA_cons ?_ | refine EA_nil ?_
  | refine RE_add ?_ | refine RE_sub ?_ | refine RE_lt ?_ | refine RE_le ?_ | refine RE_gt ?_ | refine RE_ge ?_ | refine RE_eqI ?_ | refine RE_neI ?_ | refine RE_eqS ?_ | refine RE_neS ?_ | refine tr_b ?_ | refine bl_1 ?_)
/-- typed, as deep as k -/
def Tyd : Nat → AH → D → Prop
  | 0, h, d => (tyOf h d).isSome = true
  | k + 1, h, d => (tyOf h d).isSome = true ∧ ∀ xs, d = .tup xs → ∀ x ∈ xs, Tyd k h x
theorem Tyd.ty {k : Nat} {h : AH} {d : D} (t : Tyd k h d) : ∃ b, tyOf h d = some b := by
  cases k with
  | zero => exact Option.isSome_iff_exists.mp t
  | succ k => exact Option.isSome_iff_exists.mp t.1
theorem ty_keep {h h' : AH} (hk : ∀ (n : Nat) (xs : List D), h[n]? = some (.lst xs) → ∃ ys, h'[n]? = some (.lst ys)) (hd : ∀ (n : Nat) (xs : List (D × D)), h[n]? = some (.dct xs) → ∃ ys, h'[n]? = some (.dct ys)) {d : D} (e : (tyOf h d).isSome = true) : (tyOf h' d).isSome = true := by
  cases d with
  | ref n =>
    have e' : (match h[n]? with
      | some (.lst _) => some Bt.list
      | some (.dct _) => some Bt.dict
      | _ => none : Option Bt).isSome = true := e
    show (match h'[n]? with
      | some (.lst _) => some Bt.list
      | some (.dct _) => some Bt.dict
      | _ => none : Option Bt).isSome = true
    cases q : h[n]? with
    | none => rw [q] at e'; cases e'
    | some ao =>
      cases ao with
      | lst xs =>
        obtain ⟨ys, z⟩ := hk n xs q
        rw [z]; rfl
      | dct xs =>
        obtain ⟨ys, z⟩ := hd n xs q
        rw [z]; rfl
  | it => cases e
  | _ => rfl
/-- lists stay lists -/
def Ls (h h' : AH) : Prop := (∀ (n : Nat) (xs : List D), h[n]? = some (.lst xs) → ∃ ys, h'[n]? = some (.lst ys)) ∧ ∀ (n : Nat) (xs : List (D × D)), h[n]? = some (.dct xs) → ∃ ys, h'[n]? = some (.dct ys)
theorem Ls.of {h h' : AH} (k : Kp no1 h h') : Ls h h' := ⟨fun n xs e => ⟨xs, k.get e id⟩, fun n xs e => ⟨xs, k.get e id⟩⟩
theorem Ls.trans {h h' h'' : AH} (a : Ls h h') (b : Ls h' h'') : Ls h h'' := ⟨fun n xs e => by
  obtain ⟨ys, e⟩ := a.1 n xs e
  exact b.1 n ys e, fun n xs e => by
  obtain ⟨ys, e⟩ := a.2 n xs e
  exact b.2 n ys e⟩
theorem Tyd.keep {h h' : AH} (l : Ls h h') : ∀ {k : Nat} {d : D}, Tyd k h d → Tyd k h' d
  | 0, d, t => ty_keep l.1 l.2 t
  | k + 1, d, t => ⟨ty_keep l.1 l.2 t.1, fun xs e x hx => Tyd.keep l (t.2 xs e x hx)⟩
section
variable {N : Nat} {h : AH} {d : D} {t : Bt}
theorem s0 (ht : tyOf h d = some t) (hN : 1 ≤ N) : RE (cf N 0 [d] h) (fun r h' => r = .bl (t.sub .int && !t.sub .bool) ∧ h' = h) noX := by
  obtain ⟨N, rfl⟩ : ∃ M, N = M + 1 := ⟨N - 1, by omega⟩
  refine cF_wp (d := f0.df) rfl rfl ?_
  show W _ c0 [some d] h _
  unfold c0
  repeat array_get_dec
  refine ⟨t, ht, ?_⟩
  refine bl_b (fun z => ?_) fun z => ⟨?_, rfl⟩
  · repeat array_get_dec
    refine ⟨t, ht, ?_⟩
    refine bl_1 ⟨?_, rfl⟩
    cases t <;> first | rfl | cases z
  · cases t <;> first | rfl | cases z
/-- is a number -/
def isNm : D → Bool
  | .int i => decide (0 ≤ i)
  | _ => false
def isW : D → Bool
  | .int i => decide (isWd i)
  | _ => false
theorem nm_ty (ht : tyOf h d = some t) : (t.sub .int && !t.sub .bool) = (asInt d).isSome := by
  cases d <;> (first | (cases ht; done) | (cases ht; rfl) | skip)
  · rename_i n
    have e : (match h[n]? with
      | some (.lst _) => some Bt.list
      | some (.dct _) => some Bt.dict
      | _ => none : Option Bt) = some t := ht
    split at e
    · cases e; rfl
    · cases e; rfl
    · cases e
theorem s1 (ht : tyOf h d = some t) (hN : 2 ≤ N) : RE (cf N 1 [d] h) (fun r h' => r = .bl (isNm d) ∧ h' = h) noX := by
  obtain ⟨N, rfl⟩ : ∃ M, N = M + 1 := ⟨N - 1, by omega⟩
  refine cF_wp (d := f1.df) rfl rfl ?_
  show W _ c1 [some d] h _
  unfold c1
  repeat array_get_dec
  refine (s0 ht (by omega)).any fun r h' ⟨e1, e2⟩ => ?_
  subst e1 e2
  rw [nm_ty ht]
  cases d with
  | int i =>
    refine bl_t rfl ?_
    repeat array_get_dec
    exact ⟨rfl, rfl⟩
  | _ => exact bl_f rfl ⟨rfl, rfl⟩
theorem s2 (ht : tyOf h d = some t) (hN : 3 ≤ N) : RE (cf N 2 [d] h) (fun r h' => r = .bl (isW d) ∧ h' = h) noX := by
  obtain ⟨N, rfl⟩ : ∃ M, N = M + 1 := ⟨N - 1, by omega⟩
  refine cF_wp (d := f2.df) rfl rfl ?_
  show W _ c2 [some d] h _
  unfold c2
  repeat array_get_dec
  refine (s1 ht (by omega)).any fun r h' ⟨e1, e2⟩ => ?_
  subst e1 e2
  cases d with
  | int i =>
    refine bl_b (fun z => ?_) fun z => ⟨?_, rfl⟩
    · repeat array_get_dec
      refine ⟨?_, rfl⟩
      have z : decide (0 ≤ i) = true := z
      have z := of_decide_eq_true z
      show D.bl (decide (i < 65536)) = .bl (decide (isWd i))
      congr 1
      unfold isWd
      simp [z]
    · have z : decide (0 ≤ i) = false := z
      have z := of_decide_eq_false z
      show D.bl false = .bl (decide (isWd i))
      congr 1
      unfold isWd
      simp [z]
  | _ => exact bl_f rfl ⟨rfl, rfl⟩
end
/-- a structure and how long its lists are -/
def isS : Nat → D → Prop
  | 0, _ => False
  | k + 1, .tup cs => cs ≠ [] ∧ cs.length ≤ 1000 ∧ ∀ c ∈ cs, ∃ fs, c = .tup fs ∧ fs.length ≤ 1000 ∧ ∀ f ∈ fs, isS k f
  | _ + 1, .str x => x = "word"
  | _ + 1, _ => False
theorem isS_cases {k : Nat} {d : D} (h : isS (k + 1) d) : d = .str "word" ∨ ∃ cs, d = .tup cs ∧ cs ≠ [] ∧ cs.length ≤ 1000 ∧ ∀ c ∈ cs, ∃ fs, c = .tup fs ∧ fs.length ≤ 1000 ∧ ∀ f ∈ fs, isS k f := by
  cases d with
  | tup cs => exact .inr ⟨cs, rfl, h⟩
  | str x =>
    have h : x = "word" := h
    subst h
    exact .inl rfl
  | _ => exact h.elim
theorem optMap_ok {α β : Type} {f : α → Option β} : ∀ {xs : List α}, (∀ x ∈ xs, ∃ y, f x = some y) → ∃ ys, optMap f xs = some ys
  | [], _ => ⟨[], rfl⟩
  | x :: xs, h => by
    obtain ⟨y, e⟩ := h x (by simp)
    obtain ⟨ys, e2⟩ := optMap_ok fun z hz => h z (List.mem_cons_of_mem _ hz)
    exact ⟨y :: ys, by unfold optMap; rw [e, e2]⟩
theorem pd_sh {h : AH} : ∀ (k j : Nat) (d : D), isS k d → 2 * k ≤ j → ∃ p, pd h j d = some p
  | 0, _, _, e, _ => e.elim
  | k + 1, 0, _, _, e => by omega
  | k + 1, 1, _, _, e => by omega
  | k + 1, j + 2, d, e, hj => by
    rcases isS_cases e with rfl | ⟨cs, rfl, _, _, hc⟩
    · exact ⟨_, rfl⟩
    · obtain ⟨ys, z⟩ := optMap_ok (f := pd h (j + 1)) (xs := cs) fun c hcm => by
        obtain ⟨fs, rfl, _, hf⟩ := hc c hcm
        obtain ⟨zs, z⟩ := optMap_ok (f := pd h j) (xs := fs) fun f hfm => pd_sh k j f (hf f hfm) (by omega)
        exact ⟨.tuple zs, by show (optMap (pd h j) fs).map PySem.PyData.tuple = _; rw [z]; rfl⟩
      exact ⟨.tuple ys, by show (optMap (pd h (j + 1)) cs).map PySem.PyData.tuple = _; rw [z]; rfl⟩
/-- is it the word -/
theorem RE_word {k : Nat} {d : D} {h : AH} {P : D → AH → Prop} {X : XE} (hs : isS k d) (hk : k ≤ 30) (h1 : d = .str "word" → P (.bl true) h) (h2 : ∀ cs, d = .tup cs → P (.bl false) h) : RE (cmpS .Eq d (.str "word") h) P X := by
  cases k with
  | zero => exact hs.elim
  | succ k =>
    rcases isS_cases hs with rfl | ⟨cs, rfl, _⟩
    · exact RE_eqS (by simpa using h1 rfl)
    · obtain ⟨p, e⟩ := pd_sh (h := h) (k + 1) pdN _ hs (by show _ ≤ 60; omega)
      have e' : (optMap (pd h 59) cs).map PySem.PyData.tuple = some p := e
      cases q : optMap (pd h 59) cs with
      | none => rw [q] at e'; cases e'
      | some ps =>
        rw [q] at e'
        cases e'
        exact RE_eq e rfl rfl (by
          have : PySem.PyData.eqv (.tuple ps) (.str "word") = false := by simp [PySem.PyData.eqv]
          rw [this]; exact h2 cs rfl)
theorem foldmax_cast : ∀ (ws : List Nat) (a : Nat), (ws.map fun (w : Nat) => (w : Int)).foldl max (a : Int) = ((ws.foldl max a : Nat) : Int)
  | [], a => rfl
  | w :: ws, a => by
    rw [List.map_cons, List.foldl_cons, List.foldl_cons]
    have e : max (a : Int) (w : Int) = ((max a w : Nat) : Int) := by omega
    rw [e, foldmax_cast ws]
theorem sum_cast : ∀ (ws : List Nat), (ws.map fun (w : Nat) => (w : Int)).sum = ((ws.sum : Nat) : Int)
  | [] => rfl
  | w :: ws => by
    rw [List.map_cons, List.sum_cons, List.sum_cons, sum_cast ws]; omega
theorem s3 : ∀ (k : Nat) {N : Nat} {d : D} {h : AH}, isS k d → k ≤ 30 → k ≤ N → RE (cf N 3 [d] h) (fun r h' => r = .int (wd k d) ∧ Kp no1 h h') noX
  | 0, _, _, _, hs, _, _ => hs.elim
  | k + 1, N, d, h, hs, hk, hN => by
    obtain ⟨N, rfl⟩ : ∃ M, N = M + 1 := ⟨N - 1, by omega⟩
    refine cF_wp (d := f3.df) rfl rfl ?_
    show W _ c3 [some d, none, none, none] h _
    unfold c3
    repeat array_get_dec
    refine RE_word hs hk (fun e => ?_) (fun cs e => ?_)
    · subst e
      refine bl_t rfl ?_
      repeat array_get_dec
      exact ⟨rfl, .refl⟩
    · subst e
      have hs' : cs ≠ [] ∧ cs.length ≤ 1000 ∧ ∀ c ∈ cs, ∃ fs, c = .tup fs ∧ fs.length ≤ 1000 ∧ ∀ f ∈ fs, isS k f := hs
      obtain ⟨hne, hlen, hc⟩ := hs'
      refine bl_f rfl ?_
      repeat array_get_dec
      refine RE_seq (xs := cs) rfl ?_
      refine LC_map (fun c => .int (csum (wd k) c : Nat)) cs (by omega) (fun h2 _ j => rfl) (fun c hcm h2 k2 => ?_) (fun hF kF ac => ?_)
      · obtain ⟨fs, rfl, hfl, hf⟩ := hc c hcm
        dsimp only [List.set]
        repeat array_get_dec
        refine RE_seq (xs := fs) rfl ?_
        refine LC_map (fun f => .int (wd k f : Nat)) fs (by omega) (fun h3 _ j => rfl) (fun f hfm h3 k3 => ?_) (fun hF kF ac => ?_)
        · dsimp only [List.set]
          repeat array_get_dec
          exact (s3 k (hf f hfm) (by omega) (by omega)).imp fun r h' ⟨e1, e2⟩ => ⟨e2, e1⟩
        · repeat array_get_dec
          refine RE_sum (is := (fs.map (wd k)).map fun w => ((w : Nat) : Int)) (by rw [ac]; simp [Function.comp_def]) ⟨kF, ?_⟩
          rw [sum_cast]; rfl
      · dsimp only [List.set]
        repeat array_get_dec
        refine RE_len (seq_ref ac) ?_
        repeat array_get_dec
        match cs, hne, hlen, hc, ac with
        | [c], _, _, _, ac =>
          refine cj_t rfl ?_
          repeat array_get_dec
          exact RE_get1 (j := 0) (seq_ref ac) rfl rfl ⟨rfl, kF⟩
        | c1 :: c2 :: cs, _, _, _, ac =>
          refine cj_n ?_ ?_
          · simp; omega
          repeat array_get_dec
          refine RE_max1 (i := (csum (wd k) c1 : Nat)) (is := ((c2 :: cs).map (csum (wd k))).map fun w => ((w : Nat) : Int)) (by rw [ac]; simp [Function.comp_def]) ?_
          repeat array_get_dec
          refine ⟨?_, kF⟩
          rw [foldmax_cast]
          congr 1
end Q07
end
section
set_option Elab.async false
set_option linter.all false
set_option maxRecDepth 100000
set_option maxHeartbeats 4000000
/-! K07e: _nested, _names_case, _flat. -/
namespace Q07
open Ly
open K07 (m f0 f1 f2 f3 f4 f5 f6 f7 f8 f9 c0 c1 c2 c3 c4 c5 c6 c7 c8 c9 l7_0 l8_0)
local macro_rules | `(tactic| fail) => `(tactic| first | (with_reducible first
  | refine W_seq ?_ | refine W_ret ?_ | refine W_set ?_ | refine W_asg ?_ | refine W_if ?_ | refine W_skip ?_ | refine W_ex ?_ | refine W_setI ?_ | refine W_aug (by with_unfolding_all exact rfl) ?_ | refine W_retN ?_ | refine W_for ?_
  | refine E_var (by with_unfolding_all exact rfl) ?_ | refine E_cst ?_ | refine E_bop ?_ | refine E_cmp ?_ | refine E_chn ?_ | refine E_neg ?_ | refine E_not ?_ | refine E_and ?_ | refine E_or ?_ | refine E_ite ?_ | refine E_tr ?_ | refine E_tup ?_ | refine E_lst ?_ | refine E_call ?_ | refine E_bi ?_ | refine E_mth ?_ | refine E_isi ?_ | refine E_sub ?_ | refine E_slc ?_ | refine E_itr ?_ | refine E_lc ?_ | refine EA_cons ?_ | refine EA_nil ?_
  | refine asg_go (by with_unfolding_all exact rfl) ?_ | refine tup_go (by simp) ?_ | refine isi_go (by with_unfolding_all exact rfl) ?_ | refine tr_b ?_ | refine bl_1 ?_ | refine RE_ok ?_
  | refine RE_add ?_ | refine RE_sub ?_ | refine RE_lt ?_ | refine RE_le ?_ | refine RE_gt ?_ | refine RE_ge ?_ | refine RE_eqI ?_ | refine RE_neI ?_ | refine RE_eqS ?_ | refine RE_neS ?_ | refine tr_b ?_ | refine bl_1 ?_) | refine RE_ok ?_)
abbrev zs (ws : List Int) : List D := ws.map D.int
theorem sIx_nat {n d p : Nat} (h : p ≤ n) : HT.sIx n d (some (p : Int)) = p := by
  rw [HT.sIx_nat]; omega
theorem cut_sl {ws : List Int} {p q : Nat} (h1 : p ≤ q) (h2 : q ≤ ws.length) : cutD (zs ws) (some (p : Int)) (some (q : Int)) = zs (sl ws p (q - p)) := by
  unfold cutD sl
  rw [List.length_map, sIx_nat (p := p) (by omega), sIx_nat (p := q) h2]
  unfold zs
  rw [List.map_take, List.map_drop]
theorem zs_get {ws : List Int} {i : Nat} {x : Int} (h : ws[i]? = some x) : (zs ws)[i]? = some (.int x) := by
  rw [List.getElem?_map, h]; rfl
theorem nst_kind {k : Nat} {d : D} {ws : List Int} {st : Nat} {v : D} (h : nst k d ws st = some v) : (∃ i, v = .int i) ∨ ∃ xs, v = .tup xs := by
  cases k with
  | zero => cases h
  | succ k =>
    cases d with
    | tup cs =>
      rw [nst_tup] at h
      dsimp only at h
      generalize (if cs.length > 1 then (ws[st]?).getD (-1) else 0) = c at h
      by_cases hc : 0 ≤ c ∧ c < cs.length
      · rw [if_pos hc] at h
        split at h
        · split at h
          · rename_i vs p _
            by_cases hz : ∀ x ∈ sl ws p (st + wd (k + 1) (.tup cs) - p), x = 0
            · rw [if_pos hz] at h
              cases h; exact .inr ⟨_, rfl⟩
            · rw [if_neg hz] at h; cases h
          · cases h
        · cases h
      · rw [if_neg hc] at h; cases h
    | _ =>
      have h : (ws[st]?).map D.int = some v := h
      cases e : ws[st]? with
      | none => rw [e] at h; cases h
      | some x => rw [e] at h; cases h; exact .inl ⟨_, rfl⟩
theorem is_non {v : D} {h : AH} (k : (∃ i, v = .int i) ∨ ∃ xs, v = .tup xs) : cmpS .Is v .non h = okB false h := by
  rcases k with ⟨i, rfl⟩ | ⟨xs, rfl⟩ <;> rfl
theorem isnot_non {v : D} {h : AH} (k : (∃ i, v = .int i) ∨ ∃ xs, v = .tup xs) : cmpS .IsNot v .non h = okB true h := by
  rcases k with ⟨i, rfl⟩ | ⟨xs, rfl⟩ <;> rfl
theorem drop_sum {fs : List D} {i : Nat} {f : D} (w : D → Nat) (h : fs[i]? = some f) : fs.drop i = f :: fs.drop (i + 1) := by
  obtain ⟨h1, h2⟩ := List.getElem?_eq_some_iff.mp h
  rw [List.drop_eq_getElem_cons h1, h2]
theorem map_map_nst (q : Option (List D × Nat)) (vs : List D) (v : D) : (q.map fun q => (v :: q.1, q.2)).map (fun q => (vs ++ q.1, q.2)) = q.map fun q => ((vs ++ [v]) ++ q.1, q.2) := by
  cases q <;> simp
theorem s7 : ∀ (k : Nat) {N : Nat} {d : D} {h : AH} {ws : List Int} {st : Nat}, isS k d → k ≤ 30 → k + 1 ≤ N → (∀ x ∈ ws, isWd x) → ws.length ≤ 10000 → st + wd k d ≤ ws.length → RE (cf N 7 [d, .tup (zs ws), .int st] h) (fun r h' => r = (nst k d ws st).getD .non ∧ Kp no1 h h') noX
  | 0, _, _, _, _, _, hs, _, _, _, _, _ => hs.elim
  | k + 1, N, d, h, ws, st, hs, hk, hN, hw, hwl, hl => by
    obtain ⟨N, rfl⟩ : ∃ M, N = M + 1 := ⟨N - 1, by omega⟩
    refine cF_wp (d := f7.df) rfl rfl ?_
    show W _ c7 [some d, some (.tup (zs ws)), some (.int st), none, none, none, none, none, none, none] h _
    unfold c7
    repeat fail
    refine RE_word hs hk (fun e => ?_) (fun cs e => ?_)
    · subst e
      have hl : st + 1 ≤ ws.length := hl
      refine bl_t rfl ?_
      repeat fail
      have hg : ws[st]? = some ws[st] := List.getElem?_eq_getElem (by omega)
      refine RE_get1 (xs := zs ws) (j := st) rfl (ixOf_nat (by rw [List.length_map]; omega)) (zs_get hg) ⟨?_, .refl⟩
      show D.int ws[st] = ((ws[st]?).map D.int).getD .non
      rw [hg]; rfl
    · subst e
      have hs' : cs ≠ [] ∧ cs.length ≤ 1000 ∧ ∀ c ∈ cs, ∃ fs, c = .tup fs ∧ fs.length ≤ 1000 ∧ ∀ f ∈ fs, isS k f := hs
      obtain ⟨hne, hlen, hc⟩ := hs'
      refine bl_f rfl ?_
      repeat fail
      dsimp only [List.set]
      -- behind the case
      have rest : ∀ (c : Nat) (fs : List D) (p0 : Nat), cs[c]? = some (.tup fs) → p0 + (fs.map (wd k)).sum ≤ st + wd (k + 1) (.tup cs) → st ≤ p0 → nst (k + 1) (.tup cs) ws st = (match nsts (fun f p => nst k f ws p) (wd k) fs p0 with
            | some (vs, p) => if ∀ x ∈ sl ws p (st + wd (k + 1) (.tup cs) - p), x = 0 then some (.tup [.int c, .tup vs]) else none
            | none => none) → W (gN m.T m.P N) (.seq (.asg (.v 3) (.lst .nil))
    (.seq (.for_ (.v 4) (.itr 0 (.cons (.sub (.var 0) (.var 6)) .nil)) l7_0)
    (.seq (.asg (.v 5) (.slc (.var 1) (.var 7) (.bop .Add (.var 2) (.call 3 (.cons (.var 0) .nil)))))
    (.seq (.ifS (.not_ (.tr (.bi .all (.cons (.lc (.v 9) (.itr 0 (.cons (.var 5) .nil)) (.cst (.bl true)) (.cmp .Eq (.var 9) (.cst (.int 0)))) .nil)))) (.seq (.ret (.cst (.non)))
    .skip) .skip)
    (.seq (.ret (.tup (.cons (.var 6) (.cons (.bi .tuple (.cons (.var 3) .nil)) .nil))))
    .skip))))) [some (.tup cs), some (.tup (zs ws)), some (.int st), none, none, none, some (.int (c : Int)), some (.int (p0 : Int)), none, none] h ⟨fun _ h_1 => D.non = (nst (k + 1) (.tup cs) ws st).getD .non ∧ Kp no1 h h_1, fun r h' => r = (nst (k + 1) (.tup cs) ws st).getD .non ∧ Kp no1 h h', fun _ _ => False, fun _ _ => False, fun c fs vs _ h => noX c fs vs h⟩ := by
        intro c fs p0 hcs hsum hst hnst
        obtain ⟨fs', e, hfl, hf⟩ := hc _ (List.mem_of_getElem? hcs)
        cases e
        repeat fail
        dsimp only [List.set]
        refine RE_get1 (xs := cs) (j := c) rfl (ixOf_nat (List.getElem?_eq_some_iff.mp hcs).1) hcs ?_
        repeat fail
        refine FW_inv fs (fun i σ h2 => ∃ x4 x8 vs p, σ = [some (.tup cs), some (.tup (zs ws)), some (.int st), some (.ref h.length), x4, none, some (.int (c : Int)), some (.int ((p : Nat) : Int)), x8, none] ∧ Kp no1 h h2 ∧ h2[h.length]? = some (.lst vs) ∧ vs.length = i ∧ st ≤ p ∧ p + ((fs.drop i).map (wd k)).sum ≤ st + wd (k + 1) (.tup cs) ∧
            nsts (fun f p => nst k f ws p) (wd k) fs p0 = (nsts (fun f p => nst k f ws p) (wd k) (fs.drop i) p).map fun q => (vs ++ q.1, q.2)) (lt_wf (by omega)) ⟨none, none, [], p0, rfl, .app _, by simp, rfl, hst, hsum, by simp⟩ (fun i σ h2 _ _ => rfl) (fun i f σ h2 hfi hI => ?_) (fun σ h2 hI => ?_)
        · obtain ⟨x4, x8, vs, p, rfl, k2, ac, hvl, hp0, hp, hn⟩ := hI
          have hfm := List.mem_of_getElem? hfi
          rw [drop_sum (wd k) hfi, sum_cons] at hp
          rw [drop_sum (wd k) hfi] at hn
          have hil := (List.getElem?_eq_some_iff.mp hfi).1
          refine ⟨_, rfl, ?_⟩
          dsimp only [List.set]
          unfold l7_0
          repeat fail
          refine (s7 k (hf f hfm) (by omega) (by omega) hw hwl (by omega)).any fun r h3 ⟨e1, k3⟩ => ?_
          dsimp only [List.set]
          cases q : nst k f ws p with
          | none =>
            rw [q] at e1
            subst e1
            repeat fail
            refine cj_t rfl ?_
            repeat fail
            refine ⟨?_, k2.trans k3⟩
            rw [hnst, hn]
            unfold nsts
            rw [q]; rfl
          | some v =>
            rw [q] at e1
            have e1 : r = v := e1
            subst e1
            repeat fail
            refine RE_isNon (b := false) (is_non (nst_kind q)) ?_
            refine bl_f rfl ?_
            repeat fail
            have ac3 := k3.get ac id
            refine ⟨isLst_of ac3, ?_⟩
            repeat fail
            refine RE_append ac3 (by omega) ?_
            repeat fail
            refine (s3 k (hf f hfm) (by omega) (by omega)).any fun r2 h4 ⟨e2, k4⟩ => ?_
            subst e2
            show RE (augS .Add (.int (p : Int)) (.int (wd k f : Nat)) h4) _ _
            refine RE_ok ?_
            dsimp only [List.set]
            repeat fail
            have hlt : h.length < h3.length := lt_of_get ac3
            refine ⟨_, _, vs ++ [r], p + wd k f, by rw [Int.natCast_add], ((k2.trans k3).set (.inr (Nat.le_refl _)) _).trans k4, k4.get (by rw [List.getElem?_set_self hlt]) id, by simp [hvl], by omega, by omega, ?_⟩
            rw [hn]
            conv => lhs; unfold nsts
            rw [q]
            exact map_map_nst _ _ _
        · obtain ⟨x4, x8, vs, p, rfl, k2, ac, hvl, hp0, hp, hn⟩ := hI
          rw [List.drop_length] at hn hp
          have hn : nsts (fun f p => nst k f ws p) (wd k) fs p0 = some (vs, p) := by
            rw [hn]
            simp [nsts]
          have hp : p ≤ st + wd (k + 1) (.tup cs) := by simpa using hp
          repeat fail
          refine ⟨rfl, ?_⟩
          repeat fail
          refine (s3 (k + 1) hs hk (by omega)).any fun r h3 ⟨e1, k3⟩ => ?_
          subst e1
          repeat fail
          have ecut : cutD (zs ws) (some (p : Int)) (some ((st : Int) + (wd (k + 1) (.tup cs) : Nat))) = zs (sl ws p (st + wd (k + 1) (.tup cs) - p)) := by
            rw [← Int.natCast_add]
            exact cut_sl hp hl
          dsimp only [List.set]
          rw [ecut]
          have hsl : (sl ws p (st + wd (k + 1) (.tup cs) - p)).length ≤ 10000 := by unfold sl; rw [List.length_take, List.length_drop]; omega
          refine LC_map (fun x => match x with | .int i => .bl (decide (i = 0)) | x => x) _ (by rw [List.length_map]; omega) (fun h4 _ j => rfl) (fun x hx h4 k4 => ?_) (fun hF kF acF => ?_)
          · obtain ⟨i, hi, rfl⟩ := List.mem_map.mp hx
            dsimp only [List.set]
            repeat fail
            exact ⟨.refl, rfl⟩
          · repeat fail
            refine RE_all (bs := (sl ws p (st + wd (k + 1) (.tup cs) - p)).map fun i => decide (i = 0)) (by rw [acF]; simp [Function.comp_def]) ?_
            repeat fail
            have eall : (((sl ws p (st + wd (k + 1) (.tup cs) - p)).map fun i => decide (i = 0)).all id = true) ↔ ∀ x ∈ sl ws p (st + wd (k + 1) (.tup cs) - p), x = 0 := by simp
            refine ⟨fun z => ?_, fun z => ?_⟩
            · have z : ¬ ∀ x ∈ sl ws p (st + wd (k + 1) (.tup cs) - p), x = 0 := fun w => by
                rw [eall.mpr w] at z; cases z
              repeat fail
              refine ⟨?_, (k2.trans k3).trans kF⟩
              rw [hnst, hn]
              dsimp only
              rw [if_neg z]; rfl
            · have z : ∀ x ∈ sl ws p (st + wd (k + 1) (.tup cs) - p), x = 0 := eall.mp (by simpa using z)
              repeat fail
              refine RE_tuple (seq_ref ((k3.trans kF).get ac id)) ?_
              repeat fail
              refine ⟨?_, (k2.trans k3).trans kF⟩
              rw [hnst, hn]
              dsimp only
              rw [if_pos z]; rfl
      refine cj_if (fun c1 => ?_) (fun c1 => ?_)
      · have c1 : cs.length > 1 := by omega
        have hst : st < ws.length := by
          have : 1 ≤ wd (k + 1) (.tup cs) := by
            have := case_le (k := k) (c := cs[0]) (List.getElem_mem (by omega : 0 < cs.length))
            rw [if_pos c1] at this
            omega
          omega
        have hg : ws[st]? = some ws[st] := List.getElem?_eq_getElem hst
        have hcw := hw _ (List.mem_of_getElem? hg)
        repeat fail
        refine RE_get1 (xs := zs ws) (j := st) rfl (ixOf_nat (by rw [List.length_map]; omega)) (zs_get hg) ?_
        repeat fail
        dsimp only [List.set]
        refine cj_if (fun c2 => ?_) (fun c2 => ?_)
        · repeat fail
          refine ⟨?_, .refl⟩
          rw [nst_tup]
          dsimp only
          rw [if_pos c1, hg]
          show D.non = Option.getD (if 0 ≤ ws[st] ∧ ws[st] < cs.length then _ else none) .non
          rw [if_neg (by omega)]; rfl
        · with_reducible refine W_skip ?_
          with_reducible refine W_skip ?_
          dsimp only [List.set]
          have hcl : ws[st].toNat < cs.length := by have := hcw.1; omega
          obtain ⟨fs, e, hfl, hf⟩ := hc _ (List.getElem_mem hcl)
          have hcs : cs[ws[st].toNat]? = some (.tup fs) := by rw [List.getElem?_eq_getElem hcl, e]
          have hle := case_le (k := k) (List.mem_of_getElem? hcs)
          rw [if_pos c1] at hle
          have hle : (fs.map (wd k)).sum + 1 ≤ wd (k + 1) (.tup cs) := hle
          have r := rest ws[st].toNat fs (st + 1) hcs (by omega) (by omega) (by
            rw [nst_tup]
            dsimp only
            rw [if_pos c1, hg]
            show (if 0 ≤ ws[st] ∧ ws[st] < cs.length then _ else none) = _
            rw [if_pos ⟨hcw.1, by omega⟩]
            show (match cs[ws[st].toNat]? with
              | some (.tup fs) => _
              | _ => none) = _
            rw [hcs, if_pos c1]
            have ez : ((ws[st].toNat : Nat) : Int) = ws[st] := by have := hcw.1; omega
            rw [ez]
            rfl)
          have ez : ((ws[st].toNat : Nat) : Int) = ws[st] := by have := hcw.1; omega
          rw [ez, Int.natCast_add] at r
          exact r
      · have c1 : ¬ cs.length > 1 := by omega
        with_reducible refine W_skip ?_
        dsimp only [List.set]
        have h0 : 0 < cs.length := by
          cases cs with
          | nil => exact absurd rfl hne
          | cons => simp
        obtain ⟨fs, e, hfl, hf⟩ := hc _ (List.getElem_mem h0)
        have hcs : cs[0]? = some (.tup fs) := by rw [List.getElem?_eq_getElem h0, e]
        have hle := case_le (k := k) (List.mem_of_getElem? hcs)
        rw [if_neg c1] at hle
        have hle : (fs.map (wd k)).sum + 0 ≤ wd (k + 1) (.tup cs) := hle
        exact rest 0 fs st hcs (by omega) (by omega) (by
          rw [nst_tup]
          dsimp only
          rw [if_neg c1, if_pos ⟨by decide, by omega⟩]
          show (match cs[0]? with
            | some (.tup fs) => _
            | _ => none) = _
          rw [hcs, if_neg c1]; rfl)
end Q07
end
section
set_option Elab.async false
set_option linter.all false
set_option maxRecDepth 100000
set_option maxHeartbeats 4000000
/-! K07f: _names_case, _flat, is_value, nested_of, flat_of. -/
namespace Q07
open Ly
open K07 (m f0 f1 f2 f3 f4 f5 f6 f7 f8 f9 c0 c1 c2 c3 c4 c5 c6 c7 c8 c9 l7_0 l8_0)
local macro_rules | `(tactic| fail) => `(tactic| first | (with_reducible first
  | refine W_seq ?_ | refine W_ret ?_ | refine W_set ?_ | refine W_asg ?_ | refine W_if ?_ | refine W_skip ?_ | refine W_ex ?_ | refine W_setI ?_ | refine W_aug (by with_unfolding_all exact rfl) ?_ | refine W_retN ?_ | refine W_for ?_ | refine W_raise ?_
  | refine E_var (by with_unfolding_all exact rfl) ?_ | refine E_cst ?_ | refine E_bop ?_ | refine E_cmp ?_ | refine E_chn ?_ | refine E_neg ?_ | refine E_not ?_ | refine E_and ?_ | refine E_or ?_ | refine E_ite ?_ | refine E_tr ?_ | refine E_tup ?_ | refine E_lst ?_ | refine E_call ?_ | refine E_bi ?_ | refine E_mth ?_ | refine E_isi ?_ | refine E_sub ?_ | refine E_slc ?_ | refine E_itr ?_ | refine E_lc ?_ | refine EA_cons ?_ | refine EA_nil ?_
  | refine asg_go (by with_unfolding_all exact rfl) ?_ | refine tup_go (by simp) ?_ | refine isi_go (by with_unfolding_all exact rfl) ?_ | refine tr_b ?_ | refine bl_1 ?_ | refine neg_go ?_
  | refine RE_add ?_ | refine RE_sub ?_ | refine RE_lt ?_ | refine RE_le ?_ | refine RE_gt ?_ | refine RE_ge ?_ | refine RE_eqI ?_ | refine RE_neI ?_ | refine RE_eqS ?_ | refine RE_neS ?_ | refine RE_ok ?_) | refine RE_ok ?_)
def lenOf (cs : List D) (c : Int) : Option Nat := match cs[c.toNat]? with
  | some (.tup fs) => some fs.length
  | _ => none
def ncB (cs : List D) (v : D) : Bool := match asPair v with
  | some (c, vs) => decide (0 ≤ c ∧ c < cs.length) && decide (lenOf cs c = some vs.length)
  | none => false
theorem ref_ty {n : Nat} {h : AH} {t : Bt} (e : tyOf h (.ref n) = some t) : t.sub .tuple = false ∧ t.sub .int = false := by
  have e : (match h[n]? with
    | some (.lst _) => some Bt.list
    | some (.dct _) => some Bt.dict
    | _ => none : Option Bt) = some t := e
  split at e
  · cases e; exact ⟨rfl, rfl⟩
  · cases e; exact ⟨rfl, rfl⟩
  · cases e
theorem s9 {N : Nat} {cs : List D} {v : D} {h : AH} (hc : ∀ c ∈ cs, ∃ fs, c = .tup fs) (hv : Tyd 1 h v) (hN : 3 ≤ N) : RE (cf N 9 [.tup cs, v] h) (fun r h' => r = .bl (ncB cs v) ∧ h' = h) noX := by
  obtain ⟨N, rfl⟩ : ∃ M, N = M + 1 := ⟨N - 1, by omega⟩
  refine cF_wp (d := f9.df) rfl rfl ?_
  show W _ c9 [some (.tup cs), some v, none, none] h _
  unfold c9
  have no : asPair v = none → (D.bl false = .bl (ncB cs v) ∧ h = h) := fun e => by
    unfold ncB
    rw [e]
    exact ⟨rfl, rfl⟩
  cases v with
  | ref n =>
    repeat fail
    obtain ⟨t, ht⟩ := hv.ty
    refine isi_go ht ?_
    have e : (List.any [Bt.tuple] fun n => t.sub n) = false := by simp [(ref_ty ht).1]
    rw [e]
    repeat fail
    refine cj_t rfl ?_
    repeat fail
    refine cj_t rfl ?_
    repeat fail
    exact no rfl
  | it => obtain ⟨t, ht⟩ := hv.ty; cases ht
  | tup xs =>
    have hx := hv.2 xs rfl
    repeat fail
    refine cj_f rfl ?_
    repeat fail
    match xs, hx, no with
    | [x, y], hx, no =>
      refine cj_f rfl ?_
      repeat fail
      obtain ⟨tx, hx1⟩ := (hx x (by simp)).ty
      obtain ⟨ty, hy1⟩ := (hx y (by simp)).ty
      refine (s1 hx1 (by omega)).any fun r h' ⟨e1, e2⟩ => ?_
      subst e1 e2
      repeat fail
      by_cases cx : ∃ c : Int, x = .int c ∧ 0 ≤ c
      · obtain ⟨c, rfl, c0⟩ := cx
        have e : isNm (.int c) = true := decide_eq_true c0
        rw [e]
        refine cj_f rfl ?_
        repeat fail
        refine cj_if (fun c1 => ?_) (fun c1 => ?_)
        · repeat fail
          refine ⟨?_, rfl⟩
          unfold ncB
          cases q : asPair (.tup [.int c, y]) with
          | none => rfl
          | some cv =>
            obtain ⟨c', vs⟩ := cv
            have z := asPair_eq q
            simp only [D.tup.injEq, List.cons.injEq, D.int.injEq] at z
            obtain rfl := z.1
            show D.bl false = .bl (decide (0 ≤ c ∧ c < cs.length) && decide (lenOf cs c = some vs.length))
            rw [decide_eq_false (p := 0 ≤ c ∧ c < cs.length) (by omega)]; rfl
        · repeat fail
          dsimp only [List.set]
          have hcl : c.toNat < cs.length := by omega
          obtain ⟨fs, e⟩ := hc _ (List.getElem_mem hcl)
          have hcs : cs[c.toNat]? = some (.tup fs) := by rw [List.getElem?_eq_getElem hcl, e]
          have ez : ((c.toNat : Nat) : Int) = c := by omega
          cases y with
          | tup vs =>
            repeat fail
            refine cj_t rfl ?_
            repeat fail
            refine RE_get1 (xs := cs) (j := c.toNat) rfl (ez ▸ ixOf_nat hcl) hcs ?_
            repeat fail
            refine ⟨?_, rfl⟩
            unfold ncB
            show D.bl (decide ((vs.length : Int) = (fs.length : Nat))) = .bl (decide (0 ≤ c ∧ c < cs.length) && decide (lenOf cs c = some vs.length))
            unfold lenOf
            rw [hcs, decide_eq_true (p := 0 ≤ c ∧ c < cs.length) (by omega)]
            simp only [Bool.true_and, Option.some.injEq]
            congr 1
            exact decide_eq_decide.mpr ⟨fun e => by omega, fun e => by omega⟩
          | ref n =>
            repeat fail
            refine isi_go hy1 ?_
            have e : (List.any [Bt.tuple] fun n => ty.sub n) = false := by simp [(ref_ty hy1).1]
            rw [e]
            repeat fail
            refine cj_f rfl ?_
            exact no rfl
          | it => cases hy1
          | _ =>
            repeat fail
            refine cj_f rfl ?_
            exact no rfl
      · have e : isNm x = false := by
          cases x with
          | int c => exact decide_eq_false fun z => cx ⟨c, rfl, z⟩
          | _ => rfl
        rw [e]
        refine cj_t rfl ?_
        repeat fail
        refine cj_t rfl ?_
        repeat fail
        refine ⟨?_, rfl⟩
        unfold ncB
        cases q : asPair (.tup [x, y]) with
        | none => rfl
        | some cv =>
          obtain ⟨c, vs⟩ := cv
          have := asPair_eq q
          cases this
          have hn : ¬ 0 ≤ c := fun z => cx ⟨c, rfl, z⟩
          show D.bl false = .bl (decide (0 ≤ c ∧ c < cs.length) && decide (lenOf cs c = some vs.length))
          rw [decide_eq_false (p := 0 ≤ c ∧ c < cs.length) (by omega)]; rfl
    | [], _, no =>
      refine cj_t rfl ?_
      repeat fail
      exact no rfl
    | [x], _, no =>
      refine cj_t rfl ?_
      repeat fail
      refine no ?_
      unfold asPair
      split
      · rename_i e; cases e
      · rfl
    | x :: y :: z :: xs, _, no =>
      refine cj_t ?_ ?_
      · rw [Bool.not_eq_true', decide_eq_false_iff_not]
        simp only [List.length_cons]
        omega
      repeat fail
      refine no ?_
      unfold asPair
      split
      · rename_i e; cases e
      · rfl
  | _ =>
    repeat fail
    refine cj_t rfl ?_
    repeat fail
    refine cj_t rfl ?_
    repeat fail
    exact no rfl
theorem flt_eq {k : Nat} {cs : List D} {v : D} : flt (k + 1) (.tup cs) v = (match asPair v with
    | some (c, vs) => if 0 ≤ c ∧ c < cs.length then match cs[c.toNat]? with
      | some (.tup fs) => if vs.length = fs.length then (flts (flt k) fs vs).map fun ws => ((if cs.length > 1 then [c] else []) ++ ws) ++ List.replicate (wd (k + 1) (.tup cs) - ((if cs.length > 1 then [c] else []) ++ ws).length) 0 else none
      | _ => none else none
    | none => none) := rfl
theorem isS_good : ∀ (k : Nat) {d : D}, isS k d → Good k d ∧ GoodP k d
  | 0, _, h => h.elim
  | k + 1, d, h => by
    rcases isS_cases h with rfl | ⟨cs, rfl, h1, h2, h3⟩
    · exact ⟨good_word, goodP_word⟩
    · exact ⟨good_tup (fun c hc => by obtain ⟨fs, e, _, hf⟩ := h3 c hc; exact ⟨fs, e, fun f hfm => (isS_good k (hf f hfm)).1⟩) (by omega),
        goodP_tup h1 (fun c hc => by obtain ⟨fs, e, _, hf⟩ := h3 c hc; exact ⟨fs, e, fun f hfm => (isS_good k (hf f hfm)).2⟩) (by omega)⟩
theorem RE_rep {h : AH} {P : D → AH → Prop} {X : XE} {n : Nat} {xs : List D} {j : Int} (e : h[n]? = some (.lst xs)) (hj : -1000 ≤ j ∧ j ≤ 1000) (hl : xs.length ≤ 1000) (w : P (.ref h.length) (h ++ [.lst (List.replicate j.toNat xs).flatten])) : RE (bopS .Mult (.ref n) (.int j) h) P X := by
  show RE (match h[n]? with
      | some (.lst xs) => if (-(2 ^ 63) ≤ j ∧ j < 2 ^ 63) ∧ xs.length * j.toNat ≤ 16777216 then .ok (.ref h.length) (h ++ [.lst (List.replicate j.toNat xs).flatten]) else .bad
      | _ => .bad) P X
  rw [e]
  dsimp only
  rw [if_pos]
  · exact w
  · refine ⟨by omega, ?_⟩
    have := Nat.mul_le_mul hl (show j.toNat ≤ 1000 by omega)
    omega
theorem flts_lens {k : Nat} {fs vs : List D} (hg : ∀ f ∈ fs, Good k f) {us : List Int} (h : flts (flt k) fs vs = some us) : us.length = (fs.map (wd k)).sum := (flts_to hg h).1
theorem mem_sum : ∀ (l : List Nat) (x : Nat), x ∈ l → x ≤ l.sum
  | a :: l, x, hx => by
    rw [List.sum_cons]
    rcases List.mem_cons.mp hx with rfl | hx
    · omega
    · have := mem_sum l x hx; omega
theorem zs_rep (n : Nat) : zs (List.replicate n 0) = (List.replicate n [D.int 0]).flatten := by
  induction n with
  | zero => rfl
  | succ n ih => rw [List.replicate_succ, List.replicate_succ, List.flatten_cons, ← ih]; rfl
theorem take_sum {fs : List D} {i : Nat} {f : D} (w : D → Nat) (h : fs[i]? = some f) : ((fs.take (i + 1)).map w).sum = ((fs.take i).map w).sum + w f := by
  rw [List.take_add_one, h]
  simp
theorem take_le (fs : List D) (i : Nat) (w : D → Nat) : ((fs.take i).map w).sum ≤ (fs.map w).sum := by
  conv => rhs; rw [← List.take_append_drop i fs]
  rw [List.map_append, List.sum_append]; omega
/-- what a flat value comes to -/
def flR (h h' : AH) (o : Option (List Int)) (r : D) : Prop := match o with
  | some us => ∃ n, r = .ref n ∧ h.length ≤ n ∧ h'[n]? = some (.lst (zs us))
  | none => r = .non
theorem zs_len (us : List Int) : (zs us).length = us.length := List.length_map _
theorem draw_zip {h : AH} {xs ys : List D} {i : Nat} (e : xs.length = ys.length) : draw h (.it 3 [.tup xs, .tup ys]) i = some ((xs.zipWith (fun x y => D.tup [x, y]) ys)[i]?) := by
  show some (match xs[i]?, ys[i]? with
    | some x, some y => some (D.tup [x, y])
    | _, _ => none) = _
  rw [List.getElem?_zipWith]
  cases xs[i]? <;> cases ys[i]? <;> rfl
theorem s8 : ∀ (k : Nat) {N : Nat} {d v : D} {h : AH}, isS k d → k ≤ 30 → k + 3 ≤ N → wd k d ≤ 1000 → Tyd (2 * k) h v → RE (cf N 8 [d, v] h) (fun r h' => flR h h' (flt k d v) r ∧ Kp no1 h h') noX
  | 0, _, _, _, _, hs, _, _, _, _ => hs.elim
  | k + 1, N, d, v, h, hs, hk, hN, hw, hv => by
    obtain ⟨N, rfl⟩ : ∃ M, N = M + 1 := ⟨N - 1, by omega⟩
    refine cF_wp (d := f8.df) rfl rfl ?_
    show W _ c8 [some d, some v, none, none, none, none, none, none] h _
    unfold c8
    repeat fail
    refine RE_word hs hk (fun e => ?_) (fun cs e => ?_)
    · subst e
      refine bl_t rfl ?_
      repeat fail
      obtain ⟨t, ht⟩ := hv.ty
      refine (s2 ht (by omega)).any fun r h' ⟨e1, e2⟩ => ?_
      subst e1 e2
      repeat fail
      have hf : flt (k + 1) (.str "word") v = (match asInt v with
        | some i => if isWd i then some [i] else none
        | none => none) := rfl
      cases q : isW v with
      | true =>
        refine cj_t rfl ?_
        repeat fail
        cases v with
        | int i =>
          have q : isWd i := of_decide_eq_true q
          refine ⟨?_, .app _⟩
          rw [hf]
          show flR _ _ (if isWd i then some [i] else none) _
          rw [if_pos q]
          exact ⟨_, rfl, Nat.le_refl _, by simp⟩
        | _ => cases q
      | false =>
        refine cj_f rfl ?_
        repeat fail
        refine ⟨?_, .refl⟩
        rw [hf]
        cases v with
        | int i =>
          have q : ¬ isWd i := of_decide_eq_false q
          show flR _ _ (if isWd i then some [i] else none) _
          rw [if_neg q]; rfl
        | _ => rfl
    · subst e
      have hs' : cs ≠ [] ∧ cs.length ≤ 1000 ∧ ∀ c ∈ cs, ∃ fs, c = .tup fs ∧ fs.length ≤ 1000 ∧ ∀ f ∈ fs, isS k f := hs
      obtain ⟨hne, hcl, hc⟩ := hs'
      refine bl_f rfl ?_
      repeat fail
      have hv1 : Tyd 1 h v := ⟨hv.1, fun xs e x hx => by
        obtain ⟨t, ht⟩ := (hv.2 xs e x hx).ty
        show (tyOf h x).isSome = true
        rw [ht]; rfl⟩
      refine (s9 (fun c hcm => by obtain ⟨fs, e, _⟩ := hc c hcm; exact ⟨fs, e⟩) hv1 (by omega)).any fun r h' ⟨e1, e2⟩ => ?_
      subst e1 e2
      repeat fail
      cases q : ncB cs v with
      | false =>
        refine cj_t rfl ?_
        repeat fail
        refine ⟨?_, .refl⟩
        rw [flt_eq]
        unfold ncB at q
        cases q2 : asPair v with
        | none => rfl
        | some cv =>
          obtain ⟨c, vs⟩ := cv
          rw [q2] at q
          have q : (decide (0 ≤ c ∧ c < cs.length) && decide (lenOf cs c = some vs.length)) = false := q
          dsimp only
          by_cases c1 : 0 ≤ c ∧ c < cs.length
          · rw [if_pos c1]
            rw [decide_eq_true c1, Bool.true_and] at q
            have q := of_decide_eq_false q
            unfold lenOf at q
            split
            · rename_i fs e
              rw [e] at q
              rw [if_neg (fun z => q (by rw [z]))]; rfl
            · rfl
          · rw [if_neg c1]; rfl
      | true =>
        refine cj_f rfl ?_
        unfold ncB at q
        cases q2 : asPair v with
        | none => rw [q2] at q; cases q
        | some cv =>
          obtain ⟨c, vs⟩ := cv
          rw [q2] at q
          have q : (decide (0 ≤ c ∧ c < cs.length) && decide (lenOf cs c = some vs.length)) = true := q
          rw [Bool.and_eq_true, decide_eq_true_eq, decide_eq_true_eq] at q
          obtain ⟨c1, q⟩ := q
          have hve : v = .tup [.int c, .tup vs] := asPair_eq q2
          subst hve
          have hclt : c.toNat < cs.length := by omega
          obtain ⟨fs, e, hfl, hf⟩ := hc _ (List.getElem_mem hclt)
          have hcs : cs[c.toNat]? = some (.tup fs) := by rw [List.getElem?_eq_getElem hclt, e]
          have hvl : vs.length = fs.length := by
            unfold lenOf at q
            rw [hcs] at q
            exact (Option.some.inj q).symm
          have ez : ((c.toNat : Nat) : Int) = c := by omega
          have hvt : ∀ x ∈ vs, Tyd (2 * k) h' x := (hv.2 _ rfl (.tup vs) (by simp)).2 vs rfl
          have hle := case_le (k := k) (List.mem_of_getElem? hcs)
          have hle : (fs.map (wd k)).sum + (if cs.length > 1 then 1 else 0) ≤ wd (k + 1) (.tup cs) := hle
          have hfw : ∀ f ∈ fs, wd k f ≤ 1000 := fun f hfm => by
            have := mem_sum _ _ (List.mem_map_of_mem (f := wd k) hfm)
            omega
          have rest : ∀ (pre : List Int) (L : Nat) (h1 : AH), pre = (if cs.length > 1 then [c] else []) → Kp no1 h' h1 → h1[L]? = some (.lst (zs pre)) → h'.length ≤ L →
              W (gN m.T m.P N) (.seq (.for_ (.tup (.cons (.v 5) (.cons (.v 6) .nil))) (.itr 3 (.cons (.sub (.var 0) (.var 3)) (.cons (.var 4) .nil))) l8_0)
    (.seq (.ex (.mth .extend (.var 2) (.cons (.bop .Mult (.lst (.cons (.cst (.int 0)) .nil)) (.bop .Sub (.call 3 (.cons (.var 0) .nil)) (.bi .len (.cons (.var 2) .nil)))) .nil)))
    (.seq (.ret (.var 2))
    .skip))) [some (.tup cs), some (.tup [.int c, .tup vs]), some (.ref L), some (.int c), some (.tup vs), none, none, none] h1 ⟨fun _ h => flR h' h (flt (k + 1) (.tup cs) (.tup [.int c, .tup vs])) .non ∧ Kp no1 h' h, fun r h'_1 => flR h' h'_1 (flt (k + 1) (.tup cs) (.tup [.int c, .tup vs])) r ∧ Kp no1 h' h'_1, fun _ _ => False, fun _ _ => False, fun c fs vs _ h => noX c fs vs h⟩ := by
            intro pre L h1 hpre k1 ac hL
            have hpl : pre.length ≤ 1 := by rw [hpre]; split <;> simp
            have hfe : flt (k + 1) (.tup cs) (.tup [.int c, .tup vs]) = (flts (flt k) fs vs).map fun ws => (pre ++ ws) ++ List.replicate (wd (k + 1) (.tup cs) - (pre ++ ws).length) 0 := by
              rw [flt_eq, q2]
              dsimp only
              rw [if_pos c1, hcs]
              dsimp only
              rw [if_pos hvl, hpre]
            repeat fail
            refine RE_get1 (xs := cs) (j := c.toNat) rfl (ez ▸ ixOf_nat hclt) hcs ?_
            repeat fail
            refine FW_inv (fs.zipWith (fun x y => D.tup [x, y]) vs) (fun i σ h2 => ∃ x5 x6 x7 ws, σ = [some (.tup cs), some (.tup [.int c, .tup vs]), some (.ref L), some (.int c), some (.tup vs), x5, x6, x7] ∧ Kp no1 h' h2 ∧ h2[L]? = some (.lst (zs (pre ++ ws))) ∧ flts (flt k) fs vs = (flts (flt k) (fs.drop i) (vs.drop i)).map (ws ++ ·) ∧ ws.length = ((fs.take i).map (wd k)).sum)
              (lt_wf (by rw [List.length_zipWith]; omega)) ⟨none, none, none, [], rfl, k1, by simpa using ac, by simp, by simp⟩ (fun i σ h2 _ _ => draw_zip hvl.symm) (fun i x σ h2 hx hI => ?_) (fun σ h2 hI => ?_)
            · obtain ⟨x5, x6, x7, ws, rfl, k2, ac2, hn, hwl⟩ := hI
              rw [List.getElem?_zipWith] at hx
              cases qf : fs[i]? with
              | none => rw [qf] at hx; cases hx
              | some f =>
                cases qv : vs[i]? with
                | none => rw [qf, qv] at hx; cases hx
                | some v =>
                  rw [qf, qv] at hx
                  cases hx
                  have hfm := List.mem_of_getElem? qf
                  rw [drop_sum (wd k) qf, drop_sum (wd k) qv] at hn
                  refine ⟨_, rfl, ?_⟩
                  unfold l8_0
                  repeat fail
                  dsimp only [List.set]
                  refine (s8 k (hf f hfm) (by omega) (by omega) (hfw f hfm) (Tyd.keep (Ls.of k2) (hvt v (List.mem_of_getElem? qv)))).any fun r h3 ⟨e1, k3⟩ => ?_
                  cases qq : flt k f v with
                  | none =>
                    rw [qq] at e1
                    have e1 : r = .non := e1
                    subst e1
                    repeat fail
                    refine cj_t rfl ?_
                    repeat fail
                    refine ⟨?_, k2.trans k3⟩
                    rw [hfe, hn]
                    unfold flts
                    rw [qq]; rfl
                  | some us =>
                    rw [qq] at e1
                    obtain ⟨n2, rfl, hn2, e2⟩ := e1
                    have hus := ((isS_good k (hf f hfm)).1.to v us qq).1
                    have hts := take_le fs i (wd k)
                    have hf1 := hfw f hfm
                    repeat fail
                    refine cj_f rfl ?_
                    repeat fail
                    have ac3 := k3.get ac2 id
                    refine ⟨isLst_of ac3, ?_⟩
                    repeat fail
                    refine RE_extend ac3 e2 (by rw [zs_len, zs_len, List.length_append]; omega) ?_
                    repeat fail
                    refine ⟨_, _, _, ws ++ us, rfl, (k2.trans k3).set (.inr hL) _, ?_, ?_, ?_⟩
                    · rw [List.getElem?_set_self (lt_of_get ac3), ← List.append_assoc]
                      exact congrArg (fun l => some (AO.lst l)) (List.map_append ..).symm
                    · rw [hn]
                      conv => lhs; unfold flts
                      rw [qq]
                      dsimp only
                      cases flts (flt k) (fs.drop (i + 1)) (vs.drop (i + 1)) <;> simp
                    · rw [List.length_append, hwl, hus, take_sum (wd k) qf]
            · obtain ⟨x5, x6, x7, ws, rfl, k2, ac2, hn, hwl⟩ := hI
              have hzl : (fs.zipWith (fun x y => D.tup [x, y]) vs).length = fs.length := by rw [List.length_zipWith]; omega
              rw [hzl] at hn hwl
              rw [List.drop_length, List.drop_eq_nil_of_le (by omega), List.take_length] at *
              have hn : flts (flt k) fs vs = some ws := by rw [hn]; simp [flts]
              repeat fail
              refine ⟨isLst_of ac2, ?_⟩
              repeat fail
              refine (s3 (k + 1) hs hk (by omega)).any fun r h3 ⟨e1, k3⟩ => ?_
              subst e1
              repeat fail
              have ac3 : h3[L]? = some (.lst (zs (pre ++ ws))) := k3.get ((Kp.app [.lst [.int 0]]).get ac2 (S := no1) id) id
              refine RE_len (seq_ref ac3) ?_
              repeat fail
              have hts := take_le fs fs.length (wd k)
              have hzs := zs_len (pre ++ ws)
              have hpw : (pre ++ ws).length ≤ wd (k + 1) (.tup cs) := by
                rw [List.length_append, hwl, hpre]
                split
                · rename_i z; rw [if_pos z] at hle; simp; omega
                · rename_i z; rw [if_neg z] at hle; simp; omega
              have l3 : h2.length < h3.length := by
                have := k3.1
                simp at this; omega
              refine RE_rep (n := h2.length) (xs := [.int 0]) (k3.get (by simp) id) (by omega) (by simp) ?_
              repeat fail
              have ej : ((wd (k + 1) (.tup cs) : Nat) - ((zs (pre ++ ws)).length : Nat) : Int).toNat = wd (k + 1) (.tup cs) - (pre ++ ws).length := by omega
              rw [ej]
              have ac4 : (h3 ++ [AO.lst (List.replicate (wd (k + 1) (.tup cs) - (pre ++ ws).length) [D.int 0]).flatten])[L]? = some (.lst (zs (pre ++ ws))) := (Kp.app _).get ac3 (S := no1) id
              have hll : (List.replicate (wd (k + 1) (.tup cs) - (pre ++ ws).length) [D.int 0]).flatten.length = wd (k + 1) (.tup cs) - (pre ++ ws).length := by simp
              refine RE_extend (m := h3.length) (ys := (List.replicate (wd (k + 1) (.tup cs) - (pre ++ ws).length) [D.int 0]).flatten) ac4 (by rw [List.getElem?_append_right (Nat.le_refl _)]; simp) (by rw [hll]; omega) ?_
              repeat fail
              refine ⟨?_, (((k2.trans (Kp.app _)).trans k3).then _).set (.inr hL) _⟩
              rw [hfe, hn]
              refine ⟨L, rfl, hL, ?_⟩
              rw [List.getElem?_set_self (by have := lt_of_get ac3; simp; omega), ← zs_rep]
              exact congrArg (fun l => some (AO.lst l)) (List.map_append ..).symm
          with_reducible refine W_skip ?_
          with_reducible refine W_seq ?_
          with_reducible refine W_asg ?_
          refine E_var rfl ?_
          refine asg_go rfl ?_
          dsimp only [List.set]
          with_reducible refine W_seq ?_
          with_reducible refine W_set ?_
          with_reducible refine E_ite ?_
          with_reducible refine E_cmp ?_
          with_reducible refine E_bi ?_
          with_reducible refine EA_cons ?_
          refine E_var rfl ?_
          with_reducible refine EA_nil ?_
          refine RE_ok ?_
          with_reducible refine E_cst ?_
          refine RE_gt ?_
          refine bl_if (fun c2 => ?_) (fun c2 => ?_)
          · with_reducible refine E_lst ?_
            with_reducible refine EA_cons ?_
            refine E_var rfl ?_
            with_reducible refine EA_nil ?_
            refine tup_go (by simp) ?_
            dsimp only [List.set]
            exact rest [c] h'.length _ (by rw [if_pos (by omega)]) (.app _) (by simp) (Nat.le_refl _)
          · with_reducible refine E_lst ?_
            with_reducible refine EA_nil ?_
            refine tup_go (by simp) ?_
            dsimp only [List.set]
            exact rest [] h'.length _ (by rw [if_neg (by omega)]) (.app _) (by simp) (Nat.le_refl _)
/-- the words that a thing is -/
def asWords : List D → Option (List Int)
  | [] => some []
  | d :: ds => match d, asWords ds with
    | .int i, some is => if isWd i then some (i :: is) else none
    | _, _ => none
theorem asWords_eq : ∀ {ds : List D} {is : List Int}, asWords ds = some is → ds = zs is ∧ ∀ x ∈ is, isWd x
  | [], is, h => by cases h; exact ⟨rfl, fun x h => by cases h⟩
  | d :: ds, is, h => by
    unfold asWords at h
    split at h
    · rename_i i js e
      by_cases c : isWd i
      · rw [if_pos c] at h
        cases h
        obtain ⟨h1, h2⟩ := asWords_eq e
        refine ⟨by rw [h1]; rfl, fun x hx => ?_⟩
        rcases List.mem_cons.mp hx with rfl | hx
        · exact c
        · exact h2 x hx
      · rw [if_neg c] at h; cases h
    · cases h
theorem asWords_cons {d : D} {ds : List D} : asWords (d :: ds) = (match d, asWords ds with
    | .int i, some is => if isWd i then some (i :: is) else none
    | _, _ => none) := rfl
theorem asWords_all : ∀ {ds : List D}, (ds.map isW).all id = (asWords ds).isSome
  | [] => rfl
  | d :: ds => by
    have ih := asWords_all (ds := ds)
    show (isW d && (ds.map isW).all id) = _
    rw [ih, asWords_cons]
    cases d with
    | int i =>
      show (decide (isWd i) && _) = _
      cases e : asWords ds with
      | none => simp
      | some is =>
        by_cases c : isWd i
        · simp [c]
        · simp [c]
    | _ => cases asWords ds <;> rfl
theorem asWords_zs {is : List Int} (h : ∀ x ∈ is, isWd x) : asWords (zs is) = some is := by
  induction is with
  | nil => rfl
  | cons i is ih =>
    show (match (D.int i), asWords (zs is) with
      | .int i, some is => if isWd i then some (i :: is) else none
      | _, _ => none) = _
    rw [ih fun x hx => h x (by simp [hx])]
    show (if isWd i then some (i :: is) else none) = _
    rw [if_pos (h i (by simp))]
/-- the words of a thing that is a value -/
def valW (k : Nat) (d v : D) : Option (List Int) := match v with
  | .tup xs => if xs.length = wd k d then asWords xs else none
  | _ => none
theorem valW_eq {k : Nat} {d v : D} {ws : List Int} (h : valW k d v = some ws) : v = .tup (zs ws) ∧ ws.length = wd k d ∧ ∀ x ∈ ws, isWd x := by
  unfold valW at h
  split at h
  · rename_i xs
    by_cases c : xs.length = wd k d
    · rw [if_pos c] at h
      obtain ⟨h1, h2⟩ := asWords_eq h
      subst h1
      exact ⟨rfl, by rw [← c, zs_len], h2⟩
    · rw [if_neg c] at h; cases h
  · cases h
def isV (k : Nat) (d v : D) : Bool := match valW k d v with
  | some ws => (nst k d ws 0).isSome
  | none => false
theorem s4 {k N : Nat} {d v : D} {h : AH} (hs : isS k d) (hk : k ≤ 30) (hN : k + 5 ≤ N) (hw : wd k d ≤ 1000) (hv : Tyd 1 h v) : RE (cf N 4 [d, v] h) (fun r h' => r = .bl (isV k d v) ∧ Kp no1 h h') noX := by
  obtain ⟨N, rfl⟩ : ∃ M, N = M + 1 := ⟨N - 1, by omega⟩
  refine cF_wp (d := f4.df) rfl rfl ?_
  show W _ c4 [some d, some v, none] h _
  unfold c4
  cases v with
  | tup xs =>
    repeat fail
    refine cj_f rfl ?_
    repeat fail
    refine (s3 k hs hk (by omega)).any fun r h3 ⟨e1, k3⟩ => ?_
    subst e1
    repeat fail
    by_cases c : xs.length = wd k d
    · refine cj_f ?_ ?_
      · first
        | (rw [Bool.not_eq_false', decide_eq_true_iff]; omega)
        | (rw [Bool.not_eq_false', eqv_int, decide_eq_true_iff]; omega)
      repeat fail
      refine LC_map (fun x => .bl (isW x)) xs (by omega) (fun h4 _ j => rfl) (fun x hx h4 k4 => ?_) (fun hF kF acF => ?_)
      · dsimp only [List.set]
        repeat fail
        obtain ⟨t, ht⟩ := (Tyd.keep (Ls.of (k3.trans k4)) (hv.2 xs rfl x hx)).ty
        exact (s2 ht (by omega)).imp fun r h5 ⟨e1, e2⟩ => ⟨by rw [e2]; exact .refl, e1⟩
      · repeat fail
        refine RE_all (bs := xs.map isW) (by rw [acF]; simp [Function.comp_def]) ?_
        repeat fail
        rw [asWords_all]
        have e0 : isV k d (.tup xs) = (match asWords xs with
            | some ws => (nst k d ws 0).isSome
            | none => false) := by
          unfold isV valW
          dsimp only
          rw [if_pos c]
        cases q : asWords xs with
        | none =>
          refine cj_t rfl ?_
          repeat fail
          refine ⟨by rw [e0, q], k3.trans kF⟩
        | some ws =>
          obtain ⟨q1, q2⟩ := asWords_eq q
          subst q1
          rw [zs_len] at c
          refine cj_f rfl ?_
          repeat fail
          dsimp only [List.set]
          refine (s7 k (st := 0) hs hk (by omega) q2 (by omega) (by omega)).any fun r h5 ⟨e1, k5⟩ => ?_
          cases qn : nst k d ws 0 with
          | none =>
            rw [qn] at e1
            have e1 : r = .non := e1
            subst e1
            repeat fail
            refine ⟨by rw [e0, q]; dsimp only; rw [qn]; rfl, (k3.trans kF).trans k5⟩
          | some u =>
            rw [qn] at e1
            have e1 : r = u := e1
            subst e1
            repeat fail
            have z := isnot_non (h := h5) (nst_kind qn)
            rw [z]
            refine ⟨by rw [e0, q]; dsimp only; rw [qn]; rfl, (k3.trans kF).trans k5⟩
    · refine cj_t ?_ ?_
      · first
        | (rw [Bool.not_eq_true', decide_eq_false_iff_not]; omega)
        | (rw [Bool.not_eq_true', eqv_int, decide_eq_false_iff_not]; omega)
      repeat fail
      refine ⟨?_, k3⟩
      unfold isV valW
      dsimp only
      rw [if_neg c]
  | ref n =>
    repeat fail
    obtain ⟨t, ht⟩ := hv.ty
    refine isi_go ht ?_
    have e : (List.any [Bt.tuple] fun n => t.sub n) = false := by simp [(ref_ty ht).1]
    rw [e]
    repeat fail
    refine cj_t rfl ?_
    repeat fail
    refine cj_t rfl ?_
    repeat fail
    exact ⟨rfl, .refl⟩
  | it => obtain ⟨t, ht⟩ := hv.ty; cases ht
  | _ =>
    repeat fail
    refine cj_t rfl ?_
    repeat fail
    refine cj_t rfl ?_
    repeat fail
    exact ⟨rfl, .refl⟩
/-- NotUsable of a name -/
def nuX (h : AH) (w : PySem.Str) : XE := fun c fs vs h' => c = "NotUsable" ∧ fs = (["at", "word"] : List PySem.Str) ∧ vs = [.int (-1), .str w] ∧ Kp no1 h h'
/-- the nested form, told or refused -/
def nsV (k : Nat) (d v : D) : Option D := match valW k d v with
  | some ws => nst k d ws 0
  | none => none
theorem nsV_isV {k : Nat} {d v : D} : isV k d v = (nsV k d v).isSome := by
  unfold isV nsV
  cases valW k d v <;> rfl
theorem s5 {k N : Nat} {d v : D} {h : AH} (hs : isS k d) (hk : k ≤ 30) (hN : k + 6 ≤ N) (hw : wd k d ≤ 1000) (hv : Tyd 1 h v) : RE (cf N 5 [d, v] h) (fun r h' => nsV k d v = some r ∧ Kp no1 h h') (fun c fs vs h' => nsV k d v = none ∧ nuX h "words" c fs vs h') := by
  obtain ⟨N, rfl⟩ : ∃ M, N = M + 1 := ⟨N - 1, by omega⟩
  refine cF_wp (d := f5.df) rfl rfl ?_
  show W _ c5 [some d, some v] h _
  unfold c5
  repeat fail
  refine (s4 hs hk (by omega) hw hv).any fun r h3 ⟨e1, k3⟩ => ?_
  subst e1
  repeat fail
  cases q : isV k d v with
  | false =>
    refine cj_t rfl ?_
    repeat fail
    rw [nsV_isV] at q
    refine ⟨rfl, ?_, rfl, rfl, rfl, k3⟩
    cases z : nsV k d v with
    | none => rfl
    | some => rw [z] at q; cases q
  | true =>
    refine cj_f rfl ?_
    repeat fail
    rw [nsV_isV] at q
    unfold nsV at q ⊢
    cases z : valW k d v with
    | none => rw [z] at q; cases q
    | some ws =>
      rw [z] at q
      obtain ⟨e, e2, e3⟩ := valW_eq z
      subst e
      refine (s7 k (st := 0) hs hk (by omega) e3 (by omega) (by omega)).any fun r h5 ⟨e1, k5⟩ => ?_
      obtain ⟨u, hu⟩ := Option.isSome_iff_exists.mp q
      refine ⟨?_, k3.trans k5⟩
      have hu : nst k d ws 0 = some u := hu
      show nst k d ws 0 = some r
      rw [hu] at e1 ⊢
      rw [e1]; rfl
theorem s6 {k N : Nat} {d v : D} {h : AH} (hs : isS k d) (hk : k ≤ 30) (hN : k + 4 ≤ N) (hw : wd k d ≤ 1000) (hv : Tyd (2 * k) h v) : RE (cf N 6 [d, v] h) (fun r h' => (∃ us, flt k d v = some us ∧ r = .tup (zs us)) ∧ Kp no1 h h') (fun c fs vs h' => flt k d v = none ∧ nuX h "value" c fs vs h') := by
  obtain ⟨N, rfl⟩ : ∃ M, N = M + 1 := ⟨N - 1, by omega⟩
  refine cF_wp (d := f6.df) rfl rfl ?_
  show W _ c6 [some d, some v, none] h _
  unfold c6
  repeat fail
  refine (s8 k hs hk (by omega) hw hv).any fun r h3 ⟨e1, k3⟩ => ?_
  cases q : flt k d v with
  | none =>
    rw [q] at e1
    have e1 : r = .non := e1
    subst e1
    repeat fail
    refine cj_t rfl ?_
    repeat fail
    exact ⟨rfl, rfl, rfl, rfl, rfl, k3⟩
  | some us =>
    rw [q] at e1
    obtain ⟨n, rfl, _, e2⟩ := e1
    repeat fail
    refine cj_f rfl ?_
    repeat fail
    refine RE_tuple (seq_ref e2) ⟨⟨us, rfl, rfl⟩, k3⟩
end Q07
end
section
set_option Elab.async false
set_option linter.all false
set_option maxRecDepth 100000
set_option maxHeartbeats 4000000
/-! K07g: the tape. -/
namespace Q07
open Ly
open K07 (m f10 f11 f12 c10 c11 c12 l10_0 l10_1 l10_2)
local macro_rules | `(tactic| fail) => `(tactic| first | (with_reducible first
  | refine W_seq ?_ | refine W_ret ?_ | refine W_set ?_ | refine W_asg ?_ | refine W_if ?_ | refine W_skip ?_ | refine W_ex ?_ | refine W_setI ?_ | refine W_aug (by with_unfolding_all exact rfl) ?_ | refine W_retN ?_ | refine W_for ?_ | refine W_raise ?_
  | refine E_var (by with_unfolding_all exact rfl) ?_ | refine E_cst ?_ | refine E_bop ?_ | refine E_cmp ?_ | refine E_chn ?_ | refine E_neg ?_ | refine E_not ?_ | refine E_and ?_ | refine E_or ?_ | refine E_ite ?_ | refine E_tr ?_ | refine E_tup ?_ | refine E_lst ?_ | refine E_call ?_ | refine E_bi ?_ | refine E_mth ?_ | refine E_isi ?_ | refine E_sub ?_ | refine E_slc ?_ | refine E_itr ?_ | refine E_lc ?_ | refine EA_cons ?_ | refine EA_nil ?_
  | refine asg_go (by with_unfolding_all exact rfl) ?_ | refine tup_go (by simp) ?_ | refine isi_go (by with_unfolding_all exact rfl) ?_ | refine tr_b ?_ | refine bl_1 ?_ | refine neg_go ?_
  | refine RE_add ?_ | refine RE_sub ?_ | refine RE_lt ?_ | refine RE_le ?_ | refine RE_gt ?_ | refine RE_ge ?_ | refine RE_eqI ?_ | refine RE_neI ?_ | refine RE_eqS ?_ | refine RE_neS ?_
  | refine RE_len0 ?_ | refine RE_len1 ?_ | refine RE_seq0 ?_ | refine RE_int ?_ | refine RE_intb ?_ | refine RE_is0 ?_ | refine RE_is1 ?_ | refine RE_is2 ?_ | refine RE_is3 ?_ | refine RE_is4 ?_ | refine RE_is5 ?_ | refine RE_in0 ?_ | refine RE_in1 ?_ | refine RE_in2 ?_ | refine RE_in3 ?_ | refine RE_in4 ?_ | refine RE_in5 ?_ | refine RE_isB ?_ | refine RE_inB ?_ | refine RE_augA ?_ | refine RE_max2 ?_) | ((with_reducible refine RE_mod ?_ ?_); (focus omega)) | ((with_reducible refine RE_div ?_ ?_); (focus omega)) | ((with_reducible refine RE_mul ?_ ?_); (focus exact mulOkR _ _ (by unfold two64; omega))) | ((with_reducible refine RE_pow ?_ ?_); (focus decide)) | ((with_reducible refine RE_rng ?_ ?_); (focus omega)))
/-- the tape stands at T -/
def Tp (T : Nat) (h : AH) : Prop := ∃ ts : List Int, h[T]? = some (.lst (zs ts))
/-- behind what draws -/
structure Kt (T : Nat) (h h' : AH) : Prop where
  k : Kp (fun j => j = T) h h'
  t : Tp T h'
theorem Kt.trans {T : Nat} {a b c : AH} (x : Kt T a b) (y : Kt T b c) : Kt T a c := ⟨x.k.trans y.k, y.t⟩
theorem Kt.refl {T : Nat} {a : AH} (t : Tp T a) : Kt T a a := ⟨.refl, t⟩
theorem Kt.of {T : Nat} {a b : AH} (t : Tp T a) (k : Kp no1 a b) : Kt T a b := ⟨k.mono fun _ _ z => z.elim, by
  obtain ⟨ts, e⟩ := t
  exact ⟨ts, k.get e id⟩⟩
theorem Kt.get {T n : Nat} {a b : AH} {x : AO} (k : Kt T a b) (e : a[n]? = some x) (hn : n ≠ T) : b[n]? = some x := k.k.get e hn
theorem Kt.ls {T : Nat} {a b : AH} (k : Kt T a b) (t : Tp T a) : Ls a b := ⟨fun n xs e => by
  by_cases c : n = T
  · subst c
    obtain ⟨ts, z⟩ := k.t
    exact ⟨_, z⟩
  · exact ⟨xs, k.get e c⟩, fun n xs e => by
  by_cases c : n = T
  · subst c
    obtain ⟨ts, z⟩ := t
    rw [e] at z; cases z
  · exact ⟨xs, k.get e c⟩⟩
theorem Tp.lt {T : Nat} {h : AH} (t : Tp T h) : T < h.length := by
  obtain ⟨ts, e⟩ := t
  exact lt_of_get e
theorem s11 {N T : Nat} {h : AH} {k : Int} (hk : 0 < k) (ht : Tp T h) (hN : 1 ≤ N) : RE (cf N 11 [.ref T, .int k] h) (fun r h' => (∃ j : Nat, r = .int (j : Int) ∧ (j : Int) < k) ∧ Kt T h h') noX := by
  obtain ⟨N, rfl⟩ : ∃ M, N = M + 1 := ⟨N - 1, by omega⟩
  refine cF_wp (d := f11.df) rfl rfl ?_
  show W _ c11 [some (.ref T), some (.int k)] h _
  unfold c11
  obtain ⟨ts, e⟩ := ht
  repeat fail
  refine RE_len (seq_ref e) ?_
  repeat fail
  refine cj_if (fun c => ?_) (fun c => ?_)
  · rcases List.eq_nil_or_concat ts with rfl | ⟨ys, y, rfl⟩
    · simp at c
    · repeat fail
      refine ⟨isLst_of e, ?_⟩
      repeat fail
      refine RE_pop (xs := zs ys) (d := .int y) (by rw [e]; simp [zs]) ?_
      repeat fail
      refine ⟨⟨(y % k).toNat, ?_, ?_⟩, (Kp.refl (S := fun j => j = T)).set (.inl rfl) _, ⟨ys, by rw [List.getElem?_set_self (lt_of_get e)]⟩⟩
      · rw [Int.toNat_of_nonneg (Int.emod_nonneg _ (by omega))]
      · rw [Int.toNat_of_nonneg (Int.emod_nonneg _ (by omega))]
        exact Int.emod_lt_of_pos _ hk
  · repeat fail
    exact ⟨⟨0, rfl, hk⟩, .refl ⟨ts, e⟩⟩
theorem s12 {N T : Nat} {h : AH} (ht : Tp T h) (hN : 2 ≤ N) : RE (cf N 12 [.ref T] h) (fun r h' => (∃ i : Int, r = .int i ∧ isWd i) ∧ Kt T h h') noX := by
  obtain ⟨N, rfl⟩ : ∃ M, N = M + 1 := ⟨N - 1, by omega⟩
  refine cF_wp (d := f12.df) rfl rfl ?_
  show W _ c12 [some (.ref T), none] h _
  unfold c12
  repeat fail
  refine (s11 (k := 6) (by decide) ht (by omega)).any fun r h1 ⟨⟨j, e, hj⟩, k1⟩ => ?_
  subst e
  repeat fail
  refine cj_if (fun c => ?_) (fun c => ?_)
  · repeat fail
    refine (s11 (k := 4) (by decide) k1.t (by omega)).any fun r h2 ⟨⟨j, e, hj⟩, k2⟩ => ?_
    subst e
    have hj4 : j < 4 := by omega
    have : j = 0 ∨ j = 1 ∨ j = 2 ∨ j = 3 := by omega
    rcases this with rfl | rfl | rfl | rfl
    · exact RE_get1 (j := 0) rfl rfl rfl ⟨⟨_, rfl, by decide⟩, k1.trans k2⟩
    · exact RE_get1 (j := 1) rfl rfl rfl ⟨⟨_, rfl, by decide⟩, k1.trans k2⟩
    · exact RE_get1 (j := 2) rfl rfl rfl ⟨⟨_, rfl, by decide⟩, k1.trans k2⟩
    · exact RE_get1 (j := 3) rfl rfl rfl ⟨⟨_, rfl, by decide⟩, k1.trans k2⟩
  · repeat fail
    refine cj_if (fun c => ?_) (fun c => ?_)
    · repeat fail
      exact (s11 (k := 5) (by decide) k1.t (by omega)).any fun r h2 ⟨⟨j, e, hj⟩, k2⟩ => ⟨⟨j, e, by unfold isWd; omega⟩, k1.trans k2⟩
    · repeat fail
      refine (s11 (k := 5040) (by decide) k1.t (by omega)).any fun r h2 ⟨⟨j, e, hj⟩, k2⟩ => ?_
      subst e
      repeat fail
      refine (s11 (k := 5040) (by decide) k2.t (by omega)).any fun r h3 ⟨⟨j2, e, hj2⟩, k3⟩ => ?_
      subst e
      repeat fail
      refine ⟨⟨_, rfl, ?_⟩, (k1.trans k2).trans k3⟩
      exact ⟨Int.emod_nonneg _ (by decide), Int.emod_lt_of_pos _ (by decide)⟩
theorem s10 {N : Nat} {ns : List Int} (hn : ns.length ≤ 63) (hN : 1 ≤ N) : RE (cf N 10 [.rol (zs ns)] []) (fun r h' => r = .ref 0 ∧ Tp 0 h') noX := by
  obtain ⟨N, rfl⟩ : ∃ M, N = M + 1 := ⟨N - 1, by omega⟩
  refine cF_wp (d := f10.df) rfl rfl ?_
  show W _ c10 [some (.rol (zs ns)), none, none, none, none, none, none] [] _
  unfold c10
  repeat fail
  dsimp only [List.set, List.nil_append, List.length_nil]
  try ((with_reducible refine RE_rng ?_ ?_); (focus (rw [zs_len]; omega)))
  refine FW_inv (rng 0 ns.length) (fun i σ h => ∃ s x3 x4 x5 x6 ts, σ = [some (.rol (zs ns)), some (.ref 0), some (.int s), x3, x4, x5, x6] ∧ h = [.lst (zs ts)] ∧ ts.length ≤ 60 * i) (by rw [rng_len]; exact lt_wf (by omega)) ⟨0, none, none, none, none, [], rfl, rfl, by simp⟩ (fun i σ h _ _ => by rw [draw_rng i, zs_len]; simp) (fun i x σ h e hI => ?_) (fun σ h hI => ?_)
  · obtain ⟨s, x3, x4, x5, x6, ts, rfl, rfl, hl⟩ := hI
    obtain ⟨rfl, hi⟩ := rng_get e
    have hg : ns[i]? = some ns[i] := List.getElem?_eq_getElem hi
    refine ⟨_, rfl, ?_⟩
    unfold l10_2
    repeat fail
    dsimp only [List.set]
    refine RE_get1 (xs := zs ns) (j := i) rfl (by rw [zs_len]; simpa using ixOf_nat hi) (zs_get hg) ?_
    repeat fail
    dsimp only [List.set]
    try dsimp only [List.set]
    refine ⟨fun c => ?_, fun c => ?_⟩
    · repeat fail
      dsimp only [List.set]
      generalize ((s * 7451 + ns[i] % 1000033 * (0 + (i : Int) + 5) + 173) % 2147483587) = s2
      refine FW_inv (rng 0 60) (fun j σ h => ∃ x4 r ts, σ = [some (.rol (zs ns)), some (.ref 0), some (.int s2), some (.int (0 + (i : Int))), x4, some (.int ns[i]), some (.int r)] ∧ h = [.lst (zs ts)] ∧ ts.length ≤ 60 * i + j) (by rw [rng_len]; exact lt_wf (by decide)) ⟨_, _, ts, rfl, rfl, by omega⟩ (fun j σ h _ _ => draw_rng j) (fun j x σ h e hI => ?_) (fun σ h hI => ?_)
      · obtain ⟨x4, r, ts2, rfl, rfl, hl2⟩ := hI
        obtain ⟨rfl, hj⟩ := rng_get e
        refine ⟨_, rfl, ?_⟩
        unfold l10_1
        repeat fail
        dsimp only [List.set]
        refine cj_if (fun c => ?_) (fun c => ?_)
        · repeat fail
          refine ⟨rfl, ?_⟩
          repeat fail
          refine RE_append (xs := zs ts2) rfl (by rw [zs_len]; omega) ?_
          repeat fail
          exact ⟨_, _, ts2 ++ [r % 5040], rfl, by simp [zs], by simp; omega⟩
        · repeat fail
          exact ⟨_, _, ts2, rfl, rfl, by omega⟩
      · obtain ⟨x4, r, ts2, rfl, rfl, hl2⟩ := hI
        rw [rng_len] at hl2
        repeat fail
        exact ⟨_, _, _, _, _, ts2, rfl, rfl, by omega⟩
    · repeat fail
      exact ⟨_, _, _, _, _, ts, rfl, rfl, by omega⟩
  · obtain ⟨s, x3, x4, x5, x6, ts, rfl, rfl, hl⟩ := hI
    rw [rng_len] at hl
    repeat fail
    refine FW_inv (rng 0 900) (fun i σ h => ∃ s x4 ts, σ = [some (.rol (zs ns)), some (.ref 0), some (.int s), x3, x4, x5, x6] ∧ h = [.lst (zs ts)] ∧ ts.length ≤ 4000 + i) (by rw [rng_len]; exact lt_wf (by decide)) ⟨s, x4, ts, rfl, rfl, by omega⟩ (fun i σ h _ _ => draw_rng i) (fun i x σ h e hI => ?_) (fun σ h hI => ?_)
    · obtain ⟨s, x4, ts2, rfl, rfl, hl2⟩ := hI
      obtain ⟨rfl, hi⟩ := rng_get e
      refine ⟨_, rfl, ?_⟩
      unfold l10_0
      repeat fail
      dsimp only [List.set]
      refine ⟨rfl, ?_⟩
      repeat fail
      refine RE_append (xs := zs ts2) rfl (by rw [zs_len]; omega) ?_
      repeat fail
      exact ⟨_, _, ts2 ++ [s * 69621 % 2147483587 / 17 % 5040], rfl, by simp [zs], by simp; omega⟩
    · obtain ⟨s, x4, ts2, rfl, rfl, hl2⟩ := hI
      repeat fail
      refine ⟨rfl, ?_⟩
      repeat fail
      refine RE_reverse (h := [.lst (zs ts2)]) (n := 0) (xs := zs ts2) rfl ?_
      repeat fail
      exact ⟨rfl, ts2.reverse, by simp [zs]⟩
end Q07
end
section
set_option Elab.async false
set_option linter.all false
set_option maxRecDepth 100000
set_option maxHeartbeats 4000000
namespace Q07
open Ly
/-! K07h: what a drawn structure is. -/
def nr : Nat → D → Prop
  | 0, _ => False
  | k + 1, .tup cs => cs.length ≤ 6 ∧ ∀ c ∈ cs, ∃ fs, c = .tup fs ∧ fs.length ≤ 6 ∧ ∀ f ∈ fs, nr k f
  | _ + 1, _ => True
structure Rk (k : Nat) (d : D) (w wy : Nat) : Prop where
  s : isS k d
  w : wd k d = w
  y : (pats k d).length = wy
  n : nr k d
def Rc (d : D) (w dp wy : Nat) : Prop := ∀ k, dp < k → Rk k d w wy
theorem Rc_word : Rc (.str "word") 1 0 1 := fun k hk => by
  obtain ⟨k, rfl⟩ : ∃ j, k = j + 1 := ⟨k - 1, by omega⟩
  exact ⟨rfl, rfl, rfl, trivial⟩
structure Ck (k : Nat) (fs : List D) (w m : Nat) : Prop where
  s : ∀ f ∈ fs, isS k f ∧ nr k f
  w : csum (wd k) (.tup fs) = w
  y : (crows (pats k) (.tup fs)).length = m
def Cc (fs : List D) (w D m : Nat) : Prop := fs.length ≤ 6 ∧ ∀ k, D < k → Ck k fs w m
theorem Cc_nil {D : Nat} : Cc [] 0 D 1 := ⟨by simp, fun k _ => ⟨(fun f h => by cases h), rfl, rfl⟩⟩
theorem flat_len (rows : List Row) (ps : List Row) : (rows.flatMap fun r => ps.map (r ++ ·)).length = rows.length * ps.length := by
  induction rows with
  | nil => simp
  | cons r rows ih => rw [List.flatMap_cons, List.length_append, ih, List.length_map, List.length_cons, Nat.succ_mul]; omega
theorem rowsF_snoc (P : D → List Row) (fs : List D) (f : D) (rows : List Row) : rowsF P (fs ++ [f]) rows = (rowsF P fs rows).flatMap fun r => (P f).map (r ++ ·) := by
  unfold rowsF
  rw [List.foldl_append]; rfl
theorem Cc_snoc {fs : List D} {f : D} {w D m wf df yf : Nat} (c : Cc fs w D m) (r : Rc f wf df yf) (hl : fs.length < 6) : Cc (fs ++ [f]) (w + wf) (max D df) (m * yf) := by
  refine ⟨by simp; omega, fun k hk => ?_⟩
  obtain ⟨c1, c2, c3⟩ := c.2 k (by omega)
  obtain ⟨r1, r2, r3, r4⟩ := r k (by omega)
  refine ⟨fun g hg => ?_, ?_, ?_⟩
  · rcases List.mem_append.mp hg with hg | hg
    · exact c1 g hg
    · have : g = f := by simpa using hg
      subst this
      exact ⟨r1, r4⟩
  · show ((fs ++ [f]).map (wd k)).sum = _
    have c2 : (fs.map (wd k)).sum = w := c2
    simp [c2, r2]
  · show (rowsF (pats k) (fs ++ [f]) [[]]).length = _
    have c3 : (rowsF (pats k) fs [[]]).length = m := c3
    rw [rowsF_snoc, flat_len, c3, r3]
structure Sk (k : Nat) (cs : List D) (W Y : Nat) : Prop where
  s : ∀ c ∈ cs, ∃ fs, c = .tup fs ∧ fs.length ≤ 6 ∧ ∀ f ∈ fs, isS k f ∧ nr k f
  w : (cs.map (csum (wd k))).foldl max 0 = W
  y : ((cs.map (crows (pats k))).map List.length).sum = Y
def Sc (cs : List D) (W D Y : Nat) : Prop := cs.length ≤ 6 ∧ ∀ k, D < k → Sk k cs W Y
theorem Sc_nil {D : Nat} : Sc [] 0 D 0 := ⟨by simp, fun k _ => ⟨(fun f h => by cases h), rfl, rfl⟩⟩
theorem Sc_snoc {cs fs : List D} {W D Y w D' m : Nat} (c : Sc cs W D Y) (r : Cc fs w D' m) (hD : D ≤ D') (hl : cs.length < 6) : Sc (cs ++ [.tup fs]) (max W w) D' (Y + m) := by
  refine ⟨by simp; omega, fun k hk => ?_⟩
  obtain ⟨c1, c2, c3⟩ := c.2 k (by omega)
  obtain ⟨r1, r2, r3⟩ := r.2 k hk
  refine ⟨fun g hg => ?_, ?_, ?_⟩
  · rcases List.mem_append.mp hg with hg | hg
    · exact c1 g hg
    · have : g = .tup fs := by simpa using hg
      subst this
      exact ⟨fs, rfl, r.1, r1⟩
  · rw [List.map_append, List.foldl_append, c2]
    simp [r2]
  · rw [List.map_append, List.map_append, List.sum_append, c3]
    simp [r3]
theorem zipIdx_len (M : Nat) : ∀ (css : List (List Row)) (i : Nat), ((css.zipIdx i).flatMap fun q => padR M q.2 q.1).length = (css.map List.length).sum
  | [], _ => rfl
  | rs :: css, i => by
    rw [List.zipIdx_cons, List.flatMap_cons, List.length_append, zipIdx_len M css (i + 1)]
    simp [padR]
theorem allR_len (css : List (List Row)) : (allR css).length = (css.map List.length).sum := by
  unfold allR
  split
  · simp
  · exact zipIdx_len _ _ _
theorem Sc_fin {cs : List D} {W D Y : Nat} (c : Sc cs W D Y) (hne : cs ≠ []) : Rc (.tup cs) (if cs.length > 1 then W + 1 else W) (D + 1) Y := fun k hk => by
  obtain ⟨k, rfl⟩ : ∃ j, k = j + 1 := ⟨k - 1, by omega⟩
  obtain ⟨c1, c2, c3⟩ := c.2 k (by omega)
  have hl := c.1
  refine ⟨⟨hne, by omega, fun g hg => ?_⟩, ?_, ?_, ⟨hl, fun g hg => ?_⟩⟩
  · obtain ⟨fs, e, l, hf⟩ := c1 g hg
    exact ⟨fs, e, by omega, fun f hm => (hf f hm).1⟩
  · show wcs (cs.map (csum (wd k))) = _
    match cs, hne, c2 with
    | [a], _, c2 =>
      have c2 : max 0 (csum (wd k) a) = W := c2
      show csum (wd k) a = _
      simp at c2 ⊢
      omega
    | a :: b :: cs, _, c2 =>
      have e : wcs ((a :: b :: cs).map (csum (wd k))) = 1 + ((a :: b :: cs).map (csum (wd k))).foldl max 0 := rfl
      rw [e, c2, if_pos (by simp)]; omega
  · show (allR (cs.map (crows (pats k)))).length = Y
    rw [allR_len, c3]
  · obtain ⟨fs, e, l, hf⟩ := c1 g hg
    exact ⟨fs, e, l, fun f hm => (hf f hm).2⟩
/-- one of the known -/
def Kd (x : D) : Prop := ∃ (d : D) (w : Nat) (s : Int) (dp wy : Nat), x = .tup [d, .int w, .int s, .int dp, .int wy] ∧ Rc d w dp wy ∧ dp ≤ 3 ∧ w ≤ 9 ∧ wy ≤ 1000
/-- a frame -/
def Fr (d : D) : Prop := ∃ w wy, Rk 4 d w wy ∧ w ≤ 9 ∧ wy ≤ 1000
theorem tab {ns : List Nat} {j : Nat} (hj : j < ns.length) : (ns.map fun n => D.int (n : Nat))[j]? = some (.int (ns[j] : Nat)) := by
  rw [List.getElem?_map, List.getElem?_eq_getElem hj]; rfl
theorem tabx {ns : List Nat} {j : Nat} (lo hi : Nat) (hj : j < ns.length) (hb : ∀ x ∈ ns, lo ≤ x ∧ x ≤ hi) : ∃ y : Nat, (ns.map fun n => D.int (n : Nat))[j]? = some (.int (y : Nat)) ∧ lo ≤ y ∧ y ≤ hi := ⟨ns[j], tab hj, hb _ (List.getElem_mem hj)⟩
theorem mx (i j : Nat) : (if (j : Int) > i then (j : Int) else i) = ((max i j : Nat) : Int) := by split <;> omega
theorem lst_go {h : AH} {x : D} {A : Prop} (e : isLst h x = true) (w : A) : isLst h x = true ∧ A := ⟨e, w⟩
end Q07
end
section
set_option Elab.async false
set_option linter.all false
set_option maxRecDepth 100000
set_option maxHeartbeats 4000000
namespace Q07
open Ly
open K07 (m f13 c13 l13_0 l13_1)
local macro_rules | `(tactic| fail) => `(tactic| first | (with_reducible first
  | refine W_seq ?_ | refine W_ret ?_ | refine W_set ?_ | refine W_asg ?_ | refine W_if ?_ | refine W_skip ?_ | refine W_ex ?_ | refine W_setI ?_ | refine W_aug (by with_unfolding_all exact rfl) ?_ | refine W_retN ?_ | refine W_for ?_ | refine W_raise ?_
  | refine E_var (by with_unfolding_all exact rfl) ?_ | refine E_cst ?_ | refine E_bop ?_ | refine E_cmp ?_ | refine E_chn ?_ | refine E_neg ?_ | refine E_not ?_ | refine E_and ?_ | refine E_or ?_ | refine E_ite ?_ | refine E_tr ?_ | refine E_tup ?_ | refine E_lst ?_ | refine E_call ?_ | refine E_bi ?_ | refine E_mth ?_ | refine E_isi ?_ | refine E_sub ?_ | refine E_slc ?_ | refine E_itr ?_ | refine E_lc ?_ | refine EA_cons ?_ | refine EA_nil ?_
  | refine asg_go (by with_unfolding_all exact rfl) ?_ | refine tup_go (by simp) ?_ | refine isi_go (by with_unfolding_all exact rfl) ?_ | refine tr_b ?_ | refine bl_1 ?_ | refine neg_go ?_
  | refine RE_add ?_ | refine RE_sub ?_ | refine RE_lt ?_ | refine RE_le ?_ | refine RE_gt ?_ | refine RE_ge ?_ | refine RE_eqI ?_ | refine RE_neI ?_ | refine RE_eqS ?_ | refine RE_neS ?_
  | refine RE_len0 ?_ | refine RE_len1 ?_ | refine RE_seq0 ?_ | refine RE_int ?_ | refine RE_intb ?_ | refine RE_is0 ?_ | refine RE_is1 ?_ | refine RE_is2 ?_ | refine RE_is3 ?_ | refine RE_is4 ?_ | refine RE_is5 ?_ | refine RE_in0 ?_ | refine RE_in1 ?_ | refine RE_in2 ?_ | refine RE_in3 ?_ | refine RE_in4 ?_ | refine RE_in5 ?_ | refine RE_isB ?_ | refine RE_inB ?_ | refine RE_augA ?_ | refine RE_max2 ?_ | refine lst_go (by first | (with_unfolding_all exact rfl) | exact isLst_of (by assumption)) ?_) | ((with_reducible refine RE_mod ?_ ?_); (focus omega)) | ((with_reducible refine RE_div ?_ ?_); (focus omega)) | ((with_reducible refine RE_mul ?_ ?_); (focus exact mulOkR _ _ (by unfold two64; omega))) | ((with_reducible refine RE_pow ?_ ?_); (focus decide)) | ((with_reducible refine RE_rng ?_ ?_); (focus omega)))
theorem s13 {N T L : Nat} {h : AH} {kn : List D} (ht : Tp T h) (hL : h[L]? = some (.lst kn)) (hLT : L ≠ T) (hk : 0 < kn.length) (hl : kn.length ≤ 1000) (hkd : ∀ x ∈ kn, Kd x) (hN : 2 ≤ N) : RE (cf N 13 [.ref T, .ref L] h) (fun r h' => Kd r ∧ Kt T h h') noX := by
  obtain ⟨N, rfl⟩ : ∃ M, N = M + 1 := ⟨N - 1, by omega⟩
  refine cF_wp (d := f13.df) rfl rfl ?_
  show W _ c13 [some (.ref T), some (.ref L), none, none, none, none, none, none, none, none, none, none, none] h _
  unfold c13
  have hT := ht.lt
  obtain ⟨C, hC⟩ : ∃ C, C = h.length := ⟨_, rfl⟩
  repeat fail
  dsimp only [List.set]
  rw [← hC]
  have t1 : Tp T (h ++ [.lst []]) := (Kt.of ht (.app _)).t
  refine (s11 (k := 8) (by decide) t1 (by omega)).any fun r h1 ⟨⟨j, e, hj⟩, k1⟩ => ?_
  subst e
  obtain ⟨y, ey, hy⟩ := tabx (ns := [1, 2, 3, 1, 4, 2, 6, 5]) (j := j) 1 6 (by simp; omega) (by decide)
  refine RE_get1 (xs := ([1, 2, 3, 1, 4, 2, 6, 5] : List Nat).map fun n => D.int (n : Nat)) (j := j) rfl (ixOf_nat (by simp; omega)) ey ?_
  repeat fail
  try ((with_reducible refine RE_rng ?_ ?_); (focus (omega)))
  have kT : Kt T h h1 := (Kt.of ht (.app _)).trans k1
  have hC1 : h1[C]? = some (.lst []) := k1.get (by rw [hC]; simp) (by omega)
  refine FW_inv (rng 0 y) (fun i σ hc => ∃ cs W D Y sz x7 x8 x9 x10 x11 x12, σ = [some (.ref T), some (.ref L), some (.ref C), some (.int (W : Nat)), some (.int sz), some (.int (D : Nat)), some (.int (Y : Nat)), x7, x8, x9, x10, x11, x12] ∧ Kt T h hc ∧ hc[C]? = some (.lst cs) ∧ Sc cs W D Y ∧ cs.length = i ∧ D ≤ 2 ∧ W ≤ 7 ∧ Y ≤ 24 * i) (by rw [rng_len]; exact lt_wf (by omega)) ⟨[], 0, 0, 0, 1, none, none, none, none, none, none, rfl, kT, hC1, Sc_nil, rfl, by omega, by omega, by omega⟩ (fun i σ h _ _ => draw_rng i) (fun i x σ hc hx hI => ?_) (fun σ hc hI => ?_)
  · obtain ⟨cs, W0, D0, Y0, sz, x7, x8, x9, x10, x11, x12, rfl, kc, hcC, sc, hi, hD, hW, hY⟩ := hI
    obtain ⟨rfl, hiy⟩ := rng_get hx
    refine ⟨_, rfl, ?_⟩
    unfold l13_1
    obtain ⟨F, hF⟩ : ∃ F, F = hc.length := ⟨_, rfl⟩
    repeat fail
    dsimp only [List.set]
    rw [← hF]
    have t2 : Tp T (hc ++ [.lst []]) := (Kt.of kc.t (.app _)).t
    refine (s11 (k := 8) (by decide) t2 (by omega)).any fun r h2 ⟨⟨j, e, hj⟩, k2⟩ => ?_
    subst e
    obtain ⟨z, ez, hz⟩ := tabx (ns := [1, 0, 2, 3, 1, 2, 6, 4]) (j := j) 0 6 (by simp; omega) (by decide)
    refine RE_get1 (xs := ([1, 0, 2, 3, 1, 2, 6, 4] : List Nat).map fun n => D.int (n : Nat)) (j := j) rfl (ixOf_nat (by simp; omega)) ez ?_
    repeat fail
    try ((with_reducible refine RE_rng ?_ ?_); (focus (omega)))
    have kT2 : Kt T h h2 := (kc.trans (Kt.of kc.t (.app _))).trans k2
    have hFC : F ≠ C := by have := lt_of_get hcC; omega
    have hFT : F ≠ T := by have := kc.k.1; omega
    have hCT : C ≠ T := by omega
    have hF2 : h2[F]? = some (.lst []) := k2.get (by rw [hF]; simp) hFT
    have hC2 : h2[C]? = some (.lst cs) := k2.get ((Kp.app (S := no1) _).get hcC id) hCT
    refine FW_inv (rng 0 z) (fun i2 σ hd => ∃ fs w D' m sz x11 x12, σ = [some (.ref T), some (.ref L), some (.ref C), some (.int (W0 : Nat)), some (.int sz), some (.int (D' : Nat)), some (.int (Y0 : Nat)), some (.int (0 + (i : Int))), some (.ref F), some (.int (w : Nat)), some (.int (m : Nat)), x11, x12] ∧ Kt T h hd ∧ hd[C]? = some (.lst cs) ∧ hd[F]? = some (.lst fs) ∧ Cc fs w D' m ∧ D0 ≤ D' ∧ D' ≤ 2 ∧ w ≤ 7 ∧ m ≤ 24 ∧ fs.length ≤ i2) (by rw [rng_len]; exact lt_wf (by omega)) ⟨[], 0, D0, 1, _, _, _, rfl, kT2, hC2, hF2, Cc_nil, by omega, by omega, by omega, by omega, by simp⟩ (fun i σ h _ _ => draw_rng i) (fun i2 x σ hd hx hI => ?_) (fun σ hd hI => ?_)
    · obtain ⟨fs, w, D', m', sz, x11, x12, rfl, kd, hdC, hdF, cc, hDD, hD2, hw, hm, hfl⟩ := hI
      obtain ⟨rfl, hi2⟩ := rng_get hx
      refine ⟨_, rfl, ?_⟩
      unfold l13_0
      have hdL := kd.get hL hLT
      repeat fail
      dsimp only [List.set]
      refine RE_len (seq_ref hdL) ?_
      repeat fail
      refine (s11 (k := kn.length) (by omega) kd.t (by omega)).any fun r h3 ⟨⟨j, e, hj⟩, k3⟩ => ?_
      subst e
      have hj' : j < kn.length := by omega
      have h3L := k3.get hdL hLT
      have h3C := k3.get hdC hCT
      have h3F := k3.get hdF hFT
      have kd3 := kd.trans k3
      refine RE_get1 (xs := kn) (j := j) (seq_ref h3L) (ixOf_nat hj') (List.getElem?_eq_getElem hj') ?_
      obtain ⟨d, wf, sf, dp, wy, e, rc, hdp, hwf, hwy⟩ := hkd _ (List.getElem_mem hj')
      rw [e]
      have z4 : ∀ (h : AH) (P : D → AH → Prop) (X : XE), P (.int wy) h → RE (getS (.tup [d, .int wf, .int sf, .int dp, .int wy]) (.int 4) h) P X := fun h P X w => RE_get1 (j := 4) rfl rfl rfl w
      have z1 : ∀ (h : AH) (P : D → AH → Prop) (X : XE), P (.int wf) h → RE (getS (.tup [d, .int wf, .int sf, .int dp, .int wy]) (.int 1) h) P X := fun h P X w => RE_get1 (j := 1) rfl rfl rfl w
      have z2 : ∀ (h : AH) (P : D → AH → Prop) (X : XE), P (.int sf) h → RE (getS (.tup [d, .int wf, .int sf, .int dp, .int wy]) (.int 2) h) P X := fun h P X w => RE_get1 (j := 2) rfl rfl rfl w
      have z3 : ∀ (h : AH) (P : D → AH → Prop) (X : XE), P (.int dp) h → RE (getS (.tup [d, .int wf, .int sf, .int dp, .int wy]) (.int 3) h) P X := fun h P X w => RE_get1 (j := 3) rfl rfl rfl w
      have z0 : ∀ (h : AH) (P : D → AH → Prop) (X : XE), P (d) h → RE (getS (.tup [d, .int wf, .int sf, .int dp, .int wy]) (.int 0) h) P X := fun h P X w => RE_get1 (j := 0) rfl rfl rfl w
      have out : ∃ fs w D' m sz x11 x12, [some (D.ref T), some (.ref L), some (.ref C), some (.int (W0 : Nat)), some (.int _), some (.int (_ : Nat)), some (.int (Y0 : Nat)), some (.int (0 + (i : Int))), some (.ref F), some (.int (_ : Nat)), some (.int (_ : Nat)), _, _] = [some (D.ref T), some (.ref L), some (.ref C), some (.int (W0 : Nat)), some (.int sz), some (.int (D' : Nat)), some (.int (Y0 : Nat)), some (.int (0 + (i : Int))), some (.ref F), some (.int (w : Nat)), some (.int (m : Nat)), x11, x12] ∧ Kt T h h3 ∧ h3[C]? = some (.lst cs) ∧ h3[F]? = some (.lst fs) ∧ Cc fs w D' m ∧ D0 ≤ D' ∧ D' ≤ 2 ∧ w ≤ 7 ∧ m ≤ 24 ∧ fs.length ≤ i2 + 1 := ⟨fs, w, D', m', sz, some (.int (0 + (i2 : Int))), some (.tup [d, .int wf, .int sf, .int dp, .int wy]), rfl, kd3, h3C, h3F, cc, hDD, hD2, hw, hm, by omega⟩
      repeat fail
      with_reducible refine z1 _ _ _ ?_
      repeat fail
      refine cj_if (fun c1 => ?_) (fun c1 => ?_)
      rotate_left
      · refine bl_1 (cj_f rfl ?_)
        repeat fail
        exact out
      repeat fail
      with_reducible refine z2 _ _ _ ?_
      repeat fail
      refine cj_if (fun c2 => ?_) (fun c2 => ?_)
      rotate_left
      · refine bl_1 (cj_f rfl ?_)
        repeat fail
        exact out
      repeat fail
      with_reducible refine z3 _ _ _ ?_
      repeat fail
      refine cj_if (fun c3 => ?_) (fun c3 => ?_)
      rotate_left
      · refine bl_1 (cj_f rfl ?_)
        repeat fail
        exact out
      repeat fail
      with_reducible refine z4 _ _ _ ?_
      repeat fail
      try ((with_reducible refine RE_mul ?_ ?_); (focus exact mulOkR _ _ (by unfold two64; omega)))
      repeat fail
      refine cj_if (fun c4 => ?_) (fun c4 => ?_)
      rotate_left
      · repeat fail
        exact out
      repeat fail
      with_reducible refine z0 _ _ _ ?_
      repeat fail
      refine RE_append h3F (by omega) ?_
      repeat fail
      dsimp only [List.set]
      with_reducible refine z1 _ _ _ ?_
      repeat fail
      dsimp only [List.set]
      with_reducible refine z2 _ _ _ ?_
      repeat fail
      dsimp only [List.set]
      with_reducible refine z3 _ _ _ ?_
      repeat fail
      dsimp only [List.set]
      with_reducible refine z4 _ _ _ ?_
      repeat fail
      try ((with_reducible refine RE_mul ?_ ?_); (focus exact mulOkR _ _ (by unfold two64; omega)))
      repeat fail
      dsimp only [List.set]
      have c4' : m' * wy < 25 := by
        have : ((m' * wy : Nat) : Int) < 25 := by rw [Int.natCast_mul]; exact c4
        omega
      rw [mx]
      refine ⟨fs ++ [d], w + wf, max D' dp, m' * wy, _, _, _, rfl, ⟨kd3.k.set (.inr (by have := kc.k.1; omega)) _, ?_⟩, ?_, ?_, Cc_snoc cc rc (by omega), by omega, by omega, by omega, by omega, by simp; omega⟩
      · obtain ⟨ts, e⟩ := kd3.t
        exact ⟨ts, by rw [List.getElem?_set_ne hFT]; exact e⟩
      · rw [List.getElem?_set_ne hFC]; exact h3C
      · rw [List.getElem?_set_self (lt_of_get h3F)]
    · obtain ⟨fs, w, D', m', sz, x11, x12, rfl, kd, hdC, hdF, cc, hDD, hD2, hw, hm, hfl⟩ := hI
      repeat fail
      refine RE_tuple (seq_ref hdF) ?_
      repeat fail
      refine RE_append hdC (by omega) ?_
      repeat fail
      dsimp only [List.set]
      rw [mx]
      refine ⟨cs ++ [.tup fs], max W0 w, D', Y0 + m', _, _, _, _, _, _, _, rfl, ⟨kd.k.set (.inr (by omega)) _, ?_⟩, ?_, Sc_snoc sc cc hDD (by omega), by simp; omega, by omega, by omega, by omega⟩
      · obtain ⟨ts, e⟩ := kd.t
        exact ⟨ts, by rw [List.getElem?_set_ne hCT]; exact e⟩
      · rw [List.getElem?_set_self (lt_of_get hdC)]
  · obtain ⟨cs, W0, D0, Y0, sz, x7, x8, x9, x10, x11, x12, rfl, kc, hcC, sc, hi, hD, hW, hY⟩ := hI
    rw [rng_len] at hi hY
    have hne : cs ≠ [] := by rintro rfl; simp at hi; omega
    have rc := Sc_fin sc hne
    repeat fail
    refine RE_len (seq_ref hcC) ?_
    repeat fail
    refine cj_if (fun c1 => ?_) (fun c1 => ?_)
    · repeat fail
      dsimp only [List.set]
      refine RE_tuple (seq_ref hcC) ?_
      repeat fail
      rw [if_pos (by omega)] at rc
      exact ⟨⟨_, W0 + 1, _, D0 + 1, Y0, rfl, rc, by omega, by omega, by omega⟩, kc⟩
    · repeat fail
      refine RE_tuple (seq_ref hcC) ?_
      repeat fail
      rw [if_neg (by omega)] at rc
      exact ⟨⟨_, W0, _, D0 + 1, Y0, rfl, rc, by omega, by omega, by omega⟩, kc⟩
end Q07
end
section
set_option Elab.async false
set_option linter.all false
set_option maxRecDepth 100000
set_option maxHeartbeats 4000000
namespace Q07
open Ly
open K07 (m f14 c14 l14_0 f16 c16)
local macro_rules | `(tactic| fail) => `(tactic| first | (with_reducible first
  | refine W_seq ?_ | refine W_ret ?_ | refine W_set ?_ | refine W_asg ?_ | refine W_if ?_ | refine W_skip ?_ | refine W_ex ?_ | refine W_setI ?_ | refine W_aug (by with_unfolding_all exact rfl) ?_ | refine W_retN ?_ | refine W_for ?_ | refine W_raise ?_
  | refine E_var (by with_unfolding_all exact rfl) ?_ | refine E_cst ?_ | refine E_bop ?_ | refine E_cmp ?_ | refine E_chn ?_ | refine E_neg ?_ | refine E_not ?_ | refine E_and ?_ | refine E_or ?_ | refine E_ite ?_ | refine E_tr ?_ | refine E_tup ?_ | refine E_lst ?_ | refine E_call ?_ | refine E_bi ?_ | refine E_mth ?_ | refine E_isi ?_ | refine E_sub ?_ | refine E_slc ?_ | refine E_itr ?_ | refine E_lc ?_ | refine EA_cons ?_ | refine EA_nil ?_
  | refine asg_go (by with_unfolding_all exact rfl) ?_ | refine tup_go (by simp) ?_ | refine isi_go (by with_unfolding_all exact rfl) ?_ | refine tr_b ?_ | refine bl_1 ?_ | refine neg_go ?_
  | refine RE_add ?_ | refine RE_sub ?_ | refine RE_lt ?_ | refine RE_le ?_ | refine RE_gt ?_ | refine RE_ge ?_ | refine RE_eqI ?_ | refine RE_neI ?_ | refine RE_eqS ?_ | refine RE_neS ?_
  | refine RE_len0 ?_ | refine RE_len1 ?_ | refine RE_seq0 ?_ | refine RE_int ?_ | refine RE_intb ?_ | refine RE_is0 ?_ | refine RE_is1 ?_ | refine RE_is2 ?_ | refine RE_is3 ?_ | refine RE_is4 ?_ | refine RE_is5 ?_ | refine RE_in0 ?_ | refine RE_in1 ?_ | refine RE_in2 ?_ | refine RE_in3 ?_ | refine RE_in4 ?_ | refine RE_in5 ?_ | refine RE_isB ?_ | refine RE_inB ?_ | refine RE_augA ?_ | refine RE_max2 ?_ | refine lst_go (by first | (with_unfolding_all exact rfl) | exact isLst_of (by assumption)) ?_) | ((with_reducible refine RE_mod ?_ ?_); (focus omega)) | ((with_reducible refine RE_div ?_ ?_); (focus omega)) | ((with_reducible refine RE_mul ?_ ?_); (focus exact mulOkR _ _ (by unfold two64; omega))) | ((with_reducible refine RE_pow ?_ ?_); (focus decide)) | ((with_reducible refine RE_rng ?_ ?_); (focus omega)))
def oT : D := .tup [.tup [], .tup [.str "word"]]
def gT : D := .tup [.tup [], .tup []]
def pT : D := .tup [.tup [gT, oT]]
def wr : List D := [.tup [.tup []], gT, oT, .tup [.tup [.str "word", oT, .str "word"]], .tup [.tup [.str "word", .str "word", .str "word", .str "word", .str "word", .str "word"]],
  .tup [.tup [], .tup [], .tup [.str "word"], .tup [], .tup [oT, oT], .tup []], .tup [.tup [oT, .tup [.tup [.str "word"]]], .tup [pT]]]
theorem fr_of (d : D) (h1 : isS 4 d) (h2 : nr 4 d) (h3 : wd 4 d ≤ 9) (h4 : (pats 4 d).length ≤ 1000) : Fr d := ⟨_, _, ⟨h1, rfl, rfl, h2⟩, h3, h4⟩
theorem wr_fr : ∀ x ∈ wr, Fr x := by
  intro x hx
  simp only [wr, List.mem_cons, List.not_mem_nil, or_false] at hx
  rcases hx with rfl | rfl | rfl | rfl | rfl | rfl | rfl
  all_goals exact fr_of _ (by simp [isS, oT, gT, pT]) (by simp [nr, oT, gT, pT]) (by decide +kernel) (by decide +kernel)
def fst0 : D → D
  | .tup (d :: _) => d
  | _ => .non
theorem s14 {N T : Nat} {h : AH} (ht : Tp T h) (hN : 3 ≤ N) : RE (cf N 14 [.ref T] h) (fun r h' => (∃ n fr, r = .ref n ∧ n ≠ T ∧ h'[n]? = some (.lst fr) ∧ fr.length ≤ 10 ∧ ∀ d ∈ fr, Fr d) ∧ Kt T h h') noX := by
  obtain ⟨N, rfl⟩ : ∃ M, N = M + 1 := ⟨N - 1, by omega⟩
  refine cF_wp (d := f14.df) rfl rfl ?_
  show W _ c14 [some (.ref T), none, none, none, none, none, none, none] h _
  unfold c14
  have hT := ht.lt
  obtain ⟨L, hL⟩ : ∃ C, C = h.length := ⟨_, rfl⟩
  repeat fail
  dsimp only [List.set]
  rw [← hL]
  have k0 : Kt T h (h ++ [.lst [.tup [.str "word", .int 1, .int 1, .int 0, .int 1]]]) := .of ht (.app _)
  have hLT : L ≠ T := by omega
  refine FW_inv (rng 0 3) (fun i σ hc => ∃ kn x6, σ = [some (.ref T), some oT, some gT, some pT, some (.tup wr), some (.ref L), x6, none] ∧ Kt T h hc ∧ hc[L]? = some (.lst kn) ∧ kn.length = i + 1 ∧ ∀ x ∈ kn, Kd x) (by rw [rng_len]; exact lt_wf (by omega)) ⟨[.tup [.str "word", .int 1, .int 1, .int 0, .int 1]], none, rfl, k0, by rw [hL]; simp, rfl, fun x hx => ?_⟩ (fun i σ h _ _ => draw_rng i) (fun i x σ hc hx hI => ?_) (fun σ hc hI => ?_)
  · have : x = .tup [.str "word", .int 1, .int 1, .int 0, .int 1] := by simpa using hx
    subst this
    exact ⟨_, 1, 1, 0, 1, rfl, Rc_word, by decide, by decide, by decide⟩
  · obtain ⟨kn, x6, rfl, kc, hcL, hl, hk⟩ := hI
    obtain ⟨rfl, hi⟩ := rng_get hx
    refine ⟨_, rfl, ?_⟩
    unfold l14_0
    repeat fail
    refine (s13 kc.t hcL hLT (by omega) (by omega) hk (by omega)).any fun r h2 ⟨e1, k2⟩ => ?_
    have h2L := k2.get hcL hLT
    repeat fail
    refine RE_append h2L (by omega) ?_
    repeat fail
    refine ⟨kn ++ [r], _, rfl, ⟨(kc.trans k2).k.set (.inr (by omega)) _, ?_⟩, ?_, by simp; omega, fun x hx => ?_⟩
    · obtain ⟨ts, e⟩ := k2.t
      exact ⟨ts, by rw [List.getElem?_set_ne hLT]; exact e⟩
    · rw [List.getElem?_set_self (lt_of_get h2L)]
    · rcases List.mem_append.mp hx with hx | hx
      · exact hk x hx
      · have : x = r := by simpa using hx
        subst this; exact e1
  · obtain ⟨kn, x6, rfl, kc, hcL, hl, hk⟩ := hI
    rw [rng_len] at hl
    repeat fail
    refine RE_seq (seq_ref hcL) ?_
    refine LC_map fst0 kn (by omega) (fun h2 k2 j => draw_ref (k2.get hcL id) j) (fun x hx h2 k2 => ?_) (fun hF kF acF => ?_)
    · dsimp only [List.set]
      obtain ⟨d, w, s, dp, wy, rfl, _⟩ := hk x hx
      repeat fail
      exact RE_get1 (j := 0) rfl rfl rfl ⟨.refl, rfl⟩
    · repeat fail
      have kcF := kc.trans (Kt.of kc.t kF)
      refine (s11 (k := 7) (by decide) kcF.t (by omega)).any fun r h3 ⟨⟨j, e, hj⟩, k3⟩ => ?_
      subst e
      have hj' : j < wr.length := by show j < 7; omega
      refine RE_get1 (xs := wr) (j := j) rfl (ixOf_nat hj') (List.getElem?_eq_getElem hj') ?_
      repeat fail
      have hcT := kc.t.lt
      have h3F : h3[hc.length]? = some (.lst (kn.map fst0)) := k3.get acF (by omega)
      have l3 := lt_of_get h3F
      refine RE_catL (n := hc.length) (m := h3.length) (xs := kn.map fst0) (ys := [wr[j]]) (by rw [List.getElem?_append_left l3]; exact h3F) (by simp) (by simp; omega) ?_
      refine ⟨⟨_, kn.map fst0 ++ [wr[j]], rfl, ?_, by simp, by simp; omega, fun d hd => ?_⟩, (((kcF.trans k3)).trans (Kt.of k3.t (.app _))).trans (Kt.of (Kt.of k3.t (.app _)).t (.app _))⟩
      · have := k3.t.lt
        simp; omega
      · rcases List.mem_append.mp hd with hd | hd
        · obtain ⟨x, hx, rfl⟩ := List.mem_map.mp hd
          obtain ⟨d, w, s, dp, wy, rfl, rc, h1, h2, h3⟩ := hk x hx
          exact ⟨w, wy, rc 4 (by omega), h2, h3⟩
        · have : d = wr[j] := by simpa using hd
          subst this
          exact wr_fr _ (List.getElem_mem hj')
theorem s16 {N : Nat} {h : AH} {d : D} {t : Bt} (ht : tyOf h d = some t) (hN : 1 ≤ N) : RE (cf N 16 [d] h) (fun r h' => r = .bl (isW d) ∧ h' = h) noX := by
  obtain ⟨N, rfl⟩ : ∃ M, N = M + 1 := ⟨N - 1, by omega⟩
  refine cF_wp (d := f16.df) rfl rfl ?_
  show W _ c16 [some d] h _
  unfold c16
  cases d with
  | int i =>
    repeat fail
    refine cj_t rfl ?_
    repeat fail
    refine cj_t rfl ?_
    repeat fail
    refine cj_if (fun c => ?_) (fun c => ?_)
    · repeat fail
      refine ⟨?_, rfl⟩
      show D.bl _ = .bl (decide (isWd i))
      unfold isWd
      simp [c]
    · refine ⟨?_, rfl⟩
      show D.bl false = .bl (decide (isWd i))
      rw [decide_eq_false fun z => c z.1]
  | bl b =>
    repeat fail
    refine cj_t rfl ?_
    repeat fail
    exact cj_f rfl ⟨rfl, rfl⟩
  | ref n =>
    repeat fail
    refine isi_go ht ?_
    have e : (List.any [Bt.int] fun n => t.sub n) = false := by simp [(ref_ty ht).2]
    rw [e]
    repeat fail
    exact cj_f rfl ⟨rfl, rfl⟩
  | it => cases ht
  | _ =>
    repeat fail
    exact cj_f rfl ⟨rfl, rfl⟩
end Q07
end
section
set_option Elab.async false
set_option linter.all false
set_option maxRecDepth 100000
set_option maxHeartbeats 4000000
namespace Q07
open Ly
open K07 (m f15 c15 l15_0 l15_1 l15_2 l15_3)
local macro_rules | `(tactic| fail) => `(tactic| first | (with_reducible first
  | refine W_seq ?_ | refine W_ret ?_ | refine W_set ?_ | refine W_asg ?_ | refine W_if ?_ | refine W_skip ?_ | refine W_ex ?_ | refine W_setI ?_ | refine W_aug (by with_unfolding_all exact rfl) ?_ | refine W_retN ?_ | refine W_for ?_ | refine W_raise ?_
  | refine E_var (by with_unfolding_all exact rfl) ?_ | refine E_cst ?_ | refine E_bop ?_ | refine E_cmp ?_ | refine E_chn ?_ | refine E_neg ?_ | refine E_not ?_ | refine E_and ?_ | refine E_or ?_ | refine E_ite ?_ | refine E_tr ?_ | refine E_tup ?_ | refine E_lst ?_ | refine E_call ?_ | refine E_bi ?_ | refine E_mth ?_ | refine E_isi ?_ | refine E_sub ?_ | refine E_slc ?_ | refine E_itr ?_ | refine E_lc ?_ | refine EA_cons ?_ | refine EA_nil ?_
  | refine asg_go (by with_unfolding_all exact rfl) ?_ | refine tup_go (by simp) ?_ | refine isi_go (by with_unfolding_all exact rfl) ?_ | refine tr_b ?_ | refine bl_1 ?_ | refine neg_go ?_
  | refine RE_add ?_ | refine RE_sub ?_ | refine RE_lt ?_ | refine RE_le ?_ | refine RE_gt ?_ | refine RE_ge ?_ | refine RE_eqI ?_ | refine RE_neI ?_ | refine RE_eqS ?_ | refine RE_neS ?_
  | refine RE_len0 ?_ | refine RE_len1 ?_ | refine RE_seq0 ?_ | refine RE_int ?_ | refine RE_intb ?_ | refine RE_is0 ?_ | refine RE_is1 ?_ | refine RE_is2 ?_ | refine RE_is3 ?_ | refine RE_is4 ?_ | refine RE_is5 ?_ | refine RE_in0 ?_ | refine RE_in1 ?_ | refine RE_in2 ?_ | refine RE_in3 ?_ | refine RE_in4 ?_ | refine RE_in5 ?_ | refine RE_isB ?_ | refine RE_inB ?_ | refine RE_augA ?_ | refine RE_max2 ?_ | refine lst_go (by first | (with_unfolding_all exact rfl) | exact isLst_of (by assumption)) ?_) | ((with_reducible refine RE_mod ?_ ?_); (focus omega)) | ((with_reducible refine RE_div ?_ ?_); (focus omega)) | ((with_reducible refine RE_mul ?_ ?_); (focus exact mulOkR _ _ (by unfold two64; omega))) | ((with_reducible refine RE_pow ?_ ?_); (focus decide)) | ((with_reducible refine RE_rng ?_ ?_); (focus omega)))
def toO : Option Int → D
  | none => .non
  | some i => .int i
def toD (r : Row) : D := .tup (r.map toO)
abbrev tds (rs : List Row) : List D := rs.map toD
theorem Each.snoc {R : D → D → Prop} {xs ys : List D} {x y : D} (e : Each R xs ys) (r : R x y) : Each R (xs ++ [x]) (ys ++ [y]) := by
  refine ⟨by simp [e.1], fun j a b ha hb => ?_⟩
  have hl := e.1
  by_cases c : j < xs.length
  · rw [List.getElem?_append_left c] at ha
    rw [List.getElem?_append_left (by omega)] at hb
    exact e.2 j a b ha hb
  · have hj := (List.getElem?_eq_some_iff.mp ha).1
    have e1 : j = xs.length := by simp at hj; omega
    subst e1
    rw [List.getElem?_append_right (Nat.le_refl _)] at ha
    rw [List.getElem?_append_right (by omega), hl] at hb
    simp at ha hb
    subst ha hb; exact r
theorem Each.imp {R S : D → D → Prop} {xs ys : List D} (e : Each R xs ys) (f : ∀ x y, R x y → S x y) : Each S xs ys := ⟨e.1, fun j a b ha hb => f _ _ (e.2 j a b ha hb)⟩
theorem take_snoc {α : Type} {xs : List α} {i : Nat} {x : α} (h : xs[i]? = some x) : xs.take (i + 1) = xs.take i ++ [x] := by
  rw [List.take_add_one, h]; rfl
theorem rowsF_grow {P : D → List Row} : ∀ {fs : List D} (hg : ∀ f ∈ fs, P f ≠ []) (rows : List Row), rows.length ≤ (rowsF P fs rows).length
  | [], _, rows => Nat.le_refl _
  | f :: fs, hg, rows => by
    have e : rowsF P (f :: fs) rows = rowsF P fs (rows.flatMap fun r => (P f).map (r ++ ·)) := rfl
    rw [e]
    refine Nat.le_trans ?_ (rowsF_grow (fun g hgm => hg g (by simp [hgm])) _)
    rw [flat_len]
    have : 0 < (P f).length := List.length_pos_iff.mpr (hg f (by simp))
    exact Nat.le_mul_of_pos_right _ this
theorem rowsF_pre {P : D → List Row} {fs : List D} (hg : ∀ f ∈ fs, P f ≠ []) (i : Nat) (rows : List Row) : (rowsF P (fs.take i) rows).length ≤ (rowsF P fs rows).length := by
  have e : rowsF P fs rows = rowsF P (fs.drop i) (rowsF P (fs.take i) rows) := by
    conv => lhs; rw [← List.take_append_drop i fs]
    unfold rowsF
    rw [List.foldl_append]
  rw [e]
  exact rowsF_grow (fun f hf => hg f (List.mem_of_mem_drop hf)) _
theorem sum_mem {α : Type} {f : α → Nat} : ∀ {xs : List α} {x : α}, x ∈ xs → f x ≤ (xs.map f).sum
  | y :: ys, x, h => by
    rw [List.map_cons, List.sum_cons]
    rcases List.mem_cons.mp h with rfl | h
    · omega
    · have := sum_mem (f := f) h; omega
theorem sum_pre {α : Type} {f : α → Nat} (xs : List α) (i : Nat) : ((xs.take i).map f).sum ≤ (xs.map f).sum := by
  conv => rhs; rw [← List.take_append_drop i xs]
  rw [List.map_append, List.sum_append]; omega
/-- the rows told, of a case -/
def CR (k lo C : Nat) (h : AH) (c r : D) : Prop := ∃ n, r = .ref n ∧ n ≠ C ∧ lo ≤ n ∧ h[n]? = some (.lst (tds (crows (pats k) c)))
theorem CR.keep {k lo C : Nat} {h h' : AH} {c r : D} (x : CR k lo C h c r) (kp : Kp (fun j => j = C) h h') : CR k lo C h' c r := by
  obtain ⟨n, e1, e2, e3, e4⟩ := x
  exact ⟨n, e1, e2, e3, kp.get e4 e2⟩
def lenAt (h : AH) (r : D) : D := match r with
  | .ref n => (match h[n]? with
    | some (.lst (.tup x :: _)) => .int x.length
    | _ => .non)
  | _ => .non
theorem s15 : ∀ (k : Nat) {N : Nat} {d : D} {h : AH}, isS k d → k ≤ 30 → k ≤ N → wd k d ≤ 1000 → (pats k d).length ≤ 1000 → RE (cf N 15 [d] h) (fun r h' => (∃ n, r = .ref n ∧ h.length ≤ n ∧ h'[n]? = some (.lst (tds (pats k d)))) ∧ Kp no1 h h') noX
  | 0, _, _, _, hs, _, _, _, _ => hs.elim
  | k + 1, N, d, h, hs, hk, hN, hw, hp => by
    obtain ⟨N, rfl⟩ : ∃ M, N = M + 1 := ⟨N - 1, by omega⟩
    refine cF_wp (d := f15.df) rfl rfl ?_
    show W _ c15 [some d, none, none, none, none, none, none, none, none, none, none, none] h _
    unfold c15
    repeat fail
    refine RE_word hs hk (fun e => ?_) (fun cs e => ?_)
    · subst e
      refine bl_t rfl ?_
      repeat fail
      exact ⟨⟨_, rfl, Nat.le_refl _, by simp [tds, pats, toD, toO]⟩, .app _⟩
    · subst e
      have hs' : cs ≠ [] ∧ cs.length ≤ 1000 ∧ ∀ c ∈ cs, ∃ fs, c = .tup fs ∧ fs.length ≤ 1000 ∧ ∀ f ∈ fs, isS k f := hs
      obtain ⟨hne, hlen, hc⟩ := hs'
      have hpl : (allR (cs.map (crows (pats k)))).length ≤ 1000 := hp
      rw [allR_len] at hpl
      have gp : ∀ c ∈ cs, ∃ fs, c = .tup fs ∧ fs.length ≤ 1000 ∧ (∀ f ∈ fs, isS k f) ∧ (∀ f ∈ fs, GoodP k f) ∧ (fs.map (wd k)).sum ≤ 1000 ∧ (rowsF (pats k) fs [[]]).length ≤ 1000 := fun c hcm => by
        obtain ⟨fs, e, l, hf⟩ := hc c hcm
        refine ⟨fs, e, l, hf, fun f hfm => (isS_good k (hf f hfm)).2, ?_, ?_⟩
        · have h1 := case_le (k := k) hcm
          have h2 : csum (wd k) c = (fs.map (wd k)).sum := by rw [e]; rfl
          omega
        · have h1 := sum_mem (f := List.length) (List.mem_map_of_mem (f := crows (pats k)) hcm)
          rw [e] at h1
          exact Nat.le_trans h1 hpl
      refine bl_f rfl ?_
      obtain ⟨C, hC⟩ : ∃ C, C = h.length := ⟨_, rfl⟩
      repeat fail
      dsimp only [List.set]
      rw [← hC]
      refine FW_inv cs (fun i σ hc => ∃ rs x2 x6 x7 x8 x9 x10 x11, σ = [some (.tup cs), some (.ref C), x2, none, none, none, x6, x7, x8, x9, x10, x11] ∧ Kp no1 h hc ∧ hc[C]? = some (.lst rs) ∧ Each (CR k (C + 1) C hc) (cs.take i) rs) (lt_wf (by omega)) ⟨[], none, none, none, none, none, none, none, rfl, .app _, by rw [hC]; simp, by simp, fun j x y hx => by simp at hx⟩ (fun i σ hc hI hi => rfl) (fun i c σ hc hx hI => ?_) (fun σ hc hI => ?_)
      · obtain ⟨rs, x2, x6, x7, x8, x9, x10, x11, rfl, kc, hcC, ea⟩ := hI
        obtain ⟨fs, rfl, hfl, hfs, hgp, hws, hrl⟩ := gp c (List.mem_of_getElem? hx)
        have hi : i < cs.length := (List.getElem?_eq_some_iff.mp hx).1
        have hCc := lt_of_get hcC
        refine ⟨_, rfl, ?_⟩
        unfold l15_3
        repeat fail
        dsimp only [List.set]
        obtain ⟨pn, hpn⟩ := prod_ok (k := k) (fs := fs) hgp
        refine FW_inv fs (fun i2 σ hd => ∃ Rr y7 y8 y9 y10 y11, σ = [some (.tup cs), some (.ref C), some (.tup fs), none, none, none, some (.ref Rr), y7, y8, y9, y10, y11] ∧ Kp no1 hc hd ∧ hc.length ≤ Rr ∧ hd[Rr]? = some (.lst (tds (rowsF (pats k) (fs.take i2) [[]])))) (lt_wf (by omega)) ⟨hc.length, _, _, _, _, _, rfl, .app _, Nat.le_refl _, by simp [tds, rowsF, toD]⟩ (fun i σ hc hI hi => rfl) (fun i2 f σ hd hx2 hI => ?_) (fun σ hd hI => ?_)
        · obtain ⟨Rr, y7, y8, y9, y10, y11, rfl, kd, hR, hdR⟩ := hI
          have hfm := List.mem_of_getElem? hx2
          refine ⟨_, rfl, ?_⟩
          unfold l15_2
          have l0 := rowsF_pre (P := pats k) (fun f hf => (hgp f hf).ne) i2 [[]]
          have l1 := rowsF_pre (P := pats k) (fun f hf => (hgp f hf).ne) (i2 + 1) [[]]
          have hr1 : 1 ≤ (rowsF (pats k) (fs.take i2) [[]]).length := rowsF_grow (P := pats k) (fs := fs.take i2) (fun f hf => (hgp f (List.mem_of_mem_take hf)).ne) [[]]
          rw [take_snoc hx2, rowsF_snoc, flat_len] at l1
          have l2 : (pats k f).length ≤ 1000 := Nat.le_trans (Nat.le_mul_of_pos_left _ hr1) (by omega)
          have hwf := sum_mem (f := wd k) hfm
          repeat fail
          dsimp only [List.set]
          refine (s15 k (hfs f hfm) (by omega) (by omega) (by omega) l2).any fun r h2 ⟨⟨nm, e1, hnm, hm⟩, k2⟩ => ?_
          subst e1
          obtain ⟨F, hF⟩ : ∃ F, F = h2.length := ⟨_, rfl⟩
          have h2R := k2.get hdR id
          repeat fail
          dsimp only [List.set]
          rw [← hF]
          have h3R : (h2 ++ [AO.lst []])[Rr]? = some (.lst (tds (rowsF (pats k) (fs.take i2) [[]]))) := (Kp.app (S := no1) _).get h2R id
          refine RE_seq (seq_ref h3R) ?_
          obtain ⟨rows, hrows⟩ : ∃ rows, rows = rowsF (pats k) (fs.take i2) [[]] := ⟨_, rfl⟩
          rw [← hrows] at h3R h2R l1 l0 hr1
          have rl : ∀ r ∈ rows, r.length ≤ 1000 := fun r hr => by
            rw [hrows] at hr
            obtain ⟨r0, h0, r1, h1, rfl⟩ := (rowsF_mem _ _ _ _).mp hr
            have : r0 = [] := by simpa using h0
            subst this
            have z := (prod_ok (k := k) (fs := fs.take i2) fun f hf => hgp f (List.mem_of_mem_take hf)).2.1 r1 h1
            have z2 := sum_pre (f := wd k) fs i2
            simp; omega
          refine FW_inv (tds rows) (fun i3 σ he => ∃ y10 y11, σ = [some (.tup cs), some (.ref C), some (.tup fs), none, none, none, some (.ref Rr), some f, some (.ref nm), some (.ref F), y10, y11] ∧ Kp no1 h2 he ∧ he[F]? = some (.lst (tds ((rows.take i3).flatMap fun r => (pats k f).map (r ++ ·))))) (lt_wf (by simp; omega)) ⟨_, _, rfl, .app _, by rw [hF]; simp [tds]⟩ (fun i3 σ he hI hi => ?_) (fun i3 x σ he hx3 hI => ?_) (fun σ he hI => ?_)
          · obtain ⟨y10, y11, rfl, ke, heF⟩ := hI
            exact draw_ref (ke.get h2R id) i3
          · obtain ⟨y10, y11, rfl, ke, heF⟩ := hI
            rw [List.getElem?_map] at hx3
            cases q : rows[i3]? with
            | none => rw [q] at hx3; cases hx3
            | some row =>
              rw [q] at hx3
              cases hx3
              refine ⟨_, rfl, ?_⟩
              unfold l15_1
              have rlr := rl row (List.mem_of_getElem? q)
              have hem := ke.get hm id
              repeat fail
              dsimp only [List.set]
              refine RE_seq (seq_ref hem) ?_
              refine LC_map (fun x => match x with | .tup ys => .tup (row.map toO ++ ys) | _ => .non) (tds (pats k f)) (by simp; omega) (fun h4 k4 j => draw_ref (k4.get hem id) j) (fun x hx4 h4 k4 => ?_) (fun hG kG acG => ?_)
              · obtain ⟨one, ho, rfl⟩ := List.mem_map.mp hx4
                have hol := (hgp f hfm).ln one ho
                dsimp only [List.set]
                repeat fail
                exact RE_cat (xs := row.map toO) (ys := one.map toO) (by simp; omega) ⟨.refl, rfl⟩
              · repeat fail
                have hGF := kG.get heF id
                have eG : (tds (pats k f)).map (fun x => match x with | .tup ys => D.tup (row.map toO ++ ys) | _ => .non) = tds ((pats k f).map (row ++ ·)) := by
                  simp [tds, toD, Function.comp_def]
                rw [eG] at acG
                have hi3 : i3 < rows.length := (List.getElem?_eq_some_iff.mp q).1
                have b1 : (rows.take i3).length = i3 := by rw [List.length_take]; omega
                have b2 : i3 * (pats k f).length ≤ rows.length * (pats k f).length := Nat.mul_le_mul_right _ (by omega)
                refine RE_extend hGF acG (by rw [List.length_map, List.length_map, List.length_map, flat_len, b1]; omega) ?_
                repeat fail
                refine ⟨_, _, rfl, (ke.trans kG).set (.inr (by omega)) _, ?_⟩
                rw [List.getElem?_set_self (lt_of_get hGF), take_snoc q]
                simp [tds]
          · obtain ⟨y10, y11, rfl, ke, heF⟩ := hI
            rw [List.length_map, List.take_length] at heF
            repeat fail
            refine RE_list (seq_ref heF) ?_
            repeat fail
            dsimp only [List.set]
            refine ⟨he.length, _, _, _, _, _, rfl, ((kd.trans k2).trans ke).then _, ?_, ?_⟩
            · have := kd.1
              have := k2.1
              have := ke.1
              omega
            · rw [take_snoc hx2, rowsF_snoc, ← hrows]
              simp
        · obtain ⟨Rr, y7, y8, y9, y10, y11, rfl, kd, hR, hdR⟩ := hI
          rw [List.take_length] at hdR
          have hdC := kd.get hcC id
          repeat fail
          have hrl : rs.length = (cs.take i).length := ea.1
          rw [List.length_take] at hrl
          refine RE_append hdC (by omega) ?_
          repeat fail
          have kpC : Kp (fun j => j = C) hc (hd.set C (.lst (rs ++ [.ref Rr]))) := Kp.set (S := fun j => j = C) (kd.mono fun _ _ z => z.elim) (.inl rfl) _
          refine ⟨rs ++ [.ref Rr], _, _, _, _, _, _, _, rfl, (kc.trans kd).set (.inr (by omega)) _, by rw [List.getElem?_set_self (lt_of_get hdC)], ?_⟩
          rw [take_snoc hx]
          refine Each.snoc (Each.imp ea fun x y z => CR.keep z kpC) ⟨Rr, rfl, by omega, by omega, ?_⟩
          rw [List.getElem?_set_ne (by omega)]
          exact hdR
      · obtain ⟨rs, x2, x6, x7, x8, x9, x10, x11, rfl, kc, hcC, ea⟩ := hI
        rw [List.take_length] at ea
        have hrl := ea.1
        have hCc := lt_of_get hcC
        repeat fail
        refine RE_len (seq_ref hcC) ?_
        repeat fail
        refine cj_if (fun c1 => ?_) (fun c1 => ?_)
        · repeat fail
          match cs, rs, ea, hcC with
          | [c], [r], ea, hcC =>
            refine RE_get1 (j := 0) (seq_ref hcC) rfl rfl ?_
            obtain ⟨n, rfl, _, hn, hr⟩ := ea.2 0 c r rfl rfl
            exact ⟨⟨n, rfl, by omega, hr⟩, kc⟩
          | [], _, ea, hcC => exact (hne rfl).elim
          | _ :: _ :: _, _, ea, hcC => rw [hrl] at c1; simp at c1; omega
          | [_], [], ea, hcC => cases hrl
          | [_], _ :: _ :: _, ea, hcC => simp at hrl
        · have hl2 : 2 ≤ cs.length := by
            have : cs.length ≠ 0 := fun z => hne (List.eq_nil_of_length_eq_zero z)
            omega
          have eAll : pats (k + 1) (.tup cs) = (cs.map (crows (pats k))).zipIdx.flatMap fun q => padR (((cs.map (crows (pats k))).map headLen).foldl max 0) q.2 q.1 := by
            show allR (cs.map (crows (pats k))) = _
            match cs, hl2 with
            | a :: b :: cs, _ => rfl
          rw [eAll]
          obtain ⟨M, hM⟩ : ∃ M, M = ((cs.map (crows (pats k))).map headLen).foldl max 0 := ⟨_, rfl⟩
          obtain ⟨css, hcss⟩ : ∃ css, css = cs.map (crows (pats k)) := ⟨_, rfl⟩
          have hM1 : M ≤ 1000 := by
            have e : (cs.map (crows (pats k))).map headLen = cs.map (csum (wd k)) := by
              rw [List.map_map]
              refine List.map_congr_left fun c hcm => ?_
              obtain ⟨fs, rfl, _, _, hgp, _⟩ := gp c hcm
              exact head_len hgp
            have e2 : wd (k + 1) (.tup cs) = wcs (cs.map (csum (wd k))) := rfl
            rw [hM, e]
            rw [e2] at hw
            match cs, hl2, hw with
            | a :: b :: cs, _, hw =>
              have e3 : wcs ((a :: b :: cs).map (csum (wd k))) = 1 + ((a :: b :: cs).map (csum (wd k))).foldl max 0 := rfl
              omega
          repeat fail
          refine RE_seq (seq_ref hcC) ?_
          refine LC_map (lenAt hc) rs (by omega) (fun h2 k2 j => draw_ref (k2.get hcC id) j) (fun x hx h2 k2 => ?_) (fun hF kF acF => ?_)
          · dsimp only [List.set]
            obtain ⟨j, hj⟩ := List.getElem?_of_mem hx
            have hj2 : j < cs.length := by have := (List.getElem?_eq_some_iff.mp hj).1; omega
            obtain ⟨n, rfl, _, hn, hr⟩ := ea.2 j _ _ (List.getElem?_eq_getElem hj2) hj
            obtain ⟨fs, e, _, _, hgp, _⟩ := gp _ (List.getElem_mem hj2)
            rw [e] at hr
            obtain ⟨cn, _⟩ := crow_len hgp
            cases q : crows (pats k) (.tup fs) with
            | nil => exact (cn q).elim
            | cons r0 rs0 =>
              rw [q] at hr
              repeat fail
              refine RE_get1 (xs := tds (r0 :: rs0)) (j := 0) (y := toD r0) (seq_ref (k2.get hr id)) (ixOf_nat (by simp)) rfl ?_
              repeat fail
              refine ⟨.refl, ?_⟩
              unfold lenAt
              dsimp only
              rw [hr]; rfl
          · have eL : rs.map (lenAt hc) = (css.map headLen).map fun w => D.int (w : Nat) := by
              apply List.ext_getElem?
              intro j
              rw [hcss]
              simp only [List.getElem?_map]
              by_cases hj : j < cs.length
              · have hj' : j < rs.length := by omega
                obtain ⟨n, e1, _, hn, hr⟩ := ea.2 j _ _ (List.getElem?_eq_getElem hj) (List.getElem?_eq_getElem hj')
                rw [List.getElem?_eq_getElem hj, List.getElem?_eq_getElem hj', e1]
                obtain ⟨fs, e, _, _, hgp, _⟩ := gp _ (List.getElem_mem hj)
                obtain ⟨cn, _⟩ := crow_len hgp
                rw [e] at hr ⊢
                cases q : crows (pats k) (.tup fs) with
                | nil => exact (cn q).elim
                | cons r0 rs0 =>
                  rw [q] at hr
                  show some (lenAt hc (.ref n)) = some (D.int ((headLen (crows (pats k) (.tup fs)) : Nat) : Int))
                  rw [q]
                  unfold lenAt
                  dsimp only
                  rw [hr]
                  simp [headLen, toD]
              · rw [List.getElem?_eq_none (by omega), List.getElem?_eq_none (by omega)]; rfl
            rw [eL] at acF
            have hcl : css.length = cs.length := by rw [hcss, List.length_map]
            match hh : css.map headLen with
            | [] =>
              have := congrArg List.length hh
              rw [List.length_map, List.length_nil] at this
              omega
            | w0 :: ws =>
              rw [hh] at acF
              repeat fail
              refine RE_max1 (i := (w0 : Nat)) (is := ws.map fun w => ((w : Nat) : Int)) (by rw [acF]; simp [Function.comp_def]) ?_
              rw [foldmax_cast]
              have eM : ws.foldl max w0 = M := by
                rw [hM, ← hcss, hh]
                simp
              rw [eM]
              repeat fail
              dsimp only [List.set]
              obtain ⟨O, hO⟩ : ∃ O, O = hF.length := ⟨_, rfl⟩
              rw [← hO]
              have kcF : Kp no1 h hF := kc.trans kF
              have hFC := kF.get hcC id
              have hFC2 : (hF ++ [AO.lst []])[C]? = some (.lst rs) := (Kp.app (S := no1) _).get hFC id
              refine RE_len (seq_ref hFC2) ?_
              repeat fail
              try ((with_reducible refine RE_rng ?_ ?_); (focus (omega)))
              rw [← hM]
              rw [← hcss] at hpl ⊢
              have tl : ∀ i, ((css.zipIdx.take i).flatMap fun q => padR M q.2 q.1).length ≤ 1000 := fun i => by
                have e1 := zipIdx_len M css 0
                rw [← List.take_append_drop i css.zipIdx, List.flatMap_append, List.length_append] at e1
                omega
              refine FW_inv (rng 0 rs.length) (fun i σ he => ∃ y5 y10, σ = [some (.tup cs), some (.ref C), x2, some (.int (M : Nat)), some (.ref O), y5, x6, x7, x8, x9, y10, x11] ∧ Kp no1 hF he ∧ he[O]? = some (.lst (tds ((css.zipIdx.take i).flatMap fun q => padR M q.2 q.1)))) (by rw [rng_len]; exact lt_wf (by omega)) ⟨_, _, rfl, .app _, by rw [hO]; simp [tds]⟩ (fun i σ h _ _ => draw_rng i) (fun i x σ he hx hI => ?_) (fun σ he hI => ?_)
              · obtain ⟨y5, y10, rfl, ke, heO⟩ := hI
                obtain ⟨rfl, hi⟩ := rng_get hx
                refine ⟨_, rfl, ?_⟩
                unfold l15_0
                have hi' : i < cs.length := by omega
                obtain ⟨n, e1, _, hn, hr⟩ := ea.2 i _ _ (List.getElem?_eq_getElem hi') (List.getElem?_eq_getElem hi)
                obtain ⟨fs, e, _, _, hgp, hws, hrl2⟩ := gp _ (List.getElem_mem hi')
                have hcr : css[i]? = some (crows (pats k) (.tup fs)) := by rw [hcss, List.getElem?_map, List.getElem?_eq_getElem hi', e]; rfl
                have hz : css.zipIdx[i]? = some (crows (pats k) (.tup fs), i) := by rw [List.getElem?_zipIdx, hcr]; simp
                rw [e] at hr
                have hen : he[n]? = some (.lst (tds (crows (pats k) (.tup fs)))) := ke.get (kF.get hr id) id
                have heC : he[C]? = some (.lst rs) := ke.get hFC id
                obtain ⟨cn, cln⟩ := crow_len hgp
                obtain ⟨RS, hRS⟩ : ∃ RS, RS = crows (pats k) (.tup fs) := ⟨_, rfl⟩
                rw [← hRS] at hen hz cn cln
                have hRl : RS.length ≤ 1000 := by rw [hRS]; exact hrl2
                repeat fail
                dsimp only [List.set]
                refine RE_get1 (xs := rs) (j := i) (seq_ref heC) (by rw [show (0 + (i : Int)) = (i : Int) by omega]; exact ixOf_nat hi) (List.getElem?_eq_getElem hi) ?_
                rw [e1]
                repeat fail
                refine RE_seq (seq_ref hen) ?_
                refine LC_map (fun x => match x with | .tup ys => .tup ((D.int (0 + (i : Int)) :: ys) ++ (List.replicate ((M : Int) - ys.length).toNat [D.int 0]).flatten) | _ => .non) (tds RS) (by simp; omega) (fun h4 k4 j => draw_ref (k4.get hen id) j) (fun x hx4 h4 k4 => ?_) (fun hG kG acG => ?_)
                · obtain ⟨one, ho, rfl⟩ := List.mem_map.mp hx4
                  have hol : one.length ≤ 1000 := by
                    have := cln one ho
                    have e4 : csum (wd k) (.tup fs) = (fs.map (wd k)).sum := rfl
                    omega
                  dsimp only [List.set]
                  repeat fail
                  refine RE_cat (xs := [D.int (0 + (i : Int))]) (ys := one.map toO) (by simp; omega) ?_
                  repeat fail
                  refine RE_repT (by rw [List.length_map]; omega) (by simp) ?_
                  refine RE_cat (by simp; omega) ⟨.refl, ?_⟩
                  simp [toD]
                · repeat fail
                  have hGO := kG.get heO id
                  have eG : (tds RS).map (fun x => match x with | .tup ys => D.tup ((D.int (0 + (i : Int)) :: ys) ++ (List.replicate ((M : Int) - ys.length).toNat [D.int 0]).flatten) | _ => .non) = tds (padR M i RS) := by
                    unfold padR
                    simp only [tds, List.map_map]
                    refine List.map_congr_left fun r _ => ?_
                    simp only [Function.comp_def, toD, List.map_append, List.map_cons, List.map_replicate, toO, List.length_map]
                    congr 2
                    · simp
                    · have : ((M : Int) - (r.length : Int)).toNat = M - r.length := by omega
                      rw [this]
                      simp
                  rw [eG] at acG
                  have t1 := tl i
                  have hpad : (padR M i RS).length = RS.length := by simp [padR]
                  refine RE_extend hGO acG (by rw [List.length_map, List.length_map, hpad]; omega) ?_
                  repeat fail
                  refine ⟨_, _, rfl, (ke.trans kG).set (.inr (by omega)) _, ?_⟩
                  rw [List.getElem?_set_self (lt_of_get hGO), take_snoc hz]
                  simp [tds]
              · obtain ⟨y5, y10, rfl, ke, heO⟩ := hI
                rw [rng_len, List.take_of_length_le (by simp; omega)] at heO
                repeat fail
                exact ⟨⟨O, rfl, by have := kcF.1; omega, heO⟩, kcF.trans ke⟩
end Q07
end
section
set_option Elab.async false
set_option linter.all false
set_option maxRecDepth 100000
set_option maxHeartbeats 4000000
namespace Q07
open Ly
open K07 (m f17 c17 l17_0 l17_1 f18 c18 l18_0)
local macro_rules | `(tactic| fail) => `(tactic| first | (with_reducible first
  | refine W_seq ?_ | refine W_ret ?_ | refine W_set ?_ | refine W_asg ?_ | refine W_if ?_ | refine W_skip ?_ | refine W_ex ?_ | refine W_setI ?_ | refine W_aug (by with_unfolding_all exact rfl) ?_ | refine W_retN ?_ | refine W_for ?_ | refine W_raise ?_
  | refine E_var (by with_unfolding_all exact rfl) ?_ | refine E_cst ?_ | refine E_bop ?_ | refine E_cmp ?_ | refine E_chn ?_ | refine E_neg ?_ | refine E_not ?_ | refine E_and ?_ | refine E_or ?_ | refine E_ite ?_ | refine E_tr ?_ | refine E_tup ?_ | refine E_lst ?_ | refine E_call ?_ | refine E_bi ?_ | refine E_mth ?_ | refine E_isi ?_ | refine E_sub ?_ | refine E_slc ?_ | refine E_itr ?_ | refine E_lc ?_ | refine EA_cons ?_ | refine EA_nil ?_
  | refine asg_go (by with_unfolding_all exact rfl) ?_ | refine tup_go (by simp) ?_ | refine isi_go (by with_unfolding_all exact rfl) ?_ | refine tr_b ?_ | refine bl_1 ?_ | refine neg_go ?_
  | refine RE_add ?_ | refine RE_sub ?_ | refine RE_lt ?_ | refine RE_le ?_ | refine RE_gt ?_ | refine RE_ge ?_ | refine RE_eqI ?_ | refine RE_neI ?_ | refine RE_eqS ?_ | refine RE_neS ?_
  | refine RE_len0 ?_ | refine RE_len1 ?_ | refine RE_seq0 ?_ | refine RE_int ?_ | refine RE_intb ?_ | refine RE_is0 ?_ | refine RE_is1 ?_ | refine RE_is2 ?_ | refine RE_is3 ?_ | refine RE_is4 ?_ | refine RE_is5 ?_ | refine RE_in0 ?_ | refine RE_in1 ?_ | refine RE_in2 ?_ | refine RE_in3 ?_ | refine RE_in4 ?_ | refine RE_in5 ?_ | refine RE_isB ?_ | refine RE_inB ?_ | refine RE_augA ?_ | refine RE_max2 ?_ | refine lst_go (by first | (with_unfolding_all exact rfl) | exact isLst_of (by assumption)) ?_) | ((with_reducible refine RE_mod ?_ ?_); (focus omega)) | ((with_reducible refine RE_div ?_ ?_); (focus omega)) | ((with_reducible refine RE_mul ?_ ?_); (focus exact mulOkR _ _ (by unfold two64; omega))) | ((with_reducible refine RE_pow ?_ ?_); (focus decide)) | ((with_reducible refine RE_rng ?_ ?_); (focus omega)))
theorem mt_iff {r : Row} {ws : List Int} (hl : r.length = ws.length) : mt r ws ↔ ∀ (j : Nat) (o : Option Int) (x : Int), r[j]? = some o → ws[j]? = some x → o = none ∨ o = some x := by
  unfold mt
  constructor
  · rintro ⟨_, h⟩ j o x ho hx
    exact h (o, x) (List.mem_iff_getElem?.mpr ⟨j, by rw [List.getElem?_zip_eq_some]; exact ⟨ho, hx⟩⟩)
  · intro h
    refine ⟨hl, fun q hq => ?_⟩
    obtain ⟨j, hj⟩ := List.mem_iff_getElem?.mp hq
    rw [List.getElem?_zip_eq_some] at hj
    exact h j q.1 q.2 hj.1 hj.2
theorem s17 {k N P : Nat} {d v : D} {h : AH} (hs : isS k d) (hw : wd k d ≤ 1000) (hp : (pats k d).length ≤ 1000) (hP : h[P]? = some (.lst (tds (pats k d)))) (hv : Tyd 1 h v) (hN : 2 ≤ N) : RE (cf N 17 [.ref P, v] h) (fun r h' => r = .bl (isV k d v) ∧ Kp no1 h h') noX := by
  obtain ⟨N, rfl⟩ : ∃ M, N = M + 1 := ⟨N - 1, by omega⟩
  refine cF_wp (d := f17.df) rfl rfl ?_
  show W _ c17 [some (.ref P), some v, none, none, none] h _
  unfold c17
  have gp := (isS_good k hs).2
  obtain ⟨ps, hps⟩ : ∃ ps, ps = pats k d := ⟨_, rfl⟩
  have ne := gp.ne
  have ln := gp.ln
  rw [← hps] at hp hP ne ln
  cases v with
  | tup xs =>
    repeat fail
    refine cj_f rfl ?_
    repeat fail
    cases ps with
    | nil => exact (ne rfl).elim
    | cons r0 ps0 =>
    have hr0 := ln r0 (by simp)
    refine RE_get1 (xs := tds (r0 :: ps0)) (j := 0) (y := toD r0) (seq_ref hP) (ixOf_nat (by simp)) rfl ?_
    repeat fail
    refine RE_len (xs := r0.map toO) rfl ?_
    repeat fail
    have hr0' : (r0.map toO).length = wd k d := by rw [List.length_map]; exact hr0
    by_cases c : xs.length = wd k d
    · refine cj_f (by rw [hr0', c]; simp) ?_
      repeat fail
      have e0 : isV k d (.tup xs) = (match asWords xs with
            | some ws => (nst k d ws 0).isSome
            | none => false) := by
          unfold isV valW
          dsimp only
          rw [if_pos c]
          try rfl
      refine FW_inv xs (fun i σ hc => ∃ x2, σ = [some (.ref P), some (.tup xs), x2, none, none] ∧ hc = h ∧ ∀ x ∈ xs.take i, isW x = true) (lt_wf (by omega)) ⟨_, rfl, rfl, fun x hx => by simp at hx⟩ (fun i σ hc hI hi => rfl) (fun i x σ hc hx hI => ?_) (fun σ hc hI => ?_)
      · obtain ⟨x2, rfl, rfl, hI⟩ := hI
        refine ⟨_, rfl, ?_⟩
        unfold l17_1
        repeat fail
        dsimp only [List.set]
        obtain ⟨t, ht⟩ := (hv.2 xs rfl x (List.mem_of_getElem? hx)).ty
        refine (s16 ht (by omega)).any fun r h5 ⟨e1, e2⟩ => ?_
        subst e1 e2
        repeat fail
        cases q : isW x with
        | false =>
          refine cj_t rfl ?_
          repeat fail
          refine ⟨?_, .refl⟩
          rw [e0]
          have z := asWords_all (ds := xs)
          cases q2 : asWords xs with
          | none => rfl
          | some ws =>
            rw [q2] at z
            have := List.all_eq_true.mp z (isW x) (List.mem_map_of_mem (List.mem_of_getElem? hx))
            rw [q] at this
            cases this
        | true =>
          refine cj_f rfl ?_
          repeat fail
          refine ⟨_, rfl, rfl, fun y hy => ?_⟩
          rw [take_snoc hx] at hy
          rcases List.mem_append.mp hy with hy | hy
          · exact hI y hy
          · have : y = x := by simpa using hy
            rw [this]; exact q
      · obtain ⟨x2, rfl, eh, hI⟩ := hI
        rw [eh]
        rw [List.take_length] at hI
        have z := asWords_all (ds := xs)
        have z2 : (xs.map isW).all id = true := by
          rw [List.all_eq_true]
          intro b hb
          obtain ⟨x, hx, rfl⟩ := List.mem_map.mp hb
          exact hI x hx
        rw [z2] at z
        obtain ⟨ws, hws⟩ := Option.isSome_iff_exists.mp z.symm
        rw [hws] at e0
        dsimp only at e0
        obtain ⟨e1, hww⟩ := asWords_eq hws
        subst e1
        rw [zs_len] at c
        have fit := gp.fit ws 0 hww (by omega)
        rw [← c, sl_all, ← hps] at fit
        repeat fail
        refine RE_seq (seq_ref hP) ?_
        refine FW_inv (tds (r0 :: ps0)) (fun i σ hc => ∃ x2 x3, σ = [some (.ref P), some (.tup (zs ws)), x2, x3, none] ∧ Kp no1 h hc ∧ ∀ r ∈ (r0 :: ps0).take i, ¬ mt r ws) (lt_wf (by rw [List.length_map]; omega)) ⟨_, _, rfl, .refl, fun x hx => by simp at hx⟩ (fun i σ hc hI hi => by obtain ⟨_, _, rfl, kc, _⟩ := hI; exact draw_ref (kc.get hP id) i) (fun i x σ hc hx hI => ?_) (fun σ hc hI => ?_)
        · obtain ⟨x2, x3, rfl, kc, hI⟩ := hI
          rw [List.getElem?_map] at hx
          cases q : (r0 :: ps0)[i]? with
          | none => rw [q] at hx; cases hx
          | some r =>
            rw [q] at hx
            cases hx
            refine ⟨_, rfl, ?_⟩
            unfold l17_0
            have hrl : r.length = ws.length := by rw [ln r (List.mem_of_getElem? q), c]
            repeat fail
            dsimp only [List.set]
            refine RE_len (xs := r.map toO) rfl ?_
            repeat fail
            try ((with_reducible refine RE_rng ?_ ?_); (focus (rw [List.length_map]; omega)))
            refine LC_keep no1 (fun _ => True) (fun n ys => ys = [] ↔ ∀ (j : Nat) (o : Option Int) (x : Int), j < n → r[j]? = some o → ws[j]? = some x → o = none ∨ o = some x) (rng 0 (r.map toO).length) (by rw [rng_len]; exact lt_wf (by rw [List.length_map]; omega)) (by rw [rng_len, List.length_map]; omega) id (fun _ _ _ => trivial) trivial (by simp) (fun h2 k2 _ i hi => draw_rng i) (fun i2 x ys h2 hx2 hY k2 _ ac => ?_) (fun ys hF hY kF _ acF => ?_)
            · obtain ⟨rfl, hi2⟩ := rng_get hx2
              rw [List.length_map] at hi2
              refine ⟨_, rfl, ?_⟩
              dsimp only [List.set, wipeD, slots, List.foldl]
              have g1 : r[i2]? = some r[i2] := List.getElem?_eq_getElem hi2
              have hi3 : i2 < ws.length := by omega
              have g2 : ws[i2]? = some ws[i2] := List.getElem?_eq_getElem hi3
              have ei : (0 + (i2 : Int)) = (i2 : Int) := by omega
              have step : ((∀ (j : Nat) (o : Option Int) (x : Int), j < i2 + 1 → r[j]? = some o → ws[j]? = some x → o = none ∨ o = some x) ↔ (∀ (j : Nat) (o : Option Int) (x : Int), j < i2 → r[j]? = some o → ws[j]? = some x → o = none ∨ o = some x) ∧ (r[i2] = none ∨ r[i2] = some ws[i2])) := by
                constructor
                · intro z
                  exact ⟨fun j o x hj => z j o x (by omega), z i2 _ _ (by omega) g1 g2⟩
                · rintro ⟨z1, z2⟩ j o x hj ho hx
                  by_cases c : j = i2
                  · subst c
                    rw [g1] at ho; rw [g2] at hx
                    cases ho; cases hx
                    exact z2
                  · exact z1 j o x (by omega) ho hx
              repeat fail
              refine RE_get1 (xs := r.map toO) (j := i2) (y := toO r[i2]) rfl (by rw [ei]; exact ixOf_nat (by rw [List.length_map]; exact hi2)) (by rw [List.getElem?_map, g1]; rfl) ?_
              cases q3 : r[i2] with
              | none =>
                rw [q3] at step
                repeat fail
                refine RE_in0 ?_
                repeat fail
                refine cj_f rfl ?_
                refine ⟨.refl, trivial, .inl ⟨rfl, ?_⟩⟩
                rw [step, hY]
                simp
              | some o =>
                rw [q3] at step
                repeat fail
                refine RE_in1 ?_
                repeat fail
                refine cj_t rfl ?_
                repeat fail
                refine RE_get1 (xs := r.map toO) (j := i2) (y := toO r[i2]) rfl (by rw [ei]; exact ixOf_nat (by rw [List.length_map]; exact hi2)) (by rw [List.getElem?_map, g1]; rfl) ?_
                rw [q3]
                repeat fail
                refine RE_get1 (xs := zs ws) (j := i2) rfl (by rw [ei]; exact ixOf_nat (by rw [zs_len]; exact hi3)) (zs_get g2) ?_
                repeat fail
                refine ⟨.refl, trivial, ?_⟩
                by_cases c3 : o = ws[i2]
                · refine .inl ⟨by rw [eqv_int, decide_eq_true c3]; rfl, ?_⟩
                  rw [step, hY]
                  simp [c3]
                · refine .inr ⟨by rw [eqv_int, decide_eq_false c3]; rfl, ?_⟩
                  repeat fail
                  refine ⟨.refl, trivial, ?_⟩
                  rw [step]
                  simp [c3]
            · repeat fail
              refine RE_len (seq_ref acF) ?_
              repeat fail
              have hY' : ys = [] ↔ mt r ws := by
                rw [mt_iff hrl, hY]
                rw [rng_len, List.length_map]
                constructor
                · intro z j o x ho hx
                  exact z j o x (List.getElem?_eq_some_iff.mp ho).1 ho hx
                · intro z j o x _ ho hx
                  exact z j o x ho hx
              refine cj_if (fun c3 => ?_) (fun c3 => ?_)
              · repeat fail
                have : ys = [] := List.eq_nil_of_length_eq_zero (by omega)
                refine ⟨?_, kc.trans kF⟩
                rw [e0, fit.mp ⟨r, List.mem_of_getElem? q, hY'.mp this⟩]
              · repeat fail
                refine ⟨_, _, rfl, kc.trans kF, fun y hy => ?_⟩
                rw [take_snoc q] at hy
                rcases List.mem_append.mp hy with hy | hy
                · exact hI y hy
                · have : y = r := by simpa using hy
                  subst this
                  intro z
                  rw [hY'.mpr z] at c3
                  exact c3 rfl
        · obtain ⟨x2, x3, rfl, kc, hI⟩ := hI
          rw [List.length_map, List.take_length] at hI
          repeat fail
          refine ⟨?_, kc⟩
          rw [e0]
          cases q : (nst k d ws 0).isSome with
          | false => rfl
          | true =>
            obtain ⟨r, hr, z⟩ := fit.mpr q
            exact (hI r hr z).elim
    · refine cj_t ?_ ?_
      · rw [hr0', Bool.not_eq_true', decide_eq_false_iff_not]; omega
      repeat fail
      refine ⟨?_, .refl⟩
      unfold isV valW
      dsimp only
      rw [if_neg c]
  | ref n =>
    repeat fail
    obtain ⟨t, ht⟩ := hv.ty
    refine isi_go ht ?_
    have e : (List.any [Bt.tuple] fun n => t.sub n) = false := by simp [(ref_ty ht).1]
    rw [e]
    repeat fail
    refine cj_t rfl ?_
    repeat fail
    refine cj_t rfl ?_
    repeat fail
    exact ⟨rfl, .refl⟩
  | it => obtain ⟨t, ht⟩ := hv.ty; cases ht
  | _ =>
    repeat fail
    refine cj_t rfl ?_
    repeat fail
    refine cj_t rfl ?_
    repeat fail
    exact ⟨rfl, .refl⟩
end Q07
end
section
set_option Elab.async false
set_option linter.all false
set_option maxRecDepth 100000
set_option maxHeartbeats 4000000
namespace Q07
open Ly
open K07 (m f18 c18 l18_0 f19 c19 l19_0)
local macro_rules | `(tactic| fail) => `(tactic| first | (with_reducible first
  | refine W_seq ?_ | refine W_ret ?_ | refine W_set ?_ | refine W_asg ?_ | refine W_if ?_ | refine W_skip ?_ | refine W_ex ?_ | refine W_setI ?_ | refine W_aug (by with_unfolding_all exact rfl) ?_ | refine W_retN ?_ | refine W_for ?_ | refine W_raise ?_
  | refine E_var (by with_unfolding_all exact rfl) ?_ | refine E_cst ?_ | refine E_bop ?_ | refine E_cmp ?_ | refine E_chn ?_ | refine E_neg ?_ | refine E_not ?_ | refine E_and ?_ | refine E_or ?_ | refine E_ite ?_ | refine E_tr ?_ | refine E_tup ?_ | refine E_lst ?_ | refine E_call ?_ | refine E_bi ?_ | refine E_mth ?_ | refine E_isi ?_ | refine E_sub ?_ | refine E_slc ?_ | refine E_itr ?_ | refine E_lc ?_ | refine EA_cons ?_ | refine EA_nil ?_
  | refine asg_go (by with_unfolding_all exact rfl) ?_ | refine tup_go (by simp) ?_ | refine isi_go (by with_unfolding_all exact rfl) ?_ | refine tr_b ?_ | refine bl_1 ?_ | refine neg_go ?_
  | refine RE_add ?_ | refine RE_sub ?_ | refine RE_lt ?_ | refine RE_le ?_ | refine RE_gt ?_ | refine RE_ge ?_ | refine RE_eqI ?_ | refine RE_neI ?_ | refine RE_eqS ?_ | refine RE_neS ?_
  | refine RE_len0 ?_ | refine RE_len1 ?_ | refine RE_seq0 ?_ | refine RE_int ?_ | refine RE_intb ?_ | refine RE_is0 ?_ | refine RE_is1 ?_ | refine RE_is2 ?_ | refine RE_is3 ?_ | refine RE_is4 ?_ | refine RE_is5 ?_ | refine RE_in0 ?_ | refine RE_in1 ?_ | refine RE_in2 ?_ | refine RE_in3 ?_ | refine RE_in4 ?_ | refine RE_in5 ?_ | refine RE_isB ?_ | refine RE_inB ?_ | refine RE_augA ?_ | refine RE_max2 ?_ | refine lst_go (by first | (with_unfolding_all exact rfl) | exact isLst_of (by assumption)) ?_) | ((with_reducible refine RE_mod ?_ ?_); (focus omega)) | ((with_reducible refine RE_div ?_ ?_); (focus omega)) | ((with_reducible refine RE_mul ?_ ?_); (focus exact mulOkR _ _ (by unfold two64; omega))) | ((with_reducible refine RE_pow ?_ ?_); (focus decide)) | ((with_reducible refine RE_rng ?_ ?_); (focus omega)))
theorem flts_some {F : D → D → Option (List Int)} : ∀ {fs vs : List D}, vs.length = fs.length → ((flts F fs vs).isSome = true ↔ ∀ (j : Nat) f v, fs[j]? = some f → vs[j]? = some v → (F f v).isSome = true)
  | [], [], _ => by simp [flts]
  | [], _ :: _, h => by cases h
  | _ :: _, [], h => by cases h
  | f :: fs, v :: vs, h => by
    have ih := flts_some (F := F) (fs := fs) (vs := vs) (by simpa using h)
    unfold flts
    constructor
    · intro z j g u hg hu
      cases q : F f v with
      | none => rw [q] at z; cases z
      | some ws =>
        rw [q] at z
        dsimp only at z
        rw [Option.isSome_map] at z
        cases j with
        | zero => cases hg; cases hu; rw [q]; rfl
        | succ j => exact ih.mp z j g u hg hu
    · intro z
      have z0 := z 0 f v rfl rfl
      obtain ⟨ws, q⟩ := Option.isSome_iff_exists.mp z0
      rw [q]
      dsimp only
      rw [Option.isSome_map]
      exact ih.mpr fun j g u hg hu => z (j + 1) g u hg hu
theorem flts_snoc {F : D → D → Option (List Int)} : ∀ {fs vs : List D} {f v : D} {ws us : List Int}, flts F fs vs = some ws → F f v = some us → flts F (fs ++ [f]) (vs ++ [v]) = some (ws ++ us)
  | [], [], f, v, ws, us, h, e => by
    cases h
    simp [flts, e]
  | [], _ :: _, _, _, _, _, h, _ => by cases h
  | _ :: _, [], _, _, _, _, h, _ => by cases h
  | g :: fs, u :: vs, f, v, ws, us, h, e => by
    unfold flts at h
    cases q : F g u with
    | none => rw [q] at h; cases h
    | some w1 =>
      rw [q] at h
      dsimp only at h
      cases q2 : flts F fs vs with
      | none => rw [q2] at h; cases h
      | some w2 =>
        rw [q2] at h
        cases h
        show (match F g u with
          | none => none
          | some ws => (flts F (fs ++ [f]) (vs ++ [v])).map (ws ++ ·)) = _
        rw [q, flts_snoc q2 e]
        simp
theorem s18 : ∀ (k : Nat) {N : Nat} {d v : D} {h : AH}, isS k d → k ≤ 30 → k + 1 ≤ N → Tyd (2 * k) h v → RE (cf N 18 [d, v] h) (fun r h' => r = .bl (flt k d v).isSome ∧ Kp no1 h h') noX
  | 0, _, _, _, _, hs, _, _, _ => hs.elim
  | k + 1, N, d, v, h, hs, hk, hN, hv => by
    obtain ⟨N, rfl⟩ : ∃ M, N = M + 1 := ⟨N - 1, by omega⟩
    refine cF_wp (d := f18.df) rfl rfl ?_
    show W _ c18 [some d, some v, none, none] h _
    unfold c18
    repeat fail
    refine RE_word hs hk (fun e => ?_) (fun cs e => ?_)
    · subst e
      refine bl_t rfl ?_
      repeat fail
      obtain ⟨t, ht⟩ := hv.ty
      refine (s16 ht (by omega)).any fun r h5 ⟨e1, e2⟩ => ?_
      subst e1 e2
      refine ⟨?_, .refl⟩
      show D.bl (isW v) = .bl (match asInt v with
        | some i => if isWd i then some [i] else none
        | none => none : Option (List Int)).isSome
      cases v with
      | int i =>
        show D.bl (decide (isWd i)) = .bl (if isWd i then some [i] else none : Option (List Int)).isSome
        by_cases c : isWd i
        · rw [if_pos c, decide_eq_true c]; rfl
        · rw [if_neg c, decide_eq_false c]; rfl
      | _ => rfl
    · subst e
      have hs' : cs ≠ [] ∧ cs.length ≤ 1000 ∧ ∀ c ∈ cs, ∃ fs, c = .tup fs ∧ fs.length ≤ 1000 ∧ ∀ f ∈ fs, isS k f := hs
      obtain ⟨hne, hlen, hc⟩ := hs'
      refine bl_f rfl ?_
      have no : asPair v = none → ∀ {h' : AH}, Kp no1 h h' → (D.bl false = .bl (flt (k + 1) (.tup cs) v).isSome ∧ Kp no1 h h') := fun e _ kp => by
        refine ⟨?_, kp⟩
        unfold flt
        rw [e]; rfl
      cases v with
      | ref n =>
        repeat fail
        obtain ⟨t, ht⟩ := hv.ty
        refine isi_go ht ?_
        have e : (List.any [Bt.tuple] fun n => t.sub n) = false := by simp [(ref_ty ht).1]
        rw [e]
        repeat fail
        refine cj_t rfl ?_
        repeat fail
        refine cj_t rfl ?_
        repeat fail
        exact no rfl .refl
      | it => obtain ⟨t, ht⟩ := hv.ty; cases ht
      | tup xs =>
        have hx : ∀ x ∈ xs, Tyd (2 * k + 1) h x := hv.2 xs rfl
        repeat fail
        refine cj_f rfl ?_
        repeat fail
        match xs, hx, no with
        | [x, y], hx, no =>
          refine cj_f rfl ?_
          repeat fail
          refine RE_get1 (j := 0) rfl rfl rfl ?_
          repeat fail
          obtain ⟨t, ht⟩ := (hx x (by simp)).ty
          refine (s16 ht (by omega)).any fun r h5 ⟨e1, e2⟩ => ?_
          subst e1 e2
          repeat fail
          cases q : isW x with
          | false =>
            refine cj_t rfl ?_
            repeat fail
            refine cj_t rfl ?_
            repeat fail
            refine ⟨?_, .refl⟩
            cases q4 : asPair (.tup [x, y]) with
            | none => exact (no q4 .refl).1
            | some cv =>
              obtain ⟨c, vs⟩ := cv
              have e := asPair_eq q4
              cases e
              unfold flt
              dsimp only [asPair]
              have q : decide (isWd c) = false := q
              rw [if_neg]
              · rfl
              · intro z
                have q := of_decide_eq_false q
                exact q ⟨z.1, by omega⟩
          | true =>
            refine cj_f rfl ?_
            repeat fail
            refine RE_get1 (j := 0) rfl rfl rfl ?_
            cases x with
            | int c =>
              have qc : isWd c := of_decide_eq_true q
              repeat fail
              refine cj_if (fun c1 => ?_) (fun c1 => ?_)
              · repeat fail
                refine ⟨?_, .refl⟩
                cases y with
                | tup vs =>
                  unfold flt
                  dsimp only [asPair]
                  rw [if_neg]
                  · rfl
                  · omega
                | _ => exact (no rfl .refl).1
              · repeat fail
                have hcl : c.toNat < cs.length := by have := qc.1; omega
                have ec : ((c.toNat : Nat) : Int) = c := Int.toNat_of_nonneg qc.1
                refine RE_get1 (j := 0) rfl rfl rfl ?_
                refine RE_get1 (xs := cs) (j := c.toNat) rfl (by rw [← ec]; simp only [Int.toNat_natCast]; exact ixOf_nat hcl) (List.getElem?_eq_getElem hcl) ?_
                obtain ⟨fs, efs, hfl, hf⟩ := hc _ (List.getElem_mem hcl)
                rw [efs]
                have hcf : cs[c.toNat]? = some (.tup fs) := by rw [List.getElem?_eq_getElem hcl, efs]
                repeat fail
                dsimp only [List.set]
                refine RE_get1 (j := 1) rfl rfl rfl ?_
                have hy := hx y (by simp)
                cases y with
                | ref n =>
                  repeat fail
                  obtain ⟨t, ht⟩ := hy.ty
                  refine isi_go ht ?_
                  have e : (List.any [Bt.tuple] fun n => t.sub n) = false := by simp [(ref_ty ht).1]
                  rw [e]
                  repeat fail
                  refine cj_t rfl ?_
                  repeat fail
                  refine cj_t rfl ?_
                  repeat fail
                  exact no rfl .refl
                | it => obtain ⟨t, ht⟩ := hy.ty; cases ht
                | tup vs =>
                  have hvt := hy.2 vs rfl
                  have hfe : (flt (k + 1) (.tup cs) (.tup [.int c, .tup vs])).isSome = (if vs.length = fs.length then (flts (flt k) fs vs).isSome else false) := by
                    unfold flt
                    dsimp only [asPair]
                    have z : 0 ≤ c ∧ c < cs.length := by have := qc.1; omega
                    rw [if_pos z, hcf]
                    dsimp only
                    split
                    · rw [Option.isSome_map]
                    · rfl
                  repeat fail
                  refine cj_f rfl ?_
                  repeat fail
                  refine RE_get1 (j := 1) rfl rfl rfl ?_
                  repeat fail
                  by_cases c2 : vs.length = fs.length
                  · rw [if_pos c2] at hfe
                    refine cj_f (by rw [c2]; simp) ?_
                    repeat fail
                    try ((with_reducible refine RE_rng ?_ ?_); (focus (omega)))
                    refine FW_inv (rng 0 fs.length) (fun i σ hc => ∃ x3, σ = [some (.tup cs), some (.tup [.int c, .tup vs]), some (.tup fs), x3] ∧ Kp no1 h5 hc ∧ ∀ (j : Nat) f v, j < i → fs[j]? = some f → vs[j]? = some v → (flt k f v).isSome = true) (by rw [rng_len]; exact lt_wf (by omega)) ⟨_, rfl, .refl, fun j _ _ hj => by omega⟩ (fun i σ h _ _ => draw_rng i) (fun i x σ hd hx2 hI => ?_) (fun σ hd hI => ?_)
                    · obtain ⟨x3, rfl, kd, hI⟩ := hI
                      obtain ⟨rfl, hi⟩ := rng_get hx2
                      refine ⟨_, rfl, ?_⟩
                      unfold l18_0
                      have ei : (0 + (i : Int)) = (i : Int) := by omega
                      have hi2 : i < vs.length := by omega
                      have g1 := List.getElem?_eq_getElem hi
                      have g2 := List.getElem?_eq_getElem hi2
                      repeat fail
                      dsimp only [List.set]
                      refine RE_get1 (xs := fs) (j := i) rfl (by rw [ei]; exact ixOf_nat hi) g1 ?_
                      repeat fail
                      refine RE_get1 (j := 1) rfl rfl rfl ?_
                      repeat fail
                      refine RE_get1 (xs := vs) (j := i) rfl (by rw [ei]; exact ixOf_nat hi2) g2 ?_
                      repeat fail
                      refine (s18 k (hf _ (List.getElem_mem hi)) (by omega) (by omega) (Tyd.keep (Ls.of kd) (hvt _ (List.getElem_mem hi2)))).any fun r h5 ⟨e1, k5⟩ => ?_
                      subst e1
                      repeat fail
                      cases q6 : (flt k fs[i] vs[i]).isSome with
                      | false =>
                        refine cj_t rfl ?_
                        repeat fail
                        refine ⟨?_, kd.trans k5⟩
                        rw [hfe]
                        cases q7 : (flts (flt k) fs vs).isSome with
                        | false => rfl
                        | true =>
                          have := (flts_some c2).mp q7 i _ _ g1 g2
                          rw [q6] at this; cases this
                      | true =>
                        refine cj_f rfl ?_
                        repeat fail
                        refine ⟨_, rfl, kd.trans k5, fun j f v hj hf hv => ?_⟩
                        by_cases c5 : j = i
                        · subst c5
                          rw [g1] at hf; rw [g2] at hv
                          cases hf; cases hv
                          exact q6
                        · exact hI j f v (by omega) hf hv
                    · obtain ⟨x3, rfl, kd, hI⟩ := hI
                      rw [rng_len] at hI
                      repeat fail
                      refine ⟨?_, kd⟩
                      rw [hfe, (flts_some c2).mpr fun j f v hf hv => hI j f v (List.getElem?_eq_some_iff.mp hf).1 hf hv]
                  · rw [if_neg c2] at hfe
                    refine cj_t (by rw [Bool.not_eq_true', decide_eq_false_iff_not]; omega) ?_
                    repeat fail
                    exact ⟨by rw [hfe], .refl⟩
                | _ =>
                  repeat fail
                  refine cj_t rfl ?_
                  repeat fail
                  refine cj_t rfl ?_
                  repeat fail
                  exact no rfl .refl
            | _ => cases q
        | [], _, no =>
          refine cj_t rfl ?_
          repeat fail
          refine cj_t rfl ?_
          repeat fail
          exact no rfl .refl
        | [_], _, no =>
          refine cj_t rfl ?_
          repeat fail
          refine cj_t rfl ?_
          repeat fail
          exact no (by unfold asPair; split <;> rename_i z <;> first | (cases z; done) | rfl) .refl
        | _ :: _ :: _ :: rest, _, no =>
          refine cj_t (by simp; omega) ?_
          repeat fail
          refine cj_t rfl ?_
          repeat fail
          exact no (by unfold asPair; split <;> rename_i z <;> first | (cases z; done) | rfl) .refl
      | _ =>
        repeat fail
        refine cj_t rfl ?_
        repeat fail
        refine cj_t rfl ?_
        repeat fail
        exact no rfl .refl
end Q07
end
section
set_option Elab.async false
set_option linter.all false
set_option maxRecDepth 100000
set_option maxHeartbeats 4000000
namespace Q07
open Ly
open K07 (m f19 c19 l19_0 f20 c20)
local macro_rules | `(tactic| fail) => `(tactic| first | (with_reducible first
  | refine W_seq ?_ | refine W_ret ?_ | refine W_set ?_ | refine W_asg ?_ | refine W_if ?_ | refine W_skip ?_ | refine W_ex ?_ | refine W_setI ?_ | refine W_aug (by with_unfolding_all exact rfl) ?_ | refine W_retN ?_ | refine W_for ?_ | refine W_raise ?_
  | refine E_var (by with_unfolding_all exact rfl) ?_ | refine E_cst ?_ | refine E_bop ?_ | refine E_cmp ?_ | refine E_chn ?_ | refine E_neg ?_ | refine E_not ?_ | refine E_and ?_ | refine E_or ?_ | refine E_ite ?_ | refine E_tr ?_ | refine E_tup ?_ | refine E_lst ?_ | refine E_call ?_ | refine E_bi ?_ | refine E_mth ?_ | refine E_isi ?_ | refine E_sub ?_ | refine E_slc ?_ | refine E_itr ?_ | refine E_lc ?_ | refine EA_cons ?_ | refine EA_nil ?_
  | refine asg_go (by with_unfolding_all exact rfl) ?_ | refine tup_go (by simp) ?_ | refine isi_go (by with_unfolding_all exact rfl) ?_ | refine tr_b ?_ | refine bl_1 ?_ | refine neg_go ?_
  | refine RE_add ?_ | refine RE_sub ?_ | refine RE_lt ?_ | refine RE_le ?_ | refine RE_gt ?_ | refine RE_ge ?_ | refine RE_eqI ?_ | refine RE_neI ?_ | refine RE_eqS ?_ | refine RE_neS ?_
  | refine RE_len0 ?_ | refine RE_len1 ?_ | refine RE_seq0 ?_ | refine RE_int ?_ | refine RE_intb ?_ | refine RE_is0 ?_ | refine RE_is1 ?_ | refine RE_is2 ?_ | refine RE_is3 ?_ | refine RE_is4 ?_ | refine RE_is5 ?_ | refine RE_in0 ?_ | refine RE_in1 ?_ | refine RE_in2 ?_ | refine RE_in3 ?_ | refine RE_in4 ?_ | refine RE_in5 ?_ | refine RE_isB ?_ | refine RE_inB ?_ | refine RE_augA ?_ | refine RE_max2 ?_ | refine lst_go (by first | (with_unfolding_all exact rfl) | exact isLst_of (by assumption)) ?_ | refine E_isE (by with_unfolding_all exact rfl) (by with_unfolding_all exact rfl) ?_ | refine E_fld (by with_unfolding_all exact rfl) (by with_unfolding_all exact rfl) ?_) | ((with_reducible refine RE_mod ?_ ?_); (focus omega)) | ((with_reducible refine RE_div ?_ ?_); (focus omega)) | ((with_reducible refine RE_mul ?_ ?_); (focus exact mulOkR _ _ (by unfold two64; omega))) | ((with_reducible refine RE_pow ?_ ?_); (focus decide)) | ((with_reducible refine RE_rng ?_ ?_); (focus omega)))
theorem gp_of {k : Nat} {cs : List D} (hs : isS (k + 1) (.tup cs)) (hw : wd (k + 1) (.tup cs) ≤ 1000) (hp : (pats (k + 1) (.tup cs)).length ≤ 1000) : ∀ c ∈ cs, ∃ fs, c = .tup fs ∧ fs.length ≤ 1000 ∧ (fs.map (wd k)).sum ≤ 1000 ∧ ∀ f ∈ fs, isS k f ∧ GoodP k f ∧ wd k f ≤ 1000 ∧ (pats k f).length ≤ 1000 := fun c hcm => by
  have hs' : cs ≠ [] ∧ cs.length ≤ 1000 ∧ ∀ c ∈ cs, ∃ fs, c = .tup fs ∧ fs.length ≤ 1000 ∧ ∀ f ∈ fs, isS k f := hs
  obtain ⟨hne, hlen, hc⟩ := hs'
  have hpl : (allR (cs.map (crows (pats k)))).length ≤ 1000 := hp
  rw [allR_len] at hpl
  obtain ⟨fs, e, l, hf⟩ := hc c hcm
  have hg : ∀ f ∈ fs, GoodP k f := fun f hfm => (isS_good k (hf f hfm)).2
  have hsum : (fs.map (wd k)).sum ≤ 1000 := by
    have h1 := case_le (k := k) hcm
    have h2 : csum (wd k) c = (fs.map (wd k)).sum := by rw [e]; rfl
    omega
  have hrl : (rowsF (pats k) fs [[]]).length ≤ 1000 := by
    have h1 := sum_mem (f := List.length) (List.mem_map_of_mem (f := crows (pats k)) hcm)
    rw [e] at h1
    exact Nat.le_trans h1 hpl
  refine ⟨fs, e, l, hsum, fun f hfm => ⟨hf f hfm, hg f hfm, ?_, ?_⟩⟩
  · have := sum_mem (f := wd k) hfm
    omega
  · obtain ⟨i, hi⟩ := List.getElem?_of_mem hfm
    have l1 := rowsF_pre (P := pats k) (fun f hf => (hg f hf).ne) (i + 1) [[]]
    have hr1 : 1 ≤ (rowsF (pats k) (fs.take i) [[]]).length := rowsF_grow (P := pats k) (fs := fs.take i) (fun f hf => (hg f (List.mem_of_mem_take hf)).ne) [[]]
    rw [take_snoc hi, rowsF_snoc, flat_len] at l1
    exact Nat.le_trans (Nat.le_mul_of_pos_left _ hr1) (by omega)
theorem s19 : ∀ (k : Nat) {N T : Nat} {d : D} {h : AH}, isS k d → k ≤ 30 → k + 2 ≤ N → wd k d ≤ 1000 → (pats k d).length ≤ 1000 → Tp T h → RE (cf N 19 [.ref T, d, .int (wd k d)] h) (fun r h' => (∃ v ws, r = .tup [v, .tup (zs ws)] ∧ flt k d v = some ws) ∧ Kt T h h') noX
  | 0, _, _, _, _, hs, _, _, _, _, _ => hs.elim
  | k + 1, N, T, d, h, hs, hk, hN, hw, hp, ht => by
    obtain ⟨N, rfl⟩ : ∃ M, N = M + 1 := ⟨N - 1, by omega⟩
    refine cF_wp (d := f19.df) rfl rfl ?_
    show W _ c19 [some (.ref T), some d, some (.int (wd (k + 1) d)), none, none, none, none, none, none] h _
    unfold c19
    repeat fail
    refine RE_word hs hk (fun e => ?_) (fun cs e => ?_)
    · subst e
      refine bl_t rfl ?_
      repeat fail
      refine (s12 ht (by omega)).any fun r h2 ⟨⟨i, e, hi⟩, k2⟩ => ?_
      subst e
      repeat fail
      dsimp only [List.set]
      refine ⟨⟨.int i, [i], rfl, ?_⟩, k2⟩
      show (if isWd i then some [i] else none) = some [i]
      rw [if_pos hi]
    · subst e
      have gp := gp_of hs hw hp
      have hs' : cs ≠ [] ∧ cs.length ≤ 1000 ∧ ∀ c ∈ cs, ∃ fs, c = .tup fs ∧ fs.length ≤ 1000 ∧ ∀ f ∈ fs, isS k f := hs
      obtain ⟨hne, hlen, _⟩ := hs'
      have hpos : 0 < cs.length := List.length_pos_iff.mpr hne
      refine bl_f rfl ?_
      repeat fail
      refine (s11 (k := cs.length) (by omega) ht (by omega)).any fun r h2 ⟨⟨j, e, hj⟩, k2⟩ => ?_
      subst e
      have hj' : j < cs.length := by omega
      obtain ⟨fs, efs, hfl, hsum, hf⟩ := gp _ (List.getElem_mem hj')
      have hcf : cs[j]? = some (.tup fs) := by rw [List.getElem?_eq_getElem hj', efs]
      obtain ⟨L, hL⟩ : ∃ L, L = h2.length := ⟨_, rfl⟩
      repeat fail
      dsimp only [List.set]
      rw [← hL]
      refine RE_get1 (xs := cs) (j := j) rfl (ixOf_nat hj') hcf ?_
      repeat fail
      have hT2 := k2.t.lt
      have hLT : L ≠ T := by omega
      have k3 : Kt T h2 (h2 ++ [.lst []]) := .of k2.t (.app _)
      refine FW_inv fs (fun i σ hc => ∃ x6 x7 x8 vs ws, σ = [some (.ref T), some (.tup cs), some (.int (wd (k + 1) (.tup cs))), some (.int (j : Int)), some (.ref L), some (.tup (zs ws)), x6, x7, x8] ∧ Kt T h2 hc ∧ hc[L]? = some (.lst vs) ∧ flts (flt k) (fs.take i) vs = some ws) (lt_wf (by omega)) ⟨_, _, _, [], [], rfl, k3, by rw [hL]; simp, rfl⟩ (fun i σ hc hI hi => rfl) (fun i f σ hc hx hI => ?_) (fun σ hc hI => ?_)
      · obtain ⟨x6, x7, x8, vs, ws, rfl, kc, hcL, hfl2⟩ := hI
        obtain ⟨hsf, hgf, hwf, hpf⟩ := hf f (List.mem_of_getElem? hx)
        refine ⟨_, rfl, ?_⟩
        unfold l19_0
        repeat fail
        dsimp only [List.set]
        refine (s15 k hsf (by omega) (by omega) hwf hpf).any fun r h3 ⟨⟨n, e, _, hn⟩, k3⟩ => ?_
        subst e
        have ne := hgf.ne
        have ln := hgf.ln
        cases q : pats k f with
        | nil => exact (ne q).elim
        | cons r0 ps0 =>
          rw [q] at hn
          repeat fail
          refine RE_get1 (xs := tds (r0 :: ps0)) (j := 0) (y := toD r0) (seq_ref hn) (ixOf_nat (by simp)) rfl ?_
          repeat fail
          have hr0 : (r0.map toO).length = wd k f := by rw [List.length_map]; exact ln r0 (by rw [q]; simp)
          refine RE_len (xs := r0.map toO) rfl ?_
          repeat fail
          rw [hr0]
          have kt3 : Kt T hc h3 := .of kc.t k3
          refine (s19 k hsf (by omega) (by omega) hwf hpf kt3.t).any fun r h4 ⟨⟨v, us, e, hv⟩, k4⟩ => ?_
          subst e
          have h4L : h4[L]? = some (.lst vs) := k4.get (kt3.get hcL hLT) hLT
          have hvl : vs.length ≤ 1000 := by
            have z := (flts_to (k := k) (fs := fs.take i) (fun f hfm => (isS_good k (hf f (List.mem_of_mem_take hfm)).1).1) hfl2).2.2.1
            rw [List.length_take] at z; omega
          have hwl : ws.length ≤ 1000 := by
            have z := (flts_to (k := k) (fs := fs.take i) (fun f hfm => (isS_good k (hf f (List.mem_of_mem_take hfm)).1).1) hfl2).1
            have := sum_pre (f := wd k) fs i
            omega
          have hul : us.length ≤ 1000 := by
            have z := ((isS_good k hsf).1.to v us hv).1
            omega
          repeat fail
          dsimp only [List.set]
          refine RE_get1 (j := 0) rfl rfl rfl ?_
          repeat fail
          refine RE_append h4L (by omega) ?_
          repeat fail
          refine RE_get1 (j := 1) rfl rfl rfl ?_
          refine RE_cat (by rw [zs_len, zs_len]; omega) ?_
          repeat fail
          dsimp only [List.set]
          have ezs : zs ws ++ zs us = zs (ws ++ us) := (List.map_append ..).symm
          rw [ezs]
          refine ⟨_, _, _, vs ++ [v], ws ++ us, rfl, ⟨((kc.trans kt3).trans k4).k.set (.inr (by omega)) _, ?_⟩, ?_, ?_⟩
          · obtain ⟨ts, e⟩ := k4.t
            exact ⟨ts, by rw [List.getElem?_set_ne hLT]; exact e⟩
          · rw [List.getElem?_set_self (lt_of_get h4L)]
          · rw [take_snoc hx]
            exact flts_snoc hfl2 hv
      · obtain ⟨x6, x7, x8, vs, ws, rfl, kc, hcL, hfl2⟩ := hI
        rw [List.take_length] at hfl2
        obtain ⟨hwl, _, hvl, _⟩ := flts_to (k := k) (fun f hfm => (isS_good k (hf f hfm).1).1) hfl2
        have cle := case_le (k := k) (List.getElem_mem hj')
        rw [efs] at cle
        have e4 : csum (wd k) (.tup fs) = (fs.map (wd k)).sum := rfl
        have hfe : flt (k + 1) (.tup cs) (.tup [.int j, .tup vs]) = some (((if cs.length > 1 then [(j : Int)] else []) ++ ws) ++ List.replicate (wd (k + 1) (.tup cs) - ((if cs.length > 1 then [(j : Int)] else []) ++ ws).length) 0) := by
          have z : 0 ≤ (j : Int) ∧ (j : Int) < cs.length := by omega
          show (if 0 ≤ (j : Int) ∧ (j : Int) < cs.length then match cs[(j : Int).toNat]? with
            | some (.tup fs) => if vs.length = fs.length then (flts (flt k) fs vs).map fun ws => ((if cs.length > 1 then [(j : Int)] else []) ++ ws) ++ List.replicate (wd (k + 1) (.tup cs) - ((if cs.length > 1 then [(j : Int)] else []) ++ ws).length) 0 else none
            | _ => none else none) = _
          rw [if_pos z, Int.toNat_natCast, hcf]
          dsimp only
          rw [if_pos hvl, hfl2]; rfl
        repeat fail
        refine cj_if (fun c1 => ?_) (fun c1 => ?_)
        · have c1' : cs.length > 1 := by omega
          rw [if_pos c1'] at hfe cle
          repeat fail
          refine RE_cat (by rw [zs_len]; simp; omega) ?_
          repeat fail
          dsimp only [List.set]
          have hcl : ([D.int (j : Int)] ++ zs ws).length = ws.length + 1 := by simp
          refine RE_repT (by rw [hcl]; omega) (by simp) ?_
          refine RE_cat (by simp; omega) ?_
          repeat fail
          dsimp only [List.set]
          refine RE_tuple (seq_ref hcL) ?_
          repeat fail
          refine ⟨⟨_, _, ?_, hfe⟩, k2.trans kc⟩
          have ej : ((wd (k + 1) (.tup cs) : Nat) - (([D.int (j : Int)] ++ zs ws).length : Nat) : Int).toNat = wd (k + 1) (.tup cs) - ([(j : Int)] ++ ws).length := by
            rw [hcl]; simp; omega
          rw [ej]
          simp [zs]
        · have c1' : ¬ cs.length > 1 := by omega
          rw [if_neg c1'] at hfe cle
          repeat fail
          refine RE_tuple (seq_ref hcL) ?_
          repeat fail
          refine ⟨⟨_, _, ?_, hfe⟩, k2.trans kc⟩
          have z : wd (k + 1) (.tup cs) - ([] ++ ws).length = 0 := by
            match cs, hpos, c1', hcf with
            | [c], _, _, hcf =>
              have : j = 0 := by have := (List.getElem?_eq_some_iff.mp hcf).1; simp at this; omega
              subst this
              cases hcf
              rw [case_one, e4]
              simp; omega
            | _ :: _ :: _, _, c1', _ => exact (c1' (by simp)).elim
          rw [z]
          simp [zs]
theorem s20a {k N : Nat} {d v : D} {h : AH} (hs : isS k d) (hk : k ≤ 30) (hN : k + 5 ≤ N) (hw : wd k d ≤ 1000) (hv : Tyd (2 * k) h v) (hn : flt k d v = none) : RE (cf N 20 [.bl true, d, v, .str "value"] h) (fun r h' => r = .bl true ∧ Kp no1 h h') noX := by
  obtain ⟨N, rfl⟩ : ∃ M, N = M + 1 := ⟨N - 1, by omega⟩
  refine cF_wp (d := f20.df) rfl rfl ?_
  show W _ c20 [some (.bl true), some d, some v, some (.str "value"), none, none] h _
  unfold c20
  repeat fail
  with_reducible refine W_try ?_
  repeat fail
  dsimp only [List.set]
  refine cj_t rfl ?_
  repeat fail
  refine lst_go (isLst_of (xs := []) (by simp)) ?_
  repeat fail
  have q := s6 (N := N) (h := h ++ [.lst []]) hs hk (by omega) hw (Tyd.keep (Ls.of (.app _)) hv)
  refine RE.impX q (fun r h' ⟨⟨us, e, _⟩, _⟩ => by rw [hn] at e; cases e) (fun c fs vs h' ⟨_, e1, e2, e3, k2⟩ => ?_)
  subst e1 e2 e3
  refine .inl ⟨rfl, by simp, ?_⟩
  repeat fail
  refine cj_f rfl ?_
  repeat fail
  refine cj_f rfl ?_
  repeat fail
  refine cj_f rfl ?_
  repeat fail
  refine cj_t (by simp) ?_
  repeat fail
  exact ⟨rfl, (Kp.app _).trans k2⟩
theorem s20b {k N : Nat} {d v : D} {h : AH} (hs : isS k d) (hk : k ≤ 30) (hN : k + 7 ≤ N) (hw : wd k d ≤ 1000) (hv : Tyd 1 h v) (hn : nsV k d v = none) : RE (cf N 20 [.bl false, d, v, .str "words"] h) (fun r h' => r = .bl true ∧ Kp no1 h h') noX := by
  obtain ⟨N, rfl⟩ : ∃ M, N = M + 1 := ⟨N - 1, by omega⟩
  refine cF_wp (d := f20.df) rfl rfl ?_
  show W _ c20 [some (.bl false), some d, some v, some (.str "words"), none, none] h _
  unfold c20
  repeat fail
  with_reducible refine W_try ?_
  repeat fail
  dsimp only [List.set]
  refine cj_f rfl ?_
  repeat fail
  refine lst_go (isLst_of (xs := []) (by simp)) ?_
  repeat fail
  have q := s5 (N := N) (h := h ++ [.lst []]) hs hk (by omega) hw (Tyd.keep (Ls.of (.app _)) hv)
  refine RE.impX q (fun r h' ⟨e, _⟩ => by rw [hn] at e; cases e) (fun c fs vs h' ⟨_, e1, e2, e3, k2⟩ => ?_)
  subst e1 e2 e3
  refine .inl ⟨rfl, by simp, ?_⟩
  repeat fail
  refine cj_f rfl ?_
  repeat fail
  refine cj_f rfl ?_
  repeat fail
  refine cj_f rfl ?_
  repeat fail
  refine cj_t (by simp) ?_
  repeat fail
  exact ⟨rfl, (Kp.app _).trans k2⟩
end Q07
end
section
set_option Elab.async false
set_option linter.all false
set_option maxRecDepth 100000
set_option maxHeartbeats 4000000
namespace Q07
open Ly
/-! K07o: how values are shown. -/
structure ShV (v : D) (n B : Nat) where
  p : PySem.PyData
  e : ∀ h j, n ≤ j → pd h j v = some p
  s : p.showable = true
  l : p.shown.length ≤ B
theorem shInt {i : Int} (h : isWd i) : Nonempty (ShV (.int i) 1 6) := by
  refine ⟨⟨.int i, fun h j hj => ?_, ?_, ?_⟩⟩
  · obtain ⟨j, rfl⟩ : ∃ q, j = q + 1 := ⟨j - 1, by omega⟩
    rfl
  · simp only [PySem.PyData.showable, decide_eq_true_eq]
    have h2 : i.natAbs < 65536 := by have := h.1; have := h.2; omega
    by_cases c : i.natAbs = 0
    · rw [c]; decide
    · have : i.natAbs.log2 < 16 := (Nat.log2_lt c).mpr (by omega)
      omega
  · have e := PySem.int_text_length_le10 (a := i) (k := 5) (by decide) (by have := h.1; have := h.2; omega)
    simp only [PySem.PyData.shown]
    rw [PySem.ofString_length]; omega
theorem sumB {B : Nat} : ∀ (ts : List PySem.Str), (∀ t ∈ ts, t.length ≤ B) → PySem.piled ts ≤ ts.length * (B + 2)
  | [], _ => by simp [PySem.piled]
  | t :: ts, h => by
    have ih := sumB ts fun x hx => h x (by simp [hx])
    have := h t (by simp)
    rw [PySem.piled_cons, List.length_cons, Nat.succ_mul]
    omega
theorem tupB {B : Nat} {ts : List PySem.Str} (h : ∀ t ∈ ts, t.length ≤ B) : (PySem.tupleText ts).length ≤ 4 + ts.length * (B + 2) := by
  have s := sumB ts h
  unfold PySem.tupleText
  rw [PySem.strLen_append, PySem.strLen_append]
  have e1 : ((("(" : String) : PySem.Str)).length = 1 := rfl
  have e3 : (((if ts.length == 1 then ",)" else ")" : String) : PySem.Str)).length ≤ 2 := by split <;> decide
  rw [e1]
  by_cases h : ts = []
  · subst h
    have : (PySem.Str.join ", " []).length = 0 := rfl
    omega
  · have := PySem.join_length_add ts h
    omega
theorem shTup {n B : Nat} : ∀ {xs : List D}, (∀ x ∈ xs, Nonempty (ShV x n B)) → ∃ ps : List PySem.PyData, ps.length = xs.length ∧ (∀ h j, n ≤ j → optMap (pd h j) xs = some ps) ∧ PySem.PyData.showableAll ps = true ∧ ∀ t ∈ ps.map PySem.PyData.shown, t.length ≤ B
  | [], _ => ⟨[], rfl, fun _ _ _ => rfl, by simp only [PySem.PyData.showableAll], fun t h => by cases h⟩
  | x :: xs, h => by
    obtain ⟨q⟩ := h x (by simp)
    obtain ⟨ps, e1, e2, e3, e4⟩ := shTup fun y hy => h y (List.mem_cons_of_mem _ hy)
    refine ⟨q.p :: ps, by simp [e1], fun h j hj => ?_, ?_, fun t ht => ?_⟩
    · unfold optMap
      rw [q.e h j hj, e2 h j hj]
    · simp only [PySem.PyData.showableAll, q.s, e3, Bool.and_self]
    · rcases List.mem_cons.mp ht with rfl | ht
      · exact q.l
      · exact e4 t ht
theorem shTup' {n B : Nat} {xs : List D} (h : ∀ x ∈ xs, Nonempty (ShV x n B)) {M : Nat} (hM : xs.length ≤ M) : Nonempty (ShV (.tup xs) (n + 1) (4 + M * (B + 2))) := by
  obtain ⟨ps, e1, e2, e3, e4⟩ := shTup h
  refine ⟨⟨.tuple ps, fun h j hj => ?_, ?_, ?_⟩⟩
  · obtain ⟨j, rfl⟩ : ∃ q, j = q + 1 := ⟨j - 1, by omega⟩
    show (optMap (pd h j) xs).map PySem.PyData.tuple = _
    rw [e2 h j (by omega)]; rfl
  · simp only [PySem.PyData.showable, e3]
  · simp only [PySem.PyData.shown]
    rw [PyProof.Rows.shownAll_eq_map]
    have := tupB e4
    rw [List.length_map, e1] at this
    have := Nat.mul_le_mul_right (B + 2) hM
    omega
theorem ShV.mono {v : D} {n B n' B' : Nat} (s : Nonempty (ShV v n B)) (h1 : n ≤ n') (h2 : B ≤ B') : Nonempty (ShV v n' B') := by
  obtain ⟨s⟩ := s
  exact ⟨⟨s.p, fun h j hj => s.e h j (by omega), s.s, Nat.le_trans s.l h2⟩⟩
def bn : Nat → Nat
  | 0 => 6
  | k + 1 => 4 + 2 * (4 + 6 * (bn k + 2) + 2)
theorem bn_ge : ∀ k, 6 ≤ bn k
  | 0 => Nat.le_refl _
  | k + 1 => by
    show 6 ≤ 4 + 2 * (4 + 6 * (bn k + 2) + 2)
    omega
theorem flts_mem {F : D → D → Option (List Int)} : ∀ {fs vs : List D} {ws : List Int}, flts F fs vs = some ws → ∀ v ∈ vs, ∃ f ∈ fs, ∃ us, F f v = some us
  | [], [], _, _, v, hv => by cases hv
  | [], _ :: _, _, h, _, _ => by cases h
  | _ :: _, [], _, _, v, hv => by cases hv
  | f :: fs, u :: vs, ws, h, v, hv => by
    unfold flts at h
    cases q : F f u with
    | none => rw [q] at h; cases h
    | some w1 =>
      rw [q] at h
      dsimp only at h
      cases q2 : flts F fs vs with
      | none => rw [q2] at h; cases h
      | some w2 =>
        rcases List.mem_cons.mp hv with rfl | hv
        · exact ⟨f, by simp, w1, q⟩
        · obtain ⟨g, hg, us, e⟩ := flts_mem q2 v hv
          exact ⟨g, by simp [hg], us, e⟩
theorem flt_inv {k : Nat} {cs : List D} {v : D} {ws : List Int} (h : flt (k + 1) (.tup cs) v = some ws) : ∃ (c : Int) (vs fs : List D) (us : List Int), v = .tup [.int c, .tup vs] ∧ 0 ≤ c ∧ c < cs.length ∧ cs[c.toNat]? = some (.tup fs) ∧ vs.length = fs.length ∧ flts (flt k) fs vs = some us := by
  unfold flt at h
  cases qq : asPair v with
  | none => rw [qq] at h; cases h
  | some cv =>
    obtain ⟨c, vs⟩ := cv
    rw [qq] at h
    dsimp only at h
    by_cases hc : 0 ≤ c ∧ c < cs.length
    · rw [if_pos hc] at h
      split at h
      · rename_i fs hfs
        by_cases hl : vs.length = fs.length
        · rw [if_pos hl] at h
          cases e2 : flts (flt k) fs vs with
          | none => rw [e2] at h; cases h
          | some us => exact ⟨c, vs, fs, us, asPair_eq qq, hc.1, hc.2, hfs, hl, e2⟩
        · rw [if_neg hl] at h; cases h
      · cases h
    · rw [if_neg hc] at h; cases h
theorem flt_word {k : Nat} {v : D} {ws : List Int} (h : flt (k + 1) (.str "word") v = some ws) : ∃ i, v = .int i ∧ isWd i := by
  have h : (match asInt v with
    | some i => if isWd i then some [i] else none
    | none => none) = some ws := h
  cases q : asInt v with
  | none => rw [q] at h; cases h
  | some i =>
    rw [q] at h
    dsimp only at h
    by_cases c : isWd i
    · exact ⟨i, asInt_eq q, c⟩
    · rw [if_neg c] at h; cases h
theorem flt_sh : ∀ (k : Nat) {d v : D} {ws : List Int}, isS k d → nr k d → flt k d v = some ws → Nonempty (ShV v (2 * k) (bn k))
  | 0, _, _, _, hs, _, _ => hs.elim
  | k + 1, d, v, ws, hs, hn, h => by
    rcases isS_cases hs with rfl | ⟨cs, rfl, h1, h2, h3⟩
    · obtain ⟨i, rfl, hi⟩ := flt_word h
      exact ShV.mono (shInt hi) (by omega) (bn_ge _)
    · obtain ⟨c, vs, fs, us, rfl, hc1, hc2, hfs, hl, hf⟩ := flt_inv h
      have hm := List.mem_of_getElem? hfs
      have hn' : cs.length ≤ 6 ∧ ∀ c ∈ cs, ∃ fs, c = .tup fs ∧ fs.length ≤ 6 ∧ ∀ f ∈ fs, nr k f := hn
      obtain ⟨_, e, _, hff⟩ := h3 _ hm
      cases e
      obtain ⟨_, e, hl6, hnf⟩ := hn'.2 _ hm
      cases e
      have a := shTup' (xs := vs) (n := 2 * k) (B := bn k) (fun x hx => by
        obtain ⟨f, hfm, us, e⟩ := flts_mem hf x hx
        exact flt_sh k (hff f hfm) (hnf f hfm) e) (M := 6) (by omega)
      exact ShV.mono (shTup' (xs := [.int c, .tup vs]) (n := 2 * k + 1) (B := 4 + 6 * (bn k + 2)) (fun x hx => by
        rcases List.mem_cons.mp hx with rfl | hx
        · exact ShV.mono (shInt ⟨hc1, by omega⟩) (by omega) (by omega)
        · have : x = .tup vs := by simpa using hx
          subst this; exact a) (M := 2) (by simp)) (by omega) (by show _ ≤ 4 + 2 * (4 + 6 * (bn k + 2) + 2); omega)
theorem ws_sh {ws : List Int} (hw : ∀ x ∈ ws, isWd x) (hl : ws.length ≤ 1000) : Nonempty (ShV (.tup (zs ws)) 2 10000) :=
  ShV.mono (shTup' (xs := zs ws) (n := 1) (B := 6) (fun x hx => by
    obtain ⟨i, hi, rfl⟩ := List.mem_map.mp hx
    exact shInt (hw i hi)) (M := 1000) (by rw [zs_len]; exact hl)) (by omega) (by omega)
theorem RE_repV {v : D} {n B : Nat} (s : Nonempty (ShV v n B)) (hn : n ≤ 60) (hB : B ≤ 16777216) : ∃ x : PySem.Str, ∀ (h : AH) (P : D → AH → Prop) (X : XE), P (.str x) h → RE (biS .repr [v] h) P X := by
  obtain ⟨s⟩ := s
  refine ⟨s.p.shown, fun h P X w => ?_⟩
  show RE (match shownS h v with
    | some x => .ok (.str x) h
    | none => .bad) P X
  unfold shownS
  rw [s.e h pdN hn]
  dsimp only
  rw [if_pos ⟨s.s, Nat.le_trans s.l hB⟩]
  exact w
/-! ### things -/
def TT (h : AH) (d : D) : Prop := ∀ k, Tyd k h d
theorem TT.keep {h h' : AH} {d : D} (t : TT h d) (l : Ls h h') : TT h' d := fun k => Tyd.keep l (t k)
theorem TT_atom {h : AH} {d : D} (h1 : (tyOf h d).isSome = true) (h2 : ∀ xs, d ≠ .tup xs) : TT h d := fun k => by
  cases k with
  | zero => exact h1
  | succ k => exact ⟨h1, fun xs e => (h2 xs e).elim⟩
theorem TT_int {h : AH} (i : Int) : TT h (.int i) := TT_atom rfl fun _ e => by cases e
theorem TT_bl {h : AH} (i : Bool) : TT h (.bl i) := TT_atom rfl fun _ e => by cases e
theorem TT_str {h : AH} (i : PySem.Str) : TT h (.str i) := TT_atom rfl fun _ e => by cases e
theorem TT_non {h : AH} : TT h .non := TT_atom rfl fun _ e => by cases e
theorem TT_ref {h : AH} {n : Nat} {xs : List D} (e : h[n]? = some (.lst xs)) : TT h (.ref n) := TT_atom (by
  show (match h[n]? with
    | some (.lst _) => some Bt.list
    | some (.dct _) => some Bt.dict
    | _ => none : Option Bt).isSome = true
  rw [e]; rfl) fun _ e => by cases e
def TTs (h : AH) (xs : List D) : Prop := ∀ x ∈ xs, TT h x
theorem TT_tup {h : AH} {xs : List D} (t : TTs h xs) : TT h (.tup xs) := fun k => by
  cases k with
  | zero => exact rfl
  | succ k => exact ⟨rfl, fun ys e x hx => by cases e; exact t x hx k⟩
theorem TT.sub {h : AH} {xs : List D} (t : TT h (.tup xs)) : TTs h xs := fun x hx k => (t (k + 1)).2 xs rfl x hx
theorem TTs.nil {h : AH} : TTs h [] := fun x hx => by cases hx
theorem TTs.cons {h : AH} {x : D} {xs : List D} (a : TT h x) (b : TTs h xs) : TTs h (x :: xs) := fun y hy => by
  rcases List.mem_cons.mp hy with rfl | hy
  · exact a
  · exact b y hy
theorem TTs.app {h : AH} {xs ys : List D} (a : TTs h xs) (b : TTs h ys) : TTs h (xs ++ ys) := fun y hy => by
  rcases List.mem_append.mp hy with hy | hy
  · exact a y hy
  · exact b y hy
theorem TTs.keep {h h' : AH} {d : List D} (t : TTs h d) (l : Ls h h') : TTs h' d := fun x hx => (t x hx).keep l
theorem TTs.cut {h : AH} {xs : List D} {lo hi : Option Int} (t : TTs h xs) : TTs h (cutD xs lo hi) := fun x hx => t x (List.mem_of_mem_drop (List.mem_of_mem_take hx))
theorem cut_le (xs : List D) (lo hi : Option Int) : (cutD xs lo hi).length ≤ xs.length := by
  unfold cutD
  rw [List.length_take, List.length_drop]; omega
theorem TTs_zs {h : AH} (ws : List Int) : TTs h (zs ws) := fun x hx => by
  obtain ⟨i, hi, rfl⟩ := List.mem_map.mp hx
  exact TT_int i
theorem flt_TT {h : AH} : ∀ (k : Nat) {d v : D} {ws : List Int}, isS k d → flt k d v = some ws → TT h v
  | 0, _, _, _, hs, _ => hs.elim
  | k + 1, d, v, ws, hs, e => by
    rcases isS_cases hs with rfl | ⟨cs, rfl, h1, h2, h3⟩
    · obtain ⟨i, rfl, hi⟩ := flt_word e
      exact TT_int i
    · obtain ⟨c, vs, fs, us, rfl, hc1, hc2, hfs, hl, hf⟩ := flt_inv e
      obtain ⟨_, e, _, hff⟩ := h3 _ (List.mem_of_getElem? hfs)
      cases e
      refine TT_tup (.cons (TT_int c) (.cons (TT_tup fun x hx => ?_) .nil))
      obtain ⟨f, hfm, us, e⟩ := flts_mem hf x hx
      exact flt_TT k (hff f hfm) e
theorem Ls_set {h : AH} {n : Nat} {xs ys : List D} (e : h[n]? = some (.lst xs)) : Ls h (h.set n (.lst ys)) := ⟨fun j zs z => by
  by_cases c : n = j
  · subst c
    exact ⟨ys, by rw [List.getElem?_set_self (lt_of_get e)]⟩
  · exact ⟨zs, by rw [List.getElem?_set_ne c]; exact z⟩, fun j zs z => by
  by_cases c : n = j
  · subst c
    rw [e] at z; cases z
  · exact ⟨zs, by rw [List.getElem?_set_ne c]; exact z⟩⟩
theorem Ls_app {h : AH} (t : AH) : Ls h (h ++ t) := Ls.of (.app _)
theorem part_go {d : D} {A : Prop} (e : (partOf d).isSome = true) (w : A) : (partOf d).isSome = true ∧ A := ⟨e, w⟩
end Q07
end
section
set_option Elab.async false
set_option linter.all false
set_option maxRecDepth 100000
set_option maxHeartbeats 4000000
namespace Q07
open Ly
open K07 (m f21 c21 l21_0 f22 c22 l22_0)
local macro_rules | `(tactic| fail) => `(tactic| first | (with_reducible first
  | refine W_seq ?_ | refine W_ret ?_ | refine W_set ?_ | refine W_asg ?_ | refine W_if ?_ | refine W_skip ?_ | refine W_ex ?_ | refine W_setI ?_ | refine W_aug (by with_unfolding_all exact rfl) ?_ | refine W_retN ?_ | refine W_for ?_ | refine W_raise ?_
  | refine E_var (by with_unfolding_all exact rfl) ?_ | refine E_cst ?_ | refine E_bop ?_ | refine E_cmp ?_ | refine E_chn ?_ | refine E_neg ?_ | refine E_not ?_ | refine E_and ?_ | refine E_or ?_ | refine E_ite ?_ | refine E_tr ?_ | refine E_tup ?_ | refine E_lst ?_ | refine E_call ?_ | refine E_bi ?_ | refine E_mth ?_ | refine E_isi ?_ | refine E_sub ?_ | refine E_slc ?_ | refine E_itr ?_ | refine E_lc ?_ | refine EA_cons ?_ | refine EA_nil ?_
  | refine asg_go (by with_unfolding_all exact rfl) ?_ | refine tup_go (by simp) ?_ | refine isi_go (by with_unfolding_all exact rfl) ?_ | refine tr_b ?_ | refine bl_1 ?_ | refine neg_go ?_
  | refine RE_add ?_ | refine RE_sub ?_ | refine RE_lt ?_ | refine RE_le ?_ | refine RE_gt ?_ | refine RE_ge ?_ | refine RE_eqI ?_ | refine RE_neI ?_ | refine RE_eqS ?_ | refine RE_neS ?_
  | refine RE_len0 ?_ | refine RE_len1 ?_ | refine RE_seq0 ?_ | refine RE_int ?_ | refine RE_intb ?_ | refine RE_is0 ?_ | refine RE_is1 ?_ | refine RE_is2 ?_ | refine RE_is3 ?_ | refine RE_is4 ?_ | refine RE_is5 ?_ | refine RE_in0 ?_ | refine RE_in1 ?_ | refine RE_in2 ?_ | refine RE_in3 ?_ | refine RE_in4 ?_ | refine RE_in5 ?_ | refine RE_isB ?_ | refine RE_inB ?_ | refine RE_augA ?_ | refine RE_max2 ?_ | refine lst_go (by first | (with_unfolding_all exact rfl) | exact isLst_of (by assumption)) ?_ | refine part_go (by with_unfolding_all exact rfl) ?_ | refine RE_slT (by with_unfolding_all exact rfl) (by with_unfolding_all exact rfl) ?_ | ((with_reducible refine RE_cat ?_ ?_); (focus first | (simp; done) | (simp; omega)))) | ((with_reducible refine RE_mod ?_ ?_); (focus omega)) | ((with_reducible refine RE_div ?_ ?_); (focus omega)) | ((with_reducible refine RE_mul ?_ ?_); (focus exact mulOkR _ _ (by unfold two64; omega))) | ((with_reducible refine RE_pow ?_ ?_); (focus decide)) | ((with_reducible refine RE_rng ?_ ?_); (focus omega)))
def isI (d : D) : Prop := ∃ i, d = .int i
theorem TTs_isI {h : AH} {xs : List D} (e : ∀ y ∈ xs, isI y) : TTs h xs := fun y hy => by
  obtain ⟨i, rfl⟩ := e y hy
  exact TT_int i
theorem Each.all {R : D → D → Prop} {Q : D → Prop} {xs ys : List D} (e : Each R xs ys) (f : ∀ x y, R x y → Q y) : ∀ y ∈ ys, Q y := fun y hy => by
  obtain ⟨j, hj⟩ := List.getElem?_of_mem hy
  have hl := (List.getElem?_eq_some_iff.mp hj).1
  have hl2 : j < xs.length := by have := e.1; omega
  exact f _ _ (e.2 j _ _ (List.getElem?_eq_getElem hl2) hj)
theorem s21 {N T : Nat} {h : AH} {ws : List Int} (ht : Tp T h) (hl : ws.length ≤ 1000) (hN : 2 ≤ N) : RE (cf N 21 [.ref T, .tup (zs ws)] h) (fun r h' => (∃ B xs, r = .ref B ∧ B ≠ T ∧ h'[B]? = some (.lst xs) ∧ xs.length ≤ 100 ∧ TTs h' xs) ∧ Kt T h h') noX := by
  obtain ⟨N, rfl⟩ : ∃ M, N = M + 1 := ⟨N - 1, by omega⟩
  refine cF_wp (d := f21.df) rfl rfl ?_
  show W _ c21 [some (.ref T), some (.tup (zs ws)), none, none, none, none] h _
  unfold c21
  repeat fail
  refine (s11 (k := (zs ws).length + 1) (by rw [zs_len]; omega) ht (by omega)).any fun r h1 ⟨⟨at_, e, _⟩, k1⟩ => ?_
  subst e
  repeat fail
  dsimp only [List.set]
  refine RE_list (xs := zs ws) rfl ?_
  obtain ⟨L, hL⟩ : ∃ L, L = h1.length := ⟨_, rfl⟩
  rw [← hL]
  obtain ⟨h2, hh2⟩ : ∃ h2, h2 = h1 ++ [.lst (zs ws)] := ⟨_, rfl⟩
  rw [← hh2]
  have k2 : Kt T h h2 := by rw [hh2]; exact k1.trans (.of k1.t (.app _))
  have h2L : h2[L]? = some (.lst (zs ws)) := by rw [hh2, hL]; simp
  repeat fail
  refine LC_map (fun _ => .int 0) (zs ws) (by rw [zs_len]; omega) (fun h3 k3 j => rfl) (fun x hx h3 k3 => ?_) (fun hF kF acF => ?_)
  · repeat fail
    exact ⟨.refl, rfl⟩
  repeat fail
  refine RE_tuple (seq_ref acF) ?_
  repeat fail
  dsimp only [List.set]
  have kF' : Kt T h hF := k2.trans (.of k2.t kF)
  obtain ⟨B, hB⟩ : ∃ L, L = hF.length := ⟨_, rfl⟩
  rw [← hB]
  have hFL := kF.get h2L id
  have hBT : B ≠ T := by have := kF'.t.lt; omega
  have hBh : h.length ≤ B := by have := kF'.k.1; omega
  obtain ⟨xs0, hx0⟩ : ∃ xs0, xs0 = [D.tup (zs ws ++ [D.int 0]), D.tup (cutD (zs ws) none (some (-1))), .ref L, .non, D.tup [.tup (zs ws)], D.tup (zs ws ++ [.bl true]), D.tup ((zs ws).map fun _ => D.int 0)] := ⟨_, rfl⟩
  obtain ⟨h3, hh3⟩ : ∃ h3, h3 = hF ++ [.lst xs0] := ⟨_, rfl⟩
  rw [← hx0, ← hh3]
  have k3 : Kt T h h3 := by rw [hh3]; exact kF'.trans (.of kF'.t (.app _))
  have h3L : h3[L]? = some (.lst (zs ws)) := by rw [hh3]; exact (Kp.app (S := no1) _).get hFL id
  have h3B : h3[B]? = some (.lst xs0) := by rw [hh3, hB]; simp
  have t0 : TTs h3 xs0 := by
    rw [hx0]
    exact .cons (TT_tup ((TTs_zs _).app (.cons (TT_int _) .nil))) (.cons (TT_tup (TTs_zs _).cut) (.cons (TT_ref h3L) (.cons TT_non (.cons (TT_tup (.cons (TT_tup (TTs_zs _)) .nil)) (.cons (TT_tup ((TTs_zs _).app (.cons (TT_bl _) .nil))) (.cons (TT_tup (TTs_isI fun y hy => by
      obtain ⟨x, hx, rfl⟩ := List.mem_map.mp hy
      exact ⟨_, rfl⟩)) .nil))))))
  have l0 : xs0.length = 7 := by rw [hx0]; rfl
  clear hx0
  refine lst_go (isLst_of (by assumption)) ?_
  repeat fail
  refine LC_gen (fun j => j = T) (fun hc => Tp T hc) (fun _ y => isI y) (zs ws) (by rw [zs_len]; omega) (by have := k3.t.lt; omega) (fun hc x ⟨ts, e⟩ => ⟨ts, by rw [List.getElem?_set_ne (by have := k3.t.lt; omega)]; exact e⟩) ((Kt.of k3.t (.app _)).t) (fun hc kc _ j _ => rfl) (fun x hx hc kc tc => ?_) (fun ys hG ea kG tG acG => ?_)
  · repeat fail
    exact (s11 (k := 4) (by decide) tc (by omega)).imp fun r h5 ⟨⟨j, e, _⟩, k5⟩ => ⟨k5.k, k5.t, _, e⟩
  repeat fail
  have kGt : Kt T h3 hG := ⟨kG, tG⟩
  refine RE_tuple (seq_ref acG) ?_
  have hGB := kGt.get h3B hBT
  repeat fail
  refine RE_append hGB (by omega) ?_
  repeat fail
  have i1 := Each.all ea (fun x y r => r)
  obtain ⟨h4, hh4⟩ : ∃ h4, h4 = hG.set B (.lst (xs0 ++ [.tup ys])) := ⟨_, rfl⟩
  rw [← hh4]
  have k4 : Kt T h h4 := by
    rw [hh4]
    refine ⟨(k3.trans kGt).k.set (.inr hBh) _, ?_⟩
    obtain ⟨ts, e⟩ := tG
    exact ⟨ts, by rw [List.getElem?_set_ne hBT]; exact e⟩
  have h4B : h4[B]? = some (.lst (xs0 ++ [.tup ys])) := by rw [hh4, List.getElem?_set_self (lt_of_get hGB)]
  have t4 : TTs h4 (xs0 ++ [.tup ys]) := by
    rw [hh4]
    exact ((t0.keep (kGt.ls k3.t)).keep (Ls_set hGB)).app (.cons (TT_tup (TTs_isI i1)) .nil)
  refine lst_go (isLst_of (by assumption)) ?_
  repeat fail
  refine LC_gen (fun j => j = T) (fun hc => Tp T hc) (fun _ y => isI y) (zs ws) (by rw [zs_len]; omega) (by have := k4.t.lt; omega) (fun hc x ⟨ts, e⟩ => ⟨ts, by rw [List.getElem?_set_ne (by have := k4.t.lt; omega)]; exact e⟩) ((Kt.of k4.t (.app _)).t) (fun hc kc _ j _ => rfl) (fun x hx hc kc tc => ?_) (fun ys2 hI2 ea2 kI tI acI => ?_)
  · repeat fail
    exact (s11 (k := 3) (by decide) tc (by omega)).imp fun r h5 ⟨⟨j, e, _⟩, k5⟩ => ⟨k5.k, k5.t, _, e⟩
  repeat fail
  have kIt : Kt T h4 hI2 := ⟨kI, tI⟩
  refine RE_tuple (seq_ref acI) ?_
  have hIB := kIt.get h4B hBT
  repeat fail
  refine RE_append hIB (by simp; omega) ?_
  repeat fail
  have i2 := Each.all ea2 (fun x y r => r)
  obtain ⟨h5, hh5⟩ : ∃ h5, h5 = hI2.set B (.lst ((xs0 ++ [.tup ys]) ++ [.tup ys2])) := ⟨_, rfl⟩
  rw [← hh5]
  have k5 : Kt T h h5 := by
    rw [hh5]
    refine ⟨(k4.trans kIt).k.set (.inr hBh) _, ?_⟩
    obtain ⟨ts, e⟩ := tI
    exact ⟨ts, by rw [List.getElem?_set_ne hBT]; exact e⟩
  have h5B : h5[B]? = some (.lst ((xs0 ++ [.tup ys]) ++ [.tup ys2])) := by rw [hh5, List.getElem?_set_self (lt_of_get hIB)]
  have t5 : TTs h5 ((xs0 ++ [.tup ys]) ++ [.tup ys2]) := by
    rw [hh5]
    exact ((t4.keep (kIt.ls k4.t)).keep (Ls_set hIB)).app (.cons (TT_tup (TTs_isI i2)) .nil)
  have l5 : ((xs0 ++ [D.tup ys]) ++ [D.tup ys2]).length = 9 := by simp; omega
  clear hh5 hh4
  obtain ⟨xs5, hx5⟩ : ∃ xs5, xs5 = (xs0 ++ [D.tup ys]) ++ [D.tup ys2] := ⟨_, rfl⟩
  rw [← hx5] at h5B t5 l5
  refine cj_if (fun c1 => ?_) (fun c1 => ?_)
  · have ha : at_ < ws.length := by rw [zs_len] at c1; omega
    have hz : (zs ws)[at_]? = some (.int ws[at_]) := zs_get (List.getElem?_eq_getElem ha)
    have hix : ixOf (zs ws).length (at_ : Int) = some at_ := ixOf_nat (by rw [zs_len]; exact ha)
    repeat fail
    refine RE_get1 (xs := zs ws) (j := at_) rfl hix hz ?_
    repeat fail
    refine RE_get1 (xs := zs ws) (j := at_) rfl hix hz ?_
    repeat fail
    refine (s11 (k := 6) (by decide) k5.t (by omega)).any fun r h6 ⟨⟨j6, e, _⟩, k6⟩ => ?_
    subst e
    repeat fail
    have h6B := k6.get h5B hBT
    obtain ⟨things, hth⟩ : ∃ things, things = [D.int (ws[at_] + 1), .int 1, .int 0, .int 65536, .int (-1), .bl false, .bl true, .non, .str "0", .tup [.int ws[at_]], .int j6] := ⟨_, rfl⟩
    rw [← hth]
    have tth : ∀ h, TTs h things := fun h => by
      rw [hth]
      exact .cons (TT_int _) (.cons (TT_int _) (.cons (TT_int _) (.cons (TT_int _) (.cons (TT_int _) (.cons (TT_bl _) (.cons (TT_bl _) (.cons TT_non (.cons (TT_str _) (.cons (TT_tup (.cons (TT_int _) .nil)) (.cons (TT_int _) .nil))))))))))
    have lth : things.length = 11 := by rw [hth]; rfl
    refine FW_inv things (fun i σ hc => ∃ x4 xs, σ = [some (.ref T), some (.tup (zs ws)), some (.int (at_ : Int)), some (.ref B), x4, none] ∧ Kt T h hc ∧ hc[B]? = some (.lst xs) ∧ xs.length = 9 + i ∧ TTs hc xs) (by rw [lth]; exact lt_wf (by decide)) ⟨_, xs5, rfl, k5.trans k6, h6B, l5, t5.keep (k6.ls k5.t)⟩ (fun i σ h hI _ => rfl) (fun i x σ hc hx hI => ?_) (fun σ hc hI => ?_)
    · obtain ⟨x4, xs, rfl, kc, hcB, lx, tx⟩ := hI
      have hi := (List.getElem?_eq_some_iff.mp hx).1
      refine ⟨_, rfl, ?_⟩
      unfold l21_0
      have q1 := cut_le (zs ws) none (some (at_ : Int))
      have q2 := cut_le (zs ws) (some ((at_ : Int) + 1)) none
      rw [zs_len] at q1 q2
      repeat fail
      dsimp only [List.set]
      refine RE_append hcB (by omega) ?_
      repeat fail
      refine ⟨_, _, rfl, ⟨kc.k.set (.inr hBh) _, ?_⟩, by rw [List.getElem?_set_self (lt_of_get hcB)], by simp; omega, ?_⟩
      · obtain ⟨ts, e⟩ := kc.t
        exact ⟨ts, by rw [List.getElem?_set_ne hBT]; exact e⟩
      · refine (tx.keep (Ls_set hcB)).app (.cons (TT_tup (((TTs_zs _).cut.app (.cons (tth _ x (List.mem_of_getElem? hx)) .nil)).app (TTs_zs _).cut)) .nil)
    · obtain ⟨x4, xs, rfl, kc, hcB, lx, tx⟩ := hI
      repeat fail
      exact ⟨⟨B, xs, rfl, hBT, hcB, by omega, tx⟩, kc⟩
  · repeat fail
    exact ⟨⟨B, _, rfl, hBT, h5B, by omega, t5⟩, k5⟩
end Q07
end
section
set_option Elab.async false
set_option linter.all false
set_option maxRecDepth 100000
set_option maxHeartbeats 4000000
namespace Q07
open Ly
open K07 (m f22 c22 l22_0)
local macro_rules | `(tactic| fail) => `(tactic| first | (with_reducible first
  | refine W_seq ?_ | refine W_ret ?_ | refine W_set ?_ | refine W_asg ?_ | refine W_if ?_ | refine W_skip ?_ | refine W_ex ?_ | refine W_setI ?_ | refine W_aug (by with_unfolding_all exact rfl) ?_ | refine W_retN ?_ | refine W_for ?_ | refine W_raise ?_
  | refine E_var (by with_unfolding_all exact rfl) ?_ | refine E_cst ?_ | refine E_bop ?_ | refine E_cmp ?_ | refine E_chn ?_ | refine E_neg ?_ | refine E_not ?_ | refine E_and ?_ | refine E_or ?_ | refine E_ite ?_ | refine E_tr ?_ | refine E_tup ?_ | refine E_lst ?_ | refine E_call ?_ | refine E_bi ?_ | refine E_mth ?_ | refine E_isi ?_ | refine E_sub ?_ | refine E_slc ?_ | refine E_itr ?_ | refine E_lc ?_ | refine EA_cons ?_ | refine EA_nil ?_
  | refine asg_go (by with_unfolding_all exact rfl) ?_ | refine tup_go (by simp) ?_ | refine isi_go (by with_unfolding_all exact rfl) ?_ | refine tr_b ?_ | refine bl_1 ?_ | refine neg_go ?_
  | refine RE_add ?_ | refine RE_sub ?_ | refine RE_lt ?_ | refine RE_le ?_ | refine RE_gt ?_ | refine RE_ge ?_ | refine RE_eqI ?_ | refine RE_neI ?_ | refine RE_eqS ?_ | refine RE_neS ?_
  | refine RE_len0 ?_ | refine RE_len1 ?_ | refine RE_seq0 ?_ | refine RE_int ?_ | refine RE_intb ?_ | refine RE_is0 ?_ | refine RE_is1 ?_ | refine RE_is2 ?_ | refine RE_is3 ?_ | refine RE_is4 ?_ | refine RE_is5 ?_ | refine RE_in0 ?_ | refine RE_in1 ?_ | refine RE_in2 ?_ | refine RE_in3 ?_ | refine RE_in4 ?_ | refine RE_in5 ?_ | refine RE_isB ?_ | refine RE_inB ?_ | refine RE_augA ?_ | refine RE_max2 ?_ | refine lst_go (by first | (with_unfolding_all exact rfl) | exact isLst_of (by assumption)) ?_ | refine part_go (by with_unfolding_all exact rfl) ?_ | refine RE_slT (by with_unfolding_all exact rfl) (by with_unfolding_all exact rfl) ?_ | ((with_reducible refine RE_cat ?_ ?_); (focus first | (simp; done) | (simp; omega)))) | ((with_reducible refine RE_mod ?_ ?_); (focus omega)) | ((with_reducible refine RE_div ?_ ?_); (focus omega)) | ((with_reducible refine RE_mul ?_ ?_); (focus exact mulOkR _ _ (by unfold two64; omega))) | ((with_reducible refine RE_pow ?_ ?_); (focus decide)) | ((with_reducible refine RE_rng ?_ ?_); (focus omega)))
theorem Tp.set {T n : Nat} {h : AH} {x : AO} (t : Tp T h) (hn : n ≠ T) : Tp T (h.set n x) := by
  obtain ⟨ts, e⟩ := t
  exact ⟨ts, by rw [List.getElem?_set_ne hn]; exact e⟩
theorem Kt.set {T n : Nat} {h h' : AH} {x : AO} (k : Kt T h h') (hn : n ≠ T) (hh : h.length ≤ n) : Kt T h (h'.set n x) := ⟨k.k.set (.inr hh) _, k.t.set hn⟩
theorem Kt.app {T : Nat} {h h' : AH} {t : AH} (k : Kt T h h') : Kt T h (h' ++ t) := k.trans (.of k.t (.app _))
theorem s22 {k N T : Nat} {d v : D} {h : AH} {ws : List Int} (hs : isS k d) (hk : k ≤ 30) (ht : Tp T h) (hv : flt k d v = some ws) (hl : ws.length ≤ 1000) (hN : 2 ≤ N) : RE (cf N 22 [.ref T, v, .tup (zs ws), d] h) (fun r h' => (∃ B xs, r = .ref B ∧ B ≠ T ∧ h'[B]? = some (.lst xs) ∧ xs.length ≤ 100 ∧ TTs h' xs) ∧ Kt T h h') noX := by
  obtain ⟨N, rfl⟩ : ∃ M, N = M + 1 := ⟨N - 1, by omega⟩
  refine cF_wp (d := f22.df) rfl rfl ?_
  show W _ c22 [some (.ref T), some v, some (.tup (zs ws)), some d, none, none, none, none, none] h _
  unfold c22
  have tv : ∀ h, TT h v := fun h => flt_TT k hs hv
  repeat fail
  refine RE_list (xs := zs ws) rfl ?_
  repeat fail
  dsimp only [List.set]
  obtain ⟨L, hL⟩ : ∃ L, L = h.length := ⟨_, rfl⟩
  obtain ⟨xs0, hx0⟩ : ∃ xs0, xs0 = [D.non, .ref L, .tup [v], .tup [v, .tup []], .bl true, .int 65536, .int (-1), .str "word", D.tup (zs ws)] := ⟨_, rfl⟩
  obtain ⟨h1, hh1⟩ : ∃ h1, h1 = h ++ [.lst (zs ws)] := ⟨_, rfl⟩
  rw [← hL, ← hh1, ← hx0]
  obtain ⟨B, hB⟩ : ∃ B, B = h1.length := ⟨_, rfl⟩
  obtain ⟨h2, hh2⟩ : ∃ h2, h2 = h1 ++ [.lst xs0] := ⟨_, rfl⟩
  rw [← hB, ← hh2]
  have k1 : Kt T h h1 := by rw [hh1]; exact .of ht (.app _)
  have k2 : Kt T h h2 := by rw [hh2]; exact k1.app
  have hBT : B ≠ T := by have := k1.t.lt; omega
  have hBh : h.length ≤ B := by have := k1.k.1; omega
  have h2L : h2[L]? = some (.lst (zs ws)) := by rw [hh2]; exact (Kp.app (S := no1) _).get (by rw [hh1, hL]; simp) id
  have h2B : h2[B]? = some (.lst xs0) := by rw [hh2, hB]; simp
  have t2 : TTs h2 xs0 := by
    rw [hx0]
    exact .cons TT_non (.cons (TT_ref h2L) (.cons (TT_tup (.cons (tv _) .nil)) (.cons (TT_tup (.cons (tv _) (.cons (TT_tup .nil) .nil))) (.cons (TT_bl _) (.cons (TT_int _) (.cons (TT_int _) (.cons (TT_str _) (.cons (TT_tup (TTs_zs _)) .nil))))))))
  have l0 : xs0.length = 9 := by rw [hx0]; rfl
  clear hx0 hh2 hh1
  refine RE_word hs hk (fun e => ?_) (fun cs e => ?_)
  · refine bl_1 (cj_t rfl ?_)
    repeat fail
    exact ⟨⟨B, xs0, rfl, hBT, h2B, by omega, t2⟩, k2⟩
  subst e
  refine bl_1 (cj_f rfl ?_)
  cases k with
  | zero => exact hs.elim
  | succ k =>
  obtain ⟨c, vs, fs, us, rfl, hc1, hc2, hfs, hvl, hf⟩ := flt_inv hv
  have hs' : cs ≠ [] ∧ cs.length ≤ 1000 ∧ ∀ c ∈ cs, ∃ fs, c = .tup fs ∧ fs.length ≤ 1000 ∧ ∀ f ∈ fs, isS k f := hs
  obtain ⟨hne, hlen, hc⟩ := hs'
  have hv1 : vs.length ≤ 1000 := by
    obtain ⟨_, e, l, _⟩ := hc _ (List.mem_of_getElem? hfs)
    cases e; omega
  have tvs : ∀ h, TTs h vs := fun h => ((tv h).sub _ (by simp : D.tup vs ∈ _)).sub
  have cu := cut_le vs none (some (-1))
  repeat fail
  refine RE_get1 (j := 0) rfl rfl rfl ?_
  repeat fail
  dsimp only [List.set]
  refine RE_get1 (j := 1) rfl rfl rfl ?_
  repeat fail
  dsimp only [List.set]
  try (refine lst_go (isLst_of (by assumption)) ?_)
  repeat fail
  refine RE_list (xs := [.int c, .tup vs]) rfl ?_
  repeat fail
  refine RE_list (xs := vs) rfl ?_
  obtain ⟨L1, hL1⟩ : ∃ L, L = h2.length := ⟨_, rfl⟩
  obtain ⟨h3, hh3⟩ : ∃ h3, h3 = h2 ++ [.lst [.int c, .tup vs]] := ⟨_, rfl⟩
  rw [← hL1, ← hh3]
  obtain ⟨L2', hL2⟩ : ∃ L, L = h3.length := ⟨_, rfl⟩
  obtain ⟨h4, hh4⟩ : ∃ h4, h4 = h3 ++ [.lst vs] := ⟨_, rfl⟩
  rw [← hL2, ← hh4]
  repeat fail
  obtain ⟨ys1, hy1⟩ : ∃ ys1, ys1 = [D.ref L1, .tup [.int c, .ref L2'], .tup [.int c, .tup vs, .tup []], .tup [.int cs.length, .tup vs], .tup [.bl (decide (c = 1)), .tup vs]] := ⟨_, rfl⟩
  rw [← hy1]
  have k4 : Kt T h h4 := by rw [hh4, hh3]; exact k2.app.app
  have h4B : h4[B]? = some (.lst xs0) := by rw [hh4, hh3]; exact (Kp.app (S := no1) _).get ((Kp.app (S := no1) _).get h2B id) id
  have h4L1 : h4[L1]? = some (.lst [.int c, .tup vs]) := by rw [hh4, hh3]; exact (Kp.app (S := no1) _).get (by rw [hL1]; simp) id
  have h4L2 : h4[L2']? = some (.lst vs) := by rw [hh4, hL2]; simp
  have ls4 : Ls h2 h4 := by rw [hh4, hh3]; exact (Ls_app _).trans (Ls_app _)
  have ly1 : ys1.length = 5 := by rw [hy1]; rfl
  have ty1 : TTs h4 ys1 := by
    rw [hy1]
    exact .cons (TT_ref h4L1) (.cons (TT_tup (.cons (TT_int _) (.cons (TT_ref h4L2) .nil))) (.cons (TT_tup (.cons (TT_int _) (.cons (TT_tup (tvs _)) (.cons (TT_tup .nil) .nil)))) (.cons (TT_tup (.cons (TT_int _) (.cons (TT_tup (tvs _)) .nil))) (.cons (TT_tup (.cons (TT_bl _) (.cons (TT_tup (tvs _)) .nil))) .nil))))
  clear hy1 hh4 hh3
  have h5B : (h4 ++ [AO.lst ys1])[B]? = some (.lst xs0) := (Kp.app (S := no1) _).get h4B id
  refine RE_extend h5B (m := h4.length) (ys := ys1) (by simp) (by omega) ?_
  obtain ⟨h5, hh5⟩ : ∃ h5, h5 = (h4 ++ [AO.lst ys1]).set B (.lst (xs0 ++ ys1)) := ⟨_, rfl⟩
  rw [← hh5]
  have k5 : Kt T h h5 := by rw [hh5]; exact k4.app.set hBT hBh
  have h6B : h5[B]? = some (.lst (xs0 ++ ys1)) := by rw [hh5, List.getElem?_set_self (lt_of_get h5B)]
  have t5 : TTs h5 (xs0 ++ ys1) := by
    rw [hh5]
    exact (((t2.keep ls4).app ty1).keep (Ls_app _)).keep (Ls_set h5B)
  have l5 : (xs0 ++ ys1).length = 14 := by rw [List.length_append]; omega
  clear hh5
  obtain ⟨xs1, hx1⟩ : ∃ xs1, xs1 = xs0 ++ ys1 := ⟨_, rfl⟩
  rw [← hx1] at h6B t5 l5
  repeat fail
  try (refine lst_go (isLst_of (by assumption)) ?_)
  repeat fail
  obtain ⟨ys2, hy2⟩ : ∃ ys1, ys1 = [D.tup [.int c, .tup (vs ++ [.int 0])], .tup [.int (c + 1), .tup vs], .tup [.int (-1), .tup vs], .tup [.int c, .tup (cutD vs none (some (-1)))]] := ⟨_, rfl⟩
  rw [← hy2]
  have ly2 : ys2.length = 4 := by rw [hy2]; rfl
  have ty2 : ∀ h, TTs h ys2 := fun h => by
    rw [hy2]
    exact .cons (TT_tup (.cons (TT_int _) (.cons (TT_tup ((tvs _).app (.cons (TT_int _) .nil))) .nil))) (.cons (TT_tup (.cons (TT_int _) (.cons (TT_tup (tvs _)) .nil))) (.cons (TT_tup (.cons (TT_int _) (.cons (TT_tup (tvs _)) .nil))) (.cons (TT_tup (.cons (TT_int _) (.cons (TT_tup (tvs _).cut) .nil))) .nil)))
  clear hy2
  have h7B : (h5 ++ [AO.lst ys2])[B]? = some (.lst xs1) := (Kp.app (S := no1) _).get h6B id
  refine RE_extend h7B (m := h5.length) (ys := ys2) (by simp) (by omega) ?_
  obtain ⟨h6, hh6⟩ : ∃ h5', h5' = (h5 ++ [AO.lst ys2]).set B (.lst (xs1 ++ ys2)) := ⟨_, rfl⟩
  rw [← hh6]
  have k6 : Kt T h h6 := by rw [hh6]; exact k5.app.set hBT hBh
  have h8B : h6[B]? = some (.lst (xs1 ++ ys2)) := by rw [hh6, List.getElem?_set_self (lt_of_get h7B)]
  have t6 : TTs h6 (xs1 ++ ys2) := by
    rw [hh6]
    exact ((t5.keep (Ls_app _)).keep (Ls_set h7B)).app (ty2 _)
  have l6 : (xs1 ++ ys2).length = 18 := by rw [List.length_append]; omega
  clear hh6
  obtain ⟨xs2, hx2⟩ : ∃ xs1', xs1' = xs1 ++ ys2 := ⟨_, rfl⟩
  rw [← hx2] at h8B t6 l6
  repeat fail
  try (refine lst_go (isLst_of (by assumption)) ?_)
  repeat fail
  obtain ⟨ys3, hy3⟩ : ∃ ys1, ys1 = [D.tup [.int c], .tup [.int 0, .tup vs], .tup [.int 0, .tup []]] := ⟨_, rfl⟩
  rw [← hy3]
  have ly3 : ys3.length = 3 := by rw [hy3]; rfl
  have ty3 : ∀ h, TTs h ys3 := fun h => by
    rw [hy3]
    exact .cons (TT_tup (.cons (TT_int _) .nil)) (.cons (TT_tup (.cons (TT_int _) (.cons (TT_tup (tvs _)) .nil))) (.cons (TT_tup (.cons (TT_int _) (.cons (TT_tup .nil) .nil))) .nil))
  clear hy3
  have h9B : (h6 ++ [AO.lst ys3])[B]? = some (.lst xs2) := (Kp.app (S := no1) _).get h8B id
  refine RE_extend h9B (m := h6.length) (ys := ys3) (by simp) (by omega) ?_
  obtain ⟨h7, hh7⟩ : ∃ h5', h5' = (h6 ++ [AO.lst ys3]).set B (.lst (xs2 ++ ys3)) := ⟨_, rfl⟩
  rw [← hh7]
  have k7 : Kt T h h7 := by rw [hh7]; exact k6.app.set hBT hBh
  have h10B : h7[B]? = some (.lst (xs2 ++ ys3)) := by rw [hh7, List.getElem?_set_self (lt_of_get h9B)]
  have t7 : TTs h7 (xs2 ++ ys3) := by
    rw [hh7]
    exact ((t6.keep (Ls_app _)).keep (Ls_set h9B)).app (ty3 _)
  have l7 : (xs2 ++ ys3).length = 21 := by rw [List.length_append]; omega
  clear hh7
  obtain ⟨xs3, hx3⟩ : ∃ xs1', xs1' = xs2 ++ ys3 := ⟨_, rfl⟩
  rw [← hx3] at h10B t7 l7
  repeat fail
  refine cj_if (fun c1 => ?_) (fun c1 => ?_)
  · repeat fail
    refine (s11 (k := vs.length) (by omega) k7.t (by omega)).any fun r h8 ⟨⟨at_, e, hat⟩, k8⟩ => ?_
    subst e
    repeat fail
    dsimp only [List.set]
    have h11B := k8.get h10B hBT
    obtain ⟨things, hth⟩ : ∃ things, things = [D.bl true, .int 65536, .int 7, .tup [.int 0, .tup []], .tup [.int 1, .tup []], .tup [.int 1, .tup [.int 7]], .tup [.int 0, .tup [.int 7]], .non] := ⟨_, rfl⟩
    rw [← hth]
    have tth : ∀ h, TTs h things := fun h => by
      have p0 : ∀ i, TT h (.tup [.int i, .tup []]) := fun i => TT_tup (.cons (TT_int _) (.cons (TT_tup .nil) .nil))
      have p1 : ∀ i, TT h (.tup [.int i, .tup [.int 7]]) := fun i => TT_tup (.cons (TT_int _) (.cons (TT_tup (.cons (TT_int _) .nil)) .nil))
      rw [hth]
      exact .cons (TT_bl _) (.cons (TT_int _) (.cons (TT_int _) (.cons (p0 _) (.cons (p0 _) (.cons (p1 _) (.cons (p1 _) (.cons TT_non .nil)))))))
    have lth : things.length = 8 := by rw [hth]; rfl
    clear hth
    refine FW_inv things (fun i σ hc => ∃ x8 xs, σ = [some (.ref T), some (.tup [.int c, .tup vs]), some (.tup (zs ws)), some (.tup cs), some (.ref B), some (.int c), some (.tup vs), some (.int (at_ : Int)), x8] ∧ Kt T h hc ∧ hc[B]? = some (.lst xs) ∧ xs.length = 21 + i ∧ TTs hc xs) (by rw [lth]; exact lt_wf (by decide)) ⟨_, xs3, rfl, k7.trans k8, h11B, l7, t7.keep (k8.ls k7.t)⟩ (fun i σ h hI _ => rfl) (fun i x σ hc hx hI => ?_) (fun σ hc hI => ?_)
    · obtain ⟨x4, xs, rfl, kc, hcB, lx, tx⟩ := hI
      have hi := (List.getElem?_eq_some_iff.mp hx).1
      refine ⟨_, rfl, ?_⟩
      unfold l22_0
      have q1 := cut_le vs none (some (at_ : Int))
      have q2 := cut_le vs (some ((at_ : Int) + 1)) none
      repeat fail
      dsimp only [List.set]
      refine RE_append hcB (by omega) ?_
      repeat fail
      refine ⟨_, _, rfl, kc.set hBT hBh, by rw [List.getElem?_set_self (lt_of_get hcB)], by simp; omega, ?_⟩
      exact (tx.keep (Ls_set hcB)).app (.cons (TT_tup (.cons (TT_int _) (.cons (TT_tup (((tvs _).cut.app (.cons (tth _ x (List.mem_of_getElem? hx)) .nil)).app (tvs _).cut)) .nil))) .nil)
    · obtain ⟨x4, xs, rfl, kc, hcB, lx, tx⟩ := hI
      repeat fail
      exact ⟨⟨B, xs, rfl, hBT, hcB, by omega, tx⟩, kc⟩
  · repeat fail
    exact ⟨⟨B, _, rfl, hBT, h10B, by omega, t7⟩, k7⟩
end Q07
end
section
set_option Elab.async false
set_option linter.all false
set_option maxRecDepth 100000
set_option maxHeartbeats 4000000
namespace Q07
open Ly
open K07 (m f23 c23 l23_0 l23_1 l23_2 f24 c24 l24_0)
local macro_rules | `(tactic| fail) => `(tactic| first | (with_reducible first
  | refine W_seq ?_ | refine W_ret ?_ | refine W_set ?_ | refine W_asg ?_ | refine W_if ?_ | refine W_skip ?_ | refine W_ex ?_ | refine W_setI ?_ | refine W_aug (by with_unfolding_all exact rfl) ?_ | refine W_retN ?_ | refine W_for ?_ | refine W_raise ?_
  | refine E_var (by with_unfolding_all exact rfl) ?_ | refine E_cst ?_ | refine E_bop ?_ | refine E_cmp ?_ | refine E_chn ?_ | refine E_neg ?_ | refine E_not ?_ | refine E_and ?_ | refine E_or ?_ | refine E_ite ?_ | refine E_tr ?_ | refine E_tup ?_ | refine E_lst ?_ | refine E_call ?_ | refine E_bi ?_ | refine E_mth ?_ | refine E_isi ?_ | refine E_sub ?_ | refine E_slc ?_ | refine E_itr ?_ | refine E_lc ?_ | refine EA_cons ?_ | refine EA_nil ?_
  | refine asg_go (by with_unfolding_all exact rfl) ?_ | refine tup_go (by simp) ?_ | refine isi_go (by with_unfolding_all exact rfl) ?_ | refine tr_b ?_ | refine bl_1 ?_ | refine neg_go ?_
  | refine RE_add ?_ | refine RE_sub ?_ | refine RE_lt ?_ | refine RE_le ?_ | refine RE_gt ?_ | refine RE_ge ?_ | refine RE_eqI ?_ | refine RE_neI ?_ | refine RE_eqS ?_ | refine RE_neS ?_
  | refine RE_len0 ?_ | refine RE_len1 ?_ | refine RE_seq0 ?_ | refine RE_int ?_ | refine RE_intb ?_ | refine RE_is0 ?_ | refine RE_is1 ?_ | refine RE_is2 ?_ | refine RE_is3 ?_ | refine RE_is4 ?_ | refine RE_is5 ?_ | refine RE_in0 ?_ | refine RE_in1 ?_ | refine RE_in2 ?_ | refine RE_in3 ?_ | refine RE_in4 ?_ | refine RE_in5 ?_ | refine RE_isB ?_ | refine RE_inB ?_ | refine RE_augA ?_ | refine RE_max2 ?_ | refine lst_go (by first | (with_unfolding_all exact rfl) | exact isLst_of (by assumption)) ?_) | ((with_reducible refine RE_mod ?_ ?_); (focus omega)) | ((with_reducible refine RE_div ?_ ?_); (focus omega)) | ((with_reducible refine RE_mul ?_ ?_); (focus exact mulOkR _ _ (by unfold two64; omega))) | ((with_reducible refine RE_pow ?_ ?_); (focus decide)) | ((with_reducible refine RE_rng ?_ ?_); (focus omega)))
theorem flt_isV {k : Nat} {d v : D} {ws : List Int} (hs : isS k d) (h : flt k d v = some ws) : isV k d (.tup (zs ws)) = true ∧ nsV k d (.tup (zs ws)) = some v ∧ (∀ x ∈ ws, isWd x) ∧ ws.length = wd k d := by
  obtain ⟨h1, h2, h3⟩ := (isS_good k hs).1.to v ws h
  have hn : nst k d ws 0 = some v := h3 ws 0 (by rw [← h1, sl_all])
  have e : valW k d (.tup (zs ws)) = some ws := by
    show (if (zs ws).length = wd k d then asWords (zs ws) else none) = _
    rw [if_pos (by rw [zs_len]; exact h1), asWords_zs h2]
  refine ⟨?_, ?_, h2, h1⟩
  · rw [nsV_isV]
    unfold nsV
    rw [e]
    dsimp only
    rw [hn]; rfl
  · unfold nsV
    rw [e]; exact hn
theorem RE_neB {a b : Bool} {h : AH} {P : D → AH → Prop} {X : XE} (w : P (.bl (!decide (a = b))) h) : RE (cmpS .NotEq (.bl a) (.bl b) h) P X := RE_ne rfl rfl rfl (by
  have : PySem.PyData.eqv (.bool a) (.bool b) = decide (a = b) := by cases a <;> cases b <;> simp [PySem.PyData.eqv]
  rw [this]; exact w)
theorem s23 {N T : Nat} {d : D} {h : AH} (fr : Fr d) (ht : Tp T h) (hN : 14 ≤ N) : RE (cf N 23 [.ref T, d] h) (fun r h' => r = .bl true ∧ Kt T h h') noX := by
  obtain ⟨N, rfl⟩ : ∃ M, N = M + 1 := ⟨N - 1, by omega⟩
  refine cF_wp (d := f23.df) rfl rfl ?_
  show W _ c23 [some (.ref T), some d, none, none, none, none, none, none, none, none] h _
  unfold c23
  obtain ⟨w, wy, ⟨hs, hw, hy, hn⟩, hw9, hwy⟩ := fr
  have hw1 : wd 4 d ≤ 1000 := by omega
  have hy1 : (pats 4 d).length ≤ 1000 := by omega
  have gp := (isS_good 4 hs).2
  have ne := gp.ne
  have ln := gp.ln
  repeat fail
  refine (s15 4 hs (by omega) (by omega) hw1 hy1).any fun r h1 ⟨⟨P, e, hP, h1P⟩, k1⟩ => ?_
  subst e
  repeat fail
  dsimp only [List.set]
  have k1' : Kt T h h1 := .of ht k1
  have hPT : P ≠ T := by have := ht.lt; omega
  refine FW_inv (rng 0 3) (fun i σ hc => ∃ x3 x6, σ = [some (.ref T), some d, some (.ref P), x3, none, none, x6, none, none, none] ∧ Kt T h hc ∧ hc[P]? = some (.lst (tds (pats 4 d))) ∧ (0 < i → ∃ v ws, x6 = some (.tup [v, .tup (zs ws)]) ∧ flt 4 d v = some ws)) (by rw [rng_len]; exact lt_wf (by decide)) ⟨_, _, rfl, k1', h1P, fun z => by omega⟩ (fun i σ h _ _ => draw_rng i) (fun i x σ hc hx hI => ?_) (fun σ hc hI => ?_)
  · obtain ⟨x3, x6, rfl, kc, hcP, _⟩ := hI
    refine ⟨_, rfl, ?_⟩
    unfold l23_2
    repeat fail
    dsimp only [List.set]
    obtain ⟨r0, ps0, q⟩ := List.exists_cons_of_ne_nil ne
    have hr0 : (r0.map toO).length = wd 4 d := by rw [List.length_map]; exact ln r0 (by rw [q]; simp)
    refine RE_get1 (xs := tds (pats 4 d)) (j := 0) (y := toD r0) (seq_ref hcP) (ixOf_nat (by rw [q]; simp)) (by rw [q]; rfl) ?_
    repeat fail
    refine RE_len (xs := r0.map toO) rfl ?_
    repeat fail
    rw [hr0]
    refine (s19 4 hs (by omega) (by omega) hw1 hy1 kc.t).any fun r h2 ⟨⟨v, ws, e, hv⟩, k2⟩ => ?_
    subst e
    obtain ⟨v1, v2, v3, v4⟩ := flt_isV hs hv
    have tw : ∀ h, TT h (.tup (zs ws)) := fun h => TT_tup (TTs_zs ws)
    have tv : ∀ h, TT h v := fun h => flt_TT 4 hs hv
    obtain ⟨sv, hsv⟩ := RE_repV (flt_sh 4 hs hn hv) (by decide) (by decide)
    obtain ⟨sw, hsw⟩ := RE_repV (ws_sh v3 (by omega)) (by decide) (by decide)
    repeat fail
    dsimp only [List.set]
    with_reducible refine E_callk ?_
    repeat fail
    refine RE_get1 (j := 1) rfl rfl rfl ?_
    repeat fail
    refine (s4 (d := d) (v := .tup (zs ws)) hs (by omega) (by omega) hw1 (tw h2 1)).any fun r h3 ⟨e, k3⟩ => ?_
    subst e
    rw [v1]
    repeat fail
    refine cj_f rfl ?_
    repeat fail
    with_reducible refine E_callk ?_
    repeat fail
    refine RE_get1 (j := 1) rfl rfl rfl ?_
    repeat fail
    have q5 := s5 (N := N) (d := d) (v := .tup (zs ws)) (h := h3) hs (by omega) (by omega) hw1 (tw h3 1)
    refine RE.impX q5 (fun r h4 ⟨e, k4⟩ => ?_) (fun c fs vs h' ⟨e, _⟩ => by rw [v2] at e; cases e)
    rw [v2] at e
    cases e
    repeat fail
    refine hsv _ _ _ ?_
    repeat fail
    refine RE_get1 (j := 0) rfl rfl rfl ?_
    repeat fail
    refine hsv _ _ _ ?_
    repeat fail
    refine cj_f (by simp) ?_
    repeat fail
    with_reducible refine E_callk ?_
    repeat fail
    refine RE_get1 (j := 0) rfl rfl rfl ?_
    repeat fail
    have q6 := s6 (N := N) (d := d) (v := v) (h := h4) hs (by omega) (by omega) hw1 (tv h4 _)
    refine RE.impX q6 (fun r h5 ⟨⟨us, e, e2⟩, k5⟩ => ?_) (fun c fs vs h' ⟨e, _⟩ => by rw [hv] at e; cases e)
    rw [hv] at e
    cases e
    subst e2
    repeat fail
    refine hsw _ _ _ ?_
    repeat fail
    refine RE_get1 (j := 1) rfl rfl rfl ?_
    repeat fail
    refine hsw _ _ _ ?_
    repeat fail
    refine cj_f (by simp) ?_
    repeat fail
    have kk : Kt T hc h5 := k2.trans (.of k2.t ((k3.trans k4).trans k5))
    exact ⟨_, _, rfl, kc.trans kk, kk.get hcP hPT, fun _ => ⟨v, ws, rfl, hv⟩⟩
  · obtain ⟨x3, x6, rfl, kc, hcP, hI⟩ := hI
    obtain ⟨v, ws, e, hv⟩ := hI (by rw [rng_len]; decide)
    subst e
    obtain ⟨v1, v2, v3, v4⟩ := flt_isV hs hv
    repeat fail
    refine RE_get1 (j := 1) rfl rfl rfl ?_
    repeat fail
    refine (s21 kc.t (by omega) (by omega)).any fun r h2 ⟨⟨B, xs, e, hBT, h2B, hxl, tx⟩, k2⟩ => ?_
    subst e
    repeat fail
    dsimp only [List.set]
    refine RE_seq (seq_ref h2B) ?_
    have h2P := k2.get hcP hPT
    refine FW_inv xs (fun i σ hd => ∃ x5 x7 x8, σ = [some (.ref T), some d, some (.ref P), x3, some (.ref B), x5, some (.tup [v, .tup (zs ws)]), x7, x8, none] ∧ Kp no1 h2 hd) (lt_wf (by omega)) ⟨_, _, _, rfl, .refl⟩ (fun i σ hd hI _ => by obtain ⟨_, _, _, _, kd⟩ := hI; exact draw_ref (kd.get h2B id) i) (fun i x σ hd hx hI => ?_) (fun σ hd hI => ?_)
    · obtain ⟨x5, x7, x8, rfl, kd⟩ := hI
      refine ⟨_, rfl, ?_⟩
      unfold l23_1
      have txx : TT h2 x := tx x (List.mem_of_getElem? hx)
      repeat fail
      dsimp only [List.set]
      refine (s17 hs hw1 hy1 (kd.get h2P id) (txx.keep (Ls.of kd) 1) (by omega)).any fun r h3 ⟨e, k3⟩ => ?_
      subst e
      repeat fail
      dsimp only [List.set]
      have kd3 := kd.trans k3
      refine (s4 hs (by omega) (by omega) hw1 (txx.keep (Ls.of kd3) 1)).any fun r h4 ⟨e, k4⟩ => ?_
      subst e
      have kd4 := kd3.trans k4
      repeat fail
      dsimp only [List.set]
      cases qv : isV 4 d x with
      | true =>
        refine cj_f rfl ?_
        repeat fail
        refine cj_f rfl ?_
        repeat fail
        refine RE_neB ?_
        refine bl_1 (cj_f rfl ?_)
        repeat fail
        refine cj_t rfl ?_
        have q1 := qv
        rw [nsV_isV] at q1
        obtain ⟨u, hu⟩ := Option.isSome_iff_exists.mp q1
        have hu' := hu
        unfold nsV at hu'
        cases z : valW 4 d x with
        | none => rw [z] at hu'; cases hu'
        | some us =>
          rw [z] at hu'
          have hu' : nst 4 d us 0 = some u := hu'
          obtain ⟨e1, e2, e3⟩ := valW_eq z
          have hfu : flt 4 d u = some us := by
            have := (isS_good 4 hs).1.fro us 0 u e3 (by omega) hu'
            rw [this, ← e2, sl_all]
          obtain ⟨sw, hsw⟩ := RE_repV (ws_sh e3 (by omega)) (by decide) (by decide)
          repeat fail
          have q5 := s5 (N := N) (d := d) (v := x) (h := h4) hs (by omega) (by omega) hw1 (txx.keep (Ls.of kd4) 1)
          refine RE.impX q5 (fun r h5 ⟨e, k5⟩ => ?_) (fun c fs vs h' ⟨e, _⟩ => by rw [hu] at e; cases e)
          rw [hu] at e
          cases e
          repeat fail
          have q6 := s6 (N := N) (d := d) (v := u) (h := h5) hs (by omega) (by omega) hw1 (flt_TT 4 hs hfu _)
          refine RE.impX q6 (fun r h6 ⟨⟨us', e, e2⟩, k6⟩ => ?_) (fun c fs vs h' ⟨e, _⟩ => by rw [hfu] at e; cases e)
          rw [hfu] at e
          cases e
          subst e2
          repeat fail
          refine hsw _ _ _ ?_
          repeat fail
          rw [e1]
          refine hsw _ _ _ ?_
          repeat fail
          refine cj_f (by simp) ?_
          repeat fail
          refine cj_f rfl ?_
          repeat fail
          refine cj_f rfl ?_
          repeat fail
          exact ⟨_, _, _, rfl, (kd4.trans k5).trans k6⟩
      | false =>
        refine cj_t rfl ?_
        repeat fail
        refine cj_f rfl ?_
        repeat fail
        refine RE_neB ?_
        refine bl_1 (cj_f rfl ?_)
        repeat fail
        refine cj_f rfl ?_
        refine bl_1 (cj_f rfl ?_)
        repeat fail
        refine cj_t rfl ?_
        repeat fail
        have hnone : nsV 4 d x = none := by
          rw [nsV_isV] at qv
          cases z : nsV 4 d x with
          | none => rfl
          | some _ => rw [z] at qv; cases qv
        refine (s20b hs (by omega) (by omega) hw1 (txx.keep (Ls.of kd4) 1) hnone).any fun r h5 ⟨e, k5⟩ => ?_
        subst e
        repeat fail
        refine cj_f rfl ?_
        repeat fail
        exact ⟨_, _, _, rfl, kd4.trans k5⟩
    · obtain ⟨x5, x7, x8, rfl, kd⟩ := hI
      have kd' : Kt T h hd := (kc.trans k2).trans (.of k2.t kd)
      have hdP := kd.get h2P id
      repeat fail
      refine RE_get1 (j := 0) rfl rfl rfl ?_
      repeat fail
      refine RE_get1 (j := 1) rfl rfl rfl ?_
      repeat fail
      refine (s22 hs (by omega) kd'.t hv (by omega) (by omega)).any fun r h3 ⟨⟨B2, xs2, e, hBT2, h3B, hxl2, tx2⟩, k3⟩ => ?_
      subst e
      repeat fail
      refine RE_seq (seq_ref h3B) ?_
      have h3P := k3.get hdP hPT
      have kd3 := kd'.trans k3
      refine FW_inv xs2 (fun i σ he => ∃ x5 x7 x8 x9, σ = [some (.ref T), some d, some (.ref P), x3, some (.ref B), x5, some (.tup [v, .tup (zs ws)]), x7, x8, x9] ∧ Kp no1 h3 he) (lt_wf (by omega)) ⟨_, _, _, _, rfl, .refl⟩ (fun i σ hd hI _ => by obtain ⟨_, _, _, _, _, kd⟩ := hI; exact draw_ref (kd.get h3B id) i) (fun i x σ he hx hI => ?_) (fun σ he hI => ?_)
      · obtain ⟨x5, x7, x8, x9, rfl, ke⟩ := hI
        refine ⟨_, rfl, ?_⟩
        unfold l23_0
        have txx : TT h3 x := tx2 x (List.mem_of_getElem? hx)
        repeat fail
        dsimp only [List.set]
        refine (s18 4 hs (by omega) (by omega) (txx.keep (Ls.of ke) _)).any fun r h4 ⟨e, k4⟩ => ?_
        subst e
        have ke4 := ke.trans k4
        repeat fail
        cases qf : flt 4 d x with
        | some us =>
          refine cj_t rfl ?_
          obtain ⟨u1, u2, u3, u4⟩ := flt_isV hs qf
          obtain ⟨su, hsu⟩ := RE_repV (flt_sh 4 hs hn qf) (by decide) (by decide)
          repeat fail
          have q6 := s6 (N := N) (d := d) (v := x) (h := h4) hs (by omega) (by omega) hw1 (flt_TT 4 hs qf _)
          refine RE.impX q6 (fun r h6 ⟨⟨us', e, e2⟩, k6⟩ => ?_) (fun c fs vs h' ⟨e, _⟩ => by rw [qf] at e; cases e)
          rw [qf] at e
          cases e
          subst e2
          have ke6 := ke4.trans k6
          repeat fail
          dsimp only [List.set]
          refine (s17 hs hw1 hy1 (ke6.get h3P id) (TT_tup (TTs_zs us) 1) (by omega)).any fun r h7 ⟨e, k7⟩ => ?_
          subst e
          rw [u1]
          have ke7 := ke6.trans k7
          repeat fail
          refine cj_f rfl ?_
          repeat fail
          have q5 := s5 (N := N) (d := d) (v := .tup (zs us)) (h := h7) hs (by omega) (by omega) hw1 (TT_tup (TTs_zs us) 1)
          refine RE.impX q5 (fun r h8 ⟨e, k8⟩ => ?_) (fun c fs vs h' ⟨e, _⟩ => by rw [u2] at e; cases e)
          rw [u2] at e
          cases e
          repeat fail
          refine hsu _ _ _ ?_
          repeat fail
          refine hsu _ _ _ ?_
          repeat fail
          refine cj_f (by simp) ?_
          repeat fail
          exact ⟨_, _, _, _, rfl, ke7.trans k8⟩
        | none =>
          refine cj_f rfl ?_
          repeat fail
          refine (s20a hs (by omega) (by omega) hw1 (txx.keep (Ls.of ke4) _) qf).any fun r h5 ⟨e, k5⟩ => ?_
          subst e
          repeat fail
          refine cj_f rfl ?_
          repeat fail
          exact ⟨_, _, _, _, rfl, ke4.trans k5⟩
      · obtain ⟨x5, x7, x8, x9, rfl, ke⟩ := hI
        repeat fail
        exact ⟨rfl, kd3.trans (.of kd3.t ke)⟩
theorem s24 {N : Nat} {ns : List Int} (hn : ns.length ≤ 63) (hN : 16 ≤ N) : RE (cf N 24 [.rol (zs ns)] []) (fun r h' => r = .bl true) noX := by
  obtain ⟨N, rfl⟩ : ∃ M, N = M + 1 := ⟨N - 1, by omega⟩
  refine cF_wp (d := f24.df) rfl rfl ?_
  show W _ c24 [some (.rol (zs ns)), none, none] [] _
  unfold c24
  repeat fail
  refine (s10 hn (by omega)).any fun r h1 ⟨e, t1⟩ => ?_
  subst e
  repeat fail
  dsimp only [List.set]
  refine (s14 t1 (by omega)).any fun r h2 ⟨⟨n, fr, e, hnT, h2n, hl, hfr⟩, k2⟩ => ?_
  subst e
  repeat fail
  refine RE_seq (seq_ref h2n) ?_
  refine FW_inv fr (fun i σ hc => ∃ x2, σ = [some (.rol (zs ns)), some (.ref 0), x2] ∧ Kt 0 h2 hc) (lt_wf (by omega)) ⟨_, rfl, .refl k2.t⟩ (fun i σ hd hI _ => by obtain ⟨_, _, kd⟩ := hI; exact draw_ref (kd.get h2n hnT) i) (fun i x σ hc hx hI => ?_) (fun σ hc hI => ?_)
  · obtain ⟨x2, rfl, kc⟩ := hI
    refine ⟨_, rfl, ?_⟩
    unfold l24_0
    repeat fail
    dsimp only [List.set]
    refine (s23 (hfr x (List.mem_of_getElem? hx)) kc.t (by omega)).any fun r h3 ⟨e, k3⟩ => ?_
    subst e
    repeat fail
    refine cj_f rfl ?_
    repeat fail
    exact ⟨_, rfl, kc.trans k3⟩
  · obtain ⟨x2, rfl, kc⟩ := hI
    repeat fail
    exact rfl
theorem law_ok : K07.LawOk 30 := fun ns hn => by
  obtain ⟨d, h, e, z⟩ := RE_get (s24 (N := 30) hn (by omega))
  subst z
  refine ⟨h, ?_⟩
  rw [← cF_eq]
  exact e
end Q07
end
section
set_option Elab.async false
set_option linter.all false
theorem PySem.Challenge.cw_linkneed_k07_whole_values_holds : PySem.Challenge.rw_linkneed_k07_whole_values.Holds :=
  K07.law_holds Q07.law_ok
end
