import PyProof.Rows.All
import Wide.All
import OpenK.AllK
import Wide.FinOn
import HandS.ForMost
import HandS.ForExc
import HandS.IsInst
import HandS.Defaults
import KE.DataEq
import KE.DataCmp
import HandS.HeadHook1
import HandS.TupAny
import HandS.Style
import HandS.TupLe
import HandS.Rev
import KE.KExcSuper
import HandS.ExcSuper
import HandS.ExcInit
import HandS.ExcField
import HandS.ExcIs
import HandS.TryMany
import HandS.TryOnly
import HandS.HeadHook2
import HandS.HeadEnd
import HandS.Head0
import HandS.Head1
import HandS.Head2
import PySem.Challenge.RW_linkneed_k06_whole_operations
section
set_option Elab.async false
set_option linter.all false
set_option maxRecDepth 100000
/-! Ly1: an interpreter for a part of Python over pure data and a heap of lists and dicts (their places are numbers). -/
namespace Ly
open PySem

/-- a value: tuples are pure; a list or a dict is a place of the heap; rol: a list that nobody changes; it: what a loop walks -/
inductive D where
  | non | bl (b : Bool) | int (i : Int) | str (x : Str) | tup (xs : List D) | rol (xs : List D) | ref (n : Nat)
  | it (k : Nat) (xs : List D)
  deriving Inhabited
inductive AO where
  | lst (xs : List D) | dct (kvs : List (D × D))
  deriving Inhabited
abbrev AH := List AO
abbrev Sg := List (Option D)
inductive R (α : Type) where
  | ok (a : α) (h : AH) | exc (c : Str) (fs : List Str) (vs : List D) (h : AH) | bad
def R.bind {α β : Type} : R α → (α → AH → R β) → R β
  | .ok a h, k => k a h
  | .exc c fs vs h, _ => .exc c fs vs h
  | .bad, _ => .bad
inductive Bi where
  | len | int | divmod | list | tuple | any | all | max1 | min1 | max2 | min2 | sorted | sum | repr | abs
inductive Mth where
  | append | pop | reverse | extend | index | remove
inductive Bt where
  | int | bool | str | tuple | list | dict | none
def Bt.name : Bt → String
  | .int => "int"
  | .bool => "bool"
  | .str => "str"
  | .tuple => "tuple"
  | .list => "list"
  | .dict => "dict"
  | .none => "NoneType"
/-- is one class below the other -/
def Bt.sub : Bt → Bt → Bool
  | .int, .int => true
  | .bool, .bool => true
  | .bool, .int => true
  | .str, .str => true
  | .tuple, .tuple => true
  | .list, .list => true
  | .dict, .dict => true
  | .none, .none => true
  | _, _ => false
/-- targets: names, tuples of targets -/
inductive Pat where
  | v (i : Nat) | nil | cons (p r : Pat) | tup (p : Pat)
inductive CE where
  | var (i : Nat) | cst (d : D)
  | bop (o : Operator) (a b : CE) | cmp (o : CmpOp) (a b : CE) | chn (o o' : CmpOp) (a b c : CE)
  | neg (a : CE) | not_ (a : CE) | and_ (a b : CE) | or_ (a b : CE) | ite (c a b : CE) | tr (a : CE)
  | nil | cons (a r : CE) | tup (a : CE) | lst (a : CE)
  | call (f : Nat) (a : CE) | callk (f : Nat) (p : List Nat) (a b : CE) | bi (b : Bi) (a : CE) | mth (m : Mth) (o a : CE) | isi (a : CE) (cs : List Bt) | isE (cs : List Str)
  | sub (a i : CE) | slc (a l u : CE)
  | itr (k : Nat) (a : CE) | lc (p : Pat) (it c e : CE)
  | fld (f : Str)
inductive CS where
  | skip | seq (a b : CS) | ex (e : CE) | asg (p : Pat) (e : CE) | setI (o i e : CE) | aug (i : Nat) (o : Operator) (e : CE)
  | ifS (c : CE) (a b : CS) | whl (c : CE) (b : CS) | for_ (p : Pat) (it : CE) (b : CS)
  | ret (e : CE) | retN | raise (c : Str) (fs : List Str) (a : CE) | try_ (b : CS) (c : Str) (i : Nat) (s : CS) | brk | cnt
/-- what a statement comes to -/
inductive RS where
  | nx (σ : Sg) (h : AH) | rt (d : D) (h : AH) | bk (σ : Sg) (h : AH) | ct (σ : Sg) (h : AH)
  | exc (c : Str) (fs : List Str) (vs : List D) (σ : Sg) (h : AH) | bad

/-! ### values -/
def optMap {α β : Type} (f : α → Option β) : List α → Option (List β)
  | [] => some []
  | x :: xs => match f x, optMap f xs with
    | some y, some ys => some (y :: ys)
    | _, _ => none
/-- a value as data, to a depth -/
def pd (h : AH) : Nat → D → Option PyData
  | 0, _ => none
  | k + 1, d => match d with
    | .non => some .none
    | .bl b => some (.bool b)
    | .int i => some (.int i)
    | .str x => some (.str x)
    | .tup xs => (optMap (pd h k) xs).map .tuple
    | .rol xs => (optMap (pd h k) xs).map .list
    | .ref n => (match h[n]? with
      | some (.lst xs) => (optMap (pd h k) xs).map .list
      | _ => none)
    | _ => none
abbrev pdN : Nat := 60
/-- the items of a list, of a tuple -/
def seqOf (h : AH) : D → Option (List D)
  | .tup xs => some xs
  | .rol xs => some xs
  | .ref n => (match h[n]? with
    | some (.lst xs) => some xs
    | _ => none)
  | _ => none
def isSeq (h : AH) (d : D) : Bool := (seqOf h d).isSome
def okB (b : Bool) (h : AH) : R D := .ok (.bl b) h
def inS (neg : Bool) (d e : D) (h : AH) : R D := match seqOf h e with
  | some ys => (match pd h pdN d, optMap (pd h pdN) ys with
    | some p, some ps => okB (if neg then !(ps.any fun q => PyData.eqv q p) else ps.any fun q => PyData.eqv q p) h
    | _, _ => .bad)
  | none => .bad
def cmpS (o : CmpOp) (d e : D) (h : AH) : R D := match o with
  | .Eq => (match pd h pdN d, pd h pdN e with
    | some p, some q => okB (PyData.eqv p q) h
    | _, _ => .bad)
  | .NotEq => (match pd h pdN d, pd h pdN e with
    | some p, some q => okB (!PyData.eqv p q) h
    | _, _ => .bad)
  | .Lt => (match d, e with
    | .int i, .int j => okB (decide (i < j)) h
    | _, _ => .bad)
  | .LtE => (match d, e with
    | .int i, .int j => okB (decide (i ≤ j)) h
    | _, _ => .bad)
  | .Gt => (match d, e with
    | .int i, .int j => okB (decide (j < i)) h
    | _, _ => .bad)
  | .GtE => (match d, e with
    | .int i, .int j => okB (decide (j ≤ i)) h
    | _, _ => .bad)
  | .Is => (match d, e with
    | .non, .non => okB true h
    | .bl _, .non => okB false h
    | .int _, .non => okB false h
    | .str _, .non => okB false h
    | .tup _, .non => okB false h
    | .ref _, .non => okB false h
    | .bl a, .bl b => okB (decide (a = b)) h
    | _, _ => .bad)
  | .IsNot => (match d, e with
    | .non, .non => okB false h
    | .bl _, .non => okB true h
    | .int _, .non => okB true h
    | .str _, .non => okB true h
    | .tup _, .non => okB true h
    | .ref _, .non => okB true h
    | .bl a, .bl b => okB (!decide (a = b)) h
    | _, _ => .bad)
  | .In => inS false d e h
  | .NotIn => inS true d e h
def two64 : Int := 18446744073709551616
def mulOk (i j : Int) : Bool := (decide (-two64 < i) && decide (i < two64)) || (decide (-two64 < j) && decide (j < two64))
def bopS (o : Operator) (d e : D) (h : AH) : R D := match o with
  | .Add => (match d, e with
    | .int i, .int j => .ok (.int (i + j)) h
    | .tup xs, .tup ys => if xs.length + ys.length ≤ 16777216 then .ok (.tup (xs ++ ys)) h else .bad
    | .ref n, .ref m => (match h[n]?, h[m]? with
      | some (.lst xs), some (.lst ys) => if xs.length + ys.length ≤ 16777216 then .ok (.ref h.length) (h ++ [.lst (xs ++ ys)]) else .bad
      | _, _ => .bad)
    | _, _ => .bad)
  | .Sub => (match d, e with
    | .int i, .int j => .ok (.int (i - j)) h
    | _, _ => .bad)
  | .Mult => (match d, e with
    | .int i, .int j => if mulOk i j = true then .ok (.int (i * j)) h else .bad
    | _, _ => .bad)
  | .FloorDiv => (match d, e with
    | .int i, .int j => if 0 < j ∧ j < 1073741824 then .ok (.int (i / j)) h else .bad
    | _, _ => .bad)
  | .Mod => (match d, e with
    | .int i, .int j => if 0 < j then .ok (.int (i % j)) h else .bad
    | _, _ => .bad)
  | .Pow => (match d, e with
    | .int i, .int j => if 0 ≤ j ∧ j ≤ 1000000 ∧ i.natAbs < 18446744073709551616 then .ok (.int (i ^ j.toNat)) h else .bad
    | _, _ => .bad)
  | _ => .bad
def truS (d : D) (h : AH) : Option Bool := match d with
  | .non => some false
  | .bl b => some b
  | .int i => some (i != 0)
  | .tup xs => some (!xs.isEmpty)
  | .rol xs => some (!xs.isEmpty)
  | .ref n => (match h[n]? with
    | some (.lst xs) => some (!xs.isEmpty)
    | _ => none)
  | _ => none
def blsOf : List D → Option (List Bool) := optMap fun d => match d with
  | .bl b => some b
  | _ => none
def intsOf : List D → Option (List Int) := optMap fun d => match d with
  | .int b => some b
  | _ => none
def bi1 (b : Bi) (d : D) (h : AH) : R D := match b with
  | .len => (match seqOf h d with
    | some xs => .ok (.int xs.length) h
    | none => .bad)
  | .int => (match d with
    | .int i => .ok (.int i) h
    | .bl b => .ok (.int (if b then 1 else 0)) h
    | _ => .bad)
  | .list => (match seqOf h d with
    | some xs => .ok (.ref h.length) (h ++ [.lst xs])
    | none => .bad)
  | .tuple => (match seqOf h d with
    | some xs => .ok (.tup xs) h
    | none => .bad)
  | .any => (match d with
    | .ref n => (match h[n]? with
      | some (.lst xs) => (match blsOf xs with
        | some bs => okB (bs.any id) h
        | none => .bad)
      | _ => .bad)
    | _ => .bad)
  | .all => (match d with
    | .ref n => (match h[n]? with
      | some (.lst xs) => (match blsOf xs with
        | some bs => okB (bs.all id) h
        | none => .bad)
      | _ => .bad)
    | _ => .bad)
  | .sum => (match d with
    | .ref n => (match h[n]? with
      | some (.lst xs) => (match intsOf xs with
        | some is => .ok (.int is.sum) h
        | none => .bad)
      | _ => .bad)
    | _ => .bad)
  | .abs => (match d with
    | .int i => .ok (.int (if i < 0 then -i else i)) h
    | _ => .bad)
  | _ => .bad
def bi2 (b : Bi) (d e : D) (h : AH) : R D := match b with
  | .divmod => (match d, e with
    | .int i, .int j => if 0 < j ∧ j < 1073741824 then .ok (.tup [.int (i / j), .int (i % j)]) h else .bad
    | _, _ => .bad)
  | .max2 => (match d, e with
    | .int i, .int j => .ok (.int (if j > i then j else i)) h
    | _, _ => .bad)
  | .min2 => (match d, e with
    | .int i, .int j => .ok (.int (if j < i then j else i)) h
    | _, _ => .bad)
  | _ => .bad
def biS (b : Bi) (ds : List D) (h : AH) : R D := match ds with
  | [d] => bi1 b d h
  | [d, e] => bi2 b d e h
  | _ => .bad
/-- the place of an index -/
def ixOf (n : Nat) (i : Int) : Option Nat := L2.ixN n i
def getS (d i : D) (h : AH) : R D := match i with
  | .int k => (match seqOf h d with
    | some xs => (match (ixOf xs.length k).bind fun j => xs[j]? with
      | some x => .ok x h
      | none => .bad)
    | none => .bad)
  | _ => .bad
def setS (o i v : D) (h : AH) : Option AH := match o, i with
  | .ref n, .int k => (match h[n]? with
    | some (.lst xs) => (match ixOf xs.length k with
      | some j => some (h.set n (.lst (xs.set j v)))
      | none => none)
    | _ => none)
  | _, _ => none
def partOf : D → Option (Option Int)
  | .int i => some (some i)
  | .it 9 [] => some none
  | _ => none
def cutD (xs : List D) (lo hi : Option Int) : List D := (xs.drop (HT.sIx xs.length 0 lo)).take (HT.sIx xs.length xs.length hi - HT.sIx xs.length 0 lo)
def slcS (d l u : D) (h : AH) : R D := match partOf l, partOf u with
  | some lo, some hi => (match d with
    | .tup xs => .ok (.tup (cutD xs lo hi)) h
    | .ref n => (match h[n]? with
      | some (.lst xs) => .ok (.ref h.length) (h ++ [.lst (cutD xs lo hi)])
      | _ => .bad)
    | .rol xs => .ok (.ref h.length) (h ++ [.lst (cutD xs lo hi)])
    | _ => .bad)
  | _, _ => .bad
def mth0 (m : Mth) (n : Nat) (xs : List D) (h : AH) : R D := match m with
  | .pop => (match xs[xs.length - 1]? with
    | some d => .ok d (h.set n (.lst xs.dropLast))
    | none => .bad)
  | .reverse => .ok .non (h.set n (.lst xs.reverse))
  | _ => .bad
def mth1 (m : Mth) (n : Nat) (xs : List D) (d : D) (h : AH) : R D := match m with
  | .append => if xs.length < 16777216 then .ok .non (h.set n (.lst (xs ++ [d]))) else .bad
  | .pop => (match d with
    | .int i => (if -9223372036854775808 ≤ i ∧ i < 9223372036854775808 then (match ixOf xs.length i with
      | some k => (match xs[k]? with
        | some d => .ok d (h.set n (.lst (xs.eraseIdx k)))
        | none => .bad)
      | none => .bad) else .bad)
    | _ => .bad)
  | .extend => (match d with
    | .ref m => (match h[m]? with
      | some (.lst ys) => if xs.length + ys.length ≤ 16777216 then .ok .non (h.set n (.lst (xs ++ ys))) else .bad
      | _ => .bad)
    | _ => .bad)
  | _ => .bad
def mthS (m : Mth) (o : D) (ds : List D) (h : AH) : R D := match o with
  | .ref n => (match h[n]? with
    | some (.lst xs) => (match ds with
      | [] => mth0 m n xs h
      | [d] => mth1 m n xs d h
      | _ => .bad)
    | _ => .bad)
  | _ => .bad
def isLst (h : AH) : D → Bool
  | .ref n => (match h[n]? with
    | some (.lst _) => true
    | _ => false)
  | _ => false
/-- the class of a value -/
def tyOf (h : AH) : D → Option Bt
  | .non => some .none
  | .bl _ => some .bool
  | .int _ => some .int
  | .str _ => some .str
  | .tup _ => some .tuple
  | .rol _ => some .list
  | .ref n => (match h[n]? with
    | some (.lst _) => some .list
    | some (.dct _) => some .dict
    | _ => none)
  | _ => none
/-- the own classes: who is whose -/
abbrev SubT := List (Str × Str × Bool)
def subOf (T : SubT) (c c' : Str) : Option Bool := (T.find? fun p => decide (p.1 = c) && decide (p.2.1 = c')).map (·.2.2)
/-- an error of class c: is it one of cs -/
def isSome1 (T : SubT) (c : Str) : List Str → Option Bool
  | [] => some false
  | c' :: cs => match subOf T c c' with
    | some true => some true
    | some false => isSome1 T c cs
    | none => none
/-- what a loop walks at turn i: none: not known; some none: it ends -/
def draw (h : AH) (d : D) (i : Nat) : Option (Option D) := match d with
  | .it 0 [s] => (seqOf h s).map fun xs => xs[i]?
  | .it 1 [.int lo, .int n] => some (if i < n.toNat then some (.int (lo + i)) else none)
  | .it 2 [s] => (seqOf h s).map fun xs => (xs[i]?).map fun x => .tup [.int i, x]
  | .it 3 [s, t] => (match seqOf h s, seqOf h t with
    | some xs, some ys => some (match xs[i]?, ys[i]? with
      | some x, some y => some (.tup [x, y])
      | _, _ => none)
    | _, _ => none)
  | _ => none
def it1 (k : Nat) (s : D) (h : AH) : R D := match k with
  | 0 => if isSeq h s = true then .ok (.it 0 [s]) h else .bad
  | 1 => (match s with
    | .int j => if -4611686018427387904 ≤ j ∧ j < 4611686018427387904 then .ok (.it 1 [.int 0, .int j]) h else .bad
    | _ => .bad)
  | _ => .bad
def it2 (k : Nat) (s t : D) (h : AH) : R D := match k with
  | 4 => (match s, t with
    | .int i, .int j => if (-4611686018427387904 ≤ i ∧ i < 4611686018427387904) ∧ (-4611686018427387904 ≤ j ∧ j < 4611686018427387904) then .ok (.it 1 [.int i, .int (j - i)]) h else .bad
    | _, _ => .bad)
  | _ => .bad
def itS (k : Nat) (ds : List D) (h : AH) : R D := match ds with
  | [s] => it1 k s h
  | [s, t] => it2 k s t h
  | _ => .bad
/-! ### targets -/
mutual
def bindP : Pat → D → Sg → Option Sg
  | .v i, d, σ => some (σ.set i (some d))
  | .tup p, .tup ds, σ => bindPs p ds σ
  | _, _, _ => none
def bindPs : Pat → List D → Sg → Option Sg
  | .nil, [], σ => some σ
  | .cons p r, d :: ds, σ => (match bindP p d σ with
    | some σ' => bindPs r ds σ'
    | none => none)
  | _, _, _ => none
end
/-- the slots of a target -/
def slots : Pat → List Nat
  | .v i => [i]
  | .nil => []
  | .cons p r => slots p ++ slots r
  | .tup p => slots p
def wipeD (σ : Sg) : List Nat → Sg
  | [] => σ
  | v :: vs => (wipeD σ vs).set v none
/-! ### the interpreter -/
/-- the most turns of a loop -/
theorem wf_ex : ∃ n : Nat, 1000000000 < n := ⟨1000000000000, by decide⟩
noncomputable def wf : Nat := Classical.choose wf_ex
theorem lt_wf {n : Nat} (h : n ≤ 1000000000) : n < wf := Nat.lt_of_le_of_lt h (Classical.choose_spec wf_ex)
structure Gs where
  cf : Nat → List D → AH → R D
  T : SubT
  ex : Option (Str × List Str × List D) := none
def lcLoop (body : D → AH → R (Option D)) (src : D) (acc : Nat) : Nat → Nat → AH → R Unit
  | 0, _, _ => .bad
  | f + 1, i, h => (match draw h src i with
    | none => .bad
    | some none => .ok () h
    | some (some d) => (match body d h with
      | .ok none h1 => lcLoop body src acc f (i + 1) h1
      | .ok (some y) h1 => (match h1[acc]? with
        | some (.lst ys) => if ys.length < 16777216 then lcLoop body src acc f (i + 1) (h1.set acc (.lst (ys ++ [y]))) else .bad
        | _ => .bad)
      | _ => .bad))
def lcBody (p : Pat) (c e : Sg → AH → R D) (σ : Sg) (d : D) (h : AH) : R (Option D) := match bindP p d (wipeD σ (slots p)) with
  | none => .bad
  | some σ' => (match c σ' h with
    | .ok (.bl true) h1 => (match e σ' h1 with
      | .ok y h2 => .ok (some y) h2
      | _ => .bad)
    | .ok (.bl false) h1 => .ok none h1
    | _ => .bad)
def argsOf : D → Option (List D)
  | .tup ds => some ds
  | _ => none
noncomputable def ev (g : Gs) : CE → Sg → AH → R D
  | .var i, σ, h => (match σ[i]? with
    | some (some d) => .ok d h
    | _ => .bad)
  | .cst d, _, h => .ok d h
  | .bop o a b, σ, h => (ev g a σ h).bind fun x h1 => (ev g b σ h1).bind fun y h2 => bopS o x y h2
  | .cmp o a b, σ, h => (ev g a σ h).bind fun x h1 => (ev g b σ h1).bind fun y h2 => cmpS o x y h2
  | .chn o o' a b c, σ, h => (ev g a σ h).bind fun x h1 => (ev g b σ h1).bind fun y h2 => (cmpS o x y h2).bind fun z h3 => (match z with
    | .bl true => (ev g c σ h3).bind fun w h4 => cmpS o' y w h4
    | .bl false => .ok (.bl false) h3
    | _ => .bad)
  | .neg a, σ, h => (ev g a σ h).bind fun x h1 => (match x with
    | .int i => .ok (.int (-i)) h1
    | _ => .bad)
  | .not_ a, σ, h => (ev g a σ h).bind fun x h1 => (match x with
    | .bl b => .ok (.bl (!b)) h1
    | _ => .bad)
  | .and_ a b, σ, h => (ev g a σ h).bind fun x h1 => (match x with
    | .bl true => ev g b σ h1
    | .bl false => .ok (.bl false) h1
    | _ => .bad)
  | .or_ a b, σ, h => (ev g a σ h).bind fun x h1 => (match x with
    | .bl true => .ok (.bl true) h1
    | .bl false => ev g b σ h1
    | _ => .bad)
  | .ite c a b, σ, h => (ev g c σ h).bind fun x h1 => (match x with
    | .bl true => ev g a σ h1
    | .bl false => ev g b σ h1
    | _ => .bad)
  | .tr a, σ, h => (ev g a σ h).bind fun x h1 => (match truS x h1 with
    | some b => .ok (.bl b) h1
    | none => .bad)
  | .nil, _, h => .ok (.tup []) h
  | .cons a r, σ, h => (ev g a σ h).bind fun x h1 => (ev g r σ h1).bind fun y h2 => (match y with
    | .tup ds => .ok (.tup (x :: ds)) h2
    | _ => .bad)
  | .tup a, σ, h => (ev g a σ h).bind fun x h1 => (match x with
    | .tup ds => if ds.length ≤ 16777216 then .ok (.tup ds) h1 else .bad
    | _ => .bad)
  | .lst a, σ, h => (ev g a σ h).bind fun x h1 => (match x with
    | .tup ds => if ds.length ≤ 16777216 then .ok (.ref h1.length) (h1 ++ [.lst ds]) else .bad
    | _ => .bad)
  | .call f a, σ, h => (ev g a σ h).bind fun x h1 => (match x with
    | .tup ds => g.cf f ds h1
    | _ => .bad)
  | .callk f p a b, σ, h => (ev g a σ h).bind fun x h1 => (match x with
    | .tup ds => (ev g b σ h1).bind fun y h2 => (match y with
      | .tup es => g.cf f (p.filterMap fun i => (ds ++ es)[i]?) h2
      | _ => .bad)
    | _ => .bad)
  | .bi b a, σ, h => (ev g a σ h).bind fun x h1 => (match x with
    | .tup ds => biS b ds h1
    | _ => .bad)
  | .mth m o a, σ, h => (ev g o σ h).bind fun x h1 => if isLst h1 x = true then (ev g a σ h1).bind fun y h2 => (match y with
    | .tup ds => mthS m x ds h2
    | _ => .bad) else .bad
  | .isi a cs, σ, h => (ev g a σ h).bind fun x h1 => (match tyOf h1 x with
    | some t => .ok (.bl (cs.any fun n => t.sub n)) h1
    | none => .bad)
  | .isE cs, _, h => (match g.ex with
    | some (c, _, _) => (match isSome1 g.T c cs with
      | some b => .ok (.bl b) h
      | none => .bad)
    | none => .bad)
  | .sub a i, σ, h => (ev g a σ h).bind fun x h1 => (ev g i σ h1).bind fun y h2 => getS x y h2
  | .slc a l u, σ, h => (ev g a σ h).bind fun x h1 => (ev g l σ h1).bind fun y h2 => if (partOf y).isSome = true then (ev g u σ h2).bind fun z h3 => slcS x y z h3 else .bad
  | .itr k a, σ, h => (ev g a σ h).bind fun x h1 => (match x with
    | .tup ds => itS k ds h1
    | _ => .bad)
  | .lc p it c e, σ, h => (ev g it σ h).bind fun src h1 => (match lcLoop (lcBody p (ev g c) (ev g e) σ) src h1.length wf 0 (h1 ++ [.lst []]) with
    | .ok _ h2 => .ok (.ref h1.length) h2
    | _ => .bad)
  | .fld f, _, h => (match g.ex with
    | some (_, fs, vs) => (match (fs.zip vs).lookup f with
      | some d => .ok d h
      | none => .bad)
    | none => .bad)
def whlLoop (c : Sg → AH → R D) (b : Sg → AH → RS) : Nat → Sg → AH → RS
  | 0, _, _ => .bad
  | f + 1, σ, h => (match c σ h with
    | .ok (.bl true) h1 => (match b σ h1 with
      | .nx σ' h' => whlLoop c b f σ' h'
      | .ct σ' h' => whlLoop c b f σ' h'
      | .bk σ' h' => .nx σ' h'
      | r => r)
    | .ok (.bl false) h1 => .nx σ h1
    | .exc x fs vs h1 => .exc x fs vs σ h1
    | _ => .bad)
def forLoop (p : Pat) (b : Sg → AH → RS) (src : D) : Nat → Nat → Sg → AH → RS
  | 0, _, _, _ => .bad
  | f + 1, i, σ, h => (match draw h src i with
    | none => .bad
    | some none => .nx σ h
    | some (some d) => (match bindP p d σ with
      | none => .bad
      | some σ1 => (match b σ1 h with
        | .nx σ' h' => forLoop p b src f (i + 1) σ' h'
        | .ct σ' h' => forLoop p b src f (i + 1) σ' h'
        | .bk σ' h' => .nx σ' h'
        | r => r)))
/-- a statement that begins by an expression -/
def evS (r : R D) (σ : Sg) (k : D → AH → RS) : RS := match r with
  | .ok d h => k d h
  | .exc c fs vs h => .exc c fs vs σ h
  | .bad => .bad
def seqS (r : RS) (k : Sg → AH → RS) : RS := match r with
  | .nx σ h => k σ h
  | r => r
noncomputable def exec (g : Gs) : CS → Sg → AH → RS
  | .skip, σ, h => .nx σ h
  | .seq a b, σ, h => seqS (exec g a σ h) (exec g b)
  | .ex e, σ, h => evS (ev g e σ h) σ fun _ h1 => .nx σ h1
  | .asg p e, σ, h => evS (ev g e σ h) σ fun d h1 => (match bindP p d σ with
    | some σ' => .nx σ' h1
    | none => .bad)
  | .setI o i e, σ, h => evS (ev g e σ h) σ fun v h1 => evS (ev g o σ h1) σ fun x h2 => evS (ev g i σ h2) σ fun y h3 => (match setS x y v h3 with
    | some h4 => .nx σ h4
    | none => .bad)
  | .aug i o e, σ, h => (match σ[i]? with
    | some (some x) => evS (ev g e σ h) σ fun y h1 => evS (bopS o x y h1) σ fun z h2 => .nx (σ.set i (some z)) h2
    | _ => .bad)
  | .ifS c a b, σ, h => evS (ev g c σ h) σ fun x h1 => (match x with
    | .bl true => exec g a σ h1
    | .bl false => exec g b σ h1
    | _ => .bad)
  | .whl c b, σ, h => whlLoop (ev g c) (exec g b) wf σ h
  | .for_ p it b, σ, h => evS (ev g it σ h) σ fun src h1 => forLoop p (exec g b) src wf 0 σ h1
  | .ret e, σ, h => evS (ev g e σ h) σ fun d h1 => .rt d h1
  | .retN, _, h => .rt .non h
  | .raise c fs a, σ, h => evS (ev g a σ h) σ fun x h1 => (match x with
    | .tup ds => if ds.length = fs.length then .exc c fs.reverse ds.reverse σ h1 else .bad
    | _ => .bad)
  | .try_ b c i s, σ, h => (match exec g b σ h with
    | .exc c' fs vs σ1 h1 => (match subOf g.T c' c with
      | some true => if i < σ1.length then (match exec { g with ex := some (c', fs, vs) } s (σ1.set i none) h1 with
        | .nx σ2 h2 => .nx (σ2.set i none) h2
        | .bk σ2 h2 => .bk (σ2.set i none) h2
        | .ct σ2 h2 => .ct (σ2.set i none) h2
        | .rt d h2 => .rt d h2
        | _ => .bad) else .bad
      | some false => .exc c' fs vs σ1 h1
      | none => .bad)
    | r => r)
  | .brk, σ, h => .bk σ h
  | .cnt, σ, h => .ct σ h
/-- a def: how many names, how many parameters, its body -/
structure Df where
  name : Str
  N : List Str
  np : Nat
  body : CS
def startD (n : Nat) (ds : List D) : Sg := ds.map some ++ List.replicate (n - ds.length) none
def endS : RS → R D
  | .nx _ h => .ok .non h
  | .rt d h => .ok d h
  | .exc c fs vs _ h => .exc c fs vs h
  | _ => .bad
noncomputable def callN (T : SubT) (P : List Df) : Nat → Nat → List D → AH → R D
  | 0, _, _, _ => .bad
  | n + 1, f, ds, h => (match P[f]? with
    | some d => if ds.length = d.np then endS (exec ⟨callN T P n, T, none⟩ d.body (startD d.N.length ds) h) else .bad
    | none => .bad)
end Ly
end
section
set_option Elab.async false
set_option linter.all false
set_option maxRecDepth 100000
/-! Ly2: what a value, a heap of Ly stand for in the hand layer. -/
namespace Ly
open PySem PySem.Spec PyProof.Rows L2
abbrev St := L2.St

/-- what nobody changes -/
def Imm : HO → Prop
  | .tup _ => True
  | .frz _ _ => True
  | .xd _ => True
  | _ => False
structure Ext (H H' : Hp) : Prop where
  keep : ∀ a o, H a = some o → Imm o → H' a = some o
theorem Ext.refl (H : Hp) : Ext H H := ⟨fun _ _ e _ => e⟩
theorem Ext.trans {H H1 H2 : Hp} (a : Ext H H1) (b : Ext H1 H2) : Ext H H2 := ⟨fun c o e i => b.keep c o (a.keep c o e i) i⟩
theorem Ext.upd {H : Hp} {p : Addr} {o : HO} (h : ∀ u, H p = some u → ¬ Imm u) : Ext H (upd H p o) := ⟨fun a u e i => by
  have : a ≠ p := fun z => by subst z; exact h u e i
  rw [upd_ne this]; exact e⟩
theorem Ext.new {H : Hp} {p : Addr} {o : HO} (h : H p = none) : Ext H (L2.upd H p o) := Ext.upd fun u e => by rw [h] at e; cases e
/-- a list that nobody changes -/
def RoL (K : PySem.W.Frag) (H : Hp) (a : Addr) (xs : List V) : Prop :=
  (∃ o, H a = some (.frz o (.lst xs))) ∨
    ∃ (o : Obj) (its : Array Value) (n : Nat), K.lookup a = some o ∧ o.cls = .type "list" ∧ o.dict = none ∧ o.data = .seq its n ∧ its.size ≤ sizeLine ∧ Vals xs its.toList
theorem RoL.sq {K : PySem.W.Frag} {H : Hp} {a : Addr} {xs : List V} (h : RoL K H a xs) : SqL K H a xs := by
  rcases h with h | h
  · exact .inl (.inr h)
  · exact .inr h
theorem RoL.ext {K : PySem.W.Frag} {H H' : Hp} {a : Addr} {xs : List V} (h : RoL K H a xs) (e : Ext H H') : RoL K H' a xs := by
  rcases h with ⟨o, h⟩ | h
  · exact .inl ⟨o, e.keep _ _ h trivial⟩
  · exact .inr h
theorem sqT_ext {K : PySem.W.Frag} {H H' : Hp} {a : Addr} {xs : List V} (h : SqT K H a xs) (e : Ext H H') : SqT K H' a xs := by
  rcases h with (h | ⟨o, h⟩) | h
  · exact .inl (.inl (e.keep _ _ h trivial))
  · exact .inl (.inr ⟨o, e.keep _ _ h trivial⟩)
  · exact .inr h
/-- the exception in hand: where it is, its own dict, its slot, its class's name, its fields -/
structure XaR where
  a : Addr
  dd : Addr
  i : Nat
  c : Str
  fs : List Str
  vs : List D
abbrev Xa := Option XaR
mutual
inductive RepV (K : PySem.W.Frag) (xa : Xa) (ρ : List Addr) (H : Hp) : D → V → Prop
  | non : RepV K xa ρ H .non .non
  | bl (b : Bool) : RepV K xa ρ H (.bl b) (.bl b)
  | int (i : Int) : RepV K xa ρ H (.int i) (.int i)
  | str (x : Str) : RepV K xa ρ H (.str x) (.str x)
  | tup {ds : List D} {xs : List V} {a : Addr} : SqT K H a xs → RepVs K xa ρ H ds xs → RepV K xa ρ H (.tup ds) (.ref a)
  | rol {ds : List D} {xs : List V} {a : Addr} : RoL K H a xs → RepVs K xa ρ H ds xs → RepV K xa ρ H (.rol ds) (.ref a)
  | ref {n : Nat} {a : Addr} : ρ[n]? = some a → RepV K xa ρ H (.ref n) (.ref a)
inductive RepVs (K : PySem.W.Frag) (xa : Xa) (ρ : List Addr) (H : Hp) : List D → List V → Prop
  | nil : RepVs K xa ρ H [] []
  | cons {d : D} {v : V} {ds : List D} {vs : List V} : RepV K xa ρ H d v → RepVs K xa ρ H ds vs → RepVs K xa ρ H (d :: ds) (v :: vs)
end
section
variable {K : PySem.W.Frag} {xa : Xa} {ρ ρ' : List Addr} {H H' : Hp}
theorem get_pre {α : Type} {l l' : List α} {n : Nat} {a : α} (p : l <+: l') (h : l[n]? = some a) : l'[n]? = some a := by
  obtain ⟨t, rfl⟩ := p
  obtain ⟨h1, h2⟩ := List.getElem?_eq_some_iff.mp h
  rw [List.getElem?_append_left h1]; exact h
mutual
theorem RepV.ext (p : ρ <+: ρ') (e : Ext H H') : ∀ {d : D} {v : V}, RepV K xa ρ H d v → RepV K xa ρ' H' d v
  | _, _, .non => .non
  | _, _, .bl b => .bl b
  | _, _, .int i => .int i
  | _, _, .str x => .str x
  | _, _, .tup s r => .tup (sqT_ext s e) (RepVs.ext p e r)
  | _, _, .rol s r => .rol (s.ext e) (RepVs.ext p e r)
  | _, _, .ref h => .ref (get_pre p h)
theorem RepVs.ext (p : ρ <+: ρ') (e : Ext H H') : ∀ {ds : List D} {vs : List V}, RepVs K xa ρ H ds vs → RepVs K xa ρ' H' ds vs
  | _, _, .nil => .nil
  | _, _, .cons a b => .cons (RepV.ext p e a) (RepVs.ext p e b)
end
theorem RepVs.length : ∀ {ds : List D} {vs : List V}, RepVs K xa ρ H ds vs → ds.length = vs.length
  | _, _, .nil => rfl
  | _, _, .cons _ b => congrArg Nat.succ (RepVs.length b)
theorem RepVs.append : ∀ {ds es : List D} {vs ws : List V}, RepVs K xa ρ H ds vs → RepVs K xa ρ H es ws → RepVs K xa ρ H (ds ++ es) (vs ++ ws)
  | _, _, _, _, .nil, h => h
  | _, _, _, _, .cons a b, h => .cons a (RepVs.append b h)
theorem RepVs.get : ∀ {ds : List D} {vs : List V} {i : Nat} {d : D}, RepVs K xa ρ H ds vs → ds[i]? = some d → ∃ v, vs[i]? = some v ∧ RepV K xa ρ H d v
  | _, _, _, _, .nil, h => by simp at h
  | _, _, 0, _, .cons a b, h => by
    simp at h; subst h; exact ⟨_, rfl, a⟩
  | _, _, i + 1, _, .cons a b, h => by
    obtain ⟨v, h1, h2⟩ := RepVs.get (i := i) b (by simpa using h)
    exact ⟨v, by simpa using h1, h2⟩
theorem RepVs.get_none {ds : List D} {vs : List V} {i : Nat} (r : RepVs K xa ρ H ds vs) (h : ds[i]? = none) : vs[i]? = none := by
  have := r.length
  have := List.getElem?_eq_none_iff.mp h
  exact List.getElem?_eq_none_iff.mpr (by omega)
theorem RepVs.getV : ∀ {ds : List D} {vs : List V} {i : Nat} {v : V}, RepVs K xa ρ H ds vs → vs[i]? = some v → ∃ d, ds[i]? = some d ∧ RepV K xa ρ H d v := fun {ds vs i v} r h => by
  have hl := r.length
  obtain ⟨h1, _⟩ := List.getElem?_eq_some_iff.mp h
  have h2 : i < ds.length := by omega
  obtain ⟨w, e1, e2⟩ := r.get (List.getElem?_eq_getElem h2)
  rw [h] at e1; cases e1
  exact ⟨_, List.getElem?_eq_getElem h2, e2⟩
theorem RepVs.set {d : D} {v : V} (r : RepV K xa ρ H d v) : ∀ {ds : List D} {vs : List V} (i : Nat), RepVs K xa ρ H ds vs → RepVs K xa ρ H (ds.set i d) (vs.set i v)
  | _, _, _, .nil => .nil
  | _, _, 0, .cons _ b => .cons r b
  | _, _, i + 1, .cons a b => .cons a (RepVs.set r i b)
theorem RepVs.take : ∀ {ds : List D} {vs : List V} (n : Nat), RepVs K xa ρ H ds vs → RepVs K xa ρ H (ds.take n) (vs.take n)
  | _, _, 0, _ => .nil
  | _, _, _ + 1, .nil => .nil
  | _, _, n + 1, .cons a b => .cons a (RepVs.take n b)
theorem RepVs.drop : ∀ {ds : List D} {vs : List V} (n : Nat), RepVs K xa ρ H ds vs → RepVs K xa ρ H (ds.drop n) (vs.drop n)
  | _, _, 0, h => h
  | _, _, _ + 1, .nil => .nil
  | _, _, n + 1, .cons a b => RepVs.drop n b
theorem RepVs.eraseIdx : ∀ {ds : List D} {vs : List V} (n : Nat), RepVs K xa ρ H ds vs → RepVs K xa ρ H (ds.eraseIdx n) (vs.eraseIdx n)
  | _, _, _, .nil => .nil
  | _, _, 0, .cons a b => b
  | _, _, n + 1, .cons a b => .cons a (RepVs.eraseIdx n b)
theorem RepVs.dropLast {ds : List D} {vs : List V} (h : RepVs K xa ρ H ds vs) : RepVs K xa ρ H ds.dropLast vs.dropLast := by
  rw [List.dropLast_eq_take, List.dropLast_eq_take, h.length]; exact h.take _
theorem RepVs.reverse : ∀ {ds : List D} {vs : List V}, RepVs K xa ρ H ds vs → RepVs K xa ρ H ds.reverse vs.reverse
  | _, _, .nil => .nil
  | _, _, .cons a b => by
    rw [List.reverse_cons, List.reverse_cons]
    exact (RepVs.reverse b).append (.cons a .nil)
theorem RepVs.one {d : D} {v : V} (h : RepV K xa ρ H d v) : RepVs K xa ρ H [d] [v] := .cons h .nil
/-- the local names -/
inductive Rel0 (K : PySem.W.Frag) (xa : Xa) (ρ : List Addr) (H : Hp) : Sg → St → Prop
  | nil : Rel0 K xa ρ H [] []
  | none {σd : Sg} {σ : St} {o : Option V} : Rel0 K xa ρ H σd σ → Rel0 K xa ρ H (none :: σd) (o :: σ)
  | some {σd : Sg} {σ : St} {d : D} {v : V} : RepV K xa ρ H d v → Rel0 K xa ρ H σd σ → Rel0 K xa ρ H (some d :: σd) (some v :: σ)
theorem Rel0.ext (p : ρ <+: ρ') (e : Ext H H') : ∀ {σd : Sg} {σ : St}, Rel0 K xa ρ H σd σ → Rel0 K xa ρ' H' σd σ
  | _, _, .nil => .nil
  | _, _, .none h => .none (Rel0.ext p e h)
  | _, _, .some r h => .some (r.ext p e) (Rel0.ext p e h)
theorem Rel0.get : ∀ {σd : Sg} {σ : St} {i : Nat} {d : D}, Rel0 K xa ρ H σd σ → σd[i]? = Option.some (Option.some d) → ∃ v, σ[i]? = Option.some (Option.some v) ∧ RepV K xa ρ H d v
  | _, _, _, _, .nil, h => by simp at h
  | _, _, 0, _, .none _, h => by simp at h
  | _, _, 0, _, .some r _, h => by
    simp at h; subst h; exact ⟨_, rfl, r⟩
  | _, _, i + 1, _, .none b, h => by
    obtain ⟨v, h1, h2⟩ := Rel0.get (i := i) b (by simpa using h)
    exact ⟨v, by simpa using h1, h2⟩
  | _, _, i + 1, _, .some _ b, h => by
    obtain ⟨v, h1, h2⟩ := Rel0.get (i := i) b (by simpa using h)
    exact ⟨v, by simpa using h1, h2⟩
theorem Rel0.set {d : D} {v : V} (r : RepV K xa ρ H d v) : ∀ {σd : Sg} {σ : St} (i : Nat), Rel0 K xa ρ H σd σ → Rel0 K xa ρ H (σd.set i (Option.some d)) (σ.set i (Option.some v))
  | _, _, _, .nil => .nil
  | _, _, 0, .none b => .some r b
  | _, _, 0, .some _ b => .some r b
  | _, _, i + 1, .none b => .none (Rel0.set r i b)
  | _, _, i + 1, .some a b => .some a (Rel0.set r i b)
theorem Rel0.unset {o : Option V} : ∀ {σd : Sg} {σ : St} (i : Nat), Rel0 K xa ρ H σd σ → Rel0 K xa ρ H (σd.set i Option.none) (σ.set i o)
  | _, _, _, .nil => .nil
  | _, _, 0, .none b => .none b
  | _, _, 0, .some _ b => .none b
  | _, _, i + 1, .none b => .none (Rel0.unset i b)
  | _, _, i + 1, .some a b => .some a (Rel0.unset i b)
theorem Rel0.length : ∀ {σd : Sg} {σ : St}, Rel0 K xa ρ H σd σ → σd.length = σ.length
  | _, _, .nil => rfl
  | _, _, .none h => congrArg Nat.succ (Rel0.length h)
  | _, _, .some _ h => congrArg Nat.succ (Rel0.length h)
theorem Rel0.start : ∀ {ds : List D} {vs : List V} (n : Nat), RepVs K xa ρ H ds vs → Rel0 K xa ρ H (ds.map Option.some ++ List.replicate n Option.none) (vs.map Option.some ++ List.replicate n Option.none)
  | _, _, n, .nil => by
    show Rel0 K xa ρ H (List.replicate n Option.none) (List.replicate n Option.none)
    induction n with
    | zero => exact .nil
    | succ n ih => exact .none ih
  | _, _, n, .cons a b => .some a (Rel0.start n b)
/-- may slot i be stored to -/
def XaIx (xa : Xa) (i : Nat) : Prop := ∀ r, xa = some r → r.i ≠ i
theorem xaIx_none (i : Nat) : XaIx none i := fun _ h => by cases h
def XaOk (K : PySem.W.Frag) (xa : Xa) (ρ : List Addr) (H : Hp) (σ : St) : Prop := ∀ r, xa = some r → σ[r.i]? = some (some (.ref r.a)) ∧ ∃ fs, H r.dd = some (.xd fs) ∧ fs.map (·.1) = r.fs ∧ RepVs K xa ρ H r.vs (fs.map (·.2))
structure Rel (K : PySem.W.Frag) (xa : Xa) (ρ : List Addr) (H : Hp) (σd : Sg) (σ : St) : Prop where
  r : Rel0 K xa ρ H σd σ
  x : XaOk K xa ρ H σ
theorem XaOk.set {σ : St} {i : Nat} {o : Option V} (h : XaOk K xa ρ H σ) (hi : XaIx xa i) : XaOk K xa ρ H (σ.set i o) := fun r e => by
  obtain ⟨h1, h2⟩ := h r e
  exact ⟨by rw [List.getElem?_set_ne (Ne.symm (hi r e))]; exact h1, h2⟩
theorem Rel.ext (p : ρ <+: ρ') (e : Ext H H') {σd : Sg} {σ : St} (h : Rel K xa ρ H σd σ) : Rel K xa ρ' H' σd σ :=
  ⟨h.r.ext p e, fun r z => by
    obtain ⟨h1, fs, h2, h3, h4⟩ := h.x r z
    exact ⟨h1, fs, e.keep _ _ h2 trivial, h3, h4.ext p e⟩⟩
theorem Rel.get {σd : Sg} {σ : St} {i : Nat} {d : D} (h : Rel K xa ρ H σd σ) (e : σd[i]? = Option.some (Option.some d)) : ∃ v, σ[i]? = Option.some (Option.some v) ∧ RepV K xa ρ H d v := h.r.get e
theorem Rel.set {d : D} {v : V} (r : RepV K xa ρ H d v) {σd : Sg} {σ : St} (i : Nat) (hi : XaIx xa i) (h : Rel K xa ρ H σd σ) : Rel K xa ρ H (σd.set i (Option.some d)) (σ.set i (Option.some v)) := ⟨h.r.set r i, h.x.set hi⟩
theorem Rel.unset {o : Option V} {σd : Sg} {σ : St} (i : Nat) (hi : XaIx xa i) (h : Rel K xa ρ H σd σ) : Rel K xa ρ H (σd.set i Option.none) (σ.set i o) := ⟨h.r.unset i, h.x.set hi⟩
theorem Rel.length {σd : Sg} {σ : St} (h : Rel K xa ρ H σd σ) : σd.length = σ.length := h.r.length
theorem Rel.start {ds : List D} {vs : List V} (n : Nat) (h : RepVs K none ρ H ds vs) : Rel K none ρ H (ds.map Option.some ++ List.replicate n Option.none) (vs.map Option.some ++ List.replicate n Option.none) := ⟨Rel0.start n h, fun _ z => by cases z⟩
mutual
theorem RepV.sw {xb : Xa} : ∀ {d : D} {v : V}, RepV K xa ρ H d v → RepV K xb ρ H d v
  | _, _, .non => .non
  | _, _, .bl b => .bl b
  | _, _, .int i => .int i
  | _, _, .str x => .str x
  | _, _, .tup s r => .tup s (RepVs.sw r)
  | _, _, .rol s r => .rol s (RepVs.sw r)
  | _, _, .ref h => .ref h
theorem RepVs.sw {xb : Xa} : ∀ {ds : List D} {vs : List V}, RepVs K xa ρ H ds vs → RepVs K xb ρ H ds vs
  | _, _, .nil => .nil
  | _, _, .cons a b => .cons (RepV.sw a) (RepVs.sw b)
end
theorem Rel0.sw {xb : Xa} : ∀ {σd : Sg} {σ : St}, Rel0 K xa ρ H σd σ → Rel0 K xb ρ H σd σ
  | _, _, .nil => .nil
  | _, _, .none h => .none (Rel0.sw h)
  | _, _, .some r h => .some r.sw (Rel0.sw h)
/-! ### the heap -/
def RepO (K : PySem.W.Frag) (xa : Xa) (ρ : List Addr) (H : Hp) : AO → HO → Prop
  | .lst ds, o => ∃ xs, o = .lst xs ∧ RepVs K xa ρ H ds xs
  | .dct _, _ => False
theorem RepO.ext {ao : AO} {o : HO} (p : ρ <+: ρ') (e : Ext H H') (h : RepO K xa ρ H ao o) : RepO K xa ρ' H' ao o := by
  cases ao with
  | lst ds => obtain ⟨xs, a, r⟩ := h; exact ⟨xs, a, r.ext p e⟩
  | dct _ => exact h
theorem RepO.mut {ao : AO} {o : HO} (h : RepO K xa ρ H ao o) : ¬ Imm o := by
  cases ao with
  | lst ds => obtain ⟨xs, rfl, r⟩ := h; exact fun z => z
  | dct _ => exact h.elim
theorem nodup_ix' {N : List Addr} (hN : N.Nodup) {i j : Nat} {x : Addr} (a : N[i]? = some x) (b : N[j]? = some x) : i = j := by
  obtain ⟨h1, e1⟩ := List.getElem?_eq_some_iff.mp a
  obtain ⟨h2, e2⟩ := List.getElem?_eq_some_iff.mp b
  exact (List.getElem_inj hN).mp (e1.trans e2.symm)
structure RepH (K : PySem.W.Frag) (xa : Xa) (ρ : List Addr) (H : Hp) (h : AH) : Prop where
  len : ρ.length = h.length
  nd : ρ.Nodup
  obj : ∀ (n : Nat) (ao : AO), h[n]? = some ao → ∃ a o, ρ[n]? = some a ∧ H a = some o ∧ RepO K xa ρ H ao o
theorem RepH.mem {h : AH} (r : RepH K xa ρ H h) {a : Addr} (m : a ∈ ρ) : ∃ o, H a = some o ∧ ¬ Imm o := by
  obtain ⟨n, hn⟩ := List.mem_iff_getElem?.mp m
  obtain ⟨h1, _⟩ := List.getElem?_eq_some_iff.mp hn
  have h2 : n < h.length := by rw [← r.len]; exact h1
  obtain ⟨b, o, e1, e2, e3⟩ := r.obj n _ (List.getElem?_eq_getElem h2)
  rw [hn] at e1; cases e1
  exact ⟨o, e2, e3.mut⟩
theorem RepH.alloc {h : AH} (r : RepH K xa ρ H h) {p : Addr} {ao : AO} {o : HO} (hp : H p = none) (ro : RepO K xa ρ H ao o) : RepH K xa (ρ ++ [p]) (upd H p o) (h ++ [ao]) ∧ Ext H (upd H p o) ∧ ρ <+: ρ ++ [p] := by
  have e : Ext H (upd H p o) := Ext.new hp
  have pre : ρ <+: ρ ++ [p] := ⟨[p], rfl⟩
  refine ⟨⟨by simp [r.len], ?_, fun n a' hn => ?_⟩, e, pre⟩
  · refine List.nodup_append.mpr ⟨r.nd, by simp, fun a ha b hb => ?_⟩
    obtain rfl : b = p := by simpa using hb
    obtain ⟨u, hu, _⟩ := r.mem ha
    exact ne_of_none hu hp
  · by_cases hlt : n < h.length
    · rw [List.getElem?_append_left hlt] at hn
      obtain ⟨a, u, e1, e2, e3⟩ := r.obj n a' hn
      have hne : a ≠ p := ne_of_none e2 hp
      exact ⟨a, u, get_pre pre e1, by rw [upd_ne hne]; exact e2, e3.ext pre e⟩
    · have hl : n = h.length := by
        obtain ⟨h1, _⟩ := List.getElem?_eq_some_iff.mp hn
        simp at h1; omega
      subst hl
      simp at hn
      subst hn
      exact ⟨p, o, by rw [← r.len]; simp, upd_same, ro.ext pre e⟩
theorem RepH.write {h : AH} (r : RepH K xa ρ H h) {n : Nat} {a : Addr} {ao : AO} {o : HO} (ha : ρ[n]? = some a) (ro : RepO K xa ρ H ao o) : RepH K xa ρ (upd H a o) (h.set n ao) ∧ Ext H (upd H a o) := by
  have e : Ext H (upd H a o) := Ext.upd fun u hu => by
    obtain ⟨u', h1, h2⟩ := r.mem (List.mem_of_getElem? ha)
    rw [hu] at h1; cases h1; exact h2
  have pre : ρ <+: ρ := List.prefix_refl _
  refine ⟨⟨by rw [List.length_set]; exact r.len, r.nd, fun m a' hm => ?_⟩, e⟩
  by_cases hmn : n = m
  · subst hmn
    have hlt : n < h.length := by
      obtain ⟨h1, _⟩ := List.getElem?_eq_some_iff.mp ha
      rw [← r.len]; exact h1
    rw [List.getElem?_set_self hlt] at hm
    cases hm
    exact ⟨a, o, ha, upd_same, ro.ext pre e⟩
  · rw [List.getElem?_set_ne hmn] at hm
    obtain ⟨b, u, e1, e2, e3⟩ := r.obj m a' hm
    have hne : b ≠ a := fun z => by
      subst z
      exact hmn (nodup_ix' r.nd ha e1)
    exact ⟨b, u, e1, by rw [upd_ne hne]; exact e2, e3.ext pre e⟩
theorem RepH.sw {xb : Xa} {h : AH} (r : RepH K xa ρ H h) : RepH K xb ρ H h := ⟨r.len, r.nd, fun n ao hn => by
  obtain ⟨a, o, h1, h2, h3⟩ := r.obj n ao hn
  refine ⟨a, o, h1, h2, ?_⟩
  cases ao with
  | lst ds =>
    obtain ⟨xs, e, z⟩ := h3
    exact ⟨xs, e, z.sw⟩
  | dct _ => exact h3.elim⟩
theorem RepH.lst {h : AH} (r : RepH K xa ρ H h) {n : Nat} {a : Addr} {ds : List D} (ha : ρ[n]? = some a) (hn : h[n]? = some (.lst ds)) : ∃ xs, H a = some (.lst xs) ∧ RepVs K xa ρ H ds xs := by
  obtain ⟨b, o, e1, e2, xs, rfl, e4⟩ := r.obj n _ hn
  rw [ha] at e1; cases e1
  exact ⟨xs, e2, e4⟩
end
end Ly
end
section
set_option Elab.async false
set_option linter.all false
set_option maxRecDepth 100000
/-! Ly3: the rules: what the interpreter says of an expression is what the hand layer asks. -/
namespace Ly
open PySem PySem.Spec PyProof.Rows L2
abbrev RepF := List Addr → Hp → D → V → Prop
/-- what is wanted of a result -/
def Post (K : PySem.W.Frag) (xa : Xa) (Ex : XK) (ρ : List Addr) (H : Hp) (r : R D) (Q : VK) : Prop := match r with
  | .ok d h' => ∀ (ρ' : List Addr) (H' : Hp) (v : V), ρ <+: ρ' → Ext H H' → RepH K xa ρ' H' h' → RepV K xa ρ' H' d v → Q v H'
  | .exc c fs vs h' => ∀ (ρ' : List Addr) (H' : Hp) (dd : Addr) (xs : List (Str × V)), ρ <+: ρ' → Ext H H' → RepH K xa ρ' H' h' → H' dd = some (.xd xs) → xs.map (·.1) = fs → RepVs K xa ρ' H' vs (xs.map (·.2)) → Ex (.ref (He.ga K c)) (some dd) H'
  | .bad => False
section
variable {K : PySem.W.Frag} {xa : Xa} {Ex : XK} {ρ ρ' : List Addr} {H H' : Hp} {Q Q' : VK} {r : R D}
theorem Post.shift (p : ρ <+: ρ') (e : Ext H H') (h : Post K xa Ex ρ H r Q) : Post K xa Ex ρ' H' r Q := by
  cases r with
  | ok d h' => exact fun ρ2 H2 v p2 e2 => h ρ2 H2 v (p.trans p2) (e.trans e2)
  | exc c fs vs h' => exact fun ρ2 H2 dd xs p2 e2 => h ρ2 H2 dd xs (p.trans p2) (e.trans e2)
  | bad => exact h
/-- a step, then the rest -/
theorem Post.bind {k : D → AH → R D} (h : Post K xa Ex ρ H (r.bind k) Q)
    (hk : ∀ d h1 ρ1 H1 v, ρ <+: ρ1 → Ext H H1 → RepH K xa ρ1 H1 h1 → RepV K xa ρ1 H1 d v → Post K xa Ex ρ1 H1 (k d h1) Q → Q' v H1) : Post K xa Ex ρ H r Q' := by
  cases r with
  | ok d h' => exact fun ρ1 H1 v p e rh rv => hk d h' ρ1 H1 v p e rh rv (Post.shift p e h)
  | exc c fs vs h' => exact h
  | bad => exact h
theorem Post.imp (h : Post K xa Ex ρ H r Q) (hk : ∀ v H1, Q v H1 → Q' v H1) : Post K xa Ex ρ H r Q' := by
  cases r with
  | ok d h' => exact fun ρ1 H1 v p e rh rv => hk _ _ (h ρ1 H1 v p e rh rv)
  | exc c fs vs h' => exact h
  | bad => exact h
end
abbrev Fn := Sg → AH → R D
/-- the reading that a function of the interpreter gives -/
def semF (K : PySem.W.Frag) (xa : Xa) (W : WX) (f : Fn) : TE := fun σ H Q => ∃ (ρ : List Addr) (σd : Sg) (h : AH), Rel K xa ρ H σd σ ∧ RepH K xa ρ H h ∧ Post K xa (fun c d H' => W c d σ H') ρ H (f σd h) Q
/-- of a test -/
def semT (K : PySem.W.Frag) (xa : Xa) (W : WX) (f : Fn) : TT := fun σ H Q => ∃ (ρ : List Addr) (σd : Sg) (h : AH), Rel K xa ρ H σd σ ∧ RepH K xa ρ H h ∧ Post K xa (fun c d H' => W c d σ H') ρ H (f σd h) fun v H' => ∃ b, v = .bl b ∧ Q b H'
/-- of an argument list -/
def semA (K : PySem.W.Frag) (xa : Xa) (W : WX) (f : Fn) : TA := fun σ H Q => ∃ (ρ : List Addr) (σd : Sg) (h : AH), Rel K xa ρ H σd σ ∧ RepH K xa ρ H h ∧ (match f σd h with
  | .ok d h' => ∀ (ρ' : List Addr) (H' : Hp) (vs : List V) (ds : List D), d = .tup ds → ρ <+: ρ' → Ext H H' → RepH K xa ρ' H' h' → RepVs K xa ρ' H' ds vs → Q vs H'
  | .exc c fs vs h' => Post K xa (fun c d H' => W c d σ H') ρ H (.exc c fs vs h') fun _ _ => False
  | .bad => False)
theorem pe_w {X : Cx} {e : Expr} {t t' : TE} (h : PE X e t) (w : ∀ σ H Q, t' σ H Q → t σ H Q) : PE X e t' := ⟨fun pins s σ H Q I q => h.run pins s σ H Q I (w σ H Q q)⟩
theorem pt_w {X : Cx} {e : Expr} {t t' : TT} (h : PT X e t) (w : ∀ σ H Q, t' σ H Q → t σ H Q) : PT X e t' := ⟨fun pins s σ H Q I q => h.run pins s σ H Q I (w σ H Q q)⟩
theorem pw_w {X : Cx} {e : Expr} {t t' : TT} (h : PW X e t) (w : ∀ σ H Q, t' σ H Q → t σ H Q) : PW X e t' := ⟨fun wh pins s σ H Q I q => h.run wh pins s σ H Q I (w σ H Q q)⟩
theorem pa_w {X : Cx} {e : List Expr} {t t' : TA} (h : PA X e t) (w : ∀ σ H Q, t' σ H Q → t σ H Q) : PA X e t' := ⟨fun pos pins s σ H Q I q => h.run pos pins s σ H Q I (w σ H Q q)⟩
theorem ps_w {X : Cx} {e : Stmt} {t t' : TS} (h : PS X e t) (w : ∀ D σ H, t' D σ H → t D σ H) : PS X e t' := ⟨fun pins s σ H D I q => h.run pins s σ H D I (w D σ H q)⟩
theorem pss_w {X : Cx} {e : List Stmt} {t t' : TS} (h : PSs X e t) (w : ∀ D σ H, t' D σ H → t D σ H) : PSs X e t' := ⟨fun pins s σ H D I q => h.run pins s σ H D I (w D σ H q)⟩
section
variable {X : Cx} {xa : Xa} {W : WX} {a b c : Expr} {fa fb fc : Fn} {pos : Pos}
abbrev E1 (X : Cx) (xa : Xa) (W : WX) (e : Expr) (f : Fn) : Prop := PE X e (semF X.K xa W f)
abbrev T1 (X : Cx) (xa : Xa) (W : WX) (e : Expr) (f : Fn) : Prop := PT X e (semT X.K xa W f)
abbrev A1 (X : Cx) (xa : Xa) (W : WX) (es : List Expr) (f : Fn) : Prop := PA X es (semA X.K xa W f)
/-- run a, then what follows -/
theorem semF.then {K : PySem.W.Frag} {f : Fn} {k : D → AH → R D} {σ : St} {H : Hp} {Q Q' : VK} {ρ : List Addr} {σd : Sg} {h : AH} (rl : Rel K xa ρ H σd σ) (rh : RepH K xa ρ H h)
    (p : Post K xa (fun c d H' => W c d σ H') ρ H ((f σd h).bind k) Q)
    (hk : ∀ d h1 ρ1 H1 v, ρ <+: ρ1 → Ext H H1 → Rel K xa ρ1 H1 σd σ → RepH K xa ρ1 H1 h1 → RepV K xa ρ1 H1 d v → Post K xa (fun c d H' => W c d σ H') ρ1 H1 (k d h1) Q → Q' v H1) : semF K xa W f σ H Q' :=
  ⟨ρ, σd, h, rl, rh, p.bind fun d h1 ρ1 H1 v p1 e1 rh1 rv q => hk d h1 ρ1 H1 v p1 e1 (rl.ext p1 e1) rh1 rv q⟩
theorem Post.okv {K : PySem.W.Frag} {Ex : XK} {ρ : List Addr} {H : Hp} {d : D} {h : AH} {Q : VK} {v : V} (p : Post K xa Ex ρ H (.ok d h) Q) (rh : RepH K xa ρ H h) (rv : RepV K xa ρ H d v) : Q v H := p ρ H v (List.prefix_refl _) (Ext.refl _) rh rv
theorem Post.new {K : PySem.W.Frag} {Ex : XK} {ρ : List Addr} {H : Hp} {ds : List D} {xs : List V} {h : AH} {Q : VK} {q : Addr} (p : Post K xa Ex ρ H (.ok (.ref h.length) (h ++ [.lst ds])) Q) (rh : RepH K xa ρ H h) (hq : H q = none) (r : RepVs K xa ρ H ds xs) : Q (.ref q) (upd H q (.lst xs)) := by
  obtain ⟨a, b, c⟩ := rh.alloc (ao := .lst ds) hq ⟨xs, rfl, r⟩
  exact p _ _ _ c b a (.ref (by rw [← rh.len]; simp))
theorem RepH.tupx {K : PySem.W.Frag} {ρ : List Addr} {H : Hp} {h : AH} {p : Addr} {xs : List V} (rh : RepH K xa ρ H h) (hp : H p = none) : RepH K xa ρ (upd H p (.tup xs)) h ∧ Ext H (upd H p (.tup xs)) := by
  have e : Ext H (upd H p (.tup xs)) := Ext.new hp
  refine ⟨⟨rh.len, rh.nd, fun n ao hn => ?_⟩, e⟩
  obtain ⟨a, o, e1, e2, e3⟩ := rh.obj n ao hn
  exact ⟨a, o, e1, by rw [upd_ne (ne_of_none e2 hp)]; exact e2, e3.ext (List.prefix_refl _) e⟩
theorem Post.newT {K : PySem.W.Frag} {Ex : XK} {ρ : List Addr} {H : Hp} {ds : List D} {xs : List V} {h : AH} {Q : VK} {q : Addr} (p : Post K xa Ex ρ H (.ok (.tup ds) h) Q) (rh : RepH K xa ρ H h) (hq : H q = none) (r : RepVs K xa ρ H ds xs) : Q (.ref q) (upd H q (.tup xs)) := by
  obtain ⟨a, b⟩ := rh.tupx (xs := xs) hq
  exact p _ _ _ (List.prefix_refl _) b a (.tup (SqT.of upd_same) (r.ext (List.prefix_refl _) b))
theorem Post.write {K : PySem.W.Frag} {Ex : XK} {ρ : List Addr} {H : Hp} {ds : List D} {xs : List V} {h : AH} {Q : VK} {n : Nat} {a : Addr} {d : D} {v : V} (p : Post K xa Ex ρ H (.ok d (h.set n (.lst ds))) Q) (rh : RepH K xa ρ H h) (ha : ρ[n]? = some a) (r : RepVs K xa ρ H ds xs) (rv : RepV K xa ρ H d v) : Q v (upd H a (.lst xs)) := by
  obtain ⟨a1, b1⟩ := rh.write (ao := .lst ds) ha ⟨xs, rfl, r⟩
  exact p _ _ _ (List.prefix_refl _) b1 a1 (rv.ext (List.prefix_refl _) b1)
/-! ### names, constants -/
theorem e_var {i : Nat} {x : Str} {g : Gs} (hN : X.N[i]? = some x) (hv : Vis X.env.scope x) (hd : (x == ("__debug__" : Str)) = false) (hcd : (x == ("__classdict__" : Str)) = false) : E1 X xa W (.Name x pos) (ev g (.var i)) :=
  pe_w (pe_var hN hv hd hcd) fun σ H Q ⟨ρ, σd, h, rl, rh, p⟩ => by
    have p' : Post X.K xa (fun c d H' => W c d σ H') ρ H (match σd[i]? with
      | some (some d) => .ok d h
      | _ => .bad) Q := p
    cases e : σd[i]? with
    | none => rw [e] at p'; exact p'.elim
    | some o =>
      cases o with
      | none => rw [e] at p'; exact p'.elim
      | some d =>
        rw [e] at p'
        obtain ⟨v, e1, r⟩ := rl.get e
        exact ⟨v, e1, p'.okv rh r⟩
theorem e_cst {g : Gs} {d : D} {v : V} {e : Expr} (h : PE X e (tC v)) (r : ∀ (ρ : List Addr) (H : Hp), RepV X.K xa ρ H d v) : E1 X xa W e (ev g (.cst d)) :=
  pe_w h fun σ H Q ⟨ρ, σd, h, rl, rh, p⟩ => Post.okv p rh (r ρ H)
/-! ### operators -/
/-- what an operator asks of two values -/
def rB (K : PySem.W.Frag) (xa : Xa) (s : D → D → AH → R D) : R2 := fun x y H Q => ∃ (ρ : List Addr) (h : AH) (d e : D) (Ex : XK), RepH K xa ρ H h ∧ RepV K xa ρ H d x ∧ RepV K xa ρ H e y ∧ Post K xa Ex ρ H (s d e h) Q
theorem rB_of {K : PySem.W.Frag} {s : D → D → AH → R D} {σ : St} {H : Hp} {Q : VK} (h : semF K xa W (fun σ h => (fa σ h).bind fun x h1 => (fb σ h1).bind fun y h2 => s x y h2) σ H Q) : tOp (rB K xa s) (semF K xa W fa) (semF K xa W fb) σ H Q := by
  obtain ⟨ρ, σd, h, rl, rh, p⟩ := h
  refine semF.then rl rh p fun d h1 ρ1 H1 v q1 e1 rl1 rh1 rv p1 => semF.then rl1 rh1 p1 fun e h2 ρ2 H2 u q2 e2 rl2 rh2 ru p2 => ?_
  exact ⟨ρ2, h2, d, e, _, rh2, rv.ext q2 e2, ru, p2⟩
theorem e_bop {g : Gs} {o : Operator} {ca cb : CE} (ho : OpR X (binaryOp o) (rB X.K xa (bopS o))) (ha : E1 X xa W a (ev g ca)) (hb : E1 X xa W b (ev g cb)) : E1 X xa W (.BinOp a o b pos) (ev g (.bop o ca cb)) :=
  pe_w (pe_op ho ha hb) fun σ H Q h => rB_of h
theorem e_cmp {g : Gs} {o : CmpOp} {ca cb : CE} (ho : OpR X (compareOp o) (rB X.K xa (cmpS o))) (ha : E1 X xa W a (ev g ca)) (hb : E1 X xa W b (ev g cb)) (hm : behindInMarks o b = false) : E1 X xa W (.Compare a [o] [b] pos) (ev g (.cmp o ca cb)) :=
  pe_w (pe_cmpR ho ha hb hm) fun σ H Q h => rB_of h
/-! ### the operators' rules -/
theorem OpR_w {f : Value → Value → Sem Value} {r r' : R2} (h : OpR X f r) (w : ∀ x y H Q, r' x y H Q → r x y H Q) : OpR X f r' := fun pins s σ H x y v u Q I rx ry q => h pins s σ H x y v u Q I rx ry (w _ _ _ _ q)
end
end Ly
end
section
set_option Elab.async false
set_option linter.all false
set_option maxRecDepth 100000
set_option maxHeartbeats 1000000
/-! Ly4: the operators. -/
namespace Ly
open PySem PySem.Spec PyProof.Rows L2
theorem optMap_some {α β : Type} {f : α → Option β} : ∀ {xs : List α} {ys : List β}, optMap f xs = some ys → Paired (fun x y => f x = some y) xs ys
  | [], ys, h => by
    have : ys = [] := by simpa [optMap] using h.symm
    subst this; exact .nil
  | x :: xs, ys, h => by
    unfold optMap at h
    cases e1 : f x with
    | none => rw [e1] at h; cases h
    | some y =>
      cases e2 : optMap f xs with
      | none => rw [e1, e2] at h; cases h
      | some zs =>
        rw [e1, e2] at h
        cases h
        exact .cons e1 (optMap_some e2)
theorem seqOf_sq {X : Cx} {xa : Xa} {ρ : List Addr} {H : Hp} {h : AH} {d : D} {v : V} {ds : List D} (rh : RepH X.K xa ρ H h) (r : RepV X.K xa ρ H d v) (e : seqOf h d = some ds) :
    ∃ a xs, v = .ref a ∧ (SqL X.K H a xs ∨ SqT X.K H a xs) ∧ RepVs X.K xa ρ H ds xs := by
  cases r with
  | tup s r =>
    have e' : some _ = some ds := e
    cases e'
    exact ⟨_, _, rfl, .inr s, r⟩
  | rol s r =>
    have e' : some _ = some ds := e
    cases e'
    exact ⟨_, _, rfl, .inl s.sq, r⟩
  | @ref n a ha =>
    have e' : (match h[n]? with
      | some (.lst xs) => some xs
      | _ => none) = some ds := e
    cases q : h[n]? with
    | none => rw [q] at e'; cases e'
    | some ao =>
      rw [q] at e'
      cases ao with
      | dct _ => cases e'
      | lst xs =>
        cases e'
        obtain ⟨vs, h1, h2⟩ := rh.lst ha q
        exact ⟨_, _, rfl, .inl (SqL.of h1), h2⟩
  | non => cases e
  | bl => cases e
  | int => cases e
  | str => cases e
section
variable {X : Cx} {xa : Xa} {pins : List (Addr × Obj)} {σ : St} {H : Hp} {s : Shared} {ρ : List Addr} {h : AH}
theorem pds_of {k : Nat} (f : ∀ (d : D) (p : PyData) (v : V) (u : Value), pd h k d = some p → RepV X.K xa ρ H d v → RelV v u → (∃ as, Reads s.heap u p as) ∧ p.plain = true ∧ p.depth ≤ k) :
    ∀ {ds : List D} {ps : List PyData} {vs : List V} {us : List Value}, Paired (fun x y => pd h k x = some y) ds ps → RepVs X.K xa ρ H ds vs → Vals vs us → (∃ as, ReadsAll s.heap us ps as) ∧ PyData.plainAll ps = true ∧ PyData.depthAll ps ≤ k
  | _, _, _, _, .nil, r, q => by
    cases r; cases q
    exact ⟨⟨_, .nil⟩, rfl, Nat.zero_le _⟩
  | _, _, _, _, .cons e t, r, q => by
    cases r with
    | cons r1 r2 =>
      cases q with
      | cons q1 q2 =>
        obtain ⟨⟨as, a1⟩, a2, a3⟩ := f _ _ _ _ e r1 q1
        obtain ⟨⟨bs, b1⟩, b2, b3⟩ := pds_of f t r2 q2
        exact ⟨⟨_, .cons a1 b1⟩, by simp [PyData.plainAll, a2, b2], by simp only [PyData.depthAll]; omega⟩
theorem pd_reads (I : Inv X pins σ H s) (rh : RepH X.K xa ρ H h) : ∀ (k : Nat) (d : D) (p : PyData) (v : V) (u : Value), pd h k d = some p → RepV X.K xa ρ H d v → RelV v u → (∃ as, Reads s.heap u p as) ∧ p.plain = true ∧ p.depth ≤ k
  | 0, _, _, _, _, e, _, _ => by cases e
  | k + 1, d, p, v, u, e, r, q => by
    have tupc : ∀ {ds : List D} {xs : List V} {a : Addr} {u : Value} {p : PyData}, SqT X.K H a xs → RepVs X.K xa ρ H ds xs → RelV (.ref a) u → (optMap (pd h k) ds).map PyData.tuple = some p → (∃ as, Reads s.heap u p as) ∧ p.plain = true ∧ p.depth ≤ k + 1 := fun {ds xs a u p} hs hr hq he => by
      cases q2 : optMap (pd h k) ds with
      | none => rw [q2] at he; cases he
      | some ps =>
        rw [q2] at he
        cases he
        obtain ⟨its, rv, ⟨o, ho, hc, n, hd⟩, _⟩ := I.tuple hs
        obtain ⟨⟨as, a1⟩, a2, a3⟩ := pds_of (pd_reads I rh k) (optMap_some q2) hr rv
        cases hq
        exact ⟨⟨_, .tuple ho hc hd a1⟩, a2, by simp only [PyData.depth]; omega⟩
    have lstc : ∀ {ds : List D} {xs : List V} {a : Addr} {u : Value} {p : PyData}, SqL X.K H a xs → RepVs X.K xa ρ H ds xs → RelV (.ref a) u → (optMap (pd h k) ds).map PyData.list = some p → (∃ as, Reads s.heap u p as) ∧ p.plain = true ∧ p.depth ≤ k + 1 := fun {ds xs a u p} hs hr hq he => by
      cases q2 : optMap (pd h k) ds with
      | none => rw [q2] at he; cases he
      | some ps =>
        rw [q2] at he
        cases he
        obtain ⟨its, rv, ⟨o, n, ho, hc, _, hd⟩, _⟩ := I.list hs
        obtain ⟨⟨as, a1⟩, a2, a3⟩ := pds_of (pd_reads I rh k) (optMap_some q2) hr rv
        cases hq
        exact ⟨⟨_, .list ho hc hd a1⟩, a2, by simp only [PyData.depth]; omega⟩
    cases r with
    | non => cases e; cases q; exact ⟨⟨_, .none⟩, rfl, Nat.zero_le _⟩
    | bl b => cases e; cases q; exact ⟨⟨_, .bool b⟩, rfl, Nat.zero_le _⟩
    | int i => cases e; obtain ⟨t, rfl⟩ := q; exact ⟨⟨_, .int i t⟩, rfl, Nat.zero_le _⟩
    | str x => cases e; obtain ⟨t, rfl⟩ := q; exact ⟨⟨_, .str x t⟩, rfl, Nat.zero_le _⟩
    | tup hs hr => exact tupc hs hr q e
    | rol hs hr => exact lstc hs.sq hr q e
    | @ref n a ha =>
      have e' : (match h[n]? with
        | some (.lst xs) => (optMap (pd h k) xs).map .list
        | _ => none) = some p := e
      cases q2 : h[n]? with
      | none => rw [q2] at e'; cases e'
      | some ao =>
        rw [q2] at e'
        cases ao with
        | dct _ => cases e'
        | lst xs =>
          obtain ⟨vs, h1, h2⟩ := rh.lst ha q2
          exact lstc (SqL.of h1) h2 q e'
end
section
variable {X : Cx} {xa : Xa}
theorem Post.bad' {K : PySem.W.Frag} {Ex : XK} {ρ : List Addr} {H : Hp} {Q : VK} {C : Prop} (p : Post K xa Ex ρ H .bad Q) : C := p.elim
theorem vals_nil {ds : List D} {vs : List V} {K : PySem.W.Frag} {ρ : List Addr} {H : Hp} (r : RepVs K xa ρ H ds vs) : vs = [] ↔ ds = [] := by
  cases r <;> simp
theorem op_Add : OpR X (binaryOp .Add) (rB X.K xa (bopS .Add)) := by
  intro pins s σ H x y v u Q I rx ry ⟨ρ, h, d, e, Ex, rh, rd, re, p⟩
  cases rd with
  | int i =>
    cases re with
    | int j => exact op_add pins s σ H _ _ v u Q I rx ry ⟨i, j, rfl, rfl, p.okv rh (.int _)⟩
    | _ => exact p.elim
  | @tup ds xs a s1 r1 =>
    cases re with
    | @tup es ys b s2 r2 =>
      have p' : Post X.K xa Ex ρ H (if ds.length + es.length ≤ 16777216 then .ok (.tup (ds ++ es)) h else .bad) Q := p
      by_cases c : ds.length + es.length ≤ 16777216
      · rw [if_pos c] at p'
        have l1 := r1.length
        have l2 := r2.length
        refine op_catA pins s σ H _ _ v u Q I rx ry ⟨a, b, xs, ys, rfl, rfl, s1, s2, by rw [sizeLine_eq]; omega, fun z => ?_, fun _ z => ?_, fun _ _ q hq => ?_⟩
        · have z' := (vals_nil r1).mp z
          subst z'
          exact p'.okv rh (.tup s2 r2)
        · have z' := (vals_nil r2).mp z
          subst z'
          rw [List.append_nil] at p'
          exact p'.okv rh (.tup s1 r1)
        · exact p'.newT rh hq (r1.append r2)
      · rw [if_neg c] at p'; exact p'.elim
    | _ => exact p.elim
  | @ref n a ha =>
    cases re with
    | @ref m b hb =>
      have p' : Post X.K xa Ex ρ H (match h[n]?, h[m]? with
        | some (.lst xs), some (.lst ys) => if xs.length + ys.length ≤ 16777216 then .ok (.ref h.length) (h ++ [.lst (xs ++ ys)]) else .bad
        | _, _ => .bad) Q := p
      cases q1 : h[n]? with
      | none => rw [q1] at p'; exact p'.elim
      | some o1 =>
        cases o1 with
        | dct _ => rw [q1] at p'; exact p'.elim
        | lst ds =>
          cases q2 : h[m]? with
          | none => rw [q1, q2] at p'; exact p'.elim
          | some o2 =>
            cases o2 with
            | dct _ => rw [q1, q2] at p'; exact p'.elim
            | lst es =>
              rw [q1, q2] at p'
              have p' : Post X.K xa Ex ρ H (if ds.length + es.length ≤ 16777216 then .ok (.ref h.length) (h ++ [.lst (ds ++ es)]) else .bad) Q := p'
              by_cases c : ds.length + es.length ≤ 16777216
              · rw [if_pos c] at p'
                obtain ⟨xs, h1, r1⟩ := rh.lst ha q1
                obtain ⟨ys, h2, r2⟩ := rh.lst hb q2
                have l1 := r1.length
                have l2 := r2.length
                exact op_cat pins s σ H _ _ v u Q I rx ry ⟨a, b, xs, ys, rfl, rfl, h1, h2, by rw [sizeLine_eq]; omega, fun q hq => p'.new rh hq (r1.append r2)⟩
              · rw [if_neg c] at p'; exact p'.elim
    | _ => exact p.elim
  | _ => exact p.elim
theorem opInt {op : Value → Value → Sem Value} {C : Int → Int → Prop} {g : Int → Int → V} (ho : OpR X op (rI C g)) {sm : D → D → AH → R D} {gd : Int → Int → D} (c : Int → Int → Bool) (hc : ∀ i j, c i j = true → C i j)
    (hg : ∀ i j K ρ H, RepV K xa ρ H (gd i j) (g i j))
    (hs : ∀ i j h, sm (.int i) (.int j) h = if c i j = true then .ok (gd i j) h else .bad) (hb : ∀ d e h, (∀ i j, ¬ (d = .int i ∧ e = .int j)) → sm d e h = .bad) : OpR X op (rB X.K xa sm) := by
  intro pins s σ H x y v u Q I rx ry ⟨ρ, h, d, e, Ex, rh, rd, re, p⟩
  by_cases z : ∃ i j, d = .int i ∧ e = .int j
  · obtain ⟨i, j, rfl, rfl⟩ := z
    rw [hs] at p
    by_cases cc : c i j = true
    · rw [if_pos cc] at p
      cases rd
      cases re
      exact ho pins s σ H _ _ v u Q I rx ry ⟨i, j, rfl, rfl, hc _ _ cc, p.okv rh (hg _ _ _ _ _)⟩
    · rw [if_neg cc] at p; exact p.elim
  · rw [hb d e h fun i j q => z ⟨i, j, q⟩] at p; exact p.elim
theorem rI0_rI {op : Value → Value → Sem Value} {g : Int → Int → V} (ho : OpR X op (rI0 g)) : OpR X op (rI (fun _ _ => True) g) := OpR_w ho fun x y H Q ⟨i, j, a, b, _, q⟩ => ⟨i, j, a, b, q⟩
theorem op_Sub : OpR X (binaryOp .Sub) (rB X.K xa (bopS .Sub)) := opInt (gd := fun i j => .int (i - j)) (rI0_rI op_sub) (fun _ _ => true) (fun _ _ _ => trivial) (fun _ _ _ _ _ => .int _) (fun _ _ _ => rfl) fun d e h n => by
  cases d <;> try rfl
  cases e <;> try rfl
  exact absurd ⟨rfl, rfl⟩ (n _ _)
theorem op_Mult : OpR X (binaryOp .Mult) (rB X.K xa (bopS .Mult)) := opInt (gd := fun i j => .int (i * j)) op_mul mulOk (fun i j h => by
    unfold mulOk at h
    simp only [Bool.or_eq_true, Bool.and_eq_true, decide_eq_true_eq] at h
    unfold two64 at h
    exact h) (fun _ _ _ _ _ => .int _) (fun _ _ _ => rfl) fun d e h n => by
  cases d <;> try rfl
  cases e <;> try rfl
  exact absurd ⟨rfl, rfl⟩ (n _ _)
theorem op_FloorDiv : OpR X (binaryOp .FloorDiv) (rB X.K xa (bopS .FloorDiv)) := opInt (gd := fun i j => .int (i / j)) op_fdiv (fun i j => decide (0 < j ∧ j < 1073741824)) (fun i j h => by
    have z : 0 < j ∧ j < 1073741824 := of_decide_eq_true h
    exact z) (fun _ _ _ _ _ => .int _) (fun i j h => by
    show (if 0 < j ∧ j < 1073741824 then _ else _) = _
    by_cases c : 0 < j ∧ j < 1073741824
    · rw [if_pos c, if_pos (decide_eq_true c)]
    · rw [if_neg c, if_neg (by simpa using c)]) fun d e h n => by
  cases d <;> try rfl
  cases e <;> try rfl
  exact absurd ⟨rfl, rfl⟩ (n _ _)
theorem op_Mod : OpR X (binaryOp .Mod) (rB X.K xa (bopS .Mod)) := opInt (gd := fun i j => .int (i % j)) L2.op_mod (fun i j => decide (0 < j)) (fun i j h => of_decide_eq_true h) (fun _ _ _ _ _ => .int _) (fun i j h => by
    show (if 0 < j then _ else _) = _
    by_cases c : 0 < j
    · rw [if_pos c, if_pos (decide_eq_true c)]
    · rw [if_neg c, if_neg (by simpa using c)]) fun d e h n => by
  cases d <;> try rfl
  cases e <;> try rfl
  exact absurd ⟨rfl, rfl⟩ (n _ _)
theorem op_Pow : OpR X (binaryOp .Pow) (rB X.K xa (bopS .Pow)) := opInt (gd := fun i j => .int (i ^ j.toNat)) op_pow (fun i j => decide (0 ≤ j ∧ j ≤ 1000000 ∧ i.natAbs < 18446744073709551616)) (fun i j h => by
    have := of_decide_eq_true h
    exact ⟨this.1, this.2.1, this.2.2⟩) (fun _ _ _ _ _ => .int _) (fun i j h => by
    show (if 0 ≤ j ∧ j ≤ 1000000 ∧ i.natAbs < 18446744073709551616 then _ else _) = _
    by_cases c : 0 ≤ j ∧ j ≤ 1000000 ∧ i.natAbs < 18446744073709551616
    · rw [if_pos c, if_pos (decide_eq_true c)]
    · rw [if_neg c, if_neg (by simpa using c)]) fun d e h n => by
  cases d <;> try rfl
  cases e <;> try rfl
  exact absurd ⟨rfl, rfl⟩ (n _ _)
theorem op_Lt : OpR X (compareOp .Lt) (rB X.K xa (cmpS .Lt)) := opInt (gd := fun i j => .bl (decide (i < j))) (rI0_rI op_lt) (fun _ _ => true) (fun _ _ _ => trivial) (fun _ _ _ _ _ => .bl _) (fun _ _ _ => rfl) fun d e h n => by
  cases d <;> try rfl
  cases e <;> try rfl
  exact absurd ⟨rfl, rfl⟩ (n _ _)
theorem op_LtE : OpR X (compareOp .LtE) (rB X.K xa (cmpS .LtE)) := opInt (gd := fun i j => .bl (decide (i ≤ j))) (rI0_rI op_le) (fun _ _ => true) (fun _ _ _ => trivial) (fun _ _ _ _ _ => .bl _) (fun _ _ _ => rfl) fun d e h n => by
  cases d <;> try rfl
  cases e <;> try rfl
  exact absurd ⟨rfl, rfl⟩ (n _ _)
theorem op_Gt : OpR X (compareOp .Gt) (rB X.K xa (cmpS .Gt)) := opInt (gd := fun i j => .bl (decide (j < i))) (rI0_rI op_gt) (fun _ _ => true) (fun _ _ _ => trivial) (fun _ _ _ _ _ => .bl _) (fun _ _ _ => rfl) fun d e h n => by
  cases d <;> try rfl
  cases e <;> try rfl
  exact absurd ⟨rfl, rfl⟩ (n _ _)
theorem op_GtE : OpR X (compareOp .GtE) (rB X.K xa (cmpS .GtE)) := opInt (gd := fun i j => .bl (decide (j ≤ i))) (rI0_rI op_ge) (fun _ _ => true) (fun _ _ _ => trivial) (fun _ _ _ _ _ => .bl _) (fun _ _ _ => rfl) fun d e h n => by
  cases d <;> try rfl
  cases e <;> try rfl
  exact absurd ⟨rfl, rfl⟩ (n _ _)
theorem op_Eq (hu : X.A.units + 64 < cLine) : OpR X (compareOp .Eq) (rB X.K xa (cmpS .Eq)) := by
  intro pins s σ H x y v u Q I rx ry ⟨ρ, h, d, e, Ex, rh, rd, re, p⟩
  have p' : Post X.K xa Ex ρ H (match pd h pdN d, pd h pdN e with
    | some p, some q => okB (PyData.eqv p q) h
    | _, _ => .bad) Q := p
  cases q1 : pd h pdN d with
  | none => rw [q1] at p'; exact p'.elim
  | some a =>
    cases q2 : pd h pdN e with
    | none => rw [q1, q2] at p'; exact p'.elim
    | some b =>
      rw [q1, q2] at p'
      obtain ⟨⟨as, a1⟩, a2, a3⟩ := pd_reads I rh _ _ _ _ _ q1 rd rx
      obtain ⟨⟨bs, b1⟩, b2, b3⟩ := pd_reads I rh _ _ _ _ _ q2 re ry
      have z : a.depth ≤ 60 := a3
      refine SeqAt.eq_plain a1 b1 a2 b2 (by omega) ⟨.bl _, H, I, rfl, Post.okv p' rh (.bl _)⟩
theorem op_NotEq (hu : X.A.units + 64 < cLine) : OpR X (compareOp .NotEq) (rB X.K xa (cmpS .NotEq)) := by
  intro pins s σ H x y v u Q I rx ry ⟨ρ, h, d, e, Ex, rh, rd, re, p⟩
  have p' : Post X.K xa Ex ρ H (match pd h pdN d, pd h pdN e with
    | some p, some q => okB (!PyData.eqv p q) h
    | _, _ => .bad) Q := p
  cases q1 : pd h pdN d with
  | none => rw [q1] at p'; exact p'.elim
  | some a =>
    cases q2 : pd h pdN e with
    | none => rw [q1, q2] at p'; exact p'.elim
    | some b =>
      rw [q1, q2] at p'
      obtain ⟨⟨as, a1⟩, a2, a3⟩ := pd_reads I rh _ _ _ _ _ q1 rd rx
      obtain ⟨⟨bs, b1⟩, b2, b3⟩ := pd_reads I rh _ _ _ _ _ q2 re ry
      have z : a.depth ≤ 60 := a3
      refine SeqAt.ne_plain a1 b1 a2 b2 (by omega) ⟨.bl _, H, I, rfl, Post.okv p' rh (.bl _)⟩
theorem op_InS (hu : X.A.units + 65 < cLine) (neg : Bool) : OpR X (compareOp (if neg then .NotIn else .In)) (rB X.K xa (inS neg)) := by
  intro pins s σ H x y v u Q I rx ry ⟨ρ, h, d, e, Ex, rh, rd, re, p⟩
  unfold inS at p
  cases q0 : seqOf h e with
  | none => rw [q0] at p; exact p.elim
  | some ys =>
    rw [q0] at p
    dsimp only at p
    cases q1 : pd h pdN d with
    | none => rw [q1] at p; exact p.elim
    | some a =>
      cases q2 : optMap (pd h pdN) ys with
      | none => rw [q1, q2] at p; exact p.elim
      | some ps =>
        rw [q1, q2] at p
        dsimp only at p
        obtain ⟨⟨as, a1⟩, a2, a3⟩ := pd_reads I rh _ _ _ _ _ q1 rd rx
        obtain ⟨b, xs, rfl, hs, rv⟩ := seqOf_sq rh re q0
        cases ry
        have z : a.depth ≤ 60 := a3
        rcases hs with hs | hs
        · obtain ⟨its, rv2, ⟨o, n, ho, hc, _, hd⟩, _⟩ := I.list hs
          obtain ⟨⟨bs, b1⟩, b2, b3⟩ := pds_of (pd_reads I rh pdN) (optMap_some q2) rv rv2
          have rr : Reads s.heap (.ref b) (.list ps) _ := .list ho hc hd b1
          cases neg with
          | false => exact SeqAt.in_list_data rr a1 b2 a2 (by omega) ⟨.bl _, H, I, rfl, Post.okv p rh (.bl _)⟩
          | true => exact SeqAt.notIn_list_data rr a1 b2 a2 (by omega) ⟨.bl _, H, I, rfl, Post.okv p rh (.bl _)⟩
        · obtain ⟨its, rv2, ⟨o, ho, hc, n, hd⟩, _⟩ := I.tuple hs
          obtain ⟨⟨bs, b1⟩, b2, b3⟩ := pds_of (pd_reads I rh pdN) (optMap_some q2) rv rv2
          have rr : Reads s.heap (.ref b) (.tuple ps) _ := .tuple ho hc hd b1
          cases neg with
          | false => exact SeqAt.in_tuple_data rr a1 b2 a2 (by omega) ⟨.bl _, H, I, rfl, Post.okv p rh (.bl _)⟩
          | true => exact SeqAt.notIn_tuple_data rr a1 b2 a2 (by omega) ⟨.bl _, H, I, rfl, Post.okv p rh (.bl _)⟩
theorem op_Is : OpR X (compareOp .Is) (rB X.K xa (cmpS .Is)) := by
  intro pins s σ H x y v u Q I rx ry ⟨ρ, h, d, e, Ex, rh, rd, re, p⟩
  cases re with
  | non =>
    cases rd with
    | rol => exact p.elim
    | non => exact op_isN pins s σ H _ _ v u Q I rx ry ⟨rfl, Post.okv p rh (.bl _)⟩
    | bl b => exact op_isN pins s σ H _ _ v u Q I rx ry ⟨rfl, Post.okv p rh (.bl _)⟩
    | int b => exact op_isN pins s σ H _ _ v u Q I rx ry ⟨rfl, Post.okv p rh (.bl _)⟩
    | str b => exact op_isN pins s σ H _ _ v u Q I rx ry ⟨rfl, Post.okv p rh (.bl _)⟩
    | tup s1 r1 => exact op_isN pins s σ H _ _ v u Q I rx ry ⟨rfl, Post.okv p rh (.bl _)⟩
    | ref s1 => exact op_isN pins s σ H _ _ v u Q I rx ry ⟨rfl, Post.okv p rh (.bl _)⟩
  | bl b =>
    cases rd with
    | bl a => exact op_is_bl pins s σ H _ _ v u Q I rx ry ⟨a, b, rfl, rfl, Post.okv p rh (.bl _)⟩
    | _ => exact p.elim
  | _ => cases rd <;> exact p.elim
theorem op_IsNot : OpR X (compareOp .IsNot) (rB X.K xa (cmpS .IsNot)) := by
  intro pins s σ H x y v u Q I rx ry ⟨ρ, h, d, e, Ex, rh, rd, re, p⟩
  cases re with
  | non =>
    cases rd with
    | rol => exact p.elim
    | non => exact op_notN pins s σ H _ _ v u Q I rx ry ⟨rfl, Post.okv p rh (.bl _)⟩
    | bl b => exact op_notN pins s σ H _ _ v u Q I rx ry ⟨rfl, Post.okv p rh (.bl _)⟩
    | int b => exact op_notN pins s σ H _ _ v u Q I rx ry ⟨rfl, Post.okv p rh (.bl _)⟩
    | str b => exact op_notN pins s σ H _ _ v u Q I rx ry ⟨rfl, Post.okv p rh (.bl _)⟩
    | tup s1 r1 => exact op_notN pins s σ H _ _ v u Q I rx ry ⟨rfl, Post.okv p rh (.bl _)⟩
    | ref s1 => exact op_notN pins s σ H _ _ v u Q I rx ry ⟨rfl, Post.okv p rh (.bl _)⟩
  | bl b =>
    cases rd with
    | bl a => exact op_isnot_bl pins s σ H _ _ v u Q I rx ry ⟨a, b, rfl, rfl, Post.okv p rh (.bl _)⟩
    | _ => exact p.elim
  | _ => cases rd <;> exact p.elim
def okBop : Operator → Bool
  | .Add => true
  | .Sub => true
  | .Mult => true
  | .FloorDiv => true
  | .Mod => true
  | .Pow => true
  | _ => false
theorem bop_ok {o : Operator} (h : okBop o = true) : OpR X (binaryOp o) (rB X.K xa (bopS o)) := by
  cases o with
  | Add => exact op_Add
  | Sub => exact op_Sub
  | Mult => exact op_Mult
  | FloorDiv => exact op_FloorDiv
  | Mod => exact op_Mod
  | Pow => exact op_Pow
  | _ => cases h
theorem cmp_ok (o : CmpOp) (hu : X.A.units + 65 < cLine) : OpR X (compareOp o) (rB X.K xa (cmpS o)) := by
  cases o with
  | Eq => exact op_Eq (by omega)
  | NotEq => exact op_NotEq (by omega)
  | Lt => exact op_Lt
  | LtE => exact op_LtE
  | Gt => exact op_Gt
  | GtE => exact op_GtE
  | Is => exact op_Is
  | IsNot => exact op_IsNot
  | In => exact op_InS hu false
  | NotIn => exact op_InS hu true
end
end Ly
end
section
set_option Elab.async false
set_option linter.all false
set_option maxRecDepth 100000
set_option maxHeartbeats 1000000
/-! Ly5: the other expressions. -/
namespace Ly
open PySem PySem.Spec PyProof.Rows L2
/-! ### shapes of the text -/
def notStar : Expr → Bool
  | .Starred _ _ => false
  | _ => true
theorem star_one {e : Expr} (h : notStar e = true) (es : List Expr) (env : Env) : starEach (e :: es) env = (false, eval e env) :: starEach es env := by
  cases e <;> first | rfl | cases h
def notStars (es : List Expr) : Bool := es.all notStar
theorem star_none {es : List Expr} (h : notStars es = true) (env : Env) (pos : Pos) : (backTo pos (starEach es env)).any (·.1) = false := by
  induction es with
  | nil => rfl
  | cons e r ih =>
    have h' : notStar e = true ∧ notStars r = true := by simpa [notStars] using h
    rw [star_one h'.1]
    show (false || (backTo pos (starEach r env)).any (·.1)) = false
    rw [ih h'.2]; rfl
theorem star_len {es : List Expr} (env : Env) : (starEach es env).length = es.length := by
  induction es with
  | nil => rfl
  | cons e r ih => cases e <;> exact congrArg Nat.succ ih
/-- an expression that stands ahead of a dot -/
def plainBase : Expr → Bool
  | .Call _ _ _ _ => false
  | _ => true
theorem base_of {o : Expr} (h : plainBase o = true) (attr : Str) (env : Env) : attributeBase o attr env (eval o env) = eval o env := by
  cases o <;> first | rfl | cases h
/-- a test that is its value's truth -/
def plainTest : Expr → Bool
  | .UnaryOp _ _ _ => false
  | .BoolOp _ _ _ => false
  | .IfExp _ _ _ _ => false
  | .Compare _ _ _ _ => false
  | _ => true
theorem test_of {e : Expr} (h : plainTest e = true) (env : Env) (whole : Sem Value) : isTrue e env whole = (do let v ← whole; standAt e.pos; holding [v] (truthy v)) := by
  cases e with
  | UnaryOp o x p => cases h
  | BoolOp => cases h
  | IfExp => cases h
  | Compare => cases h
  | _ => rfl
def notSet : Expr → Bool
  | .Set _ _ _ => false
  | _ => true
theorem mark_of {b : Expr} (h : notSet b = true) (o : CmpOp) : behindInMarks o b = false := by
  cases b <;> first | rfl | cases h
theorem marks_of {b c : Expr} (h1 : notSet b = true) (h2 : notSet c = true) (o o' : CmpOp) : lastMarks [o, o'] [b, c] = false := by
  show behindInMarks o' c = false
  exact mark_of h2 o'
def notSlice : Expr → Bool
  | .Slice _ _ _ _ => false
  | _ => true
theorem ix_of {b : Expr} (h : notSlice b = true) : PlainIx b := by
  intro o i
  cases b <;> first | rfl | cases h
section
variable {X : Cx} {xa : Xa} {W : WX} {a b c : Expr} {pos : Pos} {g : Gs} {ca cb cc : CE}
/-! ### tests and truth -/
theorem semT_of {K : PySem.W.Frag} {f : Fn} {σ : St} {H : Hp} {Q : Bool → Hp → Prop} (h : semT K xa W f σ H Q) : semF K xa W f σ H fun v H' => ∃ b, v = .bl b ∧ Q b H' := h
theorem t_val (h : E1 X xa W a (ev g ca)) (hp : ∀ whole, isTrue a X.env whole = (do let v ← whole; standAt a.pos; holding [v] (truthy v))) : T1 X xa W a (ev g (.tr ca)) := by
  refine pt_w (pt_truth h hp) fun σ H Q ⟨ρ, σd, h, rl, rh, p⟩ => ?_
  refine semF.then rl rh p fun d h1 ρ1 H1 v q1 e1 rl1 rh1 rv p1 => ?_
  cases q : truS d h1 with
  | none => rw [q] at p1; exact p1.elim
  | some k =>
    rw [q] at p1
    obtain ⟨k', e, qq⟩ := Post.okv p1 rh1 (.bl k)
    cases e
    refine ⟨k, ?_, qq⟩
    cases rv with
    | non => cases q; rfl
    | bl b => cases q; rfl
    | int i => cases q; rfl
    | str => cases q
    | tup s r =>
      have q' : some _ = some k := q
      cases q'
      refine .inr (.inl ⟨_, s, ?_⟩)
      cases r <;> rfl
    | rol s r =>
      have q' : some _ = some k := q
      cases q'
      refine .inl ⟨_, s.sq, ?_⟩
      cases r <;> rfl
    | @ref n aa ha =>
      have q' : (match h1[n]? with
        | some (.lst xs) => some (!xs.isEmpty)
        | _ => none) = some k := q
      cases z : h1[n]? with
      | none => rw [z] at q'; cases q'
      | some ao =>
        rw [z] at q'
        cases ao with
        | dct => cases q'
        | lst ds =>
          cases q'
          obtain ⟨xs, e2, r⟩ := rh1.lst ha z
          refine .inl ⟨_, SqL.of e2, ?_⟩
          cases r <;> rfl
theorem t_cmp {o : CmpOp} (ho : OpR X (compareOp o) (rB X.K xa (cmpS o))) (ha : E1 X xa W a (ev g ca)) (hb : E1 X xa W b (ev g cb)) (hm : behindInMarks o b = false) : T1 X xa W (.Compare a [o] [b] pos) (ev g (.cmp o ca cb)) :=
  pt_w (pt_cmpR ho ha hb hm) fun σ H Q h => rB_of h
theorem chain_of {o o' : CmpOp} {σ : St} {H : Hp} {Q : VK} (h : semF X.K xa W (ev g (.chn o o' ca cb cc)) σ H Q) : tChain (rB X.K xa (cmpS o)) (rB X.K xa (cmpS o')) (semF X.K xa W (ev g ca)) (semF X.K xa W (ev g cb)) (semF X.K xa W (ev g cc)) σ H Q := by
  obtain ⟨ρ, σd, h, rl, rh, p⟩ := h
  refine semF.then rl rh p fun d h1 ρ1 H1 v q1 e1 rl1 rh1 rv p1 => semF.then rl1 rh1 p1 fun e h2 ρ2 H2 u q2 e2 rl2 rh2 ru p2 => ?_
  refine ⟨ρ2, h2, d, e, _, rh2, rv.ext q2 e2, ru, p2.bind fun z h3 ρ3 H3 w q3 e3 rh3 rw' p3 => ?_⟩
  cases rw' with
  | bl k =>
    refine ⟨k, rfl, ?_⟩
    cases k with
    | false => exact iteF (Post.okv p3 rh3 (.bl _))
    | true => exact iteT (semF.then (rl2.ext q3 e3) rh3 p3 fun y h4 ρ4 H4 v4 q4 e4 rl4 rh4 rv4 p4 => ⟨ρ4, h4, e, y, _, rh4, (ru.ext q3 e3).ext q4 e4, rv4, p4⟩)
  | _ => exact p3.elim
theorem e_chn {o o' : CmpOp} (ho : OpR X (compareOp o) (rB X.K xa (cmpS o))) (ho' : OpR X (compareOp o') (rB X.K xa (cmpS o'))) (ha : E1 X xa W a (ev g ca)) (hb : E1 X xa W b (ev g cb)) (hc : E1 X xa W c (ev g cc)) (hm : lastMarks [o, o'] [b, c] = false) : E1 X xa W (.Compare a [o, o'] [b, c] pos) (ev g (.chn o o' ca cb cc)) :=
  pe_w (pe_chain ho ho' ha hb hc hm) fun σ H Q h => chain_of h
theorem t_chn {o o' : CmpOp} (ho : OpR X (compareOp o) (rB X.K xa (cmpS o))) (ho' : OpR X (compareOp o') (rB X.K xa (cmpS o'))) (ha : E1 X xa W a (ev g ca)) (hb : E1 X xa W b (ev g cb)) (hc : E1 X xa W c (ev g cc)) (hm : lastMarks [o, o'] [b, c] = false) : T1 X xa W (.Compare a [o, o'] [b, c] pos) (ev g (.chn o o' ca cb cc)) :=
  pt_w (pt_chain ho ho' ha hb hc hm) fun σ H Q h => chain_of h
/-- run a test, then what follows -/
theorem semT.then {K : PySem.W.Frag} {f : Fn} {k : D → AH → R D} {σ : St} {H : Hp} {Q : VK} {Q' : Bool → Hp → Prop} {ρ : List Addr} {σd : Sg} {h : AH} (rl : Rel K xa ρ H σd σ) (rh : RepH K xa ρ H h)
    (p : Post K xa (fun c d H' => W c d σ H') ρ H ((f σd h).bind k) Q) (hb : ∀ d h1, (∀ b, d ≠ .bl b) → k d h1 = .bad)
    (hk : ∀ b h1 ρ1 H1, ρ <+: ρ1 → Ext H H1 → Rel K xa ρ1 H1 σd σ → RepH K xa ρ1 H1 h1 → Post K xa (fun c d H' => W c d σ H') ρ1 H1 (k (.bl b) h1) Q → Q' b H1) : semT K xa W f σ H Q' :=
  semF.then rl rh p fun d h1 ρ1 H1 v q1 e1 rl1 rh1 rv p1 => by
    cases rv with
    | bl b => exact ⟨b, rfl, hk b h1 ρ1 H1 q1 e1 rl1 rh1 p1⟩
    | _ => rw [hb _ _ (fun b z => by cases z)] at p1; exact p1.elim
theorem nbl {P : D → Prop} (h : ∀ d, (∀ b, d ≠ .bl b) → P d) : ∀ d, (∀ b, d ≠ .bl b) → P d := h
theorem w_and1 (ha : T1 X xa W a (ev g ca)) : PW X (.BoolOp .And [a] pos) (semT X.K xa W (ev g ca)) := pw_and1 ha
theorem w_or1 (ha : T1 X xa W a (ev g ca)) : PW X (.BoolOp .Or [a] pos) (semT X.K xa W (ev g ca)) := pw_or1 ha
theorem w_and {r : List Expr} (ha : T1 X xa W a (ev g ca)) (hb : PW X (.BoolOp .And (b :: r) pos) (semT X.K xa W (ev g cb))) : PW X (.BoolOp .And (a :: b :: r) pos) (semT X.K xa W (ev g (.and_ ca cb))) :=
  pw_w (pw_and ha hb) fun σ H Q ⟨ρ, σd, h, rl, rh, p⟩ => by
    refine semT.then rl rh p (fun d h1 n => by cases d <;> first | rfl | exact absurd rfl (n _)) fun b h1 ρ1 H1 q1 e1 rl1 rh1 p1 => ?_
    cases b with
    | true => exact iteT ⟨ρ1, σd, h1, rl1, rh1, p1⟩
    | false =>
      obtain ⟨b', e, q⟩ := Post.okv p1 rh1 (.bl _)
      cases e
      exact iteF q
theorem w_or {r : List Expr} (ha : T1 X xa W a (ev g ca)) (hb : PW X (.BoolOp .Or (b :: r) pos) (semT X.K xa W (ev g cb))) : PW X (.BoolOp .Or (a :: b :: r) pos) (semT X.K xa W (ev g (.or_ ca cb))) :=
  pw_w (pw_or ha hb) fun σ H Q ⟨ρ, σd, h, rl, rh, p⟩ => by
    refine semT.then rl rh p (fun d h1 n => by cases d <;> first | rfl | exact absurd rfl (n _)) fun b h1 ρ1 H1 q1 e1 rl1 rh1 p1 => ?_
    cases b with
    | true =>
      obtain ⟨b', e, q⟩ := Post.okv p1 rh1 (.bl _)
      cases e
      exact iteT q
    | false => exact iteF ⟨ρ1, σd, h1, rl1, rh1, p1⟩
theorem t_not (ha : T1 X xa W a (ev g ca)) : T1 X xa W (.UnaryOp .Not a pos) (ev g (.not_ ca)) :=
  pt_w (pt_not ha) fun σ H Q ⟨ρ, σd, h, rl, rh, p⟩ => by
    refine semT.then rl rh p (fun d h1 n => by cases d <;> first | rfl | exact absurd rfl (n _)) fun b h1 ρ1 H1 q1 e1 rl1 rh1 p1 => ?_
    obtain ⟨b', e, q⟩ := Post.okv p1 rh1 (.bl _)
    cases e
    exact q
theorem e_not (ha : E1 X xa W a (ev g ca)) : E1 X xa W (.UnaryOp .Not a pos) (ev g (.not_ ca)) :=
  pe_w (L2.pe_not ha) fun σ H Q ⟨ρ, σd, h, rl, rh, p⟩ => by
    obtain ⟨ρ, σd, h, rl, rh, p⟩ := semT.then (Q' := fun b H1 => Q (.bl (!b)) H1) rl rh p (fun d h1 n => by cases d <;> first | rfl | exact absurd rfl (n _)) fun b h1 ρ1 H1 q1 e1 rl1 rh1 p1 => Post.okv p1 rh1 (.bl _)
    exact ⟨ρ, σd, h, rl, rh, p⟩
theorem e_and1 {op} (ha : E1 X xa W a (ev g ca)) : E1 X xa W (.BoolOp op [a] pos) (ev g ca) := pe_one ha
theorem e_and {r : List Expr} (ha : E1 X xa W a (ev g ca)) (hb : E1 X xa W (.BoolOp .And (b :: r) pos) (ev g cb)) : E1 X xa W (.BoolOp .And (a :: b :: r) pos) (ev g (.and_ ca cb)) :=
  pe_w (pe_and ha hb) fun σ H Q ⟨ρ, σd, h, rl, rh, p⟩ => by
    refine semT.then (Q' := fun c H1 => if c = true then semF X.K xa W (ev g cb) σ H1 Q else Q (.bl false) H1) rl rh p (fun d h1 n => by cases d <;> first | rfl | exact absurd rfl (n _)) fun b h1 ρ1 H1 q1 e1 rl1 rh1 p1 => ?_
    cases b with
    | true => exact iteT ⟨ρ1, σd, h1, rl1, rh1, p1⟩
    | false => exact iteF (Post.okv p1 rh1 (.bl _))
theorem e_or {r : List Expr} (ha : E1 X xa W a (ev g ca)) (hb : E1 X xa W (.BoolOp .Or (b :: r) pos) (ev g cb)) : E1 X xa W (.BoolOp .Or (a :: b :: r) pos) (ev g (.or_ ca cb)) :=
  pe_w (pe_or ha hb) fun σ H Q ⟨ρ, σd, h, rl, rh, p⟩ => by
    refine semT.then (Q' := fun c H1 => if c = true then Q (.bl true) H1 else semF X.K xa W (ev g cb) σ H1 Q) rl rh p (fun d h1 n => by cases d <;> first | rfl | exact absurd rfl (n _)) fun b h1 ρ1 H1 q1 e1 rl1 rh1 p1 => ?_
    cases b with
    | true => exact iteT (Post.okv p1 rh1 (.bl _))
    | false => exact iteF ⟨ρ1, σd, h1, rl1, rh1, p1⟩
theorem e_ite (hc : T1 X xa W c (ev g cc)) (ha : E1 X xa W a (ev g ca)) (hb : E1 X xa W b (ev g cb)) : E1 X xa W (.IfExp c a b pos) (ev g (.ite cc ca cb)) :=
  pe_w (pe_ifExp hc ha hb) fun σ H Q ⟨ρ, σd, h, rl, rh, p⟩ => by
    refine semT.then rl rh p (fun d h1 n => by cases d <;> first | rfl | exact absurd rfl (n _)) fun b h1 ρ1 H1 q1 e1 rl1 rh1 p1 => ?_
    cases b with
    | true => exact iteT ⟨ρ1, σd, h1, rl1, rh1, p1⟩
    | false => exact iteF ⟨ρ1, σd, h1, rl1, rh1, p1⟩
theorem e_neg (ha : E1 X xa W a (ev g ca)) : E1 X xa W (.UnaryOp .USub a pos) (ev g (.neg ca)) :=
  pe_w (pe_un un_neg ha) fun σ H Q ⟨ρ, σd, h, rl, rh, p⟩ => by
    refine semF.then rl rh p fun d h1 ρ1 H1 v q1 e1 rl1 rh1 rv p1 => ?_
    cases rv with
    | int i => exact ⟨i, rfl, Post.okv p1 rh1 (.int _)⟩
    | _ => exact p1.elim
/-! ### arguments -/
def PostA (K : PySem.W.Frag) (xa : Xa) (Ex : XK) (ρ : List Addr) (H : Hp) (r : R D) (Q : List V → Hp → Prop) : Prop := match r with
  | .ok (.tup ds) h' => ∀ (ρ' : List Addr) (H' : Hp) (vs : List V), ρ <+: ρ' → Ext H H' → RepH K xa ρ' H' h' → RepVs K xa ρ' H' ds vs → Q vs H'
  | .ok _ _ => False
  | .exc c fs vs h' => Post K xa Ex ρ H (.exc c fs vs h') fun _ _ => False
  | .bad => False
theorem PostA.shift {K : PySem.W.Frag} {Ex : XK} {ρ ρ' : List Addr} {H H' : Hp} {r : R D} {Q : List V → Hp → Prop} (p : ρ <+: ρ') (e : Ext H H') (h : PostA K xa Ex ρ H r Q) : PostA K xa Ex ρ' H' r Q := by
  cases r with
  | ok d h' =>
    cases d with
    | tup ds => exact fun ρ2 H2 v p2 e2 => h ρ2 H2 v (p.trans p2) (e.trans e2)
    | _ => exact h
  | exc c fs vs h' => exact Post.shift (Q := fun _ _ => False) p e (show Post K xa Ex ρ H (.exc c fs vs h') (fun _ _ => False) from h)
  | bad => exact h
theorem PostA.bind0 {K : PySem.W.Frag} {Ex : XK} {ρ : List Addr} {H : Hp} {r : R D} {k : D → AH → R D} {Q : List V → Hp → Prop} {Q' : VK} (h : PostA K xa Ex ρ H (r.bind k) Q)
    (hk : ∀ d h1 ρ1 H1 v, ρ <+: ρ1 → Ext H H1 → RepH K xa ρ1 H1 h1 → RepV K xa ρ1 H1 d v → PostA K xa Ex ρ1 H1 (k d h1) Q → Q' v H1) : Post K xa Ex ρ H r Q' := by
  cases r with
  | ok d h' => exact fun ρ1 H1 v p e rh rv => hk d h' ρ1 H1 v p e rh rv (PostA.shift p e h)
  | exc c fs vs h' => exact h
  | bad => exact h
/-- arguments, then what follows -/
theorem PostA.bind {K : PySem.W.Frag} {Ex : XK} {ρ : List Addr} {H : Hp} {r : R D} {k : List D → AH → R D} {Q : VK} {Q' : List V → Hp → Prop} (h : Post K xa Ex ρ H (r.bind fun x h1 => match x with
      | .tup ds => k ds h1
      | _ => .bad) Q)
    (hk : ∀ ds h1 ρ1 H1 vs, ρ <+: ρ1 → Ext H H1 → RepH K xa ρ1 H1 h1 → RepVs K xa ρ1 H1 ds vs → Post K xa Ex ρ1 H1 (k ds h1) Q → Q' vs H1) : PostA K xa Ex ρ H r Q' := by
  cases r with
  | ok d h' =>
    cases d with
    | tup ds => exact fun ρ1 H1 vs p e rh rv => hk ds h' ρ1 H1 vs p e rh rv (Post.shift p e h)
    | _ => exact h
  | exc c fs vs h' => exact h
  | bad => exact h
theorem PostA.bindA {K : PySem.W.Frag} {Ex : XK} {ρ : List Addr} {H : Hp} {r : R D} {k : List D → AH → R D} {Q Q' : List V → Hp → Prop} (h : PostA K xa Ex ρ H (r.bind fun x h1 => match x with
      | .tup ds => k ds h1
      | _ => .bad) Q)
    (hk : ∀ ds h1 ρ1 H1 vs, ρ <+: ρ1 → Ext H H1 → RepH K xa ρ1 H1 h1 → RepVs K xa ρ1 H1 ds vs → PostA K xa Ex ρ1 H1 (k ds h1) Q → Q' vs H1) : PostA K xa Ex ρ H r Q' := by
  cases r with
  | ok d h' =>
    cases d with
    | tup ds => exact fun ρ1 H1 vs p e rh rv => hk ds h' ρ1 H1 vs p e rh rv (PostA.shift p e h)
    | _ => exact h
  | exc c fs vs h' => exact h
  | bad => exact h
def semAr (K : PySem.W.Frag) (xa : Xa) (W : WX) (f : Fn) : TA := fun σ H Q => ∃ (ρ : List Addr) (σd : Sg) (h : AH), Rel K xa ρ H σd σ ∧ RepH K xa ρ H h ∧ PostA K xa (fun c d H' => W c d σ H') ρ H (f σd h) Q
theorem semAr.then {K : PySem.W.Frag} {f : Fn} {k : List D → AH → R D} {σ : St} {H : Hp} {Q : VK} {Q' : List V → Hp → Prop} {ρ : List Addr} {σd : Sg} {h : AH} (rl : Rel K xa ρ H σd σ) (rh : RepH K xa ρ H h)
    (p : Post K xa (fun c d H' => W c d σ H') ρ H ((f σd h).bind fun x h1 => match x with
      | .tup ds => k ds h1
      | _ => .bad) Q)
    (hk : ∀ ds h1 ρ1 H1 vs, ρ <+: ρ1 → Ext H H1 → Rel K xa ρ1 H1 σd σ → RepH K xa ρ1 H1 h1 → RepVs K xa ρ1 H1 ds vs → Post K xa (fun c d H' => W c d σ H') ρ1 H1 (k ds h1) Q → Q' vs H1) : semAr K xa W f σ H Q' :=
  ⟨ρ, σd, h, rl, rh, PostA.bind p fun ds h1 ρ1 H1 vs q1 e1 rh1 rv p1 => hk ds h1 ρ1 H1 vs q1 e1 (rl.ext q1 e1) rh1 rv p1⟩
abbrev Ar (X : Cx) (xa : Xa) (W : WX) (es : List Expr) (f : Fn) : Prop := PA X es (semAr X.K xa W f)
theorem a_nil : Ar X xa W [] (ev g .nil) := pa_w pa_nil fun σ H Q ⟨ρ, σd, h, rl, rh, p⟩ => p ρ H [] (List.prefix_refl _) (Ext.refl _) rh .nil
theorem a_cons {es : List Expr} (ha : E1 X xa W a (ev g ca)) (hr : Ar X xa W es (ev g cb)) (hs : notStar a = true) : Ar X xa W (a :: es) (ev g (.cons ca cb)) :=
  pa_w (pa_cons ha hr (star_one hs es X.env)) fun σ H Q ⟨ρ, σd, h, rl, rh, p⟩ => by
    refine ⟨ρ, σd, h, rl, rh, PostA.bind0 p fun d h1 ρ1 H1 v q1 e1 rh1 rv p1 => ?_⟩
    refine ⟨ρ1, σd, h1, rl.ext q1 e1, rh1, PostA.bindA p1 fun ds h2 ρ2 H2 vs q2 e2 rh2 rvs p2 => ?_⟩
    exact p2 ρ2 H2 (v :: vs) (List.prefix_refl _) (Ext.refl _) rh2 (.cons (rv.ext q2 e2) rvs)
theorem e_tup {es : List Expr} {k : Nat} (h : Ar X xa W es (ev g ca)) : E1 X xa W (.Tuple es k pos) (ev g (.tup ca)) :=
  pe_w (pe_tup h) fun σ H Q ⟨ρ, σd, h, rl, rh, p⟩ => by
    refine semAr.then rl rh p fun ds h1 ρ1 H1 vs q1 e1 rl1 rh1 rv p1 => ?_
    by_cases c : ds.length ≤ 16777216
    · rw [if_pos c] at p1
      exact ⟨by rw [sizeLine_eq, ← rv.length]; exact c, fun q hq => p1.newT rh1 hq rv⟩
    · rw [if_neg c] at p1; exact p1.elim
theorem e_lst {es : List Expr} (h : Ar X xa W es (ev g ca)) : E1 X xa W (.List es pos) (ev g (.lst ca)) :=
  pe_w (pe_lst h) fun σ H Q ⟨ρ, σd, h, rl, rh, p⟩ => by
    refine semAr.then rl rh p fun ds h1 ρ1 H1 vs q1 e1 rl1 rh1 rv p1 => ?_
    by_cases c : ds.length ≤ 16777216
    · rw [if_pos c] at p1
      exact ⟨by rw [sizeLine_eq, ← rv.length]; exact c, fun q hq => p1.new rh1 hq rv⟩
    · rw [if_neg c] at p1; exact p1.elim
/-! ### calls of defs -/
/-- the promise that a function of the interpreter is -/
def spF (K : PySem.W.Frag) (n : Nat) (c : List D → AH → R D) : Sp := fun vs H Q E => ∃ (ρ : List Addr) (ds : List D) (h : AH), ds.length = n ∧ RepH K none ρ H h ∧ RepVs K none ρ H ds vs ∧ Post K none E ρ H (c ds h) Q
theorem spF_len {K : PySem.W.Frag} {n : Nat} {c : List D → AH → R D} {vs : List V} {H : Hp} {Q : VK} {E : XK} (h : spF K n c vs H Q E) : vs.length = n := by
  obtain ⟨ρ, ds, h, hl, _, r, _⟩ := h
  rw [← r.length]; exact hl
end
end Ly
end
section
set_option Elab.async false
set_option linter.all false
set_option maxRecDepth 100000
set_option maxHeartbeats 1000000
/-! Ly6: calls of defs. -/
namespace Ly
open PySem PySem.Spec PyProof.Rows L2
def permG {α : Type} (p : List Nat) (xs : List α) : List α := p.filterMap fun i => xs[i]?
theorem permG_vals {p : List Nat} {vs : List V} {us : List Value} (r : Vals vs us) : Vals (permG p vs) (permG p us) := by
  induction p with
  | nil => exact .nil
  | cons i p ih =>
    unfold permG
    cases e : vs[i]? with
    | none =>
      rw [List.filterMap_cons_none e, List.filterMap_cons_none (r.none_of e)]
      exact ih
    | some v =>
      obtain ⟨u, h1, h2⟩ := r.get e
      rw [List.filterMap_cons_some e, List.filterMap_cons_some h1]
      exact .cons h2 ih
theorem permG_rep {K : PySem.W.Frag} {xa : Xa} {ρ : List Addr} {H : Hp} {p : List Nat} {ds : List D} {vs : List V} (r : RepVs K xa ρ H ds vs) : RepVs K xa ρ H (permG p ds) (permG p vs) := by
  induction p with
  | nil => exact .nil
  | cons i p ih =>
    unfold permG
    cases e : ds[i]? with
    | none =>
      rw [List.filterMap_cons_none e, List.filterMap_cons_none (r.get_none e)]
      exact ih
    | some v =>
      obtain ⟨u, h1, h2⟩ := r.get e
      rw [List.filterMap_cons_some e, List.filterMap_cons_some h1]
      exact .cons h2 ih
/-- how a call by keywords binds -/
def KwOk (K : PySem.W.Frag) (fd : FuncData) (ps : List Str) (n : Nat) (ks : List Str) (p : List Nat) : Prop :=
  ∀ (s : Shared) (us ws : List Value), K.In s.heap → us.length = n → ws.length = ks.length → BindsTo s fd ⟨us, ks.zip ws⟩ (ps.zip (permG p (us ++ ws)))
structure FnI where
  name : Str
  ps : List Str
  kws : List (Nat × List Str × List Nat)
structure CallOk (X : Cx) (c : List D → AH → R D) (i : FnI) : Prop where
  mg : X.mg i.name = some (.ref (He.ga X.K i.name))
  kp : PySem.W.keepIn X.K (.ref (He.ga X.K i.name)) = true
  fn : ∃ k fd, Room k X.A ∧ FnOk X.prog X.w X.K X.mg X.base (L2.CX X.prog X.w) k (He.ga X.K i.name) fd i.ps (spF X.K i.ps.length c) ∧ Binds X.K fd i.ps [] ∧ ∀ q ∈ i.kws, KwOk X.K fd i.ps q.1 q.2.1 q.2.2
section
variable {X : Cx} {W : WX} {a b c : Expr} {pos p : Pos} {g : Gs} {ca cb cc : CE}
theorem pe_call0S {CX : CXT} {k : Nat} {f : Addr} {fd : FuncData} {ps : List Str} {sp : Sp} {E : St → XK} {x : Str} (F : FnOk X.prog X.w X.K X.mg X.base CX k f fd ps sp) (hr : Room k X.A) (hg : Gl X x) (hm : X.mg x = some (.ref f)) (hk : PySem.W.keepIn X.K (.ref f) = true) (hb : Binds X.K fd ps []) (hx : ∀ σ, PassesAt CX X σ (E σ))
    (hdb : (x == ("__debug__" : Str)) = false := by decide) : PE X (.Call (.Name x p) [] [] pos) (tCallS sp E tNil) := by
  refine ⟨fun pins s σ H Q I h => ?_⟩
  refine wpAny_Call_Name_kw (ld_glob I hg hm ?_ hdb)
  exact PySem.W.callWith_K0 I.kIn hk (run_fnS (us := []) F hr hb (hx σ) I .nil h)
theorem callS_of {K : PySem.W.Frag} {n : Nat} {i : Nat} {σ : St} {H : Hp} {Q : VK} (hn : ∀ ds h, ds.length ≠ n → g.cf i ds h = .bad) (h : semF K none W (ev g (.call i ca)) σ H Q) : tCallS (spF K n (g.cf i)) (WE W) (semAr K none W (ev g ca)) σ H Q := by
  obtain ⟨ρ, σd, h, rl, rh, p⟩ := h
  refine semAr.then rl rh p fun ds h1 ρ1 H1 vs q1 e1 rl1 rh1 rv p1 => ?_
  refine ⟨ρ1, ds, h1, ?_, rh1, rv, p1⟩
  by_cases c : ds.length = n
  · exact c
  · rw [hn _ _ c] at p1; exact p1.elim
theorem e_call0 {f : Nat} {i : FnI} (C : CallOk X (g.cf f) i) (hn : ∀ ds h, ds.length ≠ i.ps.length → g.cf f ds h = .bad) (tk : Takes X W) (hg : Gl X i.name) (hdb : (i.name == ("__debug__" : Str)) = false) :
    E1 X none W (.Call (.Name i.name p) [] [] pos) (ev g (.call f .nil)) := by
  obtain ⟨k, fd, hr, F, hb, _⟩ := C.fn
  refine pe_w (pe_call0S F hr hg C.mg C.kp hb (fun σ => passAt tk σ) hdb) fun σ H Q h => ?_
  obtain ⟨ρ, σd, h, rl, rh, p⟩ := h
  have p' : Post X.K none (fun c d H' => W c d σ H') ρ H (g.cf f [] h) Q := p
  refine ⟨ρ, [], h, ?_, rh, .nil, p'⟩
  by_cases c : ([] : List D).length = i.ps.length
  · exact c
  · rw [hn _ _ c] at p'; exact p'.elim
theorem e_call {f : Nat} {i : FnI} {e : Expr} {es : List Expr} (C : CallOk X (g.cf f) i) (hn : ∀ ds h, ds.length ≠ i.ps.length → g.cf f ds h = .bad) (tk : Takes X W) (hg : Gl X i.name) (hdb : (i.name == ("__debug__" : Str)) = false) (ha : Ar X none W (e :: es) (ev g ca)) (hs : notStars (e :: es) = true) :
    E1 X none W (.Call (.Name i.name p) (e :: es) [] pos) (ev g (.call f ca)) := by
  obtain ⟨k, fd, hr, F, hb, _⟩ := C.fn
  have hs' : notStar e = true ∧ notStars es = true := by simpa [notStars] using hs
  exact pe_w (pe_callS F hr hg C.mg C.kp hb (fun σ => passAt tk σ) ha hdb (star_one hs'.1 _ _) (star_none hs'.2 _ _)) fun σ H Q h => callS_of hn h
/-! by keywords -/
abbrev Kr (X : Cx) (xa : Xa) (W : WX) (es : List Keyword) (f : Fn) : Prop := PK X es (semAr X.K xa W f)
theorem pk_w {X : Cx} {e : List Keyword} {t t' : TA} (h : PK X e t) (w : ∀ σ H Q, t' σ H Q → t σ H Q) : PK X e t' := ⟨fun pos pins s σ H Q I q => h.run pos pins s σ H Q I (w σ H Q q)⟩
theorem k_nil {xa : Xa} : Kr X xa W [] (ev g .nil) := pk_w pk_nil fun σ H Q ⟨ρ, σd, h, rl, rh, p⟩ => p ρ H [] (List.prefix_refl _) (Ext.refl _) rh .nil
theorem k_cons {xa : Xa} {es : List Keyword} {nm : Option Str} {kpos : Pos} (ha : E1 X xa W a (ev g ca)) (hr : Kr X xa W es (ev g cb)) : Kr X xa W (⟨nm, a, kpos⟩ :: es) (ev g (.cons ca cb)) :=
  pk_w (pk_cons ha hr) fun σ H Q ⟨ρ, σd, h, rl, rh, p⟩ => by
    refine ⟨ρ, σd, h, rl, rh, PostA.bind0 p fun d h1 ρ1 H1 v q1 e1 rh1 rv p1 => ?_⟩
    refine ⟨ρ1, σd, h1, rl.ext q1 e1, rh1, PostA.bindA p1 fun ds h2 ρ2 H2 vs q2 e2 rh2 rvs p2 => ?_⟩
    exact p2 ρ2 H2 (v :: vs) (List.prefix_refl _) (Ext.refl _) rh2 (.cons (rv.ext q2 e2) rvs)
def kwNames : List Keyword → List Str
  | [] => []
  | ⟨some n, _, _⟩ :: r => n :: kwNames r
  | ⟨none, _, _⟩ :: r => kwNames r
def kwAll : List Keyword → Bool
  | [] => true
  | ⟨some _, _, _⟩ :: r => kwAll r
  | ⟨none, _, _⟩ :: _ => false
theorem kw_all {kws : List Keyword} (h : kwAll kws = true) (pos : Pos) (env : Env) : (backToKw pos (keywordEach kws env)).all (·.1.isSome) = true := by
  induction kws with
  | nil => rfl
  | cons k r ih =>
    obtain ⟨n, v, p⟩ := k
    cases n with
    | none => cases h
    | some n =>
      show (true && (backToKw pos (keywordEach r env)).all (·.1.isSome)) = true
      rw [ih h]; rfl
theorem kw_any {kws : List Keyword} (h : kwAll kws = true) (pos : Pos) (env : Env) : (backToKw pos (keywordEach kws env)).any (·.1.isNone) = false := by
  induction kws with
  | nil => rfl
  | cons k r ih =>
    obtain ⟨n, v, p⟩ := k
    cases n with
    | none => cases h
    | some n =>
      show (false || (backToKw pos (keywordEach r env)).any (·.1.isNone)) = false
      rw [ih h]; rfl
theorem kw_names {kws : List Keyword} (h : kwAll kws = true) (pos : Pos) (env : Env) : (backToKw pos (keywordEach kws env)).filterMap (·.1) = kwNames kws := by
  induction kws with
  | nil => rfl
  | cons k r ih =>
    obtain ⟨n, v, p⟩ := k
    cases n with
    | none => cases h
    | some n =>
      show n :: (backToKw pos (keywordEach r env)).filterMap (·.1) = n :: kwNames r
      rw [ih h]
theorem run_fnKS {CX : CXT} {k n : Nat} {f : Addr} {fd : FuncData} {ps ks : List Str} {sp : Sp} {E : St → XK} {q : List Nat} {pins : List (Addr × Obj)} {σ : St} {H : Hp} {s : Shared} {Q : VK} {us ws : List Value} {vs zs : List V} (F : FnOk X.prog X.w X.K X.mg X.base CX k f fd ps sp) (hr : Room k X.A) (hb : KwOk X.K fd ps n ks q) (hx : PassesAt CX X σ (E σ))
    (I : Inv X pins σ H s) (r : Vals vs us) (rz : Vals zs ws) (l1 : vs.length = n) (l2 : zs.length = ks.length) (h : sp (permG q (vs ++ zs)) H Q (E σ)) : wpAny (model X.prog X.w) X.A (call (.ref f) us (ks.zip ws)) (EP X pins σ Q) X.xe s := by
  have r2 := permG_vals (p := q) (r.append rz)
  refine wpAny_call (codeAny_mono (F.run X.A X.stack s H ⟨us, ks.zip ws⟩ (permG q (us ++ ws)) (permG q (vs ++ zs)) Q (E σ) hr I.env0 (hb s us ws I.kIn (r.length.symm.trans l1) (rz.length.symm.trans l2)) r2 h) fun r s' hq => ?_)
  cases r with
  | error e => exact hx pins H s e s' I hq
  | ok fl =>
    cases fl with
    | ret u => exact I.after hq
    | next => exact False.elim hq
    | brk => exact False.elim hq
    | cont => exact False.elim hq
def tCallKS (n m : Nat) (q : List Nat) (sp : Sp) (E : St → XK) (t tk : TA) : TE := fun σ H Q => t σ H fun vs H1 => tk σ H1 fun zs H2 => vs.length = n ∧ zs.length = m ∧ sp (permG q (vs ++ zs)) H2 Q (E σ)
theorem pe_callKS {CX : CXT} {k n : Nat} {f : Addr} {fd : FuncData} {ps : List Str} {sp : Sp} {E : St → XK} {q : List Nat} {x : Str} {e : Expr} {es : List Expr} {kws : List Keyword} {t tk : TA} (F : FnOk X.prog X.w X.K X.mg X.base CX k f fd ps sp) (hr : Room k X.A) (hg : Gl X x) (hm : X.mg x = some (.ref f)) (hk : PySem.W.keepIn X.K (.ref f) = true)
    (hb : KwOk X.K fd ps n (kwNames kws) q) (hx : ∀ σ, PassesAt CX X σ (E σ)) (ha : PA X (e :: es) t) (hkw : PK X kws tk) (hall : kwAll kws = true) (hs : notStars (e :: es) = true)
    (hdb : (x == ("__debug__" : Str)) = false := by decide) : PE X (.Call (.Name x p) (e :: es) kws pos) (tCallKS n (kwNames kws).length q sp E t tk) := by
  refine ⟨fun pins s σ H Q I h => ?_⟩
  refine wpAny_Call_Name_kw (ld_glob I hg hm ?_ hdb)
  have hs' : notStar e = true ∧ notStars es = true := by simpa [notStars] using hs
  refine PySem.W.callWith_KW (h₀ := X.base) I.ok.mod.kin hk (kw_all hall _ _) (thn (ha.run pos pins s σ H _ I h) fun us s1 ⟨vs, H1, I1, r, q1⟩ => ?_) ?_ (star_one hs'.1 _ _)
  · refine thn (hkw.run pos pins s1 σ H1 _ I1 q1) fun ws s2 ⟨zs, H2, I2, rz, l1, l2, q2⟩ => ⟨I2.kIn, ?_⟩
    rw [kw_names hall]
    exact run_fnKS F hr hb (hx σ) I2 r rz l1 l2 q2
  · rw [kw_any hall, star_none hs]; rfl
theorem pe_callKS0 {CX : CXT} {k : Nat} {f : Addr} {fd : FuncData} {ps : List Str} {sp : Sp} {E : St → XK} {q : List Nat} {x : Str} {kws : List Keyword} {tk : TA} (F : FnOk X.prog X.w X.K X.mg X.base CX k f fd ps sp) (hr : Room k X.A) (hg : Gl X x) (hm : X.mg x = some (.ref f)) (hk : PySem.W.keepIn X.K (.ref f) = true)
    (hb : KwOk X.K fd ps 0 (kwNames kws) q) (hx : ∀ σ, PassesAt CX X σ (E σ)) (hkw : PK X kws tk) (hall : kwAll kws = true)
    (hdb : (x == ("__debug__" : Str)) = false := by decide) : PE X (.Call (.Name x p) [] kws pos) (tCallKS 0 (kwNames kws).length q sp E tNil tk) := by
  refine ⟨fun pins s σ H Q I h => ?_⟩
  refine wpAny_Call_Name_kw (ld_glob I hg hm ?_ hdb)
  refine PySem.W.callWith_KW0 (h₀ := X.base) I.ok.mod.kin hk (kw_all hall _ _) (thn (hkw.run pos pins s σ H _ I h) fun ws s2 ⟨zs, H2, I2, rz, l1, l2, q2⟩ => ⟨I2.kIn, ?_⟩) ?_
  · rw [kw_names hall]
    exact run_fnKS (us := []) (vs := []) F hr hb (hx σ) I2 .nil rz l1 l2 q2
  · rw [kw_any hall]; rfl
def argsLen : CE → Option Nat
  | .nil => some 0
  | .cons _ r => (argsLen r).map (· + 1)
  | _ => none
theorem argsLen_ok : ∀ {c : CE} {n : Nat}, argsLen c = some n → ∀ {σ : Sg} {h h1 : AH} {ds : List D}, ev g c σ h = .ok (.tup ds) h1 → ds.length = n := by
  intro c
  induction c with
  | nil =>
    intro n e σ h h1 ds q
    cases e
    have q' : R.ok (D.tup []) h = .ok (.tup ds) h1 := q
    cases q'; rfl
  | cons a r ih1 ih2 =>
    intro n e σ h h1 ds q
    have e' : (argsLen r).map (· + 1) = some n := e
    cases z : argsLen r with
    | none => rw [z] at e'; cases e'
    | some m =>
      rw [z] at e'
      cases e'
      have q' : (ev g a σ h).bind (fun (x : D) (h1 : AH) => (ev g r σ h1).bind fun (y : D) (h2 : AH) => (match y with
        | D.tup ds => R.ok (D.tup (x :: ds)) h2
        | _ => R.bad)) = R.ok (D.tup ds) h1 := q
      cases q1 : ev g a σ h with
      | exc => rw [q1] at q'; cases q'
      | bad => rw [q1] at q'; cases q'
      | ok x h2 =>
        rw [q1] at q'
        have q' : (ev g r σ h2).bind (fun (y : D) (h2 : AH) => (match y with
          | D.tup ds => R.ok (D.tup (x :: ds)) h2
          | _ => R.bad)) = R.ok (D.tup ds) h1 := q'
        cases q2 : ev g r σ h2 with
        | exc => rw [q2] at q'; cases q'
        | bad => rw [q2] at q'; cases q'
        | ok y h3 =>
          rw [q2] at q'
          cases y with
          | tup es =>
            have q' : R.ok (D.tup (x :: es)) h3 = .ok (.tup ds) h1 := q'
            cases q'
            exact congrArg (· + 1) (ih2 z q2)
          | _ => cases q'
  | _ => intro n e; cases e
theorem callk_of {K : PySem.W.Frag} {m f : Nat} {q : List Nat} {ρ : List Addr} {σ : St} {σd : Sg} {H : Hp} {h1 : AH} {ds : List D} {vs : List V} {Q : VK} {nk l : Nat} (hn : ∀ ds h, ds.length ≠ m → g.cf f ds h = .bad) (hl : argsLen cb = some nk) (hlen : ds.length = l)
    (rl : Rel K none ρ H σd σ) (rh : RepH K none ρ H h1) (rv : RepVs K none ρ H ds vs) (p : Post K none (fun c d H' => W c d σ H') ρ H ((ev g cb σd h1).bind fun (y : D) (h2 : AH) => (match y with
      | .tup es => g.cf f (permG q (ds ++ es)) h2
      | _ => .bad)) Q) : semAr K none W (ev g cb) σ H fun zs H2 => vs.length = l ∧ zs.length = nk ∧ spF K m (g.cf f) (permG q (vs ++ zs)) H2 Q (fun c d H' => W c d σ H') := by
  cases e : ev g cb σd h1 with
  | bad => rw [e] at p; exact p.elim
  | exc c fs ws h2 => rw [e] at p; exact ⟨ρ, σd, h1, rl, rh, by rw [e]; exact p⟩
  | ok y h2 =>
    cases y with
    | tup es =>
      have hes := argsLen_ok hl e
      rw [e] at p
      refine ⟨ρ, σd, h1, rl, rh, ?_⟩
      rw [e]
      intro ρ2 H2 zs q2 e2 rh2 rz
      have rr : RepVs K none ρ2 H2 (permG q (ds ++ es)) (permG q (vs ++ zs)) := permG_rep ((rv.ext q2 e2).append rz)
      refine ⟨by rw [← rv.length]; exact hlen, by rw [← rz.length]; exact hes, ρ2, permG q (ds ++ es), h2, ?_, rh2, rr, Post.shift q2 e2 p⟩
      by_cases c : (permG q (ds ++ es)).length = m
      · exact c
      · have p' : Post K none (fun c d H' => W c d σ H') ρ H (g.cf f (permG q (ds ++ es)) h2) Q := p
        rw [hn _ _ c] at p'; exact p'.elim
    | _ => rw [e] at p; exact p.elim
theorem e_callk0 {f : Nat} {i : FnI} {q : List Nat} {kws : List Keyword} (C : CallOk X (g.cf f) i) (hn : ∀ ds h, ds.length ≠ i.ps.length → g.cf f ds h = .bad) (tk : Takes X W) (hg : Gl X i.name) (hdb : (i.name == ("__debug__" : Str)) = false)
    (hk : (0, kwNames kws, q) ∈ i.kws) (hkw : Kr X none W kws (ev g cb)) (hall : kwAll kws = true) (hl : argsLen cb = some (kwNames kws).length) :
    E1 X none W (.Call (.Name i.name p) [] kws pos) (ev g (.callk f q .nil cb)) := by
  obtain ⟨k, fd, hr, F, hb, hkk⟩ := C.fn
  refine pe_w (pe_callKS0 F hr hg C.mg C.kp (hkk _ hk) (fun σ => passAt tk σ) hkw hall hdb) fun σ H Q ⟨ρ, σd, h, rl, rh, pp⟩ => ?_
  exact callk_of (l := 0) hn hl rfl rl rh .nil pp
theorem e_callk {f n : Nat} {i : FnI} {q : List Nat} {e : Expr} {es : List Expr} {kws : List Keyword} (C : CallOk X (g.cf f) i) (hn : ∀ ds h, ds.length ≠ i.ps.length → g.cf f ds h = .bad) (tk : Takes X W) (hg : Gl X i.name) (hdb : (i.name == ("__debug__" : Str)) = false)
    (hk : (n, kwNames kws, q) ∈ i.kws) (ha : Ar X none W (e :: es) (ev g ca)) (hkw : Kr X none W kws (ev g cb)) (hall : kwAll kws = true) (hs : notStars (e :: es) = true)
    (hla : argsLen ca = some n) (hl : argsLen cb = some (kwNames kws).length) :
    E1 X none W (.Call (.Name i.name p) (e :: es) kws pos) (ev g (.callk f q ca cb)) := by
  obtain ⟨k, fd, hr, F, hb, hkk⟩ := C.fn
  refine pe_w (pe_callKS F hr hg C.mg C.kp (hkk _ hk) (fun σ => passAt tk σ) ha hkw hall hs hdb) fun σ H Q ⟨ρ, σd, h, rl, rh, pp⟩ => ?_
  have pp' : Post X.K none (fun c d H' => W c d σ H') ρ H ((ev g ca σd h).bind fun x h1 => match x with
    | .tup ds => (ev g cb σd h1).bind fun y h2 => (match y with
      | .tup es => g.cf f (permG q (ds ++ es)) h2
      | _ => .bad)
    | _ => .bad) Q := pp
  cases e1 : ev g ca σd h with
  | bad => rw [e1] at pp'; exact pp'.elim
  | exc c fs ws h2 => rw [e1] at pp'; exact ⟨ρ, σd, h, rl, rh, by rw [e1]; exact pp'⟩
  | ok y h2 =>
    cases y with
    | tup ds =>
      have hds := argsLen_ok hla e1
      rw [e1] at pp'
      refine ⟨ρ, σd, h, rl, rh, ?_⟩
      rw [e1]
      intro ρ2 H2 vs q2 e2 rh2 rv
      exact callk_of hn hl hds (rl.ext q2 e2) rh2 rv (Post.shift q2 e2 pp')
    | _ => rw [e1] at pp'; exact pp'.elim
end
end Ly
end
section
set_option Elab.async false
set_option linter.all false
set_option maxRecDepth 100000
set_option maxHeartbeats 1000000
/-! Ly7: built-in functions, methods, isinstance, subscripts, slices. -/
namespace Ly
open PySem PySem.Spec PyProof.Rows L2
/-- what a built-in asks of its values -/
def rBi (K : PySem.W.Frag) (xa : Xa) (s : List D → AH → R D) : List V → Hp → VK → Prop := fun vs H Q => ∃ (ρ : List Addr) (h : AH) (ds : List D) (Ex : XK), RepH K xa ρ H h ∧ RepVs K xa ρ H ds vs ∧ Post K xa Ex ρ H (s ds h) Q
def rMt (K : PySem.W.Frag) (xa : Xa) (s : D → List D → AH → R D) : V → List V → Hp → VK → Prop := fun x vs H Q => ∃ (ρ : List Addr) (h : AH) (d : D) (ds : List D) (Ex : XK), RepH K xa ρ H h ∧ RepV K xa ρ H d x ∧ RepVs K xa ρ H ds vs ∧ Post K xa Ex ρ H (s d ds h) Q
section
variable {X : Cx} {xa : Xa}
theorem repVs_bls : ∀ {ds : List D} {bs : List Bool} {vs : List V} {K : PySem.W.Frag} {ρ : List Addr} {H : Hp}, blsOf ds = some bs → RepVs K xa ρ H ds vs → vs = bs.map V.bl := by
  intro ds
  induction ds with
  | nil =>
    intro bs vs K ρ H e r
    cases r
    cases e; rfl
  | cons d ds ih =>
    intro bs vs K ρ H e r
    cases r with
    | cons r1 r2 =>
      unfold blsOf optMap at e
      cases r1 with
      | bl b =>
        cases z : blsOf ds with
        | none => unfold blsOf at z; rw [z] at e; cases e
        | some ys =>
          have z' := z
          unfold blsOf at z'
          rw [z'] at e
          cases e
          rw [ih z r2]; rfl
      | _ => cases e
theorem repVs_ints : ∀ {ds : List D} {bs : List Int} {vs : List V} {K : PySem.W.Frag} {ρ : List Addr} {H : Hp}, intsOf ds = some bs → RepVs K xa ρ H ds vs → vs = bs.map V.int := by
  intro ds
  induction ds with
  | nil =>
    intro bs vs K ρ H e r
    cases r
    cases e; rfl
  | cons d ds ih =>
    intro bs vs K ρ H e r
    cases r with
    | cons r1 r2 =>
      unfold intsOf optMap at e
      cases r1 with
      | int b =>
        cases z : intsOf ds with
        | none => unfold intsOf at z; rw [z] at e; cases e
        | some ys =>
          have z' := z
          unfold intsOf at z'
          rw [z'] at e
          cases e
          rw [ih z r2]; rfl
      | _ => cases e
theorem CallR_w {f : Value} {r r' : List V → Hp → VK → Prop} (h : CallR X f r) (w : ∀ xs H Q, r' xs H Q → r xs H Q) : CallR X f r' := fun pins s σ H xs us Q I rv q => h pins s σ H xs us Q I rv (w _ _ _ q)
theorem MtR_w {id : String} {r r' : V → List V → Hp → VK → Prop} (h : MtR X id r) (w : ∀ x xs H Q, r' x xs H Q → r x xs H Q) : MtR X id r' := fun pins s σ H x xs v us Q I rv rvs q => h pins s σ H x xs v us Q I rv rvs (w _ _ _ _ q)
theorem repVs_one {K : PySem.W.Frag} {ρ : List Addr} {H : Hp} {d : D} {vs : List V} (r : RepVs K xa ρ H [d] vs) : ∃ v, vs = [v] ∧ RepV K xa ρ H d v := by
  cases r with
  | cons a b => cases b; exact ⟨_, rfl, a⟩
theorem repVs_two {K : PySem.W.Frag} {ρ : List Addr} {H : Hp} {d e : D} {vs : List V} (r : RepVs K xa ρ H [d, e] vs) : ∃ v w, vs = [v, w] ∧ RepV K xa ρ H d v ∧ RepV K xa ρ H e w := by
  cases r with
  | cons a b =>
    obtain ⟨w, rfl, q⟩ := repVs_one b
    exact ⟨_, _, rfl, a, q⟩
theorem b_len : CallR X (.builtin "len") (rBi X.K xa (biS .len)) := CallR_w call_len_seq fun vs H Q ⟨ρ, h, ds, Ex, rh, rv, p⟩ => by
  match ds, rv, p with
  | [d], rv, p =>
    obtain ⟨v, rfl, r⟩ := repVs_one rv
    have p' : Post X.K xa Ex ρ H (match seqOf h d with
      | some xs => .ok (.int xs.length) h
      | none => .bad) Q := p
    cases q : seqOf h d with
    | none => rw [q] at p'; exact p'.elim
    | some xs =>
      rw [q] at p'
      obtain ⟨a, ys, rfl, hs, r2⟩ := seqOf_sq rh r q
      refine ⟨a, ys, rfl, hs, ?_⟩
      rw [← r2.length]
      exact Post.okv p' rh (.int _)
  | [], _, p => exact p.elim
  | [_, _], _, p => exact p.elim
  | _ :: _ :: _ :: _, _, p => exact p.elim
theorem b_int : CallR X (.type "int") (rBi X.K xa (biS .int)) := CallR_w call_int1 fun vs H Q ⟨ρ, h, ds, Ex, rh, rv, p⟩ => by
  match ds, rv, p with
  | [d], rv, p =>
    obtain ⟨v, rfl, r⟩ := repVs_one rv
    cases r with
    | int i => exact .inl ⟨i, rfl, Post.okv p rh (.int _)⟩
    | bl b => exact .inr ⟨b, rfl, Post.okv p rh (.int _)⟩
    | _ => exact p.elim
  | [], _, p => exact p.elim
  | [_, _], _, p => exact p.elim
  | _ :: _ :: _ :: _, _, p => exact p.elim
theorem b_divmod : CallR X (.builtin "divmod") (rBi X.K xa (biS .divmod)) := CallR_w call_divmod fun vs H Q ⟨ρ, h, ds, Ex, rh, rv, p⟩ => by
  match ds, rv, p with
  | [d, e], rv, p =>
    obtain ⟨v, w, rfl, r1, r2⟩ := repVs_two rv
    cases r1 with
    | int i =>
      cases r2 with
      | int j =>
        have p' : Post X.K xa Ex ρ H (if 0 < j ∧ j < 1073741824 then .ok (.tup [.int (i / j), .int (i % j)]) h else .bad) Q := p
        by_cases c : 0 < j ∧ j < 1073741824
        · rw [if_pos c] at p'
          exact ⟨i, j, rfl, c, fun q hq => p'.newT rh hq (.cons (.int _) (.cons (.int _) .nil))⟩
        · rw [if_neg c] at p'; exact p'.elim
      | _ => exact p.elim
    | _ => exact p.elim
  | [], _, p => exact p.elim
  | [_], _, p => exact p.elim
  | _ :: _ :: _ :: _, _, p => exact p.elim
theorem b_list : CallR X (.type "list") (rBi X.K xa (biS .list)) := CallR_w call_list_of fun vs H Q ⟨ρ, h, ds, Ex, rh, rv, p⟩ => by
  match ds, rv, p with
  | [d], rv, p =>
    obtain ⟨v, rfl, r⟩ := repVs_one rv
    have p' : Post X.K xa Ex ρ H (match seqOf h d with
      | some xs => .ok (.ref h.length) (h ++ [.lst xs])
      | none => .bad) Q := p
    cases q : seqOf h d with
    | none => rw [q] at p'; exact p'.elim
    | some xs =>
      rw [q] at p'
      obtain ⟨a, ys, rfl, hs, r2⟩ := seqOf_sq rh r q
      exact ⟨a, ys, rfl, hs, fun l hl => p'.new rh hl r2⟩
  | [], _, p => exact p.elim
  | [_, _], _, p => exact p.elim
  | _ :: _ :: _ :: _, _, p => exact p.elim
theorem b_tuple : CallR X (.type "tuple") (rBi X.K xa (biS .tuple)) := CallR_w call_tuple_of fun vs H Q ⟨ρ, h, ds, Ex, rh, rv, p⟩ => by
  match ds, rv, p with
  | [d], rv, p =>
    obtain ⟨v, rfl, r⟩ := repVs_one rv
    have p' : Post X.K xa Ex ρ H (match seqOf h d with
      | some xs => .ok (.tup xs) h
      | none => .bad) Q := p
    cases q : seqOf h d with
    | none => rw [q] at p'; exact p'.elim
    | some xs =>
      rw [q] at p'
      obtain ⟨a, ys, rfl, hs, r2⟩ := seqOf_sq rh r q
      rcases hs with hs | hs
      · exact ⟨a, ys, rfl, .inl ⟨hs, fun l hl => p'.newT rh hl r2⟩⟩
      · exact ⟨a, ys, rfl, .inr ⟨hs, Post.okv p' rh (.tup hs r2)⟩⟩
  | [], _, p => exact p.elim
  | [_, _], _, p => exact p.elim
  | _ :: _ :: _ :: _, _, p => exact p.elim
theorem b_any (hc : X.calm = true) : CallR X (.builtin "any") (rBi X.K xa (biS .any)) := CallR_w (cr_any hc) fun vs H Q ⟨ρ, h, ds, Ex, rh, rv, p⟩ => by
  match ds, rv, p with
  | [d], rv, p =>
    obtain ⟨v, rfl, r⟩ := repVs_one rv
    cases r with
    | @ref n a ha =>
      have p' : Post X.K xa Ex ρ H (match h[n]? with
        | some (.lst xs) => (match blsOf xs with
          | some bs => okB (bs.any id) h
          | none => .bad)
        | _ => .bad) Q := p
      cases q : h[n]? with
      | none => rw [q] at p'; exact p'.elim
      | some ao =>
        cases ao with
        | dct => rw [q] at p'; exact p'.elim
        | lst xs =>
          rw [q] at p'
          dsimp only at p'
          cases q2 : blsOf xs with
          | none => rw [q2] at p'; exact p'.elim
          | some bs =>
            rw [q2] at p'
            obtain ⟨ys, h1, r2⟩ := rh.lst ha q
            have e := repVs_bls q2 r2
            subst e
            exact ⟨a, bs, rfl, SqL.of h1, Post.okv p' rh (.bl _)⟩
    | _ => exact p.elim
  | [], _, p => exact p.elim
  | [_, _], _, p => exact p.elim
  | _ :: _ :: _ :: _, _, p => exact p.elim
theorem b_all (hc : X.calm = true) : CallR X (.builtin "all") (rBi X.K xa (biS .all)) := CallR_w (cr_all hc) fun vs H Q ⟨ρ, h, ds, Ex, rh, rv, p⟩ => by
  match ds, rv, p with
  | [d], rv, p =>
    obtain ⟨v, rfl, r⟩ := repVs_one rv
    cases r with
    | @ref n a ha =>
      have p' : Post X.K xa Ex ρ H (match h[n]? with
        | some (.lst xs) => (match blsOf xs with
          | some bs => okB (bs.all id) h
          | none => .bad)
        | _ => .bad) Q := p
      cases q : h[n]? with
      | none => rw [q] at p'; exact p'.elim
      | some ao =>
        cases ao with
        | dct => rw [q] at p'; exact p'.elim
        | lst xs =>
          rw [q] at p'
          dsimp only at p'
          cases q2 : blsOf xs with
          | none => rw [q2] at p'; exact p'.elim
          | some bs =>
            rw [q2] at p'
            obtain ⟨ys, h1, r2⟩ := rh.lst ha q
            have e := repVs_bls q2 r2
            subst e
            exact ⟨a, bs, rfl, SqL.of h1, Post.okv p' rh (.bl _)⟩
    | _ => exact p.elim
  | [], _, p => exact p.elim
  | [_, _], _, p => exact p.elim
  | _ :: _ :: _ :: _, _, p => exact p.elim
theorem b_sum (hc : X.calm = true) : CallR X (.builtin "sum") (rBi X.K xa (biS .sum)) := CallR_w (cr_sum hc) fun vs H Q ⟨ρ, h, ds, Ex, rh, rv, p⟩ => by
  match ds, rv, p with
  | [d], rv, p =>
    obtain ⟨v, rfl, r⟩ := repVs_one rv
    cases r with
    | @ref n a ha =>
      have p' : Post X.K xa Ex ρ H (match h[n]? with
        | some (.lst xs) => (match intsOf xs with
          | some bs => .ok (.int bs.sum) h
          | none => .bad)
        | _ => .bad) Q := p
      cases q : h[n]? with
      | none => rw [q] at p'; exact p'.elim
      | some ao =>
        cases ao with
        | dct => rw [q] at p'; exact p'.elim
        | lst xs =>
          rw [q] at p'
          dsimp only at p'
          cases q2 : intsOf xs with
          | none => rw [q2] at p'; exact p'.elim
          | some bs =>
            rw [q2] at p'
            obtain ⟨ys, h1, r2⟩ := rh.lst ha q
            have e := repVs_ints q2 r2
            subst e
            exact ⟨a, bs, rfl, SqL.of h1, Post.okv p' rh (.int _)⟩
    | _ => exact p.elim
  | [], _, p => exact p.elim
  | [_, _], _, p => exact p.elim
  | _ :: _ :: _ :: _, _, p => exact p.elim
theorem b_abs : CallR X (.builtin "abs") (rBi X.K xa (biS .abs)) := CallR_w call_abs fun vs H Q ⟨ρ, h, ds, Ex, rh, rv, p⟩ => by
  match ds, rv, p with
  | [d], rv, p =>
    obtain ⟨v, rfl, r⟩ := repVs_one rv
    cases r with
    | int i => exact ⟨i, rfl, Post.okv p rh (.int _)⟩
    | _ => exact p.elim
  | [], _, p => exact p.elim
  | [_, _], _, p => exact p.elim
  | _ :: _ :: _ :: _, _, p => exact p.elim
theorem b_max2 (hc : X.calm = true) : CallR X (.builtin "max") (rBi X.K xa (biS .max2)) := CallR_w (call_max2 hc) fun vs H Q ⟨ρ, h, ds, Ex, rh, rv, p⟩ => by
  match ds, rv, p with
  | [d, e], rv, p =>
    obtain ⟨v, w, rfl, r1, r2⟩ := repVs_two rv
    cases r1 with
    | int i =>
      cases r2 with
      | int j => exact ⟨i, j, rfl, Post.okv p rh (.int _)⟩
      | _ => exact p.elim
    | _ => exact p.elim
  | [], _, p => exact p.elim
  | [_], _, p => exact p.elim
  | _ :: _ :: _ :: _, _, p => exact p.elim
theorem b_min2 (hc : X.calm = true) : CallR X (.builtin "min") (rBi X.K xa (biS .min2)) := CallR_w (call_min2 hc) fun vs H Q ⟨ρ, h, ds, Ex, rh, rv, p⟩ => by
  match ds, rv, p with
  | [d, e], rv, p =>
    obtain ⟨v, w, rfl, r1, r2⟩ := repVs_two rv
    cases r1 with
    | int i =>
      cases r2 with
      | int j => exact ⟨i, j, rfl, Post.okv p rh (.int _)⟩
      | _ => exact p.elim
    | _ => exact p.elim
  | [], _, p => exact p.elim
  | [_], _, p => exact p.elim
  | _ :: _ :: _ :: _, _, p => exact p.elim
/-! ### a built-in's call -/
variable {W : WX} {a b c e : Expr} {es : List Expr} {pos p : Pos} {g : Gs} {ca cb cc : CE}
theorem bi_of {K : PySem.W.Frag} {bi : Bi} {σ : St} {H : Hp} {Q : VK} (h : semF K xa W (ev g (.bi bi ca)) σ H Q) : tCB (rBi K xa (biS bi)) (semAr K xa W (ev g ca)) σ H Q := by
  obtain ⟨ρ, σd, h, rl, rh, p⟩ := h
  exact semAr.then rl rh p fun ds h1 ρ1 H1 vs q1 e1 rl1 rh1 rv p1 => ⟨ρ1, h1, ds, _, rh1, rv, p1⟩
theorem e_biB {bi : Bi} {x : Str} {id : String} (hc : CallR X (.builtin id) (rBi X.K xa (biS bi))) (hg : Gl X x) (hm : X.mg x = none) (hv : bootBuiltins x = some (.builtin id)) (hn : x ≠ "__name__") (hdb : (x == ("__debug__" : Str)) = false) (ha : Ar X xa W (e :: es) (ev g ca)) (hs : notStars (e :: es) = true) :
    E1 X xa W (.Call (.Name x p) (e :: es) [] pos) (ev g (.bi bi ca)) := by
  have hs' : notStar e = true ∧ notStars es = true := by simpa [notStars] using hs
  exact pe_w (pe_callB hc hg hm hv ha hn hdb (star_one hs'.1 _ _) (star_none hs'.2 _ _)) fun σ H Q h => bi_of h
theorem e_biT {bi : Bi} {x : Str} {id : String} (hc : CallR X (.type id) (rBi X.K xa (biS bi))) (hg : Gl X x) (hm : X.mg x = none) (hv : bootBuiltins x = some (.type id)) (hn : x ≠ "__name__") (hdb : (x == ("__debug__" : Str)) = false) (ha : Ar X xa W (e :: es) (ev g ca)) (hs : notStars (e :: es) = true) :
    E1 X xa W (.Call (.Name x p) (e :: es) [] pos) (ev g (.bi bi ca)) := by
  have hs' : notStar e = true ∧ notStars es = true := by simpa [notStars] using hs
  exact pe_w (pe_callTy hc hg hm hv ha hn hdb (star_one hs'.1 _ _) (star_none hs'.2 _ _)) fun σ H Q h => bi_of h
/-! ### methods of lists -/
theorem rMt_lst {K : PySem.W.Frag} {m : Mth} {x : V} {vs : List V} {H : Hp} {Q : VK} (h : rMt K xa (mthS m) x vs H Q) : ∃ (ρ : List Addr) (h : AH) (n : Nat) (a : Addr) (xs : List D) (ys : List V) (ds : List D) (Ex : XK), x = .ref a ∧ RepH K xa ρ H h ∧ ρ[n]? = some a ∧ h[n]? = some (.lst xs) ∧ H a = some (.lst ys) ∧ RepVs K xa ρ H xs ys ∧ RepVs K xa ρ H ds vs ∧ Post K xa Ex ρ H (mthS m (.ref n) ds h) Q := by
  obtain ⟨ρ, h, d, ds, Ex, rh, r, rv, p⟩ := h
  cases r with
  | @ref n a ha =>
    cases q : h[n]? with
    | none =>
      have p' : Post K xa Ex ρ H (match h[n]? with
        | some (.lst xs) => _
        | _ => .bad) Q := p
      rw [q] at p'; exact p'.elim
    | some ao =>
      cases ao with
      | dct =>
        have p' : Post K xa Ex ρ H (match h[n]? with
          | some (.lst xs) => _
          | _ => .bad) Q := p
        rw [q] at p'; exact p'.elim
      | lst xs =>
        obtain ⟨ys, h1, r2⟩ := rh.lst ha q
        exact ⟨ρ, h, n, a, xs, ys, ds, Ex, rfl, rh, ha, q, h1, r2, rv, p⟩
  | _ => exact p.elim
theorem m_append : MtR X "list.append" (rMt X.K xa (mthS .append)) := MtR_w mt_append fun x vs H Q h => by
  obtain ⟨ρ, h, n, a, xs, ys, ds, Ex, rfl, rh, ha, hn, hH, r, rv, p⟩ := rMt_lst h
  unfold mthS at p
  simp only [hn] at p
  match ds, rv, p with
  | [d], rv, p =>
    obtain ⟨v, rfl, r1⟩ := repVs_one rv
    dsimp only [mth1] at p
    by_cases c : xs.length < 16777216
    · rw [if_pos c] at p
      exact ⟨a, ys, v, rfl, rfl, hH, by rw [sizeLine_eq, ← r.length]; exact c, p.write rh ha (r.append (.one r1)) .non⟩
    · rw [if_neg c] at p; exact p.elim
  | [], _, p => exact p.elim
  | [_, _], _, p => exact p.elim
  | _ :: _ :: _ :: _, _, p => exact p.elim
theorem m_pop0 : MtR X "list.pop" (fun x vs H Q => vs = [] ∧ rMt X.K xa (mthS .pop) x vs H Q) := MtR_w mt_pop fun x vs H Q ⟨hv, h⟩ => by
  obtain ⟨ρ, h, n, a, xs, ys, ds, Ex, rfl, rh, ha, hn, hH, r, rv, p⟩ := rMt_lst h
  subst hv
  unfold mthS at p
  simp only [hn] at p
  cases rv
  dsimp only [mth0] at p
  cases q : xs[xs.length - 1]? with
  | none => rw [q] at p; exact p.elim
  | some d =>
    rw [q] at p
    obtain ⟨v, h1, r1⟩ := r.get q
    exact ⟨a, ys, v, rfl, rfl, hH, by rw [← r.length]; exact h1, p.write rh ha r.dropLast r1⟩
theorem ixN_seqI {n k : Nat} {i : Int} (h : ixN n i = some k) : seqIndex? i n = some k := (ixN_seq h).1
theorem m_pop1 : MtR X "list.pop" (fun x vs H Q => (∃ v, vs = [v]) ∧ rMt X.K xa (mthS .pop) x vs H Q) := MtR_w mt_popAt fun x vs H Q ⟨⟨v0, hv⟩, h⟩ => by
  obtain ⟨ρ, h, n, a, xs, ys, ds, Ex, rfl, rh, ha, hn, hH, r, rv, p⟩ := rMt_lst h
  subst hv
  unfold mthS at p
  simp only [hn] at p
  match ds, rv, p with
  | [d], rv, p =>
    obtain ⟨v, e, r1⟩ := repVs_one rv
    cases e
    cases r1 with
    | int i =>
      dsimp only [mth1] at p
      by_cases c : -9223372036854775808 ≤ i ∧ i < 9223372036854775808
      · rw [if_pos c] at p
        cases q : ixOf xs.length i with
        | none => rw [q] at p; exact p.elim
        | some k =>
          rw [q] at p
          dsimp only at p
          cases q2 : xs[k]? with
          | none => rw [q2] at p; exact p.elim
          | some d =>
            rw [q2] at p
            obtain ⟨v, h1, r1⟩ := r.get q2
            have q' : ixN xs.length i = some k := q
            exact ⟨a, ys, i, k, v, rfl, rfl, hH, c.1, c.2, by rw [← r.length]; exact ixN_seqI q', h1, p.write rh ha (r.eraseIdx k) r1⟩
      · rw [if_neg c] at p; exact p.elim
    | _ => exact p.elim
  | [], rv, _ => cases rv
  | _ :: _ :: _, rv, _ => cases rv with | cons _ t => cases t
theorem m_reverse : MtR X "list.reverse" (rMt X.K xa (mthS .reverse)) := MtR_w mt_reverse fun x vs H Q h => by
  obtain ⟨ρ, h, n, a, xs, ys, ds, Ex, rfl, rh, ha, hn, hH, r, rv, p⟩ := rMt_lst h
  unfold mthS at p
  simp only [hn] at p
  match ds, rv, p with
  | [], rv, p =>
    cases rv
    exact ⟨a, ys, rfl, rfl, hH, p.write rh ha r.reverse .non⟩
  | [_], _, p => exact p.elim
  | _ :: _ :: _, _, p => exact p.elim
theorem m_extend : MtR X "list.extend" (rMt X.K xa (mthS .extend)) := MtR_w mt_extend fun x vs H Q h => by
  obtain ⟨ρ, hh, n, a, xs, ys, ds, Ex, rfl, rh, ha, hn, hH, r, rv, p⟩ := rMt_lst h
  unfold mthS at p
  simp only [hn] at p
  match ds, rv, p with
  | [d], rv, p =>
    obtain ⟨v, rfl, r1⟩ := repVs_one rv
    cases r1 with
    | @ref m b hb =>
      dsimp only [mth1] at p
      cases q : hh[m]? with
      | none => rw [q] at p; exact p.elim
      | some ao =>
        cases ao with
        | dct => rw [q] at p; exact p.elim
        | lst zs =>
          rw [q] at p
          dsimp only at p
          by_cases c : xs.length + zs.length ≤ 16777216
          · rw [if_pos c] at p
            obtain ⟨ws, h2, r2⟩ := rh.lst hb q
            exact ⟨a, b, ys, ws, rfl, rfl, hH, h2, by rw [sizeLine_eq, ← r.length, ← r2.length]; exact c, p.write rh ha (r.append r2) .non⟩
          · rw [if_neg c] at p; exact p.elim
    | _ => exact p.elim
  | [], _, p => exact p.elim
  | [_, _], _, p => exact p.elim
  | _ :: _ :: _ :: _, _, p => exact p.elim
theorem isLst_ty {K : PySem.W.Frag} {ρ : List Addr} {H : Hp} {h : AH} {d : D} {v : V} (rh : RepH K xa ρ H h) (r : RepV K xa ρ H d v) (e : isLst h d = true) : tyV K "list" v H := by
  cases r with
  | @ref n a ha =>
    have e' : (match h[n]? with
      | some (.lst _) => true
      | _ => false) = true := e
    cases q : h[n]? with
    | none => rw [q] at e'; cases e'
    | some ao =>
      rw [q] at e'
      cases ao with
      | dct => cases e'
      | lst xs =>
        obtain ⟨ys, h1, _⟩ := rh.lst ha q
        exact .inl ⟨rfl, ys, SqL.of h1⟩
  | _ => cases e
theorem mth_of {m : Mth} {σ : St} {H : Hp} {Q : VK} {r : V → List V → Hp → VK → Prop} (hr : ∀ x vs H Q, rMt X.K xa (mthS m) x vs H Q → r x vs H Q) (h : semF X.K xa W (ev g (.mth m ca cb)) σ H Q) : tBM X.K "list" r (semF X.K xa W (ev g ca)) (semAr X.K xa W (ev g cb)) σ H Q := by
  obtain ⟨ρ, σd, h, rl, rh, p⟩ := h
  refine semF.then rl rh p fun d h1 ρ1 H1 v q1 e1 rl1 rh1 rv p1 => ?_
  by_cases c : isLst h1 d = true
  · rw [if_pos c] at p1
    refine ⟨isLst_ty rh1 rv c, semAr.then rl1 rh1 p1 fun ds h2 ρ2 H2 vs q2 e2 rl2 rh2 rvs p2 => ?_⟩
    exact hr _ _ _ _ ⟨ρ2, h2, d, ds, _, rh2, rv.ext q2 e2, rvs, p2⟩
  · rw [if_neg c] at p1; exact p1.elim
theorem mth_of0 {m : Mth} {σ : St} {H : Hp} {Q : VK} {r : V → List V → Hp → VK → Prop} (hr : ∀ x H Q, rMt X.K xa (mthS m) x [] H Q → r x [] H Q) (h : semF X.K xa W (ev g (.mth m ca .nil)) σ H Q) : tBM0 X.K "list" r (semF X.K xa W (ev g ca)) σ H Q := by
  obtain ⟨ρ, σd, h, rl, rh, p⟩ := h
  refine semF.then rl rh p fun d h1 ρ1 H1 v q1 e1 rl1 rh1 rv p1 => ?_
  by_cases c : isLst h1 d = true
  · rw [if_pos c] at p1
    exact ⟨isLst_ty rh1 rv c, hr _ _ _ ⟨ρ1, h1, d, [], _, rh1, rv, .nil, p1⟩⟩
  · rw [if_neg c] at p1; exact p1.elim
theorem few_of {a : Expr} {env : Env} {cpos : Pos} (hs : notStar a = true) : ((backTo cpos (starEach [a] env)).all (fun x => !x.1) && (backToKw cpos (keywordEach [] env)).all (fun x => x.1.isSome)
      && decide (([a] : List Expr).length + ([] : List Keyword).length + (if ([] : List Keyword).isEmpty then 0 else 1) < 30)) = true := by
  rw [star_one hs]; rfl
theorem e_append {apos : Pos} (ha : E1 X xa W a (ev g ca)) (hb : Ar X xa W [b] (ev g cb)) (hba : plainBase a = true) (hs : notStar b = true) (hl : (apos.endLine == pos.line) = true) : E1 X xa W (.Call (.Attribute a "append" apos) [b] [] pos) (ev g (.mth .append ca cb)) :=
  pe_w (pe_bm PySem.F.plainAttrs_list PySem.F.slot_list_append PySem.F.type_list_append m_append ha hb (base_of hba _ _) (few_of hs) hl (star_one hs _ _) rfl) fun σ H Q h => mth_of (fun _ _ _ _ q => q) h
theorem e_extend {apos : Pos} (ha : E1 X xa W a (ev g ca)) (hb : Ar X xa W [b] (ev g cb)) (hba : plainBase a = true) (hs : notStar b = true) (hl : (apos.endLine == pos.line) = true) : E1 X xa W (.Call (.Attribute a "extend" apos) [b] [] pos) (ev g (.mth .extend ca cb)) :=
  pe_w (pe_bm PySem.F.plainAttrs_list PySem.F.slot_list_extend PySem.F.type_list_extend m_extend ha hb (base_of hba _ _) (few_of hs) hl (star_one hs _ _) rfl) fun σ H Q h => mth_of (fun _ _ _ _ q => q) h
theorem e_pop1 {apos : Pos} (ha : E1 X xa W a (ev g ca)) (hb : Ar X xa W [b] (ev g (.cons cb .nil))) (hba : plainBase a = true) (hs : notStar b = true) (hl : (apos.endLine == pos.line) = true) : E1 X xa W (.Call (.Attribute a "pop" apos) [b] [] pos) (ev g (.mth .pop ca (.cons cb .nil))) :=
  pe_w (pe_bm PySem.F.plainAttrs_list PySem.F.slot_list_pop PySem.F.type_list_pop m_pop1 ha hb (base_of hba _ _) (few_of hs) hl (star_one hs _ _) rfl) fun σ H Q h => by
    obtain ⟨ρ, σd, h, rl, rh, p⟩ := h
    refine semF.then rl rh p fun d h1 ρ1 H1 v q1 e1 rl1 rh1 rv p1 => ?_
    by_cases c : isLst h1 d = true
    · rw [if_pos c] at p1
      refine ⟨isLst_ty rh1 rv c, ?_⟩
      have hlen : argsLen (.cons cb .nil) = some 1 := rfl
      cases e : ev g (.cons cb .nil) σd h1 with
      | bad => rw [e] at p1; exact p1.elim
      | exc cc fs ws h2 => rw [e] at p1; exact ⟨ρ1, σd, h1, rl1, rh1, by rw [e]; exact p1⟩
      | ok y h2 =>
        cases y with
        | tup es =>
          have hes := argsLen_ok hlen e
          rw [e] at p1
          refine ⟨ρ1, σd, h1, rl1, rh1, ?_⟩
          rw [e]
          intro ρ2 H2 zs q2 e2 rh2 rz
          refine ⟨?_, ρ2, h2, d, es, _, rh2, rv.ext q2 e2, rz, Post.shift q2 e2 p1⟩
          have l := rz.length
          rw [hes] at l
          match zs, l with
          | [z], _ => exact ⟨z, rfl⟩
        | _ => rw [e] at p1; exact p1.elim
    · rw [if_neg c] at p1; exact p1.elim
theorem e_pop0 {apos : Pos} (ha : E1 X xa W a (ev g ca)) (hba : plainBase a = true) (hl : (apos.endLine == pos.line) = true) : E1 X xa W (.Call (.Attribute a "pop" apos) [] [] pos) (ev g (.mth .pop ca .nil)) :=
  pe_w (pe_bm0 PySem.F.plainAttrs_list PySem.F.slot_list_pop PySem.F.type_list_pop m_pop0 ha (base_of hba _ _) hl) fun σ H Q h => mth_of0 (fun _ _ _ q => ⟨rfl, q⟩) h
theorem e_reverse {apos : Pos} (ha : E1 X xa W a (ev g ca)) (hba : plainBase a = true) (hl : (apos.endLine == pos.line) = true) : E1 X xa W (.Call (.Attribute a "reverse" apos) [] [] pos) (ev g (.mth .reverse ca .nil)) :=
  pe_w (pe_bm0 PySem.F.plainAttrs_list PySem.F.slot_list_reverse PySem.F.type_list_reverse m_reverse ha (base_of hba _ _) hl) fun σ H Q h => mth_of0 (fun _ _ _ q => q) h
/-! ### subscripts -/
theorem ix_get : IxR X (rB X.K xa getS) := by
  intro value slice pins s σ H x y v u Q I rx ry ⟨ρ, h, d, e, Ex, rh, rd, re, p⟩ hsub
  cases re with
  | int i =>
    have p' : Post X.K xa Ex ρ H (match seqOf h d with
      | some xs => (match (ixOf xs.length i).bind fun j => xs[j]? with
        | some x => .ok x h
        | none => .bad)
      | none => .bad) Q := p
    cases q : seqOf h d with
    | none => rw [q] at p'; exact p'.elim
    | some xs =>
      rw [q] at p'
      dsimp only at p'
      obtain ⟨a, ys, rfl, hs, r2⟩ := seqOf_sq rh rd q
      cases q2 : (ixOf xs.length i).bind fun j => xs[j]? with
      | none => rw [q2] at p'; exact p'.elim
      | some z =>
        rw [q2] at p'
        have hat : ∃ w, atI ys i = some w ∧ RepV X.K xa ρ H z w := by
          unfold atI
          have q3 : ((ixN xs.length i).bind fun j => xs[j]?) = some z := q2
          cases q4 : ixN xs.length i with
          | none => rw [q4] at q3; cases q3
          | some j =>
            rw [q4] at q3
            obtain ⟨w, h1, h2⟩ := r2.get (show xs[j]? = some z from q3)
            exact ⟨w, by rw [← r2.length, q4]; exact h1, h2⟩
        obtain ⟨w, h1, h2⟩ := hat
        rcases hs with hs | hs
        · exact ix_list value slice pins s σ H _ _ v u Q I rx ry ⟨a, ys, i, w, rfl, rfl, hs, h1, Post.okv p' rh h2⟩ hsub
        · exact ix_tup value slice pins s σ H _ _ v u Q I rx ry ⟨a, ys, i, w, rfl, rfl, hs, h1, Post.okv p' rh h2⟩ hsub
  | _ => exact p.elim
theorem e_sub (ha : E1 X xa W a (ev g ca)) (hb : E1 X xa W b (ev g cb)) (hs : notSlice b = true) : E1 X xa W (.Subscript a b pos) (ev g (.sub ca cb)) :=
  pe_w (pe_ix ix_get ha hb (ix_of hs)) fun σ H Q h => rB_of h
end
end Ly
end
section
set_option Elab.async false
set_option linter.all false
set_option maxRecDepth 100000
set_option maxHeartbeats 1000000
/-! Ly8: isinstance, slices, what loops walk, comprehensions. -/
namespace Ly
open PySem PySem.Spec PyProof.Rows L2
theorem kit_sub (a b : Bt) : kitB a.name b.name = some (a.sub b) := by
  cases a <;> cases b <;> decide +kernel
section
variable {X : Cx} {xa : Xa} {W : WX} {a b c e : Expr} {es : List Expr} {pos p : Pos} {g : Gs} {ca cb cc : CE}
theorem tyOf_ty {K : PySem.W.Frag} {ρ : List Addr} {H : Hp} {h : AH} {d : D} {v : V} {t : Bt} (rh : RepH K xa ρ H h) (r : RepV K xa ρ H d v) (e : tyOf h d = some t) : TyX K H v (.type t.name) := by
  cases r with
  | non => cases e; exact .base .non
  | bl b => cases e; exact .base (.bl b)
  | int i => cases e; exact .base (.int i)
  | str x => cases e; exact .base (.str x)
  | tup s r =>
    cases e
    rcases s with (s | ⟨o, s⟩) | ⟨o, its, n, h1, h2, h3⟩
    · exact .base (.tup s)
    · exact .fTuple s
    · exact .kTuple h1 h2
  | rol s r =>
    cases e
    rcases s with ⟨o, s⟩ | ⟨o, its, n, h1, h2, h3⟩
    · exact .base (.frz s)
    · exact .kList h1 h2
  | @ref n a ha =>
    have e' : (match h[n]? with
      | some (.lst _) => some Bt.list
      | some (.dct _) => some Bt.dict
      | _ => none) = some t := e
    cases q : h[n]? with
    | none => rw [q] at e'; cases e'
    | some ao =>
      rw [q] at e'
      cases ao with
      | dct kvs =>
        obtain ⟨b, o, e1, e2, e3⟩ := rh.obj n _ q
        exact e3.elim
      | lst xs =>
        cases e'
        obtain ⟨ys, h1, _⟩ := rh.lst ha q
        exact .base (.lst h1)
def clNames : List Expr → Option (List Str)
  | [] => some []
  | .Name x _ :: r => (clNames r).map (x :: ·)
  | _ => none
/-- a class by its name, not within an except suite -/
def btOf (x : Str) : Option Bt :=
  if x = "int" then some .int else if x = "bool" then some .bool else if x = "str" then some .str else if x = "tuple" then some .tuple else if x = "list" then some .list else if x = "dict" then some .dict else none
theorem btOf_boot {x : Str} {t : Bt} (h : btOf x = some t) : bootBuiltins x = some (.type t.name) ∧ x ≠ "__name__" ∧ (x == ("__debug__" : Str)) = false := by
  unfold btOf at h
  by_cases c1 : x = "int"
  · rw [if_pos c1] at h; cases h; subst c1; exact ⟨by decide +kernel, by decide +kernel, by decide +kernel⟩
  · rw [if_neg c1] at h
    by_cases c2 : x = "bool"
    · rw [if_pos c2] at h; cases h; subst c2; exact ⟨by decide +kernel, by decide +kernel, by decide +kernel⟩
    · rw [if_neg c2] at h
      by_cases c3 : x = "str"
      · rw [if_pos c3] at h; cases h; subst c3; exact ⟨by decide +kernel, by decide +kernel, by decide +kernel⟩
      · rw [if_neg c3] at h
        by_cases c4 : x = "tuple"
        · rw [if_pos c4] at h; cases h; subst c4; exact ⟨by decide +kernel, by decide +kernel, by decide +kernel⟩
        · rw [if_neg c4] at h
          by_cases c5 : x = "list"
          · rw [if_pos c5] at h; cases h; subst c5; exact ⟨by decide +kernel, by decide +kernel, by decide +kernel⟩
          · rw [if_neg c5] at h
            by_cases c6 : x = "dict"
            · rw [if_pos c6] at h; cases h; subst c6; exact ⟨by decide +kernel, by decide +kernel, by decide +kernel⟩
            · rw [if_neg c6] at h; cases h
theorem pe_bt {x : Str} {t : Bt} (h : btOf x = some t) (hg : Gl X x) (hm : X.mg x = none) : PE X (.Name x p) (tC (.ty t.name)) := by
  obtain ⟨h1, h2, h3⟩ := btOf_boot h
  exact pe_bltn hg hm h1 rfl h2 h3
theorem boot_isinstance' : bootBuiltins "isinstance" = some (.builtin "isinstance") := by decide +kernel
/-- isinstance(x, T), T a built-in class -/
theorem e_isi1 {t : Bt} {x : Str} {p2 : Pos} (hg0 : Gl X "isinstance") (hm0 : X.mg "isinstance" = none) (ha : E1 X xa W a (ev g ca)) (hs : notStar a = true) (hb : btOf x = some t) (hg : Gl X x) (hm : X.mg x = none) :
    E1 X xa W (.Call (.Name "isinstance" p) [a, .Name x p2] [] pos) (ev g (.isi ca [t])) := by
  refine pe_w (pe_callB call_isi hg0 hm0 boot_isinstance' (pa_cons ha (pa_cons (pe_bt hb hg hm) pa_nil rfl) (star_one hs _ _)) (by decide) (by decide) (star_one hs _ _) rfl) fun σ H Q ⟨ρ, σd, h, rl, rh, p⟩ => ?_
  refine semF.then rl rh p fun d h1 ρ1 H1 v q1 e1 rl1 rh1 rv p1 => ?_
  have p1' : Post X.K xa (fun c d H' => W c d σ H') ρ1 H1 (match tyOf h1 d with
    | some t' => .ok (.bl (t'.sub t || false)) h1
    | none => .bad) Q := p1
  cases q : tyOf h1 d with
  | none => rw [q] at p1'; exact p1'.elim
  | some t' =>
    rw [q] at p1'
    have p1' : Post X.K xa (fun c d H' => W c d σ H') ρ1 H1 (.ok (.bl (t'.sub t || false)) h1) Q := p1'
    rw [Bool.or_false] at p1'
    exact ⟨v, .ty t.name, .type t'.name, .type t.name, t'.sub t, rfl, .ty _, tyOf_ty rh1 rv q, kit_ty (kit_sub t' t), Post.okv p1' rh1 (.bl _)⟩
/-- names of built-in classes -/
def btL : List Expr → Option (List (Str × Bt))
  | [] => some []
  | .Name x _ :: es => (match btOf x, btL es with
    | some t, some ts => some ((x, t) :: ts)
    | _, _ => none)
  | _ => none
theorem pa_bts : ∀ {es : List Expr} {ts : List (Str × Bt)}, btL es = some ts → (∀ q ∈ ts, Gl X q.1 ∧ X.mg q.1 = none) → PA X es (fun σ H Q => Q (ts.map fun q => V.ty q.2.name) H)
  | [], ts, h, _ => by
    cases h
    exact pa_nil
  | e :: es, ts, h, hh => by
    cases e with
    | Name x p =>
      have h' : (match btOf x, btL es with
        | some t, some ts => some ((x, t) :: ts)
        | _, _ => none) = some ts := h
      cases h1 : btOf x with
      | none => rw [h1] at h'; cases h'
      | some t =>
        cases h2 : btL es with
        | none => rw [h1, h2] at h'; cases h'
        | some ts' =>
          rw [h1, h2] at h'
          cases h'
          obtain ⟨g1, g2⟩ := hh _ (List.mem_cons_self ..)
          exact pa_w (pa_cons (pe_bt h1 g1 g2) (pa_bts h2 fun q hq => hh q (List.mem_cons_of_mem _ hq)) rfl) fun σ H Q q => q
    | _ => cases h
theorem cls_bts : ∀ (ts : List (Str × Bt)), Paired ClsV (ts.map fun q => V.ty q.2.name) (ts.map fun q => Value.type q.2.name)
  | [] => .nil
  | _ :: ts => .cons (.ty _) (cls_bts ts)
theorem kitAny_bts {K : PySem.W.Frag} {t' : Bt} : ∀ {ts : List (Str × Bt)}, PySem.W.kitAny K (.type t'.name) (ts.map fun q => Value.type q.2.name) = some ((ts.map (·.2)).any fun n => t'.sub n)
  | [] => rfl
  | q :: ts => kitAny_cons (b := t'.sub q.2) (kit_ty (kit_sub t' q.2)) (fun z => by
      have e := kitAny_bts (K := K) (t' := t') (ts := ts)
      rw [e, List.map_cons, List.any_cons, z, Bool.false_or]) fun z => by rw [List.map_cons, List.any_cons, z, Bool.true_or]
theorem e_isiT {ts : List (Str × Bt)} {es : List Expr} {k : Nat} {p2 : Pos} (hg0 : Gl X "isinstance") (hm0 : X.mg "isinstance" = none) (ha : E1 X xa W a (ev g ca)) (hs : notStar a = true) (hb : btL es = some ts) (hn : ∀ q ∈ ts, Gl X q.1 ∧ X.mg q.1 = none) (hl : ts.length ≤ 1000) :
    E1 X xa W (.Call (.Name "isinstance" p) [a, .Tuple es k p2] [] pos) (ev g (.isi ca (ts.map (·.2)))) := by
  refine pe_w (pe_callB call_isiT hg0 hm0 boot_isinstance' (pa_cons ha (pa_cons (pe_tup (pa_bts hb hn)) pa_nil rfl) (star_one hs _ _)) (by decide) (by decide) (star_one hs _ _) rfl) fun σ H Q ⟨ρ, σd, h, rl, rh, p⟩ => ?_
  refine semF.then rl rh p fun d h1 ρ1 H1 v q1 e1 rl1 rh1 rv p1 => ?_
  have p1' : Post X.K xa (fun c d H' => W c d σ H') ρ1 H1 (match tyOf h1 d with
    | some t' => .ok (.bl ((ts.map (·.2)).any fun n => t'.sub n)) h1
    | none => .bad) Q := p1
  cases q : tyOf h1 d with
  | none => rw [q] at p1'; exact p1'.elim
  | some t' =>
    rw [q] at p1'
    refine ⟨by rw [List.length_map, sizeLine_eq]; omega, fun tp htp => ?_⟩
    obtain ⟨rh2, e2⟩ := rh1.tupx (xs := ts.map fun q => V.ty q.2.name) htp
    refine ⟨v, tp, _, .type t'.name, ts.map fun q => Value.type q.2.name, _, rfl, upd_same, ?_, tyOf_ty rh2 (rv.ext (List.prefix_refl _) e2) q, kitAny_bts, p1' _ _ _ (List.prefix_refl _) e2 rh2 (.bl _)⟩
    exact cls_bts ts
/-! ### slices -/
abbrev O1 (X : Cx) (xa : Xa) (W : WX) (e : Option Expr) (f : Fn) : Prop := PO X e (fun σ H Q => ∃ (ρ : List Addr) (σd : Sg) (h : AH), Rel X.K xa ρ H σd σ ∧ RepH X.K xa ρ H h ∧ (match f σd h with
  | .ok d h' => (match partOf d with
    | some o => ∀ (ρ' : List Addr) (H' : Hp), ρ <+: ρ' → Ext H H' → RepH X.K xa ρ' H' h' → Q o H'
    | none => False)
  | .exc c fs vs h' => Post X.K xa (fun c d H' => W c d σ H') ρ H (.exc c fs vs h') fun _ _ => False
  | .bad => False))
theorem po_w {X : Cx} {e : Option Expr} {t t' : TO} (h : PO X e t) (w : ∀ σ H Q, t' σ H Q → t σ H Q) : PO X e t' := ⟨fun pins s σ H Q I q => h.run pins s σ H Q I (w σ H Q q)⟩
theorem o_none : O1 X xa W none (ev g (.cst (.it 9 []))) := po_w po_none fun σ H Q ⟨ρ, σd, h, rl, rh, p⟩ => p ρ H (List.prefix_refl _) (Ext.refl _) rh
theorem o_some (ha : E1 X xa W a (ev g ca)) : O1 X xa W (some a) (ev g ca) := po_w (po_some ha) fun σ H Q ⟨ρ, σd, h, rl, rh, p⟩ => by
  refine ⟨ρ, σd, h, rl, rh, ?_⟩
  cases e : ev g ca σd h with
  | bad => rw [e] at p; exact p.elim
  | exc c fs vs h' => rw [e] at p; exact p
  | ok d h' =>
    rw [e] at p
    dsimp only at p
    intro ρ1 H1 v q1 e1 rh1 rv
    cases rv with
    | int i => exact ⟨i, rfl, p ρ1 H1 q1 e1 rh1⟩
    | _ => exact p.elim
/-- a part, then what follows -/
theorem part_then {f : Fn} {k : D → AH → R D} {σ : St} {H : Hp} {Q : VK} {Q' : Option Int → Hp → Prop} {ρ : List Addr} {σd : Sg} {h : AH} (rl : Rel X.K xa ρ H σd σ) (rh : RepH X.K xa ρ H h)
    (p : Post X.K xa (fun c d H' => W c d σ H') ρ H ((f σd h).bind k) Q) (hb : ∀ d h, partOf d = none → k d h = .bad)
    (hk : ∀ d o h1 ρ1 H1, partOf d = some o → ρ <+: ρ1 → Ext H H1 → Rel X.K xa ρ1 H1 σd σ → RepH X.K xa ρ1 H1 h1 → Post X.K xa (fun c d H' => W c d σ H') ρ1 H1 (k d h1) Q → Q' o H1) :
    ∃ (ρ : List Addr) (σd : Sg) (h : AH), Rel X.K xa ρ H σd σ ∧ RepH X.K xa ρ H h ∧ (match f σd h with
      | .ok d h' => (match partOf d with
        | some o => ∀ (ρ' : List Addr) (H' : Hp), ρ <+: ρ' → Ext H H' → RepH X.K xa ρ' H' h' → Q' o H'
        | none => False)
      | .exc c fs vs h' => Post X.K xa (fun c d H' => W c d σ H') ρ H (.exc c fs vs h') fun _ _ => False
      | .bad => False) := by
  refine ⟨ρ, σd, h, rl, rh, ?_⟩
  cases e : f σd h with
  | bad => rw [e] at p; exact p.elim
  | exc c fs vs h' => rw [e] at p; exact p
  | ok d h' =>
    rw [e] at p
    have p : Post X.K xa (fun c d H' => W c d σ H') ρ H (k d h') Q := p
    dsimp only
    cases q : partOf d with
    | none => rw [hb d h' q] at p; exact p.elim
    | some o => exact fun ρ1 H1 q1 e1 rh1 => hk d o h' ρ1 H1 q q1 e1 (rl.ext q1 e1) rh1 (Post.shift q1 e1 p)
/-- what a slice asks -/
def rSl (K : PySem.W.Frag) (xa : Xa) : V → Option Int → Option Int → Hp → VK → Prop := fun x lo hi H Q => ∃ (ρ : List Addr) (h : AH) (d l u : D) (Ex : XK), RepH K xa ρ H h ∧ RepV K xa ρ H d x ∧ partOf l = some lo ∧ partOf u = some hi ∧ Post K xa Ex ρ H (slcS d l u h) Q
theorem cut_rep {K : PySem.W.Frag} {ρ : List Addr} {H : Hp} {ds : List D} {vs : List V} (r : RepVs K xa ρ H ds vs) (lo hi : Option Int) : RepVs K xa ρ H (cutD ds lo hi) (cutV vs lo hi) := by
  unfold cutD cutV
  rw [r.length]
  exact (r.drop _).take _
theorem cut_whole {α : Type} {ds : List α} {lo hi : Option Int} (h : HT.sIx ds.length 0 lo = 0 ∧ HT.sIx ds.length ds.length hi = ds.length) : (ds.drop (HT.sIx ds.length 0 lo)).take (HT.sIx ds.length ds.length hi - HT.sIx ds.length 0 lo) = ds := by
  rw [h.1, h.2]
  simp
theorem sl_any : SlR X (rSl X.K xa) := by
  intro pins s σ H x v vl vu lo hi sl Q I rx hs pl pu ⟨ρ, h, d, l, u, Ex, rh, rd, hl, hu, p⟩
  unfold slcS at p
  rw [hl, hu] at p
  dsimp only at p
  cases rd with
  | @tup ds xs a s1 r =>
    refine sl_tupA pins s σ H _ v vl vu lo hi sl Q I rx hs pl pu ⟨a, xs, rfl, s1, fun z => ?_, fun _ q hq => p.newT rh hq (cut_rep r lo hi)⟩
    have e : cutD ds lo hi = ds := by
      unfold cutD
      rw [r.length] at *
      rw [z.1, z.2, ← r.length]
      simp
    have p' : Post X.K xa Ex ρ H (.ok (.tup (cutD ds lo hi)) h) Q := p
    rw [e] at p'
    exact Post.okv p' rh (.tup s1 r)
  | @rol ds xs a s1 r => exact sl_list pins s σ H _ v vl vu lo hi sl Q I rx hs pl pu ⟨a, xs, rfl, s1.sq, fun q hq => p.new rh hq (cut_rep r lo hi)⟩
  | @ref n a ha =>
    dsimp only at p
    cases q : h[n]? with
    | none => rw [q] at p; exact p.elim
    | some ao =>
      cases ao with
      | dct => rw [q] at p; exact p.elim
      | lst ds =>
        rw [q] at p
        obtain ⟨xs, h1, r⟩ := rh.lst ha q
        exact sl_list pins s σ H _ v vl vu lo hi sl Q I rx hs pl pu ⟨a, xs, rfl, SqL.of h1, fun q hq => p.new rh hq (cut_rep r lo hi)⟩
  | _ => exact p.elim
theorem e_slc {lo hi : Option Expr} {p2 : Pos} (ha : E1 X xa W a (ev g ca)) (hb : O1 X xa W lo (ev g cb)) (hc : O1 X xa W hi (ev g cc)) : E1 X xa W (.Subscript a (.Slice lo hi none p2) pos) (ev g (.slc ca cb cc)) :=
  pe_w (pe_slice sl_any ha hb hc) fun σ H Q ⟨ρ, σd, h, rl, rh, p⟩ => by
    refine semF.then rl rh p fun d h1 ρ1 H1 v q1 e1 rl1 rh1 rv p1 => ?_
    refine part_then (X := X) (xa := xa) (W := W) (Q := Q) (k := fun y h2 => if (partOf y).isSome = true then (ev g cc σd h2).bind fun z h3 => slcS d y z h3 else .bad) rl1 rh1 p1 (fun y h2 z => by rw [z]; rfl) fun y o h2 ρ2 H2 hy q2 e2 rl2 rh2 p2 => ?_
    rw [hy] at p2
    have p2 : Post X.K xa (fun c d H' => W c d σ H') ρ2 H2 ((ev g cc σd h2).bind fun z h3 => slcS d y z h3) Q := p2
    refine part_then (X := X) (xa := xa) (W := W) (Q := Q) (k := fun z h3 => slcS d y z h3) rl2 rh2 p2 (fun z h3 zz => by unfold slcS; rw [hy, zz]) fun z o2 h3 ρ3 H3 hz q3 e3 rl3 rh3 p3 => ?_
    exact ⟨ρ3, h3, d, y, z, _, rh3, (rv.ext q2 e2).ext q3 e3, hy, hz, p3⟩
/-! ### what a loop walks -/
/-- the walk of a source, as the hand layer tells it -/
def ItOk (K : PySem.W.Frag) (xa : Xa) (src : D) (J : It) (ρ : List Addr) (H : Hp) : Prop := ∀ (ρ' : List Addr) (H' : Hp) (h' : AH), ρ <+: ρ' → Ext H H' → RepH K xa ρ' H' h' → ∀ i : Nat, match draw h' src i with
  | none => True
  | some none => J.stop i H'
  | some (some d) => J.go i H' ∧ ∀ x H2, J.yld i H' x H2 → Ext H' H2 ∧ RepH K xa ρ' H2 h' ∧ RepV K xa ρ' H2 d x
theorem ItOk.ext {K : PySem.W.Frag} {src : D} {J : It} {ρ ρ' : List Addr} {H H' : Hp} (h : ItOk K xa src J ρ H) (p : ρ <+: ρ') (e : Ext H H') : ItOk K xa src J ρ' H' := fun ρ2 H2 h2 p2 e2 => h ρ2 H2 h2 (p.trans p2) (e.trans e2)
def semI (K : PySem.W.Frag) (xa : Xa) (W : WX) (f : Fn) : TI := fun σ H R => ∃ (ρ : List Addr) (σd : Sg) (h : AH), Rel K xa ρ H σd σ ∧ RepH K xa ρ H h ∧ (match f σd h with
  | .ok src h' => ∀ (ρ' : List Addr) (H' : Hp) (J : It), ρ <+: ρ' → Ext H H' → RepH K xa ρ' H' h' → ItOk K xa src J ρ' H' → R J H'
  | .exc c fs vs h' => Post K xa (fun c d H' => W c d σ H') ρ H (.exc c fs vs h') fun _ _ => False
  | .bad => False)
abbrev I1 (X : Cx) (xa : Xa) (W : WX) (tg e : Expr) (f : Fn) : Prop := PI X tg e (semI X.K xa W f)
theorem pi_w {X : Cx} {tg e : Expr} {t t' : TI} (h : PI X tg e t) (w : ∀ σ H Q, t' σ H Q → t σ H Q) : PI X tg e t' := ⟨fun pins s σ H Q I q => h.run pins s σ H Q I (w σ H Q q)⟩
/-- a list or a tuple -/
def iSeq (K : PySem.W.Frag) (tl : TE) : TI := fun σ H R => tl σ H fun x H1 => ∃ a, x = .ref a ∧ (((∃ xs, SqL K H1 a xs) ∧ R (Itl K a) H1) ∨ ((∃ xs, SqT K H1 a xs) ∧ R (Itt K a) H1))
theorem pi_seq {tg l : Expr} {tl : TE} (hl : PE X l tl) : PI X tg l (iSeq X.K tl) := by
  refine ⟨fun pins s σ H R I h => ?_⟩
  refine thn (hl.run pins s σ H _ I h) fun v s1 ⟨x, H1, I1, r1, q1⟩ => ?_
  obtain ⟨a, e, q1⟩ := q1
  subst e
  cases r1
  rcases q1 with ⟨⟨xs, hq⟩, q⟩ | ⟨⟨xs, hq⟩, q⟩
  · obtain ⟨its, rv, p, hz⟩ := I1.list hq
    refine wpAny_pyIter_list p.isList ?_
    refine ⟨s1.heap.objs.size, [s1.heap.objs.size], _, _, H1, rfl, I1.kept (t' := s1.toks) fun b o e => Heap.get?_push_of_some _ e, turn_list a _, ⟨_, Heap.get?_push_size _ rfl, rfl, rfl⟩, fun b hb => ?_, q⟩
    have e : b = s1.heap.objs.size := by simpa using hb
    subst e
    exact I1.fpOk (Nat.le_refl _) (I1.hok.fresh (Nat.le_refl _))
  · obtain ⟨its, rv, p, hz⟩ := I1.tuple hq
    refine wpAny_pyIter_tuple (show s1.heap.IsTuple a its.toArray from p) ?_
    refine ⟨s1.heap.objs.size, [s1.heap.objs.size], _, _, H1, rfl, I1.kept (t' := s1.toks) fun b o e => Heap.get?_push_of_some _ e, turn_tuple a _, ⟨_, Heap.get?_push_size _ rfl, rfl, rfl⟩, fun b hb => ?_, q⟩
    have e : b = s1.heap.objs.size := by simpa using hb
    subst e
    exact I1.fpOk (Nat.le_refl _) (I1.hok.fresh (Nat.le_refl _))
theorem itok_seq {K : PySem.W.Frag} {ρ : List Addr} {H : Hp} {h : AH} {d : D} {v : V} (rh : RepH K xa ρ H h) (rv : RepV K xa ρ H d v) (hs : isSeq h d = true) :
    ∃ a, v = .ref a ∧ (((∃ xs, SqL K H a xs) ∧ ItOk K xa (.it 0 [d]) (Itl K a) ρ H) ∨ ((∃ xs, SqT K H a xs) ∧ ItOk K xa (.it 0 [d]) (Itt K a) ρ H)) := by
  have lst : ∀ {a : Addr} {H' : Hp} {ys : List V} {xs : List D} {ρ' : List Addr} {h' : AH} {i : Nat}, SqL K H' a ys → RepH K xa ρ' H' h' → RepVs K xa ρ' H' xs ys → match (some xs[i]? : Option (Option D)) with
      | none => True
      | some none => (Itl K a).stop i H'
      | some (some d) => (Itl K a).go i H' ∧ ∀ x H2, (Itl K a).yld i H' x H2 → Ext H' H2 ∧ RepH K xa ρ' H2 h' ∧ RepV K xa ρ' H2 d x := by
    intro a H' ys xs ρ' h' i hS rh' r
    cases e : xs[i]? with
    | none =>
      refine ⟨ys, hS, ?_⟩
      have := List.getElem?_eq_none_iff.mp e
      rw [← r.length]; exact this
    | some d =>
      obtain ⟨w, h1, h2⟩ := r.get e
      refine ⟨⟨ys, w, hS, h1⟩, fun x H2 hy => ?_⟩
      obtain ⟨e1, e2⟩ := hy
      subst e1
      have e3 := e2 ys hS
      rw [h1] at e3; cases e3
      exact ⟨Ext.refl _, rh', h2⟩
  cases rv with
  | @tup ds xs a s r =>
    refine ⟨a, rfl, .inr ⟨⟨xs, s⟩, fun ρ' H' h' p e rh' i => ?_⟩⟩
    have hS := sqT_ext s e
    have r' := r.ext p e
    have e0 : draw h' (.it 0 [.tup ds]) i = some ds[i]? := rfl
    rw [e0]
    cases q : ds[i]? with
    | none =>
      refine ⟨xs, hS, ?_⟩
      have := List.getElem?_eq_none_iff.mp q
      rw [← r.length]; exact this
    | some d =>
      obtain ⟨w, h1, h2⟩ := r'.get q
      refine ⟨⟨xs, w, hS, h1⟩, fun x H2 hy => ?_⟩
      obtain ⟨e1, e2⟩ := hy
      subst e1
      have e3 := e2 xs hS
      rw [h1] at e3; cases e3
      exact ⟨Ext.refl _, rh', h2⟩
  | @rol ds xs a s r =>
    exact ⟨a, rfl, .inl ⟨⟨xs, s.sq⟩, fun ρ' H' h' p e rh' i => lst (s.ext e).sq rh' (r.ext p e)⟩⟩
  | @ref n a ha =>
    have hs' : (match h[n]? with
      | some (.lst xs) => some xs
      | _ => none : Option (List D)).isSome = true := hs
    cases q : h[n]? with
    | none => rw [q] at hs'; cases hs'
    | some ao =>
      cases ao with
      | dct => rw [q] at hs'; cases hs'
      | lst xs =>
        obtain ⟨ys, h1, _⟩ := rh.lst ha q
        refine ⟨a, rfl, .inl ⟨⟨ys, SqL.of h1⟩, fun ρ' H' h' p e rh' i => ?_⟩⟩
        have e0 : draw h' (.it 0 [.ref n]) i = (match h'[n]? with
          | some (.lst xs) => some xs
          | _ => none : Option (List D)).map fun xs => xs[i]? := rfl
        rw [e0]
        cases q2 : h'[n]? with
        | none => trivial
        | some ao =>
          cases ao with
          | dct => trivial
          | lst zs =>
            obtain ⟨ws, h2, r2⟩ := rh'.lst (get_pre p ha) q2
            exact lst (SqL.of h2) rh' r2
  | _ => cases hs
theorem itok_rng {K : PySem.W.Frag} {ρ : List Addr} {H : Hp} (lo n : Int) : ItOk K xa (.it 1 [.int lo, .int n]) (Itr lo n.toNat) ρ H := fun ρ' H' h' p e rh' i => by
  have e0 : draw h' (.it 1 [.int lo, .int n]) i = some (if i < n.toNat then some (.int (lo + i)) else none) := rfl
  rw [e0]
  by_cases c : i < n.toNat
  · rw [if_pos c]
    refine ⟨c, fun x H2 hy => ?_⟩
    obtain ⟨e1, e2⟩ := hy
    subst e1 e2
    exact ⟨Ext.refl _, rh', .int _⟩
  · rw [if_neg c]
    show n.toNat ≤ i
    omega
theorem i_seq {tg : Expr} (ha : E1 X xa W a (ev g ca)) : I1 X xa W tg a (ev g (.itr 0 (.cons ca .nil))) :=
  pi_w (pi_seq ha) fun σ H R ⟨ρ, σd, h, rl, rh, p⟩ => by
    refine ⟨ρ, σd, h, rl, rh, ?_⟩
    have p' : (match ((ev g ca σd h).bind fun x h1 => if isSeq h1 x = true then .ok (.it 0 [x]) h1 else .bad : Ly.R D) with
      | .ok src h' => ∀ (ρ' : List Addr) (H' : Hp) (J : It), ρ <+: ρ' → Ext H H' → RepH X.K xa ρ' H' h' → ItOk X.K xa src J ρ' H' → R J H'
      | .exc c fs vs h' => Post X.K xa (fun c d H' => W c d σ H') ρ H (.exc c fs vs h') fun _ _ => False
      | .bad => False) := by
      cases e : ev g ca σd h with
      | bad =>
        have e0 : ev g (.itr 0 (.cons ca .nil)) σd h = .bad := by show ((ev g ca σd h).bind _).bind _ = _; rw [e]; rfl
        rw [e0] at p; exact p
      | exc c fs vs h' =>
        have e0 : ev g (.itr 0 (.cons ca .nil)) σd h = .exc c fs vs h' := by show ((ev g ca σd h).bind _).bind _ = _; rw [e]; rfl
        rw [e0] at p; exact p
      | ok d h' =>
        have e0 : ev g (.itr 0 (.cons ca .nil)) σd h = if isSeq h' d = true then .ok (.it 0 [d]) h' else .bad := by show ((ev g ca σd h).bind _).bind _ = _; rw [e]; rfl
        rw [e0] at p; exact p
    cases e : ev g ca σd h with
    | bad => rw [e] at p'; exact p'.elim
    | exc c fs vs h' => rw [e] at p'; exact p'
    | ok d h' =>
      rw [e] at p'
      have p' : (match (if isSeq h' d = true then .ok (.it 0 [d]) h' else .bad : Ly.R D) with
        | .ok src h' => ∀ (ρ' : List Addr) (H' : Hp) (J : It), ρ <+: ρ' → Ext H H' → RepH X.K xa ρ' H' h' → ItOk X.K xa src J ρ' H' → R J H'
        | .exc c fs vs h' => Post X.K xa (fun c d H' => W c d σ H') ρ H (.exc c fs vs h') fun _ _ => False
        | .bad => False) := p'
      intro ρ1 H1 v q1 e1 rh1 rv
      by_cases c : isSeq h' d = true
      · rw [if_pos c] at p'
        obtain ⟨a, rfl, hh⟩ := itok_seq rh1 rv c
        refine ⟨a, rfl, ?_⟩
        rcases hh with ⟨h1, h2⟩ | ⟨h1, h2⟩
        · exact .inl ⟨h1, p' ρ1 H1 _ q1 e1 rh1 h2⟩
        · exact .inr ⟨h1, p' ρ1 H1 _ q1 e1 rh1 h2⟩
      · rw [if_neg c] at p'; exact p'.elim
/-- what follows the arguments of a walk -/
theorem itr_then {K : PySem.W.Frag} {k : Nat} {σ : St} {H : Hp} {R : It → Hp → Prop} {Q' : List V → Hp → Prop} (h : semI K xa W (ev g (.itr k ca)) σ H R)
    (hk : ∀ (ds : List D) (h1 : AH) (ρ1 : List Addr) (H1 : Hp) (vs : List V), RepH K xa ρ1 H1 h1 → RepVs K xa ρ1 H1 ds vs → (match itS k ds h1 with
      | .ok src h' => ∀ (ρ' : List Addr) (H' : Hp) (J : It), ρ1 <+: ρ' → Ext H1 H' → RepH K xa ρ' H' h' → ItOk K xa src J ρ' H' → R J H'
      | .exc _ _ _ _ => False
      | .bad => False) → Q' vs H1) (hx : ∀ ds h, ∀ c fs vs h', itS k ds h ≠ .exc c fs vs h') : semAr K xa W (ev g ca) σ H Q' := by
  obtain ⟨ρ, σd, h, rl, rh, p⟩ := h
  refine ⟨ρ, σd, h, rl, rh, ?_⟩
  cases e : ev g ca σd h with
  | bad =>
    have e0 : ev g (.itr k ca) σd h = .bad := by show (ev g ca σd h).bind _ = _; rw [e]; rfl
    rw [e0] at p; exact p
  | exc c fs vs h' =>
    have e0 : ev g (.itr k ca) σd h = .exc c fs vs h' := by show (ev g ca σd h).bind _ = _; rw [e]; rfl
    rw [e0] at p; exact p
  | ok y h' =>
    cases y with
    | tup ds =>
      have e0 : ev g (.itr k ca) σd h = itS k ds h' := by show (ev g ca σd h).bind _ = _; rw [e]; rfl
      rw [e0] at p
      intro ρ1 H1 vs q1 e1 rh1 rv
      refine hk ds h' ρ1 H1 vs rh1 rv ?_
      cases q : itS k ds h' with
      | bad => rw [q] at p; exact p
      | exc c fs vs h2 => exact (hx _ _ _ _ _ _ q).elim
      | ok src h2 =>
        rw [q] at p
        exact fun ρ2 H2 J q2 e2 => p ρ2 H2 J (q1.trans q2) (e1.trans e2)
    | _ =>
      have e0 : ev g (.itr k ca) σd h = .bad := by show (ev g ca σd h).bind _ = _; rw [e]; rfl
      rw [e0] at p; exact p.elim
theorem itS_noexc (k : Nat) (ds : List D) (h : AH) : ∀ c fs vs h', itS k ds h ≠ .exc c fs vs h' := by
  intro c fs vs h' e
  match ds, e with
  | [], e => cases e
  | [s], e =>
    have e : it1 k s h = .exc c fs vs h' := e
    unfold it1 at e
    split at e
    · split at e <;> cases e
    · split at e
      · split at e <;> cases e
      · cases e
    · cases e
  | [s, t], e =>
    have e : it2 k s t h = .exc c fs vs h' := e
    unfold it2 at e
    split at e
    · split at e
      · split at e <;> cases e
      · cases e
    · cases e
  | _ :: _ :: _ :: _, e => cases e
theorem i_rng1 {tg : Expr} (hg : Gl X "range") (hm : X.mg "range" = none) (ha : Ar X xa W [a] (ev g ca)) (hs : notStar a = true) : I1 X xa W tg (.Call (.Name "range" p) [a] [] pos) (ev g (.itr 1 ca)) :=
  pi_w (pi_range1 hg hm ha (star_one hs [] _)) fun σ H R h => itr_then h (fun ds h1 ρ1 H1 vs rh rv q => by
    match ds, rv, q with
    | [d], rv, q =>
      obtain ⟨v, rfl, r⟩ := repVs_one rv
      cases r with
      | int j =>
        have q' : (match (if -4611686018427387904 ≤ j ∧ j < 4611686018427387904 then .ok (.it 1 [.int 0, .int j]) h1 else .bad : Ly.R D) with
          | .ok src h' => ∀ (ρ' : List Addr) (H' : Hp) (J : It), ρ1 <+: ρ' → Ext H1 H' → RepH X.K xa ρ' H' h' → ItOk X.K xa src J ρ' H' → R J H'
          | .exc _ _ _ _ => False
          | .bad => False) := q
        by_cases c : -4611686018427387904 ≤ j ∧ j < 4611686018427387904
        · rw [if_pos c] at q'
          exact ⟨j, rfl, c.1, c.2, q' ρ1 H1 _ (List.prefix_refl _) (Ext.refl _) rh (itok_rng 0 j)⟩
        · rw [if_neg c] at q'; exact q'.elim
      | _ => exact q.elim
    | [], _, q => exact q.elim
    | [_, _], _, q => exact q.elim
    | _ :: _ :: _ :: _, _, q => exact q.elim) (itS_noexc 1)
theorem i_rng2 {tg : Expr} (hg : Gl X "range") (hm : X.mg "range" = none) (ha : Ar X xa W [a, b] (ev g ca)) (hs : notStar a = true) (hs2 : notStar b = true) : I1 X xa W tg (.Call (.Name "range" p) [a, b] [] pos) (ev g (.itr 4 ca)) :=
  pi_w (pi_range2 hg hm ha (by rw [star_one hs, star_one hs2]; rfl) (by rw [star_one hs2]; rfl)) fun σ H R h => itr_then h (fun ds h1 ρ1 H1 vs rh rv q => by
    match ds, rv, q with
    | [d, e], rv, q =>
      obtain ⟨v, w, rfl, r1, r2⟩ := repVs_two rv
      cases r1 with
      | int i =>
        cases r2 with
        | int j =>
          have q' : (match (if (-4611686018427387904 ≤ i ∧ i < 4611686018427387904) ∧ (-4611686018427387904 ≤ j ∧ j < 4611686018427387904) then .ok (.it 1 [.int i, .int (j - i)]) h1 else .bad : Ly.R D) with
            | .ok src h' => ∀ (ρ' : List Addr) (H' : Hp) (J : It), ρ1 <+: ρ' → Ext H1 H' → RepH X.K xa ρ' H' h' → ItOk X.K xa src J ρ' H' → R J H'
            | .exc _ _ _ _ => False
            | .bad => False) := q
          by_cases c : (-4611686018427387904 ≤ i ∧ i < 4611686018427387904) ∧ (-4611686018427387904 ≤ j ∧ j < 4611686018427387904)
          · rw [if_pos c] at q'
            exact ⟨i, j, rfl, ⟨c.1.1, c.1.2, c.2.1, c.2.2⟩, q' ρ1 H1 _ (List.prefix_refl _) (Ext.refl _) rh (itok_rng i (j - i))⟩
          · rw [if_neg c] at q'; exact q'.elim
        | _ => exact q.elim
      | _ => exact q.elim
    | [], _, q => exact q.elim
    | [_], _, q => exact q.elim
    | _ :: _ :: _ :: _, _, q => exact q.elim) (itS_noexc 4)
end
end Ly
end
section
set_option Elab.async false
set_option linter.all false
set_option maxRecDepth 100000
set_option maxHeartbeats 1000000
/-! Ly9: targets, statements. -/
namespace Ly
open PySem PySem.Spec PyProof.Rows L2
theorem wipe_get {σ : St} {j : Nat} : ∀ {vs : List Nat}, (wipe σ vs)[j]? = if j ∈ vs then (σ[j]?).map (fun _ => none) else σ[j]?
  | [] => by simp [wipe]
  | v :: vs => by
    unfold wipe
    by_cases hj : v = j
    · subst hj
      rw [if_pos (by simp)]
      by_cases hl : v < (wipe σ vs).length
      · rw [List.getElem?_set_self hl]
        rw [wipe_length] at hl
        rw [List.getElem?_eq_getElem hl]; rfl
      · rw [List.getElem?_eq_none (by rw [List.length_set]; omega)]
        rw [wipe_length] at hl
        rw [List.getElem?_eq_none (by omega)]; rfl
    · rw [List.getElem?_set_ne hj, wipe_get (vs := vs)]
      by_cases hm : j ∈ vs
      · rw [if_pos hm, if_pos (List.mem_cons_of_mem _ hm)]
      · rw [if_neg hm, if_neg (by simp only [List.mem_cons, not_or]; exact ⟨fun z => hj z.symm, hm⟩)]
theorem wipe_set {σ : St} {i : Nat} {o : Option V} {vs : List Nat} (h : i ∈ vs) : wipe (σ.set i o) vs = wipe σ vs := by
  apply List.ext_getElem?
  intro j
  rw [wipe_get, wipe_get]
  by_cases hj : j ∈ vs
  · rw [if_pos hj, if_pos hj]
    by_cases hij : i = j
    · subst hij
      by_cases hl : i < σ.length
      · rw [List.getElem?_set_self hl, List.getElem?_eq_getElem hl]; rfl
      · rw [List.getElem?_eq_none (by rw [List.length_set]; omega), List.getElem?_eq_none (by omega)]
    · rw [List.getElem?_set_ne hij]
  · rw [if_neg hj, if_neg hj, List.getElem?_set_ne (fun z => hj (by rw [← z]; exact h))]
theorem wipe_idem (σ : St) (vs : List Nat) : wipe (wipe σ vs) vs = wipe σ vs := by
  apply List.ext_getElem?
  intro j
  rw [wipe_get, wipe_get]
  by_cases hj : j ∈ vs
  · rw [if_pos hj, if_pos hj, Option.map_map]; rfl
  · rw [if_neg hj, if_neg hj]
theorem Rel.wipe {K : PySem.W.Frag} {xa : Xa} {ρ : List Addr} {H : Hp} {σd : Sg} {σ : St} (r : Rel K xa ρ H σd σ) : ∀ (vs : List Nat), (∀ v ∈ vs, XaIx xa v) → Rel K xa ρ H (wipeD σd vs) (L2.wipe σ vs)
  | [], _ => r
  | v :: vs, h => Rel.unset v (h v (List.mem_cons_self ..)) (Rel.wipe r vs fun w hw => h w (List.mem_cons_of_mem _ hw))
section
variable {X : Cx} {xa : Xa} {W : WX} {a b c e : Expr} {es : List Expr} {pos p : Pos} {g : Gs} {ca cb cc : CE}
/-! ### targets -/
def semG (K : PySem.W.Frag) (xa : Xa) (p : Pat) : TG := fun v σ H Q => ∃ (ρ : List Addr) (σd : Sg) (h : AH) (d : D), Rel K xa ρ H σd σ ∧ RepH K xa ρ H h ∧ RepV K xa ρ H d v ∧ ∃ σd', bindP p d σd = some σd' ∧ ∀ σ', Rel K xa ρ H σd' σ' → (∀ vs : List Nat, (∀ i ∈ slots p, i ∈ vs) → wipe σ' vs = wipe σ vs) → Q σ' H
def semGs (K : PySem.W.Frag) (xa : Xa) (p : Pat) : TGs := fun vs σ H Q => ∃ (ρ : List Addr) (σd : Sg) (h : AH) (ds : List D), Rel K xa ρ H σd σ ∧ RepH K xa ρ H h ∧ RepVs K xa ρ H ds vs ∧ ∃ σd', bindPs p ds σd = some σd' ∧ ∀ σ', Rel K xa ρ H σd' σ' → (∀ vs : List Nat, (∀ i ∈ slots p, i ∈ vs) → wipe σ' vs = wipe σ vs) → Q σ' H
theorem pg_w {tg : Expr} {t t' : TG} (h : PG X tg t) (w : ∀ v σ H Q, t' v σ H Q → t v σ H Q) : PG X tg t' := ⟨fun pins s σ H v u Q I r q => h.run pins s σ H v u Q I r (w v σ H Q q)⟩
theorem pgs_w {tg : List Expr} {t t' : TGs} (h : PGs X tg t) (w : ∀ v σ H Q, t' v σ H Q → t v σ H Q) : PGs X tg t' := ⟨fun pins s σ H v u Q I r q => h.run pins s σ H v u Q I r (w v σ H Q q)⟩
abbrev G1 (X : Cx) (xa : Xa) (tg : Expr) (p : Pat) : Prop := PG X tg (semG X.K xa p)
abbrev Gs1 (X : Cx) (xa : Xa) (tg : List Expr) (p : Pat) : Prop := PGs X tg (semGs X.K xa p)
theorem g_v {i : Nat} {x : Str} (hxi : XaIx xa i) (hN : X.N.Nodup) (hi : X.N[i]? = some x) (hx : Loc X.env.scope x) (hf : X.fn x = true ∨ X.env.scope.names.lookup x = some .local) : G1 X xa (.Name x pos) (.v i) :=
  pg_w (pg_name hN hi hx hf) fun v σ H Q ⟨ρ, σd, h, d, rl, rh, rv, σd', e, q⟩ => by
    cases e
    exact q _ (rl.set rv i hxi) fun vs hv => wipe_set (hv i (by simp [slots]))
theorem gs_nil : Gs1 X xa [] .nil := pgs_w pgs_nil fun v σ H Q ⟨ρ, σd, h, ds, rl, rh, rv, σd', e, q⟩ => by
  cases ds with
  | cons => cases e
  | nil =>
    cases rv
    cases e
    exact ⟨rfl, q _ rl fun _ _ => rfl⟩
theorem asgEach_one {e : Expr} (h : notStar e = true) (es : List Expr) (env : Env) : assignEach (e :: es) env = (false, assign e env) :: assignEach es env := by
  cases e <;> first | rfl | cases h
theorem asgEach_len (env : Env) : ∀ {es : List Expr}, (assignEach es env).length = es.length
  | [] => rfl
  | e :: r => by cases e <;> exact congrArg Nat.succ (asgEach_len env)
theorem asgEach_find {es : List Expr} (h : notStars es = true) (env : Env) : (assignEach es env).findIdx? (·.1) = none := by
  rw [List.findIdx?_eq_none_iff]
  intro x hx
  induction es with
  | nil => cases hx
  | cons e r ih =>
    have h' : notStar e = true ∧ notStars r = true := by simpa [notStars] using h
    rw [asgEach_one h'.1] at hx
    rcases List.mem_cons.mp hx with rfl | hx
    · rfl
    · exact ih h'.2 hx
theorem gs_cons {p r : Pat} (h1 : G1 X xa e p) (h2 : Gs1 X xa es r) (hs : notStar e = true) : Gs1 X xa (e :: es) (.cons p r) :=
  pgs_w (pgs_cons h1 h2 (by rw [asgEach_one hs]; rfl)) fun v σ H Q ⟨ρ, σd, h, ds, rl, rh, rv, σd', e, q⟩ => by
    cases ds with
    | nil => cases e
    | cons d ds =>
      cases rv with
      | cons r1 r2 =>
        have e' : (match bindP p d σd with
          | some σ' => bindPs r ds σ'
          | none => none) = some σd' := e
        cases z : bindP p d σd with
        | none => rw [z] at e'; cases e'
        | some σ1 =>
          rw [z] at e'
          refine ⟨_, _, rfl, ρ, σd, h, d, rl, rh, r1, σ1, z, fun σ2 rl2 w2 => ?_⟩
          refine ⟨ρ, σ1, h, ds, rl2, rh, r2, σd', e', fun σ3 rl3 w3 => q σ3 rl3 fun vs hv => ?_⟩
          rw [w3 vs fun i hi => hv i (by simp [slots, hi]), w2 vs fun i hi => hv i (by simp [slots, hi])]
def patLen : Pat → Option Nat
  | .nil => some 0
  | .cons _ r => (patLen r).map (· + 1)
  | _ => none
theorem bindPs_len : ∀ {p : Pat} {n : Nat}, patLen p = some n → ∀ {ds : List D} {σ σ' : Sg}, bindPs p ds σ = some σ' → ds.length = n := by
  intro p
  induction p with
  | nil =>
    intro n e ds σ σ' q
    cases e
    cases ds with
    | nil => rfl
    | cons => cases q
  | cons a r ih1 ih2 =>
    intro n e ds σ σ' q
    have e' : (patLen r).map (· + 1) = some n := e
    cases z : patLen r with
    | none => rw [z] at e'; cases e'
    | some m =>
      rw [z] at e'
      cases e'
      cases ds with
      | nil => cases q
      | cons d ds =>
        have q' : (match bindP a d σ with
          | some σ1 => bindPs r ds σ1
          | none => none) = some σ' := q
        cases y : bindP a d σ with
        | none => rw [y] at q'; cases q'
        | some σ1 =>
          rw [y] at q'
          exact congrArg (· + 1) (ih2 z q')
  | _ => intro n e; cases e
theorem g_tup {r : Pat} {k : Nat} (hc : X.calm = true) (h : Gs1 X xa es r) (hs : notStars es = true) (hl : patLen r = some es.length) : G1 X xa (.Tuple es k pos) (.tup r) :=
  pg_w (pg_tup hc h (n := es.length) (asgEach_len _) (asgEach_find hs _)) fun v σ H Q ⟨ρ, σd, h, d, rl, rh, rv, σd', e, q⟩ => by
    cases rv with
    | @tup ds xs a s r1 =>
      have e' : bindPs r ds σd = some σd' := e
      refine ⟨a, xs, rfl, s, ?_, ρ, σd, h, ds, rl, rh, r1, σd', e', q⟩
      rw [← r1.length]
      exact bindPs_len hl e'
    | _ => cases e
/-! ### statements -/
def PostS (K : PySem.W.Frag) (xa : Xa) (W : WX) (D' : Ends) (ρ : List Addr) (H : Hp) (r : RS) : Prop := match r with
  | .nx σd h' => ∀ (ρ' : List Addr) (H' : Hp) (σ' : St), ρ <+: ρ' → Ext H H' → RepH K xa ρ' H' h' → Rel K xa ρ' H' σd σ' → D'.nx σ' H'
  | .bk σd h' => ∀ (ρ' : List Addr) (H' : Hp) (σ' : St), ρ <+: ρ' → Ext H H' → RepH K xa ρ' H' h' → Rel K xa ρ' H' σd σ' → D'.bk σ' H'
  | .ct σd h' => ∀ (ρ' : List Addr) (H' : Hp) (σ' : St), ρ <+: ρ' → Ext H H' → RepH K xa ρ' H' h' → Rel K xa ρ' H' σd σ' → D'.ct σ' H'
  | .rt d h' => ∀ (ρ' : List Addr) (H' : Hp) (v : V), ρ <+: ρ' → Ext H H' → RepH K xa ρ' H' h' → RepV K xa ρ' H' d v → D'.rt v H'
  | .exc c fs vs σd h' => ∀ (ρ' : List Addr) (H' : Hp) (σ' : St) (dd : Addr) (xs : List (Str × V)), ρ <+: ρ' → Ext H H' → RepH K xa ρ' H' h' → Rel K xa ρ' H' σd σ' → H' dd = some (.xd xs) → xs.map (·.1) = fs → RepVs K xa ρ' H' vs (xs.map (·.2)) → W (.ref (He.ga K c)) (some dd) σ' H'
  | .bad => False
theorem PostS.shift {K : PySem.W.Frag} {D' : Ends} {ρ ρ' : List Addr} {H H' : Hp} {r : RS} (p : ρ <+: ρ') (e : Ext H H') (h : PostS K xa W D' ρ H r) : PostS K xa W D' ρ' H' r := by
  cases r with
  | nx σd h' => exact fun ρ2 H2 v p2 e2 => h ρ2 H2 v (p.trans p2) (e.trans e2)
  | bk σd h' => exact fun ρ2 H2 v p2 e2 => h ρ2 H2 v (p.trans p2) (e.trans e2)
  | ct σd h' => exact fun ρ2 H2 v p2 e2 => h ρ2 H2 v (p.trans p2) (e.trans e2)
  | rt σd h' => exact fun ρ2 H2 v p2 e2 => h ρ2 H2 v (p.trans p2) (e.trans e2)
  | exc c fs vs σd h' => exact fun ρ2 H2 v dd xs p2 e2 => h ρ2 H2 v dd xs (p.trans p2) (e.trans e2)
  | bad => exact h
abbrev FnS := Sg → AH → RS
def semS (K : PySem.W.Frag) (xa : Xa) (W : WX) (f : FnS) : TS := fun D' σ H => ∃ (ρ : List Addr) (σd : Sg) (h : AH), Rel K xa ρ H σd σ ∧ RepH K xa ρ H h ∧ PostS K xa W D' ρ H (f σd h)
abbrev S1 (X : Cx) (xa : Xa) (W : WX) (st : Stmt) (f : FnS) : Prop := PS X st (semS X.K xa W f)
abbrev Ss1 (X : Cx) (xa : Xa) (W : WX) (st : List Stmt) (f : FnS) : Prop := PSs X st (semS X.K xa W f)
/-- an expression, then what follows -/
theorem evS_then {K : PySem.W.Frag} {f : Fn} {k : D → AH → RS} {D' : Ends} {σ : St} {H : Hp} {Q' : VK} {ρ : List Addr} {σd : Sg} {h : AH} (rl : Rel K xa ρ H σd σ) (rh : RepH K xa ρ H h)
    (p : PostS K xa W D' ρ H (evS (f σd h) σd k))
    (hk : ∀ d h1 ρ1 H1 v, ρ <+: ρ1 → Ext H H1 → Rel K xa ρ1 H1 σd σ → RepH K xa ρ1 H1 h1 → RepV K xa ρ1 H1 d v → PostS K xa W D' ρ1 H1 (k d h1) → Q' v H1) : semF K xa W f σ H Q' := by
  refine ⟨ρ, σd, h, rl, rh, ?_⟩
  cases e : f σd h with
  | bad => rw [e] at p; exact p.elim
  | exc c fs vs h' =>
    rw [e] at p
    exact fun ρ1 H1 dd xs q1 e1 rh1 => p ρ1 H1 σ dd xs q1 e1 rh1 (rl.ext q1 e1)
  | ok d h' =>
    rw [e] at p
    exact fun ρ1 H1 v q1 e1 rh1 rv => hk d h' ρ1 H1 v q1 e1 (rl.ext q1 e1) rh1 rv (PostS.shift q1 e1 (show PostS K xa W D' ρ H (k d h') from p))
theorem s_nil : Ss1 X xa W [] (exec g .skip) := pss_w pss_nil fun D' σ H ⟨ρ, σd, h, rl, rh, p⟩ => p ρ H σ (List.prefix_refl _) (Ext.refl _) rh rl
theorem s_pass : S1 X xa W (.Pass pos) (exec g .skip) := ps_w ps_pass fun D' σ H ⟨ρ, σd, h, rl, rh, p⟩ => p ρ H σ (List.prefix_refl _) (Ext.refl _) rh rl
theorem s_brk : S1 X xa W (.Break pos) (exec g .brk) := ps_w ps_break fun D' σ H ⟨ρ, σd, h, rl, rh, p⟩ => p ρ H σ (List.prefix_refl _) (Ext.refl _) rh rl
theorem s_cnt : S1 X xa W (.Continue pos) (exec g .cnt) := ps_w ps_continue fun D' σ H ⟨ρ, σd, h, rl, rh, p⟩ => p ρ H σ (List.prefix_refl _) (Ext.refl _) rh rl
theorem s_cons {st : Stmt} {rest : List Stmt} {ia ib : CS} (h1 : S1 X xa W st (exec g ia)) (h2 : Ss1 X xa W rest (exec g ib)) : Ss1 X xa W (st :: rest) (exec g (.seq ia ib)) :=
  pss_w (pss_cons h1 h2) fun D' σ H ⟨ρ, σd, h, rl, rh, p⟩ => by
    refine ⟨ρ, σd, h, rl, rh, ?_⟩
    have p' : PostS X.K xa W D' ρ H (seqS (exec g ia σd h) (exec g ib)) := p
    cases e : exec g ia σd h with
    | nx σ1 h1 =>
      rw [e] at p'
      exact fun ρ1 H1 σ' q1 e1 rh1 rl1 => ⟨ρ1, σ1, h1, rl1, rh1, PostS.shift q1 e1 (show PostS X.K xa W D' ρ H (exec g ib σ1 h1) from p')⟩
    | bk => rw [e] at p'; exact p'
    | ct => rw [e] at p'; exact p'
    | rt => rw [e] at p'; exact p'
    | exc => rw [e] at p'; exact p'
    | bad => rw [e] at p'; exact p'.elim
/-- no comprehension as a value -/
def notComp : Expr → Bool
  | .ListComp _ _ _ _ => false
  | .SetComp _ _ _ _ => false
  | .DictComp _ _ _ _ _ => false
  | _ => true
theorem swaps_no {e : Expr} (h : notComp e = true) (t : Option Expr) (l : Nat) (env : Env) : swapsWith e t l env = pure false := by
  cases e <;> first | rfl | cases h
theorem s_ex (ha : E1 X xa W e (ev g ca)) (hc : notComp e = true) : S1 X xa W (.Expr e pos) (exec g (.ex ca)) :=
  ps_w (ps_expr ha (swaps_no hc _ _ _)) fun D' σ H ⟨ρ, σd, h, rl, rh, p⟩ =>
    evS_then rl rh p fun d h1 ρ1 H1 v q1 e1 rl1 rh1 rv p1 => p1 ρ1 H1 σ (List.prefix_refl _) (Ext.refl _) rh1 rl1
theorem s_ret (ha : E1 X xa W e (ev g ca)) : S1 X xa W (.Return (some e) pos) (exec g (.ret ca)) :=
  ps_w (ps_ret ha) fun D' σ H ⟨ρ, σd, h, rl, rh, p⟩ =>
    evS_then rl rh p fun d h1 ρ1 H1 v q1 e1 rl1 rh1 rv p1 => p1 ρ1 H1 v (List.prefix_refl _) (Ext.refl _) rh1 rv
theorem s_retN : S1 X xa W (.Return none pos) (exec g .retN) :=
  ps_w ps_retN fun D' σ H ⟨ρ, σd, h, rl, rh, p⟩ => p ρ H .non (List.prefix_refl _) (Ext.refl _) rh .non
theorem asg_of {pt : Pat} {D' : Ends} {σ : St} {H : Hp} (h : semS X.K xa W (exec g (.asg pt ca)) D' σ H) : tAsg (semF X.K xa W (ev g ca)) (semG X.K xa pt) D' σ H := by
  obtain ⟨ρ, σd, h, rl, rh, p⟩ := h
  refine evS_then rl rh p fun d h1 ρ1 H1 v q1 e1 rl1 rh1 rv p1 => ?_
  cases z : bindP pt d σd with
  | none => rw [z] at p1; exact p1.elim
  | some σ1 =>
    rw [z] at p1
    exact ⟨ρ1, σd, h1, d, rl1, rh1, rv, σ1, z, fun σ' rl2 _ => p1 ρ1 H1 σ' (List.prefix_refl _) (Ext.refl _) rh1 rl2⟩
theorem pg_name' {i : Nat} {x : Str} (hxi : XaIx xa i) (v : V) (σ : St) (H : Hp) (Q : St → Hp → Prop) (h : semG X.K xa (.v i) v σ H Q) : gName i v σ H Q := by
  obtain ⟨ρ, σd, h, d, rl, rh, rv, σd', e, q⟩ := h
  cases e
  exact q _ (rl.set rv i hxi) fun vs hv => wipe_set (hv i (by simp [slots]))
theorem s_set {i : Nat} {x : Str} {pos' : Pos} (hxi : XaIx xa i) (hN : X.N.Nodup) (hi : X.N[i]? = some x) (hx : Loc X.env.scope x) (hf : X.fn x = true ∨ X.env.scope.names.lookup x = some .local) (ha : E1 X xa W e (ev g ca)) (hc : notComp e = true) :
    S1 X xa W (.Assign [.Name x pos'] e pos) (exec g (.asg (.v i) ca)) :=
  ps_w (ps_set hN hi hx ha (swaps_no hc _ _ _) hf) fun D' σ H h => by
    obtain ⟨ρ, σd, h, rl, rh, p⟩ := asg_of h
    refine ⟨ρ, σd, h, rl, rh, p.imp fun v H1 q => pg_name' (x := x) hxi v σ H1 _ q⟩
def notTup : Expr → Bool
  | .Tuple _ _ _ => false
  | _ => true
theorem swapped_no {tg e : Expr} (h : notTup e = true) (env : Env) : swappedStores [tg] e env = pure none := by
  cases e with
  | Tuple => cases h
  | _ => cases tg <;> rfl
theorem s_asg {pt : Pat} {tg : Expr} (hg : G1 X xa tg pt) (hst : notStar tg = true) (ha : E1 X xa W e (ev g ca)) (hc : notComp e = true) (ht : notTup e = true) : S1 X xa W (.Assign [tg] e pos) (exec g (.asg pt ca)) :=
  ps_w (ps_asg ha hg (swaps_no hc _ _ _) (swapped_no ht _) (by rw [asgEach_one hst]; rfl)) fun D' σ H h => asg_of h
theorem s_if {sa sb : List Stmt} {ia ib : CS} (hc : T1 X xa W c (ev g cc)) (ha : Ss1 X xa W sa (exec g ia)) (hb : Ss1 X xa W sb (exec g ib)) : S1 X xa W (.If c sa sb pos) (exec g (.ifS cc ia ib)) :=
  ps_w (ps_if hc ha hb) fun D' σ H ⟨ρ, σd, h, rl, rh, p⟩ => by
    refine evS_then (W := W) rl rh p fun d h1 ρ1 H1 v q1 e1 rl1 rh1 rv p1 => ?_
    cases rv with
    | bl b =>
      refine ⟨b, rfl, ?_⟩
      cases b with
      | true => exact iteT ⟨ρ1, σd, h1, rl1, rh1, p1⟩
      | false => exact iteF ⟨ρ1, σd, h1, rl1, rh1, p1⟩
    | _ => exact p1.elim
/-! ### loops -/
theorem s_whl {sa : List Stmt} {ia : CS} (hp : PassesOwn (model X.prog X.w) X.A X.env X.xe) (hc : T1 X xa W c (ev g cc)) (ha : Ss1 X xa W sa (exec g ia)) : S1 X xa W (.While c sa [] pos) (exec g (.whl cc ia)) :=
  ps_w (ps_while hp hc ha) fun D' σ H ⟨ρ, σd, h, rl, rh, p⟩ => by
    refine ⟨fun m σ H => ∃ (ρ : List Addr) (σd : Sg) (h : AH), Rel X.K xa ρ H σd σ ∧ RepH X.K xa ρ H h ∧ PostS X.K xa W D' ρ H (whlLoop (ev g cc) (exec g ia) m σd h), ⟨wf, ρ, σd, h, rl, rh, p⟩, ?_⟩
    rintro m σ H ⟨ρ, σd, h, rl, rh, p⟩
    cases m with
    | zero => exact p.elim
    | succ f =>
      refine ⟨ρ, σd, h, rl, rh, ?_⟩
      unfold whlLoop at p
      cases e : ev g cc σd h with
      | bad => rw [e] at p; exact p.elim
      | exc c fs vs h' =>
        rw [e] at p
        exact fun ρ1 H1 dd xs q1 e1 rh1 => p ρ1 H1 σ dd xs q1 e1 rh1 (rl.ext q1 e1)
      | ok d h' =>
        rw [e] at p
        intro ρ1 H1 v q1 e1 rh1 rv
        have p := PostS.shift q1 e1 p
        cases rv with
        | bl b =>
          refine ⟨b, rfl, ?_⟩
          cases b with
          | false =>
            rw [if_neg Bool.false_ne_true]
            exact p ρ1 H1 σ (List.prefix_refl _) (Ext.refl _) rh1 (rl.ext q1 e1)
          | true =>
            rw [if_pos rfl]
            refine ⟨fun σ' H' => ∃ (ρ : List Addr) (σd : Sg) (h : AH), Rel X.K xa ρ H' σd σ' ∧ RepH X.K xa ρ H' h ∧ PostS X.K xa W D' ρ H' (whlLoop (ev g cc) (exec g ia) f σd h), fun σ' H' z => ⟨f, Nat.lt_succ_self f, z⟩, ρ1, σd, h', rl.ext q1 e1, rh1, ?_⟩
            dsimp only at p
            cases e2 : exec g ia σd h' with
            | nx σ2 h2 =>
              rw [e2] at p
              exact fun ρ2 H2 σ' q2 e2 rh2 rl2 => ⟨ρ2, σ2, h2, rl2, rh2, PostS.shift q2 e2 p⟩
            | ct σ2 h2 =>
              rw [e2] at p
              exact fun ρ2 H2 σ' q2 e2 rh2 rl2 => ⟨ρ2, σ2, h2, rl2, rh2, PostS.shift q2 e2 p⟩
            | bk σ2 h2 => rw [e2] at p; exact p
            | rt d h2 => rw [e2] at p; exact p
            | exc => rw [e2] at p; exact p
            | bad => rw [e2] at p; exact p.elim
        | _ => exact p.elim
def plainIter : Expr → Bool
  | .Set _ _ _ => false
  | _ => true
theorem folded_no {e : Expr} (h : plainIter e = true) (env : Env) (x : Value) : foldedSetIterable e env x = pure x := by
  cases e <;> first | rfl | cases h
theorem s_for {tg it : Expr} {sa : List Stmt} {pt : Pat} {ia : CS} (hp : PassesOwn (model X.prog X.w) X.A X.env X.xe) (hc : X.calm = true) (hi : I1 X xa W tg it (ev g cc)) (hg : G1 X xa tg pt) (ha : Ss1 X xa W sa (exec g ia)) (hs : plainIter it = true) : S1 X xa W (.For tg it sa [] pos) (exec g (.for_ pt cc ia)) :=
  ps_w (ps_for hp hc hi hg ha (folded_no hs _)) fun D' σ H ⟨ρ, σd, h, rl, rh, p⟩ => by
    refine ⟨ρ, σd, h, rl, rh, ?_⟩
    have p : PostS X.K xa W D' ρ H (evS (ev g cc σd h) σd fun src h1 => forLoop pt (exec g ia) src wf 0 σd h1) := p
    cases e : ev g cc σd h with
    | bad => rw [e] at p; exact p.elim
    | exc c fs vs h' =>
      rw [e] at p
      exact fun ρ1 H1 dd xs q1 e1 rh1 => p ρ1 H1 σ dd xs q1 e1 rh1 (rl.ext q1 e1)
    | ok src h' =>
      rw [e] at p
      intro ρ1 H1 J q1 e1 rh1 ok
      have p : PostS X.K xa W D' ρ1 H1 (forLoop pt (exec g ia) src wf 0 σd h') := PostS.shift q1 e1 p
      refine ⟨fun i m σ H => ∃ (ρ : List Addr) (σd : Sg) (h : AH), Rel X.K xa ρ H σd σ ∧ RepH X.K xa ρ H h ∧ ItOk X.K xa src J ρ H ∧ PostS X.K xa W D' ρ H (forLoop pt (exec g ia) src m i σd h), ⟨wf, ρ1, σd, h', rl.ext q1 e1, rh1, ok, p⟩, ?_⟩
      rintro i m σ H ⟨ρ, σd, h, rl, rh, ok, p⟩
      cases m with
      | zero => exact p.elim
      | succ f =>
        unfold forLoop at p
        have ok1 := ok ρ H h (List.prefix_refl _) (Ext.refl _) rh i
        cases e : draw h src i with
        | none => rw [e] at p; exact p.elim
        | some o =>
          rw [e] at p ok1
          cases o with
          | none => exact .inl ⟨ok1, p ρ H σ (List.prefix_refl _) (Ext.refl _) rh rl⟩
          | some d =>
            obtain ⟨go, yld⟩ := ok1
            refine .inr ⟨go, fun σ' H' => ∃ (ρ : List Addr) (σd : Sg) (h : AH), Rel X.K xa ρ H' σd σ' ∧ RepH X.K xa ρ H' h ∧ ItOk X.K xa src J ρ H' ∧ PostS X.K xa W D' ρ H' (forLoop pt (exec g ia) src f (i + 1) σd h), fun σ' H' z => ⟨f, Nat.lt_succ_self f, z⟩, fun x H2 hy => ?_⟩
            obtain ⟨e2, rh2, rv⟩ := yld x H2 hy
            have p := PostS.shift (List.prefix_refl _) e2 p
            dsimp only at p
            cases eb : bindP pt d σd with
            | none => rw [eb] at p; exact p.elim
            | some σ1 =>
              rw [eb] at p
              dsimp only at p
              refine ⟨ρ, σd, h, d, rl.ext (List.prefix_refl _) e2, rh2, rv, σ1, eb, fun σ' rl1 _ => ⟨ρ, σ1, h, rl1, rh2, ?_⟩⟩
              have okk := ok.ext (List.prefix_refl _) e2
              cases ee : exec g ia σ1 h with
              | nx σ2 h2 =>
                rw [ee] at p
                exact fun ρ2 H3 σ' q3 e3 rh3 rl3 => ⟨ρ2, σ2, h2, rl3, rh3, okk.ext q3 e3, PostS.shift q3 e3 p⟩
              | ct σ2 h2 =>
                rw [ee] at p
                exact fun ρ2 H3 σ' q3 e3 rh3 rl3 => ⟨ρ2, σ2, h2, rl3, rh3, okk.ext q3 e3, PostS.shift q3 e3 p⟩
              | bk σ2 h2 => rw [ee] at p; exact p
              | rt d h2 => rw [ee] at p; exact p
              | exc => rw [ee] at p; exact p
              | bad => rw [ee] at p; exact p.elim
/-! ### stores to places -/
theorem set_ok : PSet X (fun o i v H Q => ∃ (ρ : List Addr) (h : AH) (x y z : D), RepH X.K xa ρ H h ∧ RepV X.K xa ρ H x o ∧ RepV X.K xa ρ H y i ∧ RepV X.K xa ρ H z v ∧ ∃ h', setS x y z h = some h' ∧ ∀ H', Ext H H' → RepH X.K xa ρ H' h' → Q H') := by
  intro pins s σ H o i v ov iv u Q I ro ri rv ⟨ρ, h, x, y, z, rh, rx, ry, rz, h', e, q⟩
  cases rx with
  | @ref n a ha =>
    cases ry with
    | int k =>
      have e' : (match h[n]? with
        | some (.lst xs) => (match ixOf xs.length k with
          | some j => some (h.set n (.lst (xs.set j z)))
          | none => none)
        | _ => none) = some h' := e
      cases q1 : h[n]? with
      | none => rw [q1] at e'; cases e'
      | some ao =>
        cases ao with
        | dct => rw [q1] at e'; cases e'
        | lst xs =>
          rw [q1] at e'
          dsimp only at e'
          cases q2 : ixOf xs.length k with
          | none => rw [q2] at e'; cases e'
          | some j =>
            rw [q2] at e'
            cases e'
            obtain ⟨ys, h1, r⟩ := rh.lst ha q1
            have q2' : ixN xs.length k = some j := q2
            obtain ⟨w1, w2⟩ := rh.write (ao := .lst (xs.set j z)) (o := .lst (ys.set j v)) ha ⟨_, rfl, r.set rz j⟩
            exact set_list pins s σ H _ _ _ ov iv u Q I ro ri rv ⟨a, ys, k, j, rfl, rfl, h1, by rw [← r.length]; exact q2', q _ w2 w1⟩
    | _ => cases e
  | _ => cases e
theorem sub_asg {o i : Expr} (hs : notSlice i = true) (env : Env) (v : Value) : assign (.Subscript o i pos) env v = (do
      let ov ← holding [v] (eval o env)
      let iv ← holding [v, ov] (eval i env)
      standAt pos
      holding [v, ov, iv] (setItem ov iv v)
      release [v, ov, iv] []) := by
  cases i <;> first | rfl | cases hs
theorem s_setI {o i : Expr} {spos : Pos} (hv : E1 X xa W e (ev g ca)) (ho : E1 X xa W o (ev g cb)) (hi : E1 X xa W i (ev g cc)) (hs : notSlice i = true) (hc : notComp e = true) (ht : notTup e = true) : S1 X xa W (.Assign [.Subscript o i pos] e spos) (exec g (.setI cb cc ca)) :=
  ps_w (ps_asg hv (pg_sub ho hi (set_ok (xa := xa)) (sub_asg hs _)) (by unfold swapsWithSole; exact swaps_no hc _ _ _) (swapped_no ht _) (by rfl)) fun D' σ H ⟨ρ, σd, h, rl, rh, p⟩ => by
    refine evS_then rl rh p fun d h1 ρ1 H1 v q1 e1 rl1 rh1 rv p1 => ?_
    refine evS_then (f := ev g cb) rl1 rh1 p1 fun x h2 ρ2 H2 v2 q2 e2 rl2 rh2 rx p2 => ?_
    refine evS_then (f := ev g cc) rl2 rh2 p2 fun y h3 ρ3 H3 v3 q3 e3 rl3 rh3 ry p3 => ?_
    cases ee : setS x y d h3 with
    | none => rw [ee] at p3; exact p3.elim
    | some h4 =>
      rw [ee] at p3
      exact ⟨ρ3, h3, x, y, d, rh3, rx.ext q3 e3, ry, (rv.ext q2 e2).ext q3 e3, h4, ee, fun H' e4 rh4 => p3 ρ3 H' σ (List.prefix_refl _) e4 rh4 (rl3.ext (List.prefix_refl _) e4)⟩
/-! ### comprehensions -/
theorem e_lc {tg it elt : Expr} {ifs : List Expr} {scope : Scope} {own : List (Str × Nat)} {pt : Pat} {W0 : WX} (hc : X.calm = true) (hN : X.N.Nodup) (hi : I1 X xa W tg it (ev g ca)) (ok : BlkOk X.N X.env.scope scope own)
    (hg : ∀ (s : Shared) (H : Hp) (C : Addr) (cl : List (Str × Addr)) (fp : List Addr), G1 (X.blk s H scope (compEnvC scope cl C X.env) fp) xa tg pt)
    (ht : ∀ (s : Shared) (H : Hp) (C : Addr) (cl : List (Str × Addr)) (fp : List Addr), PTs (X.blk s H scope (compEnvC scope cl C X.env) fp) ifs (semT X.K xa (fun _ _ _ _ => False) (ev g cb)))
    (he : ∀ (s : Shared) (H : Hp) (C : Addr) (cl : List (Str × Addr)) (fp : List Addr), E1 (X.blk s H scope (compEnvC scope cl C X.env) fp) xa (fun _ _ _ _ => False) elt (ev g cc))
    (hs : plainIter it = true) (hsl : own.map (·.2) = slots pt) (hxs : ∀ v ∈ slots pt, XaIx xa v) : ∀ {σ : St} {H : Hp} {Q : VK}, semF X.K xa W (ev g (.lc pt ca cb cc)) σ H Q → tLc (semI X.K xa W (ev g ca)) (semG X.K xa pt) (semT X.K xa (fun _ _ _ _ => False) (ev g cb)) (semF X.K xa (fun _ _ _ _ => False) (ev g cc)) (own.map (·.2)) σ H Q := by
  intro σ H Q ⟨ρ, σd, h, rl, rh, p⟩
  refine ⟨ρ, σd, h, rl, rh, ?_⟩
  have p : Post X.K xa (fun c d H' => W c d σ H') ρ H ((ev g ca σd h).bind fun src h1 => (match lcLoop (lcBody pt (ev g cb) (ev g cc) σd) src h1.length wf 0 (h1 ++ [.lst []]) with
    | .ok _ h2 => .ok (.ref h1.length) h2
    | _ => .bad)) Q := p
  cases e : ev g ca σd h with
  | bad => rw [e] at p; exact p.elim
  | exc c fs vs h' => rw [e] at p; exact p
  | ok src h' =>
    rw [e] at p
    intro ρ1 H1 J q1 e1 rh1 okJ D0 hD
    have p := Post.shift q1 e1 p
    have p : Post X.K xa (fun c d H' => W c d σ H') ρ1 H1 (match lcLoop (lcBody pt (ev g cb) (ev g cc) σd) src h'.length wf 0 (h' ++ [.lst []]) with
      | .ok _ h2 => .ok (.ref h'.length) h2
      | _ => .bad) Q := p
    obtain ⟨rh2, e2, q2⟩ := rh1.alloc (ao := .lst []) (o := .lst []) hD ⟨[], rfl, .nil⟩
    have hDn : (ρ1 ++ [D0])[h'.length]? = some D0 := by rw [← rh1.len]; simp
    have p := Post.shift q2 e2 p
    generalize hn : h'.length = n at p hDn
    refine ⟨fun i m H => ∃ (ρ : List Addr) (h : AH), Rel X.K xa ρ H σd σ ∧ RepH X.K xa ρ H h ∧ ItOk X.K xa src J ρ H ∧ ρ[n]? = some D0 ∧ Post X.K xa (fun c d H' => W c d σ H') ρ H (match lcLoop (lcBody pt (ev g cb) (ev g cc) σd) src n m i h with
      | .ok _ h2 => .ok (.ref n) h2
      | _ => .bad) Q, ⟨wf, ρ1 ++ [D0], h' ++ [.lst []], (rl.ext q1 e1).ext q2 e2, rh2, okJ.ext q2 e2, hDn, p⟩, ?_⟩
    rintro i m H2 ⟨ρ, h, rl, rh, okJ, hDn, p⟩
    cases m with
    | zero => exact p.elim
    | succ f =>
      have ok1 := okJ ρ H2 h (List.prefix_refl _) (Ext.refl _) rh i
      unfold lcLoop at p
      cases e : draw h src i with
      | none => rw [e] at p; exact p.elim
      | some o =>
        rw [e] at p ok1
        cases o with
        | none => exact .inl ⟨ok1, Post.okv p rh (.ref hDn)⟩
        | some d =>
          obtain ⟨go, yld⟩ := ok1
          refine .inr ⟨go, fun H => ∃ (ρ : List Addr) (h : AH), Rel X.K xa ρ H σd σ ∧ RepH X.K xa ρ H h ∧ ItOk X.K xa src J ρ H ∧ ρ[n]? = some D0 ∧ Post X.K xa (fun c d H' => W c d σ H') ρ H (match lcLoop (lcBody pt (ev g cb) (ev g cc) σd) src n f (i + 1) h with
            | .ok _ h2 => .ok (.ref n) h2
            | _ => .bad) Q, fun H' z => ⟨f, Nat.lt_succ_self f, z⟩, fun x H3 hy => ?_⟩
          obtain ⟨e3, rh3, rv⟩ := yld x H3 hy
          have p := Post.shift (List.prefix_refl _) e3 p
          have rl3 := rl.ext (List.prefix_refl _) e3
          have ok3 := okJ.ext (List.prefix_refl _) e3
          dsimp only at p
          unfold lcBody at p
          rw [hsl]
          cases eb : bindP pt d (wipeD σd (slots pt)) with
          | none => rw [eb] at p; exact p.elim
          | some σ1 =>
            rw [eb] at p
            dsimp only at p
            refine ⟨ρ, wipeD σd (slots pt), h, d, rl3.wipe _ hxs, rh3, rv, σ1, eb, fun σ' rl4 w4 => ⟨(w4 _ fun _ z => z).trans (wipe_idem _ _), ρ, σ1, h, rl4, rh3, ?_⟩⟩
            cases ec : ev g cb σ1 h with
            | bad => rw [ec] at p; exact p.elim
            | exc => rw [ec] at p; exact p.elim
            | ok b h1 =>
              rw [ec] at p
              try dsimp only at p
              intro ρ5 H5 v5 q5 e5 rh5 rv5
              have p := Post.shift q5 e5 p
              cases rv5 with
              | bl b =>
                refine ⟨b, rfl, ?_⟩
                cases b with
                | false =>
                  rw [if_neg Bool.false_ne_true]
                  exact ⟨ρ5, h1, rl3.ext q5 e5, rh5, ok3.ext q5 e5, get_pre q5 hDn, p⟩
                | true =>
                  rw [if_pos rfl]
                  refine ⟨ρ5, σ1, h1, rl4.ext q5 e5, rh5, ?_⟩
                  dsimp only at p
                  cases ee : ev g cc σ1 h1 with
                  | bad => rw [ee] at p; exact p.elim
                  | exc => rw [ee] at p; exact p.elim
                  | ok y h2 =>
                    rw [ee] at p
                    dsimp only at p
                    intro ρ6 H6 v6 q6 e6 rh6 rv6
                    have p := Post.shift q6 e6 p
                    have hD6 := get_pre q6 (get_pre q5 hDn)
                    cases ea : h2[n]? with
                    | none => rw [ea] at p; exact p.elim
                    | some ao =>
                      cases ao with
                      | dct => rw [ea] at p; exact p.elim
                      | lst ys =>
                        rw [ea] at p
                        dsimp only at p
                        by_cases c : ys.length < 16777216
                        · rw [if_pos c] at p
                          obtain ⟨zs, h7, r7⟩ := rh6.lst hD6 ea
                          obtain ⟨w1, w2⟩ := rh6.write (ao := .lst (ys ++ [y])) (o := .lst (zs ++ [v6])) hD6 ⟨_, rfl, r7.append (.one rv6)⟩
                          refine ⟨zs, h7, by rw [sizeLine_eq, ← r7.length]; exact c, ρ6, h2.set n (.lst (ys ++ [y])), ?_, w1, ?_, hD6, Post.shift (List.prefix_refl _) w2 p⟩
                          · exact (((rl3.ext q5 e5).ext q6 e6).ext (List.prefix_refl _) w2)
                          · exact (((ok3.ext q5 e5).ext q6 e6).ext (List.prefix_refl _) w2)
                        · rw [if_neg c] at p; exact p.elim
              | _ => exact p.elim
theorem e_lcE {tg it elt : Expr} {ifs : List Expr} {scope : Scope} {own : List (Str × Nat)} {pt : Pat} (hc : X.calm = true) (hN : X.N.Nodup) (hi : I1 X xa W tg it (ev g ca)) (ok : BlkOk X.N X.env.scope scope own)
    (hg : ∀ (s : Shared) (H : Hp) (C : Addr) (cl : List (Str × Addr)) (fp : List Addr), G1 (X.blk s H scope (compEnvC scope cl C X.env) fp) xa tg pt)
    (ht : ∀ (s : Shared) (H : Hp) (C : Addr) (cl : List (Str × Addr)) (fp : List Addr), PTs (X.blk s H scope (compEnvC scope cl C X.env) fp) ifs (semT X.K xa (fun _ _ _ _ => False) (ev g cb)))
    (he : ∀ (s : Shared) (H : Hp) (C : Addr) (cl : List (Str × Addr)) (fp : List Addr), E1 (X.blk s H scope (compEnvC scope cl C X.env) fp) xa (fun _ _ _ _ => False) elt (ev g cc))
    (hs : plainIter it = true) (hsl : own.map (·.2) = slots pt) (hxs : ∀ v ∈ slots pt, XaIx xa v) : E1 X xa W (.ListComp elt [⟨tg, it, ifs, 0⟩] scope pos) (ev g (.lc pt ca cb cc)) :=
  pe_w (pe_lc hc hN hi ok hg ht he (folded_no hs _)) fun σ H Q h => e_lc (W0 := W) hc hN hi ok hg ht he hs hsl hxs h
theorem s_setLc {i : Nat} {y : Str} (hxi : XaIx xa i) {py spos : Pos} {tg it elt : Expr} {ifs : List Expr} {scope : Scope} {own : List (Str × Nat)} {pt : Pat} (hc : X.calm = true) (hN : X.N.Nodup) (hy : X.N[i]? = some y) (hyl : X.env.scope.names.lookup y = some .local)
    (hsw : swapsWith (.ListComp elt [⟨tg, it, ifs, 0⟩] scope pos) (some (.Name y py)) spos.line X.env = pure true) (hi : I1 X xa W tg it (ev g ca)) (ok : BlkOk X.N X.env.scope scope own)
    (hg : ∀ (s : Shared) (H : Hp) (C : Addr) (cl : List (Str × Addr)) (fp : List Addr), G1 (X.blk s H scope (compEnvC scope cl C X.env) fp) xa tg pt)
    (ht : ∀ (s : Shared) (H : Hp) (C : Addr) (cl : List (Str × Addr)) (fp : List Addr), PTs (X.blk s H scope (compEnvC scope cl C X.env) fp) ifs (semT X.K xa (fun _ _ _ _ => False) (ev g cb)))
    (he : ∀ (s : Shared) (H : Hp) (C : Addr) (cl : List (Str × Addr)) (fp : List Addr), E1 (X.blk s H scope (compEnvC scope cl C X.env) fp) xa (fun _ _ _ _ => False) elt (ev g cc))
    (hs : plainIter it = true) (hsl : own.map (·.2) = slots pt) (hxs : ∀ v ∈ slots pt, XaIx xa v) : S1 X xa W (.Assign [.Name y py] (.ListComp elt [⟨tg, it, ifs, 0⟩] scope pos) spos) (exec g (.asg (.v i) (.lc pt ca cb cc))) :=
  ps_w (ps_setLc hc hN hy hyl hsw hi ok hg ht he (folded_no hs _)) fun D' σ H h => by
    obtain ⟨ρ, σd, h, rl, rh, p⟩ := asg_of h
    refine e_lc (W0 := W) hc hN hi ok hg ht he hs hsl hxs ⟨ρ, σd, h, rl, rh, p.imp fun v H1 q => pg_name' (x := y) hxi v σ H1 _ q⟩
end
end Ly
end
section
set_option Elab.async false
set_option linter.all false
set_option maxRecDepth 100000
set_option maxHeartbeats 1000000
/-! Ly10: own exceptions under ValueError whose __init__ says super().__init__(its args) and keeps each arg in a field of the same name. -/
namespace LyE
open PySem PySem.W PySem.Calls PyProof.Rows PySem.HandSPX
/-- the args as names -/
inductive NArgs : List Expr → List Str → Prop
  | nil : NArgs [] []
  | cons {f : Str} {p : Pos} {es : List Expr} {fs : List Str} : NArgs es fs → NArgs (.Name f p :: es) (f :: fs)
/-- self.f = f, for each -/
inductive NStores : List Stmt → List Str → Prop
  | nil : NStores [] []
  | cons {f : Str} {p1 p2 p3 p4 : Pos} {ss : List Stmt} {fs : List Str} : NStores ss fs → NStores (.Assign [.Attribute (.Name "self" p1) f p2] (.Name f p3) p4 :: ss) (f :: fs)
def put {α : Type} : List Str → List α → List (Str × α) → List (Str × α)
  | f :: fs, v :: vs, ws => put fs vs ((f, v) :: ws)
  | _, _, ws => ws
/-- the locals hold the args -/
def Holds (m : Str → Option Value) : List Str → List Value → Prop
  | [], [] => True
  | f :: fs, v :: vs => m f = some v ∧ f ≠ "__debug__" ∧ Holds m fs vs
  | _, _ => False
def within_l (ws : List (Str × Value)) : Within (fun y => ws.lookup y) (ws.map (·.1)) := fun y hy => by
  induction ws with
  | nil => exact absurd rfl hy
  | cons p r ih =>
    obtain ⟨f, v⟩ := p
    by_cases h : y = f
    · subst h; exact List.mem_cons_self ..
    · have e : (y == f) = false := by simpa using h
      refine List.mem_cons_of_mem _ (ih ?_)
      intro z
      exact hy (by show List.lookup y ((f, v) :: r) = none; simp only [List.lookup, e]; exact z)
theorem lookup_ite (f : Str) (v : Value) (ws : List (Str × Value)) : (fun y => if y = f then some v else ws.lookup y) = fun y => ((f, v) :: ws).lookup y := by
  funext y
  by_cases h : y = f
  · subst h; rw [if_pos rfl]; simp [List.lookup]
  · have e : (y == f) = false := by simpa using h
    rw [if_neg h]; simp [List.lookup, e]
section
variable {prog : Program} {w : World} {A : Around} {E : Value → Shared → Prop} {s : Shared} {env : Env} {m : Str → Option Value}
theorem nm_free {f : Str} (h : f ≠ "__debug__") : (f == ("__debug__" : Str)) = false := by simpa using h
theorem spliced_args (hk : env.scope.kind = .function) (pos : Pos) : ∀ {es : List Expr} {fs : List Str} {vs : List Value}, NArgs es fs → Holds m fs vs → (∀ f ∈ fs, env.kindOf f = some .local) → ∀ {s : Shared} {Q : List Value → Shared → Prop}, s.heap.Ns env.locals m → Q vs s → wpAny (model prog w) A (spliced (backTo pos (starEach es env))) Q E s := by
  intro es fs vs na
  induction na generalizing vs with
  | nil =>
    intro hh _ s Q hn q
    cases vs with
    | nil => exact spliced_nil q
    | cons => exact hh.elim
  | @cons f p es fs na ih =>
    intro hh hl s Q hn q
    cases vs with
    | nil => exact hh.elim
    | cons v vs =>
      obtain ⟨h1, h2, h3⟩ := hh
      show wpAny _ _ (spliced ((false, eval (.Name f p) env) :: backTo pos (starEach es env))) _ _ s
      refine spliced_cons (ESX.ldL hn h1 ?_ hk (hl f (List.mem_cons_self ..)) (nm_free h2))
      exact ih h3 (fun g hg => hl g (List.mem_cons_of_mem _ hg)) (Q := fun us s2 => Q (v :: us) s2) hn q
/-- the stores behind the first -/
theorem stores_old {K : Frag} {x C dx : Addr} {fv : Array Value} {cd : ClassData} (hk : env.scope.kind = .function) (hcd : clsIn K C = some cd) (hm : refsVE cd.mro = true) (hh : cd.hasDict = true)
    (sa : findIn K (.ref C) "__setattr__" = some (some (.builtin "object.__setattr__"))) (hs : m "self" = some (.ref x)) (hsl : env.kindOf "self" = some .local) (hxd : x ≠ dx) (hLd : env.locals ≠ dx) (hKd : K.lookup dx = none) :
    ∀ {ss : List Stmt} {fs : List Str} {vs : List Value}, NStores ss fs → Holds m fs vs → (∀ f ∈ fs, env.kindOf f = some .local ∧ findIn K (.ref C) f = some none) → ∀ {ws : List (Str × Value)}, ws.length + fs.length ≤ 900 →
      ∀ {s : Shared} {Q : Flow → Shared → Prop}, K.In s.heap → s.heap.Ns env.locals m → s.heap.get? x = some { cls := .ref C, dict := some dx, data := .fields fv } → s.heap.Ns1 dx (fun y => ws.lookup y) →
        (∀ h' tk', (∀ b o, b ≠ dx → s.heap.get? b = some o → h'.get? b = some o) → h'.Ns1 dx (fun y => (put fs vs ws).lookup y) → Q .next { s with heap := h', toks := tk' }) → wpAny (model prog w) A (execs ss env) Q E s := by
  intro ss fs vs na
  induction na generalizing vs with
  | nil =>
    intro hh' _ ws _ s Q X hn hx hns q
    cases vs with
    | nil => exact wpAny_execs_nil (q s.heap s.toks (fun _ _ _ e => e) hns)
    | cons => exact hh'.elim
  | @cons f p1 p2 p3 p4 ss fs na ih =>
    intro hh' hl ws hz s Q X hn hx hns q
    cases vs with
    | nil => exact hh'.elim
    | cons v vs =>
      obtain ⟨h1, h2, h3⟩ := hh'
      obtain ⟨l1, l2⟩ := hl f (List.mem_cons_self ..)
      refine wpAny_execs_cons (plainObj_wpAny_Assign_Attribute ?_)
      refine ESX.ldL hn h1 (ESX.ldL hn hs ?_ hk hsl (by decide)) hk l1 (nm_free h2)
      have hw := within_l ws
      obtain ⟨oD, _, _, hoD, _, _⟩ := hns.count hw
      obtain ⟨hp, g, d, t, os⟩ := s
      refine set_plain X (ox := { cls := .ref C, dict := some dx, data := .fields fv }) (od := some oD) ⟨hx, rfl, rfl, hoD⟩ sa ?_
      refine OEX.osa_old X hx hns hw (by rw [List.length_map]; simp at hz; omega) hcd hm hh l2 fun h' tk' k hn' => ?_
      rw [lookup_ite] at hn'
      obtain ⟨oL, es, ep, hL, r⟩ := hn
      refine ih h3 (fun g hg => hl g (List.mem_cons_of_mem _ hg)) (ws := (f, v) :: ws) (by simp at hz ⊢; omega) (s := ⟨h', g, d, tk', os⟩) (fun b o e => k b o (fun z => by rw [z, hKd] at e; cases e) (X b o e)) ⟨oL, es, ep, k _ _ hLd hL, r⟩ (k _ _ hxd hx) hn' fun h2 tk2 k2 n2 => ?_
      exact q h2 tk2 (fun b o hb e => k2 b o hb (k b o hb e)) n2
/-- ValueError.__init__ bound to an instance, called -/
theorem call_ve {h : Heap} {g : Array GenState} {d : Drawn} {t : Nat} {os : OsState} {u e t0 C N : Addr} {nm q : Str} {bs bm sub : List Value} {hdct : Bool} {sn : List Str} {ab : Bool} {col : Option Bool} {dd : Option Addr} {k0 k1 k2 k3 k5 : Option Value} {rest : List Value} {Q : Value → Shared → Prop}
    (hC : h.get? C = some (excClassObj nm q C N bs bm hdct sn sub ab col dd k0 k1 k2 k3 k5 "ValueError.__new__")) (he : h.get? e = some (excO C t0)) (hu : h.get? u = some (kxs_mw "ValueError.__init__" e)) (hrest : rest.length ≤ sizeLine)
    (hq : ∀ h' t1, (∀ b o, b ≠ e → h.get? b = some o → h'.get? b = some o) → h'.get? e = some (excO C t1) → Q .none ⟨h', g, d, t, os⟩) :
    wpAny (model prog w) A (call (.ref u) rest) Q E ⟨h, g, d, t, os⟩ := by
  refine wpAny_call (codeAny_of_tree ?_)
  show wpAny _ A.in1 (callAny (.ref u) ⟨rest, []⟩) _ _ _
  simp only [callAny]
  refine wpAny_bind (wpAny_load hu ?_)
  simp only [kxs_mw, show (Value.type "method-wrapper" == Value.type "method" || Value.type "method-wrapper" == Value.type "builtin_function_or_method" || Value.type "method-wrapper" == Value.type "method-wrapper") = true by decide, if_true]
  refine KFB.if_so (by decide) ?_
  refine wpAny_bind (check_bound_init F.excBase_ValueError.toExcCallFacts hC he rfl ?_)
  refine wpAny_bind (wpAny_pure (wpAny_pure ?_))
  refine ⟨plainId_quiet F.excBase_ValueError.init.plain _, codeAny_builtin F.excBase_ValueError.initEntry ?_⟩
  exact exc_init_tree (cls := .ref C) (t0 := t0) (dv := none) (c2 := .none) (c3 := .none) (b4 := .bool false) he hrest fun h' k hx _ => hq h' _ k hx
end
end LyE
end
section
set_option Elab.async false
set_option linter.all false
set_option maxRecDepth 100000
set_option maxHeartbeats 1000000
/-! Ly11: the __init__ of such a class, the making of an error, its rule. -/
namespace LyE
open PySem PySem.W PySem.Calls PyProof.Rows PySem.HandSPX
/-- what the written part says of the class at C, of its __init__ at fI; fs: its fields -/
structure SupT (K : Frag) (mg : Str → Option Value) (prog : Program) (C fI : Addr) (fs : List Str) : Prop where
  ox : L2.OexC K C
  no : ∀ f ∈ fs, findIn K (.ref C) f = some none
  iC : findIn K (.ref C) "__init__" = some (some (.ref fI))
  tI : typeIn K (.ref fI) = some (.type "function")
  ve : subIn K (.ref C) (.type "ValueError") = some true
  mr : mroIn K C (.ref C) = some true
  su : ks_superIn K C C "__init__" = some (some (.builtin "ValueError.__init__"))
  op : nsIn K cStatics "thirdparty.any" = some none
  sg : mg "super" = none
  top : (prog.main.scope.names.lookup ("super" : Str)).isSome = false
  sm : fs.length ≤ 2
  nz : fs ≠ []
  fn : ∃ (oc ct doc pm ccl cl : Value) (od cdd cld an : Option Addr) (osl ccs csl : Array (Option Value)) (cda cc : Addr) (q file : Str) (tf : Tok) (vs : Array Value) (pr : Arguments) (ns : List (Str × NameKind)) (mo : List (Str × Const)) (ar : Arg) (es : List Expr) (ss : List Stmt) (p0 p1 p2 p3 p4 : Pos) (dv kv : Value),
    K.lookup fI = some ⟨oc, od, .func (ksFn "__init__" q pr (.Expr (.Call (.Attribute (.Call (.Name "super" p0) [] [] p1) "__init__" p2) es [] p3) p4 :: ss) { kind := .function, names := ns, isGenerator := false, isCoroutine := false, more := mo } dv kv doc pm an (.ref cda) ct cc), osl⟩ ∧
    codeIn K (.ref cda) q = true ∧ K.lookup cda = some ⟨ccl, cdd, .fields vs, ccs⟩ ∧ vs[2]? = some (.str file tf) ∧ ((prog.main.file : Str) == file) = true ∧ K.lookup cc = some ⟨cl, cld, .cell (some (.ref C)), csl⟩ ∧
    (p2.endLine == p3.line) = true ∧ (pr.posonlyargs ++ pr.args).head? = some ar ∧ ar.arg = "self" ∧ NArgs es fs ∧ NStores ss fs ∧
    (∀ (s : Shared) (x : Value) (us : List Value), us.length = fs.length → BindsTo s (ksFn "__init__" q pr (.Expr (.Call (.Attribute (.Call (.Name "super" p0) [] [] p1) "__init__" p2) es [] p3) p4 :: ss) { kind := .function, names := ns, isGenerator := false, isCoroutine := false, more := mo } dv kv doc pm an (.ref cda) ct cc) ⟨x :: us, []⟩ ((("self" : Str), x) :: fs.zip us)) ∧
    (∀ x ∈ ns, x.2 ≠ .cell) ∧ ns.lookup ("self" : Str) = some .local ∧ (∀ f ∈ fs, ns.lookup f = some .local) ∧ ns.lookup ("super" : Str) = some .globalImplicit ∧ ns.lookup ("__class__" : Str) = some .free ∧
    (∀ (x : Value) (us : List Value), us.length = fs.length → List.lookup ("self" : Str) ((("self" : Str), x) :: fs.zip us).reverse = some x ∧ Holds (fun y => List.lookup y ((("self" : Str), x) :: fs.zip us).reverse) fs us)
/-- a made error -/
structure InitEnd (h h' : Heap) (x C dx t1 : Addr) (fs : List Str) (us : List Value) : Prop where
  keep : ∀ b o, b ≠ x → h.get? b = some o → h'.get? b = some o
  obj : h'.get? x = some { cls := .ref C, dict := some dx, data := .fields #[.ref t1, .none, .none, .none, .bool false, .none] }
  dbig : h.objs.size ≤ dx
  dne : dx ≠ x
  ns : h'.Ns1 dx (fun y => (put fs us []).lookup y)
theorem ns_but {h h' : Heap} {L x : Addr} {m : Str → Option Value} (hn : h.Ns L m) (hx : L ≠ x) (k : ∀ b o, b ≠ x → h.get? b = some o → h'.get? b = some o) : h'.Ns L m := by
  obtain ⟨oL, es, ep, hL, r⟩ := hn
  exact ⟨oL, es, ep, k _ _ hx hL, r⟩
theorem nocell {ns : List (Str × NameKind)} {y : Str} : ∀ {k : NameKind}, ns.lookup y = some k → (y, k) ∈ ns := by
  intro k h
  induction ns with
  | nil => cases h
  | cons p r ih =>
    obtain ⟨a, b⟩ := p
    by_cases e : y = a
    · subst e
      simp [List.lookup] at h
      subst h
      exact List.mem_cons_self ..
    · have e' : (y == a) = false := by simpa using e
      simp [List.lookup, e'] at h
      exact List.mem_cons_of_mem _ (ih h)
theorem call_eq {es : List Expr} {fs : List Str} (na : NArgs es fs) (hl : fs.length ≤ 2) (p0 p1 p2 p3 : Pos) (env : Env) (hpos : (p2.endLine == p3.line) = true) : ∃ pl : Sem Bool, eval (.Call (.Attribute (.Call (.Name "super" p0) [] [] p1) "__init__" p2) es [] p3) env = (do
      let ov ← attributeBase (.Call (.Name "super" p0) [] [] p1) "__init__" env (eval (.Call (.Name "super" p0) [] [] p1) env)
      standAt p2.atName
      let (f, first) ← holding [ov] (getMethod ov "__init__" pl)
      callWith p3 f first (backTo p3 (starEach es env)) []) := by
  have key : ∀ (o : Expr) (n : Nat) (args : List (Bool × Sem Value)), methodCallForm n args [] = true → ∀ ov, methodCall o "__init__" p2 p3 env ov n args [] = (do
      let (f, first) ← holding [ov] (getMethod ov "__init__" (do return (← importBound o env).getD true))
      callWith p3 f first args []) := fun o n args hf ov => by
    unfold methodCall calleeOf methodCallPos
    rw [hf]
    simp only [Bool.not_true, Bool.false_or, hpos, if_true, pure_bind]
  refine ⟨(do return (← importBound (.Call (.Name "super" p0) [] [] p1) env).getD true), ?_⟩
  show (do
    let ov ← attributeBase (.Call (.Name "super" p0) [] [] p1) "__init__" env (eval (.Call (.Name "super" p0) [] [] p1) env)
    standAt p2.atName
    methodCall (.Call (.Name "super" p0) [] [] p1) "__init__" p2 p3 env ov (es.length + 0) (backTo p3 (starEach es env)) []) = _
  have hf : methodCallForm (es.length + 0) (backTo p3 (starEach es env)) [] = true := by
    cases na with
    | nil => rfl
    | cons na =>
      cases na with
      | nil => rfl
      | cons na =>
        cases na with
        | nil => rfl
        | cons na => simp at hl
  simp only [key _ _ _ hf]
theorem plain_args {es : List Expr} {fs : List Str} (na : NArgs es fs) (pos : Pos) (env : Env) : (backTo pos (starEach es env)).any (·.1) = false := by
  induction na with
  | nil => rfl
  | cons na ih => exact ih
section
variable {prog : Program} {w : World} {A : Around} {E : Value → Shared → Prop} {R : Result → Shared → Prop} {s : Shared} {K : Frag} {mg mb : Str → Option Value} {C fI : Addr} {fs : List Str}
theorem sup_init (T : SupT K mg prog C fI fs) {x t0 : Addr} {us : List Value} (hu : us.length = fs.length) (X : K.In s.heap) (G : s.heap.Ns mainGlobals mg) (B : s.heap.Ns builtinsNs mb) (hb : mb "super" = some (.type "super")) (hlim : s.heap.NoLimit)
    (hx : s.heap.get? x = some (excO C t0)) (hnx : K.lookup x = none) (hroom : A.depth < recursionLimit)
    (hq : ∀ h' tk dx t1, InitEnd s.heap h' x C dx t1 fs us → R (.ok (.ret .none)) { s with heap := h', toks := tk }) :
    codeAny (model prog w) A (.call (.ref fI) ⟨.ref x :: us, []⟩) R s := by
  obtain ⟨oc, ct, doc, pm, ccl, cl, od, cdd, cld, an, osl, ccs, csl, cda, cc, q, file, tf, vs, pr, ns, mo, ar, es, ss, p0, p1, p2, p3, p4, dv, kv, ho, hcd, hcode, hvs, hfile, hcell, hpos, hp, har, na, nst, hbind, hnc, hsl, hfl, hsup, hcls, hlk⟩ := T.fn
  obtain ⟨nm, q', N, bs, bm, sn, sub, ab, col, dd, k0, k1, k2, k3, k5, hC, hbm⟩ := T.ox.cls
  have hcl : clsIn K C = some { name := nm, bases := bs, mro := .ref C :: bm, ns := N, qualname := q', hasDict := true, slotNames := sn, subclasses := sub, abstract := ab, collection := col, hasDel := false } := by unfold clsIn; rw [hC] <;> rfl
  obtain ⟨hself, hhold⟩ := hlk (.ref x) us hu
  have hloc : ∀ y ∈ (("self" : Str), Value.ref x) :: fs.zip us, ns.lookup y.1 = some .local := fun y hy => by
    rcases List.mem_cons.mp hy with rfl | hy
    · exact hsl
    · exact hfl _ (List.of_mem_zip hy).1
  refine ks_codeAny_call_defAt (binds := (("self" : Str), .ref x) :: fs.zip us) hroom (X _ _ ho) rfl hlim (codeRec_of X hcd) rfl (hbind _ _ _ hu) hnc hloc (fun h₁ hns hk₁ => ?_) rfl rfl rfl
  have X₁ : K.In h₁ := X.keeps hk₁
  have hx₁ := hk₁ _ _ hx
  have G₁ := G.keeps hk₁
  have B₁ := B.keeps hk₁
  have hxL : s.heap.objs.size ≠ x := Nat.ne_of_gt (Heap.lt_size hx)
  obtain ⟨hh, g, d, t, os⟩ := s
  dsimp only at hns hk₁ hxL ⊢
  -- super().__init__(..)
  show _root_.PySem.wpAt _ _ (.func _ (ksEnv q { kind := .function, names := ns, isGenerator := false, isCoroutine := false, more := mo } hh.objs.size fI (.ref cda) cc)) (execs _ (ksEnv q { kind := .function, names := ns, isGenerator := false, isCoroutine := false, more := mo } hh.objs.size fI (.ref cda) cc)) _ _ _
  obtain ⟨pl, heq⟩ := call_eq na T.sm p0 p1 p2 p3 (ksEnv q { kind := .function, names := ns, isGenerator := false, isCoroutine := false, more := mo } hh.objs.size fI (.ref cda) cc) hpos
  refine ks_wpAt_execs_cons (ks_wpAt_Expr_any (ks_wpAt_MethodCall (pl := pl) ?_ heq))
  refine ks_wpAt_super_base (env := ksEnv q _ hh.objs.size fI (.ref cda) cc) hsup hcls (by decide) rfl (X₁ _ _ ho) rfl hp rfl (X₁ _ _ hcode) rfl hvs hfile T.top ?_
  refine ks_loadName_global rfl hsup (loadGlobal_builtin (env := ksEnv q _ hh.objs.size fI (.ref cda) cc) G₁ T.sg B₁ hb ⟨rfl, ?_⟩)
  refine wpAny_loadName_free rfl hcls rfl ⟨_, X₁ _ _ hcell, rfl⟩ ?_
  rw [har]
  refine wpAny_loadName_local rfl hsl hns hself ?_
  refine ks_wpAny_isType_cls (X₁ _ _ hC) rfl ⟨rfl, ?_⟩
  refine ks_wpAny_call_super (X₁ _ _ hC) rfl hx₁ rfl (fun c e => by cases e) (looks_mroIn X₁ T.mr) (fun h₂ hso k₂ => ?_)
  have X₂ : K.In h₂ := X₁.keeps k₂
  have hx₂ := k₂ _ _ hx₁
  have xC : x ≠ C := fun z => by rw [z, hC] at hnx; cases hnx
  have su := T.su
  unfold ks_superIn at su
  rw [hcl] at su
  refine kxs_getMethod kxs_ValueError hso (looks_opaque X₂ T.op) (l₀ := .ref C :: bm) (fun A Q E s k q => wpAny_bind ((looks_clsIn X₂ hcl) A _ E s k (wpAny_pure q))) rfl X₂ su
    ((show Looks _ h₂ (typeOf (.ref x)) (.ref C) from fun A Q E s k q => wpAny_typeOf_ref (k _ _ hx₂) q).andThen (looks_subIn X₂ T.ve)) xC (by decide) ?_
  have hmw : (h₂.push (kxs_mw "ValueError.__init__" x)).get? h₂.objs.size = some (kxs_mw "ValueError.__init__" x) := Heap.get?_push_at rfl rfl
  have k₃ : ∀ b o, h₂.get? b = some o → (h₂.push (kxs_mw "ValueError.__init__" x)).get? b = some o := fun b o e => Heap.get?_push_of_some _ e
  have X₃ := X₂.keeps k₃
  have hn₃ := (hns.keeps k₂).keeps k₃
  cases na with
  | nil => exact absurd rfl T.nz
  | @cons f0 fp es' fs' na' =>
  refine kxs_callWith1 (i := "ValueError.__init__") (x := x) (h₀ := h₂) (L := hh.objs.size) (news := [(h₂.objs.size, kxs_mw "ValueError.__init__" x)]) (fun p hp => ?_) (List.mem_singleton.mpr rfl) ?_ rfl (plain_args na' _ _)
  · rw [List.mem_singleton.mp hp]
    refine ⟨hmw, fun z => ?_, ?_⟩
    · obtain ⟨oL, es, ep, hL, r⟩ := hns.keeps k₂
      exact absurd (Heap.lt_size hL) (by rw [← z]; exact Nat.lt_irrefl _)
    · cases z : h₂.get? h₂.objs.size with
      | none => rfl
      | some o => exact absurd (Heap.lt_size z) (Nat.lt_irrefl _)
  refine spliced_args (env := ksEnv q { kind := .function, names := ns, isGenerator := false, isCoroutine := false, more := mo } hh.objs.size fI (.ref cda) cc) (m := fun y => List.lookup y ((("self" : Str), Value.ref x) :: List.zip (f0 :: fs') us).reverse) rfl p3 (.cons na') hhold (fun f hf => hfl f hf) hn₃ ⟨hmw, ?_⟩
  have hus : us.length ≤ sizeLine := by rw [hu, sizeLine_eq]; have := T.sm; omega
  refine call_ve (X₃ _ _ hC) (k₃ _ _ hx₂) hmw hus fun h₄ t1 k₄ hx₄ => ?_
  have K4 : ∀ b o, b ≠ x → hh.get? b = some o → h₄.get? b = some o := fun b o hb e => k₄ b o hb (k₃ _ _ (k₂ _ _ (hk₁ _ _ e)))
  have X₄ : K.In h₄ := fun b o e => k₄ b o (fun z => by rw [z, hnx] at e; cases e) (X₃ b o e)
  have hn₄ := ns_but hn₃ hxL k₄
  have hsz : hh.objs.size < h₄.objs.size := by
    obtain ⟨oL, es, ep, hL, r⟩ := hn₄
    exact Heap.lt_size hL
  -- the first store
  refine wpAt_of_wpAny ?_
  cases us with
  | nil => cases hu
  | cons v vs' =>
  cases nst with
  | @cons _ a1 a2 a3 a4 ss' _ nst' =>
  obtain ⟨h1, h2, h3⟩ := hhold
  have l1 := hfl f0 (List.mem_cons_self ..)
  refine wpAny_execs_cons (plainObj_wpAny_Assign_Attribute ?_)
  refine ESX.ldL hn₄ h1 (ESX.ldL hn₄ hself ?_ rfl hsl (by decide)) rfl l1 (nm_free h2)
  refine set_plain X₄ (ox := excO C t1) (od := none) ⟨hx₄, rfl, rfl, trivial⟩ T.ox.sa ?_
  refine exc_osa X₄ hx₄ hcl (show refsVE (.ref C :: bm) = true from hbm) rfl (T.no f0 (List.mem_cons_self ..)) (fun h₅ tk₅ dx k₅ dn dne hx₅ hn₅ => ?_)
  have hKd : K.lookup dx = none := by
    cases z : K.lookup dx with
    | none => rfl
    | some o => exact absurd (Heap.lt_size (X₄ _ _ z)) (Nat.not_lt.mpr dn)
  have X₅ : K.In h₅ := fun b o e => k₅ b o (fun z => by rw [z, hnx] at e; cases e) (X₄ b o e)
  have hn₅' := ns_but hn₄ hxL k₅
  have hn₅1 : h₅.Ns1 dx (fun y => ([(f0, v)] : List (Str × Value)).lookup y) := by
    have e : (fun y => if y = f0 then some v else none) = fun y => ([(f0, v)] : List (Str × Value)).lookup y := (lookup_ite f0 v []).symm ▸ rfl
    rw [← e]; exact hn₅
  have hLd : hh.objs.size ≠ dx := Nat.ne_of_lt (Nat.lt_of_lt_of_le hsz dn)
  refine stores_old (env := ksEnv q { kind := .function, names := ns, isGenerator := false, isCoroutine := false, more := mo } hh.objs.size fI (.ref cda) cc) rfl hcl (show refsVE (.ref C :: bm) = true from hbm) rfl T.ox.sa hself hsl (Ne.symm dne) hLd hKd nst' h3 (fun f hf => ⟨hfl f (List.mem_cons_of_mem _ hf), T.no f (List.mem_cons_of_mem _ hf)⟩) (ws := [(f0, v)]) (by have := T.sm; simp at this ⊢; omega)
    (s := ⟨h₅, g, d, tk₅, os⟩) X₅ hn₅' hx₅ hn₅1 fun h₆ tk₆ k₆ n₆ => ?_
  refine hq h₆ tk₆ dx t1 ⟨fun b o hb e => k₆ b o ?_ (k₅ b o hb (K4 b o hb e)), k₆ _ _ (Ne.symm dne) hx₅, Nat.le_trans (Nat.le_of_lt hsz) dn, dne, n₆⟩
  exact Nat.ne_of_lt (Nat.lt_of_lt_of_le (Nat.lt_trans (Heap.lt_size e) hsz) dn)
end
end LyE
namespace Ly
open PySem PySem.Spec PyProof.Rows L2
theorem relO_put' {fs : List Str} : ∀ {vs : List V} {us : List Value} {ws : List (Str × V)} {zs : List (Str × Value)}, Vals vs us → (∀ f, RelO (ws.lookup f) (zs.lookup f)) → ∀ f, RelO ((LyE.put fs vs ws).lookup f) ((LyE.put fs us zs).lookup f) := by
  induction fs with
  | nil => intro vs us ws zs r h f; exact h f
  | cons g fs ih =>
    intro vs us ws zs r h f
    cases r with
    | nil => exact h f
    | @cons v u vs us rv r =>
      refine ih r (fun f => ?_) f
      have e : RelO (((g, v) :: ws).lookup f) (if f = g then some u else zs.lookup f) := relO_put (f := g) (mA := fun y => zs.lookup y) rv h f
      have q : (if f = g then some u else zs.lookup f) = ((g, u) :: zs).lookup f := congrFun (LyE.lookup_ite g u zs) f
      rw [q] at e
      exact e
/-- C(e, ..): its fields -/
def tMkS (C : Addr) (fs : List Str) (ta : TA) : St → Hp → XK → Prop := fun σ H Q => ta σ H fun vs H1 => vs.length = fs.length ∧ ∀ d, H1 d = none → Q (.ref C) (some d) (upd H1 d (.xd (LyE.put fs vs [])))
theorem pmk_sup {X : Cx} {C fI : Addr} {fs : List Str} {x : Str} {e : Expr} {es : List Expr} {ta : TA} {p pos : Pos} {k : Nat} (T : LyE.SupT X.K X.mg X.prog C fI fs) (hr : Room k X.A) (ha : PA X (e :: es) ta) (hg : Gl X x) (hm : X.mg x = some (.ref C)) (hdb : (x == ("__debug__" : Str)) = false)
    (he : starEach (e :: es) X.env = (false, eval e X.env) :: starEach es X.env) (hpl : (backTo pos (starEach es X.env)).any (·.1) = false) :
    PMk X (.Call (.Name x p) (e :: es) [] pos) (tMkS C fs ta) := by
  intro pins s σ H Q I h
  refine wpAny_Call_Name_kw (ld_glob I hg hm ?_ hdb)
  refine PySem.W.callWith_K (h₀ := X.base) I.ok.mod.kin T.ox.kC (thn (ha.run pos pins s σ H _ I h) fun us s1 hh => ?_) he hpl
  obtain ⟨vs, H1, I1, r1, hvl, q1⟩ := hh
  refine ⟨I1.kIn, ?_⟩
  show wpAny _ _ (call (.ref C) us) _ _ _
  have hlim := I1.nolimit
  have hus : us.length = fs.length := by rw [← Paired.length r1]; exact hvl
  obtain ⟨mb, hB1, hB2⟩ := I1.mod.blt
  have GB := I1.mod.glob.keeps I1.bk
  have BB := hB1.keeps I1.bk
  have X1 := I1.kIn
  obtain ⟨hp, g, dr, tk, os⟩ := s1
  obtain ⟨nm, q, N, bs, bm, sn, sub, ab, col, dd, k0, k1, k2, k3, k5, hC, hbm⟩ := T.ox.cls
  have kk : ∀ b o, hp.get? b = some o → ((hp.push (PySem.W.kdv_tup us)).push (PySem.HandSPX.excO C hp.objs.size)).get? b = some o := fun b o e => Heap.get?_push_of_some _ (Heap.get?_push_of_some _ e)
  have hget : ((hp.push (PySem.W.kdv_tup us)).push (PySem.HandSPX.excO C hp.objs.size)).get? (hp.objs.size + 1) = some (PySem.HandSPX.excO C hp.objs.size) := by heap_get
  have hnx : X.K.lookup (hp.objs.size + 1) = none := by
    cases e : X.K.lookup (hp.objs.size + 1) with
    | none => rfl
    | some o =>
      have z : hp.get? (hp.objs.size + 1) = some o := X1 _ _ e
      exact absurd (Nat.lt_of_succ_lt (Heap.lt_size z)) (Nat.lt_irrefl _)
  have hsl : us.length ≤ sizeLine := by rw [hus, sizeLine_eq]; have := T.sm; omega
  refine wpAny_call (PySem.HandSPX.call_own F.excBase_ValueError (fun Y => PySem.HandSPX.refsVE_contains Y bm hbm) (X1 _ _ hC) (PySem.W.looks_findIn X1 T.iC) (fun self => PySem.W.bind_fn X1 self T.tI) hsl ?_)
  refine LyE.sup_init (s := ⟨(hp.push (PySem.W.kdv_tup us)).push (PySem.HandSPX.excO C hp.objs.size), g, dr, tk, os⟩) T hus (X1.keeps kk) (GB.keeps kk) (BB.keeps kk) ((hB2 _ (by decide)).trans rfl) (hlim.keeps kk) hget hnx ?_ fun h' tk' dx t1 ⟨k', hx, dn, dne, hns⟩ => ?_
  · show X.A.depth + 1 < recursionLimit
    have := hr.dp
    omega
  · have new : hp.objs.size ≤ hp.objs.size + 1 := Nat.le_succ _
    have old : ∀ b o, hp.get? b = some o → h'.get? b = some o := fun b o e => k' b o (Nat.ne_of_lt (Nat.lt_succ_of_lt (Heap.lt_size e))) (kk b o e)
    have dbig : hp.objs.size + 1 + 1 ≤ dx := by
      first
        | (simpa only [Heap.size_push] using dn)
        | exact dn
        | (have q := dn; rw [Heap.size_push, Heap.size_push] at q; exact q)
    refine ⟨rfl, ?_⟩
    show MkP X pins σ Q (.ref (hp.objs.size + 1)) ⟨h', g, dr, tk', os⟩
    obtain ⟨G', g1, g2⟩ := restrict h' fun b => decide (b ≠ hp.objs.size + 1)
    have gk : ∀ b, b ≠ hp.objs.size + 1 → G'.get? b = h'.get? b := fun b hb => g1 b (decide_eq_true hb)
    have ge : G'.get? (hp.objs.size + 1) = none := g2 _ (by simp)
    have old' : ∀ b o, hp.get? b = some o → G'.get? b = some o := fun b o q => (gk b (Nat.ne_of_lt (Nat.lt_of_lt_of_le (Heap.lt_size q) new))).trans (old b o q)
    have ob : ObjOk X.prog X.w (upd H1 dx (.xd (LyE.put fs vs []))) G' dx (.xd (LyE.put fs vs [])) :=
      ⟨_, hns.at (fun o q => (gk dx dne).trans q), relO_put' r1 fun f => True.intro⟩
    have J : Inv X pins σ (upd H1 dx (.xd (LyE.put fs vs []))) ⟨G', g, dr, tk', os⟩ := I1.laid (t' := tk') old' (Nat.le_trans (Nat.le_trans new (Nat.le_succ _)) dbig) ob
    refine ⟨hp.objs.size + 1, _, _, ⟨G', g, dr, tk', os⟩, _, .ref C, some dx, rfl, J, fun b o q => ?_, ge, hx, ⟨rfl, rfl⟩, rfl, rfl, ?_, rfl, I1.bare, raises_own T.ox.exC T.ox.tyC, q1 dx (I1.hok.fresh (Nat.le_trans (Nat.le_trans new (Nat.le_succ _)) dbig))⟩
    · by_cases hb : b = hp.objs.size + 1
      · have q' : G'.get? b = some o := q
        rw [hb, ge] at q'; cases q'
      · exact (gk b hb).symm.trans q
    · rw [upd_ne (Ne.symm dne)]
      exact I1.hok.fresh new
end Ly
end
section
set_option Elab.async false
set_option linter.all false
set_option maxRecDepth 100000
set_option maxHeartbeats 1000000
/-! Ly12: the exception in hand: isinstance, its fields; raise; try. -/
namespace LyE
open PySem PySem.W PySem.Calls PyProof.Rows
section
variable {prog : Program} {w : World} {A : Around} {E : Value → Shared → Prop} {s : Shared} {K : Frag} {x D : Addr} {ox : Obj} {od : Option Obj}
theorem findObj_dataN {C : Addr} {name : Str} {a g : Value} (hc : (clsIn K C).isSome = true) (ha : findIn K (.ref C) name = some (some a)) (hg : specialIn K a "__get__" = some (some g)) (ht : takesIn K a = some true) : findObj K C od name = some (.bind g a) := by
  obtain ⟨cd, hc⟩ := Option.isSome_iff_exists.mp hc
  unfold findObj
  rw [hc, Option.bind_some, ha, Option.bind_some]
  simp [hg, ht]
theorem kin_classE {Q : Option Value → Shared → Prop} (hga : findIn K (.ref D) "__getattribute__" = some (some (.builtin "BaseException.__getattribute__"))) (hgt : findIn K (.ref D) "__getattr__" = some none) (hsub : subIn K (.ref D) (.type "BaseException") = some true)
    (hdct : hasDictIn K D = true) (ha : findIn K (.ref D) "__class__" = some (some (.builtin "object.__class__")))
    (hn : specialIn K (.builtin "object.__class__") "__get__" = some (some (.builtin "getset_descriptor.__get__"))) (htk : takesIn K (.builtin "object.__class__") = some true) (hm : mroIn K D (.type "object") = some true)
    (X : K.In s.heap) (I : InstAt s.heap x ox D od) (h : Q (some (.ref D)) { s with toks := s.toks + 1 }) : wpAny (model prog w) A (getAttr? (.ref x) "__class__") Q E s := by
  have hf : findObj K D od "__class__" = some (.bind (.builtin "getset_descriptor.__get__") (.builtin "object.__class__")) := findObj_dataN (by obtain ⟨cd, hc, _⟩ := any_some hdct; rw [hc]; rfl) ha hn htk
  obtain ⟨hp, g, d, t, os⟩ := s
  have L0 := I.type (M := model prog w)
  have L1 := looks_findIn (M := model prog w) X hga
  have L2 := looks_findIn (M := model prog w) X hgt
  have L3 := looks_find (M := model prog w) X I hf
  have sub : Looks (model prog w) hp (isInstance (.ref x) (.type "BaseException")) true := L0.andThen (looks_subIn X hsub)
  have hx0 : (false && onTheHeap (Value.builtin "BaseException.__getattribute__")) = false := rfl
  have hx2 : (Value.builtin "BaseException.__getattribute__" == Value.builtin "object.__getattribute__") = false := by decide +kernel
  have hx1 : (onTheHeap (Value.ref D) && Value.builtin "BaseException.__getattribute__" == Value.builtin "object.__getattribute__") = false := by rw [hx2]; rfl
  unfold getAttr? getAttrBy? getAttrBy
  refine wpAny_bind (wpAny_mkText (wpAny_bind (wpAny_attempt (wpAny_holding (wpAny_bind (L0.at (wpAny_bind (L1.at ?_))))))))
  show wpAny _ _ (if (onTheHeap (Value.ref D) && Value.builtin "BaseException.__getattribute__" == Value.builtin "object.__getattribute__") = true then _ else _) _ _ _
  rw [hx1, if_neg Bool.false_ne_true]
  unfold getAttrByItsOwn hookBefore
  refine wpAny_bind ?_
  rw [if_pos (show onTheHeap (Value.ref D) = true from rfl)]
  refine L2.at ?_
  refine wpAny_bind (wpAny_attempt (wpAny_holding ?_))
  unfold callGetattribute
  rw [hx0, if_neg Bool.false_ne_true]
  unfold boundAndCalled
  rw [PySem.F.excAttr_ValueError.ga.bind (.ref x)]
  refine wpAny_bind (wpAny_pure ?_)
  show wpAny _ _ (call (.builtin "BaseException.__getattribute__") [.ref x, .str "__class__" t]) _ _ _
  refine wpAny_call (codeAny_call_builtin PySem.F.excAttr_ValueError.ga.plain PySem.F.entry_bexc_ga ?_)
  refine @check_slot (model prog w) _ _ ⟨hp, g, d, t + 1, os⟩ "BaseException.__getattribute__" "BaseException" "__getattribute__" (.ref x) [.str "__class__" t] [] _ (by decide +kernel) (by decide +kernel) sub (PySem.F.args_bexc_ga (.ref x) (.str "__class__" t)) ?_
  unfold Builtin.«object.__getattribute__»
  refine wpAny_bind (wpAny_of_eq (a := ((Value.ref x : Value), [Value.str "__class__" t])) (by first | rfl | (simp only [slotArgs]; rfl)) ?_)
  refine wpAny_bind (wpAny_pure (wpAny_bind (L0.at (wpAny_bind (L3.at ?_)))))
  show wpAny _ _ (holding [Value.builtin "object.__class__"] (call (.builtin "getset_descriptor.__get__") [.builtin "object.__class__", .ref x, .ref D]) >>= ret) _ _ _
  refine wpAny_bind (wpAny_holding (wpAny_call (class_get (s := ⟨hp, g, d, t + 1, os⟩) (ox := ox) (od := od) X I hm ?_)))
  refine wpAny_pure ?_
  show wpAny _ _ (handedOut (.ref D)) _ _ _
  rw [handedOut_of (v := .ref D) rfl]
  first
    | exact wpAny_pure (wpAny_pure h)
    | exact wpAny_pure h
    | exact wpAny_pure (wpAny_bind (wpAny_pure (wpAny_pure h)))
theorem kitx_exc (C : L2.ExcC K D) : KitX K (.ref x) (.ref D) (fun h => ∃ od, InstAt h x ox D od) where
  ty := fun _ _ _ ⟨_, I⟩ => I.type
  it := fun _ _ X _ => by
    obtain ⟨cdD, hcD, _⟩ := any_some C.hd
    unfold clsIn at hcD
    split at hcD
    · rename_i c' d' cd' sl' ho
      intro A' Q' E' s' k q
      unfold isType loadHead
      exact wpAny_bind (wpAny_loadPart (k _ _ (X _ _ ho)) (wpAny_pure q))
    · cases hcD
  ne := fun h tp dd its n sl X htp => by
    obtain ⟨cdD, hcD, _⟩ := any_some C.hd
    refine Bool.eq_false_iff.mpr fun q => ?_
    have e : D = tp := Value.ref.inj (beq_iff_eq.mp q)
    subst e
    unfold clsIn at hcD
    split at hcD
    · rename_i c' d' cd' sl' ho
      have z := (X _ _ ho).symm.trans htp
      cases z
    · cases hcD
  ca := fun X ⟨_, I⟩ k => kin_classE C.hg C.hk C.hs C.hd C.ha C.hn C.ht C.hm X I k
end
end LyE
namespace Ly
open PySem PySem.Spec PyProof.Rows L2
def exOf (xa : Xa) : Option (Str × List Str × List D) := xa.map fun r => (r.c, r.fs, r.vs)
/-- what a class needs, whose errors are asked in a suite -/
structure EcOk (K : PySem.W.Frag) (c : Str) : Prop where
  is : ExcC K (He.ga K c)
  xf : XfC K (He.ga K c)
/-- the context of the suite -/
def SuiteOk (X : Cx) (T : SubT) (xa : Xa) : Prop := ∀ r, xa = some r → ∃ (Y : Cx) (oe : Obj) (pn : List (Addr × Obj)), X = Y.suite r.a ((r.a, oe) :: pn) ∧ Zc (.ref (He.ga Y.K r.c)) (some r.dd) oe ∧ (∃ vs, oe.data = .fields vs) ∧ EcOk Y.K r.c ∧ ∃ x b, subOf T r.c x = some b
theorem suiteOk_none {X : Cx} {T : SubT} : SuiteOk X T none := fun _ h => by cases h
/-- the name of a class -/
def ClN (X : Cx) (c : Str) (v : V) (u : Value) : Prop := Gl X c ∧ (c == ("__debug__" : Str)) = false ∧ ((X.mg c = some u ∧ ∃ a, v = .ref a ∧ u = .ref a) ∨ (X.mg c = none ∧ bootBuiltins c = some u ∧ c ≠ "__name__" ∧ ∃ n, v = .ty n ∧ u = .type n))
theorem ClN.clsV {X : Cx} {c : Str} {v : V} {u : Value} (h : ClN X c v u) : ClsV v u := by
  obtain ⟨_, _, ⟨_, a, rfl, rfl⟩ | ⟨_, _, _, n, rfl, rfl⟩⟩ := h
  · exact .own _
  · exact .ty _
theorem ClN.pe {X : Cx} {c : Str} {v : V} {u : Value} {p : Pos} (h : ClN X c v u) : PE X (.Name c p) (tC v) := by
  obtain ⟨hg, hd, ⟨hm, a, rfl, rfl⟩ | ⟨hm, hb, hn, n, rfl, rfl⟩⟩ := h
  · exact pe_glob hg hm rfl hd
  · exact pe_bltn hg hm hb rfl hn hd
theorem ClN.names {X : Cx} {c : Str} {v : V} {u : Value} (h : ClN X c v u) : Names X c u := by
  obtain ⟨hg, hd, ⟨hm, _⟩ | ⟨hm, hb, hn, _⟩⟩ := h
  · exact ⟨hg, hd, .inl hm⟩
  · exact ⟨hg, hd, .inr ⟨hm, hb, hn⟩⟩
section
variable {X : Cx} {xa : Xa} {W : WX} {a b c e : Expr} {es : List Expr} {pos p : Pos} {g : Gs} {ca cb cc : CE}
def rIsX (K : PySem.W.Frag) (xa : Xa) : List V → Hp → VK → Prop := fun xs H Q => ∃ (r : XaR) (fs : List (Str × V)) (v : V) (u : Value) (b : Bool), xa = some r ∧ H r.dd = some (.xd fs) ∧ xs = [.ref r.a, v] ∧ ClsV v u ∧ PySem.W.kitOne K (.ref (He.ga K r.c)) u = some b ∧ Q (.bl b) H
def rIsXT (K : PySem.W.Frag) (xa : Xa) : List V → Hp → VK → Prop := fun xs H Q => ∃ (r : XaR) (fs : List (Str × V)) (tp : Addr) (cs : List V) (us : List Value) (b : Bool), xa = some r ∧ H r.dd = some (.xd fs) ∧ xs = [.ref r.a, .ref tp] ∧ H tp = some (.tup cs) ∧ Paired ClsV cs us ∧ PySem.W.kitAny K (.ref (He.ga K r.c)) us = some b ∧ Q (.bl b) H
theorem inst_of {pins : List (Addr × Obj)} {σ : St} {H : Hp} {s : Shared} {r : XaR} {Y : Cx} {oe : Obj} {pn : List (Addr × Obj)} {fs : List (Str × V)} (I : Inv (Y.suite r.a ((r.a, oe) :: pn)) pins σ H s) (hz : Zc (.ref (He.ga Y.K r.c)) (some r.dd) oe) (hf : ∃ vs, oe.data = .fields vs) (hd : H r.dd = some (.xd fs)) :
    ∃ od, PySem.W.InstAt s.heap r.a oe (He.ga Y.K r.c) od := by
  obtain ⟨hget, _⟩ := I.pin (r.a, oe) (List.mem_append.mpr (.inl List.mem_cons_self))
  obtain ⟨vs, hv⟩ := hf
  have hx : ObjOk _ _ H s.heap r.dd (.xd fs) := I.hok r.dd _ hd
  obtain ⟨mA, hns, _⟩ := hx
  obtain ⟨od, ho, _⟩ := lookIn_ns hns
  exact ⟨some od, hget, hz.1, by unfold PySem.W.notCls; rw [hv] <;> rfl, by rw [hz.2]; exact ho⟩
theorem call_isX (S : SuiteOk X g.T xa) : CallR X (.builtin "isinstance") (rIsX X.K xa) := by
  intro pins s σ H xs us Q I rv h
  obtain ⟨r, fs, v, u, b, hxa, hd, rfl, hcv, e, q⟩ := h
  obtain ⟨Y, oe, pn, rfl, hz, hf, he, _⟩ := S r hxa
  obtain ⟨u1, u2, rfl, r1, r2⟩ := vals2 rv
  have e2 := hcv.eq r2
  subst e2
  cases (show u1 = Value.ref r.a from r1)
  exact PySem.W.kia_one (LyE.kitx_exc (ox := oe) he.is) I.kIn (inst_of I hz hf hd) e (fun z => nomatch z) fun tk => ⟨.bl b, H, I.kept (t' := tk) fun _ _ z => z, rfl, q⟩
theorem call_isXT (S : SuiteOk X g.T xa) : CallR X (.builtin "isinstance") (rIsXT X.K xa) := by
  intro pins s σ H xs us Q I rv h
  obtain ⟨r, fs, tp, cs, ws, b, hxa, hd, rfl, hT, k, e, q⟩ := h
  obtain ⟨Y, oe, pn, rfl, hz, hf, he, _⟩ := S r hxa
  obtain ⟨u1, u2, rfl, r1, r2⟩ := vals2 rv
  cases (show u2 = Value.ref tp from r2)
  cases (show u1 = Value.ref r.a from r1)
  obtain ⟨_, its, rv, o, h1, h2, n, h3⟩ := (show ObjOk _ _ H s.heap tp (.tup cs) from I.hok tp _ hT)
  have e3 := ClsV.all k rv
  subst e3
  obtain ⟨oc, od, dt, sl⟩ := o
  simp only at h2 h3
  subst h2 h3
  exact PySem.W.kia_tup (LyE.kitx_exc (ox := oe) he.is) I.kIn (inst_of I hz hf hd) h1 e (fun z => nomatch z) fun tk => ⟨.bl b, H, I.kept (t' := tk) fun _ _ z => z, rfl, q⟩
/-- what the table of the classes says is so -/
def TabC (K : PySem.W.Frag) (T : SubT) (c : Str) (u : Value) : Prop := ∀ c' b, subOf T c' c = some b → PySem.W.kitOne K (.ref (He.ga K c')) u = some b
theorem e_isE1 {i : Nat} {n x : Str} {v : V} {u : Value} {p1 p2 : Pos} (S : SuiteOk X g.T xa) (hx : exOf xa = g.ex) (hix : ∀ r, xa = some r → r.i = i) (hN : X.N[i]? = some n) (hv : Vis X.env.scope n) (hd : (n == ("__debug__" : Str)) = false) (hcd : (n == ("__classdict__" : Str)) = false)
    (hg0 : Gl X "isinstance") (hm0 : X.mg "isinstance" = none) (hc : ClN X x v u) (ht : TabC X.K g.T x u) :
    E1 X xa W (.Call (.Name "isinstance" p) [.Name n p1, .Name x p2] [] pos) (ev g (.isE [x])) :=
  pe_w (pe_callB (call_isX S) hg0 hm0 boot_isinstance' (pa_cons (pe_var hN hv hd hcd) (pa_cons hc.pe pa_nil rfl) rfl) (by decide) (by decide) rfl rfl) fun σ H Q ⟨ρ, σd, h, rl, rh, p⟩ => by
    have p' : Post X.K xa (fun c d H' => W c d σ H') ρ H (match g.ex with
      | some (c, _, _) => (match (match subOf g.T c x with
        | some true => some true
        | some false => some false
        | none => none) with
        | some b => R.ok (.bl b) h
        | none => .bad)
      | none => .bad) Q := p
    rw [← hx] at p'
    cases hxa : xa with
    | none => rw [hxa] at p'; exact p'.elim
    | some r =>
      obtain ⟨h1, fs, h2, h3, h4⟩ := rl.x r hxa
      rw [hix r hxa] at h1
      have p2 : Post X.K xa (fun c d H' => W c d σ H') ρ H (match (match subOf g.T r.c x with
        | some true => some true
        | some false => some false
        | none => none) with
        | some b => R.ok (.bl b) h
        | none => .bad) Q := by rw [hxa] at p' ⊢; exact p'
      cases z : subOf g.T r.c x with
      | none => rw [z] at p2; exact p2.elim
      | some b =>
        rw [z] at p2
        refine ⟨.ref r.a, h1, r, fs, v, u, b, by rw [← hxa], h2, rfl, hc.clsV, ht _ _ z, ?_⟩
        cases b <;> exact Post.okv p2 rh (.bl _)
/-- the names of classes -/
inductive ClL (X : Cx) : List Expr → List Str → List V → List Value → Prop
  | nil : ClL X [] [] [] []
  | cons {x : Str} {p : Pos} {v : V} {u : Value} {es : List Expr} {xs : List Str} {vs : List V} {us : List Value} : ClN X x v u → ClL X es xs vs us → ClL X (.Name x p :: es) (x :: xs) (v :: vs) (u :: us)
theorem ClL.pa {es : List Expr} {xs : List Str} {vs : List V} {us : List Value} (h : ClL X es xs vs us) : PA X es (fun _ H Q => Q vs H) := by
  induction h with
  | nil => exact pa_nil
  | cons hc _ ih => exact pa_w (pa_cons hc.pe ih rfl) fun σ H Q q => q
theorem ClL.cls {es : List Expr} {xs : List Str} {vs : List V} {us : List Value} (h : ClL X es xs vs us) : Paired ClsV vs us := by
  induction h with
  | nil => exact .nil
  | cons hc _ ih => exact .cons hc.clsV ih
theorem ClL.len {es : List Expr} {xs : List Str} {vs : List V} {us : List Value} (h : ClL X es xs vs us) : vs.length = xs.length := by
  induction h with
  | nil => rfl
  | cons hc _ ih => exact congrArg Nat.succ ih
theorem ClL.kit {T : SubT} {es : List Expr} {xs : List Str} {vs : List V} {us : List Value} (h : ClL X es xs vs us) (ht : ∀ x u v, x ∈ xs → ClN X x v u → TabC X.K T x u) {c : Str} {b : Bool} (e : isSome1 T c xs = some b) : PySem.W.kitAny X.K (.ref (He.ga X.K c)) us = some b := by
  induction h with
  | nil => exact e
  | @cons x p v u es xs vs us hc _ ih =>
    have e' : (match subOf T c x with
      | some true => some true
      | some false => isSome1 T c xs
      | none => none) = some b := e
    cases z : subOf T c x with
    | none => rw [z] at e'; cases e'
    | some b0 =>
      rw [z] at e'
      have k := ht x u v (List.mem_cons_self ..) hc _ _ z
      cases b0 with
      | true =>
        cases e'
        exact kitAny_cons (b := true) k (fun q => nomatch q) fun _ => rfl
      | false => exact kitAny_cons (b := false) k (fun _ => ih (fun x u v hx => ht x u v (List.mem_cons_of_mem _ hx)) e') fun q => nomatch q
theorem e_isET {i : Nat} {n : Str} {xs : List Str} {vs : List V} {us : List Value} {k : Nat} {p1 p2 : Pos} (S : SuiteOk X g.T xa) (hx : exOf xa = g.ex) (hix : ∀ r, xa = some r → r.i = i) (hN : X.N[i]? = some n) (hv : Vis X.env.scope n) (hd : (n == ("__debug__" : Str)) = false) (hcd : (n == ("__classdict__" : Str)) = false)
    (hg0 : Gl X "isinstance") (hm0 : X.mg "isinstance" = none) (hc : ClL X es xs vs us) (ht : ∀ x u v, x ∈ xs → ClN X x v u → TabC X.K g.T x u) (hl : xs.length ≤ 1000) :
    E1 X xa W (.Call (.Name "isinstance" p) [.Name n p1, .Tuple es k p2] [] pos) (ev g (.isE xs)) :=
  pe_w (pe_callB (call_isXT S) hg0 hm0 boot_isinstance' (pa_cons (pe_var hN hv hd hcd) (pa_cons (pe_tup hc.pa) pa_nil rfl) rfl) (by decide) (by decide) rfl rfl) fun σ H Q ⟨ρ, σd, h, rl, rh, p⟩ => by
    have p' : Post X.K xa (fun c d H' => W c d σ H') ρ H (match g.ex with
      | some (c, _, _) => (match isSome1 g.T c xs with
        | some b => R.ok (.bl b) h
        | none => .bad)
      | none => .bad) Q := p
    rw [← hx] at p'
    cases hxa : xa with
    | none => rw [hxa] at p'; exact p'.elim
    | some r =>
      obtain ⟨h1, fs, h2, h3, h4⟩ := rl.x r hxa
      rw [hix r hxa] at h1
      have p2 : Post X.K xa (fun c d H' => W c d σ H') ρ H (match isSome1 g.T r.c xs with
        | some b => R.ok (.bl b) h
        | none => .bad) Q := by rw [hxa] at p' ⊢; exact p'
      cases z : isSome1 g.T r.c xs with
      | none => rw [z] at p2; exact p2.elim
      | some b =>
        rw [z] at p2
        refine ⟨.ref r.a, h1, by rw [hc.len, sizeLine_eq]; omega, fun tp htp => ?_⟩
        obtain ⟨rh2, e2⟩ := rh.tupx (xs := vs) htp
        exact ⟨r, fs, tp, vs, us, b, by rw [← hxa], e2.keep _ _ h2 trivial, rfl, upd_same, hc.cls, hc.kit ht z, p2 _ _ _ (List.prefix_refl _) e2 rh2 (.bl _)⟩
/-- e.f -/
theorem e_fld {i : Nat} {n f : Str} {p1 : Pos} (S : SuiteOk X g.T xa) (hx : exOf xa = g.ex) (hix : ∀ r, xa = some r → r.i = i) (hN : X.N[i]? = some n) (hv : Vis X.env.scope n) (hd : (n == ("__debug__" : Str)) = false) (hcd : (n == ("__classdict__" : Str)) = false)
    (hno : ∀ c' x b, subOf g.T c' x = some b → PySem.W.findIn X.K (.ref (He.ga X.K c')) f = some none) : E1 X xa W (.Attribute (.Name n p1) f pos) (ev g (.fld f)) := by
  cases hxa : xa with
  | none =>
    refine ⟨fun pins s σ H Q I ⟨ρ, σd, h, rl, rh, p⟩ => ?_⟩
    have p' : Post X.K none (fun c d H' => W c d σ H') ρ H (match g.ex with
      | some (_, fs, vs) => (match (fs.zip vs).lookup f with
        | some d => .ok d h
        | none => .bad)
      | none => .bad) Q := p
    rw [← hx, hxa] at p'
    exact p'.elim
  | some r =>
    obtain ⟨Y, oe, pn, rfl, hz, hf, he, x0, b0, hsub⟩ := S r hxa
    refine pe_w (pe_xf he.xf (hno _ _ _ hsub) hz hf (pe_var hN hv hd hcd) rfl) fun σ H Q ⟨ρ, σd, h, rl, rh, p⟩ => ?_
    obtain ⟨h1, fs, h2, h3, h4⟩ := rl.x r rfl
    rw [hix r hxa] at h1
    have p' : Post Y.K (some r) (fun c d H' => W c d σ H') ρ H (match g.ex with
      | some (_, fs, vs) => (match (fs.zip vs).lookup f with
        | some d => .ok d h
        | none => .bad)
      | none => .bad) Q := p
    rw [← hx, hxa] at p'
    have p2 : Post Y.K (some r) (fun c d H' => W c d σ H') ρ H (match (r.fs.zip r.vs).lookup f with
        | some d => .ok d h
        | none => .bad) Q := p'
    rw [← h3] at p2
    have key : ∀ (fs : List (Str × V)) (vs : List D), RepVs Y.K (some r) ρ H vs (fs.map (·.2)) → ∀ d, ((fs.map (·.1)).zip vs).lookup f = some d → ∃ v, fs.lookup f = some v ∧ RepV Y.K (some r) ρ H d v := by
      intro fs
      induction fs with
      | nil => intro vs _ d hd; cases vs <;> cases hd
      | cons q fs ih =>
        intro vs rv d hd
        obtain ⟨k, v⟩ := q
        cases rv with
        | @cons d0 v0 ds0 vs0 r0 rs =>
          by_cases hk : f = k
          · subst hk
            simp [List.lookup] at hd ⊢
            rw [← hd]; exact r0
          · have hk' : (f == k) = false := by simpa using hk
            simp [List.lookup, hk'] at hd ⊢
            exact ih _ rs d hd
    cases z : ((fs.map (·.1)).zip r.vs).lookup f with
    | none => rw [z] at p2; exact p2.elim
    | some d =>
      rw [z] at p2
      obtain ⟨v, l, rv⟩ := key fs r.vs h4 d z
      exact ⟨.ref r.a, h1, rfl, rfl, r.dd, fs, v, rfl, h2, l, p2.okv rh rv⟩
/-! ### raise -/
theorem put_eq {α : Type} : ∀ (fs : List Str) (vs : List α) (ws : List (Str × α)), LyE.put fs vs ws = (fs.zip vs).reverse ++ ws
  | [], _, ws => rfl
  | _ :: _, [], ws => rfl
  | f :: fs, v :: vs, ws => by
    show LyE.put fs vs ((f, v) :: ws) = _
    rw [put_eq]
    simp
theorem zip_fst {α : Type} : ∀ {fs : List Str} {vs : List α}, vs.length = fs.length → (fs.zip vs).map (·.1) = fs
  | [], _, _ => by simp
  | f :: fs, [], h => by cases h
  | f :: fs, v :: vs, h => by
    simp only [List.zip_cons_cons, List.map_cons]
    rw [zip_fst (by simpa using h)]
theorem zip_snd {α : Type} : ∀ {fs : List Str} {vs : List α}, vs.length = fs.length → (fs.zip vs).map (·.2) = vs
  | [], [], _ => rfl
  | [], _ :: _, h => by cases h
  | f :: fs, [], h => by cases h
  | f :: fs, v :: vs, h => by
    simp only [List.zip_cons_cons, List.map_cons]
    rw [zip_snd (by simpa using h)]
theorem s_raise {fs : List Str} {x : Str} {fI : Addr} {k : Nat} {pos2 : Pos} (hcalm : X.calm = true) (T : LyE.SupT X.K X.mg X.prog (He.ga X.K x) fI fs) (hr : Room k X.A) (tk : Takes X W) (ha : Ar X xa W (e :: es) (ev g ca)) (hs : notStars (e :: es) = true) (hg : Gl X x) (hm : X.mg x = some (.ref (He.ga X.K x))) (hdb : (x == ("__debug__" : Str)) = false) :
    S1 X xa W (.Raise (some (.Call (.Name x p) (e :: es) [] pos2)) none pos) (exec g (.raise x fs ca)) := by
  have hs1 : notStar e = true := (Bool.and_eq_true_iff.mp hs).1
  have hs2 : notStars es = true := (Bool.and_eq_true_iff.mp hs).2
  refine ps_w (ps_raise hcalm tk (pmk_sup T hr ha hg hm hdb (star_one hs1 _ _) (star_none hs2 _ _))) fun D' σ H ⟨ρ, σd, h, rl, rh, p⟩ => ⟨ρ, σd, h, rl, rh, ?_⟩
  have p' : PostS X.K xa W D' ρ H (evS (ev g ca σd h) σd fun y h1 => (match y with
    | .tup ds => if ds.length = fs.length then .exc x fs.reverse ds.reverse σd h1 else .bad
    | _ => .bad)) := p
  cases z : ev g ca σd h with
  | bad => rw [z] at p'; exact p'.elim
  | exc c' fs' vs' h' =>
    rw [z] at p'
    exact fun ρ1 H1 dd ys q1 e1 rh1 => p' ρ1 H1 σ dd ys q1 e1 rh1 (rl.ext q1 e1)
  | ok y h1 =>
    rw [z] at p'
    cases y with
    | tup ds =>
      intro ρ1 H1 vs q1 e1 rh1 rv
      have p2 : PostS X.K xa W D' ρ H (if ds.length = fs.length then .exc x fs.reverse ds.reverse σd h1 else .bad) := p'
      by_cases hl : ds.length = fs.length
      · rw [if_pos hl] at p2
        have hvl : vs.length = fs.length := by rw [← rv.length]; exact hl
        refine ⟨hvl, fun d hd => ?_⟩
        have pe : LyE.put fs vs [] = (fs.zip vs).reverse := by rw [put_eq, List.append_nil]
        have e2 : Ext H1 (upd H1 d (.xd (LyE.put fs vs []))) := Ext.new hd
        have rh2 : RepH X.K xa ρ1 (upd H1 d (.xd (LyE.put fs vs []))) h1 := ⟨rh1.len, rh1.nd, fun n ao hn => by
          obtain ⟨a, o, f1, f2, f3⟩ := rh1.obj n ao hn
          exact ⟨a, o, f1, by rw [upd_ne (ne_of_none f2 hd)]; exact f2, f3.ext (List.prefix_refl _) e2⟩⟩
        refine p2 ρ1 _ σ d _ q1 (e1.trans e2) rh2 (rl.ext q1 (e1.trans e2)) upd_same ?_ ?_
        · rw [pe, List.map_reverse, zip_fst hvl]
        · have em : (LyE.put fs vs []).map (·.2) = vs.reverse := by rw [pe, List.map_reverse, zip_snd hvl]
          rw [em]
          exact (rv.ext (List.prefix_refl _) e2).reverse
      · rw [if_neg hl] at p2; exact p2.elim
    | _ => exact p'.elim
/-! ### try -/
theorem s_try {n x : Str} {v : V} {u : Value} {i : Nat} {ib is : CS} {body suite : List Stmt} {b₀ : Stmt} {np pos' : Pos} (hst : X.stack = X.env :: X.outer) (hf : X.env.frame = some X.env.locals) (hN : X.N.Nodup) (hi : X.N[i]? = some n) (hln : X.env.kindOf n = some .local) (hc : ClN X x v u) (tk : Takes X W)
    (hex : ∀ c' b, subOf g.T c' x = some b → PySem.W.exmOne X.K (.ref (He.ga X.K c')) u = some b) (hec : ∀ c' b, subOf g.T c' x = some b → EcOk X.K c')
    (hb : ∀ (W' : WX) (pn : List (Addr × Obj)) (xe : Value → Shared → Prop), Takes (X.tr pn xe) W' → PassesOwn (model X.prog X.w) X.A X.env xe → Ss1 (X.tr pn xe) none W' body (exec g ib))
    (hs : ∀ (r : XaR) (oe : Obj) (pn : List (Addr × Obj)), r.i = i → SuiteOk (X.suite r.a ((r.a, oe) :: pn)) g.T (some r) → Ss1 (X.suite r.a ((r.a, oe) :: pn)) (some r) (fun _ _ _ _ => False) (b₀ :: suite) (exec { g with ex := some (r.c, r.fs, r.vs) } is)) :
    S1 X none W (.Try body [.ExceptHandler (some (.Name x np)) (some n) (b₀ :: suite) pos'] [] [] pos) (exec g (.try_ ib x i is)) := by
  refine ps_w (ps_try_as (i := i) (tb := fun W' => semS X.K none W' (exec g ib))
    (ts := fun a cls d D σ H => ∃ r : XaR, r.a = a ∧ r.i = i ∧ d = some r.dd ∧ cls = .ref (He.ga X.K r.c) ∧ EcOk X.K r.c ∧ (∃ y b, subOf g.T r.c y = some b) ∧ semS X.K (some r) (fun _ _ _ _ => False) (exec { g with ex := some (r.c, r.fs, r.vs) } is) D σ H)
    (Wout := W) hst hf hN hi hln hc.names tk hb ?_) fun D' σ H ⟨ρ, σd, h, rl, rh, p⟩ => ⟨ρ, σd, h, rl, rh, ?_⟩
  · intro a oe cls d pn hz hfd
    refine ⟨fun pins s σ H D I h => ?_⟩
    obtain ⟨r, rfl, hri, rfl, rfl, he, ht, hsem⟩ := h
    exact (hs r oe pn hri fun r' hr' => by
      cases hr'
      exact ⟨X, oe, pn, rfl, hz, hfd, he, ht⟩).run pins s σ H D I hsem
  · have p' : PostS X.K none W D' ρ H (match exec g ib σd h with
      | .exc c' fs vs σ1 h1 => (match subOf g.T c' x with
        | some true => if i < σ1.length then (match exec { g with ex := some (c', fs, vs) } is (σ1.set i none) h1 with
          | .nx σ2 h2 => .nx (σ2.set i none) h2
          | .bk σ2 h2 => .bk (σ2.set i none) h2
          | .ct σ2 h2 => .ct (σ2.set i none) h2
          | .rt d h2 => .rt d h2
          | _ => .bad) else .bad
        | some false => .exc c' fs vs σ1 h1
        | none => .bad)
      | r => r) := p
    cases z : exec g ib σd h with
    | nx => rw [z] at p'; exact p'
    | bk => rw [z] at p'; exact p'
    | ct => rw [z] at p'; exact p'
    | rt => rw [z] at p'; exact p'
    | bad => rw [z] at p'; exact p'
    | exc c' fs vs σ1 h1 =>
      rw [z] at p'
      intro ρ1 H1 σ' dd ys q1 e1 rh1 rl1 hdd hfs rv
      have p' := PostS.shift q1 e1 p'
      dsimp only at p'
      cases zs : subOf g.T c' x with
      | none => rw [zs] at p'; exact p'.elim
      | some b =>
        rw [zs] at p'
        refine ⟨b, hex _ _ zs, fun hb1 a ha => ?_, fun hb1 => ?_⟩
        · subst hb1
          dsimp only at p'
          by_cases hl : i < σ1.length
          · rw [if_pos hl] at p'
            refine ⟨⟨a, dd, i, c', fs, vs⟩, rfl, rfl, rfl, rfl, hec _ _ zs, ⟨x, _, zs⟩, ρ1, σ1.set i none, h1, ⟨(rl1.r.unset i).sw, fun r' hr' => ?_⟩, rh1.sw, ?_⟩
            · cases hr'
              refine ⟨?_, ys, hdd, hfs, rv.sw⟩
              have hl' : i < σ'.length := by rw [← rl1.r.length]; exact hl
              rw [List.getElem?_set_self hl']
            · have un : ∀ {ρ2 : List Addr} {H2 : Hp} {σ2 : Sg} {σ2' : St}, Rel X.K (some ⟨a, dd, i, c', fs, vs⟩) ρ2 H2 σ2 σ2' → Rel X.K none ρ2 H2 (σ2.set i none) (σ2'.set i none) := fun r2 => ⟨(r2.r.unset i).sw, fun _ q => by cases q⟩
              cases zz : exec { g with ex := some (c', fs, vs) } is (σ1.set i none) h1 with
              | nx σ2 h2 =>
                rw [zz] at p'
                exact fun ρ2 H2 σ2' q2 e2 rh2 rl2 => p' ρ2 H2 _ q2 e2 rh2.sw (un rl2)
              | bk σ2 h2 =>
                rw [zz] at p'
                exact fun ρ2 H2 σ2' q2 e2 rh2 rl2 => p' ρ2 H2 _ q2 e2 rh2.sw (un rl2)
              | ct σ2 h2 =>
                rw [zz] at p'
                exact fun ρ2 H2 σ2' q2 e2 rh2 rl2 => p' ρ2 H2 _ q2 e2 rh2.sw (un rl2)
              | rt d h2 =>
                rw [zz] at p'
                exact fun ρ2 H2 v2 q2 e2 rh2 rv2 => p' ρ2 H2 v2 q2 e2 rh2.sw rv2.sw
              | exc => rw [zz] at p'; exact p'.elim
              | bad => rw [zz] at p'; exact p'.elim
          · rw [if_neg hl] at p'; exact p'.elim
        · subst hb1
          exact p' ρ1 H1 σ' dd ys (List.prefix_refl _) (Ext.refl _) rh1 rl1 hdd hfs rv
end
end Ly
end
section
set_option Elab.async false
set_option linter.all false
set_option maxRecDepth 100000
set_option maxHeartbeats 1000000
/-! Ly13: the checker: does a program of the interpreter say what the text says. -/
namespace Ly
open PySem PySem.Spec PyProof.Rows L2
/-! ### equality of constants -/
mutual
def eqD : D → D → Bool
  | .non, .non => true
  | .bl a, .bl b => a == b
  | .int a, .int b => decide (a = b)
  | .str a, .str b => decide (a = b)
  | .tup xs, .tup ys => eqDs xs ys
  | .rol xs, .rol ys => eqDs xs ys
  | _, _ => false
def eqDs : List D → List D → Bool
  | [], [] => true
  | x :: xs, y :: ys => eqD x y && eqDs xs ys
  | _, _ => false
end
mutual
theorem eqD_ok : ∀ {x y : D}, eqD x y = true → x = y
  | .non, y, h => by cases y <;> first | rfl | cases h
  | .bl a, y, h => by
    cases y <;> try cases h
    rename_i b
    exact congrArg D.bl (eq_of_beq (show (a == b) = true from h))
  | .int a, y, h => by
    cases y <;> try cases h
    rename_i b
    exact congrArg D.int (of_decide_eq_true (show decide (a = b) = true from h))
  | .str a, y, h => by
    cases y <;> try cases h
    rename_i b
    exact congrArg D.str (of_decide_eq_true (show decide (a = b) = true from h))
  | .tup xs, y, h => by
    cases y <;> try cases h
    rename_i ys
    exact congrArg D.tup (eqDs_ok (show eqDs xs ys = true from h))
  | .rol xs, y, h => by
    cases y <;> try cases h
    rename_i ys
    exact congrArg D.rol (eqDs_ok (show eqDs xs ys = true from h))
  | .ref _, y, h => by cases y <;> cases h
  | .it _ _, y, h => by cases y <;> cases h
theorem eqDs_ok : ∀ {x y : List D}, eqDs x y = true → x = y
  | [], y, h => by cases y <;> first | rfl | cases h
  | x :: xs, y, h => by
    cases y with
    | nil => cases h
    | cons y ys =>
      obtain ⟨h1, h2⟩ := Bool.and_eq_true_iff.mp (show (eqD x y && eqDs xs ys) = true from h)
      rw [eqD_ok h1, eqDs_ok h2]
end
theorem btNm {a b : Bt} (h : a.name = b.name) : a = b := by cases a <;> cases b <;> first | rfl | (exact absurd h (by decide))
def eqBts : List Bt → List Bt → Bool
  | [], [] => true
  | a :: r, b :: s => decide (a.name = b.name) && eqBts r s
  | _, _ => false
theorem eqBts_ok : ∀ {a b : List Bt}, eqBts a b = true → a = b
  | [], [], _ => rfl
  | [], _ :: _, h => by cases h
  | _ :: _, [], h => by cases h
  | a :: r, b :: s, h => by
    obtain ⟨h1, h2⟩ := Bool.and_eq_true_iff.mp (show (decide (a.name = b.name) && eqBts r s) = true from h)
    rw [btNm (of_decide_eq_true h1), eqBts_ok h2]
/-! ### what is known of the text around -/
inductive GK where
  | fn (i : Nat) (f : FnI) | cst (d : D)
structure Sc where
  N : List Str
  names : List (Str × NameKind)
  G : List (Str × GK)
  free : List Str
  cls : List Str
  flds : List Str
  errs : List (Str × List Str)
  calm : Bool
  ei : Option Nat
  fcell : Str → Bool
def ClM (mg : Str → Option Value) (x : Str) (v : V) (u : Value) : Prop := (mg x = some u ∧ ∃ a, v = .ref a ∧ u = .ref a) ∨ (mg x = none ∧ bootBuiltins x = some u ∧ x ≠ "__name__" ∧ ∃ n, v = .ty n ∧ u = .type n)
theorem ClM.uniq {mg : Str → Option Value} {x : Str} {v v' : V} {u u' : Value} (h : ClM mg x v u) (h' : ClM mg x v' u') : u = u' := by
  rcases h with ⟨h, _⟩ | ⟨h, hb, _⟩ <;> rcases h' with ⟨h', _⟩ | ⟨h', hb', _⟩
  · rw [h] at h'; exact Option.some.inj h'
  · rw [h] at h'; cases h'
  · rw [h] at h'; cases h'
  · rw [hb] at hb'; exact Option.some.inj hb'
structure Stat (X : Cx) (xa : Xa) (W : WX) (g : Gs) (sc : Sc) : Prop where
  nd : X.N.Nodup
  N : X.N = sc.N
  names : X.env.scope.names = sc.names
  kind : X.env.scope.kind = .function
  fns : ∀ x, sc.fcell x = true → X.fn x = true
  gc : ∀ x d, sc.G.lookup x = some (.cst d) → ∃ v u, X.mg x = some u ∧ RelV v u ∧ ∀ ρ H, RepV X.K xa ρ H d v
  gf : sc.calm = true → ∀ x f i, sc.G.lookup x = some (.fn f i) → i.name = x ∧ CallOk X (g.cf f) i ∧ ∀ ds h, ds.length ≠ i.ps.length → g.cf f ds h = .bad
  free : ∀ x ∈ sc.free, X.mg x = none
  un : X.A.units + 65 < cLine
  calm : sc.calm = true → X.calm = true
  xn : sc.calm = true → xa = none
  tk : Takes X W
  su : SuiteOk X g.T xa
  ex : exOf xa = g.ex
  ei : ∀ r, xa = some r → sc.ei = some r.i
  cl : ∀ x ∈ sc.cls, (x == ("__debug__" : Str)) = false ∧ ∃ v u, ClM X.mg x v u ∧ TabC X.K g.T x u ∧ ∀ c' b, subOf g.T c' x = some b → PySem.W.exmOne X.K (.ref (He.ga X.K c')) u = some b
  ec : ∀ c' x b, subOf g.T c' x = some b → EcOk X.K c'
  fl : ∀ f ∈ sc.flds, ∀ c' x b, subOf g.T c' x = some b → PySem.W.findIn X.K (.ref (He.ga X.K c')) f = some none
  er : sc.calm = true → ∀ x fs, (x, fs) ∈ sc.errs → (x == ("__debug__" : Str)) = false ∧ X.mg x = some (.ref (He.ga X.K x)) ∧ ∃ fI k, LyE.SupT X.K X.mg X.prog (He.ga X.K x) fI fs ∧ Room k X.A
section
variable {X : Cx} {xa : Xa} {W : WX} {g : Gs} {sc : Sc}
theorem Stat.gl (S : Stat X xa W g sc) {x : Str} (h : sc.names.lookup x = some .globalImplicit) : Gl X x := by
  show X.env.scope.names.lookup x = _
  rw [S.names]; exact h
theorem Stat.xi (S : Stat X xa W g sc) {i : Nat} (h : sc.ei ≠ some i) : XaIx xa i := fun r hr hi => h (by rw [S.ei r hr, hi])
theorem Stat.cln (S : Stat X xa W g sc) {x : Str} (hx : x ∈ sc.cls) (h : sc.names.lookup x = some .globalImplicit) : ∃ v u, ClN X x v u ∧ TabC X.K g.T x u ∧ ∀ c' b, subOf g.T c' x = some b → PySem.W.exmOne X.K (.ref (He.ga X.K c')) u = some b := by
  obtain ⟨hd, v, u, hc, h1, h2⟩ := S.cl x hx
  exact ⟨v, u, ⟨S.gl h, hd, hc⟩, h1, h2⟩
end
/-! ### the checks of names -/
def glB (sc : Sc) (x : Str) : Bool := decide (sc.names.lookup x = some .globalImplicit)
def visB (sc : Sc) (x : Str) : Bool := decide (sc.names.lookup x = some .local) || (decide (sc.names.lookup x = some .cell) || decide (sc.names.lookup x = some .free))
def okN (x : Str) : Bool := !(x == ("__debug__" : Str)) && !(x == ("__classdict__" : Str))
def freeB (sc : Sc) (x : Str) : Bool := sc.free.contains x && glB sc x
def clsB (sc : Sc) (x : Str) : Bool := sc.cls.contains x && glB sc x
def clsL (sc : Sc) : List Expr → List Str → Bool
  | [], [] => true
  | .Name x _ :: es, y :: ys => decide (x = y) && clsB sc x && clsL sc es ys
  | _, _ => false
def cstB : Const → D → Bool
  | .none, .non => true
  | .bool b, .bl c => b == c
  | .int i, .int j => decide (i = j)
  | .str x, .str y => decide (x = y)
  | _, _ => false
def strip : Expr → Expr
  | .BoolOp _ [a] _ => a
  | e => e
def lookFn (sc : Sc) (x : Str) (f : Nat) : Option FnI := match sc.G.lookup x with
  | some (.fn f' i) => if f' = f then some i else none
  | _ => none
def lookC (sc : Sc) (x : Str) : Option D := match sc.G.lookup x with
  | some (.cst d) => some d
  | _ => none
def biNm : Bi → Option (Str × Bool)
  | .len => some ("len", false)
  | .int => some ("int", false)
  | .divmod => some ("divmod", false)
  | .list => some ("list", false)
  | .tuple => some ("tuple", false)
  | .any => some ("any", true)
  | .all => some ("all", true)
  | .sum => some ("sum", true)
  | .abs => some ("abs", false)
  | .max2 => some ("max", true)
  | .min2 => some ("min", true)
  | _ => none
def isOpen : CE → Bool
  | .cst (.it 9 []) => true
  | _ => false
def isYes : CE → Bool
  | .cst (.bl true) => true
  | _ => false
def isNilC : CE → Bool
  | .nil => true
  | _ => false
/-! ### targets -/
mutual
def chkP (sc : Sc) : Pat → Expr → Bool
  | .v i, e => (match e with
    | .Name x _ => decide (sc.N[i]? = some x) && ((decide (sc.names.lookup x = some .local) || (decide (sc.names.lookup x = some .cell) && sc.fcell x)) && decide (sc.ei ≠ some i))
    | _ => false)
  | .tup p, e => (match e with
    | .Tuple es _ _ => sc.calm && (notStars es && (decide (patLen p = some es.length) && chkPs sc p es))
    | _ => false)
  | .nil, _ => false
  | .cons _ _, _ => false
def chkPs (sc : Sc) : Pat → List Expr → Bool
  | .nil, es => es.isEmpty
  | .cons p r, es => (match es with
    | e :: es => notStar e && (chkP sc p e && chkPs sc r es)
    | [] => false)
  | .v _, _ => false
  | .tup _, _ => false
end
/-! ### blocks of comprehensions -/
def ownOf (sc : Sc) (p : Pat) : List (Str × Nat) := (slots p).map fun i => (sc.N.getD i Str.empty, i)
def blkB (sc : Sc) (scope : Scope) (p : Pat) : Bool :=
  decide (scope.kind = .function) && ((scope.names.all fun y => decide (scope.names.lookup y.1 = some y.2)) && (((ownOf sc p).all fun q => decide (sc.N[q.2]? = some q.1)) &&
    ((scope.names.all fun y => !decide (y.2 = .free) || (decide (sc.names.lookup y.1 = some .cell) || decide (sc.names.lookup y.1 = some .free))) &&
      scope.names.all fun y => !(decide (y.2 = .local) || decide (y.2 = .cell)) || (((ownOf sc p).map (·.1)).contains y.1 || !sc.N.contains y.1))))
def Sc.blk (sc : Sc) (scope : Scope) : Sc := { sc with names := scope.names.map fun (n, k) => if (k == NameKind.free && sc.names.lookup n == some .cell) then (n, NameKind.cell) else (n, k), fcell := fun x => scope.names.lookup x == some .cell }
theorem blkB_ok {sc : Sc} {scope : Scope} {p : Pat} {X : Cx} (hN : X.N = sc.N) (hn : X.env.scope.names = sc.names) (h : blkB sc scope p = true) : BlkOk X.N X.env.scope scope (ownOf sc p) ∧ (ownOf sc p).map (·.2) = slots p := by
  unfold blkB at h
  simp only [Bool.and_eq_true, List.all_eq_true, decide_eq_true_eq] at h
  obtain ⟨h1, h2, h3, h4, h5⟩ := h
  refine ⟨⟨h1, h2, fun q hq => by rw [hN]; exact h3 q hq, fun y hy e => ?_, fun y hy e => ?_⟩, ?_⟩
  · have z := h4 y hy
    rw [hn]
    simpa [e] using z
  · have z := h5 y hy
    rw [hN]
    rcases e with e | e <;> simpa [e] using z
  · unfold ownOf
    rw [List.map_map]
    exact (List.map_congr_left fun i _ => rfl).trans (List.map_id _)
section
variable {X : Cx} {xa : Xa} {W : WX} {g : Gs} {sc : Sc}
theorem Stat.blk (S : Stat X xa W g sc) (hc : sc.calm = true) {scope : Scope} (hk : scope.kind = .function) (s : Shared) (H : Hp) (C : Addr) (cl : List (Str × Addr)) (fp : List Addr) :
    Stat (X.blk s H scope (compEnvC scope cl C X.env) fp) xa (fun _ _ _ _ => False) g (sc.blk scope) where
  nd := S.nd
  N := S.N
  names := by
    show (relabel scope X.env).names = _
    unfold relabel Sc.blk Env.kindOf
    rw [S.kind, S.names]
    simp
  kind := hk
  fns := fun x h => h
  gc := S.gc
  gf := fun h x f i e => by
    obtain ⟨a, c, b⟩ := S.gf h x f i e
    exact ⟨a, ⟨c.mg, c.kp, c.fn⟩, b⟩
  free := S.free
  un := S.un
  calm := S.calm
  xn := S.xn
  tk := takes0
  su := fun r hr => by rw [S.xn hc] at hr; cases hr
  ex := S.ex
  ei := S.ei
  cl := S.cl
  ec := S.ec
  fl := S.fl
  er := S.er
end
/-! ### expressions, tests, argument lists, iterables -/
mutual
def chkE (sc : Sc) : CE → Expr → Bool
  | .var i, e => (match strip e with
    | .Name x _ => decide (sc.N[i]? = some x) && (visB sc x && okN x)
    | _ => false)
  | .cst d, e => (match strip e with
    | .Constant c _ _ => cstB c d
    | .Name x _ => glB sc x && (okN x && (match lookC sc x with
      | some d' => eqD d' d
      | none => false))
    | _ => false)
  | .bop o ca cb, e => (match strip e with
    | .BinOp a o' b _ => decide (o' = o) && (okBop o && (chkE sc ca a && chkE sc cb b))
    | _ => false)
  | .cmp o ca cb, e => (match strip e with
    | .Compare a [o'] [b] _ => decide (o' = o) && (notSet b && (chkE sc ca a && chkE sc cb b))
    | _ => false)
  | .chn o1 o2 ca cb cc, e => (match strip e with
    | .Compare a [p1, p2] [b, c] _ => decide (p1 = o1) && (decide (p2 = o2) && (notSet b && (notSet c && (chkE sc ca a && (chkE sc cb b && chkE sc cc c)))))
    | _ => false)
  | .neg ca, e => (match strip e with
    | .UnaryOp .USub a _ => chkE sc ca a
    | _ => false)
  | .not_ ca, e => (match strip e with
    | .UnaryOp .Not a _ => chkE sc ca a
    | _ => false)
  | .and_ ca cb, e => (match strip e with
    | .BoolOp .And (a :: b :: r) p => chkE sc ca a && chkE sc cb (.BoolOp .And (b :: r) p)
    | _ => false)
  | .or_ ca cb, e => (match strip e with
    | .BoolOp .Or (a :: b :: r) p => chkE sc ca a && chkE sc cb (.BoolOp .Or (b :: r) p)
    | _ => false)
  | .ite cc ca cb, e => (match strip e with
    | .IfExp c a b _ => chkT sc cc c && (chkE sc ca a && chkE sc cb b)
    | _ => false)
  | .tr _, _ => false
  | .nil, _ => false
  | .cons _ _, _ => false
  | .tup ca, e => (match strip e with
    | .Tuple es _ _ => chkL sc ca es
    | _ => false)
  | .lst ca, e => (match strip e with
    | .List es _ => chkL sc ca es
    | _ => false)
  | .call f ca, e => (match strip e with
    | .Call (.Name x _) args [] _ => sc.calm && (glB sc x && (okN x && ((lookFn sc x f).isSome && chkL sc ca args)))
    | _ => false)
  | .callk f q ca cb, e => (match strip e with
    | .Call (.Name x _) args kws _ => sc.calm && (glB sc x && (okN x && ((match lookFn sc x f with
      | some i => decide ((args.length, kwNames kws, q) ∈ i.kws)
      | none => false) && (kwAll kws && (decide (argsLen ca = some args.length) && (decide (argsLen cb = some (kwNames kws).length) && (chkL sc ca args && chkK sc cb kws)))))))
    | _ => false)
  | .bi b ca, e => (match strip e with
    | .Call (.Name x _) (a :: as) [] _ => freeB sc x && ((match biNm b with
      | some (y, c) => decide (x = y) && (!c || sc.calm)
      | none => false) && chkL sc ca (a :: as))
    | _ => false)
  | .mth m co ca, e => (match strip e with
    | .Call (.Attribute o m' apos) args [] pos => plainBase o && ((apos.endLine == pos.line) && (chkE sc co o && (chkL sc ca args && (match m, args with
      | .append, [b] => decide (m' = "append") && notStar b
      | .extend, [b] => decide (m' = "extend") && notStar b
      | .pop, [b] => decide (m' = "pop") && notStar b
      | .pop, [] => decide (m' = "pop")
      | .reverse, [] => decide (m' = "reverse")
      | _, _ => false))))
    | _ => false)
  | .isi ca ts, e => (match strip e with
    | .Call (.Name y _) [a, c] [] _ => decide (y = "isinstance") && (freeB sc y && (notStar a && (chkE sc ca a && (match c with
      | .Name x _ => (match btOf x with
        | some t => eqBts [t] ts && freeB sc x
        | none => false)
      | .Tuple es _ _ => (match btL es with
        | some qs => eqBts (qs.map (·.2)) ts && ((qs.all fun q => freeB sc q.1) && decide (qs.length ≤ 1000))
        | none => false)
      | _ => false))))
    | _ => false)
  | .isE cs, e => (match strip e with
    | .Call (.Name y _) [.Name n _, c] [] _ => decide (y = "isinstance") && (freeB sc y && (visB sc n && (okN n && ((match sc.ei with
      | some i => decide (sc.N[i]? = some n)
      | none => false) && (match c with
      | .Name x _ => (match cs with
        | [x'] => decide (x' = x) && clsB sc x
        | _ => false)
      | .Tuple es _ _ => clsL sc es cs && decide (cs.length ≤ 1000)
      | _ => false)))))
    | _ => false)
  | .sub ca ci, e => (match strip e with
    | .Subscript a i _ => notSlice i && (chkE sc ca a && chkE sc ci i)
    | _ => false)
  | .slc ca cl cu, e => (match strip e with
    | .Subscript a (.Slice lo hi none _) _ => chkE sc ca a && ((match lo with
      | none => isOpen cl
      | some l => chkE sc cl l) && (match hi with
      | none => isOpen cu
      | some u => chkE sc cu u))
    | _ => false)
  | .itr _ _, _ => false
  | .lc p ci cc ce, e => (match strip e with
    | .ListComp elt [⟨tg, it, ifs, 0⟩] scope _ => sc.calm && (chkI sc ci it && (plainIter it && (blkB sc scope p && (((slots p).all fun i => decide (sc.ei ≠ some i)) && (chkP (sc.blk scope) p tg && ((match ifs with
      | [] => isYes cc
      | [t] => chkT (sc.blk scope) cc t
      | _ => false) && chkE (sc.blk scope) ce elt))))))
    | _ => false)
  | .fld f, e => (match strip e with
    | .Attribute (.Name n _) f' _ => decide (f' = f) && (sc.flds.contains f && (visB sc n && (okN n && (match sc.ei with
      | some i => decide (sc.N[i]? = some n)
      | none => false))))
    | _ => false)
def chkT (sc : Sc) : CE → Expr → Bool
  | .cmp o ca cb, e => (match strip e with
    | .Compare a [o'] [b] _ => decide (o' = o) && (notSet b && (chkE sc ca a && chkE sc cb b))
    | _ => false)
  | .chn o1 o2 ca cb cc, e => (match strip e with
    | .Compare a [p1, p2] [b, c] _ => decide (p1 = o1) && (decide (p2 = o2) && (notSet b && (notSet c && (chkE sc ca a && (chkE sc cb b && chkE sc cc c)))))
    | _ => false)
  | .not_ ca, e => (match strip e with
    | .UnaryOp .Not a _ => chkT sc ca a
    | _ => false)
  | .and_ ca cb, e => (match strip e with
    | .BoolOp .And (a :: b :: r) p => chkT sc ca a && chkT sc cb (.BoolOp .And (b :: r) p)
    | _ => false)
  | .or_ ca cb, e => (match strip e with
    | .BoolOp .Or (a :: b :: r) p => chkT sc ca a && chkT sc cb (.BoolOp .Or (b :: r) p)
    | _ => false)
  | .tr ca, e => plainTest (strip e) && chkE sc ca (strip e)
  | _, _ => false
def chkL (sc : Sc) : CE → List Expr → Bool
  | .nil, es => es.isEmpty
  | .cons ca cr, es => (match es with
    | a :: r => notStar a && (chkE sc ca a && chkL sc cr r)
    | [] => false)
  | _, _ => false
def chkK (sc : Sc) : CE → List Keyword → Bool
  | .nil, es => es.isEmpty
  | .cons ca cr, es => (match es with
    | ⟨_, a, _⟩ :: r => chkE sc ca a && chkK sc cr r
    | [] => false)
  | _, _ => false
def chkI (sc : Sc) : CE → Expr → Bool
  | .itr k ca, e => (match k with
    | 0 => chkL sc ca [e]
    | 1 => (match e with
      | .Call (.Name x _) [a] [] _ => decide (x = "range") && (freeB sc x && (notStar a && chkL sc ca [a]))
      | _ => false)
    | 4 => (match e with
      | .Call (.Name x _) [a, b] [] _ => decide (x = "range") && (freeB sc x && (notStar a && (notStar b && chkL sc ca [a, b])))
      | _ => false)
    | _ => false)
  | _, _ => false
end
end Ly
end
section
set_option Elab.async false
set_option linter.all false
set_option maxRecDepth 100000
set_option maxHeartbeats 4000000
/-! Ly14: the checker is right (expressions). -/
namespace Ly
open PySem PySem.Spec PyProof.Rows L2
section
variable {X : Cx} {xa : Xa} {W : WX} {g : Gs} {sc : Sc}
theorem b2 {a b : Bool} (h : (a && b) = true) : a = true ∧ b = true := Bool.and_eq_true_iff.mp h
theorem glB_ok (S : Stat X xa W g sc) {x : Str} (h : glB sc x = true) : Gl X x := S.gl (of_decide_eq_true h)
theorem freeB_ok (S : Stat X xa W g sc) {x : Str} (h : freeB sc x = true) : Gl X x ∧ X.mg x = none := by
  obtain ⟨h1, h2⟩ := b2 h
  exact ⟨glB_ok S h2, S.free x (by simpa using h1)⟩
theorem visB_ok (S : Stat X xa W g sc) {x : Str} (h : visB sc x = true) : Vis X.env.scope x := by
  unfold visB at h
  simp only [Bool.or_eq_true, decide_eq_true_eq] at h
  unfold Vis
  rw [S.names]; exact h
theorem okN_ok {x : Str} (h : okN x = true) : (x == ("__debug__" : Str)) = false ∧ (x == ("__classdict__" : Str)) = false := by
  obtain ⟨h1, h2⟩ := b2 h
  exact ⟨by simpa using h1, by simpa using h2⟩
theorem nix (S : Stat X xa W g sc) {i : Nat} {x : Str} (h : decide (sc.N[i]? = some x) = true) : X.N[i]? = some x := by rw [S.N]; exact of_decide_eq_true h
theorem clsB_ok (S : Stat X xa W g sc) {x : Str} (h : clsB sc x = true) : ∃ v u, ClN X x v u ∧ TabC X.K g.T x u ∧ ∀ c' b, subOf g.T c' x = some b → PySem.W.exmOne X.K (.ref (He.ga X.K c')) u = some b := by
  obtain ⟨h1, h2⟩ := b2 h
  exact S.cln (by simpa using h1) (of_decide_eq_true h2)
theorem clsL_ok (S : Stat X xa W g sc) : ∀ {es : List Expr} {ys : List Str}, clsL sc es ys = true → ∃ vs us, ClL X es ys vs us ∧ ∀ x ∈ ys, clsB sc x = true
  | [], [], _ => ⟨[], [], .nil, fun _ h => by cases h⟩
  | [], _ :: _, h => by cases h
  | e :: es, [], h => by cases e <;> cases h
  | e :: es, y :: ys, h => by
    cases e with
    | Name x p =>
      obtain ⟨h1, h2⟩ := b2 (show (decide (x = y) && clsB sc x && clsL sc es ys) = true from h)
      obtain ⟨h3, h4⟩ := b2 h1
      have e := of_decide_eq_true h3
      subst e
      obtain ⟨vs, us, a, b⟩ := clsL_ok S h2
      obtain ⟨v, u, c, _⟩ := clsB_ok S h4
      exact ⟨v :: vs, u :: us, .cons c a, fun z hz => by
        rcases List.mem_cons.mp hz with rfl | hz
        · exact h4
        · exact b z hz⟩
    | _ => cases h
theorem strip_E {e : Expr} {f : Fn} (h : E1 X xa W (strip e) f) : E1 X xa W e f := by
  unfold strip at h
  split at h
  · exact pe_one h
  · exact h
theorem strip_T {e : Expr} {f : Fn} (h : T1 X xa W (strip e) f ∧ (∀ op vs p, strip e = .BoolOp op vs p → PW X (strip e) (semT X.K xa W f))) : T1 X xa W e f ∧ (∀ op vs p, e = .BoolOp op vs p → PW X e (semT X.K xa W f)) := by
  unfold strip at h
  split at h
  · rename_i op a p
    cases op with
    | And => exact ⟨(pw_and1 h.1).pt, fun _ _ _ _ => pw_and1 h.1⟩
    | Or => exact ⟨(pw_or1 h.1).pt, fun _ _ _ _ => pw_or1 h.1⟩
  · exact h
theorem lookFn_ok (S : Stat X xa W g sc) (hc : sc.calm = true) {x : Str} {f : Nat} {i : FnI} (h : lookFn sc x f = some i) : i.name = x ∧ CallOk X (g.cf f) i ∧ ∀ ds h, ds.length ≠ i.ps.length → g.cf f ds h = .bad := by
  unfold lookFn at h
  split at h
  · rename_i f' i' e
    split at h
    · rename_i ef
      cases h
      subst ef
      exact S.gf hc x _ _ e
    · cases h
  · cases h
theorem lookC_ok (S : Stat X xa W g sc) {x : Str} {d : D} (h : lookC sc x = some d) : ∃ v u, X.mg x = some u ∧ RelV v u ∧ ∀ ρ H, RepV X.K xa ρ H d v := by
  unfold lookC at h
  split at h
  · rename_i d' e
    cases h
    exact S.gc x _ e
  · cases h
/-! ### built-ins -/
theorem e_bi (S : Stat X xa W g sc) {b : Bi} {x y : Str} {c : Bool} {ca : CE} {a : Expr} {as : List Expr} {p pos : Pos} (hb : biNm b = some (y, c)) (hx : x = y) (hcalm : (!c || sc.calm) = true) (hf : freeB sc x = true) (ha : Ar X xa W (a :: as) (ev g ca)) (hs : notStars (a :: as) = true) :
    E1 X xa W (.Call (.Name x p) (a :: as) [] pos) (ev g (.bi b ca)) := by
  subst hx
  obtain ⟨h1, h2⟩ := freeB_ok S hf
  cases b <;> first | (cases hb; done) | (have e : _ = some (x, c) := hb; cases e; first
    | exact e_biB b_len h1 h2 (by decide +kernel) (by decide) (by decide) ha hs
    | exact e_biT b_int h1 h2 (by decide +kernel) (by decide) (by decide) ha hs
    | exact e_biB b_divmod h1 h2 (by decide +kernel) (by decide) (by decide) ha hs
    | exact e_biT b_list h1 h2 (by decide +kernel) (by decide) (by decide) ha hs
    | exact e_biT b_tuple h1 h2 (by decide +kernel) (by decide) (by decide) ha hs
    | exact e_biB (b_any (S.calm (by simpa using hcalm))) h1 h2 (by decide +kernel) (by decide) (by decide) ha hs
    | exact e_biB (b_all (S.calm (by simpa using hcalm))) h1 h2 (by decide +kernel) (by decide) (by decide) ha hs
    | exact e_biB (b_sum (S.calm (by simpa using hcalm))) h1 h2 (by decide +kernel) (by decide) (by decide) ha hs
    | exact e_biB b_abs h1 h2 (by decide +kernel) (by decide) (by decide) ha hs
    | exact e_biB (b_max2 (S.calm (by simpa using hcalm))) h1 h2 (by decide +kernel) (by decide) (by decide) ha hs
    | exact e_biB (b_min2 (S.calm (by simpa using hcalm))) h1 h2 (by decide +kernel) (by decide) (by decide) ha hs)
/-! ### targets -/
mutual
theorem okP (S : Stat X xa W g sc) : ∀ (p : Pat) {e : Expr}, chkP sc p e = true → G1 X xa e p
  | .v i, e, h => by
    cases e with
    | Name x pos =>
      obtain ⟨h1, h2⟩ := b2 (show (decide (sc.N[i]? = some x) && ((decide (sc.names.lookup x = some .local) || (decide (sc.names.lookup x = some .cell) && sc.fcell x)) && decide (sc.ei ≠ some i))) = true from h)
      obtain ⟨h2, h3⟩ := b2 h2
      simp only [Bool.or_eq_true, Bool.and_eq_true, decide_eq_true_eq] at h2
      refine g_v (S.xi (of_decide_eq_true h3)) S.nd (nix S h1) ?_ ?_
      · unfold L2.Loc
        rw [S.names]
        rcases h2 with z | ⟨z, _⟩
        · exact .inl z
        · exact .inr z
      · rw [S.names]
        rcases h2 with z | ⟨_, z⟩
        · exact .inr z
        · exact .inl (S.fns x z)
    | _ => cases h
  | .tup p, e, h => by
    cases e with
    | Tuple es k pos =>
      obtain ⟨h1, h2⟩ := b2 (show (sc.calm && (notStars es && (decide (patLen p = some es.length) && chkPs sc p es))) = true from h)
      obtain ⟨h2, h3⟩ := b2 h2
      obtain ⟨h3, h4⟩ := b2 h3
      exact g_tup (S.calm h1) (okPs S p h4) h2 (of_decide_eq_true h3)
    | _ => cases h
  | .nil, e, h => by cases h
  | .cons _ _, e, h => by cases h
theorem okPs (S : Stat X xa W g sc) : ∀ (p : Pat) {es : List Expr}, chkPs sc p es = true → Gs1 X xa es p
  | .nil, es, h => by
    cases es with
    | nil => exact gs_nil
    | cons => cases h
  | .cons p r, es, h => by
    cases es with
    | nil => cases h
    | cons e es =>
      obtain ⟨h1, h2⟩ := b2 (show (notStar e && (chkP sc p e && chkPs sc r es)) = true from h)
      obtain ⟨h2, h3⟩ := b2 h2
      exact gs_cons (okP S p h2) (okPs S r h3) h1
  | .v _, es, h => by cases h
  | .tup _, es, h => by cases h
end
theorem chkL_stars : ∀ {ca : CE} {es : List Expr}, chkL sc ca es = true → notStars es = true := by
  intro ca
  induction ca with
  | nil =>
    intro es h
    cases es with
    | nil => rfl
    | cons => cases h
  | cons a r _ ih =>
    intro es h
    cases es with
    | nil => cases h
    | cons e es =>
      obtain ⟨h1, h2⟩ := b2 (show (notStar e && (chkE sc a e && chkL sc r es)) = true from h)
      obtain ⟨_, h3⟩ := b2 h2
      show (notStar e && notStars es) = true
      rw [h1, ih h3]; rfl
  | _ => intro es h; cases h
end
end Ly
end
section
set_option Elab.async false
set_option linter.all false
set_option maxRecDepth 100000
set_option maxHeartbeats 8000000
/-! Ly15: the checker is right (expressions, tests, lists, iterables). -/
namespace Ly
open PySem PySem.Spec PyProof.Rows L2
mutual
theorem okE : ∀ (ce : CE) {X : Cx} {xa : Xa} {W : WX} {g : Gs} {sc : Sc} {e : Expr}, Stat X xa W g sc → chkE sc ce e = true → E1 X xa W e (ev g ce)
  | .var i, X, xa, W, g, sc, e, S, h => by
    refine strip_E ?_
    unfold chkE at h
    split at h
    · rename_i x p he
      rw [he]
      obtain ⟨h1, h2⟩ := b2 h
      obtain ⟨h2, h3⟩ := b2 h2
      exact e_var (nix S h1) (visB_ok S h2) (okN_ok h3).1 (okN_ok h3).2
    · cases h
  | .cst d, X, xa, W, g, sc, e, S, h => by
    refine strip_E ?_
    unfold chkE at h
    split at h
    · rename_i c k p he
      rw [he]
      cases c <;> cases d <;> first
        | (cases h; done)
        | exact e_cst pe_non fun _ _ => .non
        | (rename_i b c; obtain rfl : b = c := eq_of_beq (show (b == c) = true from h); exact e_cst pe_bl fun _ _ => .bl _)
        | (rename_i b c; obtain rfl : b = c := of_decide_eq_true (show decide (b = c) = true from h); first
          | exact e_cst pe_int fun _ _ => .int _
          | exact e_cst pe_str fun _ _ => .str _)
    · rename_i x p he
      rw [he]
      obtain ⟨h1, h⟩ := b2 h
      obtain ⟨hh, h3⟩ := b2 h
      split at h3
      · rename_i d' hd
        obtain rfl := eqD_ok h3
        obtain ⟨v, u, m, r, q⟩ := lookC_ok S hd
        exact e_cst (pe_glob (glB_ok S h1) m r (okN_ok hh).1) q
      · cases h3
    · cases h
  | .bop o ca cb, X, xa, W, g, sc, e, S, h => by
    refine strip_E ?_
    unfold chkE at h
    split at h
    · rename_i a o' b p he
      rw [he]
      obtain ⟨h1, h2⟩ := b2 h
      obtain ⟨h2, h3⟩ := b2 h2
      obtain ⟨h3, h4⟩ := b2 h3
      obtain rfl := of_decide_eq_true h1
      exact e_bop (bop_ok h2) (okE ca S h3) (okE cb S h4)
    · cases h
  | .cmp o ca cb, X, xa, W, g, sc, e, S, h => by
    refine strip_E ?_
    unfold chkE at h
    split at h
    · rename_i a o' b p he
      rw [he]
      obtain ⟨h1, h2⟩ := b2 h
      obtain ⟨h2, h3⟩ := b2 h2
      obtain ⟨h3, h4⟩ := b2 h3
      obtain rfl := of_decide_eq_true h1
      exact e_cmp (cmp_ok _ S.un) (okE ca S h3) (okE cb S h4) (mark_of h2 _)
    · cases h
  | .chn o1 o2 ca cb cc, X, xa, W, g, sc, e, S, h => by
    refine strip_E ?_
    unfold chkE at h
    split at h
    · rename_i a p1 p2 b c p he
      rw [he]
      obtain ⟨h1, h⟩ := b2 h
      obtain ⟨h2, h⟩ := b2 h
      obtain ⟨h3, h⟩ := b2 h
      obtain ⟨h4, h⟩ := b2 h
      obtain ⟨h5, h⟩ := b2 h
      obtain ⟨h6, h7⟩ := b2 h
      obtain rfl := of_decide_eq_true h1
      obtain rfl := of_decide_eq_true h2
      exact e_chn (cmp_ok _ S.un) (cmp_ok _ S.un) (okE ca S h5) (okE cb S h6) (okE cc S h7) (marks_of h3 h4 _ _)
    · cases h
  | .neg ca, X, xa, W, g, sc, e, S, h => by
    refine strip_E ?_
    unfold chkE at h
    split at h
    · rename_i a p he
      rw [he]
      exact e_neg (okE ca S h)
    · cases h
  | .not_ ca, X, xa, W, g, sc, e, S, h => by
    refine strip_E ?_
    unfold chkE at h
    split at h
    · rename_i a p he
      rw [he]
      exact e_not (okE ca S h)
    · cases h
  | .and_ ca cb, X, xa, W, g, sc, e, S, h => by
    refine strip_E ?_
    unfold chkE at h
    split at h
    · rename_i a b r p he
      rw [he]
      obtain ⟨h1, h2⟩ := b2 h
      exact e_and (okE ca S h1) (okE cb S h2)
    · cases h
  | .or_ ca cb, X, xa, W, g, sc, e, S, h => by
    refine strip_E ?_
    unfold chkE at h
    split at h
    · rename_i a b r p he
      rw [he]
      obtain ⟨h1, h2⟩ := b2 h
      exact e_or (okE ca S h1) (okE cb S h2)
    · cases h
  | .ite cc ca cb, X, xa, W, g, sc, e, S, h => by
    refine strip_E ?_
    unfold chkE at h
    split at h
    · rename_i c a b p he
      rw [he]
      obtain ⟨h1, h2⟩ := b2 h
      obtain ⟨h2, h3⟩ := b2 h2
      exact e_ite (okT cc S h1).1 (okE ca S h2) (okE cb S h3)
    · cases h
  | .tr _, X, xa, W, g, sc, e, S, h => by unfold chkE at h; cases h
  | .nil, X, xa, W, g, sc, e, S, h => by unfold chkE at h; cases h
  | .cons _ _, X, xa, W, g, sc, e, S, h => by unfold chkE at h; cases h
  | .tup ca, X, xa, W, g, sc, e, S, h => by
    refine strip_E ?_
    unfold chkE at h
    split at h
    · rename_i es k p he
      rw [he]
      exact e_tup (okL ca S h)
    · cases h
  | .lst ca, X, xa, W, g, sc, e, S, h => by
    refine strip_E ?_
    unfold chkE at h
    split at h
    · rename_i es p he
      rw [he]
      exact e_lst (okL ca S h)
    · cases h
  | .call f ca, X, xa, W, g, sc, e, S, h => by
    refine strip_E ?_
    unfold chkE at h
    split at h
    · rename_i x p args pos he
      rw [he]
      obtain ⟨h1, h⟩ := b2 h
      obtain ⟨h2, h⟩ := b2 h
      obtain ⟨h3, h⟩ := b2 h
      obtain ⟨h4, h5⟩ := b2 h
      obtain ⟨i, hi⟩ := Option.isSome_iff_exists.mp h4
      obtain ⟨rfl, C, hn⟩ := lookFn_ok S h1 hi
      have hxa := S.xn h1
      subst hxa
      cases args with
      | nil =>
        cases ca <;> first
          | exact e_call0 C hn S.tk (glB_ok S h2) (okN_ok h3).1
          | (unfold chkL at h5; cases h5)
      | cons a as => exact e_call C hn S.tk (glB_ok S h2) (okN_ok h3).1 (okL ca S h5) (chkL_stars h5)
    · cases h
  | .callk f q ca cb, X, xa, W, g, sc, e, S, h => by
    refine strip_E ?_
    unfold chkE at h
    split at h
    · rename_i x p args kws pos he
      rw [he]
      obtain ⟨h1, h⟩ := b2 h
      obtain ⟨h2, h⟩ := b2 h
      obtain ⟨h3, h⟩ := b2 h
      obtain ⟨h4, h⟩ := b2 h
      obtain ⟨h5, h⟩ := b2 h
      obtain ⟨h6, h⟩ := b2 h
      obtain ⟨h7, h⟩ := b2 h
      obtain ⟨h8, h9⟩ := b2 h
      have hxa := S.xn h1
      subst hxa
      split at h4
      · rename_i i hi
        obtain ⟨rfl, C, hn⟩ := lookFn_ok S h1 hi
        have hk := of_decide_eq_true h4
        cases args with
        | nil =>
          cases ca <;> first
            | exact e_callk0 C hn S.tk (glB_ok S h2) (okN_ok h3).1 hk (okK cb S h9) h5 (of_decide_eq_true h7)
            | (unfold chkL at h8; cases h8)
        | cons a as => exact e_callk C hn S.tk (glB_ok S h2) (okN_ok h3).1 hk (okL ca S h8) (okK cb S h9) h5 (chkL_stars h8) (of_decide_eq_true h6) (of_decide_eq_true h7)
      · cases h4
    · cases h
  | .bi b ca, X, xa, W, g, sc, e, S, h => by
    refine strip_E ?_
    unfold chkE at h
    split at h
    · rename_i x p a as pos he
      rw [he]
      obtain ⟨h1, h⟩ := b2 h
      obtain ⟨h2, h3⟩ := b2 h
      split at h2
      · rename_i y c hb
        obtain ⟨h4, h5⟩ := b2 h2
        exact e_bi S hb (of_decide_eq_true h4) h5 h1 (okL ca S h3) (chkL_stars h3)
      · cases h2
    · cases h
  | .mth m co ca, X, xa, W, g, sc, e, S, h => by
    refine strip_E ?_
    unfold chkE at h
    split at h
    · rename_i o m' apos args pos he
      rw [he]
      obtain ⟨h1, h⟩ := b2 h
      obtain ⟨h2, h⟩ := b2 h
      obtain ⟨h3, h⟩ := b2 h
      obtain ⟨h4, h5⟩ := b2 h
      have hE := okE co S h3
      have hL := okL ca S h4
      split at h5
      · obtain ⟨h6, h7⟩ := b2 h5
        obtain rfl := of_decide_eq_true h6
        exact e_append hE hL h1 h7 h2
      · obtain ⟨h6, h7⟩ := b2 h5
        obtain rfl := of_decide_eq_true h6
        exact e_extend hE hL h1 h7 h2
      · obtain ⟨h6, h7⟩ := b2 h5
        obtain rfl := of_decide_eq_true h6
        rename_i b
        cases ca with
        | cons cb cr =>
          have z := h4
          unfold chkL at z
          obtain ⟨_, z⟩ := b2 z
          obtain ⟨_, z⟩ := b2 z
          cases cr <;> first
            | exact e_pop1 hE hL h1 h7 h2
            | (unfold chkL at z; cases z)
        | _ => unfold chkL at h4; cases h4
      · obtain rfl := of_decide_eq_true h5
        cases ca <;> first
          | exact e_pop0 hE h1 h2
          | (unfold chkL at h4; cases h4)
      · obtain rfl := of_decide_eq_true h5
        cases ca <;> first
          | exact e_reverse hE h1 h2
          | (unfold chkL at h4; cases h4)
      · cases h5
    · cases h
  | .isi ca ts, X, xa, W, g, sc, e, S, h => by
    refine strip_E ?_
    unfold chkE at h
    split at h
    · rename_i y p a c pos he
      rw [he]
      obtain ⟨h1, h⟩ := b2 h
      obtain ⟨h2, h⟩ := b2 h
      obtain ⟨h3, h⟩ := b2 h
      obtain ⟨h4, h5⟩ := b2 h
      obtain rfl := of_decide_eq_true h1
      have hE := okE ca S h4
      obtain ⟨f1, f2⟩ := freeB_ok S h2
      split at h5
      · rename_i x p2
        split at h5
        · rename_i t ht
          obtain ⟨h6, h7⟩ := b2 h5
          obtain rfl := eqBts_ok h6
          obtain ⟨f3, f4⟩ := freeB_ok S h7
          exact e_isi1 f1 f2 hE h3 ht f3 f4
        · cases h5
      · rename_i es k p2
        split at h5
        · rename_i qs hq
          obtain ⟨h6, h7⟩ := b2 h5
          obtain ⟨h7, h8⟩ := b2 h7
          obtain rfl := eqBts_ok h6
          exact e_isiT f1 f2 hE h3 hq (fun q hq' => freeB_ok S (List.all_eq_true.mp h7 q hq')) (of_decide_eq_true h8)
        · cases h5
      · cases h5
    · cases h
  | .isE cs, X, xa, W, g, sc, e, S, h => by
    refine strip_E ?_
    unfold chkE at h
    split at h
    · rename_i y p n p1 c pos he
      rw [he]
      obtain ⟨h1, h⟩ := b2 h
      obtain ⟨h2, h⟩ := b2 h
      obtain ⟨h3, h⟩ := b2 h
      obtain ⟨h4, h⟩ := b2 h
      obtain ⟨h5, h6⟩ := b2 h
      obtain rfl := of_decide_eq_true h1
      obtain ⟨f1, f2⟩ := freeB_ok S h2
      split at h5
      · rename_i i hi
        have hix : ∀ r, xa = some r → r.i = i := fun r hr => by
          have := S.ei r hr
          rw [hi] at this
          exact (Option.some.inj this).symm
        split at h6
        · rename_i x p2
          split at h6
          · rename_i x'
            obtain ⟨h7, h8⟩ := b2 h6
            obtain rfl := of_decide_eq_true h7
            obtain ⟨v, u, c1, c2, _⟩ := clsB_ok S h8
            exact e_isE1 S.su S.ex hix (nix S h5) (visB_ok S h3) (okN_ok h4).1 (okN_ok h4).2 f1 f2 c1 c2
          · cases h6
        · rename_i es k p2
          obtain ⟨h7, h8⟩ := b2 h6
          obtain ⟨vs, us, c1, c2⟩ := clsL_ok S h7
          refine e_isET S.su S.ex hix (nix S h5) (visB_ok S h3) (okN_ok h4).1 (okN_ok h4).2 f1 f2 c1 (fun x u v hx hc => ?_) (of_decide_eq_true h8)
          obtain ⟨v', u', c3, c4, _⟩ := clsB_ok S (c2 x hx)
          have e : u = u' := ClM.uniq (v := v) (v' := v') hc.2.2 c3.2.2
          rw [e]; exact c4
        · cases h6
      · cases h5
    · cases h
  | .sub ca ci, X, xa, W, g, sc, e, S, h => by
    refine strip_E ?_
    unfold chkE at h
    split at h
    · rename_i a i p he
      rw [he]
      obtain ⟨h1, h⟩ := b2 h
      obtain ⟨h2, h3⟩ := b2 h
      exact e_sub (okE ca S h2) (okE ci S h3) h1
    · cases h
  | .slc ca cl cu, X, xa, W, g, sc, e, S, h => by
    refine strip_E ?_
    unfold chkE at h
    split at h
    · rename_i a lo hi p2 p he
      rw [he]
      obtain ⟨h1, h⟩ := b2 h
      obtain ⟨h2, h3⟩ := b2 h
      have op : ∀ {c : CE}, isOpen c = true → c = .cst (.it 9 []) := fun {c} z => by
        unfold isOpen at z
        split at z
        · rfl
        · cases z
      refine e_slc (okE ca S h1) ?_ ?_
      · cases lo with
        | none =>
          rw [op h2]
          exact o_none
        | some l => exact o_some (okE cl S h2)
      · cases hi with
        | none =>
          rw [op h3]
          exact o_none
        | some l => exact o_some (okE cu S h3)
    · cases h
  | .itr _ _, X, xa, W, g, sc, e, S, h => by unfold chkE at h; cases h
  | .lc p ci cc ce, X, xa, W, g, sc, e, S, h => by
    refine strip_E ?_
    unfold chkE at h
    split at h
    · rename_i elt tg it ifs scope pos he
      rw [he]
      obtain ⟨h1, h⟩ := b2 h
      obtain ⟨h2, h⟩ := b2 h
      obtain ⟨h3, h⟩ := b2 h
      obtain ⟨h4, h⟩ := b2 h
      obtain ⟨h5, h⟩ := b2 h
      obtain ⟨h6, h⟩ := b2 h
      obtain ⟨h7, h8⟩ := b2 h
      obtain ⟨k1, k2⟩ := blkB_ok S.N S.names h4
      have hk : scope.kind = .function := k1.kind
      refine e_lcE (own := ownOf sc p) (S.calm h1) S.nd (okI ci (tg := tg) S h2) k1 (fun s H C cl fp => okP (S.blk h1 hk s H C cl fp) p h6) (fun s H C cl fp => ?_) (fun s H C cl fp => okE ce (S.blk h1 hk s H C cl fp) h8) h3 k2 (fun v hv => S.xi (of_decide_eq_true (List.all_eq_true.mp h5 v hv)))
      split at h7
      · have op : cc = .cst (.bl true) := by
          unfold isYes at h7
          split at h7
          · rfl
          · cases h7
        subst op
        refine ⟨fun pins s0 σ H0 Q I hq => pts_nil.run pins s0 σ H0 Q I ?_⟩
        obtain ⟨ρ, σd, hh, rl, rh, q⟩ := hq
        obtain ⟨b, e1, q⟩ := Post.okv q rh (.bl true)
        cases e1
        exact q
      · exact pts_one (okT cc (S.blk h1 hk s H C cl fp) h7).1
      · cases h7
    · cases h
  | .fld f, X, xa, W, g, sc, e, S, h => by
    refine strip_E ?_
    unfold chkE at h
    split at h
    · rename_i n p1 f' p he
      rw [he]
      obtain ⟨h1, h⟩ := b2 h
      obtain ⟨h2, h⟩ := b2 h
      obtain ⟨h3, h⟩ := b2 h
      obtain ⟨h4, h5⟩ := b2 h
      obtain rfl := of_decide_eq_true h1
      split at h5
      · rename_i i hi
        exact e_fld S.su S.ex (fun r hr => by
          have := S.ei r hr
          rw [hi] at this
          exact (Option.some.inj this).symm) (nix S h5) (visB_ok S h3) (okN_ok h4).1 (okN_ok h4).2 (S.fl _ (by simpa using h2))
      · cases h5
    · cases h
theorem okT : ∀ (ce : CE) {X : Cx} {xa : Xa} {W : WX} {g : Gs} {sc : Sc} {e : Expr}, Stat X xa W g sc → chkT sc ce e = true → T1 X xa W e (ev g ce) ∧ (∀ op vs p, e = .BoolOp op vs p → PW X e (semT X.K xa W (ev g ce)))
  | .cmp o ca cb, X, xa, W, g, sc, e, S, h => by
    refine strip_T ?_
    unfold chkT at h
    split at h
    · rename_i a o' b p he
      rw [he]
      obtain ⟨h1, h2⟩ := b2 h
      obtain ⟨h2, h3⟩ := b2 h2
      obtain ⟨h3, h4⟩ := b2 h3
      obtain rfl := of_decide_eq_true h1
      exact ⟨t_cmp (cmp_ok _ S.un) (okE ca S h3) (okE cb S h4) (mark_of h2 _), fun _ _ _ z => by cases z⟩
    · cases h
  | .chn o1 o2 ca cb cc, X, xa, W, g, sc, e, S, h => by
    refine strip_T ?_
    unfold chkT at h
    split at h
    · rename_i a p1 p2 b c p he
      rw [he]
      obtain ⟨h1, h⟩ := b2 h
      obtain ⟨h2, h⟩ := b2 h
      obtain ⟨h3, h⟩ := b2 h
      obtain ⟨h4, h⟩ := b2 h
      obtain ⟨h5, h⟩ := b2 h
      obtain ⟨h6, h7⟩ := b2 h
      obtain rfl := of_decide_eq_true h1
      obtain rfl := of_decide_eq_true h2
      exact ⟨t_chn (cmp_ok _ S.un) (cmp_ok _ S.un) (okE ca S h5) (okE cb S h6) (okE cc S h7) (marks_of h3 h4 _ _), fun _ _ _ z => by cases z⟩
    · cases h
  | .not_ ca, X, xa, W, g, sc, e, S, h => by
    refine strip_T ?_
    unfold chkT at h
    split at h
    · rename_i a p he
      rw [he]
      exact ⟨t_not (okT ca S h).1, fun _ _ _ z => by cases z⟩
    · cases h
  | .and_ ca cb, X, xa, W, g, sc, e, S, h => by
    refine strip_T ?_
    unfold chkT at h
    split at h
    · rename_i a b r p he
      rw [he]
      obtain ⟨h1, h2⟩ := b2 h
      have w := w_and (okT ca S h1).1 ((okT cb S h2).2 _ _ _ rfl)
      exact ⟨w.pt, fun _ _ _ _ => w⟩
    · cases h
  | .or_ ca cb, X, xa, W, g, sc, e, S, h => by
    refine strip_T ?_
    unfold chkT at h
    split at h
    · rename_i a b r p he
      rw [he]
      obtain ⟨h1, h2⟩ := b2 h
      have w := w_or (okT ca S h1).1 ((okT cb S h2).2 _ _ _ rfl)
      exact ⟨w.pt, fun _ _ _ _ => w⟩
    · cases h
  | .tr ca, X, xa, W, g, sc, e, S, h => by
    refine strip_T ?_
    unfold chkT at h
    obtain ⟨h1, h2⟩ := b2 h
    refine ⟨t_val (okE ca S h2) (fun whole => test_of h1 _ _), fun op vs p z => ?_⟩
    rw [z] at h1
    cases h1
  | .var _, X, xa, W, g, sc, e, S, h => by unfold chkT at h; cases h
  | .cst _, X, xa, W, g, sc, e, S, h => by unfold chkT at h; cases h
  | .bop _ _ _, X, xa, W, g, sc, e, S, h => by unfold chkT at h; cases h
  | .neg _, X, xa, W, g, sc, e, S, h => by unfold chkT at h; cases h
  | .ite _ _ _, X, xa, W, g, sc, e, S, h => by unfold chkT at h; cases h
  | .nil, X, xa, W, g, sc, e, S, h => by unfold chkT at h; cases h
  | .cons _ _, X, xa, W, g, sc, e, S, h => by unfold chkT at h; cases h
  | .tup _, X, xa, W, g, sc, e, S, h => by unfold chkT at h; cases h
  | .lst _, X, xa, W, g, sc, e, S, h => by unfold chkT at h; cases h
  | .call _ _, X, xa, W, g, sc, e, S, h => by unfold chkT at h; cases h
  | .callk _ _ _ _, X, xa, W, g, sc, e, S, h => by unfold chkT at h; cases h
  | .bi _ _, X, xa, W, g, sc, e, S, h => by unfold chkT at h; cases h
  | .mth _ _ _, X, xa, W, g, sc, e, S, h => by unfold chkT at h; cases h
  | .isi _ _, X, xa, W, g, sc, e, S, h => by unfold chkT at h; cases h
  | .isE _, X, xa, W, g, sc, e, S, h => by unfold chkT at h; cases h
  | .sub _ _, X, xa, W, g, sc, e, S, h => by unfold chkT at h; cases h
  | .slc _ _ _, X, xa, W, g, sc, e, S, h => by unfold chkT at h; cases h
  | .itr _ _, X, xa, W, g, sc, e, S, h => by unfold chkT at h; cases h
  | .lc _ _ _ _, X, xa, W, g, sc, e, S, h => by unfold chkT at h; cases h
  | .fld _, X, xa, W, g, sc, e, S, h => by unfold chkT at h; cases h
theorem okL : ∀ (ce : CE) {X : Cx} {xa : Xa} {W : WX} {g : Gs} {sc : Sc} {es : List Expr}, Stat X xa W g sc → chkL sc ce es = true → Ar X xa W es (ev g ce)
  | .nil, X, xa, W, g, sc, es, S, h => by
    cases es with
    | nil => exact a_nil
    | cons => unfold chkL at h; cases h
  | .cons ca cr, X, xa, W, g, sc, es, S, h => by
    cases es with
    | nil => unfold chkL at h; cases h
    | cons e es =>
      unfold chkL at h
      obtain ⟨h1, h2⟩ := b2 h
      obtain ⟨h2, h3⟩ := b2 h2
      exact a_cons (okE ca S h2) (okL cr S h3) h1
  | .var _, X, xa, W, g, sc, e, S, h => by unfold chkL at h; cases h
  | .cst _, X, xa, W, g, sc, e, S, h => by unfold chkL at h; cases h
  | .bop _ _ _, X, xa, W, g, sc, e, S, h => by unfold chkL at h; cases h
  | .cmp _ _ _, X, xa, W, g, sc, e, S, h => by unfold chkL at h; cases h
  | .chn _ _ _ _ _, X, xa, W, g, sc, e, S, h => by unfold chkL at h; cases h
  | .neg _, X, xa, W, g, sc, e, S, h => by unfold chkL at h; cases h
  | .not_ _, X, xa, W, g, sc, e, S, h => by unfold chkL at h; cases h
  | .and_ _ _, X, xa, W, g, sc, e, S, h => by unfold chkL at h; cases h
  | .or_ _ _, X, xa, W, g, sc, e, S, h => by unfold chkL at h; cases h
  | .tr _, X, xa, W, g, sc, e, S, h => by unfold chkL at h; cases h
  | .ite _ _ _, X, xa, W, g, sc, e, S, h => by unfold chkL at h; cases h
  | .tup _, X, xa, W, g, sc, e, S, h => by unfold chkL at h; cases h
  | .lst _, X, xa, W, g, sc, e, S, h => by unfold chkL at h; cases h
  | .call _ _, X, xa, W, g, sc, e, S, h => by unfold chkL at h; cases h
  | .callk _ _ _ _, X, xa, W, g, sc, e, S, h => by unfold chkL at h; cases h
  | .bi _ _, X, xa, W, g, sc, e, S, h => by unfold chkL at h; cases h
  | .mth _ _ _, X, xa, W, g, sc, e, S, h => by unfold chkL at h; cases h
  | .isi _ _, X, xa, W, g, sc, e, S, h => by unfold chkL at h; cases h
  | .isE _, X, xa, W, g, sc, e, S, h => by unfold chkL at h; cases h
  | .sub _ _, X, xa, W, g, sc, e, S, h => by unfold chkL at h; cases h
  | .slc _ _ _, X, xa, W, g, sc, e, S, h => by unfold chkL at h; cases h
  | .itr _ _, X, xa, W, g, sc, e, S, h => by unfold chkL at h; cases h
  | .lc _ _ _ _, X, xa, W, g, sc, e, S, h => by unfold chkL at h; cases h
  | .fld _, X, xa, W, g, sc, e, S, h => by unfold chkL at h; cases h
theorem okK : ∀ (ce : CE) {X : Cx} {xa : Xa} {W : WX} {g : Gs} {sc : Sc} {es : List Keyword}, Stat X xa W g sc → chkK sc ce es = true → Kr X xa W es (ev g ce)
  | .nil, X, xa, W, g, sc, es, S, h => by
    cases es with
    | nil => exact k_nil
    | cons => unfold chkK at h; cases h
  | .cons ca cr, X, xa, W, g, sc, es, S, h => by
    cases es with
    | nil => unfold chkK at h; cases h
    | cons k es =>
      obtain ⟨n, e, p⟩ := k
      unfold chkK at h
      obtain ⟨h1, h2⟩ := b2 h
      exact k_cons (okE ca S h1) (okK cr S h2)
  | .var _, X, xa, W, g, sc, e, S, h => by unfold chkK at h; cases h
  | .cst _, X, xa, W, g, sc, e, S, h => by unfold chkK at h; cases h
  | .bop _ _ _, X, xa, W, g, sc, e, S, h => by unfold chkK at h; cases h
  | .cmp _ _ _, X, xa, W, g, sc, e, S, h => by unfold chkK at h; cases h
  | .chn _ _ _ _ _, X, xa, W, g, sc, e, S, h => by unfold chkK at h; cases h
  | .neg _, X, xa, W, g, sc, e, S, h => by unfold chkK at h; cases h
  | .not_ _, X, xa, W, g, sc, e, S, h => by unfold chkK at h; cases h
  | .and_ _ _, X, xa, W, g, sc, e, S, h => by unfold chkK at h; cases h
  | .or_ _ _, X, xa, W, g, sc, e, S, h => by unfold chkK at h; cases h
  | .tr _, X, xa, W, g, sc, e, S, h => by unfold chkK at h; cases h
  | .ite _ _ _, X, xa, W, g, sc, e, S, h => by unfold chkK at h; cases h
  | .tup _, X, xa, W, g, sc, e, S, h => by unfold chkK at h; cases h
  | .lst _, X, xa, W, g, sc, e, S, h => by unfold chkK at h; cases h
  | .call _ _, X, xa, W, g, sc, e, S, h => by unfold chkK at h; cases h
  | .callk _ _ _ _, X, xa, W, g, sc, e, S, h => by unfold chkK at h; cases h
  | .bi _ _, X, xa, W, g, sc, e, S, h => by unfold chkK at h; cases h
  | .mth _ _ _, X, xa, W, g, sc, e, S, h => by unfold chkK at h; cases h
  | .isi _ _, X, xa, W, g, sc, e, S, h => by unfold chkK at h; cases h
  | .isE _, X, xa, W, g, sc, e, S, h => by unfold chkK at h; cases h
  | .sub _ _, X, xa, W, g, sc, e, S, h => by unfold chkK at h; cases h
  | .slc _ _ _, X, xa, W, g, sc, e, S, h => by unfold chkK at h; cases h
  | .itr _ _, X, xa, W, g, sc, e, S, h => by unfold chkK at h; cases h
  | .lc _ _ _ _, X, xa, W, g, sc, e, S, h => by unfold chkK at h; cases h
  | .fld _, X, xa, W, g, sc, e, S, h => by unfold chkK at h; cases h
theorem okI : ∀ (ce : CE) {X : Cx} {xa : Xa} {W : WX} {g : Gs} {sc : Sc} {tg e : Expr}, Stat X xa W g sc → chkI sc ce e = true → I1 X xa W tg e (ev g ce)
  | .itr k ca, X, xa, W, g, sc, tg, e, S, h => by
    unfold chkI at h
    split at h
    · cases ca with
      | cons cb cr =>
        unfold chkL at h
        obtain ⟨h1, h⟩ := b2 h
        obtain ⟨hh, h3⟩ := b2 h
        have hE := okE cb S hh
        cases cr <;> first
          | exact i_seq hE
          | (unfold chkL at h3; cases h3)
      | _ => unfold chkL at h; cases h
    · split at h
      · rename_i x p a pos
        obtain ⟨h1, h⟩ := b2 h
        obtain ⟨h2, h⟩ := b2 h
        obtain ⟨h3, h4⟩ := b2 h
        obtain rfl := of_decide_eq_true h1
        obtain ⟨f1, f2⟩ := freeB_ok S h2
        exact i_rng1 f1 f2 (okL ca S h4) h3
      · cases h
    · split at h
      · rename_i x p a b pos
        obtain ⟨h1, h⟩ := b2 h
        obtain ⟨h2, h⟩ := b2 h
        obtain ⟨h3, h⟩ := b2 h
        obtain ⟨h4, h5⟩ := b2 h
        obtain rfl := of_decide_eq_true h1
        obtain ⟨f1, f2⟩ := freeB_ok S h2
        exact i_rng2 f1 f2 (okL ca S h5) h3 h4
      · cases h
    · cases h
  | .nil, X, xa, W, g, sc, tg, e, S, h => by unfold chkI at h; cases h
  | .cons _ _, X, xa, W, g, sc, tg, e, S, h => by unfold chkI at h; cases h
  | .var _, X, xa, W, g, sc, tg, e, S, h => by unfold chkI at h; cases h
  | .cst _, X, xa, W, g, sc, tg, e, S, h => by unfold chkI at h; cases h
  | .bop _ _ _, X, xa, W, g, sc, tg, e, S, h => by unfold chkI at h; cases h
  | .cmp _ _ _, X, xa, W, g, sc, tg, e, S, h => by unfold chkI at h; cases h
  | .chn _ _ _ _ _, X, xa, W, g, sc, tg, e, S, h => by unfold chkI at h; cases h
  | .neg _, X, xa, W, g, sc, tg, e, S, h => by unfold chkI at h; cases h
  | .not_ _, X, xa, W, g, sc, tg, e, S, h => by unfold chkI at h; cases h
  | .and_ _ _, X, xa, W, g, sc, tg, e, S, h => by unfold chkI at h; cases h
  | .or_ _ _, X, xa, W, g, sc, tg, e, S, h => by unfold chkI at h; cases h
  | .tr _, X, xa, W, g, sc, tg, e, S, h => by unfold chkI at h; cases h
  | .ite _ _ _, X, xa, W, g, sc, tg, e, S, h => by unfold chkI at h; cases h
  | .tup _, X, xa, W, g, sc, tg, e, S, h => by unfold chkI at h; cases h
  | .lst _, X, xa, W, g, sc, tg, e, S, h => by unfold chkI at h; cases h
  | .call _ _, X, xa, W, g, sc, tg, e, S, h => by unfold chkI at h; cases h
  | .callk _ _ _ _, X, xa, W, g, sc, tg, e, S, h => by unfold chkI at h; cases h
  | .bi _ _, X, xa, W, g, sc, tg, e, S, h => by unfold chkI at h; cases h
  | .mth _ _ _, X, xa, W, g, sc, tg, e, S, h => by unfold chkI at h; cases h
  | .isi _ _, X, xa, W, g, sc, tg, e, S, h => by unfold chkI at h; cases h
  | .isE _, X, xa, W, g, sc, tg, e, S, h => by unfold chkI at h; cases h
  | .sub _ _, X, xa, W, g, sc, tg, e, S, h => by unfold chkI at h; cases h
  | .slc _ _ _, X, xa, W, g, sc, tg, e, S, h => by unfold chkI at h; cases h
  | .lc _ _ _ _, X, xa, W, g, sc, tg, e, S, h => by unfold chkI at h; cases h
  | .fld _, X, xa, W, g, sc, tg, e, S, h => by unfold chkI at h; cases h
end
end Ly
end
section
set_option Elab.async false
set_option linter.all false
set_option maxRecDepth 100000
set_option maxHeartbeats 8000000
/-! Ly16: the checker of statements. -/
namespace Ly
open PySem PySem.Spec PyProof.Rows L2
def isLC : Expr → Bool
  | .ListComp _ _ _ _ => true
  | _ => false
/-- an assignment to one target -/
def chkA (sc : Sc) (p : Pat) (ce : CE) (tg e : Expr) : Bool := match isLC e with
  | true => (match p, tg, e, ce with
    | .v i, .Name y py, .ListComp _ _ scope pos, .lc _ _ _ _ => sc.calm && (decide (sc.N[i]? = some y) && (decide (sc.names.lookup y = some .local) && ((py.line == pos.line) && (!(scope.names.any fun (n, k) => n == y && (k == .local || k == .cell)) && (decide (sc.ei ≠ some i) && chkE sc ce e)))))
    | _, _, _, _ => false)
  | false => notComp e && (chkP sc p tg && (chkE sc ce e && (match p with
    | .v _ => true
    | _ => notStar tg && notTup e)))
mutual
def chkS (sc : Sc) : CS → Stmt → Bool
  | .skip, st => (match st with
    | .Pass _ => true
    | _ => false)
  | .seq _ _, _ => false
  | .ex ce, st => (match st with
    | .Expr e _ => notComp e && chkE sc ce e
    | _ => false)
  | .asg p ce, st => (match st with
    | .Assign [tg] e _ => chkA sc p ce tg e
    | _ => false)
  | .setI co ci ce, st => (match st with
    | .Assign [.Subscript o i _] e _ => notSlice i && (notComp e && (notTup e && (chkE sc ce e && (chkE sc co o && chkE sc ci i))))
    | _ => false)
  | .aug _ _ _, _ => false
  | .ifS cc a b, st => (match st with
    | .If c sa sb _ => chkT sc cc c && (chkSs sc a sa && chkSs sc b sb)
    | _ => false)
  | .whl cc b, st => (match st with
    | .While c sa [] _ => sc.calm && (chkT sc cc c && chkSs sc b sa)
    | _ => false)
  | .for_ p ci b, st => (match st with
    | .For tg it sa [] _ => sc.calm && (chkI sc ci it && (plainIter it && (chkP sc p tg && chkSs sc b sa)))
    | _ => false)
  | .ret ce, st => (match st with
    | .Return (some e) _ => chkE sc ce e
    | _ => false)
  | .retN, st => (match st with
    | .Return none _ => true
    | _ => false)
  | .raise c fs ca, st => (match st with
    | .Raise (some (.Call (.Name x _) (e :: es) [] _)) none _ => sc.calm && (decide (x = c) && (glB sc x && (decide ((x, fs) ∈ sc.errs) && chkL sc ca (e :: es))))
    | _ => false)
  | .try_ b c i s, st => (match st with
    | .Try body [.ExceptHandler (some (.Name x _)) (some n) (b₀ :: suite) _] [] [] _ => sc.calm && (decide (sc.N[i]? = some n) && (decide (sc.names.lookup n = some .local) && (decide (x = c) && (clsB sc x && (chkSs sc b body && chkSs { sc with calm := false, ei := some i } s (b₀ :: suite))))))
    | _ => false)
  | .brk, st => (match st with
    | .Break _ => true
    | _ => false)
  | .cnt, st => (match st with
    | .Continue _ => true
    | _ => false)
def chkSs (sc : Sc) : CS → List Stmt → Bool
  | .skip, sts => sts.isEmpty
  | .seq a b, sts => (match sts with
    | st :: rest => chkS sc a st && chkSs sc b rest
    | [] => false)
  | _, _ => false
end
structure StatS (X : Cx) (xa : Xa) (W : WX) (g : Gs) (sc : Sc) : Prop where
  s : Stat X xa W g sc
  pass : sc.calm = true → PassesOwn (model X.prog X.w) X.A X.env X.xe
  st : X.stack = X.env :: X.outer ∧ X.env.frame = some X.env.locals
theorem Stat.tr {X : Cx} {W W' : WX} {g : Gs} {sc : Sc} (S : Stat X none W g sc) (pn : List (Addr × Obj)) (xe : Value → Shared → Prop) (tk : Takes (X.tr pn xe) W') : Stat (X.tr pn xe) none W' g sc where
  nd := S.nd
  N := S.N
  names := S.names
  kind := S.kind
  fns := S.fns
  gc := S.gc
  gf := fun h x f i e => by
    obtain ⟨a, c, b⟩ := S.gf h x f i e
    exact ⟨a, ⟨c.mg, c.kp, c.fn⟩, b⟩
  free := S.free
  un := S.un
  calm := S.calm
  xn := S.xn
  tk := tk
  su := suiteOk_none
  ex := S.ex
  ei := S.ei
  cl := S.cl
  ec := S.ec
  fl := S.fl
  er := S.er
theorem Stat.suite {X : Cx} {W : WX} {g : Gs} {sc : Sc} (S : Stat X none W g sc) (r : XaR) (oe : Obj) (pn : List (Addr × Obj)) {i : Nat} (hi : r.i = i) (su : SuiteOk (X.suite r.a ((r.a, oe) :: pn)) g.T (some r)) :
    Stat (X.suite r.a ((r.a, oe) :: pn)) (some r) (fun _ _ _ _ => False) { g with ex := some (r.c, r.fs, r.vs) } { sc with calm := false, ei := some i } where
  nd := S.nd
  N := S.N
  names := S.names
  kind := S.kind
  fns := S.fns
  gc := fun x d h => by
    obtain ⟨v, u, a, b, c⟩ := S.gc x d h
    exact ⟨v, u, a, b, fun ρ H => (c ρ H).sw⟩
  gf := fun h => by cases h
  free := S.free
  un := S.un
  calm := fun h => by cases h
  xn := fun h => by cases h
  tk := takes0
  su := su
  ex := rfl
  ei := fun r' h => by
    cases h
    show some i = some r.i
    rw [hi]
  cl := S.cl
  ec := S.ec
  fl := S.fl
  er := fun h => by cases h
theorem chkA_ok {X : Cx} {xa : Xa} {W : WX} {g : Gs} {sc : Sc} {p : Pat} {ce : CE} {tg e : Expr} {pos : Pos} (S : Stat X xa W g sc) (h : chkA sc p ce tg e = true) : S1 X xa W (.Assign [tg] e pos) (exec g (.asg p ce)) := by
  unfold chkA at h
  split at h
  · split at h
    · rename_i i y py elt gens scope lpos p' ci cc ce' heq
      obtain ⟨h1, h⟩ := b2 h
      obtain ⟨h2, h⟩ := b2 h
      obtain ⟨h3, h⟩ := b2 h
      obtain ⟨h4, h⟩ := b2 h
      obtain ⟨h5, h⟩ := b2 h
      obtain ⟨h6, h⟩ := b2 h
      unfold chkE at h
      have es : strip (.ListComp elt gens scope lpos) = .ListComp elt gens scope lpos := rfl
      rw [es] at h
      split at h
      · rename_i elt tg it ifs scope pos he
        cases he
        obtain ⟨_, h⟩ := b2 h
        obtain ⟨k2, h⟩ := b2 h
        obtain ⟨k3, h⟩ := b2 h
        obtain ⟨k4, h⟩ := b2 h
        obtain ⟨k5, h⟩ := b2 h
        obtain ⟨k6, h⟩ := b2 h
        obtain ⟨k7, k8⟩ := b2 h
        obtain ⟨b1, b3⟩ := blkB_ok S.N S.names k4
        have hk : scope.kind = .function := b1.kind
        have hyl : X.env.scope.names.lookup y = some .local := by rw [S.names]; exact of_decide_eq_true h3
        refine s_setLc (own := ownOf sc p') (S.xi (of_decide_eq_true h6)) (S.calm h1) S.nd (nix S h2) hyl (sw_true S.kind hyl h4 (by simpa using h5)) (okI ci (tg := tg) S k2) b1 (fun s H C cl fp => okP (S.blk h1 hk s H C cl fp) p' k6) (fun s H C cl fp => ?_) (fun s H C cl fp => okE ce' (S.blk h1 hk s H C cl fp) k8) k3 b3 (fun v hv => S.xi (of_decide_eq_true (List.all_eq_true.mp k5 v hv)))
        split at k7
        · have op : cc = .cst (.bl true) := by
            unfold isYes at k7
            split at k7
            · rfl
            · cases k7
          subst op
          refine ⟨fun pins s0 σ H0 Q I hq => pts_nil.run pins s0 σ H0 Q I ?_⟩
          obtain ⟨ρ, σd, hh, rl, rh, q⟩ := hq
          obtain ⟨b, e1, q⟩ := Post.okv q rh (.bl true)
          cases e1
          exact q
        · exact pts_one (okT cc (S.blk h1 hk s H C cl fp) k7).1
        · cases k7
      · cases h
    · cases h
  · obtain ⟨h1, h⟩ := b2 h
    obtain ⟨h2, h⟩ := b2 h
    obtain ⟨h3, h4⟩ := b2 h
    have hE := okE ce S h3
    cases p with
    | v i =>
      cases tg with
      | Name x px =>
        have h2' : (decide (sc.N[i]? = some x) && ((decide (sc.names.lookup x = some .local) || (decide (sc.names.lookup x = some .cell) && sc.fcell x)) && decide (sc.ei ≠ some i))) = true := h2
        obtain ⟨k1, k⟩ := b2 h2'
        obtain ⟨k2, k3⟩ := b2 k
        simp only [Bool.or_eq_true, Bool.and_eq_true, decide_eq_true_eq] at k2
        refine s_set (S.xi (of_decide_eq_true k3)) S.nd (nix S k1) ?_ ?_ hE h1
        · unfold L2.Loc
          rw [S.names]
          rcases k2 with z | ⟨z, _⟩
          · exact .inl z
          · exact .inr z
        · rw [S.names]
          rcases k2 with z | ⟨_, z⟩
          · exact .inr z
          · exact .inl (S.fns x z)
      | _ => cases h2
    | tup q =>
      obtain ⟨h5, h6⟩ := b2 h4
      exact s_asg (okP S _ h2) h5 hE h1 h6
    | nil => cases h2
    | cons => cases h2
mutual
theorem okS : ∀ (cs : CS) {X : Cx} {xa : Xa} {W : WX} {g : Gs} {sc : Sc} {st : Stmt}, StatS X xa W g sc → chkS sc cs st = true → S1 X xa W st (exec g cs)
  | .skip, X, xa, W, g, sc, st, S, h => by
    unfold chkS at h
    split at h
    · exact s_pass
    · cases h
  | .seq _ _, X, xa, W, g, sc, st, S, h => by unfold chkS at h; cases h
  | .ex ce, X, xa, W, g, sc, st, S, h => by
    unfold chkS at h
    split at h
    · obtain ⟨h1, h2⟩ := b2 h
      exact s_ex (okE ce S.s h2) h1
    · cases h
  | .asg p ce, X, xa, W, g, sc, st, S, h => by
    unfold chkS at h
    split at h
    · exact chkA_ok S.s h
    · cases h
  | .setI co ci ce, X, xa, W, g, sc, st, S, h => by
    unfold chkS at h
    split at h
    · obtain ⟨h1, h⟩ := b2 h
      obtain ⟨h2, h⟩ := b2 h
      obtain ⟨h3, h⟩ := b2 h
      obtain ⟨h4, h⟩ := b2 h
      obtain ⟨h5, h6⟩ := b2 h
      exact s_setI (okE ce S.s h4) (okE co S.s h5) (okE ci S.s h6) h1 h2 h3
    · cases h
  | .aug _ _ _, X, xa, W, g, sc, st, S, h => by unfold chkS at h; cases h
  | .ifS cc a b, X, xa, W, g, sc, st, S, h => by
    unfold chkS at h
    split at h
    · obtain ⟨h1, h⟩ := b2 h
      obtain ⟨h2, h3⟩ := b2 h
      exact s_if (okT cc S.s h1).1 (okSs a S h2) (okSs b S h3)
    · cases h
  | .whl cc b, X, xa, W, g, sc, st, S, h => by
    unfold chkS at h
    split at h
    · obtain ⟨h1, h⟩ := b2 h
      obtain ⟨h2, h3⟩ := b2 h
      exact s_whl (S.pass h1) (okT cc S.s h2).1 (okSs b S h3)
    · cases h
  | .for_ p ci b, X, xa, W, g, sc, st, S, h => by
    unfold chkS at h
    split at h
    · rename_i tg it sa pos
      obtain ⟨h1, h⟩ := b2 h
      obtain ⟨h2, h⟩ := b2 h
      obtain ⟨h3, h⟩ := b2 h
      obtain ⟨h4, h5⟩ := b2 h
      exact s_for (S.pass h1) (S.s.calm h1) (okI ci (tg := tg) S.s h2) (okP S.s p h4) (okSs b S h5) h3
    · cases h
  | .ret ce, X, xa, W, g, sc, st, S, h => by
    unfold chkS at h
    split at h
    · exact s_ret (okE ce S.s h)
    · cases h
  | .retN, X, xa, W, g, sc, st, S, h => by
    unfold chkS at h
    split at h
    · exact s_retN
    · cases h
  | .raise c fs ca, X, xa, W, g, sc, st, S, h => by
    unfold chkS at h
    split at h
    · obtain ⟨h1, h⟩ := b2 h
      obtain ⟨h2, h⟩ := b2 h
      obtain ⟨h3, h⟩ := b2 h
      obtain ⟨h4, h5⟩ := b2 h
      obtain rfl := of_decide_eq_true h2
      obtain ⟨hd, hm, fI, k, T, hr⟩ := S.s.er h1 _ _ (of_decide_eq_true h4)
      exact s_raise (S.s.calm h1) T hr S.s.tk (okL ca S.s h5) (chkL_stars h5) (glB_ok S.s h3) hm hd
    · cases h
  | .try_ b c i s, X, xa, W, g, sc, st, S, h => by
    unfold chkS at h
    split at h
    · rename_i body x np n b₀ suite p1 p2
      obtain ⟨h1, h⟩ := b2 h
      obtain ⟨h2, h⟩ := b2 h
      obtain ⟨h3, h⟩ := b2 h
      obtain ⟨h4, h⟩ := b2 h
      obtain ⟨h5, h⟩ := b2 h
      obtain ⟨h6, h7⟩ := b2 h
      obtain rfl := of_decide_eq_true h4
      have hxa := S.s.xn h1
      subst hxa
      obtain ⟨v, u, c1, c2, c3⟩ := clsB_ok S.s h5
      refine s_try S.st.1 S.st.2 S.s.nd (nix S.s h2) ?_ c1 S.s.tk c3 (fun c' b e => S.s.ec _ _ _ e) (fun W' pn xe tk ps => ?_) (fun r oe pn hi su => ?_)
      · show X.env.scope.names.lookup n = _
        rw [S.s.names]; exact of_decide_eq_true h3
      · exact okSs b ⟨S.s.tr pn xe tk, fun _ => ps, S.st⟩ h6
      · exact okSs s ⟨S.s.suite r oe pn hi su, (fun z => by cases z), S.st⟩ h7
    · cases h
  | .brk, X, xa, W, g, sc, st, S, h => by
    unfold chkS at h
    split at h
    · exact s_brk
    · cases h
  | .cnt, X, xa, W, g, sc, st, S, h => by
    unfold chkS at h
    split at h
    · exact s_cnt
    · cases h
theorem okSs : ∀ (cs : CS) {X : Cx} {xa : Xa} {W : WX} {g : Gs} {sc : Sc} {sts : List Stmt}, StatS X xa W g sc → chkSs sc cs sts = true → Ss1 X xa W sts (exec g cs)
  | .skip, X, xa, W, g, sc, st, S, h => by
    unfold chkSs at h
    cases st with
    | nil => exact s_nil
    | cons => cases h
  | .seq a b, X, xa, W, g, sc, st, S, h => by
    unfold chkSs at h
    split at h
    · obtain ⟨h1, h2⟩ := b2 h
      exact s_cons (okS a S h1) (okSs b S h2)
    · cases h
  | .ex _, X, xa, W, g, sc, st, S, h => by unfold chkSs at h; cases h
  | .asg _ _, X, xa, W, g, sc, st, S, h => by unfold chkSs at h; cases h
  | .setI _ _ _, X, xa, W, g, sc, st, S, h => by unfold chkSs at h; cases h
  | .aug _ _ _, X, xa, W, g, sc, st, S, h => by unfold chkSs at h; cases h
  | .ifS _ _ _, X, xa, W, g, sc, st, S, h => by unfold chkSs at h; cases h
  | .whl _ _, X, xa, W, g, sc, st, S, h => by unfold chkSs at h; cases h
  | .for_ _ _ _, X, xa, W, g, sc, st, S, h => by unfold chkSs at h; cases h
  | .ret _, X, xa, W, g, sc, st, S, h => by unfold chkSs at h; cases h
  | .retN, X, xa, W, g, sc, st, S, h => by unfold chkSs at h; cases h
  | .raise _ _ _, X, xa, W, g, sc, st, S, h => by unfold chkSs at h; cases h
  | .try_ _ _ _ _, X, xa, W, g, sc, st, S, h => by unfold chkSs at h; cases h
  | .brk, X, xa, W, g, sc, st, S, h => by unfold chkSs at h; cases h
  | .cnt, X, xa, W, g, sc, st, S, h => by unfold chkSs at h; cases h
end
end Ly
end
section
set_option Elab.async false
set_option linter.all false
set_option maxRecDepth 100000
set_option maxHeartbeats 4000000
/-! Ly17: a table of defs keeps what the interpreter says; a law's end. -/
namespace Ly
open PySem PySem.Spec PyProof.Rows L2
/-- one def: its program, its text, how it is called by keywords -/
structure Fd where
  df : Df
  params : Arguments
  body : List Stmt
  scope : Scope
  ps : List Str
  kws : List (Nat × List Str × List Nat)
structure Md where
  fs : List Fd
  cs : List (Str × D)
  free : List Str
  cls : List Str
  flds : List Str
  errs : List (Str × List Str)
  T : SubT
def Md.P (m : Md) : List Df := m.fs.map (·.df)
def Fd.i (f : Fd) : FnI := ⟨f.df.name, f.ps, f.kws⟩
def Md.G (m : Md) : List (Str × GK) := (m.cs.map fun q => (q.1, .cst q.2)) ++ m.fs.zipIdx.map fun q => (q.1.df.name, .fn q.2 q.1.i)
def Md.sc (m : Md) (f : Fd) : Sc := ⟨f.df.N, f.scope.names, m.G, m.free, m.cls, m.flds, m.errs, true, none, fun _ => true⟩
def scB (N ps : List Str) (sc : Scope) : Bool :=
  decide (sc.kind = .function) && (!sc.isCoroutine && (!sc.isGenerator && (decide N.Nodup && (decide (N.take ps.length = ps) && ((ps.all fun x => decide (sc.names.lookup x = some .local) || decide (sc.names.lookup x = some .cell)) && sc.names.all fun y => !decide (y.2 = .free))))))
theorem scB_ok {N ps : List Str} {sc : Scope} (h : scB N ps sc = true) : FnScope N ps sc := by
  unfold scB at h
  simp only [Bool.and_eq_true, List.all_eq_true, decide_eq_true_eq, Bool.or_eq_true, Bool.not_eq_true', decide_eq_false_iff_not] at h
  obtain ⟨h1, h2, h3, h4, h5, h6, h7⟩ := h
  exact ⟨h1, h2, h3, h4, h5, h6, h7⟩
def Md.okF (m : Md) (f : Fd) : Bool := chkSs (m.sc f) f.df.body f.body && (scB f.df.N f.ps f.scope && decide (f.ps.length = f.df.np))
def Md.ok (m : Md) : Bool := m.fs.all m.okF
structure MdOk (K : PySem.W.Frag) (mg : Str → Option Value) (prog : Program) (m : Md) : Prop where
  fn : ∀ f ∈ m.fs, mg f.df.name = some (.ref (He.ga K f.df.name)) ∧ ∃ fd, FunD K f.df.name f.df.name f.params f.body f.scope [] [] (He.ga K f.df.name) fd ∧ Binds K fd f.ps [] ∧ ∀ q ∈ f.kws, KwOk K fd f.ps q.1 q.2.1 q.2.2
  cst : ∀ q ∈ m.cs, ∃ v u, mg q.1 = some u ∧ RelV v u ∧ ∀ ρ H, RepV K none ρ H q.2 v
  free : ∀ x ∈ m.free, mg x = none
  cl : ∀ x ∈ m.cls, (x == ("__debug__" : Str)) = false ∧ ∃ v u, ClM mg x v u ∧ TabC K m.T x u ∧ ∀ c' b, subOf m.T c' x = some b → PySem.W.exmOne K (.ref (He.ga K c')) u = some b
  ec : ∀ c' x b, subOf m.T c' x = some b → EcOk K c'
  fl : ∀ f ∈ m.flds, ∀ c' x b, subOf m.T c' x = some b → PySem.W.findIn K (.ref (He.ga K c')) f = some none
  er : ∀ x fs, (x, fs) ∈ m.errs → (x == ("__debug__" : Str)) = false ∧ mg x = some (.ref (He.ga K x)) ∧ ∃ fI, LyE.SupT K mg prog (He.ga K x) fI fs
theorem lookup_mem {α β : Type} [BEq α] [LawfulBEq α] {l : List (α × β)} {x : α} {v : β} (h : l.lookup x = some v) : (x, v) ∈ l := by
  induction l with
  | nil => cases h
  | cons p r ih =>
    obtain ⟨a, b⟩ := p
    by_cases e : (x == a) = true
    · simp [List.lookup, e] at h
      subst h
      rw [eq_of_beq e]
      exact List.mem_cons_self ..
    · have e' : (x == a) = false := by simpa using e
      simp [List.lookup, e'] at h
      exact List.mem_cons_of_mem _ (ih h)
theorem G_cst {m : Md} {x : Str} {d : D} (h : m.G.lookup x = some (.cst d)) : (x, d) ∈ m.cs := by
  have z := lookup_mem h
  unfold Md.G at z
  rcases List.mem_append.mp z with z | z
  · obtain ⟨q, hq, e⟩ := List.mem_map.mp z
    cases e
    exact hq
  · obtain ⟨q, hq, e⟩ := List.mem_map.mp z
    cases e
theorem G_fn {m : Md} {x : Str} {f : Nat} {i : FnI} (h : m.G.lookup x = some (.fn f i)) : ∃ d : Fd, m.fs[f]? = some d ∧ d.df.name = x ∧ i = d.i := by
  have z := lookup_mem h
  unfold Md.G at z
  rcases List.mem_append.mp z with z | z
  · obtain ⟨q, hq, e⟩ := List.mem_map.mp z
    cases e
  · obtain ⟨q, hq, e⟩ := List.mem_map.mp z
    cases e
    exact ⟨q.1, List.mk_mem_zipIdx_iff_getElem?.mp hq, rfl, rfl⟩
theorem callN_len {m : Md} (hm : m.ok = true) (n f : Nat) (d : Fd) (hf : m.fs[f]? = some d) (ds : List D) (h : AH) (hl : ds.length ≠ d.ps.length) : callN m.T m.P n f ds h = .bad := by
  cases n with
  | zero => rfl
  | succ n =>
    have hd := List.all_eq_true.mp hm d (List.mem_of_getElem? hf)
    obtain ⟨_, hd⟩ := b2 hd
    obtain ⟨_, hd⟩ := b2 hd
    have hd := of_decide_eq_true hd
    have e : m.P[f]? = some d.df := by unfold Md.P; rw [List.getElem?_map, hf]; rfl
    unfold callN
    rw [e]
    show (if ds.length = d.df.np then _ else R.bad) = R.bad
    rw [if_neg (by rw [← hd]; exact hl)]
section
variable {P : Program} {w : World} {K : PySem.W.Frag} {mg : Str → Option Value} {base : Heap} {m : Md}
theorem fnOk (M : MdOk K mg P m) (hm : m.ok = true) : ∀ (n f : Nat) (d : Fd) (fd : FuncData), m.fs[f]? = some d → FunD K d.df.name d.df.name d.params d.body d.scope [] [] (He.ga K d.df.name) fd →
    FnOk P w K mg base (L2.CX P w) n (He.ga K d.df.name) fd d.ps (spF K d.ps.length (callN m.T m.P n f)) := by
  intro n
  induction n with
  | zero =>
    intro f d fd hf F
    refine ⟨fun vs H Q E h => spF_len h, fun A outer s H args us vs Q E hr he hb hv h => ?_⟩
    obtain ⟨_, _, _, _, _, _, p⟩ := h
    exact p.elim
  | succ n ih =>
    intro f d fd hf F
    have hd := List.all_eq_true.mp hm d (List.mem_of_getElem? hf)
    obtain ⟨hc, hd⟩ := b2 hd
    obtain ⟨hs, hnp⟩ := b2 hd
    have hnp := of_decide_eq_true hnp
    have S := scB_ok hs
    refine F.ok S (fun vs H Q E h => spF_len h) fun cdv A outer s H vs Q E hr h => ?_
    refine ⟨semS K none (fun c dd _ H' => E c dd H') (exec ⟨callN m.T m.P n, m.T, none⟩ d.df.body), okSs d.df.body (sc := m.sc d) ⟨?_, fun _ => passes_of rfl, rfl, rfl⟩ hc, ?_⟩
    · exact {
        nd := S.nd
        N := rfl
        names := rfl
        kind := S.kind
        fns := fun _ _ => rfl
        gc := fun x dd e => M.cst _ (G_cst e)
        gf := fun _ x f' i e => by
          obtain ⟨d', h1, h2, rfl⟩ := G_fn e
          obtain ⟨hmg, fd', F', hb, hk⟩ := M.fn d' (List.mem_of_getElem? h1)
          exact ⟨h2, ⟨hmg, F'.kp, n, fd', hr, ih f' d' fd' h1 F', hb, hk⟩, fun ds h hl => callN_len hm n f' d' h1 ds h hl⟩
        free := M.free
        un := by
          have := hr.un
          show (A.deeper (envOfC d.df.name d.scope s.heap.objs.size (He.ga K d.df.name) cdv)).units + 65 < cLine
          omega
        calm := fun _ => rfl
        xn := fun _ => rfl
        tk := takes_of rfl rfl rfl rfl
        su := suiteOk_none
        ex := rfl
        ei := fun r hr => by cases hr
        cl := M.cl
        ec := M.ec
        fl := M.fl
        er := fun _ x fs hx => by
          obtain ⟨h1, h2, fI, T⟩ := M.er x fs hx
          exact ⟨h1, h2, fI, n, T, hr⟩ }
    · obtain ⟨ρ, ds, h0, hl, rh, rv, p⟩ := h
      refine ⟨ρ, startD d.df.N.length ds, h0, ?_, rh, ?_⟩
      · unfold startD L2.start
        rw [← rv.length]
        exact Rel.start _ rv
      · have e : m.P[f]? = some d.df := by unfold Md.P; rw [List.getElem?_map, hf]; rfl
        have e2 : callN m.T m.P (n + 1) f ds h0 = endS (exec ⟨callN m.T m.P n, m.T, none⟩ d.df.body (startD d.df.N.length ds) h0) := by
          show (match m.P[f]? with
            | some d => if ds.length = d.np then endS (exec ⟨callN m.T m.P n, m.T, none⟩ d.body (startD d.N.length ds) h0) else .bad
            | none => .bad) = _
          rw [e]
          show (if ds.length = d.df.np then _ else R.bad) = _
          rw [if_pos (by rw [← hnp]; exact hl)]
        rw [e2] at p
        cases z : exec ⟨callN m.T m.P n, m.T, none⟩ d.df.body (startD d.df.N.length ds) h0 with
        | nx σ h1 =>
          rw [z] at p
          exact fun ρ1 H1 σ' q1 e1 rh1 rl1 => p ρ1 H1 .non q1 e1 rh1 .non
        | rt v h1 =>
          rw [z] at p
          exact fun ρ1 H1 v1 q1 e1 rh1 rv1 => p ρ1 H1 v1 q1 e1 rh1 rv1
        | exc c fs vs σ h1 =>
          rw [z] at p
          exact fun ρ1 H1 σ' dd xs q1 e1 rh1 rl1 h2 h3 h4 => p ρ1 H1 dd xs q1 e1 rh1 h2 h3 h4
        | bk => rw [z] at p; exact p.elim
        | ct => rw [z] at p; exact p.elim
        | bad => rw [z] at p; exact p.elim
end
/-! ### the law's end -/
theorem rep_ints {K : PySem.W.Frag} {ρ : List Addr} {H : Hp} : ∀ (ns : List Int), RepVs K none ρ H (ns.map D.int) (ns.map V.int)
  | [] => .nil
  | n :: ns => .cons (.int n) (rep_ints ns)
theorem law_sp {K : PySem.W.Frag} {c : List D → AH → R D} {H : Hp} {a : Addr} {ns : List Int} (ho : Only H) (hs : SqL K H a (ns.map V.int)) {h' : AH} (hc : c [.rol (ns.map D.int)] [] = .ok (.bl true) h') : spF K 1 c [.ref a] H (fun v _ => v = .bl true) fun _ _ _ => False := by
  refine ⟨[], [.rol (ns.map D.int)], [], rfl, ⟨rfl, .nil, fun n ao hn => by simp at hn⟩, .one (.rol ?_ (rep_ints ns)), ?_⟩
  · rcases hs with (hs | ⟨o, hs⟩) | hs
    · rcases ho a with h | ⟨o, xs, h⟩
      · rw [h] at hs; cases hs
      · rw [h] at hs; cases hs
    · exact .inl ⟨o, hs⟩
    · exact .inr hs
  · rw [hc]
    intro ρ1 H1 v q e rh rv
    cases rv
    rfl
theorem cx_none {P : Program} {w : World} (H : Hp) (s : Shared) (e : Value) (s' : Shared) (h : L2.CX P w [] H s (fun _ _ _ => False) e s') : False := by
  obtain ⟨_, _, _, _, _, _, _, _, _, _, _, _, z⟩ := h
  exact z
end Ly
end
section
set_option Elab.async false
set_option linter.all false
set_option maxRecDepth 100000
set_option maxHeartbeats 4000000
/-! Ly18: a head's Hook with what Ly wants of the written part. -/
namespace Ly
open PySem PySem.Spec PyProof.Rows L2
/-! ### constants -/
mutual
def repB (K : PySem.W.Frag) : D → Value → Bool
  | .non, u => (match u with
    | .none => true
    | _ => false)
  | .bl b, u => (match u with
    | .bool c => b == c
    | _ => false)
  | .int i, u => (match u with
    | .int j _ => decide (i = j)
    | _ => false)
  | .str x, u => (match u with
    | .str y _ => decide (x = y)
    | _ => false)
  | .tup ds, u => (match u with
    | .ref a => (match K.lookup a with
      | some ⟨.type c, _, .seq its _, _⟩ => decide (c = "tuple") && (decide (its.size ≤ sizeLine) && repBs K ds its.toList)
      | _ => false)
    | _ => false)
  | .rol ds, u => (match u with
    | .ref a => (match K.lookup a with
      | some ⟨.type c, none, .seq its _, _⟩ => decide (c = "list") && (decide (its.size ≤ sizeLine) && repBs K ds its.toList)
      | _ => false)
    | _ => false)
  | .ref _, _ => false
  | .it _ _, _ => false
def repBs (K : PySem.W.Frag) : List D → List Value → Bool
  | [], us => us.isEmpty
  | d :: ds, us => (match us with
    | u :: us => repB K d u && repBs K ds us
    | [] => false)
end
mutual
theorem repB_ok {K : PySem.W.Frag} : ∀ (d : D) {u : Value}, repB K d u = true → ∃ v, RelV v u ∧ ∀ ρ H, RepV K none ρ H d v
  | .non, u, h => by
    cases u <;> first | exact ⟨.non, rfl, fun _ _ => .non⟩ | (unfold repB at h; cases h)
  | .bl b, u, h => by
    unfold repB at h
    cases u <;> first | (cases h; done) | (rename_i c; obtain rfl : b = c := eq_of_beq h; exact ⟨.bl b, rfl, fun _ _ => .bl _⟩)
  | .int i, u, h => by
    unfold repB at h
    cases u <;> first | (cases h; done) | (rename_i j t; obtain rfl : i = j := of_decide_eq_true h; exact ⟨.int i, ⟨t, rfl⟩, fun _ _ => .int _⟩)
  | .str i, u, h => by
    unfold repB at h
    cases u <;> first | (cases h; done) | (rename_i j t; obtain rfl : i = j := of_decide_eq_true h; exact ⟨.str i, ⟨t, rfl⟩, fun _ _ => .str _⟩)
  | .tup ds, u, h => by
    unfold repB at h
    split at h
    · rename_i a
      split at h
      · rename_i c dd its n sl hl
        obtain ⟨h1, h⟩ := b2 h
        obtain ⟨h2, h3⟩ := b2 h
        obtain ⟨vs, r, q⟩ := repBs_ok ds h3
        exact ⟨.ref a, rfl, fun ρ H => .tup (.inr ⟨_, its, n, hl, congrArg Value.type (of_decide_eq_true h1), rfl, of_decide_eq_true h2, r⟩) (q ρ H)⟩
      · cases h
    · cases h
  | .rol ds, u, h => by
    unfold repB at h
    split at h
    · rename_i a
      split at h
      · rename_i c its n sl hl
        obtain ⟨h1, h⟩ := b2 h
        obtain ⟨h2, h3⟩ := b2 h
        obtain ⟨vs, r, q⟩ := repBs_ok ds h3
        exact ⟨.ref a, rfl, fun ρ H => .rol (.inr ⟨_, its, n, hl, congrArg Value.type (of_decide_eq_true h1), rfl, rfl, of_decide_eq_true h2, r⟩) (q ρ H)⟩
      · cases h
    · cases h
  | .ref _, u, h => by unfold repB at h; cases h
  | .it _ _, u, h => by unfold repB at h; cases h
theorem repBs_ok {K : PySem.W.Frag} : ∀ (ds : List D) {us : List Value}, repBs K ds us = true → ∃ vs, Vals vs us ∧ ∀ ρ H, RepVs K none ρ H ds vs
  | [], us, h => by
    unfold repBs at h
    cases us with
    | nil => exact ⟨[], .nil, fun _ _ => .nil⟩
    | cons => cases h
  | d :: ds, us, h => by
    unfold repBs at h
    cases us with
    | nil => cases h
    | cons u us =>
      obtain ⟨h1, h2⟩ := b2 h
      obtain ⟨v, a, b⟩ := repB_ok d h1
      obtain ⟨vs, c, e⟩ := repBs_ok ds h2
      exact ⟨v :: vs, .cons a c, fun ρ H => .cons (b ρ H) (e ρ H)⟩
end
def cstOk (K : PySem.W.Frag) (q : Str × D) : Bool := match PySem.W.nsIn K mainGlobals q.1 with
  | some (some u) => repB K q.2 u
  | _ => false
/-! ### classes -/
def bltCls (x : Str) : Bool := decide (x = "ValueError")
def clU (K : PySem.W.Frag) (x : Str) : Value := if bltCls x = true then .type "ValueError" else .ref (He.ga K x)
def clOk (K : PySem.W.Frag) (x : Str) : Bool := !(x == ("__debug__" : Str)) && (if bltCls x = true then He.eqO (PySem.W.nsIn K mainGlobals x) (some none) else He.eqO (PySem.W.nsIn K mainGlobals x) (some (some (.ref (He.ga K x)))))
def tabOk (K : PySem.W.Frag) (q : Str × Str × Bool) : Bool := decide (PySem.W.kitOne K (.ref (He.ga K q.1)) (clU K q.2.1) = some q.2.2) && decide (PySem.W.exmOne K (.ref (He.ga K q.1)) (clU K q.2.1) = some q.2.2)
def ecB (K : PySem.W.Frag) (c : Str) : Bool :=
  decide (PySem.W.findIn K (.ref (He.ga K c)) "__getattribute__" = some (some (.builtin "BaseException.__getattribute__"))) && (decide (PySem.W.findIn K (.ref (He.ga K c)) "__getattr__" = some none) && (decide (PySem.W.subIn K (.ref (He.ga K c)) (.type "BaseException") = some true) && (PySem.W.hasDictIn K (He.ga K c) &&
    (decide (PySem.W.findIn K (.ref (He.ga K c)) "__class__" = some (some (.builtin "object.__class__"))) && (decide (PySem.W.specialIn K (.builtin "object.__class__") "__get__" = some (some (.builtin "getset_descriptor.__get__"))) && (decide (PySem.W.takesIn K (.builtin "object.__class__") = some true) && decide (PySem.W.mroIn K (He.ga K c) (.type "object") = some true)))))))
theorem ecB_ok {K : PySem.W.Frag} {c : Str} (h : ecB K c = true) : EcOk K c := by
  unfold ecB at h
  simp only [Bool.and_eq_true, decide_eq_true_eq] at h
  obtain ⟨h1, h2, h3, h4, h5, h6, h7, h8⟩ := h
  exact ⟨⟨h1, h2, h3, h4, h5, h6, h7, h8⟩, ⟨h1, h2, h3, h4⟩⟩
/-! ### an error's __init__ -/
structure IniD where
  cls : Str
  fs : List Str
  qual : Str
  params : Arguments
  body : List Stmt
  scope : Scope
abbrev IniW : Type := Option (Str × Str × Arguments × FuncBody × Scope × Addr × Addr)
def iniW (K : PySem.W.Frag) (c : Str) : IniW := match K.lookup (He.ma K (He.ga K c) "__init__") with
  | some ⟨_, _, .func fd, _⟩ => some (fd.name, fd.qualname, fd.params, fd.body, fd.scope, fd.globals, fd.builtins)
  | _ => none
def IniD.val (d : IniD) : IniW := some ("__init__", d.qual, d.params, .stmts d.body, d.scope, mainGlobals, builtinsNs)
def oexB (K : PySem.W.Frag) (C : Addr) : Bool := (match K.lookup C with
  | some ⟨.type t, _, .cls cd, sl⟩ => decide (t = "type") && (match cd.mro, sl.toList with
    | .ref C' :: bm, [_, _, _, _, some (.builtin n), _] => decide (C' = C) && (decide (n = "ValueError.__new__") && (!cd.hasDel && (cd.hasDict && PySem.HandSPX.refsVE bm)))
    | _, _ => false)
  | _ => false) && (decide (PySem.W.findIn K (.ref C) "__setattr__" = some (some (.builtin "object.__setattr__"))) && (decide (PySem.W.subIn K (.ref C) (.type "BaseException") = some true) && (decide (PySem.W.typeIn K (.ref C) = some (.type "type")) && PySem.W.keepIn K (.ref C))))
theorem oexB_ok {K : PySem.W.Frag} {C : Addr} (h : oexB K C = true) : OexC K C := by
  unfold oexB at h
  obtain ⟨h1, h⟩ := b2 h
  obtain ⟨h2, h⟩ := b2 h
  obtain ⟨h3, h⟩ := b2 h
  obtain ⟨h4, h5⟩ := b2 h
  refine ⟨?_, of_decide_eq_true h2, of_decide_eq_true h3, of_decide_eq_true h4, h5⟩
  split at h1
  · rename_i t dd cd sl hl
    obtain ⟨k1, k⟩ := b2 h1
    have e1 : t = "type" := of_decide_eq_true k1
    subst e1
    split at k
    · rename_i C' bm k0 k1 k2 k3 n k5 hm hs
      obtain ⟨q1, k⟩ := b2 k
      obtain ⟨q2, k⟩ := b2 k
      obtain ⟨q3, k⟩ := b2 k
      obtain ⟨q4, q5⟩ := b2 k
      have e2 : C' = C := of_decide_eq_true q1
      have e3 : n = "ValueError.__new__" := of_decide_eq_true q2
      subst e2 e3
      obtain ⟨nm, bs, mro, ns, qn, hd, sn, sub, ab, col, del⟩ := cd
      dsimp only at hm q3 q4
      subst hm q4
      have e4 : del = false := by simpa using q3
      subst e4
      have e5 : sl = #[k0, k1, k2, k3, some (.builtin "ValueError.__new__"), k5] := by
        have := congrArg List.toArray hs
        simpa using this
      subst e5
      exact ⟨nm, qn, ns, bs, bm, sn, sub, ab, col, dd, k0, k1, k2, k3, k5, hl, q5⟩
    · cases k
  · cases h1
/-- file: the program's -/
def iniB (K : PySem.W.Frag) (file : Str) (d : IniD) : Bool :=
  oexB K (He.ga K d.cls) && ((d.fs.all fun f => decide (PySem.W.findIn K (.ref (He.ga K d.cls)) f = some none)) && (decide (PySem.W.findIn K (.ref (He.ga K d.cls)) "__init__" = some (some (.ref (He.ma K (He.ga K d.cls) "__init__")))) && (decide (PySem.W.typeIn K (.ref (He.ma K (He.ga K d.cls) "__init__")) = some (.type "function")) &&
    (decide (PySem.W.subIn K (.ref (He.ga K d.cls)) (.type "ValueError") = some true) && (decide (PySem.W.mroIn K (He.ga K d.cls) (.ref (He.ga K d.cls)) = some true) && (decide (PySem.W.ks_superIn K (He.ga K d.cls) (He.ga K d.cls) "__init__" = some (some (.builtin "ValueError.__init__"))) &&
      (decide (PySem.W.nsIn K cStatics "thirdparty.any" = some none) && (He.eqO (PySem.W.nsIn K mainGlobals "super") (some none) && (He.eqO (PySem.W.nsIn K mainGlobals d.cls) (some (some (.ref (He.ga K d.cls)))) && (!(d.cls == ("__debug__" : Str)) &&
        (match K.lookup (He.ma K (He.ga K d.cls) "__init__") with
        | some ⟨_, _, .func fd, _⟩ => PySem.W.codeIn K fd.code d.qual && ((match fd.defaults with
          | .none => true
          | _ => false) && ((match fd.code with
          | .ref cda => (match K.lookup cda with
            | some ⟨_, _, .fields vs, _⟩ => (match (vs[2]? : Option Value) with
              | some (.str f _) => file == f
              | _ => false)
            | _ => false)
          | _ => false) && (match fd.closure with
          | [(n, cc)] => decide (n = "__class__") && (match K.lookup cc with
            | some ⟨_, _, .cell (some (.ref D)), _⟩ => decide (D = He.ga K d.cls)
            | _ => false)
          | _ => false)))
        | _ => false)))))))))))
/-- what the text of such an __init__ says -/
structure IniOk (d : IniD) : Prop where
  sm : d.fs.length ≤ 2
  nz : d.fs ≠ []
  tx : ∃ (ns : List (Str × NameKind)) (mo : List (Str × Const)) (ar : Arg) (es : List Expr) (ss : List Stmt) (p0 p1 p2 p3 p4 : Pos),
    d.scope = { kind := .function, names := ns, isGenerator := false, isCoroutine := false, more := mo } ∧ d.body = .Expr (.Call (.Attribute (.Call (.Name "super" p0) [] [] p1) "__init__" p2) es [] p3) p4 :: ss ∧
    (p2.endLine == p3.line) = true ∧ (d.params.posonlyargs ++ d.params.args).head? = some ar ∧ ar.arg = "self" ∧ LyE.NArgs es d.fs ∧ LyE.NStores ss d.fs ∧
    (∀ x ∈ ns, x.2 ≠ .cell) ∧ ns.lookup ("self" : Str) = some .local ∧ (∀ f ∈ d.fs, ns.lookup f = some .local) ∧ ns.lookup ("super" : Str) = some .globalImplicit ∧ ns.lookup ("__class__" : Str) = some .free
  bd : ∀ (s : Shared) (x : Value) (us : List Value) (kv doc pm cdv ct : Value) (an : Option Addr) (cc : Addr), us.length = d.fs.length → BindsTo s (PySem.W.ksFn "__init__" d.qual d.params d.body d.scope .none kv doc pm an cdv ct cc) ⟨x :: us, []⟩ ((("self" : Str), x) :: d.fs.zip us)
  lk : ∀ (x : Value) (us : List Value), us.length = d.fs.length → List.lookup ("self" : Str) ((("self" : Str), x) :: d.fs.zip us).reverse = some x ∧ LyE.Holds (fun y => List.lookup y ((("self" : Str), x) :: d.fs.zip us).reverse) d.fs us
theorem iniB_ok {K : PySem.W.Frag} {h : Heap} {mg : Str → Option Value} {prog : Program} {d : IniD} (X : K.In h) (G : h.Ns mainGlobals mg) (hb : iniB K prog.main.file d = true) (e : iniW K d.cls = d.val) (ok : IniOk d) (top : (prog.main.scope.names.lookup ("super" : Str)).isSome = false) :
    (d.cls == ("__debug__" : Str)) = false ∧ mg d.cls = some (.ref (He.ga K d.cls)) ∧ ∃ fI, LyE.SupT K mg prog (He.ga K d.cls) fI d.fs := by
  unfold iniB at hb
  obtain ⟨h1, hb⟩ := b2 hb
  obtain ⟨h2, hb⟩ := b2 hb
  obtain ⟨h3, hb⟩ := b2 hb
  obtain ⟨h4, hb⟩ := b2 hb
  obtain ⟨h5, hb⟩ := b2 hb
  obtain ⟨h6, hb⟩ := b2 hb
  obtain ⟨h7, hb⟩ := b2 hb
  obtain ⟨h8, hb⟩ := b2 hb
  obtain ⟨h9, hb⟩ := b2 hb
  obtain ⟨h10, hb⟩ := b2 hb
  obtain ⟨h11, hb⟩ := b2 hb
  refine ⟨by simpa using h11, PySem.W.mg_of X G (He.eqO_ok h10), He.ma K (He.ga K d.cls) "__init__", ?_⟩
  refine { ox := oexB_ok h1, no := fun f hf => of_decide_eq_true (List.all_eq_true.mp h2 f hf), iC := of_decide_eq_true h3, tI := of_decide_eq_true h4, ve := of_decide_eq_true h5, mr := of_decide_eq_true h6, su := of_decide_eq_true h7, op := of_decide_eq_true h8, sg := PySem.W.mg_none_of X G (He.eqO_ok h9), top := top, sm := ok.sm, nz := ok.nz, fn := ?_ }
  unfold iniW at e
  cases q : K.lookup (He.ma K (He.ga K d.cls) "__init__") with
  | none => rw [q] at hb; cases hb
  | some o =>
    obtain ⟨oc, od, dt, osl⟩ := o
    rw [q] at hb e
    cases dt with
    | func fd =>
      obtain ⟨n1, n2, n3, n4, n5, n6, n7, n8, n9, n10, n11, n12, n13, n14, n15⟩ := fd
      have e2 : (some (n1, n2, n3, n4, n5, n6, n15) : IniW) = some (PySem.Str.ofString "__init__", d.qual, d.params, .stmts d.body, d.scope, mainGlobals, builtinsNs) := e
      simp only [Option.some.injEq, Prod.mk.injEq] at e2
      obtain ⟨r1, r2, r3, r4, r5, r6, r7⟩ := e2
      subst r1 r2 r3 r4 r5 r6 r7
      obtain ⟨c1, hb⟩ := b2 hb
      obtain ⟨c0, hb⟩ := b2 hb
      obtain ⟨c2, c3⟩ := b2 hb
      dsimp only at c0 c1 c2 c3
      have c0' : n8 = .none := by
        split at c0
        · rfl
        · cases c0
      subst c0'
      cases n13 with
      | ref cda =>
        dsimp only at c2
        split at c2
        · rename_i ccl cdd vs ccs hcda
          split at c2
          · rename_i f tf hvs
            cases n7 with
            | nil => cases c3
            | cons pr r =>
              obtain ⟨n, cc⟩ := pr
              cases r with
              | cons => cases c3
              | nil =>
                obtain ⟨d1, d2⟩ := b2 c3
                have en : n = PySem.Str.ofString "__class__" := of_decide_eq_true d1
                subst en
                split at d2
                · rename_i cl cld D csl hcc
                  have eD : D = He.ga K d.cls := of_decide_eq_true d2
                  subst eD
                  obtain ⟨ns, mo, ar, es, ss, p0, p1, p2, p3, p4, s1, s2, s3, s4, s5, s6, s7, s8, s9, s10, s11, s12⟩ := ok.tx
                  refine ⟨oc, n14, n10, n11, ccl, cl, od, cdd, cld, n12, osl, ccs, csl, cda, cc, d.qual, f, tf, vs, d.params, ns, mo, ar, es, ss, p0, p1, p2, p3, p4, .none, n9, ?_, c1, hcda, hvs, c2, hcc, s3, s4, s5, s6, s7, ?_, s8, s9, s10, s11, s12, ok.lk⟩
                  · rw [← s1, ← s2]
                  · intro s x us hu
                    rw [← s1, ← s2]
                    exact ok.bd s x us _ _ _ _ _ _ _ hu
                · cases d2
          · cases c2
        · cases c2
      | _ => cases c1
    | _ => cases hb
/-! ### the Hook -/
def asY (g : Addr → Option Obj) : Nat → List Addr
  | 0 => [mainGlobals, cStatics]
  | n + 1 => He.growD g (asY g n)
abbrev AlY : Type := Bool × List He.FnW × List IniW
structure Hk where
  m : Md
  file : Str
  ini : List IniD
def Fd.dd (f : Fd) : He.DefD := ⟨(f.df.name, none), f.df.name, f.df.name, f.params, f.body, f.scope, [], []⟩
def boolY (k : Hk) (K : PySem.W.Frag) : Bool :=
  (k.m.fs.all fun f => f.dd.ok K && (He.Fa.glo f.df.name).ok K) && ((k.m.cs.all fun q => cstOk K q) && ((k.m.free.all fun x => (He.Fa.free x).ok K) && ((k.m.cls.all fun x => clOk K x) && ((k.m.T.all fun q => tabOk K q && ecB K q.1) && ((k.m.flds.all fun f => k.m.T.all fun q => decide (PySem.W.findIn K (.ref (He.ga K q.1)) f = some none)) && k.ini.all fun d => iniB K k.file d)))))
def obsY (k : Hk) (K : PySem.W.Frag) : AlY := (boolY k K, k.m.fs.map (fun f => He.fnW K (f.df.name, none)), k.ini.map fun d => iniW K d.cls)
def valY (k : Hk) : AlY := (true, k.m.fs.map (fun f => f.dd.val), k.ini.map IniD.val)
def hookY (n : Nat) (k : Hk) : PySem.W.Hook where
  α := AlY
  obs := fun s => obsY k (He.frG s.heap.get? (asY s.heap.get? n))
  val := fun _ => valY k
  says := fun _ h => ∃ K : PySem.W.Frag, K.In h ∧ obsY k K = valY k
  of := fun _ _ e => ⟨_, He.frG_in, e⟩
  keeps := fun _ _ _ ⟨K, hK, c⟩ kk => ⟨K, PySem.W.Frag.In.keeps hK kk, c⟩
def obY (n : Nat) (k : Hk) (s : PySem.W.SharedT) : AlY := obsY k (He.frG (HandSHeadRun.getT s) (asY (HandSHeadRun.getT s) n))
theorem obY_eq (n : Nat) (k : Hk) (s : PySem.W.SharedT) : obY n k s = (hookY n k).obs s.abs := by
  have e : HandSHeadRun.getT s = s.abs.heap.get? := funext (HandSHeadRun.getT_eq s)
  unfold obY
  rw [e] <;> rfl
/-- how the defs bind -/
structure BdOk (f : Fd) : Prop where
  b : ∀ (kV doc pm : Value) (an : Option Addr) (cdv ct : Value) (us : List Value), us.length = f.ps.length → bindArgs (PySem.W.fnOf f.df.name f.df.name f.params f.body f.scope .none kV doc pm an cdv ct) ⟨us, []⟩ = pure (f.ps.zip us)
  k : ∀ q ∈ f.kws, ∀ (kV doc pm : Value) (an : Option Addr) (cdv ct : Value) (us ws : List Value), us.length = q.1 → ws.length = q.2.1.length → bindArgs (PySem.W.fnOf f.df.name f.df.name f.params f.body f.scope .none kV doc pm an cdv ct) ⟨us, q.2.1.zip ws⟩ = pure (f.ps.zip (permG q.2.2 (us ++ ws)))
theorem all_get {α β : Type} {l : List α} {f g : α → β} (h : l.map f = l.map g) {x : α} (hx : x ∈ l) : f x = g x := by
  induction l with
  | nil => cases hx
  | cons a r ih =>
    obtain ⟨h1, h2⟩ := List.cons.inj h
    rcases List.mem_cons.mp hx with rfl | hx
    · exact h1
    · exact ih h2 hx
theorem mdOk {K : PySem.W.Frag} {h : Heap} {mg : Str → Option Value} {prog : Program} {k : Hk} (X : K.In h) (G : h.Ns mainGlobals mg) (c : obsY k K = valY k) (hfile : k.file = prog.main.file) (top : (prog.main.scope.names.lookup ("super" : Str)).isSome = false)
    (bd : ∀ f ∈ k.m.fs, BdOk f) (io : ∀ d ∈ k.ini, IniOk d) (ie : ∀ x fs, (x, fs) ∈ k.m.errs → ∃ d ∈ k.ini, d.cls = x ∧ d.fs = fs) : MdOk K mg prog k.m ∧ ∀ f ∈ k.m.fs, ∃ fd, FunD K f.df.name f.df.name f.params f.body f.scope [] [] (He.ga K f.df.name) fd := by
  have c1 : boolY k K = true := congrArg (fun z : AlY => z.1) c
  have c2 : k.m.fs.map (fun f => He.fnW K (f.df.name, none)) = k.m.fs.map (fun f => f.dd.val) := congrArg (fun z : AlY => z.2.1) c
  have c3 : k.ini.map (fun d => iniW K d.cls) = k.ini.map IniD.val := congrArg (fun z : AlY => z.2.2) c
  unfold boolY at c1
  obtain ⟨d1, c1⟩ := b2 c1
  obtain ⟨d2, c1⟩ := b2 c1
  obtain ⟨d3, c1⟩ := b2 c1
  obtain ⟨d4, c1⟩ := b2 c1
  obtain ⟨d5, c1⟩ := b2 c1
  obtain ⟨d6, d7⟩ := b2 c1
  have tab : ∀ c' x b, subOf k.m.T c' x = some b → tabOk K (c', x, b) = true ∧ ecB K c' = true ∧ ∀ f ∈ k.m.flds, PySem.W.findIn K (.ref (He.ga K c')) f = some none := fun c' x b e => by
    unfold subOf at e
    cases z : k.m.T.find? (fun p => decide (p.1 = c') && decide (p.2.1 = x)) with
    | none => rw [z] at e; cases e
    | some q =>
      rw [z] at e
      obtain ⟨q1, q2, q3⟩ := q
      have e3 : q3 = b := Option.some.inj e
      have hm := List.mem_of_find?_eq_some z
      have hp := List.find?_some z
      obtain ⟨p1, p2⟩ := b2 hp
      have e1 : q1 = c' := of_decide_eq_true p1
      have e2 : q2 = x := of_decide_eq_true p2
      subst e1 e2 e3
      obtain ⟨t1, t2⟩ := b2 (List.all_eq_true.mp d5 _ hm)
      exact ⟨t1, t2, fun f hf => of_decide_eq_true (List.all_eq_true.mp (List.all_eq_true.mp d6 f hf) _ hm)⟩
  have fun_ : ∀ f ∈ k.m.fs, ∃ fd, FunD K f.df.name f.df.name f.params f.body f.scope [] [] (He.ga K f.df.name) fd := fun f hf => by
    obtain ⟨t1, t2⟩ := b2 (List.all_eq_true.mp d1 f hf)
    exact He.DefD.funD (d := f.dd) (all_get c2 hf) t1
  refine ⟨{ fn := fun f hf => ?_, cst := fun q hq => ?_, free := fun x hx => He.free_ok X G (List.all_eq_true.mp d3 x hx), cl := fun x hx => ?_, ec := fun c' x b e => ecB_ok (tab c' x b e).2.1, fl := fun f hf c' x b e => (tab c' x b e).2.2 f hf, er := fun x fs hx => ?_ }, fun_⟩
  · obtain ⟨t1, t2⟩ := b2 (List.all_eq_true.mp d1 f hf)
    obtain ⟨fd, F⟩ := fun_ f hf
    refine ⟨He.glo_ok X G t2, fd, F, F.bindsN (bd f hf).b, fun q hq => ?_⟩
    obtain ⟨oc, od, dV, kV, doc, pm, an, cdv, ct, osl, rfl, lk, hcd, hD, hK⟩ := F.ex
    rcases hD with ⟨_, rfl⟩ | ⟨e, _⟩
    · exact fun s us ws _ l1 l2 => .of_eq ((bd f hf).k q hq kV doc pm an cdv ct us ws l1 l2)
    · exact absurd rfl e
  · have z := List.all_eq_true.mp d2 q hq
    unfold cstOk at z
    split at z
    · rename_i u hu
      obtain ⟨v, r, p⟩ := repB_ok q.2 z
      exact ⟨v, u, PySem.W.mg_of X G hu, r, p⟩
    · cases z
  · have z := List.all_eq_true.mp d4 x hx
    unfold clOk at z
    obtain ⟨z1, z2⟩ := b2 z
    refine ⟨by simpa using z1, ?_⟩
    by_cases hb : bltCls x = true
    · rw [if_pos hb] at z2
      have ex : x = "ValueError" := of_decide_eq_true hb
      have eu : clU K x = .type "ValueError" := by unfold clU; rw [if_pos hb]
      refine ⟨.ty "ValueError", .type "ValueError", .inr ⟨PySem.W.mg_none_of X G (He.eqO_ok z2), by rw [ex]; exact PyProof.Rows.Boot.«ValueError», by rw [ex]; decide, "ValueError", rfl, rfl⟩, fun c' b e => ?_, fun c' b e => ?_⟩
      · have t := (tab c' x b e).1
        unfold tabOk at t
        rw [eu] at t
        exact of_decide_eq_true (b2 t).1
      · have t := (tab c' x b e).1
        unfold tabOk at t
        rw [eu] at t
        exact of_decide_eq_true (b2 t).2
    · rw [if_neg hb] at z2
      have eu : clU K x = .ref (He.ga K x) := by unfold clU; rw [if_neg hb]
      refine ⟨.ref (He.ga K x), .ref (He.ga K x), .inl ⟨PySem.W.mg_of X G (He.eqO_ok z2), _, rfl, rfl⟩, fun c' b e => ?_, fun c' b e => ?_⟩
      · have t := (tab c' x b e).1
        unfold tabOk at t
        rw [eu] at t
        exact of_decide_eq_true (b2 t).1
      · have t := (tab c' x b e).1
        unfold tabOk at t
        rw [eu] at t
        exact of_decide_eq_true (b2 t).2
  · obtain ⟨d, hd, rfl, rfl⟩ := ie x fs hx
    have z := List.all_eq_true.mp d7 d hd
    rw [hfile] at z
    exact iniB_ok X G z (all_get c3 hd) (io d hd) top
end Ly
end
section
set_option Elab.async false
set_option linter.all false
set_option maxRecDepth 100000
set_option maxHeartbeats 4000000
/-! Ly19: a law's end, CX by the world. -/
namespace Ly
open PySem PySem.Spec PyProof.Rows L2
theorem walk_ofW {l : PySem.W.OpenLaw} {n k : Nat} {q : Program} {loose : List Str} {XP : (Str → Option Value) → Heap → Prop} {YP : World → Heap → Prop} {d : DefRec} {CX : World → CXT} {x : Str}
    (hn : l.most = some n) (hn2 : n ≤ sizeLine) (hdf : d.params.defaults = []) (hr : Room k callerA)
    (F : ∀ (w : World) (mg : Str → Option Value) (fa : Addr) (h : Heap), YP w h → h.Ns mainGlobals mg → mg d.name = some (.ref fa) →
      ∃ (K : PySem.W.Frag) (fd : FuncData) (sp : Sp), K.In h ∧ (∀ (s : Shared) (u : Value), BindsTo s fd ⟨[u], []⟩ [(x, u)]) ∧
        (∀ (H : Hp) (a : Addr) (ns : List Int), ns.length ≤ n → Only H → SqL K H a (ns.map V.int) → sp [.ref a] H (fun v _ => v = .bl true) fun _ _ _ => False) ∧
        ∀ base : Heap, K.In base → base.Ns mainGlobals mg → FnOk l.prog w K mg base (CX w) k fa fd [x] sp)
    (hCX : ∀ (w : World) (H : Hp) (s : Shared) (e : Value) (s' : Shared), CX w [] H s (fun _ _ _ => False) e s' → False) :
    PySem.W.WalkO q loose XP YP l.row.toRowW d [] (fun f vs => PySem.call f vs) := by
  refine Att.attach_call hn hdf fun w s₀ s₁ mg mb fa o pm cd doc a vs ns G Y ho hd hcd hmg hobj hints hlen hg => ?_
  obtain ⟨K, fd, sp, KX, hb, hsp, hF⟩ := F w mg fa _ Y G.T.g hmg
  exact law_call KX G.T.g G.T.b G.T.builtins G.T.nolimit hg hobj hints (Nat.le_trans hlen hn2) hr hF hb (fun H hO hS => hsp H a ns hlen hO hS) fun H e s' => hCX w H s₁ e s'
/-- a law by its program of the interpreter: f, the law's def, the li-th -/
theorem law_end {l : PySem.W.OpenLaw} {n k : Nat} {q : Program} {loose : List Str} {XP : (Str → Option Value) → Heap → Prop} {d : DefRec} {hk : Hk} {g li : Nat} {f : Fd} {x : Str}
    (hn : l.most = some n) (hn2 : n ≤ sizeLine) (hdf : d.params.defaults = []) (hr : Room k callerA) (hfile : hk.file = l.prog.main.file) (top : (l.prog.main.scope.names.lookup ("super" : Str)).isSome = false)
    (bd : ∀ f ∈ hk.m.fs, BdOk f) (io : ∀ d ∈ hk.ini, IniOk d) (ie : ∀ x fs, (x, fs) ∈ hk.m.errs → ∃ d ∈ hk.ini, d.cls = x ∧ d.fs = fs) (hm : hk.m.ok = true) (hf : hk.m.fs[li]? = some f) (hps : f.ps = [x]) (hdn : d.name = f.df.name)
    (hlaw : ∀ ns : List Int, ns.length ≤ n → ∃ h, callN hk.m.T hk.m.P k li [.rol (ns.map D.int)] [] = .ok (.bl true) h) :
    PySem.W.WalkO q loose XP (hookY g hk).says l.row.toRowW d [] (fun f vs => PySem.call f vs) := by
  refine walk_ofW (x := x) (CX := fun w => L2.CX l.prog w) hn hn2 hdf hr (fun w mg fa h Y G hmg => ?_) fun w H s e s' => cx_none H s e s'
  obtain ⟨K, KX, c⟩ := Y
  obtain ⟨M, hfun⟩ := mdOk KX G c hfile top bd io ie
  obtain ⟨fd, F⟩ := hfun f (List.mem_of_getElem? hf)
  obtain ⟨hmf, _⟩ := M.fn f (List.mem_of_getElem? hf)
  rw [hdn] at hmg
  have e := hmg.symm.trans hmf
  cases e
  have b := F.bindsA (bd f (List.mem_of_getElem? hf)).b
  refine ⟨K, fd, spF K 1 (callN hk.m.T hk.m.P k li), KX, fun s u => ?_, fun H a ns hl ho hs => ?_, fun base KB GB => ?_⟩
  · have z := b s [u] (by rw [hps]; rfl)
    rw [hps] at z
    exact z
  · obtain ⟨h', hh⟩ := hlaw ns hl
    exact law_sp ho hs hh
  · have z := fnOk (P := l.prog) (w := w) (base := base) M hm k li f fd hf F
    rw [hps] at z
    exact z
end Ly
end
section
set_option Elab.async false
set_option linter.all false
set_option maxRecDepth 100000
set_option maxHeartbeats 1000000
/-! Ly20: plain laws of the interpreter. -/
namespace Ly
open PySem
theorem callN_eq {T : SubT} {P : List Df} {n f : Nat} {ds : List D} {h : AH} {d : Df} (e : P[f]? = some d) (hl : ds.length = d.np) : callN T P (n + 1) f ds h = endS (exec ⟨callN T P n, T, none⟩ d.body (startD d.N.length ds) h) := by
  show (match P[f]? with
    | some d => if ds.length = d.np then endS (exec ⟨callN T P n, T, none⟩ d.body (startD d.N.length ds) h) else .bad
    | none => .bad) = _
  rw [e]
  show (if ds.length = d.np then _ else R.bad) = _
  rw [if_pos hl]
/-- a loop that runs through or leaves by a return -/
theorem for_run {p : Pat} {b : Sg → AH → RS} {src : D} {xs : List D} (I : Nat → Sg → AH → Prop) (Out : RS → Prop) (hd : ∀ i σ h, I i σ h → draw h src i = some (xs[i]?))
    (step : ∀ i x σ h, xs[i]? = some x → I i σ h → ∃ σ1, bindP p x σ = some σ1 ∧ ((∃ σ' h', (b σ1 h = .nx σ' h' ∨ b σ1 h = .ct σ' h') ∧ I (i + 1) σ' h') ∨ (∃ d h', b σ1 h = .rt d h' ∧ Out (.rt d h')) ∨ (∃ σ' h', b σ1 h = .bk σ' h' ∧ Out (.nx σ' h'))))
    (fin : ∀ σ h, I xs.length σ h → Out (.nx σ h)) : ∀ (f i : Nat) (σ : Sg) (h : AH), i ≤ xs.length → xs.length < i + f → I i σ h → Out (forLoop p b src f i σ h)
  | 0, i, σ, h, h1, h2, _ => by omega
  | f + 1, i, σ, h, h1, h2, hI => by
    unfold forLoop
    rw [hd i σ h hI]
    cases e : xs[i]? with
    | none =>
      have : i = xs.length := by
        have := List.getElem?_eq_none_iff.mp e
        omega
      subst this
      exact fin σ h hI
    | some x =>
      have hlt : i < xs.length := (List.getElem?_eq_some_iff.mp e).1
      obtain ⟨σ1, e1, q⟩ := step i x σ h e hI
      dsimp only
      rw [e1]
      dsimp only
      rcases q with ⟨σ', h', q | q, hI'⟩ | ⟨d, h', q, o⟩ | ⟨σ', h', q, o⟩
      · rw [q]; exact for_run I Out hd step fin f (i + 1) σ' h' hlt (by omega) hI'
      · rw [q]; exact for_run I Out hd step fin f (i + 1) σ' h' hlt (by omega) hI'
      · rw [q]; exact o
      · rw [q]; exact o
/-- a loop that runs through -/
theorem for_inv {p : Pat} {b : Sg → AH → RS} {src : D} {xs : List D} (I : Nat → Sg → AH → Prop) (hd : ∀ i σ h, I i σ h → draw h src i = some (xs[i]?))
    (step : ∀ i x σ h, xs[i]? = some x → I i σ h → ∃ σ1, bindP p x σ = some σ1 ∧ ∃ σ' h', b σ1 h = .nx σ' h' ∧ I (i + 1) σ' h') (hl : xs.length < wf) {σ : Sg} {h : AH} (h0 : I 0 σ h) : ∃ σ' h', forLoop p b src wf 0 σ h = .nx σ' h' ∧ I xs.length σ' h' := by
  refine for_run I (fun r => ∃ σ' h', r = .nx σ' h' ∧ I xs.length σ' h') hd (fun i x σ h e hI => ?_) (fun σ h hI => ⟨σ, h, rfl, hI⟩) wf 0 σ h (Nat.zero_le _) (by omega) h0
  obtain ⟨σ1, e1, σ', h', q, hI'⟩ := step i x σ h e hI
  exact ⟨σ1, e1, .inl ⟨σ', h', .inl q, hI'⟩⟩
/-- the turns of a range -/
def rng (lo : Int) (n : Nat) : List D := (List.range n).map fun (i : Nat) => D.int (lo + (i : Int))
theorem rng_len (lo : Int) (n : Nat) : (rng lo n).length = n := by simp [rng]
theorem rng_get {lo : Int} {n i : Nat} {x : D} (h : (rng lo n)[i]? = some x) : x = .int (lo + i) ∧ i < n := by
  have hlt : i < n := by
    have := (List.getElem?_eq_some_iff.mp h).1
    rwa [rng_len] at this
  refine ⟨?_, hlt⟩
  unfold rng at h
  rw [List.getElem?_map, List.getElem?_range hlt] at h
  exact (Option.some.inj h).symm
theorem draw_rng {h : AH} {lo n : Int} (i : Nat) : draw h (.it 1 [.int lo, .int n]) i = some ((rng lo n.toNat)[i]?) := by
  show some (if i < n.toNat then some (D.int (lo + i)) else none) = _
  by_cases c : i < n.toNat
  · rw [if_pos c]
    unfold rng
    rw [List.getElem?_map, List.getElem?_range c]
    rfl
  · rw [if_neg c, List.getElem?_eq_none (by rw [rng_len]; omega)]
theorem draw_tup {h : AH} {ds : List D} (i : Nat) : draw h (.it 0 [.tup ds]) i = some (ds[i]?) := rfl
end Ly
end
section
set_option Elab.async false
set_option linter.all false
set_option maxRecDepth 100000
set_option maxHeartbeats 0
namespace K06
open PySem PySem.Spec PyProof.Rows L2 Ly
def top (i : Nat) : Stmt := PySem.Challenge.pw_linkneed_k06_whole_operations.main.body.getD i (.Pass ⟨0, 0, 0, 0⟩)
def clsBody : Stmt → List Stmt
  | .ClassDef _ _ _ b _ _ _ _ _ _ _ => b
  | _ => []
def sub (i j : Nat) : Stmt := (clsBody (top i)).getD j (.Pass ⟨0, 0, 0, 0⟩)
def c0 : CS := (.seq (.ret (.and_ (.isi (.var 0) [.int]) (.not_ (.isi (.var 0) [.bool]))))
    .skip)
def f0 : Fd := ⟨⟨"is_integer", ["thing"], 1, c0⟩, defArgs (top 10), defBody (top 10), defScope (top 10), ["thing"], []⟩
def c1 : CS := (.seq (.ret (.and_ (.call 0 (.cons (.var 0) .nil)) (.cmp .GtE (.var 0) (.cst (.int 0)))))
    .skip)
def f1 : Fd := ⟨⟨"is_number", ["thing"], 1, c1⟩, defArgs (top 11), defBody (top 11), defScope (top 11), ["thing"], []⟩
def c2 : CS := (.seq (.ret (.and_ (.call 1 (.cons (.var 0) .nil)) (.cmp .Lt (.var 0) (.cst (.int 65536)))))
    .skip)
def f2 : Fd := ⟨⟨"is_word", ["thing"], 1, c2⟩, defArgs (top 12), defBody (top 12), defScope (top 12), ["thing"], []⟩
def c3 : CS := (.seq (.ifS (.cmp .NotIn (.var 0) (.cst (.tup [.str "add", .str "sub", .str "mul", .str "div", .str "rem", .str "less", .str "same"]))) (.seq (.raise "NotUsable" ["word", "at"] (.cons (.cst (.str "operation")) (.cons (.neg (.cst (.int 1))) .nil)))
    .skip) .skip)
    (.seq (.ifS (.not_ (.tr (.call 2 (.cons (.var 1) .nil)))) (.seq (.raise "NotUsable" ["word", "at"] (.cons (.cst (.str "one")) (.cons (.neg (.cst (.int 1))) .nil)))
    .skip) .skip)
    (.seq (.ifS (.not_ (.tr (.call 2 (.cons (.var 2) .nil)))) (.seq (.raise "NotUsable" ["word", "at"] (.cons (.cst (.str "other")) (.cons (.neg (.cst (.int 1))) .nil)))
    .skip) .skip)
    (.seq (.ifS (.cmp .Eq (.var 0) (.cst (.str "less"))) (.seq (.ret (.ite (.cmp .Lt (.var 1) (.var 2)) (.cst (.int 1)) (.cst (.int 0))))
    .skip) .skip)
    (.seq (.ifS (.cmp .Eq (.var 0) (.cst (.str "same"))) (.seq (.ret (.ite (.cmp .Eq (.var 1) (.var 2)) (.cst (.int 1)) (.cst (.int 0))))
    .skip) .skip)
    (.seq (.ifS (.cmp .In (.var 0) (.tup (.cons (.cst (.str "div")) (.cons (.cst (.str "rem")) .nil)))) (.seq (.ret (.call 4 (.cons (.var 0) (.cons (.var 1) (.cons (.var 2) .nil)))))
    .skip) .skip)
    (.seq (.ret (.call 5 (.cons (.var 0) (.cons (.var 1) (.cons (.var 2) .nil)))))
    .skip)))))))
def f3 : Fd := ⟨⟨"operated", ["operation", "one", "other"], 3, c3⟩, defArgs (top 16), defBody (top 16), defScope (top 16), ["operation", "one", "other"], [(0, ["other", "operation", "one"], [1, 2, 0]), (0, ["one", "other", "operation"], [2, 0, 1])]⟩
def c4 : CS := (.seq (.ifS (.cmp .Eq (.var 2) (.cst (.int 0))) (.seq (.ret (.cst (.non)))
    .skip) .skip)
    (.seq (.asg (.tup (.cons (.v 3) (.cons (.v 4) .nil))) (.bi .divmod (.cons (.var 1) (.cons (.var 2) .nil))))
    (.seq (.ret (.ite (.cmp .Eq (.var 0) (.cst (.str "div"))) (.var 3) (.var 4)))
    .skip)))
def f4 : Fd := ⟨⟨"_divided", ["operation", "one", "other", "quotient", "rest"], 3, c4⟩, defArgs (top 17), defBody (top 17), defScope (top 17), ["operation", "one", "other"], []⟩
def c5 : CS := (.seq (.ifS (.cmp .Eq (.var 0) (.cst (.str "add"))) (.seq (.ret (.bop .Mod (.bop .Add (.var 1) (.var 2)) (.cst (.int 65536))))
    .skip) .skip)
    (.seq (.ifS (.cmp .Eq (.var 0) (.cst (.str "sub"))) (.seq (.ret (.bop .Mod (.bop .Sub (.var 1) (.var 2)) (.cst (.int 65536))))
    .skip) .skip)
    (.seq (.ret (.bop .Mod (.bop .Mult (.var 1) (.var 2)) (.cst (.int 65536))))
    .skip)))
def f5 : Fd := ⟨⟨"_wrapped", ["operation", "one", "other"], 3, c5⟩, defArgs (top 18), defBody (top 18), defScope (top 18), ["operation", "one", "other"], []⟩
def l6_0 : CS := (.seq (.asg (.v 2) (.bop .Mod (.bop .Mult (.var 2) (.cst (.int 48271))) (.cst (.int 2147483629))))
    (.seq (.ex (.mth .append (.var 1) (.cons (.bop .Mod (.bop .FloorDiv (.var 2) (.cst (.int 13))) (.cst (.int 5040))) .nil)))
    .skip))
def l6_1 : CS := (.seq (.ifS (.cmp .Gt (.var 6) (.cst (.int 0))) (.seq (.ex (.mth .append (.var 1) (.cons (.bop .Mod (.bi .int (.cons (.var 6) .nil)) (.cst (.int 5040))) .nil)))
    (.seq (.asg (.v 6) (.bop .FloorDiv (.var 6) (.cst (.int 5040))))
    .skip)) .skip)
    .skip)
def l6_2 : CS := (.seq (.asg (.v 5) (.sub (.var 0) (.var 3)))
    (.seq (.asg (.v 2) (.bop .Mod (.bop .Add (.bop .Add (.bop .Mult (.var 2) (.cst (.int 6949))) (.bop .Mult (.bop .Mod (.bi .int (.cons (.var 5) .nil)) (.cst (.int 1000003))) (.bop .Add (.var 3) (.cst (.int 3))))) (.cst (.int 397))) (.cst (.int 2147483629))))
    (.seq (.ifS (.cmp .GtE (.var 5) (.bop .Pow (.cst (.int 10)) (.cst (.int 18)))) (.seq (.asg (.v 6) (.var 5))
    (.seq (.for_ (.v 4) (.itr 1 (.cons (.cst (.int 60)) .nil)) l6_1)
    .skip)) .skip)
    .skip)))
def c6 : CS := (.seq (.asg (.v 1) (.lst .nil))
    (.seq (.asg (.v 2) (.cst (.int 0)))
    (.seq (.for_ (.v 3) (.itr 1 (.cons (.bi .len (.cons (.var 0) .nil)) .nil)) l6_2)
    (.seq (.for_ (.v 4) (.itr 1 (.cons (.cst (.int 300)) .nil)) l6_0)
    (.seq (.ex (.mth .reverse (.var 1) .nil))
    (.seq (.ret (.var 1))
    .skip))))))
def f6 : Fd := ⟨⟨"_law_tape", ["_law_script", "_law_tape_here", "_law_state", "_law_at", "_law_k", "_law_cell", "_law_rest"], 1, c6⟩, defArgs (top 20), defBody (top 20), defScope (top 20), ["_law_script"], []⟩
def c7 : CS := (.seq (.ifS (.cmp .Gt (.bi .len (.cons (.var 0) .nil)) (.cst (.int 0))) (.seq (.ret (.bop .Mod (.bi .int (.cons (.mth .pop (.var 0) .nil) .nil)) (.var 1)))
    .skip) .skip)
    (.seq (.ret (.cst (.int 0)))
    .skip))
def f7 : Fd := ⟨⟨"_law_take", ["_law_tape_here", "_law_many"], 2, c7⟩, defArgs (top 21), defBody (top 21), defScope (top 21), ["_law_tape_here", "_law_many"], []⟩
def c8 : CS := (.seq (.asg (.v 1) (.tup (.cons (.cst (.int 0)) (.cons (.cst (.int 1)) (.cons (.cst (.int 65535)) (.cons (.cst (.int 2)) (.cons (.cst (.int 32768)) (.cons (.cst (.int 3)) (.cons (.cst (.int 256)) (.cons (.cst (.int 255)) (.cons (.cst (.int 65534)) (.cons (.cst (.int 32767)) (.cons (.cst (.int 257)) (.cons (.cst (.int 32769)) .nil))))))))))))))
    (.seq (.asg (.v 2) (.call 7 (.cons (.var 0) (.cons (.cst (.int 8)) .nil))))
    (.seq (.ifS (.cmp .Lt (.var 2) (.cst (.int 4))) (.seq (.ret (.sub (.var 1) (.call 7 (.cons (.var 0) (.cons (.cst (.int 12)) .nil)))))
    .skip) .skip)
    (.seq (.ifS (.cmp .Eq (.var 2) (.cst (.int 4))) (.seq (.ret (.call 7 (.cons (.var 0) (.cons (.cst (.int 40)) .nil))))
    .skip) .skip)
    (.seq (.ret (.bop .Mod (.bi .int (.cons (.bop .Add (.bop .Mult (.call 7 (.cons (.var 0) (.cons (.cst (.int 5040)) .nil))) (.cst (.int 5040))) (.call 7 (.cons (.var 0) (.cons (.cst (.int 5040)) .nil)))) .nil)) (.cst (.int 65536))))
    .skip)))))
def f8 : Fd := ⟨⟨"_law_word", ["_law_tape_here", "_law_edges", "_law_sort"], 1, c8⟩, defArgs (top 22), defBody (top 22), defScope (top 22), ["_law_tape_here"], []⟩
def c9 : CS := (.seq (.ifS (.and_ (.cmp .In (.var 0) (.tup (.cons (.cst (.str "div")) (.cons (.cst (.str "rem")) .nil)))) (.cmp .Eq (.var 2) (.cst (.int 0)))) (.seq (.ret (.cmp .Is (.var 3) (.cst (.non))))
    .skip) .skip)
    (.seq (.ifS (.or_ (.not_ (.tr (.isi (.var 3) [.int]))) (.or_ (.tr (.isi (.var 3) [.bool])) (.or_ (.cmp .Lt (.var 3) (.cst (.int 0))) (.cmp .Gt (.var 3) (.cst (.int 65535)))))) (.seq (.ret (.cst (.bl false)))
    .skip) .skip)
    (.seq (.ifS (.cmp .Eq (.var 0) (.cst (.str "add"))) (.seq (.ret (.or_ (.cmp .Eq (.var 3) (.bop .Add (.var 1) (.var 2))) (.cmp .Eq (.bop .Add (.var 3) (.cst (.int 65536))) (.bop .Add (.var 1) (.var 2)))))
    .skip) .skip)
    (.seq (.ifS (.cmp .Eq (.var 0) (.cst (.str "sub"))) (.seq (.ret (.or_ (.cmp .Eq (.bop .Add (.var 3) (.var 2)) (.var 1)) (.cmp .Eq (.bop .Add (.var 3) (.var 2)) (.bop .Add (.var 1) (.cst (.int 65536))))))
    .skip) .skip)
    (.seq (.ifS (.cmp .Eq (.var 0) (.cst (.str "mul"))) (.seq (.ret (.cmp .Eq (.bop .Mod (.bi .int (.cons (.bop .Sub (.bop .Mult (.var 1) (.var 2)) (.var 3)) .nil)) (.cst (.int 65536))) (.cst (.int 0))))
    .skip) .skip)
    (.seq (.ifS (.cmp .Eq (.var 0) (.cst (.str "div"))) (.seq (.ret (.and_ (.cmp .LtE (.bop .Mult (.var 3) (.var 2)) (.var 1)) (.cmp .Lt (.var 1) (.bop .Add (.bop .Mult (.var 3) (.var 2)) (.var 2)))))
    .skip) .skip)
    (.seq (.ifS (.cmp .Eq (.var 0) (.cst (.str "rem"))) (.seq (.ret (.and_ (.cmp .Lt (.var 3) (.var 2)) (.cmp .Eq (.bop .Mod (.bi .int (.cons (.bop .Sub (.var 1) (.var 3)) .nil)) (.var 2)) (.cst (.int 0)))))
    .skip) .skip)
    (.seq (.ifS (.cmp .Eq (.var 0) (.cst (.str "less"))) (.seq (.ret (.cmp .Eq (.var 3) (.bi .len (.cons (.lc (.v 4) (.itr 0 (.cons (.tup (.cons (.bop .Sub (.var 1) (.var 2)) .nil)) .nil)) (.cmp .Lt (.var 4) (.cst (.int 0))) (.cst (.int 0))) .nil))))
    .skip) .skip)
    (.seq (.ret (.cmp .Eq (.var 3) (.bi .len (.cons (.lc (.v 4) (.itr 0 (.cons (.tup (.cons (.bop .Sub (.var 1) (.var 2)) .nil)) .nil)) (.cmp .Eq (.var 4) (.cst (.int 0))) (.cst (.int 0))) .nil))))
    .skip)))))))))
def f9 : Fd := ⟨⟨"_law_fits", ["_law_verb", "_law_first", "_law_second", "_law_told", "_law_k"], 4, c9⟩, defArgs (top 23), defBody (top 23), defScope (top 23), ["_law_verb", "_law_first", "_law_second", "_law_told"], []⟩
def l10_0 : CS := (.seq (.try_ (.seq (.ifS (.tr (.var 5)) (.seq (.ex (.mth .append (.var 4) (.cons (.callk 3 [1, 2, 0] .nil (.cons (.var 2) (.cons (.var 0) (.cons (.var 1) .nil)))) .nil)))
    .skip) (.seq (.ex (.mth .append (.var 4) (.cons (.call 3 (.cons (.var 0) (.cons (.var 1) (.cons (.var 2) .nil)))) .nil)))
    .skip))
    (.seq (.ret (.cst (.bl false)))
    .skip)) "NeedError" 6 (.seq (.ifS (.or_ (.not_ (.tr (.isE ["NotUsable"]))) (.or_ (.not_ (.tr (.isE ["UnitError"]))) (.not_ (.tr (.isE ["ValueError"]))))) (.seq (.ret (.cst (.bl false)))
    .skip) .skip)
    (.seq (.ifS (.tr (.isE ["LinkError", "LiveError", "PaperError", "TextError"])) (.seq (.ret (.cst (.bl false)))
    .skip) .skip)
    (.seq (.ifS (.or_ (.cmp .NotEq (.fld "word") (.var 3)) (.cmp .NotEq (.fld "at") (.neg (.cst (.int 1))))) (.seq (.ret (.cst (.bl false)))
    .skip) .skip)
    .skip))))
    .skip)
def c10 : CS := (.seq (.asg (.v 4) (.lst .nil))
    (.seq (.for_ (.v 5) (.itr 0 (.cons (.tup (.cons (.cst (.bl false)) (.cons (.cst (.bl true)) .nil))) .nil)) l10_0)
    (.seq (.ret (.cst (.bl true)))
    .skip)))
def f10 : Fd := ⟨⟨"_law_refused", ["_law_verb", "_law_first", "_law_second", "_law_name", "_law_told", "_law_by_name", "e"], 4, c10⟩, defArgs (top 24), defBody (top 24), defScope (top 24), ["_law_verb", "_law_first", "_law_second", "_law_name"], []⟩
def l11_0 : CS := (.seq (.asg (.v 7) (.sub (.var 3) (.call 7 (.cons (.var 0) (.cons (.cst (.int 7)) .nil)))))
    (.seq (.ifS (.not_ (.tr (.call 10 (.cons (.var 7) (.cons (.var 6) (.cons (.call 8 (.cons (.var 0) .nil)) (.cons (.cst (.str "one")) .nil))))))) (.seq (.ret (.cst (.bl false)))
    .skip) .skip)
    (.seq (.ifS (.not_ (.tr (.call 10 (.cons (.var 7) (.cons (.call 8 (.cons (.var 0) .nil)) (.cons (.var 6) (.cons (.cst (.str "other")) .nil))))))) (.seq (.ret (.cst (.bl false)))
    .skip) .skip)
    .skip)))
def l11_1 : CS := (.seq (.ifS (.not_ (.tr (.call 10 (.cons (.var 5) (.cons (.call 8 (.cons (.var 0) .nil)) (.cons (.call 8 (.cons (.var 0) .nil)) (.cons (.cst (.str "operation")) .nil))))))) (.seq (.ret (.cst (.bl false)))
    .skip) .skip)
    .skip)
def c11 : CS := (.seq (.asg (.v 1) (.tup (.cons (.cst (.str "")) (.cons (.cst (.str "Add")) (.cons (.cst (.str "number")) (.cons (.cst (.str "add ")) (.cons (.cst (.str "call")) (.cons (.cst (.str "plus")) (.cons (.cst (.non)) (.cons (.cst (.bl true)) (.cons (.cst (.int 3)) (.cons (.tup (.cons (.cst (.str "add")) .nil)) (.cons (.lst (.cons (.cst (.str "add")) .nil)) .nil)))))))))))))
    (.seq (.asg (.v 2) (.tup (.cons (.neg (.cst (.int 1))) (.cons (.cst (.int 65536)) (.cons (.cst (.bl true)) (.cons (.cst (.bl false)) (.cons (.cst (.non)) (.cons (.cst (.str "1")) (.cons (.cst (.str "")) (.cons (.tup .nil) (.cons (.tup (.cons (.cst (.int 5)) .nil)) (.cons (.lst (.cons (.cst (.int 7)) .nil)) (.cons (.bop .Pow (.cst (.int 10)) (.cst (.int 59))) (.cons (.neg (.cst (.int 65535))) .nil))))))))))))))
    (.seq (.asg (.v 3) (.tup (.cons (.cst (.str "add")) (.cons (.cst (.str "div")) (.cons (.cst (.str "sub")) (.cons (.cst (.str "rem")) (.cons (.cst (.str "mul")) (.cons (.cst (.str "less")) (.cons (.cst (.str "same")) .nil)))))))))
    (.seq (.asg (.v 4) (.call 7 (.cons (.var 0) (.cons (.cst (.int 12)) .nil))))
    (.seq (.for_ (.v 5) (.itr 0 (.cons (.var 1) .nil)) l11_1)
    (.seq (.for_ (.v 6) (.itr 0 (.cons (.var 2) .nil)) l11_0)
    (.seq (.asg (.v 7) (.sub (.var 3) (.call 7 (.cons (.var 0) (.cons (.cst (.int 7)) .nil)))))
    (.seq (.ifS (.not_ (.tr (.call 10 (.cons (.sub (.var 1) (.bop .Sub (.var 4) (.bop .FloorDiv (.var 4) (.cst (.int 11))))) (.cons (.sub (.var 2) (.var 4)) (.cons (.cst (.int 1)) (.cons (.cst (.str "operation")) .nil))))))) (.seq (.ret (.cst (.bl false)))
    .skip) .skip)
    (.seq (.ifS (.not_ (.tr (.call 10 (.cons (.sub (.var 1) (.cst (.int 0))) (.cons (.cst (.int 0)) (.cons (.sub (.var 2) (.var 4)) (.cons (.cst (.str "operation")) .nil))))))) (.seq (.ret (.cst (.bl false)))
    .skip) .skip)
    (.seq (.ret (.call 10 (.cons (.var 7) (.cons (.sub (.var 2) (.var 4)) (.cons (.sub (.var 2) (.bop .Sub (.cst (.int 11)) (.var 4))) (.cons (.cst (.str "one")) .nil))))))
    .skip))))))))))
def f11 : Fd := ⟨⟨"_law_all_refused", ["_law_tape_here", "_law_kinds", "_law_things", "_law_names", "_law_at", "_law_kind", "_law_thing", "_law_name"], 1, c11⟩, defArgs (top 25), defBody (top 25), defScope (top 25), ["_law_tape_here"], []⟩
def l12_0 : CS := (.seq (.ifS (.cmp .Lt (.var 2) (.cst (.int 24))) (.seq (.asg (.v 6) (.call 3 (.cons (.var 5) (.cons (.var 3) (.cons (.var 4) .nil)))))
    .skip) (.seq (.asg (.v 6) (.callk 3 [2, 0, 1] .nil (.cons (.var 3) (.cons (.var 4) (.cons (.var 5) .nil)))))
    .skip))
    (.seq (.ifS (.not_ (.tr (.call 9 (.cons (.var 5) (.cons (.var 3) (.cons (.var 4) (.cons (.var 6) .nil))))))) (.seq (.ret (.cst (.bl false)))
    .skip) .skip)
    .skip))
def l12_1 : CS := (.seq (.asg (.v 3) (.call 8 (.cons (.var 1) .nil)))
    (.seq (.asg (.v 4) (.call 8 (.cons (.var 1) .nil)))
    (.seq (.ifS (.cmp .Eq (.call 7 (.cons (.var 1) (.cons (.cst (.int 9)) .nil))) (.cst (.int 4))) (.seq (.asg (.v 4) (.var 3))
    .skip) .skip)
    (.seq (.for_ (.v 5) (.itr 0 (.cons (.tup (.cons (.cst (.str "add")) (.cons (.cst (.str "sub")) (.cons (.cst (.str "mul")) (.cons (.cst (.str "div")) (.cons (.cst (.str "rem")) (.cons (.cst (.str "less")) (.cons (.cst (.str "same")) .nil)))))))) .nil)) l12_0)
    .skip))))
def c12 : CS := (.seq (.asg (.v 1) (.call 6 (.cons (.var 0) .nil)))
    (.seq (.for_ (.v 2) (.itr 1 (.cons (.cst (.int 30)) .nil)) l12_1)
    (.seq (.ret (.call 11 (.cons (.var 1) .nil)))
    .skip)))
def f12 : Fd := ⟨⟨"law", ["_law_script", "_law_tape_here", "_law_turn", "_law_first", "_law_second", "_law_verb", "_law_told"], 1, c12⟩, defArgs (top 26), defBody (top 26), defScope (top 26), ["_law_script"], []⟩
def m : Md where
  fs := [f0, f1, f2, f3, f4, f5, f6, f7, f8, f9, f10, f11, f12]
  cs := [("WORDS_kinds", .int 65536), ("OPERATIONS", .tup [.str "add", .str "sub", .str "mul", .str "div", .str "rem", .str "less", .str "same"]), ("WORDS_operations", .int 65536)]
  free := ["bool", "divmod", "int", "isinstance", "len", "range"]
  cls := ["LinkError", "LiveError", "NeedError", "NotUsable", "PaperError", "TextError", "UnitError", "ValueError"]
  flds := ["at", "word"]
  errs := [("NotUsable", ["word", "at"])]
  T := [("NotUsable", "LinkError", false), ("NotUsable", "LiveError", false), ("NotUsable", "NeedError", true), ("NotUsable", "NotUsable", true), ("NotUsable", "PaperError", false), ("NotUsable", "TextError", false), ("NotUsable", "UnitError", true), ("NotUsable", "ValueError", true)]
theorem ok0 : m.okF f0 = true := by kernel_rfl
theorem ok1 : m.okF f1 = true := by kernel_rfl
theorem ok2 : m.okF f2 = true := by kernel_rfl
theorem ok3 : m.okF f3 = true := by kernel_rfl
theorem ok4 : m.okF f4 = true := by kernel_rfl
theorem ok5 : m.okF f5 = true := by kernel_rfl
theorem ok6 : m.okF f6 = true := by kernel_rfl
theorem ok7 : m.okF f7 = true := by kernel_rfl
theorem ok8 : m.okF f8 = true := by kernel_rfl
theorem ok9 : m.okF f9 = true := by kernel_rfl
theorem ok10 : m.okF f10 = true := by kernel_rfl
theorem ok11 : m.okF f11 = true := by kernel_rfl
theorem ok12 : m.okF f12 = true := by kernel_rfl
theorem m_ok : m.ok = true := by
  unfold Md.ok m
  simp only [List.all_cons, List.all_nil, Bool.and_true, Bool.and_eq_true]
  exact ⟨ok0, ok1, ok2, ok3, ok4, ok5, ok6, ok7, ok8, ok9, ok10, ok11, ok12⟩
def e0 : IniD := ⟨"NotUsable", ["word", "at"], "NotUsable.__init__", defArgs (sub 7 0), defBody (sub 7 0), defScope (sub 7 0)⟩
theorem io0 : IniOk e0 where
  sm := by decide
  nz := by decide
  tx := ⟨_, _, _, _, _, _, _, _, _, _, rfl, rfl, rfl, rfl, rfl, (.cons (.cons .nil)), (.cons (.cons .nil)), by decide +kernel, by kernel_rfl, by decide +kernel, by kernel_rfl, by kernel_rfl⟩
  bd := fun s x us _ _ _ _ _ _ _ hu => match us, hu with | [_, _], _ => .of_eq rfl
  lk := fun x us hu => match us, hu with | [_, _], _ => ⟨rfl, rfl, by decide, rfl, by decide, trivial⟩
def k : Hk := ⟨m, PySem.Challenge.pw_linkneed_k06_whole_operations.main.file, [e0]⟩
theorem bd0 : BdOk f0 where
  b := fun _ _ _ _ _ _ us hl => match us, hl with | [_], _ => rfl
  k := fun _ h => by cases h
theorem bd1 : BdOk f1 where
  b := fun _ _ _ _ _ _ us hl => match us, hl with | [_], _ => rfl
  k := fun _ h => by cases h
theorem bd2 : BdOk f2 where
  b := fun _ _ _ _ _ _ us hl => match us, hl with | [_], _ => rfl
  k := fun _ h => by cases h
theorem bd3 : BdOk f3 where
  b := fun _ _ _ _ _ _ us hl => match us, hl with | [_, _, _], _ => rfl
  k := fun q h => by
    simp only [f3, List.mem_cons, List.not_mem_nil, or_false] at h
    rcases h with rfl | rfl
    · exact fun _ _ _ _ _ _ us ws h1 h2 => match us, ws, h1, h2 with | [], [_, _, _], _, _ => rfl
    · exact fun _ _ _ _ _ _ us ws h1 h2 => match us, ws, h1, h2 with | [], [_, _, _], _, _ => rfl
theorem bd4 : BdOk f4 where
  b := fun _ _ _ _ _ _ us hl => match us, hl with | [_, _, _], _ => rfl
  k := fun _ h => by cases h
theorem bd5 : BdOk f5 where
  b := fun _ _ _ _ _ _ us hl => match us, hl with | [_, _, _], _ => rfl
  k := fun _ h => by cases h
theorem bd6 : BdOk f6 where
  b := fun _ _ _ _ _ _ us hl => match us, hl with | [_], _ => rfl
  k := fun _ h => by cases h
theorem bd7 : BdOk f7 where
  b := fun _ _ _ _ _ _ us hl => match us, hl with | [_, _], _ => rfl
  k := fun _ h => by cases h
theorem bd8 : BdOk f8 where
  b := fun _ _ _ _ _ _ us hl => match us, hl with | [_], _ => rfl
  k := fun _ h => by cases h
theorem bd9 : BdOk f9 where
  b := fun _ _ _ _ _ _ us hl => match us, hl with | [_, _, _, _], _ => rfl
  k := fun _ h => by cases h
theorem bd10 : BdOk f10 where
  b := fun _ _ _ _ _ _ us hl => match us, hl with | [_, _, _, _], _ => rfl
  k := fun _ h => by cases h
theorem bd11 : BdOk f11 where
  b := fun _ _ _ _ _ _ us hl => match us, hl with | [_], _ => rfl
  k := fun _ h => by cases h
theorem bd12 : BdOk f12 where
  b := fun _ _ _ _ _ _ us hl => match us, hl with | [_], _ => rfl
  k := fun _ h => by cases h
theorem bds : ∀ f ∈ k.m.fs, BdOk f := by
  intro f hf
  simp only [k, m, List.mem_cons, List.not_mem_nil, or_false] at hf
  rcases hf with rfl | rfl | rfl | rfl | rfl | rfl | rfl | rfl | rfl | rfl | rfl | rfl | rfl
  · exact bd0
  · exact bd1
  · exact bd2
  · exact bd3
  · exact bd4
  · exact bd5
  · exact bd6
  · exact bd7
  · exact bd8
  · exact bd9
  · exact bd10
  · exact bd11
  · exact bd12
theorem ios : ∀ d ∈ k.ini, IniOk d := by
  intro d hd
  simp only [k, List.mem_cons, List.not_mem_nil, or_false] at hd
  subst hd
  · exact io0
theorem ies : ∀ x fs, (x, fs) ∈ k.m.errs → ∃ d ∈ k.ini, d.cls = x ∧ d.fs = fs := by
  intro x fs h
  simp only [k, m, List.mem_cons, List.not_mem_nil, or_false, Prod.mk.injEq] at h
  rcases h with ⟨rfl, rfl⟩
  · exact ⟨e0, by simp [k], rfl, rfl⟩
abbrev R : PySem.W.OpenRow := PySem.W.OpenLaw.row PySem.Challenge.rw_linkneed_k06_whole_operations
def loose : List Str := ["NeedError", "PaperError", "UnitError", "LinkError", "LiveError", "TextError", "NotUsable", "WORDS_kinds", "is_integer", "is_number", "is_word", "OPERATIONS", "WORDS_operations", "operated", "_divided", "_wrapped", "_law_tape", "_law_take", "_law_word", "_law_fits", "_law_refused", "_law_all_refused"]
theorem run (w : World) : HandSHeadRun.RunEq R (PySem.W.view R.prog [26]) (hookY 6 k) (obY 6 k) 3000 loose w := by
  intro os
  kernel_rfl
/-- the law, said of the interpreter -/
def LawOk (n : Nat) : Prop := ∀ ns : List Int, ns.length ≤ 63 → ∃ h, callN m.T m.P n 12 [.rol (ns.map D.int)] [] = .ok (.bl true) h
end K06
open PySem PySem.W PySem.Calls PyProof.Rows
theorem K06.law_holds (hlaw : K06.LawOk 12) : PySem.Challenge.rw_linkneed_k06_whole_operations.Holds := by
  w_on; o_law
  refine HandSHeadRun.head_any (r := OpenLaw.row PySem.Challenge.rw_linkneed_k06_whole_operations) (q := view (OpenLaw.row PySem.Challenge.rw_linkneed_k06_whole_operations).prog [26]) (H := Ly.hookY 6 K06.k) (ob := Ly.obY 6 K06.k) (M := 3000) (loose := K06.loose) (d := HandSHeadRun.topDef (OpenLaw.row PySem.Challenge.rw_linkneed_k06_whole_operations).prog 26) (kwd := []) (Ly.obY_eq 6 K06.k)
    (by kernel_rfl) (fun s => by kernel_rfl) K06.run (by kernel_rfl) (by kernel_rfl) (by kernel_rfl) (by rfl) (by first | assumption | decide +kernel) (by decide +kernel) ⟨rfl, rfl, rfl, rfl, rfl, by decide +kernel⟩ ?hw ?hc
  case hw => w_witness2
  case hc => exact Ly.law_end (l := PySem.Challenge.rw_linkneed_k06_whole_operations) (n := 63) (k := 12) (hk := K06.k) (g := 6) (li := 12) (f := K06.f12) (x := "_law_script") rfl (by decide) (by kernel_rfl) ⟨rfl, by decide, by decide⟩ rfl (by kernel_rfl) K06.bds K06.ios K06.ies K06.m_ok rfl rfl (by kernel_rfl) hlaw
end
section
set_option Elab.async false
set_option linter.all false
set_option maxRecDepth 100000
set_option maxHeartbeats 2000000
namespace Q06
open Ly
open K06 (m f0 f1 f2 f3 f4 f5 f6 f7 f8 f9 f10 f11 f12 c0 c1 c2 c3 c4 c5 c6 c7 c8 c9 c10 c11 c12)
noncomputable abbrev cN (n : Nat) : Nat → List D → AH → R D := callN m.T m.P n
theorem is_integer_s {n : Nat} {d : D} {h : AH} {t : Bt} (ht : tyOf h d = some t) : cN (n + 1) 0 [d] h = .ok (.bl (t.sub .int && !t.sub .bool)) h := by
  rw [show cN (n + 1) 0 [d] h = _ from callN_eq (d := f0.df) rfl rfl]
  simp [f0, c0, exec, ev, evS, seqS, endS, R.bind, ht, startD]
  cases t <;> rfl
/-- is a word -/
def isW : D → Bool
  | .int i => decide (0 ≤ i) && decide (i < 65536)
  | _ => false
theorem is_word_s {n : Nat} {d : D} {h : AH} {t : Bt} (ht : tyOf h d = some t) : cN (n + 3) 2 [d] h = .ok (.bl (isW d)) h := by
  have e0 := is_integer_s (n := n) ht
  have e1 : cN (n + 2) 1 [d] h = .ok (.bl (match d with | .int i => decide (0 ≤ i) | _ => false)) h := by
    rw [show cN (n + 2) 1 [d] h = _ from callN_eq (d := f1.df) rfl rfl]
    simp only [f1, c1, exec, ev, evS, seqS, endS, R.bind, startD, List.map_cons, List.map_nil, List.length_cons, List.length_nil, List.cons_append, List.nil_append, List.getElem?_cons_zero]
    rw [show callN m.T m.P (n + 1) 0 [d] h = _ from e0]
    cases d <;> cases t <;> first
      | rfl
      | (cases ht; done)
      | (simp [tyOf] at ht; done)
      | skip
    all_goals (revert ht; simp [tyOf]; split <;> simp)
  rw [show cN (n + 3) 2 [d] h = _ from callN_eq (d := f2.df) rfl rfl]
  simp only [f2, c2, exec, ev, evS, seqS, endS, R.bind, startD, List.map_cons, List.map_nil, List.length_cons, List.length_nil, List.cons_append, List.nil_append, List.getElem?_cons_zero]
  rw [show callN m.T m.P (n + 2) 1 [d] h = _ from e1]
  cases d with
  | int i =>
    by_cases c : 0 ≤ i
    · simp [c, isW, cmpS, okB]
    · simp [c, isW]
  | _ => rfl
end Q06
end
section
set_option Elab.async false
set_option linter.all false
set_option maxRecDepth 100000
set_option maxHeartbeats 4000000
namespace Q06
open Ly
open K06 (m f6 f7 f8 c6 c7 c8 l6_0 l6_1 l6_2)
abbrev zs (ts : List Int) : List D := ts.map D.int
theorem zs_get {ns : List Int} {i : Nat} (h : i < ns.length) : (zs ns)[i]? = some (D.int (ns[i])) := by
  rw [List.getElem?_map, List.getElem?_eq_getElem h]; rfl
theorem ixOf_nat {n i : Nat} (h : i < n) : ixOf n (i : Int) = some i := by
  unfold ixOf L2.ixN
  simp [h]
theorem mulOkR (i j : Int) (h : -two64 < j ∧ j < two64) : mulOk i j = true := by
  unfold mulOk
  simp [h.1, h.2]
theorem inner {g : Gs} {a0 a2 a3 a4 a5 : Option D} {r : Int} {ts : List Int} {L : Nat} (hL : L ≤ 10000) (hts : ts.length ≤ L) : ∃ σ' h', forLoop (.v 4) (exec g l6_1) (.it 1 [.int 0, .int 60]) wf 0 [a0, some (.ref 0), a2, a3, a4, a5, some (.int r)] [.lst (zs ts)] = .nx σ' h' ∧ ∃ x4 r' ts', σ' = [a0, some (.ref 0), a2, a3, x4, a5, some (.int r')] ∧ h' = [.lst (zs ts')] ∧ ts'.length ≤ L + 60 := by
  refine for_inv (xs := rng 0 60) (fun i σ h => ∃ x4 r' ts', σ = [a0, some (.ref 0), a2, a3, x4, a5, some (.int r')] ∧ h = [.lst (zs ts')] ∧ ts'.length ≤ L + i) (fun i σ h _ => draw_rng i) (fun i x σ h e hI => ?_) (by rw [rng_len]; exact lt_wf (by decide)) ⟨a4, r, ts, rfl, rfl, hts⟩
  obtain ⟨x4, r', ts', rfl, rfl, hl⟩ := hI
  obtain ⟨rfl, hi⟩ := rng_get e
  refine ⟨_, rfl, ?_⟩
  have hlt : ts'.length < 16777216 := by omega
  by_cases c : 0 < r'
  · refine ⟨[a0, some (.ref 0), a2, a3, some (.int (0 + (i : Int))), a5, some (.int (r' / 5040))], [.lst (zs (ts' ++ [r' % 5040]))], ?_, _, _, _, rfl, rfl, by simp; omega⟩
    simp [l6_1, exec, ev, evS, seqS, R.bind, cmpS, okB, bopS, biS, bi1, mthS, mth1, isLst, bindP, c, hlt]
  · refine ⟨[a0, some (.ref 0), a2, a3, some (.int (0 + (i : Int))), a5, some (.int r')], [.lst (zs ts')], ?_, _, _, _, rfl, rfl, by omega⟩
    simp [l6_1, exec, ev, evS, seqS, R.bind, cmpS, okB, c]
theorem loop1 {g : Gs} {ns : List Int} (hn : ns.length ≤ 63) : ∃ σ' h', forLoop (.v 3) (exec g l6_2) (.it 1 [.int 0, .int (ns.length : Int)]) wf 0 [some (.rol (zs ns)), some (.ref 0), some (.int 0), none, none, none, none] [.lst []] = .nx σ' h' ∧ ∃ s x3 x4 x5 x6 ts', σ' = [some (.rol (zs ns)), some (.ref 0), some (.int s), x3, x4, x5, x6] ∧ h' = [.lst (zs ts')] ∧ ts'.length ≤ 60 * (rng 0 ns.length).length := by
  refine for_inv (xs := rng 0 ns.length) (fun i σ h => ∃ s x3 x4 x5 x6 ts', σ = [some (.rol (zs ns)), some (.ref 0), some (.int s), x3, x4, x5, x6] ∧ h = [.lst (zs ts')] ∧ ts'.length ≤ 60 * i) (fun i σ h _ => by rw [draw_rng i]; simp) (fun i x σ h e hI => ?_) (by rw [rng_len]; exact lt_wf (by omega)) ⟨0, none, none, none, none, [], rfl, rfl, by simp⟩
  obtain ⟨s, x3, x4, x5, x6, ts', rfl, rfl, hl⟩ := hI
  obtain ⟨rfl, hi⟩ := rng_get e
  have hg := zs_get hi
  have hz : ixOf ns.length (i : Int) = some i := ixOf_nat hi
  have hg2 : ns[i]? = some ns[i] := List.getElem?_eq_getElem hi
  have hm1 : mulOk s 6949 = true := mulOkR _ _ (by decide)
  have hm2 : mulOk (ns[i] % 1000003) ((i : Int) + 3) = true := mulOkR _ _ (by unfold two64; omega)
  refine ⟨_, rfl, ?_⟩
  by_cases c : (1000000000000000000 : Int) ≤ ns[i]
  · obtain ⟨σ', h', q, x4', r', ts2, rfl, rfl, hl2⟩ := inner (g := g) (a0 := some (.rol (zs ns))) (a2 := some (.int ((s * 6949 + ns[i] % 1000003 * ((i : Int) + 3) + 397) % 2147483629))) (a3 := some (.int (0 + (i : Int)))) (a4 := x4) (a5 := some (.int ns[i])) (r := ns[i]) (ts := ts') (L := 60 * i) (by omega) hl
    have q2 : exec g l6_2 ([some (.rol (zs ns)), some (.ref 0), some (.int s), x3, x4, x5, x6].set 3 (some (.int (0 + (i : Int))))) [.lst (zs ts')] = .nx [some (.rol (zs ns)), some (.ref 0), some (.int ((s * 6949 + ns[i] % 1000003 * ((i : Int) + 3) + 397) % 2147483629)), some (.int (0 + (i : Int))), x4', some (.int ns[i]), some (.int r')] [.lst (zs ts2)] := by
      simp [l6_2, exec, ev, evS, seqS, R.bind, cmpS, okB, bopS, biS, bi1, bindP, getS, seqOf, hz, hg2, hm1, hm2, c, itS, it1]
      simp at q
      rw [q]
    exact ⟨_, _, q2, _, _, _, _, _, ts2, rfl, rfl, by omega⟩
  · have q2 : exec g l6_2 ([some (.rol (zs ns)), some (.ref 0), some (.int s), x3, x4, x5, x6].set 3 (some (.int (0 + (i : Int))))) [.lst (zs ts')] = .nx [some (.rol (zs ns)), some (.ref 0), some (.int ((s * 6949 + ns[i] % 1000003 * ((i : Int) + 3) + 397) % 2147483629)), some (.int (0 + (i : Int))), x4, some (.int ns[i]), x6] [.lst (zs ts')] := by
      simp [l6_2, exec, ev, evS, seqS, R.bind, cmpS, okB, bopS, biS, bi1, bindP, getS, seqOf, hz, hg2, hm1, hm2, c]
    exact ⟨_, _, q2, _, _, _, _, _, ts', rfl, rfl, by omega⟩
theorem loop2 {g : Gs} {ns : List Int} : ∀ (s : Int) (x3 x4 x5 x6 : Option D) (ts : List Int), ts.length ≤ 4000 → ∃ σ' h', forLoop (.v 4) (exec g l6_0) (.it 1 [.int 0, .int 300]) wf 0 [some (.rol (zs ns)), some (.ref 0), some (.int s), x3, x4, x5, x6] [.lst (zs ts)] = .nx σ' h' ∧ ∃ s x4 ts', σ' = [some (.rol (zs ns)), some (.ref 0), some (.int s), x3, x4, x5, x6] ∧ h' = [.lst (zs ts')] ∧ ts'.length ≤ 4000 + (rng 0 300).length := by
  intro s x3 x4 x5 x6 ts hts
  refine for_inv (xs := rng 0 300) (fun i σ h => ∃ s x4 ts', σ = [some (.rol (zs ns)), some (.ref 0), some (.int s), x3, x4, x5, x6] ∧ h = [.lst (zs ts')] ∧ ts'.length ≤ 4000 + i) (fun i σ h _ => draw_rng i) (fun i x σ h e hI => ?_) (by rw [rng_len]; exact lt_wf (by decide)) ⟨s, x4, ts, rfl, rfl, by omega⟩
  obtain ⟨s, x4, ts', rfl, rfl, hl⟩ := hI
  obtain ⟨rfl, hi⟩ := rng_get e
  have hm1 : mulOk s 48271 = true := mulOkR _ _ (by decide)
  have hlt : ts'.length < 16777216 := by omega
  refine ⟨_, rfl, ?_⟩
  refine ⟨[some (.rol (zs ns)), some (.ref 0), some (.int (s * 48271 % 2147483629)), x3, some (.int (0 + (i : Int))), x5, x6], [.lst (zs (ts' ++ [s * 48271 % 2147483629 / 13 % 5040]))], ?_, _, _, _, rfl, rfl, by simp; omega⟩
  simp [l6_0, exec, ev, evS, seqS, R.bind, bopS, mthS, mth1, isLst, bindP, hm1, hlt]
theorem it1_s {j : Int} {h : AH} (h1 : -4611686018427387904 ≤ j) (h2 : j < 4611686018427387904) : it1 1 (.int j) h = .ok (.it 1 [.int 0, .int j]) h := if_pos ⟨h1, h2⟩
theorem i_rng {g : Gs} {a : CE} {σ : Sg} {h h1 : AH} {j : Int} (e : ev g a σ h = .ok (.int j) h1) (b1 : -4611686018427387904 ≤ j) (b2 : j < 4611686018427387904) : ev g (.itr 1 (.cons a .nil)) σ h = .ok (.it 1 [.int 0, .int j]) h1 := by
  have q : ev g (.cons a .nil) σ h = .ok (.tup [.int j]) h1 := by simp only [ev, e, R.bind]
  have s : ev g (.itr 1 (.cons a .nil)) σ h = (ev g (.cons a .nil) σ h).bind fun x h1 => (match x with
    | .tup ds => itS 1 ds h1
    | _ => .bad) := rfl
  rw [s, q]
  exact it1_s b1 b2
theorem seq_nx {g : Gs} {a b : CS} {σ σ1 : Sg} {h h1 : AH} (e : exec g a σ h = .nx σ1 h1) : exec g (.seq a b) σ h = exec g b σ1 h1 := by
  show seqS (exec g a σ h) (exec g b) = _
  rw [e]; rfl
theorem seq_rt {g : Gs} {a b : CS} {σ : Sg} {h h1 : AH} {d : D} (e : exec g a σ h = .rt d h1) : exec g (.seq a b) σ h = .rt d h1 := by
  show seqS (exec g a σ h) (exec g b) = _
  rw [e]; rfl
theorem tape_e {g : Gs} {ns : List Int} (hn : ns.length ≤ 63) : ∃ ts : List Int, exec g c6 [some (.rol (zs ns)), none, none, none, none, none, none] [] = .rt (.ref 0) [.lst (zs ts)] := by
  obtain ⟨σ1, h1, q1, s1, x3, x4, x5, x6, ts1, rfl, rfl, hl1⟩ := loop1 (g := g) hn
  rw [rng_len] at hl1
  obtain ⟨σ2, h2, q2, s2, y4, ts2, rfl, rfl, hl2⟩ := loop2 (g := g) (ns := ns) s1 x3 x4 x5 x6 ts1 (by omega)
  refine ⟨ts2.reverse, ?_⟩
  have hb1 : (-4611686018427387904 : Int) ≤ (ns.length : Int) := by omega
  have hb2 : (ns.length : Int) < 4611686018427387904 := by omega
  have e1 : ev g (.itr 1 (.cons (.bi .len (.cons (.var 0) .nil)) .nil)) [some (.rol (zs ns)), some (.ref 0), some (.int 0), none, none, none, none] [.lst []] = .ok (.it 1 [.int 0, .int (ns.length : Int)]) [.lst []] := by
    exact i_rng (by simp [ev, R.bind, biS, bi1, seqOf]) hb1 hb2
  have e2 : exec g (.for_ (.v 3) (.itr 1 (.cons (.bi .len (.cons (.var 0) .nil)) .nil)) l6_2) [some (.rol (zs ns)), some (.ref 0), some (.int 0), none, none, none, none] [.lst []] = .nx [some (.rol (zs ns)), some (.ref 0), some (.int s1), x3, x4, x5, x6] [.lst (zs ts1)] := by
    show evS (ev g (.itr 1 (.cons (.bi .len (.cons (.var 0) .nil)) .nil)) [some (.rol (zs ns)), some (.ref 0), some (.int 0), none, none, none, none] [.lst []]) _ (fun src h1 => forLoop (.v 3) (exec g l6_2) src wf 0 [some (.rol (zs ns)), some (.ref 0), some (.int 0), none, none, none, none] h1) = _
    rw [e1]
    exact q1
  have e3 : exec g (.for_ (.v 4) (.itr 1 (.cons (.cst (.int 300)) .nil)) l6_0) [some (.rol (zs ns)), some (.ref 0), some (.int s1), x3, x4, x5, x6] [.lst (zs ts1)] = .nx [some (.rol (zs ns)), some (.ref 0), some (.int s2), x3, y4, x5, x6] [.lst (zs ts2)] := by
    have e4 : ev g (.itr 1 (.cons (.cst (.int 300)) .nil)) [some (.rol (zs ns)), some (.ref 0), some (.int s1), x3, x4, x5, x6] [.lst (zs ts1)] = .ok (.it 1 [.int 0, .int 300]) [.lst (zs ts1)] := by
      simp [ev, R.bind, itS, it1]
    show evS (ev g (.itr 1 (.cons (.cst (.int 300)) .nil)) [some (.rol (zs ns)), some (.ref 0), some (.int s1), x3, x4, x5, x6] [.lst (zs ts1)]) _ (fun src h1 => forLoop (.v 4) (exec g l6_0) src wf 0 [some (.rol (zs ns)), some (.ref 0), some (.int s1), x3, x4, x5, x6] h1) = _
    rw [e4]
    exact q2
  have a1 : exec g (.asg (.v 1) (.lst .nil)) [some (.rol (zs ns)), none, none, none, none, none, none] [] = .nx [some (.rol (zs ns)), some (.ref 0), none, none, none, none, none] [.lst []] := by
    simp [exec, ev, evS, R.bind, bindP]
  have a2 : exec g (.asg (.v 2) (.cst (.int 0))) [some (.rol (zs ns)), some (.ref 0), none, none, none, none, none] [.lst []] = .nx [some (.rol (zs ns)), some (.ref 0), some (.int 0), none, none, none, none] [.lst []] := by
    simp [exec, ev, evS, bindP]
  have a3 : exec g (.ex (.mth .reverse (.var 1) .nil)) [some (.rol (zs ns)), some (.ref 0), some (.int s2), x3, y4, x5, x6] [.lst (zs ts2)] = .nx [some (.rol (zs ns)), some (.ref 0), some (.int s2), x3, y4, x5, x6] [.lst (zs ts2.reverse)] := by
    simp [exec, ev, evS, R.bind, isLst, mthS, mth0]
  have a4 : exec g (.ret (.var 1)) [some (.rol (zs ns)), some (.ref 0), some (.int s2), x3, y4, x5, x6] [.lst (zs ts2.reverse)] = .rt (.ref 0) [.lst (zs ts2.reverse)] := by
    simp [exec, ev, evS]
  unfold c6
  exact (seq_nx a1).trans ((seq_nx a2).trans ((seq_nx e2).trans ((seq_nx e3).trans ((seq_nx a3).trans (seq_rt a4)))))
theorem tape_s {n : Nat} {ns : List Int} (hn : ns.length ≤ 63) : ∃ ts : List Int, cN (n + 1) 6 [.rol (zs ns)] [] = .ok (.ref 0) [.lst (zs ts)] := by
  obtain ⟨ts, e⟩ := tape_e (g := ⟨callN m.T m.P n, m.T, none⟩) hn
  refine ⟨ts, ?_⟩
  have q : cN (n + 1) 6 [.rol (zs ns)] [] = endS (exec ⟨callN m.T m.P n, m.T, none⟩ c6 [some (.rol (zs ns)), none, none, none, none, none, none] []) := callN_eq (d := f6.df) rfl rfl
  rw [q, e]
  rfl
end Q06
end
section
set_option Elab.async false
set_option linter.all false
set_option maxRecDepth 100000
set_option maxHeartbeats 4000000
namespace Q06
open Ly
open K06 (m f3 f4 f5 f7 f8 f9 c3 c4 c5 c7 c8 c9)
theorem eq_int {i j : Int} {h : AH} : cmpS .Eq (.int i) (.int j) h = okB (decide (i = j)) h := by
  simp [cmpS, pd, PySem.PyData.eqv]
  by_cases c : i = j
  · subst c; simp
  · rw [beq_false_of_ne c]; simp [c]
theorem eq_str {i j : PySem.Str} {h : AH} : cmpS .Eq (.str i) (.str j) h = okB (decide (i = j)) h := by
  simp [cmpS, pd, PySem.PyData.eqv]
  by_cases c : i = j
  · subst c; simp
  · rw [beq_false_of_ne c]; simp [c]
theorem take_s {n : Nat} {ts : List Int} {h : AH} {k : Int} (hk : 0 < k) (hh : h[0]? = some (.lst (zs ts))) : ∃ (r : Int) (ts' : List Int), cN (n + 1) 7 [.ref 0, .int k] h = .ok (.int r) (h.set 0 (.lst (zs ts'))) ∧ 0 ≤ r ∧ r < k := by
  rw [show cN (n + 1) 7 [.ref 0, .int k] h = _ from callN_eq (d := f7.df) rfl rfl]
  have hl : 0 < h.length := (List.getElem?_eq_some_iff.mp hh).1
  by_cases c : 0 < ts.length
  · refine ⟨ts[ts.length - 1] % k, ts.dropLast, ?_, Int.emod_nonneg _ (by omega), Int.emod_lt_of_pos _ hk⟩
    have e : ts[ts.length - 1]? = some (ts[ts.length - 1]) := List.getElem?_eq_getElem (by omega)
    simp [f7, c7, exec, ev, evS, seqS, R.bind, startD, endS, biS, bi1, seqOf, hh, cmpS, okB, c, isLst, mthS, mth0, e, bopS, hk]
  · refine ⟨0, ts, ?_, by omega, hk⟩
    have e : h.set 0 (.lst (zs ts)) = h := by
      apply List.ext_getElem?
      intro i
      by_cases hi : i = 0
      · subst hi; rw [List.getElem?_set_self hl, hh]
      · rw [List.getElem?_set_ne (Ne.symm hi)]
    rw [e]
    simp [f7, c7, exec, ev, evS, seqS, R.bind, startD, endS, biS, bi1, seqOf, hh, cmpS, okB, c]
/-- the heap after a use of the tape -/
structure Tp (h h' : AH) : Prop where
  t : ∃ ts, h'[0]? = some (.lst (zs ts))
  len : h'.length = h.length
  k : ∀ j, j ≠ 0 → h'[j]? = h[j]?
theorem Tp.refl {h : AH} {ts : List Int} (hh : h[0]? = some (.lst (zs ts))) : Tp h h := ⟨⟨ts, hh⟩, rfl, fun _ _ => rfl⟩
theorem Tp.trans {h h1 h2 : AH} (a : Tp h h1) (b : Tp h1 h2) : Tp h h2 := ⟨b.t, b.len.trans a.len, fun j hj => (b.k j hj).trans (a.k j hj)⟩
theorem take_t {n : Nat} {h : AH} {k : Int} (hk : 0 < k) (hh : ∃ ts, h[0]? = some (.lst (zs ts))) : ∃ (r : Int) (h' : AH), cN (n + 1) 7 [.ref 0, .int k] h = .ok (.int r) h' ∧ Tp h h' ∧ 0 ≤ r ∧ r < k := by
  obtain ⟨ts, hh⟩ := hh
  obtain ⟨r, ts', e, h1, h2⟩ := take_s (n := n) hk hh
  refine ⟨r, _, e, ⟨⟨ts', ?_⟩, by simp, fun j hj => by rw [List.getElem?_set_ne (Ne.symm hj)]⟩, h1, h2⟩
  rw [List.getElem?_set_self (List.getElem?_eq_some_iff.mp hh).1]
theorem word_s {n : Nat} {h : AH} (hh : ∃ ts, h[0]? = some (.lst (zs ts))) : ∃ (r : Int) (h' : AH), cN (n + 2) 8 [.ref 0] h = .ok (.int r) h' ∧ Tp h h' ∧ 0 ≤ r ∧ r < 65536 := by
  rw [show cN (n + 2) 8 [.ref 0] h = _ from callN_eq (d := f8.df) rfl rfl]
  obtain ⟨r1, h1, e1, t1, a1, b1⟩ := take_t (n := n) (k := 8) (by decide) hh
  have e1' : callN m.T m.P (n + 1) 7 [.ref 0, .int 8] h = .ok (.int r1) h1 := e1
  by_cases c : r1 < 4
  · obtain ⟨r2, h2, e2, t2, a2, b2⟩ := take_t (n := n) (k := 12) (by decide) t1.t
    have e2' : callN m.T m.P (n + 1) 7 [.ref 0, .int 12] h1 = .ok (.int r2) h2 := e2
    obtain ⟨j, rfl⟩ : ∃ j : Nat, r2 = j := ⟨r2.toNat, by omega⟩
    have hj : j < 12 := by omega
    have hz : ixOf 12 (j : Int) = some j := ixOf_nat hj
    have hb : ∀ j : Nat, j < 12 → ∃ r : Int, ([.int 0, .int 1, .int 65535, .int 2, .int 32768, .int 3, .int 256, .int 255, .int 65534, .int 32767, .int 257, .int 32769] : List D)[j]? = some (.int r) ∧ 0 ≤ r ∧ r < 65536 := by
      intro j hj
      match j, hj with
      | 0, _ => exact ⟨_, rfl, by decide, by decide⟩
      | 1, _ => exact ⟨_, rfl, by decide, by decide⟩
      | 2, _ => exact ⟨_, rfl, by decide, by decide⟩
      | 3, _ => exact ⟨_, rfl, by decide, by decide⟩
      | 4, _ => exact ⟨_, rfl, by decide, by decide⟩
      | 5, _ => exact ⟨_, rfl, by decide, by decide⟩
      | 6, _ => exact ⟨_, rfl, by decide, by decide⟩
      | 7, _ => exact ⟨_, rfl, by decide, by decide⟩
      | 8, _ => exact ⟨_, rfl, by decide, by decide⟩
      | 9, _ => exact ⟨_, rfl, by decide, by decide⟩
      | 10, _ => exact ⟨_, rfl, by decide, by decide⟩
      | 11, _ => exact ⟨_, rfl, by decide, by decide⟩
    obtain ⟨r, hr, ha, hb⟩ := hb j hj
    refine ⟨r, h2, ?_, t1.trans t2, ha, hb⟩
    simp [f8, c8, exec, ev, evS, seqS, R.bind, startD, endS, bindP, e1', e2', cmpS, okB, c, getS, seqOf, hz, hr]
  · by_cases c4 : r1 = 4
    · obtain ⟨r2, h2, e2, t2, a2, b2⟩ := take_t (n := n) (k := 40) (by decide) t1.t
      have e2' : callN m.T m.P (n + 1) 7 [.ref 0, .int 40] h1 = .ok (.int r2) h2 := e2
      refine ⟨r2, h2, ?_, t1.trans t2, a2, by omega⟩
      subst c4
      simp [f8, c8, exec, ev, evS, seqS, R.bind, startD, endS, bindP, e1', e2', eq_int, okB, cmpS.eq_3]
    · obtain ⟨r2, h2, e2, t2, a2, b2⟩ := take_t (n := n) (k := 5040) (by decide) t1.t
      have e2' : callN m.T m.P (n + 1) 7 [.ref 0, .int 5040] h1 = .ok (.int r2) h2 := e2
      obtain ⟨r3, h3, e3, t3, a3, b3⟩ := take_t (n := n) (k := 5040) (by decide) t2.t
      have e3' : callN m.T m.P (n + 1) 7 [.ref 0, .int 5040] h2 = .ok (.int r3) h3 := e3
      have hm : mulOk r2 5040 = true := mulOkR _ _ (by decide)
      refine ⟨(r2 * 5040 + r3) % 65536, h3, ?_, (t1.trans t2).trans t3, Int.emod_nonneg _ (by decide), Int.emod_lt_of_pos _ (by decide)⟩
      simp [f8, c8, exec, ev, evS, seqS, R.bind, startD, endS, bindP, e1', e2', e3', eq_int, okB, cmpS.eq_3, c, c4, bopS, hm, biS, bi1]
end Q06
end
section
set_option Elab.async false
set_option linter.all false
set_option maxRecDepth 100000
set_option maxHeartbeats 4000000
namespace Q06
open Ly
open K06 (m f3 f4 f5 f9 f10 c3 c4 c5 c9 c10 l10_0)
abbrev OPS : List D := [.str "add", .str "sub", .str "mul", .str "div", .str "rem", .str "less", .str "same"]
theorem ne_str {i j : PySem.Str} {h : AH} : cmpS .NotEq (.str i) (.str j) h = okB (!decide (i = j)) h := by
  simp [cmpS, pd, PySem.PyData.eqv]
  by_cases c : i = j
  · subst c; simp
  · rw [beq_false_of_ne c]; simp [c]
theorem ne_int {i j : Int} {h : AH} : cmpS .NotEq (.int i) (.int j) h = okB (!decide (i = j)) h := by
  simp [cmpS, pd, PySem.PyData.eqv]
  by_cases c : i = j
  · subst c; simp
  · rw [beq_false_of_ne c]; simp [c]
theorem ni_add {h : AH} : cmpS .NotIn (.str "add") (.tup OPS) h = okB false h := rfl
theorem ni_sub {h : AH} : cmpS .NotIn (.str "sub") (.tup OPS) h = okB false h := rfl
theorem ni_mul {h : AH} : cmpS .NotIn (.str "mul") (.tup OPS) h = okB false h := rfl
theorem ni_div {h : AH} : cmpS .NotIn (.str "div") (.tup OPS) h = okB false h := rfl
theorem ni_rem {h : AH} : cmpS .NotIn (.str "rem") (.tup OPS) h = okB false h := rfl
theorem ni_less {h : AH} : cmpS .NotIn (.str "less") (.tup OPS) h = okB false h := rfl
theorem ni_same {h : AH} : cmpS .NotIn (.str "same") (.tup OPS) h = okB false h := rfl
abbrev DR : List D := [.str "div", .str "rem"]
theorem in_add {h : AH} : cmpS .In (.str "add") (.tup DR) h = okB false h := rfl
theorem in_sub {h : AH} : cmpS .In (.str "sub") (.tup DR) h = okB false h := rfl
theorem in_mul {h : AH} : cmpS .In (.str "mul") (.tup DR) h = okB false h := rfl
theorem in_div {h : AH} : cmpS .In (.str "div") (.tup DR) h = okB true h := rfl
theorem in_rem {h : AH} : cmpS .In (.str "rem") (.tup DR) h = okB true h := rfl
theorem in_less {h : AH} : cmpS .In (.str "less") (.tup DR) h = okB false h := rfl
theorem in_same {h : AH} : cmpS .In (.str "same") (.tup DR) h = okB false h := rfl
theorem lt_int {i j : Int} {h : AH} : cmpS .Lt (.int i) (.int j) h = okB (decide (i < j)) h := rfl
theorem le_int {i j : Int} {h : AH} : cmpS .LtE (.int i) (.int j) h = okB (decide (i ≤ j)) h := rfl
theorem gt_int {i j : Int} {h : AH} : cmpS .Gt (.int i) (.int j) h = okB (decide (j < i)) h := rfl
section
variable {n : Nat} {h : AH} {a b : Int}
theorem word_i (ha : 0 ≤ a ∧ a < 65536) : callN m.T m.P (n + 3) 2 [.int a] h = .ok (.bl true) h := by
  have e := is_word_s (n := n) (d := .int a) (h := h) (t := .int) rfl
  rw [show callN m.T m.P (n + 3) 2 [.int a] h = _ from e]
  simp [isW, ha.1, ha.2]
theorem mul16 (ha : 0 ≤ a ∧ a < 65536) : mulOk a b = true := by
  unfold mulOk two64
  have h1 : -(18446744073709551616 : Int) < a := by omega
  have h2 : a < 18446744073709551616 := by omega
  simp [h1, h2]
theorem op_wr {v : PySem.Str} {r : Int} (hv : (v = "add" ∧ r = (a + b) % 65536) ∨ (v = "sub" ∧ r = (a - b) % 65536) ∨ (v = "mul" ∧ r = a * b % 65536)) (ha : 0 ≤ a ∧ a < 65536) (hb : 0 ≤ b ∧ b < 65536) : callN m.T m.P (n + 4) 3 [.str v, .int a, .int b] h = .ok (.int r) h := by
  rw [show callN m.T m.P (n + 4) 3 [.str v, .int a, .int b] h = _ from callN_eq (d := f3.df) rfl rfl]
  have w1 := word_i (n := n) (h := h) ha
  have w2 := word_i (n := n) (h := h) hb
  have hm : mulOk a b = true := mul16 ha
  have e : callN m.T m.P (n + 3) 5 [.str v, .int a, .int b] h = .ok (.int r) h := by
    rw [show callN m.T m.P (n + 3) 5 [.str v, .int a, .int b] h = _ from callN_eq (d := f5.df) rfl rfl]
    rcases hv with ⟨rfl, rfl⟩ | ⟨rfl, rfl⟩ | ⟨rfl, rfl⟩ <;> simp (decide := true) [f5, c5, exec, ev, evS, seqS, R.bind, startD, endS, eq_str, okB, bopS, hm]
  rcases hv with ⟨rfl, rfl⟩ | ⟨rfl, rfl⟩ | ⟨rfl, rfl⟩ <;> simp (decide := true) [f3, c3, exec, ev, evS, seqS, R.bind, startD, endS, eq_str, okB, ni_add, ni_sub, ni_mul, in_add, in_sub, in_mul, w1, w2, e, truS]
theorem op_cm {v : PySem.Str} {r : Int} (hv : (v = "less" ∧ r = if a < b then 1 else 0) ∨ (v = "same" ∧ r = if a = b then 1 else 0)) (ha : 0 ≤ a ∧ a < 65536) (hb : 0 ≤ b ∧ b < 65536) : callN m.T m.P (n + 4) 3 [.str v, .int a, .int b] h = .ok (.int r) h := by
  rw [show callN m.T m.P (n + 4) 3 [.str v, .int a, .int b] h = _ from callN_eq (d := f3.df) rfl rfl]
  have w1 := word_i (n := n) (h := h) ha
  have w2 := word_i (n := n) (h := h) hb
  rcases hv with ⟨rfl, rfl⟩ | ⟨rfl, rfl⟩
  · by_cases c : a < b <;> simp (decide := true) [f3, c3, exec, ev, evS, seqS, R.bind, startD, endS, eq_str, okB, ni_less, w1, w2, truS, lt_int, c]
  · by_cases c : a = b <;> simp (decide := true) [f3, c3, exec, ev, evS, seqS, R.bind, startD, endS, eq_str, okB, ni_same, w1, w2, truS, eq_int, c]
theorem op_dv {v : PySem.Str} {r : D} (hv : (v = "div" ∧ r = if b = 0 then .non else .int (a / b)) ∨ (v = "rem" ∧ r = if b = 0 then .non else .int (a % b))) (ha : 0 ≤ a ∧ a < 65536) (hb : 0 ≤ b ∧ b < 65536) : callN m.T m.P (n + 4) 3 [.str v, .int a, .int b] h = .ok r h := by
  rw [show callN m.T m.P (n + 4) 3 [.str v, .int a, .int b] h = _ from callN_eq (d := f3.df) rfl rfl]
  have w1 := word_i (n := n) (h := h) ha
  have w2 := word_i (n := n) (h := h) hb
  have e : callN m.T m.P (n + 3) 4 [.str v, .int a, .int b] h = .ok r h := by
    rw [show callN m.T m.P (n + 3) 4 [.str v, .int a, .int b] h = _ from callN_eq (d := f4.df) rfl rfl]
    by_cases c : b = 0
    · rcases hv with ⟨rfl, rfl⟩ | ⟨rfl, rfl⟩ <;> simp (decide := true) [f4, c4, exec, ev, evS, seqS, R.bind, startD, endS, eq_int, okB, c]
    · have hp : 0 < b ∧ b < 1073741824 := by omega
      rcases hv with ⟨rfl, rfl⟩ | ⟨rfl, rfl⟩ <;> simp (decide := true) [f4, c4, exec, ev, evS, seqS, R.bind, startD, endS, eq_int, eq_str, okB, c, biS, bi2, hp, bindP, bindPs]
  rcases hv with ⟨rfl, rfl⟩ | ⟨rfl, rfl⟩ <;> simp (decide := true) [f3, c3, exec, ev, evS, seqS, R.bind, startD, endS, eq_str, okB, ni_div, ni_rem, in_div, in_rem, w1, w2, e, truS]
end
end Q06
end
section
set_option Elab.async false
set_option linter.all false
set_option maxRecDepth 100000
set_option maxHeartbeats 4000000
namespace Q06
open Ly
open K06 (m f3 f9 f10 c3 c9 c10 l10_0)
theorem set_last {h : AH} {x y : AO} : (h ++ [x]).set h.length y = h ++ [y] := by simp
theorem get_last {h : AH} {x : AO} : (h ++ [x])[h.length]? = some x := by simp
theorem lc_ev {g : Gs} {p : Pat} {it c e : CE} {σ : Sg} {h h1 h2 : AH} {src : D} {u : Unit} (i : ev g it σ h = .ok src h1) (l : lcLoop (lcBody p (ev g c) (ev g e) σ) src h1.length wf 0 (h1 ++ [.lst []]) = .ok u h2) : ev g (.lc p it c e) σ h = .ok (.ref h1.length) h2 := by
  have s : ev g (.lc p it c e) σ h = (ev g it σ h).bind fun src h1 => (match lcLoop (lcBody p (ev g c) (ev g e) σ) src h1.length wf 0 (h1 ++ [.lst []]) with
    | .ok _ h2 => .ok (.ref h1.length) h2
    | _ => .bad) := rfl
  rw [s, i]
  show (match lcLoop (lcBody p (ev g c) (ev g e) σ) src h1.length wf 0 (h1 ++ [.lst []]) with
    | .ok _ h2 => (R.ok (D.ref h1.length) h2 : R D)
    | _ => .bad) = _
  rw [l]
theorem isSeq_tup {h : AH} {xs : List D} : isSeq h (.tup xs) = true := rfl
theorem lc_no {body : D → AH → R (Option D)} {d : D} {acc : Nat} {h : AH} (e : body d h = .ok none h) : lcLoop body (.it 0 [.tup [d]]) acc wf 0 h = .ok () h := by
  obtain ⟨k, hk⟩ : ∃ k, wf = k + 2 := ⟨wf - 2, by have := lt_wf (n := 2) (by decide); omega⟩
  rw [hk]
  simp [lcLoop, draw, seqOf, e]
theorem lc_yes {body : D → AH → R (Option D)} {d y : D} {h : AH} (e : body d (h ++ [.lst []]) = .ok (some y) (h ++ [.lst []])) : lcLoop body (.it 0 [.tup [d]]) h.length wf 0 (h ++ [.lst []]) = .ok () (h ++ [.lst [y]]) := by
  obtain ⟨k, hk⟩ : ∃ k, wf = k + 2 := ⟨wf - 2, by have := lt_wf (n := 2) (by decide); omega⟩
  rw [hk]
  simp [lcLoop, draw, seqOf, e]
section
variable {n : Nat} {h : AH} {a b r : Int}
theorem is_nn {h : AH} : cmpS .Is .non .non h = okB true h := rfl
theorem fit_non {v : PySem.Str} (hv : v = "div" ∨ v = "rem") : callN m.T m.P (n + 1) 9 [.str v, .int a, .int 0, .non] h = .ok (.bl true) h := by
  rw [show callN m.T m.P (n + 1) 9 [.str v, .int a, .int 0, .non] h = _ from callN_eq (d := f9.df) rfl rfl]
  rcases hv with rfl | rfl <;> simp [f9, c9, exec, ev, evS, seqS, R.bind, startD, endS, in_div, in_rem, eq_int, okB, is_nn]
theorem fit_add (hr : r = (a + b) % 65536) (ha : 0 ≤ a ∧ a < 65536) (hb : 0 ≤ b ∧ b < 65536) : callN m.T m.P (n + 1) 9 [.str "add", .int a, .int b, .int r] h = .ok (.bl true) h := by
  rw [show callN m.T m.P (n + 1) 9 [.str "add", .int a, .int b, .int r] h = _ from callN_eq (d := f9.df) rfl rfl]
  have h1 : ¬ r < 0 := by omega
  have h2 : ¬ 65535 < r := by omega
  have q : (decide (r = a + b) || decide (r + 65536 = a + b)) = true := by
    by_cases c : r = a + b
    · simp [c]
    · have c2 : r + 65536 = a + b := by omega
      simp [c2]
  cases c : decide (r = a + b) with
  | true => simp (decide := true) only [f9, c9, exec, ev, evS, seqS, R.bind, startD, endS, in_add, eq_int, eq_str, okB, tyOf, Bt.sub, truS, lt_int, gt_int, h1, h2, bopS, c, List.map_cons, List.map_nil, List.cons_append, List.nil_append, List.length_cons, List.length_nil, List.getElem?_cons_zero, List.getElem?_cons_succ, List.any_cons, List.any_nil, Bool.or_false, Bool.not_true, Bool.not_false, decide_false, decide_true, Bool.false_eq_true, if_false, if_true]
  | false =>
    rw [c, Bool.false_or] at q
    simp (decide := true) only [f9, c9, exec, ev, evS, seqS, R.bind, startD, endS, in_add, eq_int, eq_str, okB, tyOf, Bt.sub, truS, lt_int, gt_int, h1, h2, bopS, c, q, List.map_cons, List.map_nil, List.cons_append, List.nil_append, List.length_cons, List.length_nil, List.getElem?_cons_zero, List.getElem?_cons_succ, List.any_cons, List.any_nil, Bool.or_false, Bool.not_true, Bool.not_false, decide_false, decide_true, Bool.false_eq_true, if_false, if_true]
theorem fit_sub (hr : r = (a - b) % 65536) (ha : 0 ≤ a ∧ a < 65536) (hb : 0 ≤ b ∧ b < 65536) : callN m.T m.P (n + 1) 9 [.str "sub", .int a, .int b, .int r] h = .ok (.bl true) h := by
  rw [show callN m.T m.P (n + 1) 9 [.str "sub", .int a, .int b, .int r] h = _ from callN_eq (d := f9.df) rfl rfl]
  have h1 : ¬ r < 0 := by omega
  have h2 : ¬ 65535 < r := by omega
  have q : (decide (r + b = a) || decide (r + b = a + 65536)) = true := by
    by_cases c : r + b = a
    · simp [c]
    · have c2 : r + b = a + 65536 := by omega
      simp [c2]
  cases c : decide (r + b = a) with
  | true => simp (decide := true) only [f9, c9, exec, ev, evS, seqS, R.bind, startD, endS, in_sub, eq_int, eq_str, okB, tyOf, Bt.sub, truS, lt_int, gt_int, h1, h2, bopS, c, List.map_cons, List.map_nil, List.cons_append, List.nil_append, List.length_cons, List.length_nil, List.getElem?_cons_zero, List.getElem?_cons_succ, List.any_cons, List.any_nil, Bool.or_false, Bool.not_true, Bool.not_false, decide_false, decide_true, Bool.false_eq_true, if_false, if_true]
  | false =>
    rw [c, Bool.false_or] at q
    simp (decide := true) only [f9, c9, exec, ev, evS, seqS, R.bind, startD, endS, in_sub, eq_int, eq_str, okB, tyOf, Bt.sub, truS, lt_int, gt_int, h1, h2, bopS, c, q, List.map_cons, List.map_nil, List.cons_append, List.nil_append, List.length_cons, List.length_nil, List.getElem?_cons_zero, List.getElem?_cons_succ, List.any_cons, List.any_nil, Bool.or_false, Bool.not_true, Bool.not_false, decide_false, decide_true, Bool.false_eq_true, if_false, if_true]
theorem fit_mul (hr : r = a * b % 65536) (ha : 0 ≤ a ∧ a < 65536) (hb : 0 ≤ b ∧ b < 65536) : callN m.T m.P (n + 1) 9 [.str "mul", .int a, .int b, .int r] h = .ok (.bl true) h := by
  rw [show callN m.T m.P (n + 1) 9 [.str "mul", .int a, .int b, .int r] h = _ from callN_eq (d := f9.df) rfl rfl]
  have hm : mulOk a b = true := mul16 ha
  have h1 : ¬ r < 0 := by rw [hr]; have := Int.emod_nonneg (a * b) (show (65536 : Int) ≠ 0 by decide); omega
  have h2 : ¬ 65535 < r := by rw [hr]; have := Int.emod_lt_of_pos (a * b) (show (0 : Int) < 65536 by decide); omega
  have c : (a * b - r) % 65536 = 0 := by rw [hr]; generalize a * b = z; omega
  simp (decide := true) [f9, c9, exec, ev, evS, seqS, R.bind, startD, endS, in_mul, eq_int, eq_str, okB, tyOf, Bt.sub, truS, lt_int, gt_int, h1, h2, bopS, hm, c, biS, bi1]
theorem fit_div (hr : r = a / b) (ha : 0 ≤ a ∧ a < 65536) (hb : 0 < b ∧ b < 65536) : callN m.T m.P (n + 1) 9 [.str "div", .int a, .int b, .int r] h = .ok (.bl true) h := by
  rw [show callN m.T m.P (n + 1) 9 [.str "div", .int a, .int b, .int r] h = _ from callN_eq (d := f9.df) rfl rfl]
  have q0 : 0 ≤ a / b := Int.ediv_nonneg ha.1 (by omega)
  have q1 : a / b ≤ a := Int.ediv_le_self _ ha.1
  have h1 : ¬ r < 0 := by omega
  have h2 : ¬ 65535 < r := by omega
  have hm : mulOk r b = true := mul16 (by omega)
  have hb0 : ¬ b = 0 := by omega
  have e := Int.mul_ediv_add_emod a b
  have e1 := Int.emod_nonneg a hb0
  have e2 := Int.emod_lt_of_pos a hb.1
  have c1 : r * b ≤ a := by rw [hr, Int.mul_comm]; omega
  have c2 : a < r * b + b := by rw [hr, Int.mul_comm]; omega
  simp (decide := true) [f9, c9, exec, ev, evS, seqS, R.bind, startD, endS, in_div, eq_int, eq_str, okB, tyOf, Bt.sub, truS, lt_int, gt_int, le_int, h1, h2, bopS, hm, hb0, c1, c2]
theorem fit_rem (hr : r = a % b) (ha : 0 ≤ a ∧ a < 65536) (hb : 0 < b ∧ b < 65536) : callN m.T m.P (n + 1) 9 [.str "rem", .int a, .int b, .int r] h = .ok (.bl true) h := by
  rw [show callN m.T m.P (n + 1) 9 [.str "rem", .int a, .int b, .int r] h = _ from callN_eq (d := f9.df) rfl rfl]
  have hb0 : ¬ b = 0 := by omega
  have e1 := Int.emod_nonneg a hb0
  have e2 := Int.emod_lt_of_pos a hb.1
  have h1 : ¬ r < 0 := by omega
  have h2 : ¬ 65535 < r := by omega
  have c1 : r < b := by omega
  have c2 : (a - r) % b = 0 := by
    have e := Int.mul_ediv_add_emod a b
    have e3 : a - r = b * (a / b) := by rw [hr]; omega
    rw [e3, Int.mul_emod_right]
  simp (decide := true) [f9, c9, exec, ev, evS, seqS, R.bind, startD, endS, in_rem, eq_int, eq_str, okB, tyOf, Bt.sub, truS, lt_int, gt_int, le_int, h1, h2, bopS, hb0, hb.1, c1, c2, biS, bi1]
theorem fit_less (hr : r = if a < b then 1 else 0) : ∃ x, callN m.T m.P (n + 1) 9 [.str "less", .int a, .int b, .int r] h = .ok (.bl true) (h ++ [x]) := by
  rw [show callN m.T m.P (n + 1) 9 [.str "less", .int a, .int b, .int r] h = _ from callN_eq (d := f9.df) rfl rfl]
  have h1 : ¬ r < 0 := by rw [hr]; split <;> decide
  have h2 : ¬ 65535 < r := by rw [hr]; split <;> decide
  by_cases c : a < b
  · have c' : a - b < 0 := by omega
    rw [if_pos c] at hr
    refine ⟨.lst [.int 0], ?_⟩
    have e : ∀ (g : Gs) (h : AH), lcBody (.v 4) (ev g (.cmp .Lt (.var 4) (.cst (.int 0)))) (ev g (.cst (.int 0))) [some (.str "less"), some (.int a), some (.int b), some (.int r), none] (.int (a - b)) (h ++ [.lst []]) = .ok (some (.int 0)) (h ++ [.lst []]) := fun g h => by
      simp [lcBody, bindP, wipeD, slots, ev, R.bind, lt_int, okB, c']
    subst hr
    have e3 := fun (g : Gs) (h : AH) => lc_ev (g := g) (h := h) (h1 := h) (c := .cmp .Lt (.var 4) (.cst (.int 0))) (e := .cst (.int 0)) (it := .itr 0 (.cons (.tup (.cons (.bop .Sub (.var 1) (.var 2)) .nil)) .nil)) (by simp [ev, R.bind, bopS, itS, it1, isSeq_tup]) (lc_yes (e g h))
    simp (decide := true) [f9, c9, exec, ev, evS, seqS, R.bind, startD, endS, in_less, eq_int, eq_str, okB, tyOf, Bt.sub, truS, lt_int, gt_int, h1, h2, bopS, itS, it1, isSeq_tup, seqOf, biS, bi1, ↓e3]
  · have c' : ¬ a - b < 0 := by omega
    rw [if_neg c] at hr
    refine ⟨.lst [], ?_⟩
    have e : ∀ (g : Gs) (h : AH), lcBody (.v 4) (ev g (.cmp .Lt (.var 4) (.cst (.int 0)))) (ev g (.cst (.int 0))) [some (.str "less"), some (.int a), some (.int b), some (.int r), none] (.int (a - b)) (h ++ [.lst []]) = .ok none (h ++ [.lst []]) := fun g h => by
      simp [lcBody, bindP, wipeD, slots, ev, R.bind, lt_int, okB, c']
    subst hr
    have e3 := fun (g : Gs) (h : AH) => lc_ev (g := g) (h := h) (h1 := h) (c := .cmp .Lt (.var 4) (.cst (.int 0))) (e := .cst (.int 0)) (it := .itr 0 (.cons (.tup (.cons (.bop .Sub (.var 1) (.var 2)) .nil)) .nil)) (by simp [ev, R.bind, bopS, itS, it1, isSeq_tup]) (lc_no (acc := h.length) (e g h))
    simp (decide := true) [f9, c9, exec, ev, evS, seqS, R.bind, startD, endS, in_less, eq_int, eq_str, okB, tyOf, Bt.sub, truS, lt_int, gt_int, h1, h2, bopS, itS, it1, isSeq_tup, seqOf, biS, bi1, ↓e3]
end
end Q06
end
section
set_option Elab.async false
set_option linter.all false
set_option maxRecDepth 100000
set_option maxHeartbeats 4000000
namespace Q06
open Ly
open K06 (m f3 f10 c3 c10 l10_0)
/-- the error that names name -/
abbrev errD (name : PySem.Str) (h : AH) : R D := .exc "NotUsable" ["at", "word"] [.int (-1), .str name] h
theorem raise_op {n : Nat} {h : AH} {v x y : D} (hv : cmpS .NotIn v (.tup OPS) h = okB true h) : callN m.T m.P (n + 4) 3 [v, x, y] h = errD "operation" h := by
  rw [show callN m.T m.P (n + 4) 3 [v, x, y] h = _ from callN_eq (d := f3.df) rfl rfl]
  simp [f3, c3, exec, ev, evS, seqS, R.bind, startD, endS, hv, okB]
theorem ops_in {v : PySem.Str} (hv : D.str v ∈ OPS) {h : AH} : cmpS .NotIn (.str v) (.tup OPS) h = okB false h := by
  simp only [OPS, List.mem_cons, List.not_mem_nil, or_false, D.str.injEq] at hv
  rcases hv with rfl | rfl | rfl | rfl | rfl | rfl | rfl <;> rfl
theorem raise_one {n : Nat} {h : AH} {v : PySem.Str} {x y : D} {t : Bt} (hv : D.str v ∈ OPS) (ht : tyOf h x = some t) (hw : isW x = false) : callN m.T m.P (n + 4) 3 [.str v, x, y] h = errD "one" h := by
  rw [show callN m.T m.P (n + 4) 3 [.str v, x, y] h = _ from callN_eq (d := f3.df) rfl rfl]
  have w1 : callN m.T m.P (n + 3) 2 [x] h = .ok (.bl (isW x)) h := is_word_s ht
  rw [hw] at w1
  simp [f3, c3, exec, ev, evS, seqS, R.bind, startD, endS, ops_in hv, okB, w1, truS]
theorem raise_other {n : Nat} {h : AH} {v : PySem.Str} {a : Int} {y : D} {t : Bt} (hv : D.str v ∈ OPS) (ha : 0 ≤ a ∧ a < 65536) (ht : tyOf h y = some t) (hw : isW y = false) : callN m.T m.P (n + 4) 3 [.str v, .int a, y] h = errD "other" h := by
  rw [show callN m.T m.P (n + 4) 3 [.str v, .int a, y] h = _ from callN_eq (d := f3.df) rfl rfl]
  have w1 := word_i (n := n) (h := h) ha
  have w2 : callN m.T m.P (n + 3) 2 [y] h = .ok (.bl (isW y)) h := is_word_s ht
  rw [hw] at w2
  simp [f3, c3, exec, ev, evS, seqS, R.bind, startD, endS, ops_in hv, okB, w1, w2, truS]
theorem t1 : subOf m.T "NotUsable" "NeedError" = some true := rfl
theorem t2 : isSome1 m.T "NotUsable" ["NotUsable"] = some true := rfl
theorem t3 : isSome1 m.T "NotUsable" ["UnitError"] = some true := rfl
theorem t4 : isSome1 m.T "NotUsable" ["ValueError"] = some true := rfl
theorem t5 : isSome1 m.T "NotUsable" ["LinkError", "LiveError", "PaperError", "TextError"] = some false := rfl
theorem refused_s {n : Nat} {h : AH} {v x y : D} {name : PySem.Str} (hr : callN m.T m.P n 3 [v, x, y] (h ++ [.lst []]) = errD name (h ++ [.lst []])) : callN m.T m.P (n + 1) 10 [v, x, y, .str name] h = .ok (.bl true) (h ++ [.lst []]) := by
  rw [show callN m.T m.P (n + 1) 10 [v, x, y, .str name] h = _ from callN_eq (d := f10.df) rfl rfl]
  have L : ∃ σ' h', forLoop (.v 5) (exec ⟨callN m.T m.P n, m.T, none⟩ l10_0) (.it 0 [.tup [.bl false, .bl true]]) wf 0 [some v, some x, some y, some (.str name), some (.ref h.length), none, none] (h ++ [.lst []]) = .nx σ' h' ∧ h' = h ++ [.lst []] ∧ ∃ x5, σ' = [some v, some x, some y, some (.str name), some (.ref h.length), x5, none] := by
    refine for_inv (xs := [.bl false, .bl true]) (fun i σ h' => h' = h ++ [.lst []] ∧ ∃ x5, σ = [some v, some x, some y, some (.str name), some (.ref h.length), x5, none]) (fun i σ h' _ => draw_tup i) (fun i z σ h' e hI => ?_) (lt_wf (by decide)) ⟨rfl, none, rfl⟩
    obtain ⟨rfl, x5, rfl⟩ := hI
    have hz : ∃ b, z = .bl b := by
      match i, e with
      | 0, e => exact ⟨false, (Option.some.inj e).symm⟩
      | 1, e => exact ⟨true, (Option.some.inj e).symm⟩
      | (i + 2), e => simp at e
    obtain ⟨b, rfl⟩ := hz
    refine ⟨_, rfl, [some v, some x, some y, some (.str name), some (.ref h.length), some (.bl b), none], h ++ [.lst []], ?_, rfl, _, rfl⟩
    have l2 : List.lookup ("word" : PySem.Str) [(("at" : PySem.Str), D.int (-1)), ("word", .str name)] = some (.str name) := rfl
    have l3 : List.lookup ("at" : PySem.Str) [(("at" : PySem.Str), D.int (-1)), ("word", .str name)] = some (.int (-1)) := rfl
    cases b <;> simp [l10_0, exec, ev, evS, seqS, R.bind, truS, isLst, hr, t1, t2, t3, t4, t5, l2, l3, ne_str, ne_int, okB]
  obtain ⟨σ', h', q, rfl, x5, rfl⟩ := L
  simp [f10, c10, exec, ev, evS, seqS, R.bind, startD, endS, bindP, itS, it1, isSeq_tup, seqOf, q]
/-- the tape stands -/
def Tz (h : AH) : Prop := ∃ ts, h[0]? = some (.lst (zs ts))
theorem Tz.app {h : AH} (t : Tz h) (x : AO) : Tz (h ++ [x]) := by
  obtain ⟨ts, e⟩ := t
  exact ⟨ts, by rw [List.getElem?_append_left (List.getElem?_eq_some_iff.mp e).1]; exact e⟩
end Q06
end
section
set_option Elab.async false
set_option linter.all false
set_option maxRecDepth 100000
set_option maxHeartbeats 4000000
namespace Q06
open Ly
open K06 (m f12 c12 l12_0 l12_1)
theorem fit_same {n : Nat} {h : AH} {a b r : Int} (hr : r = if a = b then 1 else 0) : ∃ x, callN m.T m.P (n + 1) 9 [.str "same", .int a, .int b, .int r] h = .ok (.bl true) (h ++ [x]) := by
  rw [show callN m.T m.P (n + 1) 9 [.str "same", .int a, .int b, .int r] h = _ from callN_eq (d := K06.f9.df) rfl rfl]
  have h1 : ¬ r < 0 := by rw [hr]; split <;> decide
  have h2 : ¬ 65535 < r := by rw [hr]; split <;> decide
  by_cases c : a = b
  · have c' : a - b = 0 := by omega
    rw [if_pos c] at hr
    refine ⟨.lst [.int 0], ?_⟩
    have e : ∀ (g : Gs) (h : AH), lcBody (.v 4) (ev g (.cmp .Eq (.var 4) (.cst (.int 0)))) (ev g (.cst (.int 0))) [some (.str "same"), some (.int a), some (.int b), some (.int r), none] (.int (a - b)) (h ++ [.lst []]) = .ok (some (.int 0)) (h ++ [.lst []]) := fun g h => by
      simp [lcBody, bindP, wipeD, slots, ev, R.bind, eq_int, okB, c']
    subst hr
    have e3 := fun (g : Gs) (h : AH) => lc_ev (g := g) (h := h) (h1 := h) (c := .cmp .Eq (.var 4) (.cst (.int 0))) (e := .cst (.int 0)) (it := .itr 0 (.cons (.tup (.cons (.bop .Sub (.var 1) (.var 2)) .nil)) .nil)) (by simp [ev, R.bind, bopS, itS, it1, isSeq_tup]) (lc_yes (e g h))
    simp (decide := true) [K06.f9, K06.c9, exec, ev, evS, seqS, R.bind, startD, endS, in_same, eq_int, eq_str, okB, tyOf, Bt.sub, truS, lt_int, gt_int, h1, h2, bopS, itS, it1, isSeq_tup, seqOf, biS, bi1, ↓e3]
  · have c' : ¬ a - b = 0 := by omega
    rw [if_neg c] at hr
    refine ⟨.lst [], ?_⟩
    have e : ∀ (g : Gs) (h : AH), lcBody (.v 4) (ev g (.cmp .Eq (.var 4) (.cst (.int 0)))) (ev g (.cst (.int 0))) [some (.str "same"), some (.int a), some (.int b), some (.int r), none] (.int (a - b)) (h ++ [.lst []]) = .ok none (h ++ [.lst []]) := fun g h => by
      simp [lcBody, bindP, wipeD, slots, ev, R.bind, eq_int, okB, c']
    subst hr
    have e3 := fun (g : Gs) (h : AH) => lc_ev (g := g) (h := h) (h1 := h) (c := .cmp .Eq (.var 4) (.cst (.int 0))) (e := .cst (.int 0)) (it := .itr 0 (.cons (.tup (.cons (.bop .Sub (.var 1) (.var 2)) .nil)) .nil)) (by simp [ev, R.bind, bopS, itS, it1, isSeq_tup]) (lc_no (acc := h.length) (e g h))
    simp (decide := true) [K06.f9, K06.c9, exec, ev, evS, seqS, R.bind, startD, endS, in_same, eq_int, eq_str, okB, tyOf, Bt.sub, truS, lt_int, gt_int, h1, h2, bopS, itS, it1, isSeq_tup, seqOf, biS, bi1, ↓e3]
abbrev VB : List D := [.str "add", .str "sub", .str "mul", .str "div", .str "rem", .str "less", .str "same"]
theorem turn_s {h : AH} {a b : Int} (ha : 0 ≤ a ∧ a < 65536) (hb : 0 ≤ b ∧ b < 65536) {v : D} (hv : v ∈ VB) : ∃ told h', callN m.T m.P 11 3 [v, .int a, .int b] h = .ok told h ∧ callN m.T m.P 11 9 [v, .int a, .int b, told] h = .ok (.bl true) h' ∧ (h' = h ∨ ∃ x, h' = h ++ [x]) := by
  simp only [VB, List.mem_cons, List.not_mem_nil, or_false] at hv
  rcases hv with rfl | rfl | rfl | rfl | rfl | rfl | rfl
  · exact ⟨_, _, op_wr (n := 7) (.inl ⟨rfl, rfl⟩) ha hb, fit_add (n := 10) rfl ha hb, .inl rfl⟩
  · exact ⟨_, _, op_wr (n := 7) (.inr (.inl ⟨rfl, rfl⟩)) ha hb, fit_sub (n := 10) rfl ha hb, .inl rfl⟩
  · exact ⟨_, _, op_wr (n := 7) (.inr (.inr ⟨rfl, rfl⟩)) ha hb, fit_mul (n := 10) rfl ha hb, .inl rfl⟩
  · by_cases c : b = 0
    · subst c
      exact ⟨_, _, op_dv (n := 7) (.inl ⟨rfl, (if_pos rfl).symm⟩) ha hb, fit_non (n := 10) (.inl rfl), .inl rfl⟩
    · exact ⟨_, _, op_dv (n := 7) (.inl ⟨rfl, (if_neg c).symm⟩) ha hb, fit_div (n := 10) rfl ha ⟨by omega, hb.2⟩, .inl rfl⟩
  · by_cases c : b = 0
    · subst c
      exact ⟨_, _, op_dv (n := 7) (.inr ⟨rfl, (if_pos rfl).symm⟩) ha hb, fit_non (n := 10) (.inr rfl), .inl rfl⟩
    · exact ⟨_, _, op_dv (n := 7) (.inr ⟨rfl, (if_neg c).symm⟩) ha hb, fit_rem (n := 10) rfl ha ⟨by omega, hb.2⟩, .inl rfl⟩
  · obtain ⟨x, e⟩ := fit_less (n := 10) (h := h) (a := a) (b := b) rfl
    exact ⟨_, _, op_cm (n := 7) (.inl ⟨rfl, rfl⟩) ha hb, e, .inr ⟨x, rfl⟩⟩
  · obtain ⟨x, e⟩ := fit_same (n := 10) (h := h) (a := a) (b := b) rfl
    exact ⟨_, _, op_cm (n := 7) (.inr ⟨rfl, rfl⟩) ha hb, e, .inr ⟨x, rfl⟩⟩
theorem verb_step {g : Gs} {s v told : D} {t a b : Int} {x6 : Option D} {h h2 : AH} (q1 : g.cf 3 [v, .int a, .int b] h = .ok told h) (q2 : g.cf 9 [v, .int a, .int b, told] h = .ok (.bl true) h2) : exec g l12_0 [some s, some (.ref 0), some (.int t), some (.int a), some (.int b), some v, x6] h = .nx [some s, some (.ref 0), some (.int t), some (.int a), some (.int b), some v, some told] h2 := by
  by_cases c : t < 24
  · simp [l12_0, exec, ev, evS, seqS, R.bind, lt_int, okB, c, q1, q2, bindP, truS]
  · simp [l12_0, exec, ev, evS, seqS, R.bind, lt_int, okB, c, q1, q2, bindP, truS]
noncomputable abbrev gL : Gs := ⟨callN m.T m.P 11, m.T, none⟩
theorem verbs_s {s : D} {t a b : Int} {x5 x6 : Option D} {h : AH} (ha : 0 ≤ a ∧ a < 65536) (hb : 0 ≤ b ∧ b < 65536) (ht : Tz h) : ∃ σ' h', forLoop (.v 5) (exec gL l12_0) (.it 0 [.tup VB]) wf 0 [some s, some (.ref 0), some (.int t), some (.int a), some (.int b), x5, x6] h = .nx σ' h' ∧ Tz h' ∧ ∃ x5 x6, σ' = [some s, some (.ref 0), some (.int t), some (.int a), some (.int b), x5, x6] := by
  refine for_inv (xs := VB) (fun i σ h' => Tz h' ∧ ∃ x5 x6, σ = [some s, some (.ref 0), some (.int t), some (.int a), some (.int b), x5, x6]) (fun i σ h' _ => draw_tup i) (fun i v σ h' e hI => ?_) (lt_wf (by decide)) ⟨ht, x5, x6, rfl⟩
  obtain ⟨ht, x5, x6, rfl⟩ := hI
  obtain ⟨told, h2, q1, q2, q3⟩ := turn_s (h := h') ha hb (List.mem_of_getElem? e)
  have ht2 : Tz h2 := by
    rcases q3 with rfl | ⟨x, rfl⟩
    · exact ht
    · exact ht.app x
  refine ⟨_, rfl, [some s, some (.ref 0), some (.int t), some (.int a), some (.int b), some v, some told], h2, ?_, ht2, _, _, rfl⟩
  exact verb_step q1 q2
theorem turn_step {g : Gs} {s : D} {i a b : Int} {x3 x4 x5 x6 : Option D} {h h1 h2 h3 h4 : AH} {σ' : Sg} (q1 : g.cf 8 [.ref 0] h = .ok (.int a) h1) (q2 : g.cf 8 [.ref 0] h1 = .ok (.int b) h2) {r : Int} (q3 : g.cf 7 [.ref 0, .int 9] h2 = .ok (.int r) h3)
    (q4 : forLoop (.v 5) (exec g l12_0) (.it 0 [.tup [.str "add", .str "sub", .str "mul", .str "div", .str "rem", .str "less", .str "same"]]) wf 0 [some s, some (.ref 0), some (.int i), some (.int a), some (.int (if r = 4 then a else b)), x5, x6] h3 = .nx σ' h4) :
    exec g l12_1 [some s, some (.ref 0), some (.int i), x3, x4, x5, x6] h = .nx σ' h4 := by
  by_cases c : r = 4
  · rw [if_pos c] at q4
    simp [l12_1, exec, ev, evS, seqS, R.bind, q1, q2, q3, eq_int, okB, c, bindP, itS, it1, isSeq_tup, q4]
  · rw [if_neg c] at q4
    simp [l12_1, exec, ev, evS, seqS, R.bind, q1, q2, q3, eq_int, okB, c, bindP, itS, it1, isSeq_tup, q4]
theorem law_step {g : Gs} {s : D} {h h1 h2 : AH} {x2 x3 x4 x5 x6 : Option D} (e0 : g.cf 6 [s] [] = .ok (.ref 0) h1) (q : forLoop (.v 2) (exec g l12_1) (.it 1 [.int 0, .int 30]) wf 0 [some s, some (.ref 0), none, none, none, none, none] h1 = .nx [some s, some (.ref 0), x2, x3, x4, x5, x6] h) (e2 : g.cf 11 [.ref 0] h = .ok (.bl true) h2) :
    endS (exec g c12 [some s, none, none, none, none, none, none] []) = .ok (.bl true) h2 := by
  simp [c12, exec, ev, evS, seqS, R.bind, endS, bindP, e0, itS, it1, q, e2]
theorem law_s (har : ∀ h : AH, Tz h → ∃ h', callN m.T m.P 11 11 [.ref 0] h = .ok (.bl true) h') (ns : List Int) (hn : ns.length ≤ 63) : ∃ h, callN m.T m.P 12 12 [.rol (zs ns)] [] = .ok (.bl true) h := by
  obtain ⟨ts, e0⟩ := tape_s (n := 10) hn
  have e0 : callN m.T m.P 11 6 [.rol (zs ns)] [] = .ok (.ref 0) [.lst (zs ts)] := e0
  have L : ∃ σ' h', forLoop (.v 2) (exec gL l12_1) (.it 1 [.int 0, .int 30]) wf 0 [some (.rol (zs ns)), some (.ref 0), none, none, none, none, none] [.lst (zs ts)] = .nx σ' h' ∧ Tz h' ∧ ∃ x2 x3 x4 x5 x6, σ' = [some (.rol (zs ns)), some (.ref 0), x2, x3, x4, x5, x6] := by
    refine for_inv (xs := rng 0 30) (fun i σ h' => Tz h' ∧ ∃ x2 x3 x4 x5 x6, σ = [some (.rol (zs ns)), some (.ref 0), x2, x3, x4, x5, x6]) (fun i σ h' _ => draw_rng i) (fun i z σ h' e hI => ?_) (by rw [rng_len]; exact lt_wf (by decide)) ⟨⟨ts, rfl⟩, none, none, none, none, none, rfl⟩
    obtain ⟨ht, x2, x3, x4, x5, x6, rfl⟩ := hI
    obtain ⟨rfl, hi⟩ := rng_get e
    obtain ⟨a, h1, q1, t1, a1, a2⟩ := word_s (n := 9) ht
    have q1 : gL.cf 8 [.ref 0] h' = .ok (.int a) h1 := q1
    obtain ⟨b, h2, q2, t2, b1, b2⟩ := word_s (n := 9) t1.t
    have q2 : gL.cf 8 [.ref 0] h1 = .ok (.int b) h2 := q2
    obtain ⟨r, h3, q3, t3, r1, r2⟩ := take_t (n := 10) (k := 9) (by decide) t2.t
    have q3 : gL.cf 7 [.ref 0, .int 9] h2 = .ok (.int r) h3 := q3
    obtain ⟨σ', h4, q4, t4, y5, y6, rfl⟩ := verbs_s (s := .rol (zs ns)) (t := 0 + (i : Int)) (a := a) (b := if r = 4 then a else b) (x5 := x5) (x6 := x6) ⟨a1, a2⟩ (by split <;> constructor <;> assumption) t3.t
    have q5 := turn_step (g := gL) (s := .rol (zs ns)) (i := 0 + (i : Int)) (x3 := x3) (x4 := x4) (x5 := x5) (x6 := x6) q1 q2 q3 q4
    exact ⟨_, rfl, _, _, q5, t4, _, _, _, _, _, rfl⟩
  obtain ⟨σ', h', q, t, x2, x3, x4, x5, x6, rfl⟩ := L
  obtain ⟨h2, e2⟩ := har h' t
  refine ⟨h2, ?_⟩
  have e := callN_eq (T := m.T) (P := m.P) (n := 11) (f := 12) (ds := [.rol (zs ns)]) (h := []) (d := f12.df) rfl rfl
  unfold gL at q
  generalize callN m.T m.P 11 = cf at *
  have z := law_step (g := ⟨cf, m.T, none⟩) e0 q e2
  exact e.trans z
end Q06
end
section
set_option Elab.async false
set_option linter.all false
set_option maxRecDepth 100000
set_option maxHeartbeats 4000000
namespace Q06
open Ly
open K06 (m f11 c11 l11_0 l11_1)
abbrev KT (K1 : Nat) : List D := [.str "", .str "Add", .str "number", .str "add ", .str "call", .str "plus", .non, .bl true, .int 3, .tup [.str "add"], .ref K1]
abbrev TT (K2 : Nat) : List D := [.int (-1), .int 65536, .bl true, .bl false, .non, .str "1", .str "", .tup [], .tup [.int 5], .ref K2, .int 100000000000000000000000000000000000000000000000000000000000, .int (-65535)]
abbrev NT : List D := [.str "add", .str "div", .str "sub", .str "rem", .str "mul", .str "less", .str "same"]
/-- the heap of the refusals -/
structure Hv (K1 K2 : Nat) (h : AH) : Prop where
  t : Tz h
  a : h[K1]? = some (.lst [.str "add"])
  b : h[K2]? = some (.lst [.int 7])
theorem Hv.app {K1 K2 : Nat} {h : AH} (v : Hv K1 K2 h) (x : AO) : Hv K1 K2 (h ++ [x]) :=
  ⟨v.t.app x, by rw [List.getElem?_append_left (List.getElem?_eq_some_iff.mp v.a).1]; exact v.a, by rw [List.getElem?_append_left (List.getElem?_eq_some_iff.mp v.b).1]; exact v.b⟩
theorem Hv.tp {K1 K2 : Nat} {h h' : AH} (v : Hv K1 K2 h) (t : Tp h h') (h1 : K1 ≠ 0) (h2 : K2 ≠ 0) : Hv K1 K2 h' := ⟨t.t, by rw [t.k _ h1]; exact v.a, by rw [t.k _ h2]; exact v.b⟩
section
variable {K1 K2 : Nat} {h : AH}
theorem bad_kind (v : Hv K1 K2 h) {k : D} (hk : k ∈ KT K1) : cmpS .NotIn k (.tup OPS) h = okB true h := by
  simp only [KT, List.mem_cons, List.not_mem_nil, or_false] at hk
  rcases hk with rfl | rfl | rfl | rfl | rfl | rfl | rfl | rfl | rfl | rfl | rfl <;> first
    | rfl
    | simp [cmpS, inS, seqOf, pd, v.a, optMap, PySem.PyData.eqv]
theorem bad_thing (v : Hv K1 K2 h) {k : D} (hk : k ∈ TT K2) : ∃ t, tyOf h k = some t ∧ isW k = false := by
  simp only [TT, List.mem_cons, List.not_mem_nil, or_false] at hk
  rcases hk with rfl | rfl | rfl | rfl | rfl | rfl | rfl | rfl | rfl | rfl | rfl | rfl <;> first
    | exact ⟨_, rfl, rfl⟩
    | exact ⟨_, rfl, by decide⟩
    | exact ⟨.list, by simp [tyOf, v.b], rfl⟩
/-- the three refusals -/
theorem ref_op (v : Hv K1 K2 h) {k x y : D} (hk : k ∈ KT K1) : callN m.T m.P 10 10 [k, x, y, .str "operation"] h = .ok (.bl true) (h ++ [.lst []]) := refused_s (n := 9) (raise_op (n := 5) (bad_kind (v.app _) hk))
theorem ref_one (v : Hv K1 K2 h) {w : PySem.Str} (hw : D.str w ∈ OPS) {x y : D} (hx : x ∈ TT K2) : callN m.T m.P 10 10 [.str w, x, y, .str "one"] h = .ok (.bl true) (h ++ [.lst []]) := by
  obtain ⟨t, h1, h2⟩ := bad_thing (v.app (.lst [])) hx
  exact refused_s (n := 9) (raise_one (n := 5) hw h1 h2)
theorem ref_other (v : Hv K1 K2 h) {w : PySem.Str} (hw : D.str w ∈ OPS) {a : Int} (ha : 0 ≤ a ∧ a < 65536) {y : D} (hy : y ∈ TT K2) : callN m.T m.P 10 10 [.str w, .int a, y, .str "other"] h = .ok (.bl true) (h ++ [.lst []]) := by
  obtain ⟨t, h1, h2⟩ := bad_thing (v.app (.lst [])) hy
  exact refused_s (n := 9) (raise_other (n := 5) hw ha h1 h2)
theorem name_of (j : Nat) (hj : j < 7) : ∃ w : PySem.Str, NT[j]? = some (.str w) ∧ D.str w ∈ OPS := by
  match j, hj with
  | 0, _ => exact ⟨_, rfl, by simp⟩
  | 1, _ => exact ⟨_, rfl, by simp⟩
  | 2, _ => exact ⟨_, rfl, by simp⟩
  | 3, _ => exact ⟨_, rfl, by simp⟩
  | 4, _ => exact ⟨_, rfl, by simp⟩
  | 5, _ => exact ⟨_, rfl, by simp⟩
  | 6, _ => exact ⟨_, rfl, by simp⟩
end
noncomputable abbrev gR : Gs := ⟨callN m.T m.P 10, m.T, none⟩
section
variable {K1 K2 : Nat} {h : AH} (h1 : K1 ≠ 0) (h2 : K2 ≠ 0)
include h1 h2
theorem word10 (v : Hv K1 K2 h) : ∃ (r : Int) (h' : AH), callN m.T m.P 10 8 [.ref 0] h = .ok (.int r) h' ∧ Hv K1 K2 h' ∧ 0 ≤ r ∧ r < 65536 := by
  obtain ⟨r, h', e, t, a, b⟩ := word_s (n := 8) v.t
  exact ⟨r, h', e, v.tp t h1 h2, a, b⟩
theorem take10 (v : Hv K1 K2 h) {k : Int} (hk : 0 < k) : ∃ (r : Nat) (h' : AH), callN m.T m.P 10 7 [.ref 0, .int k] h = .ok (.int r) h' ∧ Hv K1 K2 h' ∧ (r : Int) < k := by
  obtain ⟨r, h', e, t, a, b⟩ := take_t (n := 9) hk v.t
  obtain ⟨j, rfl⟩ : ∃ j : Nat, r = j := ⟨r.toNat, by omega⟩
  exact ⟨j, h', e, v.tp t h1 h2, b⟩
theorem kinds_s {at_ : Int} (v : Hv K1 K2 h) : ∃ σ' h', forLoop (.v 5) (exec gR l11_1) (.it 0 [.tup (KT K1)]) wf 0 [some (.ref 0), some (.tup (KT K1)), some (.tup (TT K2)), some (.tup NT), some (.int at_), none, none, none] h = .nx σ' h' ∧ Hv K1 K2 h' ∧ ∃ x5, σ' = [some (.ref 0), some (.tup (KT K1)), some (.tup (TT K2)), some (.tup NT), some (.int at_), x5, none, none] := by
  refine for_inv (xs := KT K1) (fun i σ h' => Hv K1 K2 h' ∧ ∃ x5, σ = [some (.ref 0), some (.tup (KT K1)), some (.tup (TT K2)), some (.tup NT), some (.int at_), x5, none, none]) (fun i σ h' _ => draw_tup i) (fun i k σ h' e hI => ?_) (lt_wf (by simp)) ⟨v, none, rfl⟩
  obtain ⟨v, x5, rfl⟩ := hI
  obtain ⟨a, h3, q1, v1, _, _⟩ := word10 h1 h2 v
  obtain ⟨b, h4, q2, v2, _, _⟩ := word10 h1 h2 v1
  have q3 := ref_op v2 (k := k) (x := .int a) (y := .int b) (List.mem_of_getElem? e)
  refine ⟨_, rfl, [some (.ref 0), some (.tup (KT K1)), some (.tup (TT K2)), some (.tup NT), some (.int at_), some k, none, none], h4 ++ [.lst []], ?_, v2.app _, _, rfl⟩
  simp [l11_1, exec, ev, evS, seqS, R.bind, q1, q2, q3, truS]
theorem things_s {at_ : Int} {x5 : Option D} (v : Hv K1 K2 h) : ∃ σ' h', forLoop (.v 6) (exec gR l11_0) (.it 0 [.tup (TT K2)]) wf 0 [some (.ref 0), some (.tup (KT K1)), some (.tup (TT K2)), some (.tup NT), some (.int at_), x5, none, none] h = .nx σ' h' ∧ Hv K1 K2 h' ∧ ∃ x6 x7, σ' = [some (.ref 0), some (.tup (KT K1)), some (.tup (TT K2)), some (.tup NT), some (.int at_), x5, x6, x7] := by
  refine for_inv (xs := TT K2) (fun i σ h' => Hv K1 K2 h' ∧ ∃ x6 x7, σ = [some (.ref 0), some (.tup (KT K1)), some (.tup (TT K2)), some (.tup NT), some (.int at_), x5, x6, x7]) (fun i σ h' _ => draw_tup i) (fun i k σ h' e hI => ?_) (lt_wf (by simp)) ⟨v, none, none, rfl⟩
  obtain ⟨v, x6, x7, rfl⟩ := hI
  obtain ⟨j, h3, q1, v1, hj⟩ := take10 h1 h2 v (k := 7) (by decide)
  obtain ⟨w, hw, hw2⟩ := name_of j (by omega)
  have hz : ixOf 7 (j : Int) = some j := ixOf_nat (by omega)
  obtain ⟨a, h4, q2, v2, a1, a2⟩ := word10 h1 h2 v1
  have q3 := ref_one v2 hw2 (x := k) (y := .int a) (List.mem_of_getElem? e)
  obtain ⟨b, h5, q4, v4, b1, b2⟩ := word10 h1 h2 (v2.app (.lst []))
  have q5 := ref_other v4 hw2 ⟨b1, b2⟩ (List.mem_of_getElem? e)
  refine ⟨_, rfl, [some (.ref 0), some (.tup (KT K1)), some (.tup (TT K2)), some (.tup NT), some (.int at_), x5, some k, some (.str w)], h5 ++ [.lst []], ?_, v4.app _, _, _, rfl⟩
  simp [l11_0, exec, ev, evS, seqS, R.bind, q1, q2, q3, q4, q5, truS, getS, seqOf, hz, hw, bindP]
end
theorem ar_s {h : AH} (ht : Tz h) : ∃ h', callN m.T m.P 11 11 [.ref 0] h = .ok (.bl true) h' := by
  have hl : 0 < h.length := by
    obtain ⟨ts, e⟩ := ht
    exact (List.getElem?_eq_some_iff.mp e).1
  have v0 : Hv h.length (h.length + 1) (h ++ [.lst [.str "add"], .lst [.int 7]]) := by
    refine ⟨?_, ?_, ?_⟩
    · have := (ht.app (.lst [.str "add"])).app (.lst [.int 7])
      rwa [List.append_assoc] at this
    · simp
    · rw [List.getElem?_append_right (by omega)]; simp
  have k1 : h.length ≠ 0 := by omega
  have k2 : h.length + 1 ≠ 0 := by omega
  obtain ⟨at_, h1, q1, v1, hat⟩ := take10 k1 k2 v0 (k := 12) (by decide)
  obtain ⟨σ2, h2, q2, v2, x5, rfl⟩ := kinds_s k1 k2 (at_ := (at_ : Int)) v1
  obtain ⟨σ3, h3, q3, v3, x6, x7, rfl⟩ := things_s k1 k2 (at_ := (at_ : Int)) (x5 := x5) v2
  obtain ⟨j, h4, q4, v4, hj⟩ := take10 k1 k2 v3 (k := 7) (by decide)
  obtain ⟨w, hw, hw2⟩ := name_of j (by omega)
  have hz : ixOf 7 (j : Int) = some j := ixOf_nat (by omega)
  obtain ⟨kk, hkk⟩ : ∃ kk : Nat, (at_ : Int) - (at_ : Int) / 11 = kk := ⟨((at_ : Int) - (at_ : Int) / 11).toNat, by omega⟩
  have hkl : kk < 11 := by omega
  have hz1 : ixOf 11 (kk : Int) = some kk := ixOf_nat hkl
  obtain ⟨y1, hy1⟩ : ∃ y, (KT h.length)[kk]? = some y := ⟨_, List.getElem?_eq_getElem (by simpa using hkl)⟩
  have hz2 : ixOf 12 (at_ : Int) = some at_ := ixOf_nat (by omega)
  obtain ⟨y2, hy2⟩ : ∃ y, (TT (h.length + 1))[at_]? = some y := ⟨_, List.getElem?_eq_getElem (by simp; omega)⟩
  obtain ⟨jj, hjj⟩ : ∃ jj : Nat, 11 - (at_ : Int) = jj := ⟨(11 - (at_ : Int)).toNat, by omega⟩
  have hz3 : ixOf 12 (jj : Int) = some jj := ixOf_nat (by omega)
  obtain ⟨y3, hy3⟩ : ∃ y, (TT (h.length + 1))[jj]? = some y := ⟨_, List.getElem?_eq_getElem (by simp; omega)⟩
  have q5 := ref_op v4 (k := y1) (x := y2) (y := .int 1) (List.mem_of_getElem? hy1)
  have v5 := v4.app (.lst [])
  have q6 := ref_op v5 (k := .str "") (x := .int 0) (y := y2) (by simp)
  have v6 := v5.app (.lst [])
  have q7 := ref_one v6 hw2 (x := y2) (y := y3) (List.mem_of_getElem? hy2)
  have hz0 : ixOf 11 0 = some 0 := rfl
  simp only [List.append_assoc, List.cons_append, List.nil_append] at q6 q7
  refine ⟨h4 ++ [.lst []] ++ [.lst []] ++ [.lst []], ?_⟩
  rw [show callN m.T m.P 11 11 [.ref 0] h = _ from callN_eq (d := f11.df) rfl rfl]
  simp [f11, c11, exec, ev, evS, seqS, R.bind, startD, endS, bindP, bopS, q1, itS, it1, isSeq_tup, seqOf, q2, q3, q4, getS, hz, hw, hkk, hz1, hy1, hz2, hy2, hjj, hz3, hy3, hz0, q5, q6, q7, truS]
end Q06
theorem PySem.Challenge.cw_linkneed_k06_whole_operations_holds : PySem.Challenge.rw_linkneed_k06_whole_operations.Holds :=
  K06.law_holds fun ns hn => Q06.law_s (fun _ t => Q06.ar_s t) ns hn
end
