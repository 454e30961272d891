import PyProof.Rows.All
import Wide.All
import OpenK.AllK
import Wide.FinOn
import HandS.ForMost
import HandS.ForExc
import KE.SortKeyHeap
import KE.SortData
import HandS.Lambda
import HandS.Style
import HandS.Deep
import HandS.Flow
import HandS.TupAny
import HandS.TupMul
import HandS.IsInst
import HandS.Conv
import HandS.Zip
import HandS.CallSlots
import HandS.Records
import HandS.Comp
import HandS.Iter
import HandS.Exc
import HandS.ExcOwn
import HandS.Walk
import PyProof.EnumMake
import PyProof.Draws
import KE.GoesMore
import KE.GoesEnum
import HandS.Defaults
import HandS.Words
import HandS.More
import HandS.Small
import HandS.Dict
import HandS.Codes
import HandS.RaiseMore
import KE.DataFind
import HandS.ExcIs
import HandS.HotCalls
import HandS.HeadHook1
import HandS.Head0
import HandS.Head1
import HandS.Head2
import HandS.HeadEnd
import HandS.HeadHook2
import HandS.HeadHook4
import HandS.HeadWalk
import HandS.NestedK
import PySem.Challenge.RW_noterules_k20_two_at_once
set_option Elab.async false
set_option linter.all false
set_option maxRecDepth 100000
set_option maxHeartbeats 0
/-! NR0: a small evaluator of Python over plain values. -/
namespace NR

/-- a value by its content; loc n: the n-th cell of the store; exc c: an exception of the class number c -/
inductive PV where
  | non | bl (b : Bool) | int (i : Int) | str (s : List Nat) | tup (xs : List PV) | lst (xs : List PV) | loc (n : Nat) | exc (c : Nat)
  /-- the list that the law is handed -/
  | scr (ns : List Int)
deriving Inhabited

/-- what may change: a list, a dict, an object of a class -/
inductive Cell where
  | list (xs : List PV) | dict (kvs : List (PV × PV)) | inst (c : Nat) (fs : List (Nat × PV))
abbrev Sto := List Cell

inductive R (α : Type) where
  | ok (a : α) (μ : Sto) | exn (c : Nat) (μ : Sto) | bad

def R.bind {α β : Type} : R α → (α → Sto → R β) → R β
  | .ok a μ, k => k a μ
  | .exn c μ, _ => .exn c μ
  | .bad, _ => .bad
@[simp] theorem R.ok_bind {α β : Type} (a : α) (μ : Sto) (k : α → Sto → R β) : (R.ok a μ).bind k = k a μ := rfl
@[simp] theorem R.exn_bind {α β : Type} (c : Nat) (μ : Sto) (k : α → Sto → R β) : (R.exn c μ).bind k = .exn c μ := rfl
@[simp] theorem R.bad_bind {α β : Type} (k : α → Sto → R β) : (R.bad : R α).bind k = .bad := rfl
theorem R.bind_assoc {α β γ : Type} (r : R α) (k : α → Sto → R β) (l : β → Sto → R γ) : (r.bind k).bind l = r.bind fun a μ => (k a μ).bind l := by
  cases r <;> rfl

/-! ### values -/
def SL : Nat := 16777216

mutual
/-- Python's == -/
def peq : PV → PV → Bool
  | .non, .non => true
  | .bl a, .bl b => a == b
  | .bl a, .int j => (if a then 1 else 0) == j
  | .int i, .bl b => i == (if b then 1 else 0)
  | .int i, .int j => i == j
  | .str x, .str y => x == y
  | .lst xs, .lst ys => peqs xs ys
  | .tup xs, .tup ys => peqs xs ys
  | _, _ => false
def peqs : List PV → List PV → Bool
  | [], [] => true
  | x :: xs, y :: ys => peq x y && peqs xs ys
  | _, _ => false
end

mutual
/-- how deep it is nested -/
def dep : PV → Nat
  | .tup xs => deps xs + 1
  | .lst xs => deps xs + 1
  | _ => 0
def deps : List PV → Nat
  | [] => 0
  | x :: xs => max (dep x) (deps xs)
end

mutual
/-- plain data: no cell, no exception -/
def pure? : PV → Bool
  | .non => true | .bl _ => true | .int _ => true | .str _ => true
  | .tup xs => pures xs
  | .lst xs => pures xs
  | .loc _ => false | .exc _ => false | .scr _ => false
def pures : List PV → Bool
  | [] => true
  | x :: xs => pure? x && pures xs
end
mutual
/-- .. and no list -/
def hard? : PV → Bool
  | .non => true | .bl _ => true | .int _ => true | .str _ => true
  | .tup xs => hards xs
  | .lst _ => false
  | .loc _ => false | .exc _ => false | .scr _ => false
def hards : List PV → Bool
  | [] => true
  | x :: xs => hard? x && hards xs
end

/-- a list's cell read as a list -/
def see (μ : Sto) : PV → PV
  | .loc n => match μ[n]? with
    | some (.list xs) => .lst xs
    | _ => .loc n
  | p => p

def data? (p : PV) : Bool := pure? p && decide (dep p ≤ 64)
def opEq (neg : Bool) (x y : PV) (μ : Sto) : R PV :=
  if data? (see μ x) && data? (see μ y) then .ok (.bl (peq (see μ x) (see μ y) != neg)) μ else .bad

/-- a text before another one -/
def slt (x y : List Nat) : Bool := decide (x < y)

inductive COp | eq | ne | lt | le | gt | ge | is | isn | in_ | nin
deriving DecidableEq
inductive BOp | add | sub | mul | fdiv | mod
deriving DecidableEq

def isSame : PV → PV → Option Bool
  | x, .non => some (match x with | .non => true | _ => false)
  | .bl a, .bl b => some (a == b)
  | .non, .bl _ => some false
  | .int _, .bl _ => some false
  | .str _, .bl _ => some false
  | .tup _, .bl _ => some false
  | .lst _, .bl _ => some false
  | _, _ => none

/-- one text within another -/
def subText (x y : List Nat) : Bool := (TL.par x [] y).isSome || x.isEmpty

def memOf (x : PV) : PV → Option Bool
  | .tup ys => if data? x && data? (.tup ys) then some (ys.any fun y => peq y x) else none
  | .lst ys => if data? x && data? (.lst ys) then some (ys.any fun y => peq y x) else none
  | .str z => match x with
    | .str [c] => some (decide (c ∈ z))
    | _ => none
  | _ => none

def opIs (x y : PV) (μ : Sto) (neg : Bool) : R PV := match isSame x y with | some b => .ok (.bl (b != neg)) μ | none => .bad
def opIn (x y : PV) (μ : Sto) (neg : Bool) : R PV := match memOf x (see μ y) with | some b => .ok (.bl (b != neg)) μ | none => .bad
def opLt : PV → PV → Sto → R PV
  | .int i, .int j, μ => .ok (.bl (decide (i < j))) μ
  | .str a, .str b, μ => .ok (.bl (slt a b)) μ
  | _, _, _ => .bad
def opLe : PV → PV → Sto → R PV
  | .int i, .int j, μ => .ok (.bl (decide (i ≤ j))) μ
  | .str a, .str b, μ => .ok (.bl (!slt b a)) μ
  | _, _, _ => .bad
def opGt : PV → PV → Sto → R PV
  | .int i, .int j, μ => .ok (.bl (decide (j < i))) μ
  | .str a, .str b, μ => .ok (.bl (slt b a)) μ
  | _, _, _ => .bad
def opGe : PV → PV → Sto → R PV
  | .int i, .int j, μ => .ok (.bl (decide (j ≤ i))) μ
  | .str a, .str b, μ => .ok (.bl (!slt a b)) μ
  | _, _, _ => .bad
def opCmp (op : COp) (x y : PV) (μ : Sto) : R PV :=
  match op with
  | .eq => opEq false x y μ
  | .ne => opEq true x y μ
  | .is => opIs x y μ false
  | .isn => opIs x y μ true
  | .in_ => opIn x y μ false
  | .nin => opIn x y μ true
  | .lt => opLt x y μ
  | .le => opLe x y μ
  | .gt => opGt x y μ
  | .ge => opGe x y μ

/-- a factor that is small -/
def small64 (i : Int) : Bool := decide (-(2 ^ 64) < i ∧ i < 2 ^ 64)

def opAdd : PV → PV → Sto → R PV
  | .int i, .int j, μ => .ok (.int (i + j)) μ
  | .str a, .str b, μ => if a.length + b.length ≤ SL then .ok (.str (a ++ b)) μ else .bad
  | .tup a, .tup b, μ => if a.length + b.length ≤ SL then .ok (.tup (a ++ b)) μ else .bad
  | x, y, μ => match see μ x, see μ y with
    | .lst a, .lst b => if a.length + b.length ≤ SL then .ok (.lst (a ++ b)) μ else .bad
    | _, _ => .bad
def opSub : PV → PV → Sto → R PV
  | .int i, .int j, μ => .ok (.int (i - j)) μ
  | _, _, _ => .bad
def opMul : PV → PV → Sto → R PV
  | .int i, .int j, μ => if small64 i || small64 j then .ok (.int (i * j)) μ else .bad
  | x, .int j, μ => match see μ x with
    | .lst a => if 0 ≤ j ∧ j ≤ 1000 ∧ a.length * j.toNat ≤ SL then .ok (.lst (List.replicate j.toNat a).flatten) μ else .bad
    | .tup a => if a.length ≠ 0 ∧ 2 ≤ j ∧ j ≤ 1000 ∧ a.length ≤ 1000 then .ok (.tup (List.replicate j.toNat a).flatten) μ else .bad
    | _ => .bad
  | _, _, _ => .bad
def opFdiv : PV → PV → Sto → R PV
  | .int i, .int j, μ => if 0 < j ∧ j < 1073741824 then .ok (.int (i / j)) μ else .bad
  | _, _, _ => .bad
def opMod : PV → PV → Sto → R PV
  | .int i, .int j, μ => if 0 < j then .ok (.int (i % j)) μ else .bad
  | _, _, _ => .bad
def opBin (op : BOp) (x y : PV) (μ : Sto) : R PV :=
  match op with
  | .add => opAdd x y μ
  | .sub => opSub x y μ
  | .mul => opMul x y μ
  | .fdiv => opFdiv x y μ
  | .mod => opMod x y μ

/-- a value's truth -/
def truth (μ : Sto) (p : PV) : Option Bool :=
  match see μ p with
  | .non => some false
  | .bl b => some b
  | .int i => some (i != 0)
  | .str s => if s.length ≤ SL then some (!s.isEmpty) else none
  | .tup xs => some (!xs.isEmpty)
  | .lst xs => some (!xs.isEmpty)
  | _ => none

/-- the kinds that isinstance asks: 0 text, 1 int, 2 truth, 3 tuple, 4 list; 10 + d: exceptions of the class number d -/
def isKind (sup : Nat → Nat → Bool) (p : PV) (k : Nat) : Bool :=
  match p with
  | .str _ => k == 0
  | .int _ => k == 1
  | .bl _ => k == 1 || k == 2
  | .tup _ => k == 3
  | .lst _ => k == 4
  | .scr _ => k == 4
  | .exc c => decide (10 ≤ k) && sup c (k - 10)
  | _ => false

/-- what isinstance is asked of -/
def hasKind : PV → Bool
  | .loc _ => false | .exc _ => false
  | _ => true

/-! ### order -/
mutual
/-- x < y, of data alike -/
def plt : PV → PV → Bool
  | .bl a, .bl b => !a && b
  | .int i, .int j => decide (i < j)
  | .str x, .str y => slt x y
  | .lst xs, .lst ys => plts xs ys
  | .tup xs, .tup ys => plts xs ys
  | _, _ => false
def plts : List PV → List PV → Bool
  | [], [] => false
  | [], _ :: _ => true
  | _ :: _, [] => false
  | x :: xs, y :: ys => if peq x y then plts xs ys else plt x y
end
mutual
/-- of one make -/
def alik : PV → PV → Bool
  | .non, .non => true
  | .bl _, .bl _ => true
  | .int _, .int _ => true
  | .str _, .str _ => true
  | .lst xs, .lst ys => aliks xs ys
  | .tup xs, .tup ys => aliks xs ys
  | _, _ => false
def aliks : List PV → List PV → Bool
  | x :: xs, y :: ys => alik x y && aliks xs ys
  | _, _ => true
end
/-- x goes in ahead of the first that is not less -/
def ins {α : Type} (lt : α → α → Bool) (x : α) : List α → List α
  | [] => [x]
  | y :: ys => if lt y x then y :: ins lt x ys else x :: y :: ys
def isort {α : Type} (lt : α → α → Bool) : List α → List α
  | [] => []
  | x :: xs => ins lt x (isort lt xs)
/-! ### as the library's data -/
mutual
def toD : PV → PySem.PyData
  | .non => .none
  | .bl b => .bool b
  | .int i => .int i
  | .str s => .str ⟨s.toArray⟩
  | .tup xs => .tuple (toDs xs)
  | .lst xs => .list (toDs xs)
  | .loc _ => .none
  | .exc _ => .none
  | .scr _ => .none
def toDs : List PV → List PySem.PyData
  | [] => []
  | x :: xs => toD x :: toDs xs
end
/-- what may be sorted by the keys ks -/
def sortable (ks : List PV) : Bool :=
  (ks.all fun k => pure? k && decide (dep k ≤ 64)) && (ks.all fun k => ks.all fun l => PySem.W.alike (toD k) (toD l)) &&
    ((ks.all fun k => match k with | .tup (_ :: _) => true | _ => false) || (ks.all fun k => match k with | .tup _ => false | .non => false | _ => true))
/-- sorted, equal ones as they stood -/
def sortP (xs : List PV) : List PV := xs.mergeSort (PySem.W.dataLe false toD)

/-- each once -/
def once : List PV → List PV
  | [] => []
  | x :: xs => x :: (once xs).filter fun y => !peq x y

def itemsOf : PV → Option (List PV)
  | .tup xs => some xs
  | .lst xs => some xs
  | _ => none

inductive B1 | len | all | any | list | listc | tuple | sorted | ssorted | slen | sum | str | int | max | neg
deriving DecidableEq

def allBl : List PV → Option (List Bool)
  | [] => some []
  | .bl b :: xs => (allBl xs).map (b :: ·)
  | _ => none
def allInt : List PV → Option (List Int)
  | [] => some []
  | .int b :: xs => (allInt xs).map (b :: ·)
  | _ => none
def allStr : List PV → Option (List (List Nat))
  | [] => some []
  | .str b :: xs => (allStr xs).map (b :: ·)
  | _ => none

/-- the signs of a number -/
def numTxt (i : Int) : List Nat := TL.numL i.toNat
def digit? (c : Nat) : Bool := decide (48 ≤ c ∧ c ≤ 57)
def opLen (p : PV) (μ : Sto) : R PV := match see μ p with
  | .str s => if s.length ≤ SL then .ok (.int s.length) μ else .bad
  | .tup xs => .ok (.int xs.length) μ
  | .lst xs => .ok (.int xs.length) μ
  | .scr xs => .ok (.int xs.length) μ
  | _ => .bad
def opAll (p : PV) (μ : Sto) : R PV := match see μ p with
  | .lst xs => match allBl xs with | some bs => .ok (.bl (bs.all id)) μ | none => .bad
  | _ => .bad
def opAny (p : PV) (μ : Sto) : R PV := match see μ p with
  | .lst xs => match allBl xs with | some bs => .ok (.bl (bs.any id)) μ | none => .bad
  | _ => .bad
def opList (p : PV) (μ : Sto) : R PV := match see μ p with
  | .tup xs => .ok (.lst xs) μ
  | .lst xs => .ok (.lst xs) μ
  | _ => .bad
/-- .. as a cell -/
def opListC (p : PV) (μ : Sto) : R PV := match see μ p with
  | .tup xs => .ok (.loc μ.length) (μ ++ [.list xs])
  | .lst xs => .ok (.loc μ.length) (μ ++ [.list xs])
  | _ => .bad
def opTuple (p : PV) (μ : Sto) : R PV := match see μ p with
  | .tup xs => .ok (.tup xs) μ
  | .lst xs => .ok (.tup xs) μ
  | _ => .bad
def dictKeys (μ : Sto) (p : PV) : Option (List (List Nat)) := match p with
  | .loc n => match μ[n]? with
    | some (.dict kvs) => allStr (kvs.map (·.1))
    | _ => none
  | _ => none
def opSortedD (p : PV) (μ : Sto) : R PV := match dictKeys μ p with
  | some ks => if ks.length < 64 then .ok (.lst (sortP (ks.map .str))) μ else .bad
  | none => .bad
def opSorted (p : PV) (μ : Sto) : R PV := match see μ p with
  | .lst xs => if sortable xs then .ok (.lst (sortP xs)) μ else .bad
  | _ => opSortedD p μ
def opSSorted (p : PV) (μ : Sto) : R PV := match see μ p with
  | .lst xs => if sortable xs then .ok (.lst (sortP (once xs))) μ else .bad
  | _ => .bad
def opSLen (p : PV) (μ : Sto) : R PV := match see μ p with
  | .lst xs => if xs.all hard? then .ok (.int (once xs).length) μ else .bad
  | _ => .bad
def opSum (p : PV) (μ : Sto) : R PV := match see μ p with
  | .lst xs => match allInt xs with | some ns => .ok (.int ns.sum) μ | none => .bad
  | _ => .bad
def opMaxL (p : PV) (μ : Sto) : R PV := match see μ p with
  | .lst xs => match allInt xs with | some (n :: ns) => .ok (.int (ns.foldl (fun a b => if b > a then b else a) n)) μ | _ => .bad
  | _ => .bad
def opStr (p : PV) (μ : Sto) : R PV := match p with
  | .int i => if 0 ≤ i ∧ i < 1000000 then .ok (.str (numTxt i)) μ else .bad
  | .str s => .ok (.str s) μ
  | _ => .bad
def opInt (p : PV) (μ : Sto) : R PV := match p with
  | .str [a] => if digit? a then .ok (.int ((a - 48 : Nat) : Int)) μ else .bad
  | .str [a, b] => if digit? a && digit? b then .ok (.int (((a - 48) * 10 + (b - 48) : Nat) : Int)) μ else .bad
  | _ => .bad
def opNeg (p : PV) (μ : Sto) : R PV := match p with
  | .int i => .ok (.int (-i)) μ
  | _ => .bad
def opB1 (op : B1) (p : PV) (μ : Sto) : R PV :=
  match op with
  | .len => opLen p μ
  | .all => opAll p μ
  | .any => opAny p μ
  | .list => opList p μ
  | .listc => opListC p μ
  | .tuple => opTuple p μ
  | .sorted => opSorted p μ
  | .ssorted => opSSorted p μ
  | .slen => opSLen p μ
  | .sum => opSum p μ
  | .max => opMaxL p μ
  | .str => opStr p μ
  | .int => opInt p μ
  | .neg => opNeg p μ

inductive B2 | max | min
deriving DecidableEq
def opB2 (op : B2) (x y : PV) (μ : Sto) : R PV :=
  match op, x, y with
  | .max, .int i, .int j => .ok (.int (if j > i then j else i)) μ
  | .min, .int i, .int j => .ok (.int (if j < i then j else i)) μ
  | _, _, _ => .bad

/-- built-in methods: of texts, lists, tuples, dicts -/
inductive MOp | split | join | endswith | startswith | partition | countS | count | index | append | extend | pop | remove | get | upper | setdefault | values
deriving DecidableEq

def starts (x y : List Nat) : Bool := y.isPrefixOf x
def ends (x y : List Nat) : Bool := y.isSuffixOf x
def setCell (μ : Sto) (n : Nat) (c : Cell) : Sto := μ.set n c
def lookD (k : PV) : List (PV × PV) → Option PV
  | [] => none
  | (j, v) :: r => if peq j k then some v else lookD k r
def putD (k v : PV) (kvs : List (PV × PV)) : List (PV × PV) :=
  if kvs.any (fun kv => peq kv.1 k) then kvs.map (fun kv => if peq kv.1 k then (kv.1, v) else kv) else kvs ++ [(k, v)]
def key? : PV → Bool
  | .int _ => true
  | .str _ => true
  | _ => false
def totalLen (xs : List (List Nat)) : Nat := (xs.map List.length).sum

def mSplit : PV → List PV → Sto → R PV
  | .str z, [.str (c :: d)], μ => if z.length + 2 ≤ SL && (c :: d).all (· < 256) then .ok (.lst ((TL.spl (c :: d) 0 [] z).map PV.str)) μ else .bad
  | _, _, _ => .bad
def joinOf (z : List Nat) (xs : List PV) (μ : Sto) : R PV := match allStr xs with
  | some ys => if totalLen ys + ys.length * z.length ≤ SL then .ok (.str (TL.joinL z ys)) μ else .bad
  | none => .bad
def mJoin : PV → List PV → Sto → R PV
  | .str z, [p], μ => match see μ p with
    | .lst xs => joinOf z xs μ
    | .tup xs => joinOf z xs μ
    | _ => .bad
  | _, _, _ => .bad
def mEnds : PV → List PV → Sto → R PV
  | .str z, [.str y], μ => .ok (.bl (ends z y)) μ
  | _, _, _ => .bad
def mStarts : PV → List PV → Sto → R PV
  | .str z, [.str y], μ => .ok (.bl (starts z y)) μ
  | _, _, _ => .bad
def mPart : PV → List PV → Sto → R PV
  | .str z, [.str (c :: d)], μ => if z.length ≤ SL then (match TL.par (c :: d) [] z with
    | some (a, b) => .ok (.tup [.str a, .str (c :: d), .str b]) μ
    | none => .ok (.tup [.str z, .str [], .str []]) μ) else .bad
  | _, _, _ => .bad
def mAppend : PV → List PV → Sto → R PV
  | .loc n, [x], μ => match μ[n]? with
    | some (.list xs) => if xs.length < SL then .ok .non (μ.set n (.list (xs ++ [x]))) else .bad
    | _ => .bad
  | _, _, _ => .bad
def mExtend : PV → List PV → Sto → R PV
  | .loc n, [x], μ => match μ[n]?, see μ x with
    | some (.list xs), .lst ys => if xs.length + ys.length ≤ SL then .ok .non (μ.set n (.list (xs ++ ys))) else .bad
    | _, _ => .bad
  | _, _, _ => .bad
def mPop : PV → List PV → Sto → R PV
  | .loc n, [], μ => match μ[n]? with
    | some (.list xs) => match xs.getLast? with | some x => .ok x (μ.set n (.list xs.dropLast)) | none => .bad
    | _ => .bad
  | _, _, _ => .bad
def indexOf (x : PV) (ys : List PV) (whole : PV) (μ : Sto) : R PV := if data? x && data? whole then (match ys.findIdx? (fun y => peq y x) with | some j => .ok (.int j) μ | none => .bad) else .bad
def mIndex : PV → List PV → Sto → R PV
  | o, [x], μ => match see μ o with
    | .lst ys => indexOf x ys (.lst ys) μ
    | _ => .bad
  | _, _, _ => .bad
def mCountS : PV → List PV → Sto → R PV
  | .str z, [.str [c]], μ => .ok (.int (z.count c : Nat)) μ
  | _, _, _ => .bad
def mCount : PV → List PV → Sto → R PV
  | o, [x], μ => match see μ o with
    | .lst ys => if data? x && data? (.lst ys) then .ok (.int (ys.countP fun y => peq y x : Nat)) μ else .bad
    | _ => .bad
  | _, _, _ => .bad
def mRemove : PV → List PV → Sto → R PV
  | .loc n, [x], μ => match μ[n]? with
    | some (.list ys) => if data? x && data? (.lst ys) then (match ys.findIdx? (fun y => peq y x) with | some j => .ok .non (μ.set n (.list (ys.eraseIdx j))) | none => .bad) else .bad
    | _ => .bad
  | _, _, _ => .bad
def mGet : PV → List PV → Sto → R PV
  | .loc n, [k, d], μ => match μ[n]? with
    | some (.dict kvs) => if key? k then .ok ((lookD k kvs).getD d) μ else .bad
    | _ => .bad
  | _, _, _ => .bad
def opM (op : MOp) (o : PV) (as : List PV) (μ : Sto) : R PV :=
  match op with
  | .split => mSplit o as μ
  | .join => mJoin o as μ
  | .endswith => mEnds o as μ
  | .startswith => mStarts o as μ
  | .partition => mPart o as μ
  | .append => mAppend o as μ
  | .extend => mExtend o as μ
  | .pop => mPop o as μ
  | .index => mIndex o as μ
  | .count => mCount o as μ
  | .countS => mCountS o as μ
  | .get => mGet o as μ
  | .remove => mRemove o as μ
  | .upper => .bad
  | .setdefault => .bad
  | .values => .bad

def isStrP : PV → Bool
  | .str _ => true
  | _ => false
def isLstP : PV → Bool
  | .lst _ => true
  | _ => false
def isDictP (μ : Sto) : PV → Bool
  | .loc n => (match μ[n]? with | some (.dict _) => true | _ => false)
  | _ => false
/-- a receiver that has the method -/
def recv (op : MOp) (p : PV) (μ : Sto) : Bool :=
  match op with
  | .append => isLstP (see μ p) | .extend => isLstP (see μ p) | .pop => isLstP (see μ p) | .remove => isLstP (see μ p)
  | .index => isLstP (see μ p) | .count => isLstP (see μ p)
  | .get => isDictP μ p
  | _ => isStrP p

def opIdx (p i : PV) (μ : Sto) : R PV :=
  match p, i with
  | .tup xs, .int j => match L2.atI xs j with | some x => .ok x μ | none => .bad
  | .lst xs, .int j => match L2.atI xs j with | some x => .ok x μ | none => .bad
  | .scr xs, .int j => match L2.atI xs j with | some x => .ok (.int x) μ | none => .bad
  | .str z, .int j => if z.length ≤ SL then (match L2.atI z j with | some c => .ok (.str [c]) μ | none => .bad) else .bad
  | .loc n, i => match μ[n]?, i with
    | some (.list xs), .int j => match L2.atI xs j with | some x => .ok x μ | none => .bad
    | some (.dict kvs), k => if key? k then (match lookD k kvs with | some v => .ok v μ | none => .bad) else .bad
    | _, _ => .bad
  | _, _ => .bad

/-- xs[lo:hi] -/
def cutL {α : Type} (xs : List α) (lo hi : Option Int) : List α := (xs.drop (HT.sIx xs.length 0 lo)).take (HT.sIx xs.length xs.length hi - HT.sIx xs.length 0 lo)
def opSl (p : PV) (lo hi : Option Int) (μ : Sto) : R PV :=
  match see μ p with
  | .tup xs => .ok (.tup (cutL xs lo hi)) μ
  | .lst xs => .ok (.lst (cutL xs lo hi)) μ
  | .str z => if z.length ≤ SL then .ok (.str (cutL z lo hi)) μ else .bad
  | _ => .bad
def opRev (p : PV) (μ : Sto) : R PV :=
  match see μ p with
  | .lst xs => .ok (.lst xs.reverse) μ
  | .scr xs => .ok (.lst (xs.reverse.map .int)) μ
  | _ => .bad

/-! ### programs -/
/-- where a value goes: a slot, or each part of a tuple -/
inductive Pat where
  | v (i : Nat) | t (ps : List Pat)

abbrev EnvP := List (Option PV)

mutual
def setPat : Pat → PV → EnvP → Option EnvP
  | .v i, p, env => some (env.set i (some p))
  | .t ps, .tup xs, env => setPats ps xs env
  | _, _, _ => none
def setPats : List Pat → List PV → EnvP → Option EnvP
  | [], [], env => some env
  | p :: ps, x :: xs, env => (setPat p x env).bind fun e => setPats ps xs e
  | _, _, _ => none
end
mutual
/-- the slots of a pattern -/
def patSlots : Pat → List Nat
  | .v i => [i]
  | .t ps => patsSlots ps
def patsSlots : List Pat → List Nat
  | [] => []
  | p :: ps => patSlots p ++ patsSlots ps
end
def wipeE (env : EnvP) : List Nat → EnvP
  | [] => env
  | i :: is => (wipeE env is).set i none

mutual
inductive CE where
  | var (i : Nat) | con (p : PV) | glo (i : Nat)
  | tup (es : List CE) | lst (es : List CE) | newl (es : List CE) | newd (ks vs : List CE)
  | bin (op : BOp) (a b : CE) | cmp (op : COp) (a b : CE) | chain (op op' : COp) (a b c : CE)
  | and (a b : CE) | or (a b : CE) | not (a : CE) | ite (c a b : CE)
  | isi (e : CE) (ks : List Nat) | isx (e : CE) (k : Nat)
  | call (f : Nat) (args : List CE) | new (c : Nat) (args : List CE) | meth (c f : Nat) (o : CE) (args : List CE) | fld (o : CE) (f : Nat)
  | b1 (op : B1) (a : CE) | b2 (op : B2) (a b : CE) | m (op : MOp) (o : CE) (args : List CE)
  | idx (a i : CE) | sl (a : CE) (lo hi : Option CE) | rev (a : CE)
  | comp (cell : Bool) (elt : CE) (p : Pat) (it : CI) (cond : Option CE)
  | sortk (a : CE) (i : Nat) (key : CE) | sortf (a : CE) (f : Nat)
inductive CI where
  | seq (e : CE) | rng1 (a : CE) | rng2 (a b : CE) | rng3 (a b c : CE) | enum (e : CE) | zip (a b : CE)
end

inductive CS where
  | expr (e : CE) | asg (p : Pat) (e : CE) | sub (d i v : CE) | sfld (o : CE) (f : Nat) (v : CE)
  | ite (c : CE) (a b : List CS) | forr (p : Pat) (it : CI) (body : List CS) | ret (e : CE) | retn | raise (c : Nat)
  /-- try: body / except c as slot: return e, or name = e; ds: what may be raised -/
  | tryy (body : List CS) (c : Nat) (slot : Option Nat) (goal : Option Nat) (e : CE) (ds : List Nat)
  /-- o.f, o.g, .. = a tuple -/
  | tfld (o : CE) (fs : List Nat) (e : CE)
  | pass | stop

/-- what a loop walks: items that stand, or a list's cell -/
inductive Src where
  | items (xs : List PV) | live (n : Nat) | liveEnum (n : Nat)
/-- the i-th item; none where the walk is not told -/
def Src.at (s : Src) (μ : Sto) (i : Nat) : Option (Option PV) :=
  match s with
  | .items xs => some xs[i]?
  | .live n => match μ[n]? with | some (.list xs) => some xs[i]? | _ => none
  | .liveEnum n => match μ[n]? with | some (.list xs) => some (xs[i]?.map fun x => .tup [.int i, x]) | _ => none
def Src.most (s : Src) (μ : Sto) : Nat :=
  match s with
  | .items xs => xs.length
  | .live n => match μ[n]? with | some (.list xs) => xs.length | _ => 0
  | .liveEnum n => match μ[n]? with | some (.list xs) => xs.length | _ => 0

def enumL (xs : List PV) : List PV := (List.range xs.length).zipWith (fun i x => .tup [.int (i : Nat), x]) xs
def srcSeq (p : PV) (μ : Sto) : R Src :=
  match p with
  | .tup xs => .ok (.items xs) μ
  | .lst xs => .ok (.items xs) μ
  | .str z => .ok (.items (z.map fun c => .str [c])) μ
  | .loc n => match μ[n]? with | some (.list _) => .ok (.live n) μ | _ => .bad
  | _ => .bad
def srcEnum (p : PV) (μ : Sto) : R Src :=
  match p with
  | .tup xs => .ok (.items (enumL xs)) μ
  | .lst xs => .ok (.items (enumL xs)) μ
  | .loc n => match μ[n]? with | some (.list _) => .ok (.liveEnum n) μ | _ => .bad
  | _ => .bad
def srcZip (p q : PV) (μ : Sto) : R Src :=
  match p, q with
  | .tup xs, .tup ys => .ok (.items (List.zipWith (fun x y => .tup [x, y]) xs ys)) μ
  | .lst xs, .lst ys => .ok (.items (List.zipWith (fun x y => .tup [x, y]) xs ys)) μ
  | _, _ => .bad
def small62 (i : Int) : Bool := decide (-(2 ^ 62) ≤ i ∧ i < 2 ^ 62)
def srcRng1 (a : PV) (μ : Sto) : R Src :=
  match a with
  | .int j => if small62 j then .ok (.items ((List.range j.toNat).map fun (k : Nat) => .int k)) μ else .bad
  | _ => .bad
def srcRng2 (a b : PV) (μ : Sto) : R Src :=
  match a, b with
  | .int i, .int j => if small62 i && small62 j then .ok (.items ((List.range (j - i).toNat).map fun (k : Nat) => .int (i + k))) μ else .bad
  | _, _ => .bad
def rgLen (i j c : Int) : Nat := if 0 < c then ((j - i + (c - 1)) / c).toNat else ((i - j + (-c - 1)) / (-c)).toNat
def srcRng3 (a b c : PV) (μ : Sto) : R Src :=
  match a, b, c with
  | .int i, .int j, .int k => if small62 i && small62 j && decide (k ≠ 0 ∧ k.natAbs < 1073741824) then .ok (.items ((List.range (rgLen i j k)).map fun (m : Nat) => .int (i + m * k))) μ else .bad
  | _, _, _ => .bad

structure FDef where
  np : Nat
  ns : Nat
  /-- runs on its caller's store -/
  eff : Bool
  body : List CS
structure CDef where
  /-- its __init__ -/
  init : Nat
structure Prog where
  funs : List FDef
  consts : List PV
  classes : List CDef
  /-- is the exception class c the class d, or below it -/
  sup : Nat → Nat → Bool

abbrev CallS := Nat → List PV → Sto → R PV

def truthR (r : R PV) (k : Bool → Sto → R PV) : R PV := r.bind fun p μ => match truth μ p with | some b => k b μ | none => .bad
/-- collecting turns -/
def compLoop (src : Src) (turn : PV → Sto → R (Option PV)) : Nat → Nat → List PV → Sto → R (List PV)
  | 0, i, acc, μ => match src.at μ i with | some none => .ok acc μ | _ => .bad
  | n + 1, i, acc, μ => match src.at μ i with
    | some none => .ok acc μ
    | some (some x) => (turn x μ).bind fun o μ' => match o with
      | some y => if acc.length < SL then compLoop src turn n (i + 1) (acc ++ [y]) μ' else .bad
      | none => compLoop src turn n (i + 1) acc μ'
    | none => .bad
/-- in a comprehension nothing may be raised -/
def calm {α : Type} : R α → R α
  | .exn _ _ => .bad
  | r => r
def mkLst (cell : Bool) (xs : List PV) (μ : Sto) : R PV := if cell then .ok (.loc μ.length) (μ ++ [.list xs]) else .ok (.lst xs) μ
/-- an object of the class c -/
def isInst (c : Nat) (p : PV) (μ : Sto) : Bool := match p with
  | .loc n => (match μ[n]? with | some (.inst d _) => d == c | _ => false)
  | _ => false
def fldOf (p : PV) (f : Nat) (μ : Sto) : R PV :=
  match p with
  | .loc n => match μ[n]? with
    | some (.inst _ fs) => match fs.lookup f with | some v => .ok v μ | none => .bad
    | _ => .bad
  | _ => .bad
def keysBy (key : PV → Sto → R PV) : List PV → Sto → R (List PV)
  | [], μ => .ok [] μ
  | x :: xs, μ => (calm (key x μ)).bind fun k μ => (keysBy key xs μ).bind fun ks μ => .ok (k :: ks) μ
def sortBy (xs ks : List PV) (μ : Sto) : R PV :=
  if sortable ks && ks.length == xs.length then .ok (.lst (((ks.zip xs).mergeSort (PySem.W.dataLe false fun q => toD q.1)).map (·.2))) μ else .bad
def listOf (p : PV) (μ : Sto) (k : List PV → R PV) : R PV := match see μ p with | .lst xs => k xs | _ => .bad

section
variable (P : Prog) (cs : CallS)
mutual
def ev : CE → EnvP → Sto → R PV
  | .var i, env, μ => match env[i]? with | some (some p) => .ok p μ | _ => .bad
  | .con p, _, μ => .ok p μ
  | .glo i, _, μ => match P.consts[i]? with | some p => .ok p μ | none => .bad
  | .tup es, env, μ => (evs es env μ).bind fun ps μ => if ps.length ≤ SL then .ok (.tup ps) μ else .bad
  | .lst es, env, μ => (evs es env μ).bind fun ps μ => if ps.length ≤ SL then .ok (.lst ps) μ else .bad
  | .newl es, env, μ => (evs es env μ).bind fun ps μ => if ps.length ≤ SL then mkLst true ps μ else .bad
  | .newd ks vs, env, μ => (evs ks env μ).bind fun ps μ => (evs vs env μ).bind fun qs μ => if ps.all key? && ps.length == qs.length && decide (ps.length ≤ 15) then .ok (.loc μ.length) (μ ++ [.dict ((ps.zip qs).foldl (fun d kv => putD kv.1 kv.2 d) [])]) else .bad
  | .bin op a b, env, μ => (ev a env μ).bind fun p μ => (ev b env μ).bind fun q μ => opBin op p q μ
  | .cmp op a b, env, μ => (ev a env μ).bind fun p μ => (ev b env μ).bind fun q μ => opCmp op p q μ
  | .chain op op' a b c, env, μ => (ev a env μ).bind fun p μ => (ev b env μ).bind fun q μ => (opCmp op p q μ).bind fun r μ => match r with
    | .bl true => (ev c env μ).bind fun s μ => opCmp op' q s μ
    | .bl false => .ok (.bl false) μ
    | _ => .bad
  | .and a b, env, μ => (ev a env μ).bind fun p μ => match truth μ p with | some true => ev b env μ | some false => .ok p μ | none => .bad
  | .or a b, env, μ => (ev a env μ).bind fun p μ => match truth μ p with | some true => .ok p μ | some false => ev b env μ | none => .bad
  | .not a, env, μ => (ev a env μ).bind fun p μ => match truth μ p with | some b => .ok (.bl (!b)) μ | none => .bad
  | .ite c a b, env, μ => (ev c env μ).bind fun p μ => match truth μ p with | some true => ev a env μ | some false => ev b env μ | none => .bad
  | .isi e ks, env, μ => (ev e env μ).bind fun p μ => if hasKind (see μ p) then .ok (.bl (ks.any (isKind P.sup (see μ p)))) μ else .bad
  | .isx e k, env, μ => (ev e env μ).bind fun p μ => match p with | .exc c => .ok (.bl (P.sup c k)) μ | _ => .bad
  | .call f args, env, μ => (evs args env μ).bind fun ps μ => cs f ps μ
  | .new c args, env, μ => (evs args env μ).bind fun ps μ => match P.classes[c]? with
    | some cd => (cs cd.init (.loc μ.length :: ps) (μ ++ [.inst c []])).bind fun r μ' => match r with | .non => .ok (.loc μ.length) μ' | _ => .bad
    | none => .bad
  | .meth c f o args, env, μ => (ev o env μ).bind fun p μ => if isInst c p μ then (evs args env μ).bind fun ps μ => cs f (p :: ps) μ else .bad
  | .fld o f, env, μ => (ev o env μ).bind fun p μ => fldOf p f μ
  | .b1 op a, env, μ => (ev a env μ).bind fun p μ => opB1 op p μ
  | .b2 op a b, env, μ => (ev a env μ).bind fun p μ => (ev b env μ).bind fun q μ => opB2 op p q μ
  | .m op o args, env, μ => (ev o env μ).bind fun p μ => if recv op p μ then (evs args env μ).bind fun ps μ => opM op p ps μ else .bad
  | .idx a i, env, μ => (ev a env μ).bind fun p μ => (ev i env μ).bind fun q μ => opIdx p q μ
  | .sl a lo hi, env, μ => (ev a env μ).bind fun p μ => (evo lo env μ).bind fun l μ => (evo hi env μ).bind fun h μ => opSl p l h μ
  | .rev a, env, μ => (ev a env μ).bind fun p μ => opRev p μ
  | .comp cell elt p it cond, env, μ => (evi it env μ).bind fun src μ =>
    (calm (compLoop src (fun x μ => match setPat p x (wipeE env (patSlots p)) with
      | none => .bad
      | some env' => match cond with
        | none => (ev elt env' μ).bind fun y μ => .ok (some y) μ
        | some c => (ev c env' μ).bind fun t μ => match truth μ t with
          | some true => (ev elt env' μ).bind fun y μ => .ok (some y) μ
          | some false => .ok none μ
          | none => .bad) (src.most μ) 0 [] μ)).bind fun ys μ => mkLst cell ys μ
  | .sortk a i key, env, μ => (ev a env μ).bind fun p μ => listOf p μ fun xs => (keysBy (fun x μ => ev key (env.set i (some x)) μ) xs μ).bind fun ks μ => sortBy xs ks μ
  | .sortf a f, env, μ => (ev a env μ).bind fun p μ => listOf p μ fun xs => (keysBy (fun x μ => cs f [x] μ) xs μ).bind fun ks μ => sortBy xs ks μ
def evs : List CE → EnvP → Sto → R (List PV)
  | [], _, μ => .ok [] μ
  | e :: es, env, μ => (ev e env μ).bind fun p μ => (evs es env μ).bind fun ps μ => .ok (p :: ps) μ
def evo : Option CE → EnvP → Sto → R (Option Int)
  | none, _, μ => .ok none μ
  | some e, env, μ => (ev e env μ).bind fun p μ => match p with | .int i => .ok (some i) μ | _ => .bad
def evi : CI → EnvP → Sto → R Src
  | .seq e, env, μ => (ev e env μ).bind fun p μ => srcSeq p μ
  | .rng1 a, env, μ => (ev a env μ).bind fun p μ => srcRng1 p μ
  | .rng2 a b, env, μ => (ev a env μ).bind fun p μ => (ev b env μ).bind fun q μ => srcRng2 p q μ
  | .rng3 a b c, env, μ => (ev a env μ).bind fun p μ => (ev b env μ).bind fun q μ => (ev c env μ).bind fun r μ => srcRng3 p q r μ
  | .enum e, env, μ => (ev e env μ).bind fun p μ => srcEnum p μ
  | .zip a b, env, μ => (ev a env μ).bind fun p μ => (ev b env μ).bind fun q μ => srcZip p q μ
end

/-- how a statement ends -/
inductive RS where
  | nx (env : EnvP) (μ : Sto) | rt (p : PV) (μ : Sto) | exn (c : Nat) (env : EnvP) (μ : Sto) | bad
def RS.of {α : Type} (env : EnvP) : R α → (α → Sto → RS) → RS
  | .ok a μ, k => k a μ
  | .exn c μ, _ => .exn c env μ
  | .bad, _ => .bad
def RS.andThen : RS → (EnvP → Sto → RS) → RS
  | .nx env μ, k => k env μ
  | r, _ => r
def forLoop (src : Src) (turn : PV → EnvP → Sto → RS) : Nat → Nat → EnvP → Sto → RS
  | 0, i, env, μ => match src.at μ i with | some none => .nx env μ | _ => .bad
  | n + 1, i, env, μ => match src.at μ i with
    | some none => .nx env μ
    | some (some x) => (turn x env μ).andThen fun env μ => forLoop src turn n (i + 1) env μ
    | none => .bad
def putField (f : Nat) (v : PV) : List (Nat × PV) → List (Nat × PV)
  | [] => [(f, v)]
  | (g, w) :: r => if g = f then (g, v) :: r else (g, w) :: putField f v r
def setSub (d i v : PV) (μ : Sto) : Option Sto :=
  match d with
  | .loc n => match μ[n]? with
    | some (.list xs) => match i with
      | .int j => (L2.ixN xs.length j).map fun k => μ.set n (.list (xs.set k v))
      | _ => none
    | some (.dict kvs) => if key? i && decide (kvs.length < 100000) then some (μ.set n (.dict (putD i v kvs))) else none
    | _ => none
  | _ => none
def setFld (o : PV) (f : Nat) (v : PV) (μ : Sto) : Option Sto :=
  match o with
  | .loc n => match μ[n]? with
    | some (.inst c fs) => if fs.length < 900 then some (μ.set n (.inst c (putField f v fs))) else none
    | _ => none
  | _ => none

/-- o.f, o.g, .. = vs, one behind the other -/
def tFlds (r : EnvP → Sto → R PV) : List Nat → List PV → EnvP → Sto → RS
  | [], [], env, μ => .nx env μ
  | f :: fs, v :: vs, env, μ => RS.of env (r env μ) fun y μ => match setFld y f v μ with | some μ => tFlds r fs vs env μ | none => .bad
  | _, _, _, _ => .bad
/-- within an except suite the caught one alone is seen -/
def suiteEnv (slot : Option Nat) (d : Nat) (env : EnvP) : EnvP :=
  let z : EnvP := List.replicate env.length none
  match slot with | none => z | some i => z.set i (some (.exc d))
/-- behind it the name is gone -/
def dropS (slot : Option Nat) (env : EnvP) : EnvP := match slot with | none => env | some i => env.set i none
def suiteEnd (slot goal : Option Nat) (r : R PV) (env : EnvP) (μ : Sto) : RS := match r with
  | .ok p _ => if pure? p then (match goal with
    | none => .rt p μ
    | some j => .nx (dropS slot (env.set j (some p))) μ) else .bad
  | _ => .bad
mutual
def exec : CS → EnvP → Sto → RS
  | .expr e, env, μ => RS.of env (ev P cs e env μ) fun _ μ => .nx env μ
  | .asg p e, env, μ => RS.of env (ev P cs e env μ) fun x μ => match setPat p x env with | some env' => .nx env' μ | none => .bad
  | .sub d i v, env, μ => RS.of env (ev P cs v env μ) fun x μ => RS.of env (ev P cs d env μ) fun y μ => RS.of env (ev P cs i env μ) fun z μ => match setSub y z x μ with | some μ => .nx env μ | none => .bad
  | .sfld o f v, env, μ => RS.of env (ev P cs v env μ) fun x μ => RS.of env (ev P cs o env μ) fun y μ => match setFld y f x μ with | some μ => .nx env μ | none => .bad
  | .ite c a b, env, μ => RS.of env (ev P cs c env μ) fun p μ => match truth μ p with | some true => execs a env μ | some false => execs b env μ | none => .bad
  | .forr p it body, env, μ => RS.of env (evi P cs it env μ) fun src μ => forLoop src (fun x env μ => match setPat p x env with | some env' => execs body env' μ | none => .bad) (src.most μ) 0 env μ
  | .ret e, env, μ => RS.of env (ev P cs e env μ) fun p μ => .rt p μ
  | .retn, _, μ => .rt .non μ
  | .raise c, env, μ => .exn c env μ
  | .tryy body c slot goal e ds, env, μ => match execs body env μ with
    | .exn d env' μ' => if ds.contains d then (if P.sup d c then suiteEnd slot goal (ev P cs e (suiteEnv slot d env') []) env' μ' else .exn d env' μ') else .bad
    | r => r
  | .tfld o fs e, env, μ => RS.of env (ev P cs e env μ) fun x μ => match x with | .tup vs => if vs.length = fs.length then tFlds (fun env μ => ev P cs o env μ) fs vs env μ else .bad | _ => .bad
  | .pass, env, μ => .nx env μ
  | .stop, _, _ => .bad
def execs : List CS → EnvP → Sto → RS
  | [], env, μ => .nx env μ
  | s :: ss, env, μ => (exec s env μ).andThen fun env μ => execs ss env μ
end
end

/-- a list made by a def and handed back stands from then on -/
def settle (p : PV) (μ : Sto) : PV := see μ p
def endOf (r : RS) : R PV := match r with
  | .nx _ μ => .ok .non μ
  | .rt p μ => .ok p μ
  | .exn c _ μ => .exn c μ
  | .bad => .bad
def startE (d : FDef) (args : List PV) : EnvP := args.map some ++ List.replicate (d.ns - d.np) none

/-- what a def may be handed that runs on a store of its own -/
def passes : PV → Bool
  | .scr _ => true
  | p => pure? p
def callF (P : Prog) : Nat → CallS
  | 0, _, _, _ => .bad
  | n + 1, f, args, μ => match P.funs[f]? with
    | none => .bad
    | some d => if args.length = d.np then
        if d.eff then endOf (execs P (callF P n) d.body (startE d args) μ)
        else if args.all (fun a => passes (see μ a)) then
          (match endOf (execs P (callF P n) d.body (startE d (args.map (see μ))) []) with
          | .ok p μ' => if pure? (settle p μ') && (args.all (fun a => match a with | .loc _ => false | _ => true) || hard? (settle p μ')) then .ok (settle p μ') μ else .bad
          | .exn c _ => .exn c μ
          | .bad => .bad)
        else .bad
      else .bad
/-- a comprehension's turn -/
def turnOf (P : Prog) (cs : CallS) (elt : CE) (p : Pat) (cond : Option CE) (env : EnvP) (x : PV) (μ : Sto) : R (Option PV) := match setPat p x (wipeE env (patSlots p)) with
      | none => .bad
      | some env' => match cond with
        | none => (ev P cs elt env' μ).bind fun y μ => .ok (some y) μ
        | some c => (ev P cs c env' μ).bind fun t μ => match truth μ t with
          | some true => (ev P cs elt env' μ).bind fun y μ => .ok (some y) μ
          | some false => .ok none μ
          | none => .bad
theorem ev_comp {P : Prog} {cs : CallS} {cell : Bool} {ce : CE} {p : Pat} {ci : CI} {cond : Option CE} (env : EnvP) (μ : Sto) : ev P cs (.comp cell ce p ci cond) env μ = (evi P cs ci env μ).bind fun src μ => (calm (compLoop src (turnOf P cs ce p cond env) (src.most μ) 0 [] μ)).bind fun ys μ => mkLst cell ys μ := by
  rw [ev]
  cases cond <;> rfl
end NR

/-! NR1: what a plain value is in the abstract heap; the readings of the evaluator. -/
namespace NR
open PySem L2

/-- what the text has: the written part, the classes' places, the fields' names, the exception classes -/
structure Gi where
  K : PySem.W.Frag
  cA : Nat → Addr
  fN : Nat → Str
  cv : Nat → Value
  /-- the tables of code objects, with the name that each tells -/
  T : List (Addr × Str)

def okTxt (s : List Nat) : Prop := ∀ c ∈ s, c < 0x110000
abbrev mkT (s : List Nat) : Str := ⟨s.toArray⟩

mutual
inductive Rep (G : Gi) (eh : List (Addr × Nat)) (F : Hp) (am : List Addr) : PV → V → Prop
  | non : Rep G eh F am .non .non
  | bl (b : Bool) : Rep G eh F am (.bl b) (.bl b)
  | int (i : Int) : Rep G eh F am (.int i) (.int i)
  | str (s : List Nat) : okTxt s → Rep G eh F am (.str s) (.str (mkT s))
  | tup {a : Addr} {xs : List V} {ps : List PV} : SqT G.K F a xs → RepL G eh F am ps xs → Rep G eh F am (.tup ps) (.ref a)
  | lst {a : Addr} {xs : List V} {ps : List PV} : F a = some (.lst xs) → RepL G eh F am ps xs → Rep G eh F am (.lst ps) (.ref a)
  | loc {n : Nat} {a : Addr} : am[n]? = some a → Rep G eh F am (.loc n) (.ref a)
  | exc {c : Nat} {a : Addr} : (a, c) ∈ eh → Rep G eh F am (.exc c) (.ref a)
  | scr {ns : List Int} {a : Addr} : SqL G.K F a (ns.map V.int) → Rep G eh F am (.scr ns) (.ref a)
inductive RepL (G : Gi) (eh : List (Addr × Nat)) (F : Hp) (am : List Addr) : List PV → List V → Prop
  | nil : RepL G eh F am [] []
  | cons {p : PV} {v : V} {ps : List PV} {vs : List V} : Rep G eh F am p v → RepL G eh F am ps vs → RepL G eh F am (p :: ps) (v :: vs)
end

section
variable {G : Gi} {eh : List (Addr × Nat)} {F F' : Hp} {am am' : List Addr}
theorem SqT.same {K : PySem.W.Frag} {H H' : Hp} {a : Addr} {xs : List V} (e : Same H H') (h : SqT K H a xs) : SqT K H' a xs := by
  rcases h with (h | ⟨o, h⟩) | h
  · exact .inl (.inl (e _ _ h))
  · exact .inl (.inr ⟨o, e _ _ h⟩)
  · exact .inr h
theorem pre_get {α : Type} {l m : List α} (h : l <+: m) {n : Nat} {a : α} (e : l[n]? = some a) : m[n]? = some a := by
  obtain ⟨t, rfl⟩ := h
  have hl : n < l.length := (List.getElem?_eq_some_iff.mp e).1
  rw [List.getElem?_append_left hl]
  exact e
mutual
theorem Rep.mono (hf : Same F F') (ha : am <+: am') : ∀ (p : PV) (v : V), Rep G eh F am p v → Rep G eh F' am' p v
  | .non, _, h => by cases h; exact .non
  | .bl _, _, h => by cases h; exact .bl _
  | .int _, _, h => by cases h; exact .int _
  | .str s, _, h => by cases h with | str _ o => exact .str s o
  | .tup ps, _, h => by cases h with | tup h1 h2 => exact .tup (SqT.same hf h1) (RepL.mono hf ha ps _ h2)
  | .lst ps, _, h => by cases h with | lst h1 h2 => exact .lst (hf _ _ h1) (RepL.mono hf ha ps _ h2)
  | .loc _, _, h => by cases h with | loc h1 => exact .loc (pre_get ha h1)
  | .exc _, _, h => by cases h with | exc h1 => exact .exc h1
  | .scr _, _, h => by cases h with | scr h1 => exact .scr (hf.seq h1)
theorem RepL.mono (hf : Same F F') (ha : am <+: am') : ∀ (ps : List PV) (vs : List V), RepL G eh F am ps vs → RepL G eh F' am' ps vs
  | [], _, h => by cases h; exact .nil
  | p :: ps, _, h => by cases h with | cons h1 h2 => exact .cons (Rep.mono hf ha p _ h1) (RepL.mono hf ha ps _ h2)
end
theorem RepL.length : ∀ {ps : List PV} {vs : List V}, RepL G eh F am ps vs → ps.length = vs.length
  | [], _, h => by cases h; rfl
  | _ :: _, _, h => by cases h with | cons _ h2 => simp [h2.length]
theorem RepL.get : ∀ {ps : List PV} {vs : List V} {i : Nat} {p : PV}, RepL G eh F am ps vs → ps[i]? = some p → ∃ v, vs[i]? = some v ∧ Rep G eh F am p v
  | [], _, _, _, h, e => by simp at e
  | q :: ps, _, 0, p, h, e => by
    cases h with
    | cons h1 h2 =>
      simp at e
      subst e
      exact ⟨_, rfl, h1⟩
  | q :: ps, _, i + 1, p, h, e => by
    cases h with
    | cons h1 h2 =>
      obtain ⟨v, e1, e2⟩ := h2.get (i := i) (by simpa using e)
      exact ⟨v, by simpa using e1, e2⟩
theorem RepL.getV : ∀ {ps : List PV} {vs : List V} {i : Nat} {v : V}, RepL G eh F am ps vs → vs[i]? = some v → ∃ p, ps[i]? = some p ∧ Rep G eh F am p v
  | [], _, _, _, h, e => by cases h; simp at e
  | q :: ps, _, 0, v, h, e => by
    cases h with
    | cons h1 h2 =>
      simp at e
      subst e
      exact ⟨_, rfl, h1⟩
  | q :: ps, _, i + 1, v, h, e => by
    cases h with
    | cons h1 h2 =>
      obtain ⟨p, e1, e2⟩ := h2.getV (i := i) (by simpa using e)
      exact ⟨p, by simpa using e1, e2⟩
theorem RepL.append : ∀ {ps qs : List PV} {vs ws : List V}, RepL G eh F am ps vs → RepL G eh F am qs ws → RepL G eh F am (ps ++ qs) (vs ++ ws)
  | [], _, _, _, h, k => by cases h; exact k
  | _ :: _, _, _, _, h, k => by cases h with | cons h1 h2 => exact .cons h1 (h2.append k)
theorem RepL.take : ∀ {ps : List PV} {vs : List V} (n : Nat), RepL G eh F am ps vs → RepL G eh F am (ps.take n) (vs.take n)
  | _, _, 0, _ => .nil
  | [], _, _ + 1, h => by cases h; exact .nil
  | _ :: _, _, n + 1, h => by cases h with | cons h1 h2 => exact .cons h1 (h2.take n)
theorem RepL.drop : ∀ {ps : List PV} {vs : List V} (n : Nat), RepL G eh F am ps vs → RepL G eh F am (ps.drop n) (vs.drop n)
  | _, _, 0, h => h
  | [], _, _ + 1, h => by cases h; exact .nil
  | _ :: _, _, n + 1, h => by cases h with | cons h1 h2 => exact h2.drop n
theorem RepL.set {p : PV} {v : V} (r : Rep G eh F am p v) : ∀ {ps : List PV} {vs : List V} (i : Nat), RepL G eh F am ps vs → RepL G eh F am (ps.set i p) (vs.set i v)
  | [], _, _, h => by cases h; exact .nil
  | _ :: _, _, 0, h => by cases h with | cons h1 h2 => exact .cons r h2
  | _ :: _, _, i + 1, h => by cases h with | cons h1 h2 => exact .cons h1 (h2.set r i)
theorem RepL.reverse : ∀ {ps : List PV} {vs : List V}, RepL G eh F am ps vs → RepL G eh F am ps.reverse vs.reverse
  | [], _, h => by cases h; exact .nil
  | _ :: _, _, h => by
    cases h with
    | cons h1 h2 =>
      rw [List.reverse_cons, List.reverse_cons]
      exact (h2.reverse).append (.cons h1 .nil)
theorem RepL.cut {ps : List PV} {vs : List V} (h : RepL G eh F am ps vs) (lo hi : Option Int) : RepL G eh F am (cutL ps lo hi) (cutV vs lo hi) := by
  unfold cutL cutV
  rw [h.length]
  exact (h.drop _).take _
end

/-! ### cells -/
def KeyRel : PV → Key → Prop
  | .int i, k => k = Sum.inl i
  | .str s, k => okTxt s ∧ k = Sum.inr (mkT s)
  | _, _ => False
inductive DRep (G : Gi) (eh : List (Addr × Nat)) (F : Hp) (am : List Addr) : List (PV × PV) → List (Key × V) → Prop
  | nil : DRep G eh F am [] []
  | cons {k p : PV} {j : Key} {v : V} {r : List (PV × PV)} {s : List (Key × V)} : KeyRel k j → Rep G eh F am p v → DRep G eh F am r s → DRep G eh F am ((k, p) :: r) ((j, v) :: s)
inductive FRep (G : Gi) (eh : List (Addr × Nat)) (F : Hp) (am : List Addr) : List (Nat × PV) → List (Str × V) → Prop
  | nil : FRep G eh F am [] []
  | cons {f : Nat} {p : PV} {v : V} {r : List (Nat × PV)} {s : List (Str × V)} : Rep G eh F am p v → FRep G eh F am r s → FRep G eh F am ((f, p) :: r) ((G.fN f, v) :: s)
def CellOk (G : Gi) (eh : List (Addr × Nat)) (F H : Hp) (am : List Addr) (a : Addr) : Cell → Prop
  | .list ps => ∃ xs, H a = some (.lst xs) ∧ RepL G eh F am ps xs
  | .dict kvs => ∃ es, H a = some (.dK es) ∧ DRep G eh F am kvs es
  | .inst c fs => ∃ dx fv, H a = some (.ins (G.cA c) dx fv) ∧ FRep G eh F am fs fv
/-- the store stands: its cells at am, the frozen part F within H -/
structure StOk (G : Gi) (eh : List (Addr × Nat)) (F H : Hp) (am : List Addr) (μ : Sto) : Prop where
  len : am.length = μ.length
  nd : am.Nodup
  fr : ∀ a ∈ am, F a = none
  sub : Same F H
  ft : ∀ b ps, F b ≠ some (.tbl ps)
  tb : LamX.Tabs G.T H
  cell : ∀ (n : Nat) (a : Addr) (c : Cell), am[n]? = some a → μ[n]? = some c → CellOk G eh F H am a c
/-- the slots hold the environment's values -/
structure EnvOk (G : Gi) (eh : List (Addr × Nat)) (F : Hp) (am : List Addr) (σ : St) (env : EnvP) : Prop where
  len : σ.length = env.length
  at_ : ∀ (i : Nat) (p : PV), env[i]? = some (some p) → ∃ v, σ[i]? = some (some v) ∧ Rep G eh F am p v
/-- on from one state to another -/
structure Ext (F H : Hp) (am : List Addr) (F' H' : Hp) (am' : List Addr) : Prop where
  f : Same F F'
  a : am <+: am'
  h : ∀ b o, H b = some o → (∀ ps, o ≠ .tbl ps) → b ∉ am → H' b = some o
  th : ∀ b, H b ≠ none → H' b ≠ none
  nf : ∀ b, H b ≠ none → F' b = F b
  na : ∀ b ∈ am', b ∉ am → H b = none
section
variable {G : Gi} {eh : List (Addr × Nat)} {F F' F1 F2 H H' H1 H2 : Hp} {am am' am1 am2 : List Addr} {μ μ' : Sto} {σ : St} {env : EnvP}
theorem Ext.refl : Ext F H am F H am := ⟨Same.refl F, List.prefix_refl _, fun _ _ h _ _ => h, fun _ h => h, fun _ _ => rfl, fun b hb hn => absurd hb hn⟩
theorem Ext.trans (x : Ext F H am F1 H1 am1) (y : Ext F1 H1 am1 F2 H2 am2) : Ext F H am F2 H2 am2 where
  f := x.f.trans y.f
  a := x.a.trans y.a
  h := fun b o e nt hb => y.h b o (x.h b o e nt hb) nt fun hm => by
    have := x.na b hm hb
    rw [this] at e; cases e
  th := fun b h => y.th b (x.th b h)
  nf := fun b h => (y.nf b (x.th b h)).trans (x.nf b h)
  na := fun b hb hn => by
    by_cases hm : b ∈ am1
    · exact x.na b hm hn
    · have := y.na b hb hm
      cases e : H b with
      | none => rfl
      | some o => exact absurd this (x.th b (by rw [e]; simp))
theorem Ext.rep (x : Ext F H am F' H' am') {p : PV} {v : V} (r : Rep G eh F am p v) : Rep G eh F' am' p v := Rep.mono x.f x.a p v r
theorem Ext.repL (x : Ext F H am F' H' am') {ps : List PV} {vs : List V} (r : RepL G eh F am ps vs) : RepL G eh F' am' ps vs := RepL.mono x.f x.a ps vs r
theorem Ext.en (x : Ext F H am F' H' am') (r : EnvOk G eh F am σ env) : EnvOk G eh F' am' σ env :=
  ⟨r.len, fun i p e => let ⟨v, e1, e2⟩ := r.at_ i p e; ⟨v, e1, x.rep e2⟩⟩
theorem DRep.mono (hf : Same F F') (ha : am <+: am') : ∀ {kvs : List (PV × PV)} {es : List (Key × V)}, DRep G eh F am kvs es → DRep G eh F' am' kvs es
  | _, _, .nil => .nil
  | _, _, .cons h1 h2 h3 => .cons h1 (Rep.mono hf ha _ _ h2) (DRep.mono hf ha h3)
theorem FRep.mono (hf : Same F F') (ha : am <+: am') : ∀ {kvs : List (Nat × PV)} {es : List (Str × V)}, FRep G eh F am kvs es → FRep G eh F' am' kvs es
  | _, _, .nil => .nil
  | _, _, .cons h1 h2 => .cons (Rep.mono hf ha _ _ h1) (FRep.mono hf ha h2)
theorem CellOk.mono {a : Addr} {c : Cell} (hf : Same F F') (ha : am <+: am') (hh : H' a = H a) (x : CellOk G eh F H am a c) : CellOk G eh F' H' am' a c := by
  cases c with
  | list ps => obtain ⟨xs, e, r⟩ := x; exact ⟨xs, hh.trans e, RepL.mono hf ha _ _ r⟩
  | dict kvs => obtain ⟨es, e, r⟩ := x; exact ⟨es, hh.trans e, r.mono hf ha⟩
  | inst c fs => obtain ⟨dx, fv, e, r⟩ := x; exact ⟨dx, fv, hh.trans e, r.mono hf ha⟩
theorem CellOk.there {a : Addr} {c : Cell} (x : CellOk G eh F H am a c) : ∃ o, H a = some o := by
  cases c with
  | list ps => obtain ⟨xs, e, r⟩ := x; exact ⟨_, e⟩
  | dict kvs => obtain ⟨es, e, r⟩ := x; exact ⟨_, e⟩
  | inst c fs => obtain ⟨dx, fv, e, r⟩ := x; exact ⟨_, e⟩
/-- a cell is neither a table nor a code object -/
theorem CellOk.kind {a : Addr} {c : Cell} (x : CellOk G eh F H am a c) : ∃ o, H a = some o ∧ (∀ ps, o ≠ .tbl ps) ∧ ∀ c q, o ≠ LamX.CodeO c q := by
  cases c with
  | list ps => obtain ⟨xs, e, r⟩ := x; exact ⟨_, e, fun ps z => (by cases z), fun c q z => (by unfold LamX.CodeO at z; cases z)⟩
  | dict kvs => obtain ⟨es, e, r⟩ := x; exact ⟨_, e, fun ps z => (by cases z), fun c q z => (by unfold LamX.CodeO at z; cases z)⟩
  | inst c fs => obtain ⟨dx, fv, e, r⟩ := x; exact ⟨_, e, fun ps z => (by cases z), fun c q z => (by unfold LamX.CodeO at z; cases z)⟩
theorem StOk.there (s : StOk G eh F H am μ) {a : Addr} (h : a ∈ am) : ∃ o, H a = some o := by
  obtain ⟨n, hn, e⟩ := List.getElem_of_mem h
  have hm : n < μ.length := by rw [← s.len]; exact hn
  exact (s.cell n a μ[n] (by rw [List.getElem?_eq_getElem hn, e]) (List.getElem?_eq_getElem hm)).there
theorem StOk.kindAt (s : StOk G eh F H am μ) {a : Addr} (h : a ∈ am) : ∃ o, H a = some o ∧ (∀ ps, o ≠ .tbl ps) ∧ ∀ c q, o ≠ LamX.CodeO c q := by
  obtain ⟨n, hn, e⟩ := List.getElem_of_mem h
  have hm : n < μ.length := by rw [← s.len]; exact hn
  exact (s.cell n a μ[n] (by rw [List.getElem?_eq_getElem hn, e]) (List.getElem?_eq_getElem hm)).kind
/-- the tables stand where other things are written -/
theorem tabs_write {T : List (Addr × Str)} {a : Addr} {o u : HO} (t : LamX.Tabs T H) (e : H a = some u) (h1 : ∀ ps, u ≠ .tbl ps) (h2 : ∀ c q, u ≠ LamX.CodeO c q) : LamX.Tabs T (upd H a o) := fun p hp => by
  obtain ⟨ps, k1, k2, k3⟩ := t p hp
  refine ⟨ps, ?_, k2, fun pos cv hc => ?_⟩
  · rw [upd_ne fun z => ?_]
    · exact k1
    · rw [z, e] at k1
      exact h1 ps (Option.some.inj k1)
  · obtain ⟨c, e1, e2⟩ := k3 pos cv hc
    refine ⟨c, e1, ?_⟩
    rw [upd_ne fun z => ?_]
    · exact e2
    · rw [z, e] at e2
      exact h2 a _ (Option.some.inj e2)
theorem StOk.memAm (s : StOk G eh F H am μ) {a : Addr} {n : Nat} (h : am[n]? = some a) : a ∈ am := List.mem_of_getElem? h
theorem StOk.cellAt (s : StOk G eh F H am μ) {n : Nat} {c : Cell} (h : μ[n]? = some c) : ∃ a, am[n]? = some a ∧ CellOk G eh F H am a c := by
  have hm : n < am.length := by rw [s.len]; exact (List.getElem?_eq_some_iff.mp h).1
  exact ⟨am[n], List.getElem?_eq_getElem hm, s.cell n _ c (List.getElem?_eq_getElem hm) h⟩
/-- an address that stands in F is none of the cells' -/
theorem StOk.notCell (s : StOk G eh F H am μ) {a : Addr} {o : HO} (h : F a = some o) : a ∉ am := fun hm => by
  rw [s.fr a hm] at h; cases h

/-- a new thing that stands from now on -/
theorem StOk.new (s : StOk G eh F H am μ) {p : Addr} {o : HO} (hp : H p = none) (ho : ∀ ps, o ≠ .tbl ps := by intro _ z; cases z) : StOk G eh (upd F p o) (upd H p o) am μ ∧ Ext F H am (upd F p o) (upd H p o) am := by
  have pf : F p = none := by
    cases e : F p with
    | none => rfl
    | some u => rw [s.sub _ _ e] at hp; cases hp
  have pa : p ∉ am := fun hm => by
    obtain ⟨u, e⟩ := s.there hm
    rw [hp] at e; cases e
  have sf : Same F (upd F p o) := fun b u e => by
    rw [upd_ne (ne_of_none e pf)]; exact e
  refine ⟨⟨s.len, s.nd, fun a ha => ?_, fun b u e => ?_, fun b ps e => ?_, s.tb.ext fun b u e => (by rw [upd_ne (ne_of_none e hp)]; exact e), fun n a c e1 e2 => ?_⟩, ⟨sf, List.prefix_refl _, fun b u e _ hb => ?_, fun b h => ?_, fun b h => ?_, fun b hb hn => absurd hb hn⟩⟩
  · rw [upd_ne (fun z => pa (by rw [← z]; exact ha))]; exact s.fr a ha
  · by_cases hb : b = p
    · subst hb; rw [upd_same] at e ⊢; exact e
    · rw [upd_ne hb] at e ⊢; exact s.sub b u e
  · by_cases hb : b = p
    · subst hb; rw [upd_same] at e; exact ho ps (Option.some.inj e)
    · rw [upd_ne hb] at e; exact s.ft b ps e
  · refine (s.cell n a c e1 e2).mono sf (List.prefix_refl _) ?_
    rw [upd_ne (fun z => pa (by rw [← z]; exact List.mem_of_getElem? e1))]
  · rw [upd_ne (ne_of_none e hp)]; exact e
  · by_cases hb : b = p
    · subst hb; rw [upd_same]; simp
    · rw [upd_ne hb]; exact h
  · by_cases hb : b = p
    · subst hb; exact absurd hp h
    · rw [upd_ne hb]
/-- a new cell -/
theorem StOk.newCell (s : StOk G eh F H am μ) {p : Addr} {o : HO} {c : Cell} (hp : H p = none) (hc : CellOk G eh F (upd H p o) (am ++ [p]) p c) : StOk G eh F (upd H p o) (am ++ [p]) (μ ++ [c]) ∧ Ext F H am F (upd H p o) (am ++ [p]) := by
  have pf : F p = none := by
    cases e : F p with
    | none => rfl
    | some u => rw [s.sub _ _ e] at hp; cases hp
  have pa : p ∉ am := fun hm => by
    obtain ⟨u, e⟩ := s.there hm
    rw [hp] at e; cases e
  refine ⟨⟨by simp [s.len], ?_, fun a ha => ?_, fun b u e => ?_, s.ft, s.tb.ext fun b u e => (by rw [upd_ne (ne_of_none e hp)]; exact e), fun n a d e1 e2 => ?_⟩, ⟨Same.refl F, List.prefix_append _ _, fun b u e _ hb => ?_, fun b h => ?_, fun _ _ => rfl, fun b hb hn => ?_⟩⟩
  · rw [List.nodup_append]
    exact ⟨s.nd, by simp, fun x hx y hy z => pa (by rw [List.mem_singleton] at hy; rw [← hy, ← z]; exact hx)⟩
  · rcases List.mem_append.mp ha with ha | ha
    · exact s.fr a ha
    · rw [List.mem_singleton.mp ha]; exact pf
  · rw [upd_ne (ne_of_none e pf)]; exact s.sub b u e
  · by_cases hn : n < am.length
    · rw [List.getElem?_append_left hn] at e1
      rw [List.getElem?_append_left (by rw [← s.len]; exact hn)] at e2
      refine (s.cell n a d e1 e2).mono (Same.refl F) (List.prefix_append _ _) ?_
      rw [upd_ne (fun z => pa (by rw [← z]; exact List.mem_of_getElem? e1))]
    · have hl : am.length ≤ n := Nat.le_of_not_lt hn
      rw [List.getElem?_append_right hl] at e1
      rw [List.getElem?_append_right (by rw [← s.len]; exact hl), ← s.len] at e2
      cases hk : n - am.length with
      | zero =>
        rw [hk] at e1 e2
        simp at e1 e2
        subst e1; subst e2
        exact hc
      | succ k => rw [hk] at e1; simp at e1
  · rw [upd_ne (ne_of_none e hp)]; exact e
  · by_cases hb : b = p
    · subst hb; rw [upd_same]; simp
    · rw [upd_ne hb]; exact h
  · rcases List.mem_append.mp hb with hb | hb
    · exact absurd hb hn
    · rw [List.mem_singleton.mp hb]; exact hp
/-- a cell is written -/
theorem StOk.write (s : StOk G eh F H am μ) {n : Nat} {a : Addr} {o : HO} {c : Cell} (ha : am[n]? = some a) (hn : n < μ.length) (hc : CellOk G eh F (upd H a o) am a c) : StOk G eh F (upd H a o) am (μ.set n c) ∧ Ext F H am F (upd H a o) am := by
  have hm : a ∈ am := List.mem_of_getElem? ha
  have pf := s.fr a hm
  obtain ⟨u0, eu, ku1, ku2⟩ := s.kindAt hm
  refine ⟨⟨by simp [s.len], s.nd, s.fr, fun b u e => ?_, s.ft, tabs_write s.tb eu ku1 ku2, fun m b d e1 e2 => ?_⟩, ⟨Same.refl F, List.prefix_refl _, fun b u e _ hb => ?_, fun b h => ?_, fun _ _ => rfl, fun b hb hn => absurd hb hn⟩⟩
  · rw [upd_ne (ne_of_none e pf)]; exact s.sub b u e
  · by_cases hmn : m = n
    · subst hmn
      rw [ha] at e1; cases e1
      rw [List.getElem?_set_self (by simpa using hn)] at e2
      cases e2
      exact hc
    · rw [List.getElem?_set_ne (Ne.symm hmn)] at e2
      refine (s.cell m b d e1 e2).mono (Same.refl F) (List.prefix_refl _) ?_
      have : b ≠ a := fun z => by
        subst z
        obtain ⟨h1, q1⟩ := List.getElem?_eq_some_iff.mp e1
        obtain ⟨h2, q2⟩ := List.getElem?_eq_some_iff.mp ha
        exact hmn ((List.getElem_inj s.nd).mp (q1.trans q2.symm))
      rw [upd_ne this]
  · rw [upd_ne (fun z => hb (by rw [z]; exact hm))]; exact e
  · by_cases hb : b = a
    · subst hb; rw [upd_same]; simp
    · rw [upd_ne hb]; exact h
end

/-! ### readings -/
/-- what is wanted of a result, from the state (F, H, am) on -/
def WpR {α : Type} (G : Gi) (eh : List (Addr × Nat)) (F H : Hp) (am : List Addr) (r : R α) (okk : α → Sto → Hp → Hp → List Addr → Prop) (ex : Nat → Hp → Prop) : Prop :=
  match r with
  | .ok a μ' => ∀ F' H' am', Ext F H am F' H' am' → StOk G eh F' H' am' μ' → okk a μ' F' H' am'
  | .exn c μ' => ∀ F' H' am', Ext F H am F' H' am' → StOk G eh F' H' am' μ' → ex c H'
  | .bad => False
section
variable {α β : Type} {G : Gi} {eh : List (Addr × Nat)} {F H : Hp} {am : List Addr} {r : R α} {k : α → Sto → R β} {ex : Nat → Hp → Prop}
theorem WpR.bind {okk : β → Sto → Hp → Hp → List Addr → Prop} (h : WpR G eh F H am (r.bind k) okk ex) : WpR G eh F H am r (fun a μ1 F1 H1 am1 => WpR G eh F1 H1 am1 (k a μ1) okk ex) ex := by
  cases r with
  | bad => exact h
  | exn c μ => exact h
  | ok a μ1 =>
    intro F1 H1 am1 x1 s1
    have h : WpR G eh F H am (k a μ1) okk ex := h
    cases e : k a μ1 with
    | bad => rw [e] at h; exact h
    | exn c μ =>
      rw [e] at h
      exact fun F2 H2 am2 x2 s2 => h F2 H2 am2 (x1.trans x2) s2
    | ok b μ =>
      rw [e] at h
      exact fun F2 H2 am2 x2 s2 => h F2 H2 am2 (x1.trans x2) s2
theorem WpR.mono {okk okk' : α → Sto → Hp → Hp → List Addr → Prop} (h : WpR G eh F H am r okk ex)
    (hk : ∀ a μ' F' H' am', Ext F H am F' H' am' → StOk G eh F' H' am' μ' → okk a μ' F' H' am' → okk' a μ' F' H' am') : WpR G eh F H am r okk' ex := by
  cases r with
  | bad => exact h
  | exn c μ => exact h
  | ok a μ1 => exact fun F1 H1 am1 x1 s1 => hk _ _ _ _ _ x1 s1 (h F1 H1 am1 x1 s1)
/-- from further on -/
theorem WpR.later {F1 H1 : Hp} {am1 : List Addr} {okk : α → Sto → Hp → Hp → List Addr → Prop} (h : WpR G eh F H am r okk ex) (x : Ext F H am F1 H1 am1) : WpR G eh F1 H1 am1 r okk ex := by
  cases r with
  | bad => exact h
  | exn c μ => exact fun F2 H2 am2 x2 s2 => h F2 H2 am2 (x.trans x2) s2
  | ok a μ1 => exact fun F2 H2 am2 x2 s2 => h F2 H2 am2 (x.trans x2) s2
theorem WpR.ok_now {a : α} {μ : Sto} {okk : α → Sto → Hp → Hp → List Addr → Prop} (h : WpR G eh F H am (.ok a μ) okk ex) (s : StOk G eh F H am μ) : okk a μ F H am := h F H am Ext.refl s
end

/-- what is wanted of an exception that leaves, by the slots -/
abbrev EX := St → Nat → Hp → Prop
def wish (G : Gi) (W : WX) : EX := fun σ c H => W (G.cv c) none σ H
/-- the reading of an expression by its evaluator -/
def tE (G : Gi) (eh : List (Addr × Nat)) (ex : EX) (r : EnvP → Sto → R PV) : TE := fun σ H Q => ∃ F am env μ, StOk G eh F H am μ ∧ EnvOk G eh F am σ env ∧
  WpR G eh F H am (r env μ) (fun p _ F' H' am' => ∀ v, Rep G eh F' am' p v → Q v H') (ex σ)
def tEs (G : Gi) (eh : List (Addr × Nat)) (ex : EX) (r : EnvP → Sto → R (List PV)) : TA := fun σ H Q => ∃ F am env μ, StOk G eh F H am μ ∧ EnvOk G eh F am σ env ∧
  WpR G eh F H am (r env μ) (fun p _ F' H' am' => ∀ v, RepL G eh F' am' p v → Q v H') (ex σ)
/-- a test's -/
def tT (G : Gi) (eh : List (Addr × Nat)) (ex : EX) (r : EnvP → Sto → R Bool) : TT := fun σ H Q => ∃ F am env μ, StOk G eh F H am μ ∧ EnvOk G eh F am σ env ∧
  WpR G eh F H am (r env μ) (fun b _ _ H' _ => Q b H') (ex σ)
theorem PE.imp {X : Cx} {e : Expr} {t t' : TE} (h : PE X e t) (k : ∀ σ H Q, t' σ H Q → t σ H Q) : PE X e t' := ⟨fun pins s σ H Q I q => h.run pins s σ H Q I (k σ H Q q)⟩
theorem PT.imp {X : Cx} {e : Expr} {t t' : TT} (h : PT X e t) (k : ∀ σ H Q, t' σ H Q → t σ H Q) : PT X e t' := ⟨fun pins s σ H Q I q => h.run pins s σ H Q I (k σ H Q q)⟩
theorem PA.imp {X : Cx} {e : List Expr} {t t' : TA} (h : PA X e t) (k : ∀ σ H Q, t' σ H Q → t σ H Q) : PA X e t' := ⟨fun pos pins s σ H Q I q => h.run pos pins s σ H Q I (k σ H Q q)⟩
theorem PS.imp {X : Cx} {e : Stmt} {t t' : TS} (h : PS X e t) (k : ∀ D σ H, t' D σ H → t D σ H) : PS X e t' := ⟨fun pins s σ H D I q => h.run pins s σ H D I (k D σ H q)⟩
theorem PSs.imp {X : Cx} {e : List Stmt} {t t' : TS} (h : PSs X e t) (k : ∀ D σ H, t' D σ H → t D σ H) : PSs X e t' := ⟨fun pins s σ H D I q => h.run pins s σ H D I (k D σ H q)⟩

section
variable {G : Gi} {eh : List (Addr × Nat)} {ex : EX} {F H : Hp} {am : List Addr} {σ : St} {env : EnvP} {μ : Sto} {r : EnvP → Sto → R PV} {rs : EnvP → Sto → R (List PV)}
/-- one part, then the rest -/
theorem tE.use {k : PV → Sto → R PV} {Q Q' : VK} (s : StOk G eh F H am μ) (en : EnvOk G eh F am σ env) (h : WpR G eh F H am ((r env μ).bind k) (fun p _ F' H' am' => ∀ v, Rep G eh F' am' p v → Q' v H') (ex σ))
    (hk : ∀ p v μ1 F1 H1 am1, Ext F H am F1 H1 am1 → StOk G eh F1 H1 am1 μ1 → Rep G eh F1 am1 p v → EnvOk G eh F1 am1 σ env → WpR G eh F1 H1 am1 (k p μ1) (fun p _ F' H' am' => ∀ v, Rep G eh F' am' p v → Q' v H') (ex σ) → Q v H1) : tE G eh ex r σ H Q :=
  ⟨F, am, env, μ, s, en, h.bind.mono fun p μ1 F1 H1 am1 x s1 h1 v rv => hk p v μ1 F1 H1 am1 x s1 rv (x.en en) h1⟩
end
end NR

/-! NR2: the operations, by values. -/
namespace NR
open PySem L2
open PySem.Spec PyProof.Rows

section
variable {G : Gi} {eh : List (Addr × Nat)} {F H : Hp} {am : List Addr} {μ : Sto}

/-! ### data -/
theorem toDs_map : ∀ xs : List PV, toDs xs = xs.map toD
  | [] => rfl
  | x :: xs => by simp [toDs, toDs_map xs]
mutual
theorem Rep.dp (st : StOk G eh F H am μ) : ∀ (p : PV) (v : V), Rep G eh F am p v → pure? p = true → Dp G.K H v (toD p)
  | .non, _, r, _ => by cases r; exact .non
  | .bl b, _, r, _ => by cases r; exact .bl b
  | .int i, _, r, _ => by cases r; exact .int i
  | .str s, _, r, _ => by cases r; exact .str _
  | .tup xs, _, r, h => by cases r with | tup h1 h2 => exact .tup (SqT.same st.sub h1) (RepL.dp st xs _ h2 (by simpa [pure?] using h))
  | .lst xs, _, r, h => by cases r with | lst h1 h2 => exact .lst (SqL.of (st.sub _ _ h1)) (RepL.dp st xs _ h2 (by simpa [pure?] using h))
  | .loc _, _, _, h => by simp [pure?] at h
  | .exc _, _, _, h => by simp [pure?] at h
  | .scr _, _, _, h => by simp [pure?] at h
theorem RepL.dp (st : StOk G eh F H am μ) : ∀ (ps : List PV) (vs : List V), RepL G eh F am ps vs → pures ps = true → DpAll G.K H vs (toDs ps)
  | [], _, r, _ => by cases r; exact .nil
  | p :: ps, _, r, h => by
    cases r with
    | cons h1 h2 =>
      simp only [pures, Bool.and_eq_true] at h
      exact .cons (Rep.dp st p _ h1 h.1) (RepL.dp st ps _ h2 h.2)
end
theorem mkT_tl (s : List Nat) : (mkT s).cps.toList = s := by simp [mkT]
mutual
theorem Rep.lay : ∀ (p : PV) (v : V), Rep G eh F am p v → pure? p = true → (toD p).canLay0 = true
  | .non, _, r, _ => by simp [toD, PyData.canLay0]
  | .bl b, _, r, _ => by simp [toD, PyData.canLay0]
  | .int i, _, r, _ => by simp [toD, PyData.canLay0]
  | .str s, _, r, _ => by
    cases r with
    | str _ o =>
      simp only [toD, PyData.canLay0]
      unfold PyData.strOk
      rw [Array.all_eq_true]
      intro i hi
      have : (mkT s).cps[i] ∈ s := by simp [mkT]
      simpa using o _ this
  | .tup xs, _, r, h => by cases r with | tup h1 h2 => simp only [toD, PyData.canLay0]; exact RepL.lay xs _ h2 (by simpa [pure?] using h)
  | .lst xs, _, r, h => by cases r with | lst h1 h2 => simp only [toD, PyData.canLay0]; exact RepL.lay xs _ h2 (by simpa [pure?] using h)
  | .loc _, _, _, h => by simp [pure?] at h
  | .exc _, _, _, h => by simp [pure?] at h
  | .scr _, _, _, h => by simp [pure?] at h
theorem RepL.lay : ∀ (ps : List PV) (vs : List V), RepL G eh F am ps vs → pures ps = true → PyData.canLayAll0 (toDs ps) = true
  | [], _, r, _ => by simp [toDs, PyData.canLayAll0]
  | p :: ps, _, r, h => by
    cases r with
    | cons h1 h2 =>
      simp only [pures, Bool.and_eq_true] at h
      simp only [toDs, PyData.canLayAll0, Bool.and_eq_true]
      exact ⟨Rep.lay p _ h1 h.1, RepL.lay ps _ h2 h.2⟩
end
mutual
theorem dep_toD : ∀ p : PV, pure? p = true → (toD p).depth = dep p
  | .non, _ => by simp [toD, PyData.depth, dep]
  | .bl b, _ => by simp [toD, PyData.depth, dep]
  | .int i, _ => by simp [toD, PyData.depth, dep]
  | .str s, _ => by simp [toD, PyData.depth, dep]
  | .tup xs, h => by simp only [toD, PyData.depth, dep]; rw [deps_toDs xs (by simpa [pure?] using h)]
  | .lst xs, h => by simp only [toD, PyData.depth, dep]; rw [deps_toDs xs (by simpa [pure?] using h)]
  | .loc _, h => by simp [pure?] at h
  | .exc _, h => by simp [pure?] at h
  | .scr _, h => by simp [pure?] at h
theorem deps_toDs : ∀ xs : List PV, pures xs = true → PyData.depthAll (toDs xs) = deps xs
  | [], _ => by simp [toDs, PyData.depthAll, deps]
  | x :: xs, h => by
    simp only [pures, Bool.and_eq_true] at h
    simp only [toDs, PyData.depthAll, deps]
    rw [dep_toD x h.1, deps_toDs xs h.2]
end
theorem mkT_inj {a b : List Nat} : (mkT a == mkT b) = (a == b) := by
  rw [Bool.eq_iff_iff]
  simp [mkT]
mutual
theorem peq_toD : ∀ p q : PV, pure? p = true → pure? q = true → PyData.eqv (toD p) (toD q) = peq p q
  | .non, q, h, k => by cases q <;> simp_all [toD, PyData.eqv, peq, pure?]
  | .bl b, q, h, k => by cases q <;> simp_all [toD, PyData.eqv, peq, pure?]
  | .int i, q, h, k => by cases q <;> simp_all [toD, PyData.eqv, peq, pure?]
  | .str s, q, h, k => by
    cases q with
    | str t => simp only [toD, PyData.eqv, peq]; exact mkT_inj
    | _ => simp_all [toD, PyData.eqv, peq, pure?]
  | .tup xs, q, h, k => by
    cases q with
    | tup ys => simp only [toD, PyData.eqv, peq]; exact peqs_toDs xs ys (by simpa [pure?] using h) (by simpa [pure?] using k)
    | _ => simp_all [toD, PyData.eqv, peq, pure?]
  | .lst xs, q, h, k => by
    cases q with
    | lst ys => simp only [toD, PyData.eqv, peq]; exact peqs_toDs xs ys (by simpa [pure?] using h) (by simpa [pure?] using k)
    | _ => simp_all [toD, PyData.eqv, peq, pure?]
  | .loc _, _, h, _ => by simp [pure?] at h
  | .exc _, _, h, _ => by simp [pure?] at h
  | .scr _, _, h, _ => by simp [pure?] at h
theorem peqs_toDs : ∀ xs ys : List PV, pures xs = true → pures ys = true → PyData.eqvAll (toDs xs) (toDs ys) = peqs xs ys
  | [], [], _, _ => by simp [toDs, PyData.eqvAll, peqs]
  | [], y :: ys, _, _ => by simp [toDs, PyData.eqvAll, peqs]
  | x :: xs, [], _, _ => by simp [toDs, PyData.eqvAll, peqs]
  | x :: xs, y :: ys, h, k => by
    simp only [pures, Bool.and_eq_true] at h k
    simp only [toDs, PyData.eqvAll, peqs]
    rw [peq_toD x y h.1 k.1, peqs_toDs xs ys h.2 k.2]
end
/-- what the cells are read as -/
theorem Rep.see (st : StOk G eh F H am μ) {p : PV} {v : V} (r : Rep G eh F am p v) (hn : ∀ n, see μ p ≠ .loc n) :
    (see μ p = p) ∨ ∃ n a ps xs, p = .loc n ∧ v = .ref a ∧ μ[n]? = some (.list ps) ∧ see μ p = .lst ps ∧ H a = some (.lst xs) ∧ RepL G eh F am ps xs := by
  cases p with
  | loc n =>
    cases r with
    | loc ha =>
      cases e : μ[n]? with
      | none => exact .inl (by simp [NR.see, e])
      | some c =>
        cases c with
        | list ps =>
          obtain ⟨a, ha', xs, h1, h2⟩ := st.cellAt e
          rw [ha] at ha'; cases ha'
          exact .inr ⟨n, _, ps, xs, rfl, rfl, e, by simp [NR.see, e], h1, h2⟩
        | dict _ => exact .inl (by simp [NR.see, e])
        | inst _ _ => exact .inl (by simp [NR.see, e])
  | _ => exact .inl rfl
/-- .. as data -/
theorem Rep.seeD (st : StOk G eh F H am μ) {p : PV} {v : V} (r : Rep G eh F am p v) (h : pure? (NR.see μ p) = true) : Dp G.K H v (toD (NR.see μ p)) ∧ (toD (NR.see μ p)).canLay0 = true := by
  rcases r.see st (fun n e => by rw [e] at h; simp [pure?] at h) with e | ⟨n, a, ps, xs, rfl, rfl, e1, e2, h1, h2⟩
  · rw [e] at h ⊢
    exact ⟨r.dp st p v h, r.lay p v h⟩
  · rw [e2] at h ⊢
    simp only [pure?] at h
    refine ⟨.lst (SqL.of h1) (h2.dp st ps xs h), ?_⟩
    simp only [toD, PyData.canLay0]
    exact h2.lay ps xs h
/-- .. as a list that may be read (and written) -/
theorem Rep.seeL (st : StOk G eh F H am μ) {p : PV} {v : V} {ps : List PV} (r : Rep G eh F am p v) (h : NR.see μ p = .lst ps) : ∃ a xs, v = .ref a ∧ H a = some (.lst xs) ∧ RepL G eh F am ps xs := by
  rcases r.see st (fun n e => by rw [h] at e; cases e) with e | ⟨n, a, ps', xs, rfl, rfl, e1, e2, h1, h2⟩
  · rw [e] at h
    subst h
    cases r with
    | lst h1 h2 => exact ⟨_, _, rfl, st.sub _ _ h1, h2⟩
  · rw [e2] at h
    cases h
    exact ⟨a, xs, rfl, h1, h2⟩
theorem Rep.seeT (st : StOk G eh F H am μ) {p : PV} {v : V} {ps : List PV} (r : Rep G eh F am p v) (h : NR.see μ p = .tup ps) : ∃ a xs, v = .ref a ∧ SqT G.K H a xs ∧ RepL G eh F am ps xs := by
  rcases r.see st (fun n e => by rw [h] at e; cases e) with e | ⟨n, a, ps', xs, rfl, rfl, e1, e2, h1, h2⟩
  · rw [e] at h
    subst h
    cases r with
    | tup h1 h2 => exact ⟨_, _, rfl, SqT.same st.sub h1, h2⟩
  · rw [e2] at h
    cases h
theorem see_str {p : PV} {s : List Nat} (h : NR.see μ p = .str s) : p = .str s := by
  unfold NR.see at h
  split at h
  · split at h <;> cases h
  · exact h
theorem see_int {p : PV} {s : Int} (h : NR.see μ p = .int s) : p = .int s := by
  unfold NR.see at h
  split at h
  · split at h <;> cases h
  · exact h
theorem see_bl {p : PV} {s : Bool} (h : NR.see μ p = .bl s) : p = .bl s := by
  unfold NR.see at h
  split at h
  · split at h <;> cases h
  · exact h
theorem see_non {p : PV} (h : NR.see μ p = .non) : p = .non := by
  unfold NR.see at h
  split at h
  · split at h <;> cases h
  · exact h
theorem see_scr {p : PV} {s : List Int} (h : NR.see μ p = .scr s) : p = .scr s := by
  unfold NR.see at h
  split at h
  · split at h <;> cases h
  · exact h
theorem see_tup {p : PV} {s : List PV} (h : NR.see μ p = .tup s) : p = .tup s := by
  unfold NR.see at h
  split at h
  · split at h <;> cases h
  · exact h
end

/-! ### the forms -/
section
variable {X : Cx} {G : Gi} {eh : List (Addr × Nat)} {ex : EX}
/-- a one-place operation on values -/
def v1 (G : Gi) (eh : List (Addr × Nat)) (f : PV → Sto → R PV) : V → Hp → VK → Prop := fun x H Q => ∃ F am μ p, ∃ ex : Nat → Hp → Prop, StOk G eh F H am μ ∧ Rep G eh F am p x ∧
  WpR G eh F H am (f p μ) (fun r _ F' H' am' => ∀ v, Rep G eh F' am' r v → Q v H') ex
def v2 (G : Gi) (eh : List (Addr × Nat)) (f : PV → PV → Sto → R PV) : R2 := fun x y H Q => ∃ F am μ p q, ∃ ex : Nat → Hp → Prop, StOk G eh F H am μ ∧ Rep G eh F am p x ∧ Rep G eh F am q y ∧
  WpR G eh F H am (f p q μ) (fun r _ F' H' am' => ∀ v, Rep G eh F' am' r v → Q v H') ex
def vL (G : Gi) (eh : List (Addr × Nat)) (f : List PV → Sto → R PV) : List V → Hp → VK → Prop := fun xs H Q => ∃ F am μ ps, ∃ ex : Nat → Hp → Prop, StOk G eh F H am μ ∧ RepL G eh F am ps xs ∧
  WpR G eh F H am (f ps μ) (fun r _ F' H' am' => ∀ v, Rep G eh F' am' r v → Q v H') ex
def vM (G : Gi) (eh : List (Addr × Nat)) (f : PV → List PV → Sto → R PV) : V → List V → Hp → VK → Prop := fun x xs H Q => ∃ F am μ p ps, ∃ ex : Nat → Hp → Prop, StOk G eh F H am μ ∧ Rep G eh F am p x ∧ RepL G eh F am ps xs ∧
  WpR G eh F H am (f p ps μ) (fun r _ F' H' am' => ∀ v, Rep G eh F' am' r v → Q v H') ex

variable {F H : Hp} {am : List Addr} {μ : Sto} {σ : L2.St} {env : EnvP} {Q : VK} {exx : Nat → Hp → Prop}
/-- a plain value is told -/
theorem WpR.val {p : PV} {v : V} (h : WpR G eh F H am (.ok p μ) (fun r _ F' H' am' => ∀ v, Rep G eh F' am' r v → Q v H') exx) (st : StOk G eh F H am μ) (r : Rep G eh F am p v) : Q v H := h.ok_now st v r
/-- a new list that stands from now on -/
theorem WpR.newL {ps : List PV} {xs : List V} (h : WpR G eh F H am (.ok (.lst ps) μ) (fun r _ F' H' am' => ∀ v, Rep G eh F' am' r v → Q v H') exx) (st : StOk G eh F H am μ) (r : RepL G eh F am ps xs) : ∀ p, H p = none → Q (.ref p) (upd H p (.lst xs)) := fun p hp => by
  obtain ⟨s2, x2⟩ := st.new (o := .lst xs) hp
  exact h _ _ _ x2 s2 _ (.lst upd_same (x2.repL r))
theorem WpR.newT {ps : List PV} {xs : List V} (h : WpR G eh F H am (.ok (.tup ps) μ) (fun r _ F' H' am' => ∀ v, Rep G eh F' am' r v → Q v H') exx) (st : StOk G eh F H am μ) (r : RepL G eh F am ps xs) : ∀ p, H p = none → Q (.ref p) (upd H p (.tup xs)) := fun p hp => by
  obtain ⟨s2, x2⟩ := st.new (o := .tup xs) hp
  exact h _ _ _ x2 s2 _ (.tup (SqT.of upd_same) (x2.repL r))
end

/-! ### + - * // % -/
section
variable {X : Cx} {G : Gi} {eh : List (Addr × Nat)}
theorem SL_eq : SL = sizeLine := by rw [sizeLine_eq]; rfl
theorem okTxt_append {a b : List Nat} (h : okTxt a) (k : okTxt b) : okTxt (a ++ b) := fun c hc => (List.mem_append.mp hc).elim (h c) (k c)
theorem okTxt_rep {a : List Nat} (h : okTxt a) (n : Nat) : okTxt (List.replicate n a).flatten := fun c hc => by
  rw [List.mem_flatten] at hc
  obtain ⟨l, h1, h2⟩ := hc
  rw [(List.mem_replicate.mp h1).2] at h2
  exact h c h2
theorem mkT_append (a b : List Nat) : mkT (a ++ b) = mkT a ++ mkT b := TL.ext_tl (by simp [mkT, TL.tl_append, TL.tl_mk])
theorem mkT_len (a : List Nat) : (mkT a).length = a.length := by show (mkT a).cps.size = _; simp [mkT]
theorem RepL.rep {F : Hp} {am : List Addr} {ps : List PV} {xs : List V} (r : RepL G eh F am ps xs) : ∀ n : Nat, RepL G eh F am (List.replicate n ps).flatten (List.replicate n xs).flatten
  | 0 => by simp only [List.replicate_zero, List.flatten_nil]; exact .nil
  | n + 1 => by
    rw [List.replicate_succ, List.replicate_succ, List.flatten_cons, List.flatten_cons]
    exact r.append (r.rep n)
theorem op_v_add (hG : X.K = G.K) : OpR X (binaryOp .Add) (v2 G eh opAdd) := by
  intro pins s σ H x y v u Q I rx ry h
  obtain ⟨F, am, μ, p, q, ex, st, rp, rq, h⟩ := h
  unfold opAdd at h
  split at h
  · cases rp; cases rq
    exact op_add pins s σ H _ _ v u Q I rx ry ⟨_, _, rfl, rfl, h.val st (.int _)⟩
  · split at h
    · rename_i hl
      cases rp with
      | str a oa =>
        cases rq with
        | str b ob =>
          refine op_add_str pins s σ H _ _ v u Q I rx ry ⟨_, _, rfl, rfl, ?_, ?_⟩
          · rw [mkT_len, mkT_len, ← SL_eq]; exact hl
          · rw [← mkT_append]; exact h.val st (.str _ (okTxt_append oa ob))
    · exact h.elim
  · split at h
    · rename_i hl
      cases rp with
      | tup a1 a2 =>
        cases rq with
        | tup b1 b2 =>
          refine op_catA pins s σ H _ _ v u Q I rx ry ⟨_, _, _, _, rfl, rfl, by rw [hG]; exact SqT.same st.sub a1, by rw [hG]; exact SqT.same st.sub b1, by rw [← a2.length, ← b2.length, ← SL_eq]; exact hl, fun e => ?_, fun _ e => ?_, fun _ _ => ?_⟩
          · subst e
            cases a2
            exact h.val st (.tup b1 b2)
          · subst e
            cases b2
            rw [List.append_nil] at h
            exact h.val st (.tup a1 a2)
          · exact h.newT st (a2.append b2)
    · exact h.elim
  · split at h
    · rename_i e1 e2
      split at h
      · rename_i hl
        obtain ⟨a, xs, rfl, ha, ra⟩ := rp.seeL st e1
        obtain ⟨b, ys, rfl, hb, rb⟩ := rq.seeL st e2
        exact op_cat pins s σ H _ _ v u Q I rx ry ⟨_, _, _, _, rfl, rfl, ha, hb, by rw [← ra.length, ← rb.length, ← SL_eq]; exact hl, h.newL st (ra.append rb)⟩
      · exact h.elim
    · exact h.elim
theorem op_v_sub : OpR X (binaryOp .Sub) (v2 G eh opSub) := by
  intro pins s σ H x y v u Q I rx ry h
  obtain ⟨F, am, μ, p, q, ex, st, rp, rq, h⟩ := h
  unfold opSub at h
  split at h
  · cases rp; cases rq
    exact op_sub pins s σ H _ _ v u Q I rx ry ⟨_, _, rfl, rfl, h.val st (.int _)⟩
  · exact h.elim
theorem op_v_mul (hG : X.K = G.K) : OpR X (binaryOp .Mult) (v2 G eh opMul) := by
  intro pins s σ H x y v u Q I rx ry h
  obtain ⟨F, am, μ, p, q, ex, st, rp, rq, h⟩ := h
  unfold opMul at h
  split at h
  · split at h
    · rename_i hs
      cases rp; cases rq
      refine op_mul pins s σ H _ _ v u Q I rx ry ⟨_, _, rfl, rfl, ?_, h.val st (.int _)⟩
      unfold CMul
      simpa [small64] using hs
    · exact h.elim
  · cases rq
    split at h
    · rename_i e1
      split at h
      · rename_i hl
        obtain ⟨a, xs, rfl, ha, ra⟩ := rp.seeL st e1
        exact op_rep pins s σ H _ _ v u Q I rx ry ⟨_, _, _, rfl, rfl, ha, by omega, by omega, by rw [← ra.length, ← SL_eq]; exact hl.2.2, h.newL st (ra.rep _)⟩
      · exact h.elim
    · rename_i e1
      split at h
      · rename_i hl
        obtain ⟨a, xs, rfl, ha, ra⟩ := rp.seeT st e1
        refine op_repT pins s σ H _ _ v u Q I rx ry ⟨_, _, xs, rfl, rfl, by rw [hG]; exact ha, fun z => ?_, hl.2.1, hl.2.2.1, by rw [← ra.length]; exact hl.2.2.2, h.newT st (ra.rep _)⟩
        exact hl.1 (by rw [ra.length, z]; rfl)
      · exact h.elim
    · exact h.elim
  · exact h.elim
theorem op_v_fdiv : OpR X (binaryOp .FloorDiv) (v2 G eh opFdiv) := by
  intro pins s σ H x y v u Q I rx ry h
  obtain ⟨F, am, μ, p, q, ex, st, rp, rq, h⟩ := h
  unfold opFdiv at h
  split at h
  · split at h
    · rename_i hs
      cases rp; cases rq
      exact op_fdiv pins s σ H _ _ v u Q I rx ry ⟨_, _, rfl, rfl, hs, h.val st (.int _)⟩
    · exact h.elim
  · exact h.elim
theorem op_v_mod : OpR X (binaryOp .Mod) (v2 G eh opMod) := by
  intro pins s σ H x y v u Q I rx ry h
  obtain ⟨F, am, μ, p, q, ex, st, rp, rq, h⟩ := h
  unfold opMod at h
  split at h
  · split at h
    · rename_i hs
      cases rp; cases rq
      exact op_mod pins s σ H _ _ v u Q I rx ry ⟨_, _, rfl, rfl, hs, h.val st (.int _)⟩
    · exact h.elim
  · exact h.elim
def pyB : BOp → Operator
  | .add => .Add | .sub => .Sub | .mul => .Mult | .fdiv => .FloorDiv | .mod => .Mod
theorem op_v_bin (hG : X.K = G.K) : ∀ op : BOp, OpR X (binaryOp (pyB op)) (v2 G eh (opBin op))
  | .add => op_v_add hG
  | .sub => op_v_sub
  | .mul => op_v_mul hG
  | .fdiv => op_v_fdiv
  | .mod => op_v_mod
end

/-! ### comparisons -/
section
variable {X : Cx} {G : Gi} {eh : List (Addr × Nat)}
theorem data_of {p : PV} (h : data? p = true) : pure? p = true ∧ dep p ≤ 64 := by simpa [data?] using h
theorem shaped_of {F H : Hp} {am : List Addr} {μ : Sto} (st : StOk G eh F H am μ) {p : PV} {v : V} (r : Rep G eh F am p v) (h : data? (see μ p) = true) : Dp G.K H v (toD (see μ p)) ∧ SeqAt.shaped (toD (see μ p)) = true := by
  obtain ⟨h1, h2⟩ := data_of h
  obtain ⟨d1, d2⟩ := r.seeD st h1
  refine ⟨d1, ?_⟩
  unfold SeqAt.shaped
  rw [d2, dep_toD _ h1]
  simpa using h2
theorem op_v_eq (hG : X.K = G.K) (hu : X.A.units + 64 < cLine) : OpR X (compareOp .Eq) (v2 G eh (opEq false)) := by
  intro pins s σ H x y v u Q I rx ry h
  obtain ⟨F, am, μ, p, q, ex, st, rp, rq, h⟩ := h
  unfold opEq at h
  split at h
  · rename_i hd
    simp only [Bool.and_eq_true] at hd
    obtain ⟨d1, s1⟩ := shaped_of st rp hd.1
    obtain ⟨d2, s2⟩ := shaped_of st rq hd.2
    refine op_eqD hu pins s σ H _ _ v u Q I rx ry ⟨_, _, by rw [hG]; exact d1, by rw [hG]; exact d2, s1, s2, ?_⟩
    rw [peq_toD _ _ (data_of hd.1).1 (data_of hd.2).1]
    have := h.val st (.bl _)
    simpa using this
  · exact h.elim
theorem op_v_ne (hG : X.K = G.K) (hu : X.A.units + 64 < cLine) : OpR X (compareOp .NotEq) (v2 G eh (opEq true)) := by
  intro pins s σ H x y v u Q I rx ry h
  obtain ⟨F, am, μ, p, q, ex, st, rp, rq, h⟩ := h
  unfold opEq at h
  split at h
  · rename_i hd
    simp only [Bool.and_eq_true] at hd
    obtain ⟨d1, s1⟩ := shaped_of st rp hd.1
    obtain ⟨d2, s2⟩ := shaped_of st rq hd.2
    refine op_neD hu pins s σ H _ _ v u Q I rx ry ⟨_, _, by rw [hG]; exact d1, by rw [hG]; exact d2, s1, s2, ?_⟩
    rw [peq_toD _ _ (data_of hd.1).1 (data_of hd.2).1]
    have := h.val st (.bl _)
    simpa using this
  · exact h.elim
/-- is True, is False, is None -/
theorem rep_same {F : Hp} {am : List Addr} {p q : PV} {x y : V} {b : Bool} (rp : Rep G eh F am p x) (rq : Rep G eh F am q y) (h : isSame p q = some b) :
    (y = .non ∧ b = decide (x = .non)) ∨ (∃ c, y = .bl c ∧ b = decide (x = .bl c)) := by
  unfold isSame at h
  split at h
  · cases rq
    refine .inl ⟨rfl, ?_⟩
    cases rp <;> simp_all
  · cases rp; cases rq
    refine .inr ⟨_, rfl, ?_⟩
    have h := (Option.some.inj h).symm
    rw [h, Bool.eq_iff_iff]; simp
  all_goals first
    | (cases h; done)
    | (cases rp; cases rq; refine .inr ⟨_, rfl, ?_⟩; simp_all)
theorem is_bool_gen {M : Model} {A : Around} {E : Value → Shared → Prop} {s : Shared} {v : Value} {c : Bool} {Q : Value → Shared → Prop} (hv : ∀ n, v ≠ .builtin n) (h : Q (.bool (v == .bool c)) s) : wpAny M A (compareOp .Is v (.bool c)) Q E s := by
  cases v <;> first
    | exact wpAny_pure h
    | exact absurd rfl (hv _)
theorem isnot_bool_gen {M : Model} {A : Around} {E : Value → Shared → Prop} {s : Shared} {v : Value} {c : Bool} {Q : Value → Shared → Prop} (hv : ∀ n, v ≠ .builtin n) (h : Q (.bool (!(v == .bool c))) s) : wpAny M A (compareOp .IsNot v (.bool c)) Q E s := by
  cases v <;> first
    | exact wpAny_pure h
    | exact absurd rfl (hv _)
theorem rel_noBuiltin {x : V} {v : Value} (r : RelV x v) : ∀ n, v ≠ .builtin n := by
  intro n e
  subst e
  cases x <;> first
    | (cases r; done)
    | (obtain ⟨t, h⟩ := r; cases h)
theorem rel_bl {x : V} {v : Value} {c : Bool} (r : RelV x v) : (v == .bool c) = decide (x = .bl c) := by
  cases x <;> first
    | (cases r; rw [Bool.eq_iff_iff]; simp; done)
    | (cases r; rfl)
    | (obtain ⟨t, rfl⟩ := r; rfl)
theorem op_v_is (neg : Bool) : OpR X (compareOp (if neg then .IsNot else .Is)) (v2 G eh fun p q μ => opIs p q μ neg) := by
  intro pins s σ H x y v u Q I rx ry h
  obtain ⟨F, am, μ, p, q, ex, st, rp, rq, h⟩ := h
  simp only [opIs] at h
  split at h
  · rename_i b hb
    have q1 := h.val st (.bl _)
    rcases rep_same rp rq hb with ⟨rfl, e⟩ | ⟨c, rfl, e⟩
    · cases ry
      cases neg with
      | false => exact is_none_gen ⟨.bl _, H, I, by rw [rx.none_iff]; rfl, by rw [← e]; simpa using q1⟩
      | true => exact isnot_none_gen ⟨.bl _, H, I, by rw [rx.none_iff]; rfl, by rw [← e]; simpa using q1⟩
    · cases ry
      cases neg with
      | false => exact is_bool_gen (rel_noBuiltin rx) ⟨.bl _, H, I, by rw [rel_bl rx]; rfl, by rw [← e]; simpa using q1⟩
      | true => exact isnot_bool_gen (rel_noBuiltin rx) ⟨.bl _, H, I, by rw [rel_bl rx]; rfl, by rw [← e]; simpa using q1⟩
  · exact h.elim
theorem any_toD {x : PV} (hx : pure? x = true) : ∀ {ys : List PV}, pures ys = true → ((toDs ys).any fun z => PyData.eqv z (toD x)) = ys.any fun y => peq y x
  | [], _ => rfl
  | y :: ys, h => by
    simp only [pures, Bool.and_eq_true] at h
    simp only [toDs, List.any_cons]
    rw [peq_toD y x h.1 hx, any_toD hx h.2]
theorem op_v_in (hG : X.K = G.K) (hu : X.A.units + 65 < cLine) (neg : Bool) : OpR X (compareOp (if neg then .NotIn else .In)) (v2 G eh fun p q μ => opIn p q μ neg) := by
  intro pins s σ H x y v u Q I rx ry h
  obtain ⟨F, am, μ, p, q, ex, st, rp, rq, h⟩ := h
  simp only [opIn] at h
  split at h
  · rename_i b hb
    have q1 := h.val st (.bl _)
    unfold memOf at hb
    split at hb
    · -- a tuple
      rename_i ys e
      split at hb
      · rename_i hd
        simp only [Bool.and_eq_true] at hd
        have hb := (Option.some.inj hb).symm
        obtain ⟨p1, p2⟩ := data_of hd.1
        obtain ⟨y1, y2⟩ := data_of hd.2
        have dx := rp.dp st _ _ p1
        have sx : SeqAt.shaped (toD p) = true := by
          unfold SeqAt.shaped
          rw [rp.lay _ _ p1, dep_toD _ p1]
          simpa using p2
        have hd2 : data? (see μ q) = true := by rw [e]; exact hd.2
        obtain ⟨dy, sy⟩ := shaped_of st rq hd2
        rw [e] at dy sy
        have dx' : Dp X.K H x (toD p) := by rw [hG]; exact dx
        have dy' : Dp X.K H y (toD (.tup ys)) := by rw [hG]; exact dy
        obtain ⟨as, r1⟩ := Dp.reads I _ x v dx' rx
        obtain ⟨bs, r2⟩ := Dp.reads I _ y u dy' ry
        have r2 : Reads s.heap u (.tuple (toDs ys)) bs := r2
        have sy : SeqAt.shaped (.tuple (toDs ys)) = true := sy
        have e3 := any_toD p1 (ys := ys) (by simpa [pure?] using y1)
        cases neg with
        | false => exact SeqAt.in_tuple_reads r2 r1 (SeqAt.canLay_of_shaped sy) (SeqAt.canLay_of_shaped sx) (room_in_shaped sx hu) ⟨.bl _, H, I, rfl, by rw [e3, ← hb]; simpa using q1⟩
        | true => exact SeqAt.notIn_tuple_reads r2 r1 (SeqAt.canLay_of_shaped sy) (SeqAt.canLay_of_shaped sx) (room_in_shaped sx hu) ⟨.bl _, H, I, rfl, by rw [e3, ← hb]; simpa using q1⟩
      · cases hb
    · rename_i ys e
      split at hb
      · rename_i hd
        simp only [Bool.and_eq_true] at hd
        have hb := (Option.some.inj hb).symm
        obtain ⟨p1, p2⟩ := data_of hd.1
        obtain ⟨y1, y2⟩ := data_of hd.2
        have dx := rp.dp st _ _ p1
        have sx : SeqAt.shaped (toD p) = true := by
          unfold SeqAt.shaped
          rw [rp.lay _ _ p1, dep_toD _ p1]
          simpa using p2
        have hd2 : data? (see μ q) = true := by rw [e]; exact hd.2
        obtain ⟨dy, sy⟩ := shaped_of st rq hd2
        rw [e] at dy sy
        have dx' : Dp X.K H x (toD p) := by rw [hG]; exact dx
        have dy' : Dp X.K H y (toD (.lst ys)) := by rw [hG]; exact dy
        obtain ⟨as, r1⟩ := Dp.reads I _ x v dx' rx
        obtain ⟨bs, r2⟩ := Dp.reads I _ y u dy' ry
        have r2 : Reads s.heap u (.list (toDs ys)) bs := r2
        have sy : SeqAt.shaped (.list (toDs ys)) = true := sy
        have e3 := any_toD p1 (ys := ys) (by simpa [pure?] using y1)
        cases neg with
        | false => exact SeqAt.in_list_reads r2 r1 (SeqAt.canLay_of_shaped sy) (SeqAt.canLay_of_shaped sx) (room_in_shaped sx hu) ⟨.bl _, H, I, rfl, by rw [e3, ← hb]; simpa using q1⟩
        | true => exact SeqAt.notIn_list_reads r2 r1 (SeqAt.canLay_of_shaped sy) (SeqAt.canLay_of_shaped sx) (room_in_shaped sx hu) ⟨.bl _, H, I, rfl, by rw [e3, ← hb]; simpa using q1⟩
      · cases hb
    · rename_i z e
      have ez := see_str e
      subst ez
      split at hb
      · rename_i c
        have hb := (Option.some.inj hb).symm
        cases rp with
        | str _ o1 =>
          cases rq with
          | str _ o2 =>
            have e4 : decide (c ∈ (mkT z).cps.toList) = decide (c ∈ z) := by rw [mkT_tl]
            cases neg with
            | false => exact op_in_sign pins s σ H _ _ v u Q I rx ry ⟨c, mkT z, rfl, rfl, by rw [e4, ← hb]; simpa using q1⟩
            | true => exact op_notIn_sign pins s σ H _ _ v u Q I rx ry ⟨c, mkT z, rfl, rfl, by rw [e4, ← hb]; simpa using q1⟩
      · cases hb
    · cases hb
  · exact h.elim
theorem op_v_lt : OpR X (compareOp .Lt) (v2 G eh opLt) := by
  intro pins s σ H x y v u Q I rx ry h
  obtain ⟨F, am, μ, p, q, ex, st, rp, rq, h⟩ := h
  unfold opLt at h
  split at h
  · cases rp; cases rq
    exact op_lt pins s σ H _ _ v u Q I rx ry ⟨_, _, rfl, rfl, h.val st (.bl _)⟩
  · cases rp; cases rq
    refine op_lt_str pins s σ H _ _ v u Q I rx ry ⟨_, _, rfl, rfl, ?_⟩
    rw [mkT_tl, mkT_tl]
    exact h.val st (.bl _)
  · exact h.elim
theorem op_v_le : OpR X (compareOp .LtE) (v2 G eh opLe) := by
  intro pins s σ H x y v u Q I rx ry h
  obtain ⟨F, am, μ, p, q, ex, st, rp, rq, h⟩ := h
  unfold opLe at h
  split at h
  · cases rp; cases rq
    exact op_le pins s σ H _ _ v u Q I rx ry ⟨_, _, rfl, rfl, h.val st (.bl _)⟩
  · cases rp; cases rq
    refine op_le_str pins s σ H _ _ v u Q I rx ry ⟨_, _, rfl, rfl, ?_⟩
    rw [mkT_tl, mkT_tl]
    exact h.val st (.bl _)
  · exact h.elim
theorem op_v_gt : OpR X (compareOp .Gt) (v2 G eh opGt) := by
  intro pins s σ H x y v u Q I rx ry h
  obtain ⟨F, am, μ, p, q, ex, st, rp, rq, h⟩ := h
  unfold opGt at h
  split at h
  · cases rp; cases rq
    exact op_gt pins s σ H _ _ v u Q I rx ry ⟨_, _, rfl, rfl, h.val st (.bl _)⟩
  · cases rp; cases rq
    refine op_gt_str pins s σ H _ _ v u Q I rx ry ⟨_, _, rfl, rfl, ?_⟩
    rw [mkT_tl, mkT_tl]
    exact h.val st (.bl _)
  · exact h.elim
theorem op_v_ge : OpR X (compareOp .GtE) (v2 G eh opGe) := by
  intro pins s σ H x y v u Q I rx ry h
  obtain ⟨F, am, μ, p, q, ex, st, rp, rq, h⟩ := h
  unfold opGe at h
  split at h
  · cases rp; cases rq
    exact op_ge pins s σ H _ _ v u Q I rx ry ⟨_, _, rfl, rfl, h.val st (.bl _)⟩
  · cases rp; cases rq
    refine op_ge_str pins s σ H _ _ v u Q I rx ry ⟨_, _, rfl, rfl, ?_⟩
    rw [mkT_tl, mkT_tl]
    exact h.val st (.bl _)
  · exact h.elim
def pyC : COp → CmpOp
  | .eq => .Eq | .ne => .NotEq | .lt => .Lt | .le => .LtE | .gt => .Gt | .ge => .GtE | .is => .Is | .isn => .IsNot | .in_ => .In | .nin => .NotIn
theorem op_v_cmp (hG : X.K = G.K) (hu : X.A.units + 65 < cLine) : ∀ op : COp, OpR X (compareOp (pyC op)) (v2 G eh (opCmp op))
  | .eq => op_v_eq hG (by omega)
  | .ne => op_v_ne hG (by omega)
  | .lt => op_v_lt
  | .le => op_v_le
  | .gt => op_v_gt
  | .ge => op_v_ge
  | .is => op_v_is false
  | .isn => op_v_is true
  | .in_ => op_v_in hG hu false
  | .nin => op_v_in hG hu true

/-! ### truth -/
theorem truV {F H : Hp} {am : List Addr} {μ : Sto} (st : StOk G eh F H am μ) {p : PV} {v : V} {b : Bool} (r : Rep G eh F am p v) (h : truth μ p = some b) : TruV G.K v H b := by
  unfold truth at h
  split at h
  · rename_i e
    have := see_non e; subst this
    cases r; cases h; rfl
  · rename_i c e
    have := see_bl e; subst this
    cases r; cases h; rfl
  · rename_i c e
    have := see_int e; subst this
    cases r; cases h; rfl
  · rename_i c e
    have := see_str e; subst this
    cases r
    split at h
    · rename_i hl
      cases h
      refine ⟨by rw [mkT_len, ← SL_eq]; exact hl, ?_⟩
      rw [mkT_len]
      cases c <;> simp <;> omega
    · cases h
  · rename_i c e
    obtain ⟨a, xs, rfl, h1, h2⟩ := r.seeT st e
    cases h
    refine .inr (.inl ⟨xs, h1, ?_⟩)
    have := h2.length
    cases c <;> cases xs <;> simp_all
  · rename_i c e
    obtain ⟨a, xs, rfl, h1, h2⟩ := r.seeL st e
    cases h
    refine .inl ⟨xs, SqL.of h1, ?_⟩
    have := h2.length
    cases c <;> cases xs <;> simp_all
  · cases h
end

/-! ### built-in functions of one value -/
section
variable {X : Cx} {G : Gi} {eh : List (Addr × Nat)}
def vL1 (G : Gi) (eh : List (Addr × Nat)) (f : PV → Sto → R PV) : List V → Hp → VK → Prop := fun xs H Q => ∃ x, xs = [x] ∧ v1 G eh f x H Q
theorem c_len (hG : X.K = G.K) : CallR X (.builtin "len") (vL1 G eh opLen) := by
  intro pins s σ H xs us Q I r h
  obtain ⟨x, rfl, F, am, μ, p, ex, st, rp, h⟩ := h
  unfold opLen at h
  split at h
  · rename_i c e
    have := see_str e; subst this
    split at h
    · rename_i hl
      cases rp
      have q := h.val st (.int _)
      exact call_len pins s σ H _ us Q I r ⟨_, c.length, rfl, ⟨by rw [mkT_len, ← SL_eq]; exact hl, by rw [mkT_len]⟩, q⟩
    · exact h.elim
  · rename_i c e
    obtain ⟨a, xs, rfl, h1, h2⟩ := rp.seeT st e
    have q := h.val st (.int _)
    exact call_len pins s σ H _ us Q I r ⟨_, c.length, rfl, .inr ⟨xs, by rw [hG]; exact h1, h2.length⟩, q⟩
  · rename_i c e
    obtain ⟨a, xs, rfl, h1, h2⟩ := rp.seeL st e
    have q := h.val st (.int _)
    exact call_len pins s σ H _ us Q I r ⟨_, c.length, rfl, .inl ⟨xs, SqL.of h1, h2.length⟩, q⟩
  · rename_i c e
    have := see_scr e; subst this
    cases rp with
    | scr hs =>
      have q := h.val st (.int _)
      exact call_len pins s σ H _ us Q I r ⟨_, c.length, rfl, .inl ⟨_, by rw [hG]; exact st.sub.seq hs, by simp⟩, q⟩
  · exact h.elim
theorem allBl_rep {F : Hp} {am : List Addr} : ∀ {ps : List PV} {vs : List V} {bs : List Bool}, RepL G eh F am ps vs → allBl ps = some bs → vs = bs.map V.bl
  | [], _, _, r, h => by cases r; cases h; rfl
  | p :: ps, _, bs, r, h => by
    cases p <;> first | (cases h; done) | skip
    cases r with
    | cons h1 h2 =>
      cases h1
      simp only [allBl] at h
      cases e : allBl ps with
      | none => rw [e] at h; cases h
      | some cs =>
        rw [e] at h
        cases h
        rw [allBl_rep h2 e]
        rfl
theorem allInt_rep {F : Hp} {am : List Addr} : ∀ {ps : List PV} {vs : List V} {bs : List Int}, RepL G eh F am ps vs → allInt ps = some bs → vs = bs.map V.int
  | [], _, _, r, h => by cases r; cases h; rfl
  | p :: ps, _, bs, r, h => by
    cases p <;> first | (cases h; done) | skip
    cases r with
    | cons h1 h2 =>
      cases h1
      simp only [allInt] at h
      cases e : allInt ps with
      | none => rw [e] at h; cases h
      | some cs =>
        rw [e] at h
        cases h
        rw [allInt_rep h2 e]
        rfl
theorem allStr_rep {F : Hp} {am : List Addr} : ∀ {ps : List PV} {vs : List V} {bs : List (List Nat)}, RepL G eh F am ps vs → allStr ps = some bs → vs = (bs.map mkT).map V.str ∧ ∀ b ∈ bs, okTxt b
  | [], _, _, r, h => by cases r; cases h; exact ⟨rfl, fun _ h => nomatch h⟩
  | p :: ps, _, bs, r, h => by
    cases p <;> first | (cases h; done) | skip
    cases r with
    | cons h1 h2 =>
      cases h1 with
      | str z o =>
        simp only [allStr] at h
        cases e : allStr ps with
        | none => rw [e] at h; cases h
        | some cs =>
          rw [e] at h
          cases h
          obtain ⟨e1, e2⟩ := allStr_rep h2 e
          rw [e1]
          refine ⟨rfl, fun b hb => ?_⟩
          rcases List.mem_cons.mp hb with rfl | hb
          · exact o
          · exact e2 b hb
theorem c_all (hc : X.calm = true) : CallR X (.builtin "all") (vL1 G eh opAll) := by
  intro pins s σ H xs us Q I r h
  obtain ⟨x, rfl, F, am, μ, p, ex, st, rp, h⟩ := h
  unfold opAll at h
  split at h
  · rename_i c e
    split at h
    · rename_i bs eb
      obtain ⟨a, xs, rfl, h1, h2⟩ := rp.seeL st e
      have := allBl_rep h2 eb
      subst this
      exact cr_all hc pins s σ H _ us Q I r ⟨a, bs, rfl, SqL.of h1, h.val st (.bl _)⟩
    · exact h.elim
  · exact h.elim
theorem c_any (hc : X.calm = true) : CallR X (.builtin "any") (vL1 G eh opAny) := by
  intro pins s σ H xs us Q I r h
  obtain ⟨x, rfl, F, am, μ, p, ex, st, rp, h⟩ := h
  unfold opAny at h
  split at h
  · rename_i c e
    split at h
    · rename_i bs eb
      obtain ⟨a, xs, rfl, h1, h2⟩ := rp.seeL st e
      have := allBl_rep h2 eb
      subst this
      exact cr_any hc pins s σ H _ us Q I r ⟨a, bs, rfl, SqL.of h1, h.val st (.bl _)⟩
    · exact h.elim
  · exact h.elim
theorem c_list (hG : X.K = G.K) : CallR X (.type "list") (vL1 G eh opList) := by
  intro pins s σ H xs us Q I r h
  obtain ⟨x, rfl, F, am, μ, p, ex, st, rp, h⟩ := h
  unfold opList at h
  split at h
  · rename_i c e
    obtain ⟨a, xs, rfl, h1, h2⟩ := rp.seeT st e
    exact call_list_of pins s σ H _ us Q I r ⟨a, xs, rfl, .inr (by rw [hG]; exact h1), h.newL st h2⟩
  · rename_i c e
    obtain ⟨a, xs, rfl, h1, h2⟩ := rp.seeL st e
    exact call_list_of pins s σ H _ us Q I r ⟨a, xs, rfl, .inl (SqL.of h1), h.newL st h2⟩
  · exact h.elim
theorem c_tuple (hG : X.K = G.K) : CallR X (.type "tuple") (vL1 G eh opTuple) := by
  intro pins s σ H xs us Q I r h
  obtain ⟨x, rfl, F, am, μ, p, ex, st, rp, h⟩ := h
  unfold opTuple at h
  split at h
  · rename_i c e
    have := see_tup e; subst this
    obtain ⟨a, xs, rfl, h1, h2⟩ := rp.seeT st e
    exact call_tuple_of pins s σ H _ us Q I r ⟨a, xs, rfl, .inr ⟨by rw [hG]; exact h1, h.val st rp⟩⟩
  · rename_i c e
    obtain ⟨a, xs, rfl, h1, h2⟩ := rp.seeL st e
    exact call_tuple_of pins s σ H _ us Q I r ⟨a, xs, rfl, .inl ⟨SqL.of h1, h.newT st h2⟩⟩
  · exact h.elim
theorem c_sum (hc : X.calm = true) : CallR X (.builtin "sum") (vL1 G eh opSum) := by
  intro pins s σ H xs us Q I r h
  obtain ⟨x, rfl, F, am, μ, p, ex, st, rp, h⟩ := h
  unfold opSum at h
  split at h
  · rename_i c e
    split at h
    · rename_i bs eb
      obtain ⟨a, xs, rfl, h1, h2⟩ := rp.seeL st e
      have := allInt_rep h2 eb
      subst this
      exact cr_sum hc pins s σ H _ us Q I r ⟨a, bs, rfl, SqL.of h1, h.val st (.int _)⟩
    · exact h.elim
  · exact h.elim
def vL2 (G : Gi) (eh : List (Addr × Nat)) (f : PV → PV → Sto → R PV) : List V → Hp → VK → Prop := fun xs H Q => ∃ x y, xs = [x, y] ∧ v2 G eh f x y H Q
theorem c_max2 (hc : X.calm = true) : CallR X (.builtin "max") (vL2 G eh (opB2 .max)) := by
  intro pins s σ H xs us Q I r h
  obtain ⟨x, y, rfl, F, am, μ, p, q, ex, st, rp, rq, h⟩ := h
  cases p <;> first | exact h.elim | skip
  cases q <;> first | exact h.elim | skip
  cases rp; cases rq
  exact call_max2 hc pins s σ H _ us Q I r ⟨_, _, rfl, WpR.val h st (.int _)⟩
theorem c_min2 (hc : X.calm = true) : CallR X (.builtin "min") (vL2 G eh (opB2 .min)) := by
  intro pins s σ H xs us Q I r h
  obtain ⟨x, y, rfl, F, am, μ, p, q, ex, st, rp, rq, h⟩ := h
  cases p <;> first | exact h.elim | skip
  cases q <;> first | exact h.elim | skip
  cases rp; cases rq
  exact call_min2 hc pins s σ H _ us Q I r ⟨_, _, rfl, WpR.val h st (.int _)⟩
end

/-! ### subscripts, slices -/
section
variable {X : Cx} {G : Gi} {eh : List (Addr × Nat)}
theorem atI_rep {F : Hp} {am : List Addr} {ps : List PV} {vs : List V} {i : Int} {p : PV} (r : RepL G eh F am ps vs) (h : atI ps i = some p) : ∃ v, atI vs i = some v ∧ Rep G eh F am p v := by
  unfold atI at h ⊢
  rw [← r.length]
  cases e : ixN ps.length i with
  | none => rw [e] at h; cases h
  | some j =>
    rw [e] at h
    exact r.get h
theorem DRep.length {F : Hp} {am : List Addr} : ∀ {kvs : List (PV × PV)} {es : List (Key × V)}, DRep G eh F am kvs es → kvs.length = es.length
  | _, _, .nil => rfl
  | _, _, .cons _ _ h => by simp [h.length]
theorem key_eq {p q : PV} {j k : Key} (h1 : KeyRel p j) (h2 : KeyRel q k) : peq p q = decide (j = k) := by
  cases p <;> first | exact h1.elim | skip
  · cases q <;> first | exact h2.elim | skip
    · have e1 : j = Sum.inl _ := h1
      have e2 : k = Sum.inl _ := h2
      subst e1; subst e2
      rw [Bool.eq_iff_iff]; simp [peq]
    · have e1 : j = Sum.inl _ := h1
      obtain ⟨_, e2⟩ : _ ∧ k = Sum.inr _ := h2
      subst e1; subst e2
      simp [peq]
  · cases q <;> first | exact h2.elim | skip
    · obtain ⟨_, e1⟩ : _ ∧ j = Sum.inr _ := h1
      have e2 : k = Sum.inl _ := h2
      subst e1; subst e2
      simp [peq]
    · obtain ⟨_, e1⟩ : _ ∧ j = Sum.inr _ := h1
      obtain ⟨_, e2⟩ : _ ∧ k = Sum.inr _ := h2
      subst e1; subst e2
      rw [Bool.eq_iff_iff]; simp [peq, mkT]
theorem key_of_rep {F : Hp} {am : List Addr} {p : PV} {v : V} (r : Rep G eh F am p v) (h : key? p = true) : ∃ k, KeyRel p k ∧ v = kV k := by
  cases p <;> first | (cases h; done) | skip
  · cases r; exact ⟨.inl _, rfl, rfl⟩
  · cases r with
    | str s o => exact ⟨.inr _, ⟨o, rfl⟩, rfl⟩
theorem look_rep {F : Hp} {am : List Addr} {p : PV} {k : Key} (hk : KeyRel p k) : ∀ {kvs : List (PV × PV)} {es : List (Key × V)}, DRep G eh F am kvs es →
    (lookD p kvs = none ∧ valV es k = none) ∨ ∃ q v, lookD p kvs = some q ∧ valV es k = some v ∧ Rep G eh F am q v
  | _, _, .nil => .inl ⟨rfl, rfl⟩
  | _, _, .cons (k := p2) (p := q) (j := j) (v := v) (r := r) (s := s) h1 h2 h3 => by
    have e := key_eq h1 hk
    by_cases hj : j = k
    · rw [decide_eq_true hj] at e
      refine .inr ⟨q, v, ?_, valV_pos hj, h2⟩
      simp only [lookD, e, if_true]
    · rw [decide_eq_false hj] at e
      rcases look_rep hk h3 with ⟨e1, e2⟩ | ⟨q', v', e1, e2, e3⟩
      · exact .inl ⟨by simp only [lookD, e]; exact e1, by rw [valV_neg hj]; exact e2⟩
      · exact .inr ⟨q', v', by simp only [lookD, e]; exact e1, by rw [valV_neg hj]; exact e2, e3⟩
theorem ix_v (hG : X.K = G.K) (hu : X.A.units + 1 < cLine) : IxR X (v2 G eh opIdx) := by
  intro value slice pins s σ H x y v u Q I rx ry h hs
  obtain ⟨F, am, μ, p, q, ex, st, rp, rq, h⟩ := h
  unfold opIdx at h
  split at h
  · split at h
    · rename_i e
      cases rp with
      | tup h1 h2 =>
        cases rq
        obtain ⟨w, e1, r1⟩ := atI_rep h2 e
        exact ix_tup value slice pins s σ H _ _ v u Q I rx ry ⟨_, _, _, w, rfl, rfl, by rw [hG]; exact SqT.same st.sub h1, e1, h.val st r1⟩ hs
    · exact h.elim
  · split at h
    · rename_i e
      cases rp with
      | lst h1 h2 =>
        cases rq
        obtain ⟨w, e1, r1⟩ := atI_rep h2 e
        exact ix_list value slice pins s σ H _ _ v u Q I rx ry ⟨_, _, _, w, rfl, rfl, SqL.of (st.sub _ _ h1), e1, h.val st r1⟩ hs
    · exact h.elim
  · split at h
    · rename_i ns j _ z e
      cases rp with
      | scr h1 =>
        cases rq
        refine ix_list value slice pins s σ H _ _ v u Q I rx ry ⟨_, ns.map V.int, _, .int z, rfl, rfl, by rw [hG]; exact st.sub.seq h1, ?_, h.val st (.int _)⟩ hs
        unfold atI at e ⊢
        rw [List.length_map]
        cases e2 : ixN ns.length j with
        | none => rw [e2] at e; cases e
        | some k =>
          rw [e2] at e
          have e : ns[k]? = some z := e
          show (ns.map V.int)[k]? = some (V.int z)
          rw [List.getElem?_map, e]; rfl
    · exact h.elim
  · split at h
    · rename_i z j hl
      split at h
      · rename_i c e
        cases rp with
        | str _ o =>
          cases rq
          have hc : c ∈ z := by
            unfold atI at e
            cases e2 : ixN z.length j with
            | none => rw [e2] at e; cases e
            | some k => rw [e2] at e; exact List.mem_of_getElem? (show z[k]? = some c from e)
          refine ix_str value slice pins s σ H _ _ v u Q I rx ry ⟨mkT z, _, c, rfl, rfl, by rw [mkT_len, ← SL_eq]; exact hl, by rw [mkT_tl]; exact e, ?_⟩ hs
          exact h.val st (.str [c] fun d hd => by rw [List.mem_singleton.mp hd]; exact o c hc)
      · exact h.elim
    · exact h.elim
  · rename_i n i
    cases rp with
    | loc ha =>
      split at h
      · rename_i xs j em
        split at h
        · rename_i e
          obtain ⟨a', ha', ys, h1, h2⟩ := st.cellAt em
          rw [ha] at ha'; cases ha'
          cases rq
          obtain ⟨w, e1, r1⟩ := atI_rep h2 e
          exact ix_list value slice pins s σ H _ _ v u Q I rx ry ⟨_, _, _, w, rfl, rfl, SqL.of h1, e1, h.val st r1⟩ hs
        · exact h.elim
      · rename_i kvs k em
        split at h
        · rename_i hk
          split at h
          · rename_i w el
            obtain ⟨a', ha', es, h1, h2⟩ := st.cellAt em
            rw [ha] at ha'; cases ha'
            obtain ⟨kk, hkr, rfl⟩ := key_of_rep rq hk
            rcases look_rep hkr h2 with ⟨e1, _⟩ | ⟨q', v', e1, e2, e3⟩
            · rw [e1] at el; cases el
            · rw [e1] at el; cases el
              cases rx
              have g := DGet.k (k := kk) h1
              rw [e2] at g
              exact tail_any (ops := [.ref _, u]) (dict_typeIs I g) PySem.F.slot_dict_getitem.lookup (d_getItem hu I g ry fun w' s3 I3 rw' => ⟨v', H, I3, rw', h.val st e3⟩) hs
          · exact h.elim
        · exact h.elim
      · exact h.elim
  · exact h.elim

theorem sl_v (hG : X.K = G.K) : SlR X (fun x lo hi => v1 G eh (fun p μ => opSl p lo hi μ) x) := by
  intro pins s σ H x v vl vu lo hi sl Q I rx hsl pl pu h
  obtain ⟨F, am, μ, p, ex, st, rp, h⟩ := h
  simp only [opSl] at h
  split at h
  · rename_i c e
    have := see_tup e; subst this
    obtain ⟨a, xs, rfl, h1, h2⟩ := rp.seeT st e
    refine sl_tupA pins s σ H _ v vl vu lo hi sl Q I rx hsl pl pu ⟨a, xs, rfl, by rw [hG]; exact h1, fun hw => ?_, fun _ => h.newT st (h2.cut lo hi)⟩
    have e3 : cutL c lo hi = c := by
      unfold cutL
      rw [h2.length, hw.1, hw.2, List.drop_zero, Nat.sub_zero, ← h2.length, List.take_length]
    rw [e3] at h
    exact h.val st rp
  · rename_i c e
    obtain ⟨a, xs, rfl, h1, h2⟩ := rp.seeL st e
    exact sl_list pins s σ H _ v vl vu lo hi sl Q I rx hsl pl pu ⟨a, xs, rfl, SqL.of h1, h.newL st (h2.cut lo hi)⟩
  · rename_i c e
    have := see_str e; subst this
    split at h
    · rename_i hl
      cases rp with
      | str _ o =>
        refine sl_str pins s σ H _ v vl vu lo hi sl Q I rx hsl pl pu ⟨mkT c, rfl, by rw [mkT_len, ← SL_eq]; exact hl, ?_⟩
        have e4 : cutS (mkT c) lo hi = mkT (cutL c lo hi) := by
          unfold cutS cutL mkT
          simp only [Str.length]
          simp
        rw [e4]
        exact h.val st (.str _ fun d hd => o d (List.mem_of_mem_drop (List.mem_of_mem_take hd)))
    · exact h.elim
  · exact h.elim
end

/-! ### methods of built-in types -/
section
variable {X : Cx} {G : Gi} {eh : List (Addr × Nat)}
theorem txt_spl {S z : List Nat} (hS : S ≠ []) (h256 : S.all (· < 256) = true) : (Txt.split (mkT z) (mkT S)) = (TL.spl S 0 [] z).map mkT := by
  apply TL.map_tl_inj
  rw [TL.split_spl (mkT z) (mkT S) (by simpa [mkT, TL.tl_mk] using hS) (TL.kind_ok (by simpa [mkT] using h256))]
  rw [List.map_map]
  have : (TL.tl ∘ mkT) = id := by funext l; simp [mkT, TL.tl_mk]
  rw [this, List.map_id]
theorem spl_ok (S : List Nat) : ∀ (z : List Nat) (k : Nat) (acc : List Nat), okTxt z → okTxt acc → ∀ t ∈ TL.spl S k acc z, okTxt t
  | [], k, acc, _, ha, t, ht => by
    rw [TL.spl_nil] at ht
    rw [List.mem_singleton.mp ht]; exact ha
  | c :: r, 0, acc, hz, ha, t, ht => by
    have hr : okTxt r := fun d hd => hz d (List.mem_cons_of_mem _ hd)
    have hc : okTxt [c] := fun d hd => by rw [List.mem_singleton.mp hd]; exact hz c List.mem_cons_self
    cases hp : TL.pre S (c :: r) with
    | true =>
      rw [TL.spl_hit hp] at ht
      rcases List.mem_cons.mp ht with rfl | ht
      · exact ha
      · exact spl_ok S r _ [] hr (fun _ h => nomatch h) t ht
    | false =>
      rw [TL.spl_miss hp] at ht
      exact spl_ok S r 0 _ hr (okTxt_append ha hc) t ht
  | c :: r, k + 1, acc, hz, ha, t, ht => by
    have hr : okTxt r := fun d hd => hz d (List.mem_cons_of_mem _ hd)
    exact spl_ok S r k acc hr ha t ht
theorem repL_strs {F : Hp} {am : List Addr} : ∀ {ts : List (List Nat)}, (∀ t ∈ ts, okTxt t) → RepL G eh F am (ts.map PV.str) ((ts.map mkT).map V.str)
  | [], _ => .nil
  | t :: ts, h => .cons (.str t (h t List.mem_cons_self)) (repL_strs fun u hu => h u (List.mem_cons_of_mem _ hu))
theorem m_split : MtR X "str.split" (vM G eh mSplit) := by
  intro pins s σ H x xs v us Q I rx r h
  obtain ⟨F, am, μ, p, ps, ex, st, rp, rps, h⟩ := h
  unfold mSplit at h
  split at h
  · rename_i z c d
    split at h
    · rename_i hl
      simp only [Bool.and_eq_true, decide_eq_true_eq] at hl
      cases rp with
      | str _ o =>
        cases rps with
        | cons r1 r2 =>
          cases r2
          cases r1 with
          | str _ o2 =>
            refine mt_split pins s σ H _ _ v us Q I rx r ⟨mkT z, mkT (c :: d), rfl, rfl, ?_, by rw [mkT_len, ← SL_eq]; exact hl.1, ?_⟩
            · rw [mkT_len]; simp
            · unfold rNewStrs
              rw [txt_spl (by simp) hl.2]
              exact h.newL st (repL_strs (spl_ok _ z 0 [] o (fun _ h => nomatch h)))
    · exact h.elim
  · exact h.elim
theorem joinL_ok {S : List Nat} (hS : okTxt S) : ∀ {ts : List (List Nat)}, (∀ t ∈ ts, okTxt t) → okTxt (TL.joinL S ts)
  | [], _ => fun _ h => nomatch h
  | [t], h => h t List.mem_cons_self
  | t :: u :: r, h => by
    unfold TL.joinL
    exact okTxt_append (h t List.mem_cons_self) (okTxt_append hS (joinL_ok hS fun w hw => h w (List.mem_cons_of_mem _ hw)))
theorem txt_join (S : List Nat) (ts : List (List Nat)) : Txt.join (mkT S) (ts.map mkT) = mkT (TL.joinL S ts) := by
  rw [TL.join_eq]
  apply TL.ext_tl
  rw [TL.tl_join, List.map_map]
  have : (TL.tl ∘ mkT) = id := by funext l; simp [mkT, TL.tl_mk]
  rw [this, List.map_id]
theorem totalLen_eq (ts : List (List Nat)) : ((ts.map mkT).map (·.length)).sum = totalLen ts := by
  unfold totalLen
  rw [List.map_map]
  congr 1
theorem m_join (hG : X.K = G.K) : MtR X "str.join" (vM G eh mJoin) := by
  intro pins s σ H x xs v us Q I rx r h
  obtain ⟨F, am, μ, p, ps, ex, st, rp, rps, h⟩ := h
  unfold mJoin at h
  split at h
  · rename_i z q
    cases rp with
    | str _ o =>
      cases rps with
      | cons r1 r2 =>
        cases r2
        split at h
        · rename_i ys e
          obtain ⟨a, xs, rfl, h1, h2⟩ := r1.seeL st e
          unfold joinOf at h
          split at h
          · rename_i ts et
            split at h
            · rename_i hl
              obtain ⟨e1, o1⟩ := allStr_rep h2 et
              subst e1
              refine mt_join pins s σ H _ _ v us Q I rx r ⟨mkT z, a, ts.map mkT, rfl, rfl, .inl (SqL.of h1), ?_, ?_⟩
              · rw [totalLen_eq, mkT_len, List.length_map]; exact hl
              · rw [txt_join]; exact h.val st (.str _ (joinL_ok o o1))
            · exact h.elim
          · exact h.elim
        · rename_i ys e
          obtain ⟨a, xs, rfl, h1, h2⟩ := r1.seeT st e
          unfold joinOf at h
          split at h
          · rename_i ts et
            split at h
            · rename_i hl
              obtain ⟨e1, o1⟩ := allStr_rep h2 et
              subst e1
              refine mt_join pins s σ H _ _ v us Q I rx r ⟨mkT z, a, ts.map mkT, rfl, rfl, .inr (by rw [hG]; exact h1), ?_, ?_⟩
              · rw [totalLen_eq, mkT_len, List.length_map]; exact hl
              · rw [txt_join]; exact h.val st (.str _ (joinL_ok o o1))
            · exact h.elim
          · exact h.elim
        · exact h.elim
  · exact h.elim
end
end NR

/-! NR2b: more operations, by values. -/
namespace NR
open PySem L2
open PySem.Spec PyProof.Rows
section
variable {X : Cx} {G : Gi} {eh : List (Addr × Nat)}
variable {F H : Hp} {am : List Addr} {μ : Sto}
/-- a new cell of a list -/
theorem WpR.newC {Q : VK} {exx : Nat → Hp → Prop} {ps : List PV} {xs : List V} (h : WpR G eh F H am (.ok (.loc μ.length) (μ ++ [.list ps])) (fun r _ F' H' am' => ∀ v, Rep G eh F' am' r v → Q v H') exx) (st : StOk G eh F H am μ) (r : RepL G eh F am ps xs) : ∀ p, H p = none → Q (.ref p) (upd H p (.lst xs)) := fun p hp => by
  obtain ⟨s2, x2⟩ := st.newCell (o := .lst xs) (c := .list ps) hp ⟨xs, upd_same, RepL.mono (Same.refl F) (List.prefix_append _ _) _ _ r⟩
  refine h _ _ _ x2 s2 _ (.loc ?_)
  rw [← st.len]; simp
theorem c_listc (hG : X.K = G.K) : CallR X (.type "list") (vL1 G eh opListC) := by
  intro pins s σ H xs us Q I r h
  obtain ⟨x, rfl, F, am, μ, p, ex, st, rp, h⟩ := h
  unfold opListC at h
  split at h
  · rename_i ps e
    obtain ⟨a, ys, rfl, h1, h2⟩ := rp.seeT st e
    exact call_list_of pins s σ H _ us Q I r ⟨a, ys, rfl, .inr (by rw [hG]; exact h1), WpR.newC h st h2⟩
  · rename_i ps e
    obtain ⟨a, ys, rfl, h1, h2⟩ := rp.seeL st e
    exact call_list_of pins s σ H _ us Q I r ⟨a, ys, rfl, .inl (SqL.of h1), WpR.newC h st h2⟩
  · exact h.elim
theorem starts_eq (z y : List Nat) : Txt.startswith (mkT z) (mkT y) = starts z y := by
  unfold Txt.startswith starts
  rw [PySem.StrLaws.subAt_eq, mkT_len, mkT_len, mkT_tl, mkT_tl, List.drop_zero]
  rw [Bool.eq_iff_iff]
  simp only [Bool.and_eq_true, decide_eq_true_eq, beq_iff_eq, List.isPrefixOf_iff_prefix]
  constructor
  · rintro ⟨_, h⟩
    rw [← h]; exact List.take_prefix _ _
  · intro h
    exact ⟨by have := h.length_le; omega, (List.prefix_iff_eq_take.mp h).symm⟩
theorem ends_eq (z y : List Nat) : Txt.endswith (mkT z) (mkT y) = ends z y := by
  unfold Txt.endswith ends
  rw [PySem.StrLaws.subAt_eq, mkT_len, mkT_len, mkT_tl, mkT_tl]
  rw [Bool.eq_iff_iff]
  simp only [Bool.and_eq_true, decide_eq_true_eq, beq_iff_eq, List.isSuffixOf_iff_suffix]
  constructor
  · rintro ⟨h1, h⟩
    rw [List.take_of_length_le (by rw [List.length_drop]; omega)] at h
    rw [← h]; exact List.drop_suffix _ _
  · intro h
    have h1 := h.length_le
    refine ⟨by omega, ?_⟩
    rw [List.take_of_length_le (by rw [List.length_drop]; omega)]
    exact (List.suffix_iff_eq_drop.mp h).symm
theorem m_ends : MtR X "str.endswith" (vM G eh mEnds) := by
  intro pins s σ H x xs v us Q I rx r h
  obtain ⟨F, am, μ, p, ps, ex, st, rp, rps, h⟩ := h
  unfold mEnds at h
  split at h
  · cases rp
    cases rps with
    | cons r1 r2 =>
      cases r2
      cases r1
      refine mt_endswith pins s σ H _ _ v us Q I rx r ⟨_, _, rfl, rfl, ?_⟩
      rw [ends_eq]
      exact h.val st (.bl _)
  · exact h.elim
theorem m_starts : MtR X "str.startswith" (vM G eh mStarts) := by
  intro pins s σ H x xs v us Q I rx r h
  obtain ⟨F, am, μ, p, ps, ex, st, rp, rps, h⟩ := h
  unfold mStarts at h
  split at h
  · cases rp
    cases rps with
    | cons r1 r2 =>
      cases r2
      cases r1
      refine mt_startswith pins s σ H _ _ v us Q I rx r ⟨_, _, rfl, rfl, ?_⟩
      rw [starts_eq]
      exact h.val st (.bl _)
  · exact h.elim
/-- - e -/
theorem u_neg : UnR X (unaryOp .USub) (v1 G eh opNeg) := by
  intro pins s σ H x v Q I rx h
  obtain ⟨F, am, μ, p, ex, st, rp, h⟩ := h
  unfold opNeg at h
  split at h
  · cases rp
    exact un_neg pins s σ H _ v Q I rx ⟨_, rfl, h.val st (.int _)⟩
  · exact h.elim

/-! ### isinstance -/
/-- the type's name -/
def tyName : PV → String
  | .non => "NoneType" | .bl _ => "bool" | .int _ => "int" | .str _ => "str" | .tup _ => "tuple" | _ => "list"
def kName : Nat → String
  | 0 => "str" | 1 => "int" | 2 => "bool" | 3 => "tuple" | _ => "list"
theorem kit_all : (["NoneType", "bool", "int", "str", "tuple", "list"].all fun t => [0, 1, 2, 3, 4].all fun k => decide (kitB t (kName k) = some (match t with
  | "bool" => k == 1 || k == 2 | "int" => k == 1 | "str" => k == 0 | "tuple" => k == 3 | "list" => k == 4 | _ => false))) = true := by decide +kernel
theorem kit_at {sup : Nat → Nat → Bool} {p : PV} {k : Nat} (hp : hasKind p = true) (hk : k < 5) : kitB (tyName p) (kName k) = some (isKind sup p k) := by
  have h := kit_all
  rw [List.all_eq_true] at h
  have ht : tyName p ∈ ["NoneType", "bool", "int", "str", "tuple", "list"] := by cases p <;> simp [tyName]
  have h1 := h _ ht
  rw [List.all_eq_true] at h1
  have h2 := of_decide_eq_true (h1 k (by simp; omega))
  rw [h2]
  cases p <;> first | rfl | (cases hp; done) | simp [tyName, isKind]
theorem rep_ty {F H : Hp} {am : List Addr} {μ : Sto} (st : StOk G eh F H am μ) {p : PV} {v : V} (r : Rep G eh F am p v) (h : hasKind (see μ p) = true) : TyX G.K H v (.type (tyName (see μ p))) := by
  rcases r.see st (fun n e => by rw [e] at h; cases h) with e | ⟨n, a, ps, xs, rfl, rfl, e1, e2, h1, h2⟩
  · rw [e] at h ⊢
    cases r with
    | non => exact .base .non
    | bl b => exact .base (.bl b)
    | int i => exact .base (.int i)
    | str s o => exact .base (.str _)
    | tup h1 h2 =>
      rcases SqT.same st.sub h1 with (h | ⟨o, h⟩) | ⟨o, its, n, h1, h2, _⟩
      · exact .base (.tup h)
      · exact .fTuple h
      · exact .kTuple h1 h2
    | lst h1 h2 => exact .base (.lst (st.sub _ _ h1))
    | loc _ => cases h
    | exc _ => cases h
    | scr h1 =>
      rcases st.sub.seq h1 with (h | ⟨o, h⟩) | ⟨o, its, n, h1, h2, _⟩
      · exact .base (.lst h)
      · exact .base (.frz h)
      · exact .kList h1 h2
  · rw [e2]
    exact .base (.lst h1)
theorem kitAny_of {sup : Nat → Nat → Bool} {K : PySem.W.Frag} {p : PV} (hp : hasKind p = true) : ∀ {ks : List Nat}, ks.all (· < 5) = true → PySem.W.kitAny K (.type (tyName p)) (ks.map fun k => .type (kName k)) = some (ks.any (isKind sup p))
  | [], _ => rfl
  | k :: ks, h => by
    simp only [List.all_cons, Bool.and_eq_true, decide_eq_true_eq] at h
    rw [List.map_cons]
    unfold PySem.W.kitAny
    rw [kit_ty (kit_at (sup := sup) hp h.1)]
    rw [List.any_cons]
    cases isKind sup p k with
    | true => rfl
    | false => simpa using kitAny_of hp h.2
end
end NR

/-! NR3: rules of expressions by the evaluator. -/
namespace NR
open PySem L2
open PySem.Spec PyProof.Rows

/-! ### what a text's shape tells -/
def nst : Expr → Bool
  | .Starred .. => false
  | _ => true
theorem star_cons {e : Expr} {es : List Expr} {env : Env} (h : nst e = true) : starEach (e :: es) env = (false, eval e env) :: starEach es env := by
  cases e <;> first | rfl | (cases h; done)
theorem star_all : ∀ {es : List Expr} {env : Env}, es.all nst = true → starEach es env = es.map fun e => (false, eval e env)
  | [], _, _ => rfl
  | e :: es, env, h => by
    simp only [List.all_cons, Bool.and_eq_true] at h
    rw [star_cons h.1, star_all h.2]; rfl
theorem star_none {es : List Expr} {env : Env} (pos : Pos) (h : es.all nst = true) : (backTo pos (starEach es env)).any (·.1) = false := by
  rw [star_all h]
  unfold backTo
  rw [List.map_map, List.any_map, List.any_eq_false]
  intro e _
  simp
theorem star_few {e : Expr} {es : List Expr} {env : Env} {cpos : Pos} (h : nst e = true) (hs : es.all nst = true) (hl : es.length < 28) :
    ((backTo cpos (starEach (e :: es) env)).all (fun x => !x.1) && (backToKw cpos (keywordEach [] env)).all (fun x => x.1.isSome)
      && decide ((e :: es).length + ([] : List Keyword).length + (if ([] : List Keyword).isEmpty then 0 else 1) < 30)) = true := by
  have h1 : (e :: es).all nst = true := by simp only [List.all_cons, Bool.and_eq_true]; exact ⟨h, hs⟩
  rw [star_all h1]
  simp only [Bool.and_eq_true]
  refine ⟨⟨?_, rfl⟩, ?_⟩
  · unfold backTo
    rw [List.map_map, List.all_map, List.all_eq_true]
    intro e _
    simp
  · simp; omega
def nsup : Expr → Bool
  | .Call (.Name _ _) [] [] _ => false
  | _ => true
theorem attr_base {o : Expr} {m : Str} {env : Env} {whole : Sem Value} (h : nsup o = true) : attributeBase o m env whole = whole := by
  unfold attributeBase
  split
  · cases h
  · rfl
/-- plain tests: no not, and, or, if-else, comparison -/
def plainTest : Expr → Bool
  | .UnaryOp .Not _ _ => false | .BoolOp .. => false | .IfExp .. => false | .Compare .. => false
  | _ => true
theorem plain_true {e : Expr} {env : Env} (h : plainTest e = true) : ∀ whole, isTrue e env whole = (do let v ← whole; standAt e.pos; holding [v] (truthy v)) := by
  intro whole
  cases e with
  | UnaryOp op x pos => cases op <;> first | rfl | (cases h; done)
  | _ => first | rfl | (cases h; done)
def nslice : Expr → Bool
  | .Slice .. => false
  | _ => true
theorem plain_ix {b : Expr} (h : nslice b = true) : PlainIx b := by
  intro o i
  cases b <;> first | rfl | (cases h; done)
def nset : Expr → Bool
  | .Set .. => false
  | _ => true
theorem no_marks {op : CmpOp} {b : Expr} (h : nset b = true) : behindInMarks op b = false := by
  cases b <;> first | rfl | (cases h; done)
theorem no_folded {e : Expr} {env : Env} (h : nset e = true) : ∀ x, foldedSetIterable e env x = pure x := by
  intro x
  cases e <;> first | rfl | (cases h; done)
def ncomp : Expr → Bool
  | .ListComp .. => false | .SetComp .. => false | .DictComp .. => false
  | _ => true
theorem no_swap {e : Expr} {t : Option Expr} {l : Nat} {env : Env} (h : ncomp e = true) : swapsWith e t l env = pure false := by
  cases e <;> first | rfl | (cases h; done)

/-! ### rules -/
section
variable {X : Cx} {G : Gi} {eh : List (Addr × Nat)} {W : WX} {P : Prog} {cs : CallS}
def tV (G : Gi) (eh : List (Addr × Nat)) (W : WX) (P : Prog) (cs : CallS) (c : CE) : TE := tE G eh (wish G W) (fun env μ => ev P cs c env μ)
def tVs (G : Gi) (eh : List (Addr × Nat)) (W : WX) (P : Prog) (cs : CallS) (c : List CE) : TA := tEs G eh (wish G W) (fun env μ => evs P cs c env μ)
/-- a test -/
def evT (P : Prog) (cs : CallS) (c : CE) (env : EnvP) (μ : Sto) : R Bool := (ev P cs c env μ).bind fun p μ => match truth μ p with | some b => .ok b μ | none => .bad
def tVt (G : Gi) (eh : List (Addr × Nat)) (W : WX) (P : Prog) (cs : CallS) (c : CE) : TT := tT G eh (wish G W) (fun env μ => evT P cs c env μ)
variable {F H : Hp} {am : List Addr} {σ : L2.St} {env : EnvP} {μ : Sto}
theorem tV.out {c : CE} {Q : VK} (q : tV G eh W P cs c σ H Q) : ∃ F am env μ, StOk G eh F H am μ ∧ EnvOk G eh F am σ env ∧ WpR G eh F H am (ev P cs c env μ) (fun p _ F' H' am' => ∀ v, Rep G eh F' am' p v → Q v H') (wish G W σ) := q
theorem tVs.out {c : List CE} {Q : List V → Hp → Prop} (q : tVs G eh W P cs c σ H Q) : ∃ F am env μ, StOk G eh F H am μ ∧ EnvOk G eh F am σ env ∧ WpR G eh F H am (evs P cs c env μ) (fun p _ F' H' am' => ∀ v, RepL G eh F' am' p v → Q v H') (wish G W σ) := q
theorem tVt.out {c : CE} {Q : Bool → Hp → Prop} (q : tVt G eh W P cs c σ H Q) : ∃ F am env μ, StOk G eh F H am μ ∧ EnvOk G eh F am σ env ∧ WpR G eh F H am (evT P cs c env μ) (fun b _ _ H' _ => Q b H') (wish G W σ) := q
/-- one part, then the rest, of any wish -/
theorem tV.go {c : CE} {α : Type} {k : PV → Sto → R α} {okk : α → Sto → Hp → Hp → List Addr → Prop} {Q : VK} (s : StOk G eh F H am μ) (en : EnvOk G eh F am σ env) (h : WpR G eh F H am ((ev P cs c env μ).bind k) okk (wish G W σ))
    (hk : ∀ p v μ1 F1 H1 am1, Ext F H am F1 H1 am1 → StOk G eh F1 H1 am1 μ1 → Rep G eh F1 am1 p v → EnvOk G eh F1 am1 σ env → WpR G eh F1 H1 am1 (k p μ1) okk (wish G W σ) → Q v H1) : tV G eh W P cs c σ H Q :=
  ⟨F, am, env, μ, s, en, h.bind.mono fun p μ1 F1 H1 am1 x s1 h1 v rv => hk p v μ1 F1 H1 am1 x s1 rv (x.en en) h1⟩
theorem tVs.go {c : List CE} {α : Type} {k : List PV → Sto → R α} {okk : α → Sto → Hp → Hp → List Addr → Prop} {Q : List V → Hp → Prop} (s : StOk G eh F H am μ) (en : EnvOk G eh F am σ env) (h : WpR G eh F H am ((evs P cs c env μ).bind k) okk (wish G W σ))
    (hk : ∀ p v μ1 F1 H1 am1, Ext F H am F1 H1 am1 → StOk G eh F1 H1 am1 μ1 → RepL G eh F1 am1 p v → EnvOk G eh F1 am1 σ env → WpR G eh F1 H1 am1 (k p μ1) okk (wish G W σ) → Q v H1) : tVs G eh W P cs c σ H Q :=
  ⟨F, am, env, μ, s, en, h.bind.mono fun p μ1 F1 H1 am1 x s1 h1 v rv => hk p v μ1 F1 H1 am1 x s1 rv (x.en en) h1⟩
theorem tVt.go {c : CE} {α : Type} {k : Bool → Sto → R α} {okk : α → Sto → Hp → Hp → List Addr → Prop} {Q : Bool → Hp → Prop} (s : StOk G eh F H am μ) (en : EnvOk G eh F am σ env) (h : WpR G eh F H am ((evT P cs c env μ).bind k) okk (wish G W σ))
    (hk : ∀ p μ1 F1 H1 am1, Ext F H am F1 H1 am1 → StOk G eh F1 H1 am1 μ1 → EnvOk G eh F1 am1 σ env → WpR G eh F1 H1 am1 (k p μ1) okk (wish G W σ) → Q p H1) : tVt G eh W P cs c σ H Q :=
  ⟨F, am, env, μ, s, en, h.bind.mono fun p μ1 F1 H1 am1 x s1 h1 => hk p μ1 F1 H1 am1 x s1 (x.en en) h1⟩

variable {a b : Expr} {ca cb cc : CE} {pos : Pos}
theorem r_var {i : Nat} {x : Str} (hN : X.N[i]? = some x) (hv : Vis X.env.scope x) (hd : (x == ("__debug__" : Str)) = false) (hcd : (x == ("__classdict__" : Str)) = false) : PE X (.Name x pos) (tV G eh W P cs (.var i)) := by
  refine PE.imp (pe_var hN hv hd hcd) fun σ H Q q => ?_
  obtain ⟨F, am, env, μ, s, en, h⟩ := tV.out q
  rw [ev] at h
  split at h
  · rename_i p e
    obtain ⟨v, e1, r⟩ := en.at_ i p e
    exact ⟨v, e1, h.val s r⟩
  · exact h.elim
/-- a value that stands wherever -/
def Always (G : Gi) (p : PV) (v : V) : Prop := ∀ eh F am, Rep G eh F am p v
theorem r_con {e : Expr} {p : PV} {v : V} (h : PE X e (tC v)) (r : Always G p v) : PE X e (tV G eh W P cs (.con p)) := by
  refine PE.imp h fun σ H Q q => ?_
  obtain ⟨F, am, env, μ, s, en, h⟩ := tV.out q
  rw [ev] at h
  exact h.val s (r _ _ _)
theorem r_glo {e : Expr} {i : Nat} {p : PV} {v : V} (h : PE X e (tC v)) (hc : P.consts[i]? = some p) (r : Always G p v) : PE X e (tV G eh W P cs (.glo i)) := by
  refine PE.imp h fun σ H Q q => ?_
  obtain ⟨F, am, env, μ, s, en, h⟩ := tV.out q
  rw [ev, hc] at h
  exact h.val s (r _ _ _)
theorem r_nil : PA X [] (tVs G eh W P cs []) := by
  refine PA.imp pa_nil fun σ H Q q => ?_
  obtain ⟨F, am, env, μ, s, en, h⟩ := tVs.out q
  rw [evs] at h
  exact h.ok_now s [] .nil
theorem r_cons {es : List Expr} {cl : List CE} (hn : nst a = true) (ha : PE X a (tV G eh W P cs ca)) (hs : PA X es (tVs G eh W P cs cl)) : PA X (a :: es) (tVs G eh W P cs (ca :: cl)) := by
  refine PA.imp (pa_cons ha hs (star_cons hn)) fun σ H Q q => ?_
  obtain ⟨F, am, env, μ, s, en, h⟩ := tVs.out q
  rw [evs] at h
  refine tV.go s en h fun p v μ1 F1 H1 am1 x1 s1 r1 en1 h1 => ?_
  refine tVs.go s1 en1 h1 fun ps vs μ2 F2 H2 am2 x2 s2 r2 en2 h2 => ?_
  exact h2.ok_now s2 _ (.cons (x2.rep r1) r2)
theorem r_tup {es : List Expr} {cl : List CE} {k : Nat} (h : PA X es (tVs G eh W P cs cl)) : PE X (.Tuple es k pos) (tV G eh W P cs (.tup cl)) := by
  refine PE.imp (pe_tup h) fun σ H Q q => ?_
  obtain ⟨F, am, env, μ, s, en, h⟩ := tV.out q
  rw [ev] at h
  refine tVs.go s en h fun ps vs μ1 F1 H1 am1 x1 s1 r1 en1 h1 => ?_
  split at h1
  · rename_i hl
    exact ⟨by rw [← r1.length, ← SL_eq]; exact hl, h1.newT s1 r1⟩
  · exact h1.elim
theorem r_lst {es : List Expr} {cl : List CE} (h : PA X es (tVs G eh W P cs cl)) : PE X (.List es pos) (tV G eh W P cs (.lst cl)) := by
  refine PE.imp (pe_lst h) fun σ H Q q => ?_
  obtain ⟨F, am, env, μ, s, en, h⟩ := tV.out q
  rw [ev] at h
  refine tVs.go s en h fun ps vs μ1 F1 H1 am1 x1 s1 r1 en1 h1 => ?_
  split at h1
  · rename_i hl
    exact ⟨by rw [← r1.length, ← SL_eq]; exact hl, h1.newL s1 r1⟩
  · exact h1.elim
theorem r_newl {es : List Expr} {cl : List CE} (h : PA X es (tVs G eh W P cs cl)) : PE X (.List es pos) (tV G eh W P cs (.newl cl)) := by
  refine PE.imp (pe_lst h) fun σ H Q q => ?_
  obtain ⟨F, am, env, μ, s, en, h⟩ := tV.out q
  rw [ev] at h
  refine tVs.go s en h fun ps vs μ1 F1 H1 am1 x1 s1 r1 en1 h1 => ?_
  split at h1
  · rename_i hl
    exact ⟨by rw [← r1.length, ← SL_eq]; exact hl, WpR.newC h1 s1 r1⟩
  · exact h1.elim
theorem r_bin (hG : X.K = G.K) {op : BOp} (ha : PE X a (tV G eh W P cs ca)) (hb : PE X b (tV G eh W P cs cb)) : PE X (.BinOp a (pyB op) b pos) (tV G eh W P cs (.bin op ca cb)) := by
  refine PE.imp (pe_op (op_v_bin (eh := eh) hG op) ha hb) fun σ H Q q => ?_
  obtain ⟨F, am, env, μ, s, en, h⟩ := tV.out q
  rw [ev] at h
  refine tV.go s en h fun p v μ1 F1 H1 am1 x1 s1 r1 en1 h1 => ?_
  refine tV.go s1 en1 h1 fun q u μ2 F2 H2 am2 x2 s2 r2 en2 h2 => ?_
  exact ⟨F2, am2, μ2, p, q, _, s2, x2.rep r1, r2, h2⟩
theorem r_cmp (hG : X.K = G.K) (hu : X.A.units + 65 < cLine) {op : COp} (hm : nset b = true) (ha : PE X a (tV G eh W P cs ca)) (hb : PE X b (tV G eh W P cs cb)) : PE X (.Compare a [pyC op] [b] pos) (tV G eh W P cs (.cmp op ca cb)) := by
  refine PE.imp (pe_cmpR (op_v_cmp (eh := eh) hG hu op) ha hb (no_marks hm)) fun σ H Q q => ?_
  obtain ⟨F, am, env, μ, s, en, h⟩ := tV.out q
  rw [ev] at h
  refine tV.go s en h fun p v μ1 F1 H1 am1 x1 s1 r1 en1 h1 => ?_
  refine tV.go s1 en1 h1 fun q u μ2 F2 H2 am2 x2 s2 r2 en2 h2 => ?_
  exact ⟨F2, am2, μ2, p, q, _, s2, x2.rep r1, r2, h2⟩
/-- a comparison tells a bool, or nothing; the store stays -/
theorem opCmp_bl {op : COp} {p q : PV} {μ : Sto} : opCmp op p q μ = .bad ∨ ∃ k, opCmp op p q μ = .ok (.bl k) μ := by
  cases op <;> simp only [opCmp]
  · unfold opEq; split
    · exact .inr ⟨_, rfl⟩
    · exact .inl rfl
  · unfold opEq; split
    · exact .inr ⟨_, rfl⟩
    · exact .inl rfl
  · unfold opLt; split <;> first | exact .inr ⟨_, rfl⟩ | exact .inl rfl
  · unfold opLe; split <;> first | exact .inr ⟨_, rfl⟩ | exact .inl rfl
  · unfold opGt; split <;> first | exact .inr ⟨_, rfl⟩ | exact .inl rfl
  · unfold opGe; split <;> first | exact .inr ⟨_, rfl⟩ | exact .inl rfl
  · unfold opIs; split <;> first | exact .inr ⟨_, rfl⟩ | exact .inl rfl
  · unfold opIs; split <;> first | exact .inr ⟨_, rfl⟩ | exact .inl rfl
  · unfold opIn; split <;> first | exact .inr ⟨_, rfl⟩ | exact .inl rfl
  · unfold opIn; split <;> first | exact .inr ⟨_, rfl⟩ | exact .inl rfl
theorem t_cmp (hG : X.K = G.K) (hu : X.A.units + 65 < cLine) {op : COp} (hm : nset b = true) (ha : PE X a (tV G eh W P cs ca)) (hb : PE X b (tV G eh W P cs cb)) : PT X (.Compare a [pyC op] [b] pos) (tVt G eh W P cs (.cmp op ca cb)) := by
  refine PT.imp (pt_cmpR (op_v_cmp (eh := eh) hG hu op) ha hb (no_marks hm)) fun σ H Q q => ?_
  obtain ⟨F, am, env, μ, s, en, h⟩ := tVt.out q
  rw [evT, ev, R.bind_assoc] at h
  refine tV.go s en h fun p v μ1 F1 H1 am1 x1 s1 r1 en1 h1 => ?_
  rw [R.bind_assoc] at h1
  refine tV.go s1 en1 h1 fun q u μ2 F2 H2 am2 x2 s2 r2 en2 h2 => ?_
  rcases opCmp_bl (op := op) (p := p) (q := q) (μ := μ2) with e | ⟨k, e⟩
  · rw [e] at h2; exact h2.elim
  · rw [e] at h2
    refine ⟨F2, am2, μ2, p, q, wish G W σ, s2, x2.rep r1, r2, ?_⟩
    rw [e]
    intro F3 H3 am3 x3 s3 v rv
    cases rv
    exact ⟨k, rfl, h2 F3 H3 am3 x3 s3⟩
theorem no_marks2 {op op' : CmpOp} {b c : Expr} (h : nset c = true) : lastMarks [op, op'] [b, c] = false := by
  show behindInMarks op' c = false
  exact no_marks h
theorem r_chain (hG : X.K = G.K) (hu : X.A.units + 65 < cLine) {c : Expr} {op op' : COp} (hm : nset c = true) (ha : PE X a (tV G eh W P cs ca)) (hb : PE X b (tV G eh W P cs cb)) (hc : PE X c (tV G eh W P cs cc)) :
    PE X (.Compare a [pyC op, pyC op'] [b, c] pos) (tV G eh W P cs (.chain op op' ca cb cc)) := by
  refine PE.imp (pe_chain (op_v_cmp (eh := eh) hG hu op) (op_v_cmp (eh := eh) hG hu op') ha hb hc (no_marks2 hm)) fun σ H Q q => ?_
  obtain ⟨F, am, env, μ, s, en, h⟩ := tV.out q
  rw [ev] at h
  refine tV.go s en h fun p v μ1 F1 H1 am1 x1 s1 r1 en1 h1 => ?_
  refine tV.go s1 en1 h1 fun q u μ2 F2 H2 am2 x2 s2 r2 en2 h2 => ?_
  refine ⟨F2, am2, μ2, p, q, wish G W σ, s2, x2.rep r1, r2, ?_⟩
  refine h2.bind.mono fun z μ3 F3 H3 am3 x3 s3 h3 v rv => ?_
  cases z <;> try exact h3.elim
  rename_i k
  cases rv
  refine ⟨k, rfl, ?_⟩
  cases k with
  | false =>
    rw [if_neg (by decide)]
    exact h3.val s3 (.bl _)
  | true =>
    rw [if_pos rfl]
    refine tV.go s3 (x3.en en2) h3 fun w u' μ4 F4 H4 am4 x4 s4 r4 en4 h4 => ?_
    exact ⟨F4, am4, μ4, q, w, _, s4, (x3.trans x4).rep r2, r4, h4⟩
theorem t_chain (hG : X.K = G.K) (hu : X.A.units + 65 < cLine) {c : Expr} {op op' : COp} (hm : nset c = true) (ha : PE X a (tV G eh W P cs ca)) (hb : PE X b (tV G eh W P cs cb)) (hc : PE X c (tV G eh W P cs cc)) :
    PT X (.Compare a [pyC op, pyC op'] [b, c] pos) (tVt G eh W P cs (.chain op op' ca cb cc)) := by
  refine PT.imp (pt_chain (op_v_cmp (eh := eh) hG hu op) (op_v_cmp (eh := eh) hG hu op') ha hb hc (no_marks2 hm)) fun σ H Q q => ?_
  obtain ⟨F, am, env, μ, s, en, h⟩ := tVt.out q
  rw [evT, ev, R.bind_assoc] at h
  refine tV.go s en h fun p v μ1 F1 H1 am1 x1 s1 r1 en1 h1 => ?_
  rw [R.bind_assoc] at h1
  refine tV.go s1 en1 h1 fun q u μ2 F2 H2 am2 x2 s2 r2 en2 h2 => ?_
  rw [R.bind_assoc] at h2
  refine ⟨F2, am2, μ2, p, q, wish G W σ, s2, x2.rep r1, r2, ?_⟩
  refine h2.bind.mono fun z μ3 F3 H3 am3 x3 s3 h3 v rv => ?_
  cases z <;> try exact h3.elim
  rename_i k
  cases rv
  refine ⟨k, rfl, ?_⟩
  cases k with
  | false =>
    rw [if_neg (by decide)]
    exact ⟨false, rfl, h3.ok_now s3⟩
  | true =>
    rw [if_pos rfl]
    have h3 : WpR G eh F3 H3 am3 (((ev P cs cc env μ3).bind fun s μ => opCmp op' q s μ).bind fun p μ => match truth μ p with | some b => R.ok b μ | none => .bad) _ _ := h3
    rw [R.bind_assoc] at h3
    refine tV.go s3 (x3.en en2) h3 fun w u' μ4 F4 H4 am4 x4 s4 r4 en4 h4 => ?_
    rcases opCmp_bl (op := op') (p := q) (q := w) (μ := μ4) with e | ⟨k, e⟩
    · rw [e] at h4; exact h4.elim
    · rw [e] at h4
      refine ⟨F4, am4, μ4, q, w, wish G W σ, s4, (x3.trans x4).rep r2, r4, ?_⟩
      rw [e]
      intro F5 H5 am5 x5 s5 v rv
      cases rv
      exact ⟨k, rfl, h4 F5 H5 am5 x5 s5⟩
/-- the value's truth as a test -/
theorem t_plain (hG : X.K = G.K) (hp : plainTest a = true) (ha : PE X a (tV G eh W P cs ca)) : PT X a (tVt G eh W P cs ca) := by
  refine PT.imp (pt_truth ha (plain_true hp)) fun σ H Q q => ?_
  obtain ⟨F, am, env, μ, s, en, h⟩ := tVt.out q
  rw [evT] at h
  refine tV.go s en h fun p v μ1 F1 H1 am1 x1 s1 r1 en1 h1 => ?_
  split at h1
  · rename_i k e
    exact ⟨k, by rw [hG]; exact truV s1 r1 e, h1.ok_now s1⟩
  · exact h1.elim
theorem truth_bl {μ : Sto} {k : Bool} : truth μ (.bl k) = some k := rfl
theorem evT_not (env : EnvP) (μ : Sto) : evT P cs (.not ca) env μ = (evT P cs ca env μ).bind fun k μ => .ok (!k) μ := by
  rw [evT, ev, evT, R.bind_assoc, R.bind_assoc]
  congr 1
  funext p μ
  cases truth μ p <;> rfl
theorem t_not (ha : PT X a (tVt G eh W P cs ca)) : PT X (.UnaryOp .Not a pos) (tVt G eh W P cs (.not ca)) := by
  refine PT.imp (pt_not ha) fun σ H Q q => ?_
  obtain ⟨F, am, env, μ, s, en, h⟩ := tVt.out q
  rw [evT_not] at h
  refine tVt.go s en h fun p μ1 F1 H1 am1 x1 s1 en1 h1 => h1.ok_now s1
theorem r_not (hG : X.K = G.K) (ha : PE X a (tV G eh W P cs ca)) : PE X (.UnaryOp .Not a pos) (tV G eh W P cs (.not ca)) := by
  refine PE.imp (pe_notT ha) fun σ H Q q => ?_
  obtain ⟨F, am, env, μ, s, en, h⟩ := tV.out q
  rw [ev] at h
  refine tV.go s en h fun p v μ1 F1 H1 am1 x1 s1 r1 en1 h1 => ?_
  split at h1
  · rename_i k e
    exact ⟨k, by rw [hG]; exact truV s1 r1 e, h1.val s1 (.bl _)⟩
  · exact h1.elim
theorem r_and (hG : X.K = G.K) {r : List Expr} (ha : PE X a (tV G eh W P cs ca)) (hb : PE X (.BoolOp .And (b :: r) pos) (tV G eh W P cs cb)) : PE X (.BoolOp .And (a :: b :: r) pos) (tV G eh W P cs (.and ca cb)) := by
  refine PE.imp (pe_andT ha hb) fun σ H Q q => ?_
  obtain ⟨F, am, env, μ, s, en, h⟩ := tV.out q
  rw [ev] at h
  refine tV.go s en h fun p v μ1 F1 H1 am1 x1 s1 r1 en1 h1 => ?_
  split at h1
  · rename_i e
    exact ⟨true, by rw [hG]; exact truV s1 r1 e, by rw [if_pos rfl]; exact ⟨F1, am1, env, μ1, s1, en1, h1⟩⟩
  · rename_i e
    exact ⟨false, by rw [hG]; exact truV s1 r1 e, by rw [if_neg (by decide)]; exact h1.val s1 r1⟩
  · exact h1.elim
theorem r_or (hG : X.K = G.K) {r : List Expr} (ha : PE X a (tV G eh W P cs ca)) (hb : PE X (.BoolOp .Or (b :: r) pos) (tV G eh W P cs cb)) : PE X (.BoolOp .Or (a :: b :: r) pos) (tV G eh W P cs (.or ca cb)) := by
  refine PE.imp (pe_orT ha hb) fun σ H Q q => ?_
  obtain ⟨F, am, env, μ, s, en, h⟩ := tV.out q
  rw [ev] at h
  refine tV.go s en h fun p v μ1 F1 H1 am1 x1 s1 r1 en1 h1 => ?_
  split at h1
  · rename_i e
    exact ⟨true, by rw [hG]; exact truV s1 r1 e, by rw [if_pos rfl]; exact h1.val s1 r1⟩
  · rename_i e
    exact ⟨false, by rw [hG]; exact truV s1 r1 e, by rw [if_neg (by decide)]; exact ⟨F1, am1, env, μ1, s1, en1, h1⟩⟩
  · exact h1.elim
theorem evT_and (env : EnvP) (μ : Sto) : evT P cs (.and ca cb) env μ = (evT P cs ca env μ).bind fun k μ => if k = true then evT P cs cb env μ else .ok false μ := by
  rw [evT, ev, evT, R.bind_assoc, R.bind_assoc]
  congr 1
  funext p μ
  cases e : truth μ p with
  | none => rfl
  | some k => cases k <;> simp [evT, e]
theorem evT_or (env : EnvP) (μ : Sto) : evT P cs (.or ca cb) env μ = (evT P cs ca env μ).bind fun k μ => if k = true then .ok true μ else evT P cs cb env μ := by
  rw [evT, ev, evT, R.bind_assoc, R.bind_assoc]
  congr 1
  funext p μ
  cases e : truth μ p with
  | none => rfl
  | some k => cases k <;> simp [evT, e]
theorem w_and {r : List Expr} (ha : PT X a (tVt G eh W P cs ca)) (hb : PW X (.BoolOp .And (b :: r) pos) (tVt G eh W P cs cb)) : PW X (.BoolOp .And (a :: b :: r) pos) (tVt G eh W P cs (.and ca cb)) := by
  refine ⟨fun whole pins s σ H Q I q => (pw_and ha hb).run whole pins s σ H Q I ?_⟩
  obtain ⟨F, am, env, μ, s, en, h⟩ := tVt.out q
  rw [evT_and] at h
  refine tVt.go s en h fun p μ1 F1 H1 am1 x1 s1 en1 h1 => ?_
  cases p with
  | true => rw [if_pos rfl] at h1 ⊢; exact ⟨F1, am1, env, μ1, s1, en1, h1⟩
  | false => rw [if_neg (by decide)] at h1 ⊢; exact h1.ok_now s1
theorem w_or {r : List Expr} (ha : PT X a (tVt G eh W P cs ca)) (hb : PW X (.BoolOp .Or (b :: r) pos) (tVt G eh W P cs cb)) : PW X (.BoolOp .Or (a :: b :: r) pos) (tVt G eh W P cs (.or ca cb)) := by
  refine ⟨fun whole pins s σ H Q I q => (pw_or ha hb).run whole pins s σ H Q I ?_⟩
  obtain ⟨F, am, env, μ, s, en, h⟩ := tVt.out q
  rw [evT_or] at h
  refine tVt.go s en h fun p μ1 F1 H1 am1 x1 s1 en1 h1 => ?_
  cases p with
  | true => rw [if_pos rfl] at h1 ⊢; exact h1.ok_now s1
  | false => rw [if_neg (by decide)] at h1 ⊢; exact ⟨F1, am1, env, μ1, s1, en1, h1⟩
theorem evT_ite (env : EnvP) (μ : Sto) : ev P cs (.ite cc ca cb) env μ = (evT P cs cc env μ).bind fun k μ => if k = true then ev P cs ca env μ else ev P cs cb env μ := by
  rw [ev, evT, R.bind_assoc]
  congr 1
  funext p μ
  cases e : truth μ p with
  | none => rfl
  | some k => cases k <;> simp [e]
theorem r_ite {c : Expr} (hc : PT X c (tVt G eh W P cs cc)) (ha : PE X a (tV G eh W P cs ca)) (hb : PE X b (tV G eh W P cs cb)) : PE X (.IfExp c a b pos) (tV G eh W P cs (.ite cc ca cb)) := by
  refine PE.imp (pe_ifExp hc ha hb) fun σ H Q q => ?_
  obtain ⟨F, am, env, μ, s, en, h⟩ := tV.out q
  rw [evT_ite] at h
  refine tVt.go s en h fun p μ1 F1 H1 am1 x1 s1 en1 h1 => ?_
  cases p with
  | true => rw [if_pos rfl] at h1 ⊢; exact ⟨F1, am1, env, μ1, s1, en1, h1⟩
  | false => rw [if_neg (by decide)] at h1 ⊢; exact ⟨F1, am1, env, μ1, s1, en1, h1⟩
/-- a built-in of one argument -/
theorem r_b1 {op : B1} {id : String} {x : Str} {p : Pos} (hc : CallR X (.builtin id) (vL1 G eh (opB1 op))) (hg : Gl X x) (hm : X.mg x = none) (hv : bootBuiltins x = some (.builtin id)) (hn : x ≠ "__name__") (hd : (x == ("__debug__" : Str)) = false)
    (h1 : nst a = true) (ha : PE X a (tV G eh W P cs ca)) : PE X (.Call (.Name x p) [a] [] pos) (tV G eh W P cs (.b1 op ca)) := by
  refine PE.imp (pe_callB hc hg hm hv (pa_cons ha pa_nil (star_cons h1)) hn hd (star_cons h1) rfl) fun σ H Q q => ?_
  obtain ⟨F, am, env, μ, s, en, h⟩ := tV.out q
  rw [ev] at h
  refine tV.go s en h fun p v μ1 F1 H1 am1 x1 s1 r1 en1 h1 => ?_
  exact ⟨v, rfl, F1, am1, μ1, p, _, s1, r1, h1⟩
theorem r_b1T {op : B1} {id : String} {x : Str} {p : Pos} (hc : CallR X (.type id) (vL1 G eh (opB1 op))) (hg : Gl X x) (hm : X.mg x = none) (hv : bootBuiltins x = some (.type id)) (hn : x ≠ "__name__") (hd : (x == ("__debug__" : Str)) = false)
    (h1 : nst a = true) (ha : PE X a (tV G eh W P cs ca)) : PE X (.Call (.Name x p) [a] [] pos) (tV G eh W P cs (.b1 op ca)) := by
  refine PE.imp (pe_callTy hc hg hm hv (pa_cons ha pa_nil (star_cons h1)) hn hd (star_cons h1) rfl) fun σ H Q q => ?_
  obtain ⟨F, am, env, μ, s, en, h⟩ := tV.out q
  rw [ev] at h
  refine tV.go s en h fun p v μ1 F1 H1 am1 x1 s1 r1 en1 h1 => ?_
  exact ⟨v, rfl, F1, am1, μ1, p, _, s1, r1, h1⟩
theorem r_neg (ha : PE X a (tV G eh W P cs ca)) : PE X (.UnaryOp .USub a pos) (tV G eh W P cs (.b1 .neg ca)) := by
  refine PE.imp (pe_un (u_neg (G := G) (eh := eh)) ha) fun σ H Q q => ?_
  obtain ⟨F, am, env, μ, s, en, h⟩ := tV.out q
  rw [ev] at h
  refine tV.go s en h fun p v μ1 F1 H1 am1 x1 s1 r1 en1 h1 => ?_
  exact ⟨F1, am1, μ1, p, _, s1, r1, h1⟩
theorem r_b2 {op : B2} {id : String} {x : Str} {p : Pos} (hc : CallR X (.builtin id) (vL2 G eh (opB2 op))) (hg : Gl X x) (hm : X.mg x = none) (hv : bootBuiltins x = some (.builtin id)) (hn : x ≠ "__name__") (hd : (x == ("__debug__" : Str)) = false)
    (h1 : nst a = true) (h2 : nst b = true) (ha : PE X a (tV G eh W P cs ca)) (hb : PE X b (tV G eh W P cs cb)) : PE X (.Call (.Name x p) [a, b] [] pos) (tV G eh W P cs (.b2 op ca cb)) := by
  refine PE.imp (pe_callB hc hg hm hv (pa_cons ha (pa_cons hb pa_nil (star_cons h2)) (star_cons h1)) hn hd (star_cons h1) (star_none pos (by simpa using h2))) fun σ H Q q => ?_
  obtain ⟨F, am, env, μ, s, en, h⟩ := tV.out q
  rw [ev] at h
  refine tV.go s en h fun p v μ1 F1 H1 am1 x1 s1 r1 en1 h1 => ?_
  refine tV.go s1 en1 h1 fun q u μ2 F2 H2 am2 x2 s2 r2 en2 h2 => ?_
  exact ⟨v, u, rfl, F2, am2, μ2, p, q, _, s2, x2.rep r1, r2, h2⟩
theorem r_idx (hG : X.K = G.K) (hu : X.A.units + 65 < cLine) (h1 : nslice b = true) (ha : PE X a (tV G eh W P cs ca)) (hb : PE X b (tV G eh W P cs cb)) : PE X (.Subscript a b pos) (tV G eh W P cs (.idx ca cb)) := by
  refine PE.imp (pe_ix (ix_v (eh := eh) hG (by omega)) ha hb (plain_ix h1)) fun σ H Q q => ?_
  obtain ⟨F, am, env, μ, s, en, h⟩ := tV.out q
  rw [ev] at h
  refine tV.go s en h fun p v μ1 F1 H1 am1 x1 s1 r1 en1 h1 => ?_
  refine tV.go s1 en1 h1 fun q u μ2 F2 H2 am2 x2 s2 r2 en2 h2 => ?_
  exact ⟨F2, am2, μ2, p, q, _, s2, x2.rep r1, r2, h2⟩
end
end NR

/-! NR3b: isinstance, calls, methods, slices, sources, loops, comprehensions. -/
namespace NR
open PySem L2
open PySem.Spec PyProof.Rows
section
variable {X : Cx} {G : Gi} {eh : List (Addr × Nat)} {W : WX} {P : Prog} {cs : CallS}
variable {F H : Hp} {am : List Addr} {σ : L2.St} {env : EnvP} {μ : Sto}
variable {a b : Expr} {ca cb cc : CE} {pos : Pos}

/-! ### isinstance -/
theorem r_isi1 (hG : X.K = G.K) {p p2 : Pos} {T : Str} {k : Nat} (hk : k < 5) (hg : Gl X "isinstance") (hm : X.mg "isinstance" = none) (hg2 : Gl X T) (hm2 : X.mg T = none) (hv2 : bootBuiltins T = some (.type (kName k))) (hn2 : T ≠ "__name__") (hd2 : (T == ("__debug__" : Str)) = false)
    (h1 : nst a = true) (ha : PE X a (tV G eh W P cs ca)) : PE X (.Call (.Name "isinstance" p) [a, .Name T p2] [] pos) (tV G eh W P cs (.isi ca [k])) := by
  refine PE.imp (pe_callB call_isi hg hm boot_isinstance (pa_cons ha (pa_cons (pe_bltn (v := .ty (kName k)) hg2 hm2 hv2 rfl hn2 hd2) pa_nil) (star_cons h1)) (by decide) (by decide) (star_cons h1) rfl) fun σ H Q q => ?_
  obtain ⟨F, am, env, μ, s, en, h⟩ := tV.out q
  rw [ev] at h
  refine tV.go s en h fun p v μ1 F1 H1 am1 x1 s1 r1 en1 h1 => ?_
  split at h1
  · rename_i hp
    have e : isKind P.sup (see μ1 p) k = (([k] : List Nat).any (isKind P.sup (see μ1 p))) := by simp
    refine ⟨v, .ty (kName k), _, _, _, rfl, .ty _, by rw [hG]; exact rep_ty s1 r1 hp, kit_ty (kit_at (sup := P.sup) hp hk), ?_⟩
    rw [e]
    exact h1.val s1 (.bl _)
  · exact h1.elim
/-- the names of the kinds -/
def kindNames : List Nat → List Expr → Bool
  | [], [] => true
  | k :: ks, .Name T _ :: es => decide (k < 5) && (T == Str.ofString (kName k)) && kindNames ks es
  | _, _ => false
theorem pa_types : ∀ {ks : List Nat} {es : List Expr} (hT : ∀ k ∈ ks, Gl X (Str.ofString (kName k)) ∧ X.mg (Str.ofString (kName k)) = none ∧ bootBuiltins (Str.ofString (kName k)) = some (.type (kName k)) ∧ (Str.ofString (kName k)) ≠ "__name__" ∧ ((Str.ofString (kName k)) == ("__debug__" : Str)) = false), kindNames ks es = true → PA X es (fun _ H Q => Q (ks.map fun k => .ty (kName k)) H)
  | [], [], _, _ => PA.imp pa_nil fun _ _ _ q => q
  | k :: ks, .Name T p :: es, hT, h => by
    simp only [kindNames, Bool.and_eq_true, decide_eq_true_eq, beq_iff_eq] at h
    obtain ⟨⟨h1, rfl⟩, h3⟩ := h
    obtain ⟨g1, g2, g3, g4, g5⟩ := hT k List.mem_cons_self
    exact PA.imp (pa_cons (pe_bltn (v := .ty (kName k)) g1 g2 g3 rfl g4 g5) (pa_types (fun j hj => hT j (List.mem_cons_of_mem _ hj)) h3) rfl) fun _ _ _ q => q
theorem clsV_types : ∀ ks : List Nat, Paired ClsV (ks.map fun k => V.ty (kName k)) (ks.map fun k => Value.type (kName k))
  | [] => .nil
  | k :: ks => .cons (.ty _) (clsV_types ks)
theorem kindNames_lt : ∀ {ks : List Nat} {es : List Expr}, kindNames ks es = true → ks.all (· < 5) = true
  | [], _, _ => rfl
  | k :: ks, [], h => by simp [kindNames] at h
  | k :: ks, e :: es, h => by
    cases e <;> first | (simp [kindNames] at h; done) | skip
    simp only [kindNames, Bool.and_eq_true, decide_eq_true_eq] at h
    simp only [List.all_cons, Bool.and_eq_true, decide_eq_true_eq]
    exact ⟨h.1.1, kindNames_lt h.2⟩
theorem r_isiT (hG : X.K = G.K) {p p2 : Pos} {es : List Expr} {kk : Nat} {ks : List Nat} (hks : kindNames ks es = true) (hl : ks.length < 100) (hg : Gl X "isinstance") (hm : X.mg "isinstance" = none)
    (hT : ∀ k ∈ ks, Gl X (Str.ofString (kName k)) ∧ X.mg (Str.ofString (kName k)) = none ∧ bootBuiltins (Str.ofString (kName k)) = some (.type (kName k)) ∧ (Str.ofString (kName k)) ≠ "__name__" ∧ ((Str.ofString (kName k)) == ("__debug__" : Str)) = false)
    (h1 : nst a = true) (ha : PE X a (tV G eh W P cs ca)) : PE X (.Call (.Name "isinstance" p) [a, .Tuple es kk p2] [] pos) (tV G eh W P cs (.isi ca ks)) := by
  refine PE.imp (pe_callB call_isiT hg hm boot_isinstance (pa_cons ha (pa_cons (pe_tup (pa_types hT hks)) pa_nil) (star_cons h1)) (by decide) (by decide) (star_cons h1) rfl) fun σ H Q q => ?_
  obtain ⟨F, am, env, μ, s, en, h⟩ := tV.out q
  rw [ev] at h
  refine tV.go s en h fun p v μ1 F1 H1 am1 x1 s1 r1 en1 h1 => ?_
  split at h1
  · rename_i hp
    refine ⟨by rw [List.length_map]; exact (show ks.length ≤ 1000 by omega) |> fun h => Nat.le_of_lt (small1000 h), fun q hq => ?_⟩
    obtain ⟨s2, x2⟩ := s1.new (o := .tup (ks.map fun k => .ty (kName k))) hq
    refine ⟨v, q, _, _, _, _, rfl, upd_same, clsV_types ks, ?_, kitAny_of (sup := P.sup) hp (kindNames_lt hks), ?_⟩
    · rw [hG]
      exact rep_ty s2 (x2.rep r1) hp
    · exact h1 _ _ _ x2 s2 _ (.bl _)
  · exact h1.elim

/-! ### slices -/
def tO (G : Gi) (eh : List (Addr × Nat)) (W : WX) (P : Prog) (cs : CallS) (c : Option CE) : TO := fun σ H Q => ∃ F am env μ, StOk G eh F H am μ ∧ EnvOk G eh F am σ env ∧
  WpR G eh F H am (evo P cs c env μ) (fun l _ _ H' _ => Q l H') (wish G W σ)
theorem o_none : PO X none (tO G eh W P cs none) := by
  refine ⟨fun pins s σ H Q I q => po_none.run pins s σ H Q I ?_⟩
  obtain ⟨F, am, env, μ, s, en, h⟩ := q
  rw [evo] at h
  exact h.ok_now s
theorem o_some (ha : PE X a (tV G eh W P cs ca)) : PO X (some a) (tO G eh W P cs (some ca)) := by
  refine ⟨fun pins s σ H Q I q => (po_some ha).run pins s σ H Q I ?_⟩
  obtain ⟨F, am, env, μ, s, en, h⟩ := q
  rw [evo] at h
  refine tV.go s en h fun p v μ1 F1 H1 am1 x1 s1 r1 en1 h1 => ?_
  cases p <;> try exact h1.elim
  cases r1
  exact ⟨_, rfl, h1.ok_now s1⟩
theorem tO.go {c : Option CE} {k : Option Int → Sto → R PV} {okk : PV → Sto → Hp → Hp → List Addr → Prop} {Q : Option Int → Hp → Prop} (s : StOk G eh F H am μ) (en : EnvOk G eh F am σ env) (h : WpR G eh F H am ((evo P cs c env μ).bind k) okk (wish G W σ))
    (hk : ∀ l μ1 F1 H1 am1, Ext F H am F1 H1 am1 → StOk G eh F1 H1 am1 μ1 → EnvOk G eh F1 am1 σ env → WpR G eh F1 H1 am1 (k l μ1) okk (wish G W σ) → Q l H1) : tO G eh W P cs c σ H Q :=
  ⟨F, am, env, μ, s, en, h.bind.mono fun p μ1 F1 H1 am1 x s1 h1 => hk p μ1 F1 H1 am1 x s1 (x.en en) h1⟩
theorem r_sl (hG : X.K = G.K) {lo hi : Option Expr} {cl ch : Option CE} {p2 : Pos} (ha : PE X a (tV G eh W P cs ca)) (hl : PO X lo (tO G eh W P cs cl)) (hh : PO X hi (tO G eh W P cs ch)) : PE X (.Subscript a (.Slice lo hi none p2) pos) (tV G eh W P cs (.sl ca cl ch)) := by
  refine PE.imp (pe_slice (sl_v (eh := eh) hG) ha hl hh) fun σ H Q q => ?_
  obtain ⟨F, am, env, μ, s, en, h⟩ := tV.out q
  rw [ev] at h
  refine tV.go s en h fun p v μ1 F1 H1 am1 x1 s1 r1 en1 h1 => ?_
  refine tO.go s1 en1 h1 fun l μ2 F2 H2 am2 x2 s2 en2 h2 => ?_
  refine tO.go s2 en2 h2 fun u μ3 F3 H3 am3 x3 s3 en3 h3 => ?_
  exact ⟨F3, am3, μ3, p, _, s3, (x2.trans x3).rep r1, h3⟩

/-! ### methods of built-in types -/
def recvT : MOp → String
  | .append => "list" | .extend => "list" | .pop => "list" | .remove => "list" | .index => "list" | .count => "list" | .get => "dict" | _ => "str"
theorem recv_ty (st : StOk G eh F H am μ) {op : MOp} {p : PV} {v : V} (r : Rep G eh F am p v) (h : recv op p μ = true) : tyV G.K (recvT op) v H := by
  have hl : isLstP (see μ p) = true → tyV G.K "list" v H := by
    intro h
    unfold isLstP at h
    split at h
    · rename_i xs e
      obtain ⟨a, ys, rfl, h1, _⟩ := r.seeL st e
      exact .inl ⟨rfl, ys, SqL.of h1⟩
    · cases h
  have hs : isStrP p = true → tyV G.K "str" v H := by
    intro h
    cases p <;> first | (cases h; done) | skip
    cases r
    rfl
  have hd : isDictP μ p = true → tyV G.K "dict" v H := by
    intro h
    unfold isDictP at h
    split at h
    · rename_i n
      split at h
      · rename_i kvs e
        obtain ⟨a, ha, es, h1, _⟩ := st.cellAt e
        cases r with
        | loc ha' =>
          rw [ha] at ha'; cases ha'
          exact .inr (.inr (.inl ⟨rfl, .inl ⟨_, h1⟩⟩))
      · cases h
    · cases h
  cases op with
  | get => exact hd h
  | append => exact hl h
  | extend => exact hl h
  | pop => exact hl h
  | remove => exact hl h
  | index => exact hl h
  | count => exact hl h
  | _ => exact hs h
theorem r_m (hG : X.K = G.K) {op : MOp} {o e : Expr} {es : List Expr} {co : CE} {cl : List CE} {name : Str} {id : String} {apos cpos : Pos} (pa : PlainAttrs (recvT op)) (slot : Slot (recvT op) name id) (hty : typeOf (.builtin id) = pure (.type "method_descriptor"))
    (hm : MtR X id (vM G eh (opM op))) (hs : nsup o = true) (h1 : nst e = true) (h2 : es.all nst = true) (h3 : es.length < 28) (hline : (apos.endLine == cpos.line) = true)
    (ho : PE X o (tV G eh W P cs co)) (ha : PA X (e :: es) (tVs G eh W P cs cl)) : PE X (.Call (.Attribute o name apos) (e :: es) [] cpos) (tV G eh W P cs (.m op co cl)) := by
  refine PE.imp (pe_bm pa slot hty hm ho ha (attr_base hs) (star_few h1 h2 h3) hline (star_cons h1) (star_none cpos h2)) fun σ H Q q => ?_
  obtain ⟨F, am, env, μ, s, en, h⟩ := tV.out q
  rw [ev] at h
  refine tV.go s en h fun p v μ1 F1 H1 am1 x1 s1 r1 en1 h1 => ?_
  split at h1
  · rename_i hr
    refine ⟨by rw [hG]; exact recv_ty s1 r1 hr, ?_⟩
    refine tVs.go s1 en1 h1 fun q u μ2 F2 H2 am2 x2 s2 r2 en2 h2 => ?_
    exact ⟨F2, am2, μ2, p, q, _, s2, x2.rep r1, r2, h2⟩
  · exact h1.elim
theorem r_m0 (hG : X.K = G.K) {op : MOp} {o : Expr} {co : CE} {name : Str} {id : String} {apos cpos : Pos} (pa : PlainAttrs (recvT op)) (slot : Slot (recvT op) name id) (hty : typeOf (.builtin id) = pure (.type "method_descriptor"))
    (hm : MtR X id (vM G eh (opM op))) (hs : nsup o = true) (hline : (apos.endLine == cpos.line) = true)
    (ho : PE X o (tV G eh W P cs co)) : PE X (.Call (.Attribute o name apos) [] [] cpos) (tV G eh W P cs (.m op co [])) := by
  refine PE.imp (pe_bm0 pa slot hty hm ho (attr_base hs) hline) fun σ H Q q => ?_
  obtain ⟨F, am, env, μ, s, en, h⟩ := tV.out q
  rw [ev] at h
  refine tV.go s en h fun p v μ1 F1 H1 am1 x1 s1 r1 en1 h1 => ?_
  split at h1
  · rename_i hr
    refine ⟨by rw [hG]; exact recv_ty s1 r1 hr, ?_⟩
    rw [evs] at h1
    exact ⟨F1, am1, μ1, p, [], _, s1, r1, .nil, h1⟩
  · exact h1.elim

/-! ### calls of defs -/
/-- what a def promises, by the evaluator -/
def spOf (G : Gi) (cs : CallS) (f : Nat) : Sp := fun vs H Q E => ∃ eh F am μ ps, StOk G eh F H am μ ∧ RepL G eh F am ps vs ∧
  WpR G eh F H am (cs f ps μ) (fun p _ F' H' am' => ∀ v, Rep G eh F' am' p v → Q v H') (fun c H' => E (G.cv c) none H')
/-- the global x keeps the promise sp -/
def FnAt (X : Cx) (x : Str) (sp : Sp) : Prop := ∃ k f fd ps, Room k X.A ∧ X.mg x = some (.ref f) ∧ PySem.W.keepIn X.K (.ref f) = true ∧ Binds X.K fd ps [] ∧ FnOk X.prog X.w X.K X.mg X.base (L2.CX X.prog X.w) k f fd ps sp
theorem r_call {x : Str} {p : Pos} {e : Expr} {es : List Expr} {f : Nat} {cl : List CE} (tk : Takes X W) (hf : FnAt X x (spOf G cs f)) (hg : Gl X x) (hd : (x == ("__debug__" : Str)) = false) (h1 : nst e = true) (h2 : es.all nst = true)
    (ha : PA X (e :: es) (tVs G eh W P cs cl)) : PE X (.Call (.Name x p) (e :: es) [] pos) (tV G eh W P cs (.call f cl)) := by
  obtain ⟨k, a, fd, ps, hr, hm, hk, hb, hF⟩ := hf
  refine PE.imp (pe_callSD (E := WE W) hF hr hg hm hk hb .nil (passAt tk) ha hd (star_cons h1) (star_none pos h2)) fun σ H Q q => ?_
  obtain ⟨F, am, env, μ, s, en, h⟩ := tV.out q
  rw [ev] at h
  refine tVs.go s en h fun p v μ1 F1 H1 am1 x1 s1 r1 en1 h1 => ?_
  rw [List.append_nil]
  exact ⟨eh, F1, am1, μ1, p, s1, r1, h1⟩
theorem r_call0 {x : Str} {p : Pos} {f : Nat} (tk : Takes X W) (hf : FnAt X x (spOf G cs f)) (hg : Gl X x) (hd : (x == ("__debug__" : Str)) = false) : PE X (.Call (.Name x p) [] [] pos) (tV G eh W P cs (.call f [])) := by
  obtain ⟨k, a, fd, ps, hr, hm, hk, hb, hF⟩ := hf
  refine ⟨fun pins s σ H Q I q => ?_⟩
  refine wpAny_Call_Name_kw (ld_glob I hg hm ?_ hd)
  refine PySem.W.callWith_K0 I.kIn hk (run_fnSD (E := WE W) (us := []) hF hr hb .nil (passAt tk σ) I .nil ?_)
  obtain ⟨F, am, env, μ, st, en, h⟩ := tV.out q
  rw [ev, evs] at h
  exact ⟨eh, F, am, μ, [], st, .nil, h⟩
end
end NR

/-! NR3c: statements, targets, sources, loops, comprehensions. -/
namespace NR
open PySem L2
open PySem.Spec PyProof.Rows

/-! ### slots -/
section
variable {G : Gi} {eh : List (Addr × Nat)} {F F' H H' : Hp} {am am' : List Addr} {σ : L2.St} {env env' : EnvP} {μ : Sto}
theorem EnvOk.set {i : Nat} {p : PV} {v : V} (e : EnvOk G eh F am σ env) (r : Rep G eh F am p v) : EnvOk G eh F am (σ.set i (some v)) (env.set i (some p)) := by
  refine ⟨by rw [List.length_set, List.length_set]; exact e.len, fun j q h => ?_⟩
  by_cases hj : i = j
  · subst hj
    by_cases hl : i < env.length
    · rw [List.getElem?_set_self hl] at h
      cases h
      exact ⟨v, List.getElem?_set_self (by rw [e.len]; exact hl), r⟩
    · rw [List.getElem?_eq_none (by rw [List.length_set]; omega)] at h
      cases h
  · rw [List.getElem?_set_ne hj] at h ⊢
    exact e.at_ j q h
theorem EnvOk.drop {i : Nat} (e : EnvOk G eh F am σ env) : EnvOk G eh F am (σ.set i none) (env.set i none) := by
  refine ⟨by rw [List.length_set, List.length_set]; exact e.len, fun j q h => ?_⟩
  by_cases hj : i = j
  · subst hj
    by_cases hl : i < env.length
    · rw [List.getElem?_set_self hl] at h
      cases h
    · rw [List.getElem?_eq_none (by rw [List.length_set]; omega)] at h
      cases h
  · rw [List.getElem?_set_ne hj] at h ⊢
    exact e.at_ j q h
theorem EnvOk.wipe (e : EnvOk G eh F am σ env) : ∀ vs : List Nat, EnvOk G eh F am (L2.wipe σ vs) (wipeE env vs)
  | [] => e
  | v :: vs => (EnvOk.wipe e vs).drop
/-- later -/
theorem EnvOk.mono (e : EnvOk G eh F am σ env) (hf : Same F F') (ha : am <+: am') : EnvOk G eh F' am' σ env :=
  ⟨e.len, fun i p h => let ⟨v, e1, e2⟩ := e.at_ i p h; ⟨v, e1, Rep.mono hf ha p v e2⟩⟩

/-! ### targets -/
/-- a value stored by a pattern -/
def gP (G : Gi) (eh : List (Addr × Nat)) (p : Pat) : TG := fun v σ H Q => ∃ F am q env env', Same F H ∧ Rep G eh F am q v ∧ EnvOk G eh F am σ env ∧ setPat p q env = some env' ∧ ∀ σ', EnvOk G eh F am σ' env' → wipe σ' (patSlots p) = wipe σ (patSlots p) → Q σ' H
def gPs (G : Gi) (eh : List (Addr × Nat)) (ps : List Pat) : TGs := fun vs σ H Q => ∃ F am qs env env', Same F H ∧ RepL G eh F am qs vs ∧ EnvOk G eh F am σ env ∧ setPats ps qs env = some env' ∧ ∀ σ', EnvOk G eh F am σ' env' → wipe σ' (patsSlots ps) = wipe σ (patsSlots ps) → Q σ' H
theorem wipe_append (σ : L2.St) : ∀ xs ys : List Nat, wipe σ (xs ++ ys) = wipe (wipe σ ys) xs
  | [], _ => rfl
  | x :: xs, ys => by
    show (wipe σ (xs ++ ys)).set x none = (wipe (wipe σ ys) xs).set x none
    rw [wipe_append σ xs ys]
theorem wipe_set_comm (σ : L2.St) (x : Nat) : ∀ xs : List Nat, wipe (σ.set x none) xs = (wipe σ xs).set x none
  | [] => rfl
  | y :: ys => by
    show (wipe (σ.set x none) ys).set y none = ((wipe σ ys).set y none).set x none
    rw [wipe_set_comm σ x ys]
    by_cases h : x = y
    · subst h; rw [List.set_set]
    · rw [List.set_comm _ _ h]
theorem wipe_comm (σ : L2.St) : ∀ xs ys : List Nat, wipe (wipe σ xs) ys = wipe (wipe σ ys) xs
  | [], _ => rfl
  | x :: xs, ys => by
    show wipe ((wipe σ xs).set x none) ys = (wipe (wipe σ ys) xs).set x none
    rw [wipe_set_comm, wipe_comm σ xs ys]
end
section
variable {X : Cx} {G : Gi} {eh : List (Addr × Nat)} {pos : Pos}
theorem g_v {i : Nat} {x : Str} (hN : X.N.Nodup) (hi : X.N[i]? = some x) (hx : Loc X.env.scope x) (hf : X.fn x = true ∨ X.env.scope.names.lookup x = some .local) : PG X (.Name x pos) (gP G eh (.v i)) := by
  refine ⟨fun pins s σ H v u Q I r q => (pg_name hN hi hx hf).run pins s σ H v u Q I r ?_⟩
  obtain ⟨F, am, p, env, env', sf, rp, en, e, k⟩ := q
  cases e
  refine k _ (en.set rp) ?_
  show (σ.set i (some v)).set i none = σ.set i none
  rw [List.set_set]
theorem gs_nil : PGs X [] (gPs G eh []) := by
  refine ⟨fun pins s σ H vs us Q I r q => pgs_nil.run pins s σ H vs us Q I r ?_⟩
  obtain ⟨F, am, ps, env, env', sf, rp, en, e, k⟩ := q
  cases ps with
  | nil =>
    cases rp
    cases e
    exact ⟨rfl, k σ en rfl⟩
  | cons p ps => cases e
theorem assign_cons {e : Expr} {es : List Expr} {env : Env} (h : nst e = true) : assignEach (e :: es) env = (false, assign e env) :: assignEach es env := by
  cases e <;> first | rfl | (cases h; done)
theorem gs_cons {e : Expr} {es : List Expr} {p : Pat} {ps : List Pat} (hn : nst e = true) (h1 : PG X e (gP G eh p)) (h2 : PGs X es (gPs G eh ps)) : PGs X (e :: es) (gPs G eh (p :: ps)) := by
  refine ⟨fun pins s σ H vs us Q I r q => (pgs_cons h1 h2 (by rw [assign_cons hn]; rfl)).run pins s σ H vs us Q I r ?_⟩
  obtain ⟨F, am, qs, env, env', sf, rp, en, e, k⟩ := q
  cases qs with
  | nil => cases e
  | cons q qs =>
    cases rp with
    | cons r1 r2 =>
      rw [setPats] at e
      cases e1 : setPat p q env with
      | none => rw [e1] at e; cases e
      | some env1 =>
        rw [e1] at e
        refine ⟨_, _, rfl, F, am, q, env, env1, sf, r1, en, e1, fun σ1 en1 w1 => ?_⟩
        refine ⟨F, am, qs, env1, env', sf, r2, en1, e, fun σ2 en2 w2 => k σ2 en2 ?_⟩
        show wipe σ2 (patSlots p ++ patsSlots ps) = wipe σ (patSlots p ++ patsSlots ps)
        rw [wipe_append, wipe_append, w2, wipe_comm, w1, wipe_comm]
theorem assign_all : ∀ {es : List Expr} {env : Env}, es.all nst = true → assignEach es env = es.map fun e => (false, assign e env)
  | [], _, _ => rfl
  | e :: es, env, h => by
    simp only [List.all_cons, Bool.and_eq_true] at h
    rw [assign_cons h.1, assign_all h.2]; rfl
theorem setPats_len : ∀ {ps : List Pat} {qs : List PV} {env env' : EnvP}, setPats ps qs env = some env' → ps.length = qs.length
  | [], [], _, _, _ => rfl
  | [], _ :: _, _, _, h => by cases h
  | _ :: _, [], _, _, h => by cases h
  | p :: ps, q :: qs, env, env', h => by
    rw [setPats] at h
    cases e1 : setPat p q env with
    | none => rw [e1] at h; cases h
    | some env1 =>
      rw [e1] at h
      simp [setPats_len (show setPats ps qs env1 = some env' from h)]
theorem g_t (hG : X.K = G.K) (hc : X.calm = true) {es : List Expr} {ps : List Pat} {k : Nat} (hn : es.all nst = true) (hl : es.length = ps.length) (h : PGs X es (gPs G eh ps)) : PG X (.Tuple es k pos) (gP G eh (.t ps)) := by
  refine ⟨fun pins s σ H v u Q I r q => (pg_tup (n := ps.length) hc h ?_ ?_).run pins s σ H v u Q I r ?_⟩
  · rw [assign_all hn, List.length_map, hl]
  · rw [assign_all hn]
    rw [List.findIdx?_eq_none_iff]
    intro x hx
    obtain ⟨e, _, rfl⟩ := List.mem_map.mp hx
    rfl
  · obtain ⟨F, am, q, env, env', sf, rp, en, e, kk⟩ := q
    cases q <;> first | (cases e; done) | skip
    cases rp with
    | tup h1 h2 =>
      rw [setPat] at e
      exact ⟨_, _, rfl, by rw [hG]; exact SqT.same sf h1, by rw [← h2.length, ← setPats_len e], F, am, _, env, env', sf, h2, en, e, kk⟩
end

/-! ### statements -/
def WpS (G : Gi) (eh : List (Addr × Nat)) (F H : Hp) (am : List Addr) (r : RS) (D : Ends) (ex : EX) : Prop :=
  match r with
  | .nx env μ' => ∀ σ' F' H' am', Ext F H am F' H' am' → StOk G eh F' H' am' μ' → EnvOk G eh F' am' σ' env → D.nx σ' H'
  | .rt p μ' => ∀ F' H' am', Ext F H am F' H' am' → StOk G eh F' H' am' μ' → ∀ v, Rep G eh F' am' p v → D.rt v H'
  | .exn c env μ' => ∀ σ' F' H' am', Ext F H am F' H' am' → StOk G eh F' H' am' μ' → EnvOk G eh F' am' σ' env → ex σ' c H'
  | .bad => False
section
variable {α : Type} {G : Gi} {eh : List (Addr × Nat)} {F F1 H H1 : Hp} {am am1 : List Addr} {D : Ends} {ex : EX} {σ : L2.St} {env : EnvP} {μ : Sto}
theorem WpS.later {r : RS} (h : WpS G eh F H am r D ex) (x : Ext F H am F1 H1 am1) : WpS G eh F1 H1 am1 r D ex := by
  cases r with
  | bad => exact h
  | nx env μ => exact fun σ' F2 H2 am2 x2 s2 e2 => h σ' F2 H2 am2 (x.trans x2) s2 e2
  | rt p μ => exact fun F2 H2 am2 x2 s2 => h F2 H2 am2 (x.trans x2) s2
  | exn c env μ => exact fun σ' F2 H2 am2 x2 s2 e2 => h σ' F2 H2 am2 (x.trans x2) s2 e2
theorem WpS.bind {r : RS} {k : EnvP → Sto → RS} (h : WpS G eh F H am (r.andThen k) D ex) : WpS G eh F H am r { D with nx := fun σ' H' => ∃ F' am' env' μ', StOk G eh F' H' am' μ' ∧ EnvOk G eh F' am' σ' env' ∧ Ext F H am F' H' am' ∧ WpS G eh F' H' am' (k env' μ') D ex } ex := by
  cases r with
  | bad => exact h
  | nx env μ =>
    intro σ' F' H' am' x s e
    have h : WpS G eh F H am (k env μ) D ex := h
    exact ⟨F', am', env, μ, s, e, x, h.later x⟩
  | rt p μ => exact h
  | exn c env μ => exact h
/-- an expression, then the rest -/
theorem WpS.of {r : R α} {k : α → Sto → RS} (en : EnvOk G eh F am σ env) (h : WpS G eh F H am (RS.of env r k) D ex) : WpR G eh F H am r (fun a μ1 F1 H1 am1 => WpS G eh F1 H1 am1 (k a μ1) D ex) (ex σ) := by
  cases r with
  | bad => exact h
  | exn c μ => exact fun F1 H1 am1 x1 s1 => h σ F1 H1 am1 x1 s1 (x1.en en)
  | ok a μ1 =>
    intro F1 H1 am1 x1 s1
    exact WpS.later (show WpS G eh F H am (k a μ1) D ex from h) x1
end
/-- the reading of statements -/
def tS (G : Gi) (eh : List (Addr × Nat)) (W : WX) (r : EnvP → Sto → RS) : TS := fun D σ H => ∃ F am env μ, StOk G eh F H am μ ∧ EnvOk G eh F am σ env ∧ WpS G eh F H am (r env μ) D (wish G W)
section
variable {X : Cx} {G : Gi} {eh : List (Addr × Nat)} {W : WX} {P : Prog} {cs : CallS} {pos : Pos}
def tC1 (G : Gi) (eh : List (Addr × Nat)) (W : WX) (P : Prog) (cs : CallS) (c : CS) : TS := tS G eh W (fun env μ => NR.exec P cs c env μ)
def tCs (G : Gi) (eh : List (Addr × Nat)) (W : WX) (P : Prog) (cs : CallS) (c : List CS) : TS := tS G eh W (fun env μ => NR.execs P cs c env μ)
variable {F H : Hp} {am : List Addr} {σ : L2.St} {env : EnvP} {μ : Sto} {D : Ends}
theorem tC1.out {c : CS} (q : tC1 G eh W P cs c D σ H) : ∃ F am env μ, StOk G eh F H am μ ∧ EnvOk G eh F am σ env ∧ WpS G eh F H am (NR.exec P cs c env μ) D (wish G W) := q
theorem tCs.out {c : List CS} (q : tCs G eh W P cs c D σ H) : ∃ F am env μ, StOk G eh F H am μ ∧ EnvOk G eh F am σ env ∧ WpS G eh F H am (NR.execs P cs c env μ) D (wish G W) := q
theorem ss_nil : PSs X [] (tCs G eh W P cs []) := by
  refine PSs.imp pss_nil fun D σ H q => ?_
  obtain ⟨F, am, env, μ, s, en, h⟩ := tCs.out q
  rw [NR.execs] at h
  exact h σ F H am Ext.refl s en
theorem ss_cons {st : Stmt} {sts : List Stmt} {c : CS} {cl : List CS} (h1 : PS X st (tC1 G eh W P cs c)) (h2 : PSs X sts (tCs G eh W P cs cl)) : PSs X (st :: sts) (tCs G eh W P cs (c :: cl)) := by
  refine PSs.imp (pss_cons h1 h2) fun D σ H q => ?_
  obtain ⟨F, am, env, μ, s, en, h⟩ := tCs.out q
  rw [NR.execs] at h
  refine ⟨F, am, env, μ, s, en, ?_⟩
  have h := h.bind
  show WpS G eh F H am (NR.exec P cs c env μ) _ _
  cases e : NR.exec P cs c env μ with
  | bad => rw [e] at h; exact h
  | rt p μ1 => rw [e] at h; exact h
  | exn d env1 μ1 => rw [e] at h; exact h
  | nx env1 μ1 =>
    rw [e] at h
    intro σ' F' H' am' x' s' e'
    obtain ⟨F2, am2, env2, μ2, s2, e2, x2, h2⟩ := h σ' F' H' am' x' s' e'
    exact ⟨F2, am2, env2, μ2, s2, e2, h2⟩
theorem s_pass : PS X (.Pass pos) (tC1 G eh W P cs .pass) := by
  refine PS.imp ps_pass fun D σ H q => ?_
  obtain ⟨F, am, env, μ, s, en, h⟩ := tC1.out q
  rw [NR.exec] at h
  exact h σ F H am Ext.refl s en
theorem s_doc {x j pos'} : PS X (.Expr (.Constant (.str x) j pos) pos') (tC1 G eh W P cs .pass) := by
  refine PS.imp ps_doc fun D σ H q => ?_
  obtain ⟨F, am, env, μ, s, en, h⟩ := tC1.out q
  rw [NR.exec] at h
  exact h σ F H am Ext.refl s en
theorem s_stop {st : Stmt} : PS X st (tC1 G eh W P cs .stop) := by
  refine PS.imp ps_never fun D σ H q => ?_
  obtain ⟨F, am, env, μ, s, en, h⟩ := tC1.out q
  rw [NR.exec] at h
  exact h
theorem tV.goS {c : CE} {k : PV → Sto → RS} {Q : VK} (s : StOk G eh F H am μ) (en : EnvOk G eh F am σ env) (h : WpS G eh F H am (RS.of env (ev P cs c env μ) k) D (wish G W))
    (hk : ∀ p v μ1 F1 H1 am1, Ext F H am F1 H1 am1 → StOk G eh F1 H1 am1 μ1 → Rep G eh F1 am1 p v → EnvOk G eh F1 am1 σ env → WpS G eh F1 H1 am1 (k p μ1) D (wish G W) → Q v H1) : tV G eh W P cs c σ H Q :=
  ⟨F, am, env, μ, s, en, (h.of en).mono fun p μ1 F1 H1 am1 x s1 h1 v rv => hk p v μ1 F1 H1 am1 x s1 rv (x.en en) h1⟩
theorem s_expr {a : Expr} {ca : CE} (hn : ncomp a = true) (ha : PE X a (tV G eh W P cs ca)) : PS X (.Expr a pos) (tC1 G eh W P cs (.expr ca)) := by
  refine PS.imp (ps_expr ha (no_swap hn)) fun D σ H q => ?_
  obtain ⟨F, am, env, μ, s, en, h⟩ := tC1.out q
  rw [NR.exec] at h
  refine tV.goS s en h fun p v μ1 F1 H1 am1 x1 s1 r1 en1 h1 => ?_
  exact h1 σ F1 H1 am1 Ext.refl s1 en1
theorem s_ret {a : Expr} {ca : CE} (ha : PE X a (tV G eh W P cs ca)) : PS X (.Return (some a) pos) (tC1 G eh W P cs (.ret ca)) := by
  refine PS.imp (ps_ret ha) fun D σ H q => ?_
  obtain ⟨F, am, env, μ, s, en, h⟩ := tC1.out q
  rw [NR.exec] at h
  refine tV.goS s en h fun p v μ1 F1 H1 am1 x1 s1 r1 en1 h1 => ?_
  exact h1 F1 H1 am1 Ext.refl s1 v r1
theorem s_retn : PS X (.Return none pos) (tC1 G eh W P cs .retn) := by
  refine PS.imp ps_retN fun D σ H q => ?_
  obtain ⟨F, am, env, μ, s, en, h⟩ := tC1.out q
  rw [NR.exec] at h
  exact h F H am Ext.refl s .non .non
theorem exec_ite (c : CE) (a b : List CS) (env : EnvP) (μ : Sto) : NR.exec P cs (.ite c a b) env μ = RS.of env (evT P cs c env μ) fun k μ => if k = true then NR.execs P cs a env μ else NR.execs P cs b env μ := by
  rw [NR.exec, evT]
  cases ev P cs c env μ with
  | bad => rfl
  | exn c μ => rfl
  | ok p μ =>
    show (match truth μ p with | some true => _ | some false => _ | none => _) = RS.of env (match truth μ p with | some b => R.ok b μ | none => R.bad) _
    cases truth μ p with
    | none => rfl
    | some k => cases k <;> rfl
theorem s_if {c : Expr} {a b : List Stmt} {cc : CE} {ca cb : List CS} (hc : PT X c (tVt G eh W P cs cc)) (ha : PSs X a (tCs G eh W P cs ca)) (hb : PSs X b (tCs G eh W P cs cb)) : PS X (.If c a b pos) (tC1 G eh W P cs (.ite cc ca cb)) := by
  refine PS.imp (ps_if hc ha hb) fun D σ H q => ?_
  obtain ⟨F, am, env, μ, s, en, h⟩ := tC1.out q
  rw [exec_ite] at h
  refine ⟨F, am, env, μ, s, en, (h.of en).mono fun p μ1 F1 H1 am1 x1 s1 h1 => ?_⟩
  cases p with
  | true => rw [if_pos rfl] at h1 ⊢; exact ⟨F1, am1, env, μ1, s1, x1.en en, h1⟩
  | false => rw [if_neg (by decide)] at h1 ⊢; exact ⟨F1, am1, env, μ1, s1, x1.en en, h1⟩
/-- the store of a pattern, then on -/
theorem gP_go {p : Pat} {q : PV} {v : V} {Q : L2.St → Hp → Prop} {k : EnvP → RS} (s : StOk G eh F H am μ) (en : EnvOk G eh F am σ env) (r : Rep G eh F am q v) (h : WpS G eh F H am (match setPat p q env with | some env' => k env' | none => .bad) D (wish G W))
    (hk : ∀ σ' env', setPat p q env = some env' → EnvOk G eh F am σ' env' → WpS G eh F H am (k env') D (wish G W) → Q σ' H) : gP G eh p v σ H Q := by
  cases e : setPat p q env with
  | none => rw [e] at h; exact h.elim
  | some env' =>
    rw [e] at h
    exact ⟨F, am, q, env, env', s.sub, r, en, e, fun σ' en' _ => hk σ' env' e en' h⟩
theorem s_asg {tg a : Expr} {p : Pat} {ca : CE} (hn : nst tg = true) (hsw : swapsWithSole [tg] a pos.line X.env = pure false) (hw : swappedStores [tg] a X.env = pure none)
    (hg : PG X tg (gP G eh p)) (ha : PE X a (tV G eh W P cs ca)) : PS X (.Assign [tg] a pos) (tC1 G eh W P cs (.asg p ca)) := by
  refine PS.imp (ps_asg ha hg hsw hw (by rw [assign_cons hn]; rfl)) fun D σ H q => ?_
  obtain ⟨F, am, env, μ, s, en, h⟩ := tC1.out q
  rw [NR.exec] at h
  refine tV.goS s en h fun q v μ1 F1 H1 am1 x1 s1 r1 en1 h1 => ?_
  refine gP_go s1 en1 r1 h1 fun σ' env' e en' h2 => ?_
  exact h2 σ' F1 H1 am1 Ext.refl s1 en'
theorem s_set {i : Nat} {x : Str} {a : Expr} {ca : CE} {pos' : Pos} (hN : X.N.Nodup) (hi : X.N[i]? = some x) (hx : Loc X.env.scope x) (hf : X.fn x = true ∨ X.env.scope.names.lookup x = some .local) (hs : swapsWith a (some (.Name x pos')) pos.line X.env = pure false)
    (ha : PE X a (tV G eh W P cs ca)) : PS X (.Assign [.Name x pos'] a pos) (tC1 G eh W P cs (.asg (.v i) ca)) := by
  refine PS.imp (ps_set hN hi hx ha hs hf) fun D σ H q => ?_
  obtain ⟨F, am, env, μ, s, en, h⟩ := tC1.out q
  rw [NR.exec] at h
  refine tV.goS s en h fun q v μ1 F1 H1 am1 x1 s1 r1 en1 h1 => ?_
  exact h1 _ F1 H1 am1 Ext.refl s1 (en1.set r1)
/-- a, b = x, y to plain local names -/
theorem s_par {i j : Nat} {x y : Str} {a b : Expr} {ca cb : CE} {px py pt : Pos} {kt k2 : Nat} {pt2 : Pos} (hc : X.calm = true) (hN : X.N.Nodup) (hi : X.N[i]? = some x) (hj : X.N[j]? = some y) (hij : i ≠ j)
    (hx : X.env.scope.names.lookup x = some .local) (hy : X.env.scope.names.lookup y = some .local) (ha : PA X [a, b] (tVs G eh W P cs [ca, cb]))
    (hw : swappedStores [.Tuple [.Name x px, .Name y py] kt pt] (.Tuple [a, b] k2 pt2) X.env = pure (some [x, y])) :
    PS X (.Assign [.Tuple [.Name x px, .Name y py] kt pt] (.Tuple [a, b] k2 pt2) pos) (tC1 G eh W P cs (.asg (.t [.v i, .v j]) (.tup [ca, cb]))) := by
  refine PS.imp (ps_par hc hN hi hj hij hx hy ha hw) fun D σ H q => ?_
  obtain ⟨F, am, env, μ, s, en, h⟩ := tC1.out q
  rw [NR.exec, ev] at h
  have h := h.of en
  refine tVs.go s en h fun ps vs μ1 F1 H1 am1 x1 s1 r1 en1 h1 => ?_
  split at h1
  · have h1 := h1.ok_now s1
    cases r1 with
    | nil => exact False.elim h1
    | cons r1 r2 =>
      cases r2 with
      | nil => exact False.elim h1
      | cons r2 r3 =>
        cases r3 with
        | nil => exact ⟨_, _, rfl, h1 _ F1 H1 am1 Ext.refl s1 (((x1.en en).set r1).set r2)⟩
        | cons _ _ => exact False.elim h1
  · exact h1.elim
end
end NR

/-! NR2c: enumerate of a tuple. -/
namespace NR
open PySem L2
open PySem.Spec PyProof.Rows
open AutoSeq1 (wpAny_loadPart')
theorem new_enumT (t : Addr) (items : Array Value) (ob : Obj) (hc : ob.cls = .type "tuple") (hd : ∃ n, ob.data = .seq items n) :
    Meets (Builtin.«enumerate.__new__» ⟨[.type "enumerate", .ref t], []⟩) (fun _ R s => s.heap.get? t = some ob ∧
      R (.ok (.ret (.ref (s.heap.push { cls := .type "tuple_iterator", data := .fields #[.ref t, .int 0 0] }).objs.size)))
        { s with heap := (s.heap.push { cls := .type "tuple_iterator", data := .fields #[.ref t, .int 0 0] }).push { cls := .type "enumerate", data := .fields #[.none, .bool false, .ref s.heap.objs.size, rawInt 0, .none, .none] } }) :=
  .of_wp fun prog w A R s h => by
    obtain ⟨hp, gg, dr, tk, os⟩ := s
    obtain ⟨ht, h⟩ := h
    have hsub := sub_enumerate
    have hT : Heap.IsTuple (Shared.heap ⟨hp, gg, dr, tk, os⟩) t items := ⟨_, ht, hc, hd⟩
    wp_walk using wpAny_loadPart' ht
    refine wpAny_stack_any fun st => wpAny_pure ?_
    split
    · rename_i c _ _ _ _ _
      cases (c == Value.type "enumerate") <;>
      · wp_walk using wpAny_loadPart' ht, wpAny_pyIter_tuple hT
        exact ⟨_, rfl, h⟩
    · wp_walk using wpAny_loadPart' ht, wpAny_pyIter_tuple hT
      exact ⟨_, rfl, h⟩
section
variable {prog : Program} {w : World} {A : Around} {E : Value → Shared → Prop} {s : Shared}
theorem call_enumT {t : Addr} {items : Array Value} {Q : Value → Shared → Prop} (hT : s.heap.IsTuple t items)
    (h : ∀ h', IsEnum h' (s.heap.objs.size + 1) s.heap.objs.size 0 .none → h'.IsTupleIter s.heap.objs.size t 0 → (∀ b o, s.heap.get? b = some o → h'.get? b = some o) → Q (.ref (s.heap.objs.size + 1)) { s with heap := h' }) :
    wpAny (model prog w) A (call (.type "enumerate") [.ref t]) Q E s := by
  obtain ⟨ob, ht, hc, hd⟩ := hT
  refine callType_new F.called_enumerate (by decide) (F.typeCall_enumerate_1 _) (F.newCall_enumerate_1 _) (fun obj => F.args_object_init_2 obj _) F.entry_enumerate_new (new_enumT t items ob hc hd) ⟨ht, ?_⟩
  have hz : (s.heap.push { cls := .type "tuple_iterator", data := .fields #[.ref t, .int 0 0] }).objs.size = s.heap.objs.size + 1 := Heap.size_push ..
  show _ ∧ _
  rw [hz]
  have he : IsEnum ((s.heap.push { cls := .type "tuple_iterator", data := .fields #[.ref t, .int 0 0] }).push
      { cls := .type "enumerate", data := .fields #[.none, .bool false, .ref s.heap.objs.size, rawInt 0, .none, .none] }) (s.heap.objs.size + 1) s.heap.objs.size 0 .none := by
    have q := Heap.get?_push_size (s.heap.push { cls := .type "tuple_iterator", data := .fields #[.ref t, .int 0 0] })
      (o := { cls := .type "enumerate", data := .fields #[.none, .bool false, .ref s.heap.objs.size, rawInt 0, .none, .none] }) rfl
    rw [hz] at q
    exact q
  exact ⟨⟨_, he, rfl⟩, h _ he ⟨_, Heap.get?_push_of_some _ (Heap.get?_push_size _ rfl), rfl, rfl⟩ fun b o x => Heap.get?_push_of_some _ (Heap.get?_push_of_some _ x)⟩
end
theorem end_enumT {prog : Program} {w : World} {A : Around} {E : Value → Shared → Prop} {s : Shared} {e it t : Addr} {i : Nat} {items : Array Value} {old : Value} {Q : Option Value → Shared → Prop} (hh : A.handled = none)
    (he : IsEnum s.heap e it i old) (hit : s.heap.IsTupleIter it t i) (ht : s.heap.IsTuple t items) (hx : items[i]? = none) (hQ : ∀ h', Heap.ExtBut it s.heap h' → Q none { s with heap := h' }) : wpAny (model prog w) A (pyNext (.ref e)) Q E s := by
  have ty : s.TypeIs (.ref e) "enumerate" := ⟨_, he, rfl⟩
  unfold pyNext
  refine wpAny_bind (wpAny_attempt (wpAny_callSpecial?_slot (name := Str.ofString "__next__") ty F.slot_enumerate_next (wpAny_call_entry F.slot_enumerate_next ty F.entry_enumerate_next ?_ (F.args_enumerate_next_1 _))))
  show wpAny _ _ (field (.ref e) 2 >>= _) _ _ _
  refine wpAny_bind (wpAny_field he rfl (x := .ref it) rfl ?_)
  refine wpAny_bind (wpAny_nextOf_tuple_end hh hit ht hx fun h' y he' hy => ?_)
  obtain ⟨o, ho, hc⟩ := hy
  refine wpAny_bind (wpAny_isInstance (T := "StopIteration") (b := true) ⟨o, ho, hc⟩ isSubtype_stop ?_)
  exact wpAny_pure (hQ _ he')
/-- the tuple at a, each item in a new pair with its place -/
def IteT (K : PySem.W.Frag) (a : Addr) : It :=
  ⟨fun i H => ∃ (xs : List V) (x : V), SqT K H a xs ∧ xs[i]? = some x, fun i H v H' => ∃ T x, v = .ref T ∧ H T = none ∧ H' = upd H T (.tup [.int (i : Nat), x]) ∧ ∀ xs, SqT K H a xs → xs[i]? = some x, fun i H => ∃ xs : List V, SqT K H a xs ∧ xs.length ≤ i⟩
theorem turn_enumT {P : Program} {w : World} {K : PySem.W.Frag} {elts : List Expr} {kk : Nat} {tpos : Pos} (a e it : Addr) :
    Turn P w K (.Tuple elts kk tpos) (IteT K a) [e, it] e (fun i h => (∃ old, IsEnum h e it ((i : Nat) : Int) old) ∧ h.IsTupleIter it a i ∧ e ≠ it ∧ a ≠ it ∧ a ≠ e) where
  mem := List.mem_cons_self
  obj := fun i h st b hb => by
    obtain ⟨⟨old, he⟩, ⟨o, ho, hc, hd⟩, _⟩ := st
    simp only [List.mem_cons, List.not_mem_nil, or_false] at hb
    rcases hb with rfl | rfl
    · exact ⟨_, he, fun v q => nomatch q⟩
    · exact ⟨o, ho, fun v q => by rw [hd] at q; cases q⟩
  keep := fun i h h' st k => ⟨⟨st.1.choose, k e (by simp) _ st.1.choose_spec⟩, st.2.1.at fun o q => k it (by simp) o q, st.2.2⟩
  item := by
    intro X hP hw hK hc i pins s σ H E I hf st hg
    subst hP hw hK
    obtain ⟨⟨old, he⟩, hit, hne, ha1, ha2⟩ := st
    obtain ⟨xs, x, hq, hx⟩ := hg
    obtain ⟨its, rv, tp, hz⟩ := I.tuple hq
    obtain ⟨u, hu, ru⟩ := rv.get hx
    have hel : e < s.heap.objs.size := Heap.lt_size he
    have hil : it < s.heap.objs.size := by obtain ⟨_, q, _⟩ := hit; exact Heap.lt_size q
    have D := Draws.tuple (prog := X.prog) (w := X.w) (A := X.A.in1) (I.ok.hd hc) it a ha1 its.toArray
    have hlt : i < its.toArray.size := by simpa using (List.getElem?_eq_some_iff.mp hu).1
    refine wpAny_pyNext_enum_itemD D he ⟨hit, tp⟩ hlt hne (by simp [hne, Ne.symm ha2]) fun x' h' tk px ho hst hT hsz hk => ?_
    have px : its.toArray[i]? = some x' := px
    have ex : x' = u := by
      rw [List.getElem?_toArray, hu] at px
      cases px; rfl
    subst ex
    refine ⟨_, rfl, wpAny_letOwnedTupleGo_enum (s := { s with heap := h', toks := tk + 1 }) ho fun h'' he' sb => ?_⟩
    have hT2 : h''.get? s.heap.objs.size = some { cls := .type "tuple", data := .seq #[.int i tk, x'] } := (sb.2 _ (Nat.ne_of_gt hel)).trans hT
    have new : ObjOk X.prog X.w (upd H s.heap.objs.size (.tup [.int (i : Nat), x])) h'' s.heap.objs.size (.tup [.int (i : Nat), x]) :=
      ⟨by show 2 ≤ sizeLine; decide, [.int i tk, x'], .cons ⟨_, rfl⟩ (.cons ru .nil), ⟨_, hT2, rfl, _, rfl⟩⟩
    have I1 : Inv X pins σ (upd H s.heap.objs.size (.tup [.int (i : Nat), x])) { s with heap := h'', toks := tk + 1 } :=
      I.turnedNew (ch := [e, it]) (fun b ob hb q => (sb.2 b (fun z => hb (by simp [z]))).trans (hk b ob (fun z => hb (by simp [z])) (fun z => hb (by simp [z])) q)) hf (Nat.le_refl _) new
    refine ⟨.ref s.heap.objs.size, _, I1, rfl, ⟨_, x, rfl, I.hok.fresh (Nat.le_refl _), rfl, fun ys hy => by rw [I.tuple_inj hy hq]; exact hx⟩, ⟨⟨x', ?_⟩, hst.1.at fun o q => (sb.2 it (Ne.symm hne)).trans q, hne, ha1, ha2⟩, fun b hb => ?_⟩
    · have e1 : ((i + 1 : Nat) : Int) = (i : Int) + 1 := by omega
      rw [e1]; exact he'
    · have hb' : b < s.heap.objs.size := by
        simp only [List.mem_cons, List.not_mem_nil, or_false] at hb
        rcases hb with rfl | rfl
        · exact hel
        · exact hil
      rw [upd_ne (Nat.ne_of_lt hb')]
      exact (hf b hb).1
  done := by
    intro X hP hw hK hc i pins s σ H E I hf st hg
    subst hP hw hK
    obtain ⟨⟨old, he⟩, hit, hne, ha1, ha2⟩ := st
    obtain ⟨xs, hq, hx⟩ := hg
    obtain ⟨its, rv, tp, hz⟩ := I.tuple hq
    obtain ⟨f0, f1, f2, f3, f4, f5⟩ := hf it (by simp)
    have hl := rv.length
    exact end_enumT (I.ok.hd hc) he hit tp (by rw [List.getElem?_toArray]; exact List.getElem?_eq_none_iff.mpr (by omega)) fun h' eb => ⟨rfl, I.turned (t' := s.toks) (fun b o hb q => eb b o hb q) f0 f1 f3 f4 f5⟩
  self := fun A i s Q E st h => let ⟨⟨_, he⟩, _⟩ := st; wpAny_pyIter_enum he h
end NR

/-! NR3d: sources, loops, comprehensions. -/
namespace NR
open PySem L2
open PySem.Spec PyProof.Rows RZ
section
variable {G : Gi} {eh : List (Addr × Nat)} {F H : Hp} {am : List Addr} {μ : Sto}
/-- J walks what src tells, from (F, am) on -/
def SrcOk (G : Gi) (eh : List (Addr × Nat)) (F : Hp) (am : List Addr) (src : Src) (J : It) : Prop := ∀ i F1 H1 am1 μ1, Same F F1 → am <+: am1 → StOk G eh F1 H1 am1 μ1 →
  (∀ x, src.at μ1 i = some x → match x with
    | none => J.stop i H1
    | some p => J.go i H1 ∧ ∀ v H', J.yld i H1 v H' → ∃ F2, Ext F1 H1 am1 F2 H' am1 ∧ StOk G eh F2 H' am1 μ1 ∧ Rep G eh F2 am1 p v)
theorem SrcOk.mono {F' : Hp} {am' : List Addr} {src : Src} {J : It} (h : SrcOk G eh F am src J) (hf : Same F F') (ha : am <+: am') : SrcOk G eh F' am' src J :=
  fun i F1 H1 am1 μ1 f a s => h i F1 H1 am1 μ1 (hf.trans f) (ha.trans a) s
/-- items that stand, the heap as it is -/
theorem srcOk_items {ps : List PV} {vs : List V} {J : It} (r : RepL G eh F am ps vs) (hs : ∀ i F1 H1, Same F F1 → Same F1 H1 → vs.length ≤ i → J.stop i H1)
    (hg : ∀ i F1 H1 v, Same F F1 → Same F1 H1 → vs[i]? = some v → J.go i H1 ∧ ∀ x H', J.yld i H1 x H' → H' = H1 ∧ x = v) : SrcOk G eh F am (.items ps) J := by
  intro i F1 H1 am1 μ1 f a s x e
  have e : some ps[i]? = some x := e
  cases e
  cases e1 : ps[i]? with
  | none => exact hs i F1 H1 f s.sub (by rw [← r.length]; exact List.getElem?_eq_none_iff.mp e1)
  | some p =>
    obtain ⟨v, e2, r2⟩ := r.get e1
    obtain ⟨g, y⟩ := hg i F1 H1 v f s.sub e2
    refine ⟨g, fun x H' q => ?_⟩
    obtain ⟨rfl, rfl⟩ := y x H' q
    exact ⟨F1, Ext.refl, s, Rep.mono f a p _ r2⟩
theorem srcOk_list {ps : List PV} {vs : List V} {a : Addr} (r : RepL G eh F am ps vs) (h : F a = some (.lst vs)) : SrcOk G eh F am (.items ps) (Itl G.K a) :=
  srcOk_items r (fun i F1 H1 f g hi => ⟨vs, SqL.of (g _ _ (f _ _ h)), hi⟩) fun i F1 H1 v f g e => ⟨⟨vs, v, SqL.of (g _ _ (f _ _ h)), e⟩, fun x H' q => by
    refine ⟨q.1, ?_⟩
    have := q.2 vs (SqL.of (g _ _ (f _ _ h)))
    rw [e] at this; cases this; rfl⟩
theorem srcOk_tup {ps : List PV} {vs : List V} {a : Addr} (r : RepL G eh F am ps vs) (h : SqT G.K F a vs) : SrcOk G eh F am (.items ps) (Itt G.K a) :=
  srcOk_items r (fun i F1 H1 f g hi => ⟨vs, SqT.same g (SqT.same f h), hi⟩) fun i F1 H1 v f g e => ⟨⟨vs, v, SqT.same g (SqT.same f h), e⟩, fun x H' q => by
    refine ⟨q.1, ?_⟩
    have := q.2 vs (SqT.same g (SqT.same f h))
    rw [e] at this; cases this; rfl⟩
theorem repL_chars {z : List Nat} (o : okTxt z) : RepL G eh F am (z.map fun c => .str [c]) (z.map fun c => V.str (mkT [c])) := by
  induction z with
  | nil => exact .nil
  | cons c z ih =>
    exact .cons (.str [c] fun d hd => by rw [List.mem_singleton.mp hd]; exact o c List.mem_cons_self) (ih fun d hd => o d (List.mem_cons_of_mem _ hd))
theorem srcOk_str {z : List Nat} (o : okTxt z) : SrcOk G eh F am (.items (z.map fun c => .str [c])) (Its (mkT z)) := by
  refine srcOk_items (repL_chars o) (fun i F1 H1 f g hi => ?_) fun i F1 H1 v f g e => ?_
  · show (mkT z).cps.size ≤ i
    simpa [mkT] using hi
  · rw [List.getElem?_map] at e
    cases e1 : z[i]? with
    | none => rw [e1] at e; cases e
    | some c =>
      rw [e1] at e
      cases e
      have hl : i < z.length := (List.getElem?_eq_some_iff.mp e1).1
      refine ⟨by show i < (mkT z).cps.size; simpa [mkT] using hl, fun x H' q => ⟨q.1, ?_⟩⟩
      obtain ⟨d, e2, e3⟩ := q.2
      have e4 : (mkT z).cps[i]? = z[i]? := by simp [mkT]
      rw [e4, e1] at e2
      cases e2
      exact e3
theorem srcOk_live {n : Nat} {a : Addr} (h : am[n]? = some a) : SrcOk G eh F am (.live n) (Itl G.K a) := by
  intro i F1 H1 am1 μ1 f ha s x e
  have e : (match μ1[n]? with | some (.list xs) => some xs[i]? | _ => none) = some x := e
  split at e
  · rename_i xs em
    cases e
    obtain ⟨a', ha', ys, h1, r⟩ := s.cellAt em
    rw [pre_get ha h] at ha'; cases ha'
    cases e1 : xs[i]? with
    | none => exact ⟨ys, SqL.of h1, by rw [← r.length]; exact List.getElem?_eq_none_iff.mp e1⟩
    | some p =>
      obtain ⟨v, e2, r2⟩ := r.get e1
      refine ⟨⟨ys, v, SqL.of h1, e2⟩, fun x H' q => ?_⟩
      have := q.2 ys (SqL.of h1)
      rw [e2] at this; cases this
      obtain ⟨rfl, _⟩ := q
      exact ⟨F1, Ext.refl, s, r2⟩
  · cases e
theorem repL_ints (ns : List Int) : RepL G eh F am (ns.map .int) (ns.map V.int) := by
  induction ns with
  | nil => exact .nil
  | cons n ns ih => exact .cons (.int n) ih
theorem srcOk_rng {lo : Int} {n : Nat} : SrcOk G eh F am (.items ((List.range n).map fun (k : Nat) => .int (lo + k))) (Itr lo n) := by
  have e0 : ((List.range n).map fun (k : Nat) => PV.int (lo + k)) = ((List.range n).map fun (k : Nat) => lo + (k : Int)).map .int := by rw [List.map_map]; rfl
  rw [e0]
  refine srcOk_items (repL_ints _) (fun i F1 H1 f g hi => ?_) fun i F1 H1 v f g e => ?_
  · show n ≤ i
    simpa using hi
  · rw [List.getElem?_map, List.getElem?_map] at e
    cases e1 : (List.range n)[i]? with
    | none => rw [e1] at e; cases e
    | some c =>
      rw [e1] at e
      cases e
      have hl : i < n := by simpa using (List.getElem?_eq_some_iff.mp e1).1
      have : c = i := by rw [List.getElem?_range hl] at e1; cases e1; rfl
      subst this
      exact ⟨hl, fun x H' q => q⟩
theorem srcOk_rngC {lo c : Int} {n : Nat} : SrcOk G eh F am (.items ((List.range n).map fun (k : Nat) => .int (lo + k * c))) (Itc lo c n) := by
  have e0 : ((List.range n).map fun (k : Nat) => PV.int (lo + k * c)) = ((List.range n).map fun (k : Nat) => lo + (k : Int) * c).map .int := by rw [List.map_map]; rfl
  rw [e0]
  refine srcOk_items (repL_ints _) (fun i F1 H1 f g hi => ?_) fun i F1 H1 v f g e => ?_
  · show n ≤ i
    simpa using hi
  · rw [List.getElem?_map, List.getElem?_map] at e
    cases e1 : (List.range n)[i]? with
    | none => rw [e1] at e; cases e
    | some m =>
      rw [e1] at e
      cases e
      have hl : i < n := by simpa using (List.getElem?_eq_some_iff.mp e1).1
      have : m = i := by rw [List.getElem?_range hl] at e1; cases e1; rfl
      subst this
      exact ⟨hl, fun x H' q => q⟩
/-- pairs made at each turn -/
theorem srcOk_pairs {ps qs : List PV} {J : It} (hJ : ∀ i F1 H1 am1 μ1, Same F F1 → am <+: am1 → StOk G eh F1 H1 am1 μ1 →
    (∀ p q, ps[i]? = some p → qs[i]? = some q → J.go i H1 ∧ ∀ v H', J.yld i H1 v H' → ∃ T x y, v = .ref T ∧ H1 T = none ∧ H' = upd H1 T (.tup [x, y]) ∧ Rep G eh F1 am1 p x ∧ Rep G eh F1 am1 q y) ∧
    ((ps[i]? = none ∨ qs[i]? = none) → J.stop i H1)) : SrcOk G eh F am (.items (List.zipWith (fun x y => .tup [x, y]) ps qs)) J := by
  intro i F1 H1 am1 μ1 f a s x e
  have e : some (List.zipWith (fun x y => PV.tup [x, y]) ps qs)[i]? = some x := e
  cases e
  obtain ⟨h1, h2⟩ := hJ i F1 H1 am1 μ1 f a s
  rw [List.getElem?_zipWith]
  cases e1 : ps[i]? with
  | none => exact h2 (.inl e1)
  | some p =>
    cases e2 : qs[i]? with
    | none => exact h2 (.inr e2)
    | some q =>
      obtain ⟨g, y⟩ := h1 p q e1 e2
      refine ⟨g, fun v H' z => ?_⟩
      obtain ⟨T, x, y, rfl, hT, rfl, r1, r2⟩ := y v H' z
      obtain ⟨s2, x2⟩ := s.new (o := .tup [x, y]) hT
      exact ⟨_, x2, s2, .tup (SqT.of upd_same) (.cons (x2.rep r1) (.cons (x2.rep r2) .nil))⟩
theorem srcOk_zipL {ps qs : List PV} {xs ys : List V} {a b : Addr} (r1 : RepL G eh F am ps xs) (r2 : RepL G eh F am qs ys) (h1 : F a = some (.lst xs)) (h2 : F b = some (.lst ys)) :
    SrcOk G eh F am (.items (List.zipWith (fun x y => .tup [x, y]) ps qs)) (Itz G.K a b) := by
  refine srcOk_pairs fun i F1 H1 am1 μ1 f ha s => ⟨fun p q e1 e2 => ?_, fun e => ?_⟩
  · obtain ⟨x, ex, rx⟩ := r1.get e1
    obtain ⟨y, ey, ry⟩ := r2.get e2
    have l1 : SqL G.K H1 a xs := SqL.of (s.sub _ _ (f _ _ h1))
    have l2 : SqL G.K H1 b ys := SqL.of (s.sub _ _ (f _ _ h2))
    refine ⟨⟨xs, ys, x, y, l1, l2, ex, ey⟩, fun v H' q => ?_⟩
    obtain ⟨T, x', y', rfl, hT, rfl, q1, q2⟩ := q
    have := q1 xs l1
    rw [ex] at this; cases this
    have := q2 ys l2
    rw [ey] at this; cases this
    exact ⟨T, _, _, rfl, hT, rfl, Rep.mono f ha _ _ rx, Rep.mono f ha _ _ ry⟩
  · refine ⟨xs, ys, SqL.of (s.sub _ _ (f _ _ h1)), SqL.of (s.sub _ _ (f _ _ h2)), ?_⟩
    rw [← r1.length, ← r2.length]
    exact e.imp List.getElem?_eq_none_iff.mp List.getElem?_eq_none_iff.mp
theorem srcOk_zipT {ps qs : List PV} {xs ys : List V} {a b : Addr} (r1 : RepL G eh F am ps xs) (r2 : RepL G eh F am qs ys) (h1 : SqT G.K F a xs) (h2 : SqT G.K F b ys) :
    SrcOk G eh F am (.items (List.zipWith (fun x y => .tup [x, y]) ps qs)) (ItzT G.K a b) := by
  refine srcOk_pairs fun i F1 H1 am1 μ1 f ha s => ⟨fun p q e1 e2 => ?_, fun e => ?_⟩
  · obtain ⟨x, ex, rx⟩ := r1.get e1
    obtain ⟨y, ey, ry⟩ := r2.get e2
    have l1 : SqT G.K H1 a xs := SqT.same s.sub (SqT.same f h1)
    have l2 : SqT G.K H1 b ys := SqT.same s.sub (SqT.same f h2)
    refine ⟨⟨xs, ys, x, y, l1, l2, ex, ey⟩, fun v H' q => ?_⟩
    obtain ⟨T, x', y', rfl, hT, rfl, q1, q2⟩ := q
    have := q1 xs l1
    rw [ex] at this; cases this
    have := q2 ys l2
    rw [ey] at this; cases this
    exact ⟨T, _, _, rfl, hT, rfl, Rep.mono f ha _ _ rx, Rep.mono f ha _ _ ry⟩
  · refine ⟨xs, ys, SqT.same s.sub (SqT.same f h1), SqT.same s.sub (SqT.same f h2), ?_⟩
    rw [← r1.length, ← r2.length]
    exact e.imp List.getElem?_eq_none_iff.mp List.getElem?_eq_none_iff.mp
theorem srcOk_enumL {ps : List PV} {xs : List V} {a : Addr} (r1 : RepL G eh F am ps xs) (h1 : F a = some (.lst xs)) : SrcOk G eh F am (.items (enumL ps)) (Ite G.K a) := by
  have e0 : enumL ps = List.zipWith (fun x y => PV.tup [x, y]) ((List.range ps.length).map fun (i : Nat) => PV.int i) ps := by
    unfold enumL
    rw [List.zipWith_map_left]
  rw [e0]
  refine srcOk_pairs fun i F1 H1 am1 μ1 f ha s => ⟨fun p q e1 e2 => ?_, fun e => ?_⟩
  · obtain ⟨x, ex, rx⟩ := r1.get e2
    have l1 : SqL G.K H1 a xs := SqL.of (s.sub _ _ (f _ _ h1))
    have hl : i < ps.length := (List.getElem?_eq_some_iff.mp e2).1
    rw [List.getElem?_map, List.getElem?_range hl] at e1
    cases e1
    refine ⟨⟨xs, x, l1, ex⟩, fun v H' q => ?_⟩
    obtain ⟨T, x', rfl, hT, rfl, q1⟩ := q
    have := q1 xs l1
    rw [ex] at this; cases this
    exact ⟨T, _, _, rfl, hT, rfl, .int _, Rep.mono f ha _ _ rx⟩
  · refine ⟨xs, SqL.of (s.sub _ _ (f _ _ h1)), ?_⟩
    rw [← r1.length]
    rcases e with e | e
    · have := List.getElem?_eq_none_iff.mp e
      simpa using this
    · exact List.getElem?_eq_none_iff.mp e
theorem srcOk_enumT {ps : List PV} {xs : List V} {a : Addr} (r1 : RepL G eh F am ps xs) (h1 : SqT G.K F a xs) : SrcOk G eh F am (.items (enumL ps)) (IteT G.K a) := by
  have e0 : enumL ps = List.zipWith (fun x y => PV.tup [x, y]) ((List.range ps.length).map fun (i : Nat) => PV.int i) ps := by
    unfold enumL
    rw [List.zipWith_map_left]
  rw [e0]
  refine srcOk_pairs fun i F1 H1 am1 μ1 f ha s => ⟨fun p q e1 e2 => ?_, fun e => ?_⟩
  · obtain ⟨x, ex, rx⟩ := r1.get e2
    have l1 : SqT G.K H1 a xs := SqT.same s.sub (SqT.same f h1)
    have hl : i < ps.length := (List.getElem?_eq_some_iff.mp e2).1
    rw [List.getElem?_map, List.getElem?_range hl] at e1
    cases e1
    refine ⟨⟨xs, x, l1, ex⟩, fun v H' q => ?_⟩
    obtain ⟨T, x', rfl, hT, rfl, q1⟩ := q
    have := q1 xs l1
    rw [ex] at this; cases this
    exact ⟨T, _, _, rfl, hT, rfl, .int _, Rep.mono f ha _ _ rx⟩
  · refine ⟨xs, SqT.same s.sub (SqT.same f h1), ?_⟩
    rw [← r1.length]
    rcases e with e | e
    · have := List.getElem?_eq_none_iff.mp e
      simpa using this
    · exact List.getElem?_eq_none_iff.mp e
theorem srcOk_liveEnum {n : Nat} {a : Addr} (h : am[n]? = some a) : SrcOk G eh F am (.liveEnum n) (Ite G.K a) := by
  intro i F1 H1 am1 μ1 f ha s x e
  have e : (match μ1[n]? with | some (.list xs) => some (xs[i]?.map fun x => PV.tup [.int i, x]) | _ => none) = some x := e
  split at e
  · rename_i xs em
    cases e
    obtain ⟨a', ha', ys, h1, r⟩ := s.cellAt em
    rw [pre_get ha h] at ha'; cases ha'
    cases e1 : xs[i]? with
    | none => exact ⟨ys, SqL.of h1, by rw [← r.length]; exact List.getElem?_eq_none_iff.mp e1⟩
    | some p =>
      obtain ⟨v, e2, r2⟩ := r.get e1
      refine ⟨⟨ys, v, SqL.of h1, e2⟩, fun x H' q => ?_⟩
      obtain ⟨T, x', rfl, hT, rfl, q1⟩ := q
      have := q1 ys (SqL.of h1)
      rw [e2] at this; cases this
      obtain ⟨s2, x2⟩ := s.new (o := .tup [.int (i : Nat), v]) hT
      exact ⟨_, x2, s2, .tup (SqT.of upd_same) (.cons (.int _) (.cons (x2.rep r2) .nil))⟩
  · cases e
end

/-! ### the readings of sources -/
def tI (G : Gi) (eh : List (Addr × Nat)) (W : WX) (P : Prog) (cs : CallS) (c : CI) : TI := fun σ H R => ∃ F am env μ, StOk G eh F H am μ ∧ EnvOk G eh F am σ env ∧
  WpR G eh F H am (evi P cs c env μ) (fun src _ F' H' am' => ∀ J, SrcOk G eh F' am' src J → R J H') (wish G W σ)
section
variable {X : Cx} {G : Gi} {eh : List (Addr × Nat)} {W : WX} {P : Prog} {cs : CallS} {pos : Pos} {tg a b c : Expr} {ca cb cc : CE}
theorem pi_any {te : TE} (he : PE X a te) : PI X tg a (fun σ H R => te σ H fun x H1 => (∃ l, x = .ref l ∧ (∃ xs, SqL X.K H1 l xs) ∧ R (Itl X.K l) H1) ∨ (∃ l, x = .ref l ∧ (∃ xs, SqT X.K H1 l xs) ∧ R (Itt X.K l) H1) ∨ ∃ z, x = .str z ∧ R (Its z) H1) := by
  refine ⟨fun pins s σ H R I0 q0 => ?_⟩
  refine thn (he.run pins s σ H _ I0 q0) fun v s1 ⟨y, H1, I1, ry, hy⟩ => ?_
  rcases hy with ⟨l, rfl, ⟨xs, hl⟩, hR⟩ | ⟨l, rfl, ⟨xs, hl⟩, hR⟩ | ⟨z, rfl, hR⟩
  · cases ry
    obtain ⟨its, _, pl, _⟩ := I1.list hl
    exact wpAny_pyIter_list pl.isList (pi_one (tk := s1.toks) I1 _ (turn_list l _) ⟨_, Heap.get?_push_size _ rfl, rfl, rfl⟩ hR)
  · cases ry
    obtain ⟨its, _, pl, _⟩ := I1.tuple hl
    exact wpAny_pyIter_tuple (show s1.heap.IsTuple l its.toArray from pl) (pi_one (tk := s1.toks) I1 _ (turn_tuple l _) ⟨_, Heap.get?_push_size _ rfl, rfl, rfl⟩ hR)
  · obtain ⟨t, rfl⟩ := ry
    cases hw : z.cps.all (· < 128) with
    | false => exact wpAny_pyIter_wide hw (pi_one (tk := s1.toks) I1 _ (turn_str _ z t "str_iterator" (.inr rfl)) ⟨_, Heap.get?_push_size _ rfl, rfl, rfl⟩ hR)
    | true => exact wpAny_pyIter_ascii hw (pi_one (tk := s1.toks) I1 _ (turn_str _ z t "str_ascii_iterator" (.inl rfl)) ⟨_, Heap.get?_push_size _ rfl, rfl, rfl⟩ hR)
theorem pi_enumA {elts : List Expr} {kk : Nat} {tpos p : Pos} {ta : TA} (hg : Gl X "enumerate") (hm : X.mg "enumerate" = none) (ha : PA X [a] ta) (hs : starEach [a] X.env = [(false, eval a X.env)]) :
    PI X (.Tuple elts kk tpos) (.Call (.Name "enumerate" p) [a] [] pos) (fun σ H R => ta σ H fun vs H1 => ∃ l, vs = [.ref l] ∧ ((∃ xs, SqL X.K H1 l xs ∧ R (Ite X.K l) H1) ∨ ∃ xs, SqT X.K H1 l xs ∧ R (IteT X.K l) H1)) := by
  refine ⟨fun pins s σ H R I0 q0 => ?_⟩
  refine Call_ (ld_blt I0 hg hm boot_enumerate (PyProof.Rows.callWith_type1 (thn (ha.run pos pins s σ H _ I0 q0) fun us s1 ⟨vs, H1, I1, rv, hv⟩ => ?_) hs rfl))
  obtain ⟨l, rfl, hv⟩ := hv
  cases rv with
  | cons r1 r2 =>
    cases r2
    cases r1
    have hle : ∀ b, b = s1.heap.objs.size + 1 ∨ b = s1.heap.objs.size → s1.heap.objs.size ≤ b := fun b hb => by omega
    rcases hv with ⟨xs, hl, hR⟩ | ⟨xs, hl, hR⟩
    · obtain ⟨its, _, pl, _⟩ := I1.list hl
      refine call_enumerate_list pl.isList fun h' he hit _ hk => wpAny_pyIter_enum he ?_
      have I2 : Inv X pins σ H1 { s1 with heap := h' } := I1.kept (t' := s1.toks) hk
      refine ⟨s1.heap.objs.size + 1, [s1.heap.objs.size + 1, s1.heap.objs.size], _, _, H1, rfl, I2, turn_enum l _ _, ⟨⟨.none, he⟩, hit, Nat.succ_ne_self _⟩, fun b hb => ?_, hR⟩
      have := hle b (by simpa using hb)
      exact I1.fpOk this (I1.hok.fresh this)
    · obtain ⟨its, _, tp, _⟩ := I1.tuple hl
      have hlt : l < s1.heap.objs.size := by
        obtain ⟨o, ho, _⟩ := tp
        exact Heap.lt_size ho
      refine call_enumT (show s1.heap.IsTuple l its.toArray from tp) fun h' he hit hk => wpAny_pyIter_enum he ?_
      have I2 : Inv X pins σ H1 { s1 with heap := h' } := I1.kept (t' := s1.toks) hk
      refine ⟨s1.heap.objs.size + 1, [s1.heap.objs.size + 1, s1.heap.objs.size], _, _, H1, rfl, I2, turn_enumT l _ _, ⟨⟨.none, he⟩, hit, Nat.succ_ne_self _, Nat.ne_of_lt hlt, Nat.ne_of_lt (Nat.lt_succ_of_lt hlt)⟩, fun b hb => ?_, hR⟩
      have := hle b (by simpa using hb)
      exact I1.fpOk this (I1.hok.fresh this)
theorem PI.imp {t t' : TI} (h : PI X tg a t) (k : ∀ σ H R, t' σ H R → t σ H R) : PI X tg a t' := ⟨fun pins s σ H R I q => h.run pins s σ H R I (k σ H R q)⟩
theorem i_seq (hG : X.K = G.K) (ha : PE X a (tV G eh W P cs ca)) : PI X tg a (tI G eh W P cs (.seq ca)) := by
  refine PI.imp (pi_any ha) fun σ H R q => ?_
  obtain ⟨F, am, env, μ, s, en, h⟩ := q
  rw [evi] at h
  refine tV.go s en h fun p v μ1 F1 H1 am1 x1 s1 r1 en1 h1 => ?_
  unfold srcSeq at h1
  rw [hG]
  split at h1
  · cases r1 with
    | tup e1 e2 => exact .inr (.inl ⟨_, rfl, ⟨_, SqT.same s1.sub e1⟩, h1.ok_now s1 _ (srcOk_tup e2 e1)⟩)
  · cases r1 with
    | lst e1 e2 => exact .inl ⟨_, rfl, ⟨_, SqL.of (s1.sub _ _ e1)⟩, h1.ok_now s1 _ (srcOk_list e2 e1)⟩
  · cases r1 with
    | str _ o => exact .inr (.inr ⟨_, rfl, h1.ok_now s1 _ (srcOk_str o)⟩)
  · split at h1
    · rename_i em
      cases r1 with
      | loc e1 =>
        obtain ⟨a', ha', ys, e2, r⟩ := s1.cellAt em
        rw [e1] at ha'; cases ha'
        exact .inl ⟨_, rfl, ⟨_, SqL.of e2⟩, h1.ok_now s1 _ (srcOk_live e1)⟩
    · exact h1.elim
  · exact h1.elim
theorem small62_of {i : Int} (h : small62 i = true) : -(2 ^ 62) ≤ i ∧ i < 2 ^ 62 := by simpa [small62] using h
theorem i_rng1 {p : Pos} (hg : Gl X "range") (hm : X.mg "range" = none) (h1 : nst a = true) (ha : PE X a (tV G eh W P cs ca)) : PI X tg (.Call (.Name "range" p) [a] [] pos) (tI G eh W P cs (.rng1 ca)) := by
  refine PI.imp (pi_range1 hg hm (pa_cons ha pa_nil (star_cons h1)) (star_cons h1)) fun σ H R q => ?_
  obtain ⟨F, am, env, μ, s, en, h⟩ := q
  rw [evi] at h
  refine tV.go s en h fun p v μ1 F1 H1 am1 x1 s1 r1 en1 h1 => ?_
  unfold srcRng1 at h1
  split at h1
  · split at h1
    · rename_i j hj
      cases r1
      obtain ⟨e1, e2⟩ := small62_of hj
      refine ⟨_, rfl, e1, e2, h1.ok_now s1 _ ?_⟩
      have := srcOk_rng (G := G) (eh := eh) (F := F1) (am := am1) (lo := 0) (n := Int.toNat ‹Int›)
      simpa using this
    · exact h1.elim
  · exact h1.elim
theorem i_rng2 {p : Pos} (hg : Gl X "range") (hm : X.mg "range" = none) (h1 : nst a = true) (h2 : nst b = true) (ha : PE X a (tV G eh W P cs ca)) (hb : PE X b (tV G eh W P cs cb)) : PI X tg (.Call (.Name "range" p) [a, b] [] pos) (tI G eh W P cs (.rng2 ca cb)) := by
  refine PI.imp (pi_range2 hg hm (pa_cons ha (pa_cons hb pa_nil (star_cons h2)) (star_cons h1)) (by rw [star_cons h1, star_cons h2]; rfl) (by rw [star_cons h2]; rfl)) fun σ H R q => ?_
  obtain ⟨F, am, env, μ, s, en, h⟩ := q
  rw [evi] at h
  refine tV.go s en h fun p v μ1 F1 H1 am1 x1 s1 r1 en1 h1 => ?_
  refine tV.go s1 en1 h1 fun q u μ2 F2 H2 am2 x2 s2 r2 en2 h2 => ?_
  unfold srcRng2 at h2
  split at h2
  · split at h2
    · rename_i i j hj
      cases r1
      cases r2
      simp only [Bool.and_eq_true] at hj
      obtain ⟨e1, e2⟩ := small62_of hj.1
      obtain ⟨e3, e4⟩ := small62_of hj.2
      exact ⟨_, _, rfl, ⟨e1, e2, e3, e4⟩, h2.ok_now s2 _ srcOk_rng⟩
    · exact h2.elim
  · exact h2.elim
theorem i_enum (hG : X.K = G.K) {elts : List Expr} {kk : Nat} {tpos p : Pos} (hg : Gl X "enumerate") (hm : X.mg "enumerate" = none) (h1 : nst a = true) (ha : PE X a (tV G eh W P cs ca)) :
    PI X (.Tuple elts kk tpos) (.Call (.Name "enumerate" p) [a] [] pos) (tI G eh W P cs (.enum ca)) := by
  refine PI.imp (pi_enumA hg hm (pa_cons ha pa_nil (star_cons h1)) (star_cons h1)) fun σ H R q => ?_
  obtain ⟨F, am, env, μ, s, en, h⟩ := q
  rw [evi] at h
  refine tV.go s en h fun p v μ1 F1 H1 am1 x1 s1 r1 en1 h1 => ?_
  unfold srcEnum at h1
  rw [hG]
  split at h1
  · cases r1 with
    | tup e1 e2 => exact ⟨_, rfl, .inr ⟨_, SqT.same s1.sub e1, h1.ok_now s1 _ (srcOk_enumT e2 e1)⟩⟩
  · cases r1 with
    | lst e1 e2 => exact ⟨_, rfl, .inl ⟨_, SqL.of (s1.sub _ _ e1), h1.ok_now s1 _ (srcOk_enumL e2 e1)⟩⟩
  · split at h1
    · rename_i em
      cases r1 with
      | loc e1 =>
        obtain ⟨a', ha', ys, e2, r⟩ := s1.cellAt em
        rw [e1] at ha'; cases ha'
        exact ⟨_, rfl, .inl ⟨_, SqL.of e2, h1.ok_now s1 _ (srcOk_liveEnum e1)⟩⟩
    · exact h1.elim
  · exact h1.elim
theorem i_zip (hG : X.K = G.K) {elts : List Expr} {kk : Nat} {tpos p : Pos} (hg : Gl X "zip") (hm : X.mg "zip" = none) (h1 : nst a = true) (h2 : nst b = true) (ha : PE X a (tV G eh W P cs ca)) (hb : PE X b (tV G eh W P cs cb)) :
    PI X (.Tuple elts kk tpos) (.Call (.Name "zip" p) [a, b] [] pos) (tI G eh W P cs (.zip ca cb)) := by
  refine PI.imp (pi_zipA hg hm (pa_cons ha (pa_cons hb pa_nil (star_cons h2)) (star_cons h1)) (star_cons h1) (star_none pos (by simpa using h2))) fun σ H R q => ?_
  obtain ⟨F, am, env, μ, s, en, h⟩ := q
  rw [evi] at h
  refine tV.go s en h fun p v μ1 F1 H1 am1 x1 s1 r1 en1 h1 => ?_
  refine tV.go s1 en1 h1 fun q u μ2 F2 H2 am2 x2 s2 r2 en2 h2 => ?_
  unfold srcZip at h2
  rw [hG]
  have r1 := x2.rep r1
  split at h2
  · cases r1 with
    | tup e1 e2 =>
      cases r2 with
      | tup e3 e4 => exact ⟨_, _, _, _, rfl, .inr ⟨SqT.same s2.sub e1, SqT.same s2.sub e3, h2.ok_now s2 _ (srcOk_zipT e2 e4 e1 e3)⟩⟩
  · cases r1 with
    | lst e1 e2 =>
      cases r2 with
      | lst e3 e4 => exact ⟨_, _, _, _, rfl, .inl ⟨SqL.of (s2.sub _ _ e1), SqL.of (s2.sub _ _ e3), h2.ok_now s2 _ (srcOk_zipL e2 e4 e1 e3)⟩⟩
  · exact h2.elim
/-! ### for -/
theorem s_for {body : List Stmt} {it : CI} {p : Pat} {cl : List CS} (hp : PassesOwn (model X.prog X.w) X.A X.env X.xe) (hc : X.calm = true) (hn : nset a = true) (hi : PI X tg a (tI G eh W P cs it)) (hg : PG X tg (gP G eh p)) (hb : PSs X body (tCs G eh W P cs cl)) :
    PS X (.For tg a body [] pos) (tC1 G eh W P cs (.forr p it cl)) := by
  refine PS.imp (ps_for hp hc hi hg hb (no_folded hn)) fun D σ H q => ?_
  obtain ⟨F, am, env, μ, s, en, h⟩ := tC1.out q
  rw [NR.exec] at h
  refine ⟨F, am, env, μ, s, en, (h.of en).mono fun src μ1 F1 H1 am1 x1 s1 h1 J hJ => ?_⟩
  refine ⟨fun i m σ' H' => ∃ F' am' env' μ', StOk G eh F' H' am' μ' ∧ EnvOk G eh F' am' σ' env' ∧ SrcOk G eh F' am' src J ∧
    WpS G eh F' H' am' (forLoop src (fun x env μ => match setPat p x env with | some env' => NR.execs P cs cl env' μ | none => .bad) m i env' μ') D (wish G W), ⟨_, F1, am1, env, μ1, s1, x1.en en, hJ, h1⟩, ?_⟩
  rintro i m σ' H' ⟨F', am', env', μ', s', en', hJ', h'⟩
  have hat := hJ' i F' H' am' μ' (Same.refl _) (List.prefix_refl _) s'
  cases m with
  | zero =>
    rw [forLoop] at h'
    split at h'
    · rename_i e
      exact .inl ⟨hat _ e, h' σ' F' H' am' Ext.refl s' en'⟩
    · exact False.elim h'
  | succ m =>
    rw [forLoop] at h'
    split at h'
    · rename_i e
      exact .inl ⟨hat _ e, h' σ' F' H' am' Ext.refl s' en'⟩
    · rename_i x e
      obtain ⟨g, y⟩ := hat _ e
      refine .inr ⟨g, _, fun σ2 H2 w => ⟨m, Nat.lt_succ_self m, w⟩, fun v H2 q => ?_⟩
      obtain ⟨F2, x2, s2, r2⟩ := y v H2 q
      have h2 := h'.later x2
      have en2 := x2.en en'
      cases e2 : setPat p x env' with
      | none =>
        rw [e2] at h2
        exact False.elim h2
      | some env2 =>
        rw [e2] at h2
        refine ⟨F2, am', x, env', env2, s2.sub, r2, en2, e2, fun σ3 en3 _ => ?_⟩
        have h2 : WpS G eh F2 H2 am' ((NR.execs P cs cl env2 μ').andThen fun env μ => forLoop src (fun x env μ => match setPat p x env with | some env' => NR.execs P cs cl env' μ | none => .bad) m (i + 1) env μ) D (wish G W) := h2
        have h3 := h2.bind
        refine ⟨F2, am', env2, μ', s2, en3, ?_⟩
        show WpS G eh F2 H2 am' (NR.execs P cs cl env2 μ') _ _
        cases e3 : NR.execs P cs cl env2 μ' with
        | bad => rw [e3] at h3; exact h3
        | rt p μ1 => rw [e3] at h3; exact h3
        | exn d env1 μ1 => rw [e3] at h3; exact h3
        | nx env1 μ1 =>
          rw [e3] at h3
          intro σ4 F4 H4 am4 x4 s4 en4
          obtain ⟨F5, am5, env5, μ5, s5, en5, x5, h5⟩ := h3 σ4 F4 H4 am4 x4 s4 en4
          exact ⟨F5, am5, env5, μ5, s5, en5, hJ'.mono (x2.f.trans x5.f) (x2.a.trans x5.a), h5⟩
    · exact False.elim h'
end
end NR

/-! NR3e: list comprehensions. -/
namespace NR
open PySem L2
open PySem.Spec PyProof.Rows RZ
section
variable {G : Gi} {eh : List (Addr × Nat)} {F F' H H' F1 H1 : Hp} {am am' am1 : List Addr} {μ : Sto} {D : Addr} {o : HO}
/-- a thing that is neither frozen nor a cell is written -/
theorem tabs_side {T : List (Addr × Str)} (t : LamX.Tabs T H) (h : H D = none ∨ ∃ xs, H D = some (.lst xs)) : LamX.Tabs T (upd H D o) := by
  rcases h with h | ⟨xs, h⟩
  · exact t.ext fun b u e => by rw [upd_ne (ne_of_none e h)]; exact e
  · exact tabs_write t h (fun ps z => by cases z) fun c q z => by unfold LamX.CodeO at z; cases z
theorem StOk.side (s : StOk G eh F H am μ) (h1 : D ∉ am) (h2 : F D = none) (h : H D = none ∨ ∃ xs, H D = some (.lst xs)) : StOk G eh F (upd H D o) am μ := by
  refine ⟨s.len, s.nd, s.fr, fun b u e => ?_, s.ft, tabs_side s.tb h, fun n a c e1 e2 => ?_⟩
  · rw [upd_ne (ne_of_none e h2)]; exact s.sub b u e
  · refine (s.cell n a c e1 e2).mono (Same.refl F) (List.prefix_refl _) ?_
    rw [upd_ne (fun z => h1 (by rw [← z]; exact List.mem_of_getElem? e1))]
theorem Ext.side (x : Ext F1 H1 am1 F H am) (h : H1 D = none) : Ext F1 H1 am1 F (upd H D o) am := by
  refine ⟨x.f, x.a, fun b u e nt hb => ?_, fun b hb => ?_, x.nf, x.na⟩
  · rw [upd_ne (ne_of_none e h)]; exact x.h b u e nt hb
  · by_cases z : b = D
    · subst z; exact absurd h hb
    · rw [upd_ne z]; exact x.th b hb
theorem StOk.free (s : StOk G eh F H am μ) (h : H D = none) : D ∉ am ∧ F D = none := by
  refine ⟨fun hm => ?_, ?_⟩
  · obtain ⟨u, e⟩ := s.there hm
    rw [h] at e; cases e
  · cases e : F D with
    | none => rfl
    | some u => rw [s.sub _ _ e] at h; cases h
/-- .. it stands from now on -/
theorem StOk.froze (s : StOk G eh F H am μ) (h1 : D ∉ am) (h2 : F D = none) (h3 : H D = some o) (ho : ∀ ps, o ≠ .tbl ps := by intro _ z; cases z) : StOk G eh (upd F D o) H am μ ∧ Same F (upd F D o) := by
  have sf : Same F (upd F D o) := fun b u e => by rw [upd_ne (ne_of_none e h2)]; exact e
  refine ⟨⟨s.len, s.nd, fun a ha => ?_, fun b u e => ?_, fun b ps e => ?_, s.tb, fun n a c e1 e2 => (s.cell n a c e1 e2).mono sf (List.prefix_refl _) rfl⟩, sf⟩
  · rw [upd_ne (fun z => h1 (by rw [← z]; exact ha))]; exact s.fr a ha
  · by_cases z : b = D
    · subst z; rw [upd_same] at e; cases e; exact h3
    · rw [upd_ne z] at e; exact s.sub b u e
  · by_cases z : b = D
    · subst z; rw [upd_same] at e; exact ho ps (Option.some.inj e)
    · rw [upd_ne z] at e; exact s.ft b ps e
theorem Ext.froze (x : Ext F1 H1 am1 F H am) (h : H1 D = none) (h2 : F D = none) : Ext F1 H1 am1 (upd F D o) H am := by
  refine ⟨fun b u e => ?_, x.a, x.h, x.th, fun b hb => ?_, x.na⟩
  · have := x.f b u e
    rw [upd_ne (ne_of_none this h2)]; exact this
  · by_cases z : b = D
    · subst z; exact absurd h hb
    · rw [upd_ne z]; exact x.nf b hb
/-- .. it is a cell from now on -/
theorem StOk.asCell {ps : List PV} {xs : List V} (s : StOk G eh F H am μ) (h1 : D ∉ am) (h2 : F D = none) (h3 : H D = some (.lst xs)) (r : RepL G eh F am ps xs) : StOk G eh F H (am ++ [D]) (μ ++ [.list ps]) := by
  refine ⟨by simp [s.len], ?_, fun a ha => ?_, s.sub, s.ft, s.tb, fun n a d e1 e2 => ?_⟩
  · rw [List.nodup_append]
    exact ⟨s.nd, by simp, fun x hx y hy z => h1 (by rw [List.mem_singleton] at hy; rw [← hy, ← z]; exact hx)⟩
  · rcases List.mem_append.mp ha with ha | ha
    · exact s.fr a ha
    · rw [List.mem_singleton.mp ha]; exact h2
  · by_cases hn : n < am.length
    · rw [List.getElem?_append_left hn] at e1
      rw [List.getElem?_append_left (by rw [← s.len]; exact hn)] at e2
      exact (s.cell n a d e1 e2).mono (Same.refl F) (List.prefix_append _ _) rfl
    · have hl : am.length ≤ n := Nat.le_of_not_lt hn
      rw [List.getElem?_append_right hl] at e1
      rw [List.getElem?_append_right (by rw [← s.len]; exact hl), ← s.len] at e2
      cases hk : n - am.length with
      | zero =>
        rw [hk] at e1 e2
        simp at e1 e2
        subst e1; subst e2
        exact ⟨xs, h3, RepL.mono (Same.refl F) (List.prefix_append _ _) _ _ r⟩
      | succ k => rw [hk] at e1; simp at e1
theorem Ext.asCell (x : Ext F1 H1 am1 F H am) (h : H1 D = none) : Ext F1 H1 am1 F H (am ++ [D]) := by
  refine ⟨x.f, x.a.trans (List.prefix_append _ _), x.h, x.th, x.nf, fun b hb hn => ?_⟩
  rcases List.mem_append.mp hb with hb | hb
  · exact x.na b hb hn
  · rw [List.mem_singleton.mp hb]; exact h
theorem Ext.away (x : Ext F H am F' H' am') (h1 : D ∉ am) (h2 : F D = none) (h3 : H D = some o) (ho : ∀ ps, o ≠ .tbl ps := by intro _ z; cases z) : D ∉ am' ∧ F' D = none ∧ H' D = some o := by
  have ne : H D ≠ none := by rw [h3]; simp
  refine ⟨fun hm => ne (x.na D hm h1), (x.nf D ne).trans h2, x.h D o h3 ho h1⟩
/-- within a comprehension: from the base's wish to the turn's -/
theorem WpR.calm {α β γ : Type} {r : R α} {k : α → Sto → R β} {m : β → Sto → R γ} {okk : γ → Sto → Hp → Hp → List Addr → Prop} {ex ex' : Nat → Hp → Prop} (h : WpR G eh F1 H1 am1 ((NR.calm (r.bind k)).bind m) okk ex) :
    WpR G eh F H am r (fun a μ _ _ _ => WpR G eh F1 H1 am1 ((NR.calm (k a μ)).bind m) okk ex) ex' := by
  cases r with
  | bad => exact h
  | exn c μ => exact False.elim h
  | ok a μ => exact fun _ _ _ _ _ => h
theorem wipe_idem (σ : L2.St) (vs : List Nat) : wipe (wipe σ vs) vs = wipe σ vs := by
  induction vs with
  | nil => rfl
  | cons v vs ih =>
    show (wipe ((wipe σ vs).set v none) vs).set v none = (wipe σ vs).set v none
    rw [wipe_set_comm, ih, List.set_set]
end
section
variable {X : Cx} {G : Gi} {eh : List (Addr × Nat)} {W : WX} {P : Prog} {cs : CallS} {pos : Pos} {tg elt iter : Expr} {ce : CE} {cond : Option CE} {ci : CI} {p : Pat} {cell : Bool}
def W0 : WX := fun _ _ _ _ => False
/-- a clause's test -/
def tCond (G : Gi) (eh : List (Addr × Nat)) (P : Prog) (cs : CallS) : Option CE → TT
  | none => tYes
  | some c => tVt G eh W0 P cs c
theorem turn_some (c : CE) (env env' : EnvP) (x : PV) (μ : Sto) (e : setPat p x (wipeE env (patSlots p)) = some env') : turnOf P cs ce p (some c) env x μ = (evT P cs c env' μ).bind fun k μ => if k = true then (ev P cs ce env' μ).bind fun y μ => .ok (some y) μ else .ok none μ := by
  unfold turnOf
  rw [e]
  show ((ev P cs c env' μ).bind _) = _
  rw [evT, R.bind_assoc]
  congr 1
  funext t μ
  cases truth μ t with
  | none => rfl
  | some k => cases k <;> rfl
theorem lc_reading {σ : L2.St} {H : Hp} {Q : VK} (hG : X.K = G.K) (q : tV G eh W P cs (.comp cell ce p ci cond) σ H Q) : tLc (tI G eh W P cs ci) (gP G eh p) (tCond G eh P cs cond) (tV G eh W0 P cs ce) (patSlots p) σ H Q := by
  obtain ⟨F, am, env, μ, s, en, h⟩ := tV.out q
  rw [ev_comp] at h
  refine ⟨F, am, env, μ, s, en, h.bind.mono fun src μ1 F1 H1 am1 x1 s1 h1 J hJ D hD => ?_⟩
  have en1 := x1.en en
  obtain ⟨d1, d2⟩ := s1.free hD
  refine ⟨fun i m H' => ∃ F' am' μ' acc xs, StOk G eh F' H' am' μ' ∧ Ext F1 H1 am1 F' H' am' ∧ H' D = some (.lst xs) ∧ RepL G eh F' am' acc xs ∧ D ∉ am' ∧ F' D = none ∧
    WpR G eh F1 H1 am1 ((calm (compLoop src (turnOf P cs ce p cond env) m i acc μ')).bind fun ys μ => mkLst cell ys μ) (fun p _ F' H' am' => ∀ v, Rep G eh F' am' p v → Q v H') (wish G W σ),
    ⟨_, F1, am1, μ1, [], [], s1.side d1 d2 (.inl hD), Ext.refl.side hD, upd_same, .nil, d1, d2, h1⟩, ?_⟩
  rintro i m H' ⟨F', am', μ', acc, xs, s', x', hx, rx, n1, n2, h'⟩
  have hat := (hJ.mono x'.f x'.a) i F' H' am' μ' (Same.refl _) (List.prefix_refl _) s'
  have stop : WpR G eh F1 H1 am1 ((calm (R.ok acc μ')).bind fun ys μ => mkLst cell ys μ) (fun p _ F' H' am' => ∀ v, Rep G eh F' am' p v → Q v H') (wish G W σ) → Q (.ref D) H' := by
    intro hw
    have hw : WpR G eh F1 H1 am1 (mkLst cell acc μ') (fun p _ F' H' am' => ∀ v, Rep G eh F' am' p v → Q v H') (wish G W σ) := hw
    unfold mkLst at hw
    cases cell with
    | true =>
      rw [if_pos rfl] at hw
      refine hw F' H' (am' ++ [D]) (x'.asCell hD) (s'.asCell n1 n2 hx rx) _ (.loc ?_)
      rw [← s'.len]; simp
    | false =>
      rw [if_neg (by decide)] at hw
      obtain ⟨s2, f2⟩ := s'.froze n1 n2 hx
      exact hw _ H' am' (x'.froze hD n2) s2 _ (.lst upd_same (RepL.mono f2 (List.prefix_refl _) _ _ rx))
  cases m with
  | zero =>
    rw [compLoop] at h'
    split at h'
    · rename_i e
      exact .inl ⟨hat _ e, stop h'⟩
    · exact False.elim h'
  | succ m =>
    rw [compLoop] at h'
    split at h'
    · rename_i e
      exact .inl ⟨hat _ e, stop h'⟩
    · rename_i x e
      obtain ⟨g, y⟩ := hat _ e
      refine .inr ⟨g, _, fun H2 w => ⟨m, Nat.lt_succ_self m, w⟩, fun v H2 q2 => ?_⟩
      obtain ⟨F2, x2, s2, r2⟩ := y v H2 q2
      have en2 : EnvOk G eh F2 am' σ env := (en1.mono x'.f x'.a).mono x2.f x2.a
      obtain ⟨m1, m2, m3⟩ := x2.away n1 n2 hx
      have x02 := x'.trans x2
      cases e2 : setPat p x (wipeE env (patSlots p)) with
      | none =>
        have : turnOf P cs ce p cond env x μ' = .bad := by unfold turnOf; rw [e2]
        rw [this] at h'
        exact False.elim h'
      | some env2 =>
        refine ⟨F2, am', x, wipeE env (patSlots p), env2, s2.sub, r2, en2.wipe _, e2, fun σ2 en3 w => ⟨w.trans (wipe_idem _ _), ?_⟩⟩
        -- what a turn's value does
        have fin : ∀ {F3 H3 : Hp} {am3 : List Addr} {μ3 : Sto}, Ext F1 H1 am1 F3 H3 am3 → StOk G eh F3 H3 am3 μ3 → RepL G eh F3 am3 acc xs → D ∉ am3 → F3 D = none → H3 D = some (.lst xs) → EnvOk G eh F3 am3 σ2 env2 →
            WpR G eh F1 H1 am1 ((calm ((ev P cs ce env2 μ3).bind fun y μ => if acc.length < SL then compLoop src (turnOf P cs ce p cond env) m (i + 1) (acc ++ [y]) μ else .bad)).bind fun ys μ => mkLst cell ys μ) (fun p _ F' H' am' => ∀ v, Rep G eh F' am' p v → Q v H') (wish G W σ) →
            tV G eh W0 P cs ce σ2 H3 fun y H4 => ∃ acc', H4 D = some (.lst acc') ∧ acc'.length < sizeLine ∧ (fun H' => ∃ F' am' μ' acc xs, StOk G eh F' H' am' μ' ∧ Ext F1 H1 am1 F' H' am' ∧ H' D = some (.lst xs) ∧ RepL G eh F' am' acc xs ∧ D ∉ am' ∧ F' D = none ∧
              WpR G eh F1 H1 am1 ((calm (compLoop src (turnOf P cs ce p cond env) m (i + 1) acc μ')).bind fun ys μ => mkLst cell ys μ) (fun p _ F' H' am' => ∀ v, Rep G eh F' am' p v → Q v H') (wish G W σ)) (upd H4 D (.lst (acc' ++ [y]))) := by
          intro F3 H3 am3 μ3 x3 s3 ra k1 k2 k3 en4 h3
          refine ⟨F3, am3, env2, μ3, s3, en4, (WpR.calm h3).mono fun yv μ4 F4 H4 am4 x4 s4 h4 v rv => ?_⟩
          obtain ⟨l1, l2, l3⟩ := x4.away k1 k2 k3
          split at h4
          · rename_i hl
            refine ⟨xs, l3, by rw [← ra.length, ← SL_eq]; exact hl, F4, am4, μ4, acc ++ [yv], xs ++ [v], s4.side l1 l2 (.inr ⟨_, l3⟩), (x3.trans x4).side hD, upd_same, (x4.repL ra).append (.cons rv .nil), l1, l2, h4⟩
          · exact False.elim h4
        cases cond with
        | none =>
          have e3 : turnOf P cs ce p none env x μ' = (ev P cs ce env2 μ').bind fun y μ => .ok (some y) μ := by unfold turnOf; rw [e2]
          rw [e3, R.bind_assoc] at h'
          have key := fin x02 s2 (x2.repL rx) m1 m2 m3 en3 h'
          simp only [tCond, tYes, if_true]
          exact key
        | some c =>
          rw [turn_some c env env2 x μ' e2, R.bind_assoc] at h'
          refine ⟨F2, am', env2, μ', s2, en3, (WpR.calm h').mono fun k μ3 F3 H3 am3 x3 s3 h3 => ?_⟩
          obtain ⟨l1, l2, l3⟩ := x3.away m1 m2 m3
          cases k with
          | true =>
            rw [if_pos rfl] at h3 ⊢
            rw [R.bind_assoc] at h3
            exact fin (x02.trans x3) s3 (x3.repL (x2.repL rx)) l1 l2 l3 (x3.en en3) h3
          | false =>
            rw [if_neg (by decide)] at h3 ⊢
            exact ⟨F3, am3, μ3, acc, xs, s3, x02.trans x3, l3, x3.repL (x2.repL rx), l1, l2, h3⟩
    · exact False.elim h'
theorem r_comp (hG : X.K = G.K) (hc : X.calm = true) (hN : X.N.Nodup) {ifs : List Expr} {scope : Scope} {own : List (Str × Nat)} (hn : nset iter = true) (ho : own.map (·.2) = patSlots p) (ok : BlkOk X.N X.env.scope scope own) (hi : PI X tg iter (tI G eh W P cs ci))
    (hg : ∀ (s : Shared) (H : Hp) (C : Addr) (cl : List (Str × Addr)) (fp : List Addr), PG (X.blk s H scope (compEnvC scope cl C X.env) fp) tg (gP G eh p))
    (ht : ∀ (s : Shared) (H : Hp) (C : Addr) (cl : List (Str × Addr)) (fp : List Addr), PTs (X.blk s H scope (compEnvC scope cl C X.env) fp) ifs (tCond G eh P cs cond))
    (he : ∀ (s : Shared) (H : Hp) (C : Addr) (cl : List (Str × Addr)) (fp : List Addr), PE (X.blk s H scope (compEnvC scope cl C X.env) fp) elt (tV G eh W0 P cs ce)) :
    PE X (.ListComp elt [⟨tg, iter, ifs, 0⟩] scope pos) (tV G eh W P cs (.comp cell ce p ci cond)) := by
  have := pe_lc (pos := pos) hc hN hi ok hg ht he (no_folded hn)
  rw [ho] at this
  exact PE.imp this fun σ H Q q => lc_reading hG q
theorem s_setcomp (hG : X.K = G.K) (hc : X.calm = true) (hN : X.N.Nodup) {i : Nat} {y : Str} {py spos : Pos} {ifs : List Expr} {scope : Scope} {own : List (Str × Nat)} (hy : X.N[i]? = some y) (hyl : X.env.scope.names.lookup y = some .local)
    (hsw : swapsWith (.ListComp elt [⟨tg, iter, ifs, 0⟩] scope pos) (some (.Name y py)) spos.line X.env = pure true) (hn : nset iter = true) (ho : own.map (·.2) = patSlots p) (ok : BlkOk X.N X.env.scope scope own) (hi : PI X tg iter (tI G eh W P cs ci))
    (hg : ∀ (s : Shared) (H : Hp) (C : Addr) (cl : List (Str × Addr)) (fp : List Addr), PG (X.blk s H scope (compEnvC scope cl C X.env) fp) tg (gP G eh p))
    (ht : ∀ (s : Shared) (H : Hp) (C : Addr) (cl : List (Str × Addr)) (fp : List Addr), PTs (X.blk s H scope (compEnvC scope cl C X.env) fp) ifs (tCond G eh P cs cond))
    (he : ∀ (s : Shared) (H : Hp) (C : Addr) (cl : List (Str × Addr)) (fp : List Addr), PE (X.blk s H scope (compEnvC scope cl C X.env) fp) elt (tV G eh W0 P cs ce)) :
    PS X (.Assign [.Name y py] (.ListComp elt [⟨tg, iter, ifs, 0⟩] scope pos) spos) (tC1 G eh W P cs (.asg (.v i) (.comp cell ce p ci cond))) := by
  have := ps_setLc hc hN hy hyl hsw hi ok hg ht he (no_folded hn)
  rw [ho] at this
  refine PS.imp this fun D σ H q => ?_
  obtain ⟨F, am, env, μ, s, en, h⟩ := tC1.out q
  rw [NR.exec] at h
  refine lc_reading (X := X) (cell := cell) hG (tV.goS s en h fun q v μ1 F1 H1 am1 x1 s1 r1 en1 h1 => ?_)
  exact h1 _ F1 H1 am1 Ext.refl s1 (en1.set r1)
end
end NR

/-! NR3f: plain parameters; what a def promises. -/
namespace NR
open PySem L2
open PySem.Spec PyProof.Rows
theorem lookup_zip : ∀ {ns : List Str} {us : List Value}, ns.Nodup → us.length = ns.length → (ns.filterMap fun n => ((ns.zip us).lookup n).map (n, ·)) = ns.zip us
  | [], _, _, _ => rfl
  | n :: ns, [], _, h => by cases h
  | n :: ns, u :: us, hn, h => by
    rw [List.nodup_cons] at hn
    have hl : us.length = ns.length := by simpa using h
    rw [List.zip_cons_cons, List.filterMap_cons]
    simp only [List.lookup_cons_self, Option.map_some]
    congr 1
    have e : ∀ m ∈ ns, ((((n, u) :: ns.zip us).lookup m).map (m, ·)) = (((ns.zip us).lookup m).map (m, ·)) := by
      intro m hm
      have : (m == n) = false := by
        rw [beq_eq_false_iff_ne]
        intro z; subst z; exact hn.1 hm
      rw [List.lookup_cons, this]
    have e2 : ∀ (l : List Str), (∀ m ∈ l, m ∈ ns) → (l.filterMap fun m => (((n, u) :: ns.zip us).lookup m).map (m, ·)) = (l.filterMap fun m => ((ns.zip us).lookup m).map (m, ·)) := by
      intro l
      induction l with
      | nil => intro _; rfl
      | cons m l ih =>
        intro hm
        rw [List.filterMap_cons, List.filterMap_cons, e m (hm m List.mem_cons_self), ih fun k hk => hm k (List.mem_cons_of_mem _ hk)]
    rw [e2 ns fun _ h => h]
    exact lookup_zip hn.2 hl
theorem lookup_some : ∀ {ns : List Str} {us : List Value}, us.length = ns.length → ∀ n ∈ ns, ((ns.zip us).lookup n).isNone = false
  | [], _, _, n, h => by cases h
  | m :: ns, [], h, _, _ => by cases h
  | m :: ns, u :: us, h, n, hn => by
    rw [List.zip_cons_cons, List.lookup_cons]
    cases e : n == m with
    | true => rfl
    | false =>
      rcases List.mem_cons.mp hn with z | z
      · subst z; simp at e
      · exact lookup_some (by simpa using h) n z
theorem bind_plain {x qual : Str} {as : List Arg} {body : List Stmt} {scope : Scope} {kV doc pm cdv ct : Value} {an : Option Addr} {us : List Value} (nd : (as.map (·.arg)).Nodup) (hl : us.length = (as.map (·.arg)).length) :
    bindArgs (PySem.W.fnOf x qual ⟨[], as, none, [], [], none, []⟩ body scope .none kV doc pm an cdv ct) ⟨us, []⟩ = pure ((as.map (·.arg)).zip us) := by
  unfold bindArgs
  have h1 : ¬ (us.length > (as.map (·.arg)).length ∧ True) := by omega
  have hm : ((as.map (·.arg)).filter fun n => (((as.map (·.arg)).zip us).lookup n).isNone) = [] := by
    rw [List.filter_eq_nil_iff]
    intro n hn
    rw [lookup_some hl n hn]
    simp
  have h2 : ¬ (as.length < us.length) := by simp at hl; omega
  have h3 : List.take as.length (as.map (·.arg)) = as.map (·.arg) := List.take_of_length_le (by simp)
  have h4 : notAStandIn Value.none = (pure () : Sem Unit) := rfl
  have h5 := lookup_zip nd hl
  rw [List.filterMap_map] at h5
  simp [PySem.W.fnOf, seqItems?, hm, h2, h3, h4, h5]
/-! ### what a def promises -/
section
variable {G : Gi} {eh : List (Addr × Nat)} {F F' H H' : Hp} {am am' : List Addr} {μ : Sto}
mutual
/-- plain data leans on what is frozen alone -/
theorem Rep.pure {eh' : List (Addr × Nat)} (hf : ∀ b xs, F b = some (.lst xs) → F' b = some (.lst xs)) (ht : ∀ b xs, SqT G.K F b xs → SqT G.K F' b xs) : ∀ (p : PV) (v : V), Rep G eh F am p v → pure? p = true → Rep G eh' F' am' p v
  | .non, _, r, _ => by cases r; exact .non
  | .bl b, _, r, _ => by cases r; exact .bl b
  | .int i, _, r, _ => by cases r; exact .int i
  | .str s, _, r, _ => by cases r with | str _ o => exact .str s o
  | .tup ps, _, r, h => by cases r with | tup h1 h2 => exact .tup (ht _ _ h1) (RepL.pure hf ht ps _ h2 (by simpa [pure?] using h))
  | .lst ps, _, r, h => by cases r with | lst h1 h2 => exact .lst (hf _ _ h1) (RepL.pure hf ht ps _ h2 (by simpa [pure?] using h))
  | .loc _, _, _, h => by simp [pure?] at h
  | .exc _, _, _, h => by simp [pure?] at h
  | .scr _, _, _, h => by simp [pure?] at h
theorem RepL.pure {eh' : List (Addr × Nat)} (hf : ∀ b xs, F b = some (.lst xs) → F' b = some (.lst xs)) (ht : ∀ b xs, SqT G.K F b xs → SqT G.K F' b xs) : ∀ (ps : List PV) (vs : List V), RepL G eh F am ps vs → pures ps = true → RepL G eh' F' am' ps vs
  | [], _, r, _ => by cases r; exact .nil
  | p :: ps, _, r, h => by
    cases r with
    | cons h1 h2 =>
      simp only [pures, Bool.and_eq_true] at h
      exact .cons (Rep.pure hf ht p _ h1 h.1) (RepL.pure hf ht ps _ h2 h.2)
end
mutual
theorem Rep.hard (ht : ∀ b xs, SqT G.K F b xs → SqT G.K F' b xs) : ∀ (p : PV) (v : V), Rep G eh F am p v → hard? p = true → Rep G eh F' am' p v
  | .non, _, r, _ => by cases r; exact .non
  | .bl b, _, r, _ => by cases r; exact .bl b
  | .int i, _, r, _ => by cases r; exact .int i
  | .str s, _, r, _ => by cases r with | str _ o => exact .str s o
  | .tup ps, _, r, h => by cases r with | tup h1 h2 => exact .tup (ht _ _ h1) (RepL.hard ht ps _ h2 (by simpa [hard?] using h))
  | .lst ps, _, r, h => by simp [hard?] at h
  | .loc _, _, _, h => by simp [hard?] at h
  | .exc _, _, _, h => by simp [hard?] at h
  | .scr _, _, _, h => by simp [hard?] at h
theorem RepL.hard (ht : ∀ b xs, SqT G.K F b xs → SqT G.K F' b xs) : ∀ (ps : List PV) (vs : List V), RepL G eh F am ps vs → hards ps = true → RepL G eh F' am' ps vs
  | [], _, r, _ => by cases r; exact .nil
  | p :: ps, _, r, h => by
    cases r with
    | cons h1 h2 =>
      simp only [hards, Bool.and_eq_true] at h
      exact .cons (Rep.hard ht p _ h1 h.1) (RepL.hard ht ps _ h2 h.2)
end
theorem sqT_of {K : PySem.W.Frag} {H H' : Hp} {b : Addr} {xs : List V} (h : SqT K H b xs) (h1 : ∀ xs, H b = some (.tup xs) → H' b = some (.tup xs)) (h2 : ∀ o xs, H b = some (.frz o (.tup xs)) → H' b = some (.frz o (.tup xs))) : SqT K H' b xs := by
  rcases h with (h | ⟨o, h⟩) | h
  · exact .inl (.inl (h1 _ h))
  · exact .inl (.inr ⟨o, h2 _ _ h⟩)
  · exact .inr h
/-- the arguments' cells frozen, for a callee on a store of its own -/
def frz2 (am : List Addr) (F H : Hp) : Hp := fun b => if b ∈ am then H b else F b
theorem frz2_same (s : StOk G eh F H am μ) : Same F (frz2 am F H) := fun b o e => by
  unfold frz2
  rw [if_neg fun hm => by rw [s.fr b hm] at e; cases e]
  exact e
theorem frz2_sub (s : StOk G eh F H am μ) : Same (frz2 am F H) H := fun b o e => by
  unfold frz2 at e
  split at e
  · exact e
  · exact s.sub b o e
theorem frz2_ft (s : StOk G eh F H am μ) : ∀ b ps, frz2 am F H b ≠ some (.tbl ps) := fun b ps e => by
  unfold frz2 at e
  split at e
  · rename_i hb
    obtain ⟨o, eo, n1, _⟩ := s.kindAt hb
    rw [eo] at e
    exact n1 ps (Option.some.inj e)
  · exact s.ft b ps e
theorem stOk0 (h : Same F H) (hf : ∀ b ps, F b ≠ some (.tbl ps)) (ht : LamX.Tabs G.T H) : StOk G eh F H [] [] := ⟨rfl, List.nodup_nil, fun a ha => absurd ha (by simp), h, hf, ht, fun n a c e => absurd e (by simp)⟩
/-- an argument as the callee has it -/
theorem rep_arg (s : StOk G eh F H am μ) (hF : Same F F') (hc : ∀ b ∈ am, F' b = H b) {p : PV} {v : V} (r : Rep G eh F am p v) (h : passes (see μ p) = true) : Rep G eh F' [] (see μ p) v := by
  have hl : ∀ b xs, F b = some (.lst xs) → F' b = some (.lst xs) := fun b xs e => hF _ _ e
  have ht : ∀ b xs, SqT G.K F b xs → SqT G.K F' b xs := fun b xs e => SqT.same hF e
  rcases r.see s (fun n e => by rw [e] at h; simp [passes, pure?] at h) with e | ⟨n, a, ps, xs, rfl, rfl, e1, e2, h1, h2⟩
  · rw [e] at h ⊢
    cases p with
    | scr ns => cases r with | scr h1 => exact .scr (hF.seq h1)
    | _ => exact Rep.pure hl ht _ _ r (by simpa [passes] using h)
  · rw [e2] at h ⊢
    cases r with
    | loc ha =>
      refine .lst ((hc _ (List.mem_of_getElem? ha)).trans h1) (RepL.pure hl ht _ _ h2 (by simpa [passes, pure?] using h))
theorem repL_arg (s : StOk G eh F H am μ) (hF : Same F F') (hc : ∀ b ∈ am, F' b = H b) : ∀ {ps : List PV} {vs : List V}, RepL G eh F am ps vs → (ps.all fun a => passes (see μ a)) = true → RepL G eh F' [] (ps.map (see μ)) vs
  | _, _, .nil, _ => .nil
  | _, _, .cons r1 r2, h => by
    simp only [List.all_cons, Bool.and_eq_true] at h
    exact .cons (rep_arg s hF hc r1 h.1) (repL_arg s hF hc r2 h.2)
theorem rep_args_nocell (s : StOk G eh F H am μ) : ∀ {ps : List PV} {vs : List V}, RepL G eh F am ps vs → (ps.all fun a => passes (see μ a)) = true → (ps.all fun a => match a with | .loc _ => false | _ => true) = true → RepL G eh F [] (ps.map (see μ)) vs
  | _, _, .nil, _, _ => .nil
  | _, _, .cons (p := p) r1 r2, h, k => by
    simp only [List.all_cons, Bool.and_eq_true] at h k
    refine .cons ?_ (rep_args_nocell s r2 h.2 k.2)
    have e : see μ p = p := by
      cases p <;> first | rfl | (cases k.1; done)
    have h1 := h.1
    rw [e] at h1 ⊢
    cases p with
    | scr ns => cases r1 with | scr h1 => exact .scr h1
    | _ => exact Rep.pure (fun _ _ e => e) (fun _ _ e => e) _ _ r1 (by simpa [passes] using h1)
/-- .. and behind it: what the callee made stands, the caller's cells are cells again -/
def back4 (am am3 : List Addr) (F3 H3 : Hp) : Hp := fun b => if b ∈ am then none else if b ∈ am3 then H3 b else F3 b
section
variable {F2 F3 H3 : Hp} {am3 : List Addr} {μ3 : Sto}
theorem back4_ok {eh3 : List (Addr × Nat)} (s : StOk G eh F H am μ) (h2 : ∀ b, b ∉ am → F2 b = F b) (x : Ext F2 H [] F3 H3 am3) (s3 : StOk G eh3 F3 H3 am3 μ3) : StOk G eh (back4 am am3 F3 H3) H3 am μ ∧ Ext F H am (back4 am am3 F3 H3) H3 am := by
  have hne : ∀ b ∈ am, H b ≠ none := fun b hb => by
    obtain ⟨o, e⟩ := s.there hb
    rw [e]; simp
  have hn3 : ∀ b, H b ≠ none → b ∉ am3 := fun b h hm => h (x.na b hm (by simp))
  have hk : ∀ b o, H b = some o → (∀ ps, o ≠ .tbl ps) → H3 b = some o := fun b o e nt => x.h b o e nt (by simp)
  have sf : Same F (back4 am am3 F3 H3) := fun b o e => by
    have hb : b ∉ am := fun hm => by rw [s.fr b hm] at e; cases e
    have e3 : F3 b = some o := x.f b o ((h2 b hb).trans e)
    have hb3 : b ∉ am3 := fun hm => by rw [s3.fr b hm] at e3; cases e3
    unfold back4
    rw [if_neg hb, if_neg hb3]
    exact e3
  refine ⟨⟨s.len, s.nd, fun b hb => by unfold back4; rw [if_pos hb], fun b o e => ?_, fun b ps e => ?_, s3.tb, fun n a c e1 e2 => ?_⟩, ⟨sf, List.prefix_refl _, fun b o e nt _ => hk b o e nt, fun b h => x.th b h, fun b h => ?_, fun b hb hn => absurd hb hn⟩⟩
  · unfold back4 at e
    split at e
    · cases e
    · split at e
      · exact e
      · exact s3.sub b o e
  · unfold back4 at e
    split at e
    · cases e
    · split at e
      · rename_i hb3
        obtain ⟨o, eo, n1, _⟩ := s3.kindAt hb3
        rw [eo] at e
        exact n1 ps (Option.some.inj e)
      · exact s3.ft b ps e
  · refine (s.cell n a c e1 e2).mono sf (List.prefix_refl _) ?_
    obtain ⟨o, e, nt, _⟩ := s.kindAt (List.mem_of_getElem? e1)
    rw [e, hk _ _ e nt]
  · unfold back4
    split
    · rename_i hb
      exact (s.fr b hb).symm
    · rename_i hb
      rw [if_neg (hn3 b h), x.nf b h, h2 b hb]
theorem settle_rep (s3 : StOk G eh F3 H3 am3 μ3) {p : PV} {v : V} (r : Rep G eh F3 am3 p v) (hp : pure? (settle p μ3) = true) {F4 : Hp} (hl : ∀ b xs, F3 b = some (.lst xs) → F4 b = some (.lst xs)) (ht : ∀ b xs, SqT G.K F3 b xs → SqT G.K F4 b xs)
    (hc : ∀ b ∈ am3, ∀ o, H3 b = some o → F4 b = some o) : Rep G eh F4 am (settle p μ3) v := by
  unfold settle at hp ⊢
  rcases r.see s3 (fun n e => by rw [e] at hp; simp [pure?] at hp) with e | ⟨n, a, ps, xs, rfl, rfl, e1, e2, h1, h2⟩
  · rw [e] at hp ⊢
    exact Rep.pure hl ht _ _ r hp
  · rw [e2] at hp ⊢
    cases r with
    | loc ha => exact .lst (hc _ (List.mem_of_getElem? ha) _ h1) (RepL.pure hl ht _ _ h2 (by simpa [pure?] using hp))
end
end
section
variable {P : Program} {w : World} {K : PySem.W.Frag} {mg : Str → Option Value} {base : Heap} {G : Gi} {PR : Prog}
theorem start_ok {eh : List (Addr × Nat)} {F : Hp} {am : List Addr} {ps : List PV} {vs : List V} {d : FDef} {N : List Str} (r : RepL G eh F am ps vs) (hl : ps.length = d.np) (hN : N.length = d.ns) : EnvOk G eh F am (L2.start N vs) (startE d ps) := by
  have hlen := r.length
  unfold L2.start startE
  refine ⟨by simp [hN, ← hlen, hl], fun i p e => ?_⟩
  by_cases hi : i < ps.length
  · rw [List.getElem?_append_left (by simpa using hi), List.getElem?_map] at e
    cases e1 : ps[i]? with
    | none => rw [e1] at e; cases e
    | some q =>
      rw [e1] at e
      cases e
      obtain ⟨v, e2, r2⟩ := r.get e1
      refine ⟨v, ?_, r2⟩
      rw [List.getElem?_append_left (by simpa [← hlen] using hi), List.getElem?_map, e2]
      rfl
  · rw [List.getElem?_append_right (by simpa using hi)] at e
    rw [List.getElem?_replicate] at e
    split at e <;> cases e
/-- the wish at a def's end -/
theorem wpS_end {eh : List (Addr × Nat)} {F H : Hp} {am : List Addr} {r : RS} {Q : VK} {E : XK} (h : WpR G eh F H am (endOf r) (fun p _ F' H' am' => ∀ v, Rep G eh F' am' p v → Q v H') (fun c H' => E (G.cv c) none H')) :
    WpS G eh F H am r { nx := fun _ H' => Q .non H', rt := Q } (wish G fun cls d _ H => E cls d H) := by
  cases r with
  | bad => exact False.elim h
  | nx env μ => exact fun σ' F' H' am' x s e => h F' H' am' x s _ .non
  | rt p μ => exact fun F' H' am' x s v rv => h F' H' am' x s v rv
  | exn c env μ => exact fun σ' F' H' am' x s e => h F' H' am' x s
/-- a callee on a store of its own: from the caller's wish to its end's -/
theorem own_end {eh : List (Addr × Nat)} {F H : Hp} {am : List Addr} {μ : Sto} {args : List PV} {r : RS} {Q : VK} {E : XK} {F2 : Hp} (s : StOk G eh F H am μ) (h2 : ∀ b, b ∉ am → F2 b = F b) (hc : ∀ b ∈ am, F2 b = none ∨ F2 b = H b)
    (hno : (args.all fun a => match a with | .loc _ => false | _ => true) = true → ∀ b ∈ am, F2 b = none)
    (h : WpR G eh F H am (match endOf r with
          | .ok p μ' => if pure? (settle p μ') && (args.all (fun a => match a with | .loc _ => false | _ => true) || hard? (settle p μ')) then .ok (settle p μ') μ else .bad
          | .exn c _ => .exn c μ
          | .bad => .bad) (fun p _ F' H' am' => ∀ v, Rep G eh F' am' p v → Q v H') (fun c H' => E (G.cv c) none H')) :
    WpR G eh F2 H [] (endOf r) (fun p _ F' H' am' => ∀ v, Rep G eh F' am' p v → Q v H') (fun c H' => E (G.cv c) none H') := by
  cases e : endOf r with
  | bad => rw [e] at h; exact False.elim h
  | exn c μ3 =>
    rw [e] at h
    intro F3 H3 am3 x3 s3
    obtain ⟨s4, x4⟩ := back4_ok s h2 x3 s3
    exact h _ _ _ x4 s4
  | ok p μ3 =>
    rw [e] at h
    intro F3 H3 am3 x3 s3 v rv
    obtain ⟨s4, x4⟩ := back4_ok s h2 x3 s3
    have h : WpR G eh F H am (if pure? (settle p μ3) && (args.all (fun a => match a with | .loc _ => false | _ => true) || hard? (settle p μ3)) then R.ok (settle p μ3) μ else .bad) (fun p _ F' H' am' => ∀ v, Rep G eh F' am' p v → Q v H') (fun c H' => E (G.cv c) none H') := h
    split at h
    · rename_i hp
      simp only [Bool.and_eq_true, Bool.or_eq_true] at hp
      refine h _ _ _ x4 s4 v ?_
      have hne : ∀ b ∈ am, H b ≠ none := fun b hb => by
        obtain ⟨o, e⟩ := s.there hb
        rw [e]; simp
      have hn3 : ∀ b ∈ am3, b ∉ am := fun b hm hb => hne b hb (x3.na b hm (by simp))
      have hcell : ∀ b ∈ am3, ∀ o, H3 b = some o → back4 am am3 F3 H3 b = some o := fun b hb o e => by
        unfold back4
        rw [if_neg (hn3 b hb), if_pos hb]; exact e
      have hstay : ∀ b o, F3 b = some o → b ∉ am → back4 am am3 F3 H3 b = some o := fun b o e hb => by
        have hb3 : b ∉ am3 := fun hm => by rw [s3.fr b hm] at e; cases e
        unfold back4
        rw [if_neg hb, if_neg hb3]; exact e
      -- what the cells' places hold in F3
      have hF3 : ∀ b ∈ am, F3 b = F2 b := fun b hb => x3.nf b (hne b hb)
      have hkind : ∀ b ∈ am, ∀ o, H b = some o → (∀ xs, o ≠ .tup xs) ∧ ∀ u xs, o ≠ .frz u (.tup xs) := fun b hb o e => by
        obtain ⟨n, hn, e1⟩ := List.getElem_of_mem hb
        have hm : n < μ.length := by rw [← s.len]; exact hn
        have := s.cell n b μ[n] (by rw [List.getElem?_eq_getElem hn, e1]) (List.getElem?_eq_getElem hm)
        cases ec : μ[n] with
        | list ps => rw [ec] at this; obtain ⟨xs, e2, _⟩ := this; rw [e] at e2; cases e2; exact ⟨fun _ => by simp, fun _ _ => by simp⟩
        | dict kvs => rw [ec] at this; obtain ⟨xs, e2, _⟩ := this; rw [e] at e2; cases e2; exact ⟨fun _ => by simp, fun _ _ => by simp⟩
        | inst c fs => rw [ec] at this; obtain ⟨xs, _, e2, _⟩ := this; rw [e] at e2; cases e2; exact ⟨fun _ => by simp, fun _ _ => by simp⟩
      have htup : ∀ b xs, SqT G.K F3 b xs → SqT G.K (back4 am am3 F3 H3) b xs := fun b xs ht => by
        refine sqT_of ht (fun ys e => ?_) fun u ys e => ?_
        · refine hstay b _ e fun hb => ?_
          rw [hF3 b hb] at e
          rcases hc b hb with z | z
          · rw [z] at e; cases e
          · rw [z] at e; exact (hkind b hb _ e).1 ys rfl
        · refine hstay b _ e fun hb => ?_
          rw [hF3 b hb] at e
          rcases hc b hb with z | z
          · rw [z] at e; cases e
          · rw [z] at e; exact (hkind b hb _ e).2 u ys rfl
      rcases hp.2 with hq | hq
      · refine settle_rep s3 rv hp.1 (fun b xs e => hstay b _ e fun hb => ?_) htup hcell
        rw [hF3 b hb, hno hq b hb] at e; cases e
      · -- no lists in it
        have e1 : settle p μ3 = p := by
          unfold settle
          rcases rv.see s3 (fun n e => by unfold settle at hp; rw [e] at hp; simp [pure?] at hp) with e | ⟨n, a, ps, xs, rfl, rfl, e1, e2, h1, h2⟩
          · exact e
          · unfold settle at hq; rw [e2] at hq; simp [hard?] at hq
        rw [e1] at hq ⊢
        exact Rep.hard htup _ _ rv hq
    · exact False.elim h
/-- the code object of the function at f -/
def codeV (K : PySem.W.Frag) (f : Addr) : Value := match K.lookup f with
  | some ⟨_, _, .func fd, _⟩ => fd.code
  | _ => .none
/-- THE PROMISE of a def by the evaluator, one level up -/
theorem fn_ok {x qual : Str} {params : Arguments} {body : List Stmt} {scope : Scope} {f : Addr} {fd : FuncData} {N ps : List Str} {k n i : Nat} {d : FDef} (F : FunD K x qual params body scope [] [] f fd) (S : FnScope N ps scope)
    (hi : PR.funs[i]? = some d) (hps : ps.length = d.np) (hN : N.length = d.ns)
    (hbody : ∀ (A : Around) (outer : List Env) (s : Shared) (H : Hp) (E : XK) (eh : List (Addr × Nat)), Room k (A.deeper (envOfC qual scope s.heap.objs.size f (codeV K f))) →
      PSs (cxOf (L2.CX P w) P w K mg base N qual scope f (codeV K f) A outer s H E) body (tCs G eh (fun cls d _ H => E cls d H) PR (callF PR n) d.body)) : FnOk P w K mg base (L2.CX P w) (k + 1) f fd ps (spOf G (callF PR (n + 1)) i) := by
  have hcall : ∀ args μ, callF PR (n + 1) i args μ = if args.length = d.np then
        if d.eff then endOf (execs PR (callF PR n) d.body (startE d args) μ)
        else if args.all (fun a => passes (see μ a)) then
          (match endOf (execs PR (callF PR n) d.body (startE d (args.map (see μ))) []) with
          | .ok p μ' => if pure? (settle p μ') && (args.all (fun a => match a with | .loc _ => false | _ => true) || hard? (settle p μ')) then .ok (settle p μ') μ else .bad
          | .exn c _ => .exn c μ
          | .bad => .bad)
        else .bad
      else .bad := fun args μ => by rw [callF, hi] <;> rfl
  have hlen : ∀ {eh : List (Addr × Nat)} {F H : Hp} {am : List Addr} {μ : Sto} {args : List PV} {okk : PV → Sto → Hp → Hp → List Addr → Prop} {ex : Nat → Hp → Prop}, WpR G eh F H am (callF PR (n + 1) i args μ) okk ex → args.length = d.np := by
    intro eh F H am μ args okk ex h
    rw [hcall] at h
    by_cases e : args.length = d.np
    · exact e
    · rw [if_neg e] at h; exact False.elim h
  obtain ⟨oc, od, dV, kV, doc, pm, an, cdv, ct, osl, rfl, lk, hcd, _, _⟩ := F.ex
  have ecd : codeV K f = cdv := by unfold codeV; rw [lk]
  rw [ecd] at hbody
  refine fn_of lk hcd S (fun vs H Q E h => ?_) fun A outer s H vs Q E hr h => ?_
  · obtain ⟨eh, F0, am, μ, args, st, r, hw⟩ := h
    rw [← r.length, hlen hw, hps]
  · obtain ⟨eh, F0, am, μ, args, st, r, hw⟩ := h
    have hl := hlen hw
    rw [hcall, if_pos hl] at hw
    refine ⟨_, hbody A outer s H E eh hr, ?_⟩
    cases he : d.eff with
    | true =>
      rw [he, if_pos rfl] at hw
      exact ⟨F0, am, startE d args, μ, st, start_ok r hl hN, wpS_end hw⟩
    | false =>
      rw [he, if_neg (by decide)] at hw
      split at hw
      · rename_i hp
        by_cases hno : (args.all fun a => match a with | .loc _ => false | _ => true) = true
        · have r2 := rep_args_nocell st r hp hno
          refine ⟨F0, [], startE d (args.map (see μ)), [], stOk0 st.sub st.ft st.tb, start_ok r2 (by rw [List.length_map]; exact hl) hN, wpS_end (own_end st (fun b _ => rfl) (fun b hb => .inl (st.fr b hb)) (fun _ b hb => st.fr b hb) hw)⟩
        · have r2 := repL_arg st (frz2_same st) (fun b hb => if_pos hb) r hp
          refine ⟨frz2 am F0 H, [], startE d (args.map (see μ)), [], stOk0 (frz2_sub st) (frz2_ft st) st.tb, start_ok r2 (by rw [List.length_map]; exact hl) hN, wpS_end (own_end (args := args) st (fun b hb => if_neg hb) (fun b hb => .inr (if_pos hb)) (fun z => absurd z hno) hw)⟩
      · exact False.elim hw
/-- nothing is promised without fuel -/
theorem fn_ok0 {f : Addr} {fd : FuncData} {ps : List Str} {k i : Nat} : FnOk P w K mg base (L2.CX P w) k f fd ps (spOf G (callF PR 0) i) := by
  have hf : ∀ {vs : List V} {H : Hp} {Q : VK} {E : XK}, spOf G (callF PR 0) i vs H Q E → False := by
    intro vs H Q E h
    obtain ⟨eh, F0, am, μ, args, st, r, hw⟩ := h
    rw [callF] at hw
    exact hw
  exact ⟨fun vs H Q E h => (hf h).elim, fun A outer s H args us vs Q E hr e0 hb r h => (hf h).elim⟩
end
end NR

/-! NR2d: cells written, sorted. -/
namespace NR
open PySem L2
open PySem.Spec PyProof.Rows
section
variable {X : Cx} {G : Gi} {eh : List (Addr × Nat)}
/-! ### a list's cell written -/
theorem m_append : MtR X "list.append" (vM G eh mAppend) := by
  intro pins s σ H x xs v us Q I rx r h
  obtain ⟨F, am, μ, p, ps, ex, st, rp, rps, h⟩ := h
  unfold mAppend at h
  split at h
  · rename_i n y
    split at h
    · rename_i l em
      split at h
      · rename_i hl
        cases rp with
        | loc ha =>
          obtain ⟨a', ha', ys, h1, h2⟩ := st.cellAt em
          rw [ha] at ha'; cases ha'
          cases rps with
          | cons ry r2 =>
            cases r2
            refine mt_append pins s σ H _ _ v us Q I rx r ⟨_, _, _, rfl, rfl, h1, by rw [← h2.length, ← SL_eq]; exact hl, ?_⟩
            obtain ⟨s2, x2⟩ := st.write (c := .list (l ++ [y])) ha (List.getElem?_eq_some_iff.mp em).1 ⟨_, upd_same, h2.append (.cons ry .nil)⟩
            exact h _ _ _ x2 s2 _ .non
      · exact h.elim
    · exact h.elim
  · exact h.elim
theorem m_extend : MtR X "list.extend" (vM G eh mExtend) := by
  intro pins s σ H x xs v us Q I rx r h
  obtain ⟨F, am, μ, p, ps, ex, st, rp, rps, h⟩ := h
  unfold mExtend at h
  split at h
  · rename_i n y
    split at h
    · rename_i l zs em ey
      split at h
      · rename_i hl
        cases rp with
        | loc ha =>
          obtain ⟨a', ha', ys, h1, h2⟩ := st.cellAt em
          rw [ha] at ha'; cases ha'
          cases rps with
          | cons ry r2 =>
            cases r2
            obtain ⟨b, ws, rfl, h3, h4⟩ := ry.seeL st ey
            refine mt_extend pins s σ H _ _ v us Q I rx r ⟨_, _, _, _, rfl, rfl, h1, h3, by rw [← h2.length, ← h4.length, ← SL_eq]; exact hl, ?_⟩
            obtain ⟨s2, x2⟩ := st.write (c := .list (l ++ zs)) ha (List.getElem?_eq_some_iff.mp em).1 ⟨_, upd_same, h2.append h4⟩
            exact h _ _ _ x2 s2 _ .non
      · exact h.elim
    · exact h.elim
  · exact h.elim
theorem RepL.dropLast {F : Hp} {am : List Addr} : ∀ {ps : List PV} {vs : List V}, RepL G eh F am ps vs → RepL G eh F am ps.dropLast vs.dropLast := fun {ps vs} r => by
  rw [List.dropLast_eq_take, List.dropLast_eq_take, ← r.length]
  exact r.take _
theorem m_pop : MtR X "list.pop" (vM G eh mPop) := by
  intro pins s σ H x xs v us Q I rx r h
  obtain ⟨F, am, μ, p, ps, ex, st, rp, rps, h⟩ := h
  unfold mPop at h
  split at h
  · rename_i n
    split at h
    · rename_i l em
      split at h
      · rename_i y ey
        cases rp with
        | loc ha =>
          obtain ⟨a', ha', ys, h1, h2⟩ := st.cellAt em
          rw [ha] at ha'; cases ha'
          cases rps
          have e3 : l[l.length - 1]? = some y := by rw [← List.getLast?_eq_getElem?]; exact ey
          obtain ⟨w, e4, rw4⟩ := h2.get e3
          refine mt_pop pins s σ H _ _ v us Q I rx r ⟨_, _, _, rfl, rfl, h1, by rw [← h2.length]; exact e4, ?_⟩
          obtain ⟨s2, x2⟩ := st.write (c := .list l.dropLast) ha (List.getElem?_eq_some_iff.mp em).1 ⟨_, upd_same, h2.dropLast⟩
          exact h _ _ _ x2 s2 _ rw4
      · exact h.elim
    · exact h.elim
  · exact h.elim

/-! ### sorted -/
theorem each_vals : ∀ {ps : List PV} {vs : List V} {us : List Value}, ps.length = vs.length → Vals vs us → PySem.W.EachIs (fun (u : Value) (b : PV × V) => RelV b.2 u) us (ps.zip vs)
  | [], [], _, _, .nil => .nil
  | _ :: _, _ :: _, _, hl, .cons r t => .cons r (each_vals (by simpa using hl) t)
theorem each_out : ∀ {us : List Value} {bs : List (PV × V)}, PySem.W.EachIs (fun (u : Value) (b : PV × V) => RelV b.2 u) us bs → Vals (bs.map (·.2)) us
  | _, _, .nil => .nil
  | _, _, .cons r t => .cons r (each_out t)
theorem each_reads {F H : Hp} {am : List Addr} {μ : Sto} {pins : List (Addr × Obj)} {σ : L2.St} {s : Shared} (hG : X.K = G.K) (I : L2.Inv X pins σ H s) (st : StOk G eh F H am μ) : ∀ {ps : List PV} {vs : List V} {us : List Value}, RepL G eh F am ps vs → (ps.all fun k => pure? k) = true → Vals vs us →
    PySem.W.EachIs (fun (u : Value) (b : PV × V) => ∃ as, Reads s.heap u (toD b.1) as) us (ps.zip vs)
  | _, _, _, .nil, _, .nil => .nil
  | _, _, _, .cons r1 r2, h, .cons q1 q2 => by
    simp only [List.all_cons, Bool.and_eq_true] at h
    exact .cons (Dp.reads I _ _ _ (by rw [hG]; exact r1.dp st _ _ h.1) q1) (each_reads hG I st r2 h.2 q2)
theorem repL_pairs {F : Hp} {am : List Addr} : ∀ {bs : List (PV × V)}, (∀ b ∈ bs, Rep G eh F am b.1 b.2) → RepL G eh F am (bs.map (·.1)) (bs.map (·.2))
  | [], _ => .nil
  | b :: bs, h => .cons (h b List.mem_cons_self) (repL_pairs fun c hc => h c (List.mem_cons_of_mem _ hc))
theorem repL_zip {F : Hp} {am : List Addr} : ∀ {ps : List PV} {vs : List V}, RepL G eh F am ps vs → ∀ b ∈ ps.zip vs, Rep G eh F am b.1 b.2
  | _, _, .nil, b, hb => by cases hb
  | _, _, .cons r1 r2, b, hb => by
    rw [List.zip_cons_cons] at hb
    rcases List.mem_cons.mp hb with rfl | hb
    · exact r1
    · exact repL_zip r2 b hb
theorem sortable_of {ks : List PV} (h : sortable ks = true) : (ks.all fun k => pure? k) = true ∧ (∀ k ∈ ks, dep k ≤ 64) ∧ PySem.W.AllAlike (ks.map toD) ∧ PySem.W.Sortable (ks.map toD) := by
  unfold sortable at h
  simp only [Bool.and_eq_true, Bool.or_eq_true] at h
  obtain ⟨⟨h1, h2⟩, h3⟩ := h
  rw [List.all_eq_true] at h1 h2
  refine ⟨?_, fun k hk => ?_, ?_, ?_⟩
  · rw [List.all_eq_true]
    exact fun k hk => by have := h1 k hk; simp only [Bool.and_eq_true] at this; exact this.1
  · have := h1 k hk
    simp only [Bool.and_eq_true, decide_eq_true_eq] at this
    exact this.2
  · intro d hd d' hd'
    obtain ⟨k, hk, rfl⟩ := List.mem_map.mp hd
    obtain ⟨l, hl, rfl⟩ := List.mem_map.mp hd'
    have := h2 k hk
    rw [List.all_eq_true] at this
    exact this l hl
  · rcases h3 with h3 | h3
    · left
      rw [List.all_eq_true] at h3
      intro d hd
      obtain ⟨k, hk, rfl⟩ := List.mem_map.mp hd
      have := h3 k hk
      split at this
      · exact ⟨_, _, rfl⟩
      · cases this
    · right
      rw [List.all_eq_true] at h3
      intro d hd
      obtain ⟨k, hk, rfl⟩ := List.mem_map.mp hd
      have := h3 k hk
      have hp := h1 k hk
      rw [Bool.and_eq_true] at hp
      have hp := hp.1
      clear h1 h2 h3 hd hk
      cases k <;> first | (cases this; done) | (simp [pure?] at hp; done) | exact ⟨by simp [toD], fun xs => by simp [toD]⟩
/-! ### the names of a dict, sorted -/
theorem rising_pw : ∀ {p : Str} {l : List Str}, PyProof.Rows.risingS p l = true → (p :: l).Pairwise (fun a b => a.cps.toList ≤ b.cps.toList)
  | p, [], _ => by simp
  | p, x :: r, h => by
    unfold PyProof.Rows.risingS at h
    rw [Bool.and_eq_true, Bool.not_eq_true', PyProof.Rows.ltCps_eq, decide_eq_false_iff_not] at h
    have ih := rising_pw h.2
    have hx : p.cps.toList ≤ x.cps.toList := List.not_lt.mp h.1
    refine List.pairwise_cons.mpr ⟨fun y hy => ?_, ih⟩
    rcases List.mem_cons.mp hy with z | z
    · rw [z]; exact hx
    · exact List.le_trans hx ((List.pairwise_cons.mp ih).1 y z)
theorem sortedS_pw {l : List Str} (h : PyProof.Rows.sortedS l = true) : l.Pairwise (fun a b => a.cps.toList ≤ b.cps.toList) := by
  cases l with
  | nil => exact .nil
  | cons x r => exact rising_pw h
theorem sorted_same {ks : List (List Nat)} {ys : List Str} (hp : ys.Perm (ks.map mkT)) (hs : PyProof.Rows.sortedS ys = true) : ys = (ks.mergeSort fun a b => decide (a ≤ b)).map mkT := by
  refine List.Perm.eq_of_pairwise (le := fun a b : Str => a.cps.toList ≤ b.cps.toList) (fun a b _ _ h1 h2 => ?_) (sortedS_pw hs) ?_ (hp.trans ((List.mergeSort_perm ks _).map mkT).symm)
  · have e := List.le_antisymm h1 h2
    exact TL.ext_tl e
  · rw [List.pairwise_map]
    have := List.pairwise_mergeSort (le := fun a b : List Nat => decide (a ≤ b)) (fun a b c h1 h2 => by simp only [decide_eq_true_eq] at *; exact List.le_trans h1 h2) (fun a b => by simp only [Bool.or_eq_true, decide_eq_true_eq]; exact List.le_total a b) ks
    refine this.imp fun h => ?_
    rw [mkT_tl, mkT_tl]
    exact of_decide_eq_true h
theorem sortP_strs (ks : List (List Nat)) : sortP (ks.map PV.str) = (ks.mergeSort fun a b => decide (a ≤ b)).map PV.str := by
  unfold sortP
  refine (PySem.W.sort_maps (r := fun a b : List Nat => decide (a ≤ b)) (s := PySem.W.dataLe false toD) PV.str (l := ks) (fun a _ b _ => ?_)).symm
  have e := PySem.W.dataLe_str (β := PV) (fun p => match p with | .str s => mkT s | _ => ⟨#[]⟩)
  have e2 : PySem.W.dataLe false toD (PV.str a) (PV.str b) = PySem.W.dataLe false (fun p : PV => PyData.str (match p with | .str s => mkT s | _ => ⟨#[]⟩)) (PV.str a) (PV.str b) := rfl
  rw [e2, e]
theorem keys_rep {F : Hp} {am : List Addr} : ∀ {kvs : List (PV × PV)} {es : List (Key × V)} {ks : List (List Nat)}, DRep G eh F am kvs es → allStr (kvs.map (·.1)) = some ks → es.map (·.1) = (ks.map mkT).map Sum.inr ∧ ∀ k ∈ ks, okTxt k
  | _, _, ks, .nil, h => by cases h; exact ⟨rfl, fun k hk => by cases hk⟩
  | _, _, ks, .cons (k := p) (r := rr) hk hr r, h => by
    rw [List.map_cons] at h
    cases p <;> first | (cases h; done) | skip
    rename_i s
    have h : (allStr (rr.map (·.1))).map (s :: ·) = some ks := h
    cases e : allStr (rr.map (·.1)) with
    | none => rw [e] at h; cases h
    | some l =>
      rw [e] at h
      cases h
      obtain ⟨h1, h2⟩ := keys_rep r e
      obtain ⟨o, rfl⟩ := hk
      exact ⟨by rw [List.map_cons, List.map_cons, List.map_cons, h1], fun k hk => (List.mem_cons.mp hk).elim (fun z => z ▸ o) (h2 k)⟩
theorem sortedD_run {F H : Hp} {am : List Addr} {μ : Sto} {pins : List (Addr × Obj)} {σ : L2.St} {s : Shared} {p : PV} {x : V} {u : Value} {Q : VK} {ex : Nat → Hp → Prop} (hc : X.calm = true) (I : L2.Inv X pins σ H s) (st : StOk G eh F H am μ) (rp : Rep G eh F am p x) (r : Vals [x] [u])
    (h : WpR G eh F H am (opSortedD p μ) (fun r _ F' H' am' => ∀ v, Rep G eh F' am' r v → Q v H') ex) : wpAny (model X.prog X.w) X.A (call (.builtin "sorted") [u]) (EP X pins σ Q) X.xe s := by
  unfold opSortedD at h
  split at h
  · rename_i ks ek
    split at h
    · rename_i hl
      unfold dictKeys at ek
      split at ek
      · split at ek
        · rename_i n kvs em
          cases rp with
          | loc ha =>
            obtain ⟨a, ha', es, h1, h2⟩ := st.cellAt em
            rw [ha] at ha'; cases ha'
            obtain ⟨k1, k2⟩ := keys_rep h2 ek
            refine call_sortedD hc pins s σ H _ _ Q I r ⟨_, es, ks.map mkT, rfl, .inl h1, k1, by rw [List.length_map]; exact hl, fun ys p hp hs hn => ?_⟩
            rw [sorted_same hp hs]
            rw [sortP_strs] at h
            exact h.newL st (repL_strs fun t ht => k2 t (List.mem_mergeSort.mp ht)) p hn
        · cases ek
      · cases ek
    · exact h.elim
  · exact h.elim
theorem c_sorted (hG : X.K = G.K) (hu : X.A.units + 70 < cLine) (hc : X.calm = true) : CallR X (.builtin "sorted") (vL1 G eh opSorted) := by
  intro pins s σ H xs us Q I r h
  obtain ⟨x, rfl, F, am, μ, p, ex, st, rp, h⟩ := h
  unfold opSorted at h
  split at h
  · rename_i ps e
    split at h
    · rename_i hs
      obtain ⟨a, ys, rfl, h1, h2⟩ := rp.seeL st e
      obtain ⟨u, rfl, ru⟩ := r.one
      cases ru
      obtain ⟨its, rv, pl, hz⟩ := I.list (SqL.of h1)
      obtain ⟨k1, k2, k3, k4⟩ := sortable_of hs
      have hzip : (ps.zip ys).map (fun b => toD b.1) = ps.map toD := by
        have z : (ps.zip ys).map (·.1) = ps := List.map_fst_zip (by rw [h2.length]; exact Nat.le_refl _)
        conv => rhs; rw [← z]
        rw [List.map_map]; rfl
      refine PySem.W.sorted_data (R := fun (u : Value) (b : PV × V) => RelV b.2 u) (bs := ps.zip ys) (enc := fun b => toD b.1) (vs := its) pl.isList (each_vals h2.length rv) (each_reads hG I st h2 k1 rv) (by rw [hzip]; exact k3) (by rw [hzip]; exact k4)
        (by rw [List.length_zip, h2.length, Nat.min_self]; exact hz) (fun b hb => ?_) fun out ho eo => ?_
      · have hm : b.1 ∈ ps := (List.of_mem_zip (show (b.1, b.2) ∈ ps.zip ys from hb)).1
        have hp : pure? b.1 = true := by rw [List.all_eq_true] at k1; exact k1 _ hm
        show X.A.units + 2 + (toD b.1).depth < cLine
        rw [dep_toD _ hp]
        have := k2 _ hm
        omega
      · obtain ⟨c, hc⟩ := sortedAll_at s.heap its out.toArray
        have e5 : ((ps.zip ys).mergeSort (PySem.W.dataLe false fun b => toD b.1)).map (·.1) = sortP ps := by
          have z : (ps.zip ys).map (·.1) = ps := List.map_fst_zip (by rw [h2.length]; exact Nat.le_refl _)
          have z2 := PySem.W.sort_maps (r := PySem.W.dataLe false fun b : PV × V => toD b.1) (s := PySem.W.dataLe false toD) (fun b : PV × V => b.1) (l := ps.zip ys) (fun a _ b _ => rfl)
          rw [z] at z2
          exact z2
        have rs : RepL G eh F am (sortP ps) (((ps.zip ys).mergeSort (PySem.W.dataLe false fun b => toD b.1)).map (·.2)) := by
          rw [← e5]
          exact repL_pairs fun b hb => repL_zip h2 b (List.mem_mergeSort.mp hb)
        have vs := each_out eo
        have hf : H (s.heap.objs.size + 1) = none := I.hok.fresh (Nat.le_succ _)
        refine ⟨.ref (s.heap.objs.size + 1), _, I.laid (t' := s.toks) (fun b o q => sortedAll_old q) (Nat.le_succ _) ?_, rfl, h.newL st rs _ hf⟩
        refine ⟨?_, out, c, vs, hc⟩
        rw [List.length_map, List.length_mergeSort, List.length_zip, h2.length, Nat.min_self]
        exact hz
    · exact h.elim
  · obtain ⟨u, rfl, ru⟩ := r.one
    exact sortedD_run hc I st rp (.cons ru .nil) h
end
end NR

/-! NR3g: more: lists turned about, steps, dicts. -/
namespace NR
open PySem L2
open PySem.Spec PyProof.Rows RZ
section
variable {X : Cx} {G : Gi} {eh : List (Addr × Nat)} {W : WX} {P : Prog} {cs : CallS}
variable {F H : Hp} {am : List Addr} {σ : L2.St} {env : EnvP} {μ : Sto}
variable {a b d tg : Expr} {ca cb cd : CE} {pos : Pos}

theorem r_rev (hG : X.K = G.K) {k : Nat} {p1 p2 p3 : Pos} (ha : PE X a (tV G eh W P cs ca)) : PE X (.Subscript a (.Slice none none (some (.UnaryOp .USub (.Constant (.int 1) k p1) p2)) p3) pos) (tV G eh W P cs (.rev ca)) := by
  refine PE.imp (pe_revL ha) fun σ H Q q => ?_
  obtain ⟨F, am, env, μ, s, en, h⟩ := tV.out q
  rw [ev] at h
  refine tV.go s en h fun p v μ1 F1 H1 am1 x1 s1 r1 en1 h1 => ?_
  unfold opRev at h1
  split at h1
  · rename_i ps e
    obtain ⟨a, xs, rfl, e1, r⟩ := r1.seeL s1 e
    refine ⟨a, xs, rfl, SqL.of e1, fun q hq => ?_⟩
    exact h1.newL s1 r.reverse q hq
  · rename_i ns e
    have e2 : p = .scr ns := by
      unfold see at e
      split at e
      · split at e <;> cases e
      · exact e
    subst e2
    cases r1 with
    | scr h =>
      rename_i a
      refine ⟨a, _, rfl, by rw [hG]; exact s1.sub.seq h, fun q hq => ?_⟩
      have r3 : RepL G eh F1 am1 (ns.reverse.map PV.int) (ns.map V.int).reverse := by
        rw [← List.map_reverse]
        exact repL_ints _
      exact h1.newL s1 r3 q hq
  · exact h1.elim
theorem rgLen_of {i j c : Int} (h1 : -(2 ^ 62) ≤ i) (h2 : i < 2 ^ 62) (h3 : -(2 ^ 62) ≤ j) (h4 : j < 2 ^ 62) (hc : c ≠ 0) (hc2 : c.natAbs < 1073741824) : RgC i j c (rgLen i j c) := by
  have hcb : -1073741824 < c ∧ c < 1073741824 := by omega
  have key : Builtin.Range.rangeSize i j c = (rgLen i j c : Nat) ∧ 0 ≤ Builtin.Range.rangeSize i j c ∧ Builtin.Range.rangeSize i j c < 2 ^ 63 := by
    unfold Builtin.Range.rangeSize rgLen
    by_cases hp : 0 < c
    · rw [if_pos hp, if_pos hp]
      by_cases hl : i < j
      · rw [if_pos hl]
        have e : (j - i + (c - 1)) / c = (j - i - 1) / c + 1 := by
          have : j - i + (c - 1) = (j - i - 1) + c * 1 := by omega
          rw [this, Int.add_mul_ediv_left _ _ (by omega)]
        have hn : 0 ≤ (j - i - 1) / c := Int.ediv_nonneg (by omega) (by omega)
        have hm : (j - i - 1) / c ≤ j - i - 1 := Int.ediv_le_self _ (by omega)
        rw [e, Int.toNat_of_nonneg (by omega)]
        exact ⟨rfl, by omega, by omega⟩
      · rw [if_neg hl]
        have : (j - i + (c - 1)) / c ≤ 0 := by
          have : (j - i + (c - 1)) / c < 1 := Int.ediv_lt_of_lt_mul hp (by omega)
          omega
        rw [Int.toNat_eq_zero.mpr this]
        exact ⟨rfl, by decide, by decide⟩
    · have hp' : ¬ c > 0 := hp
      have hm : 0 < -c := by omega
      rw [if_neg hp', if_neg hp]
      by_cases hl : i > j
      · rw [if_pos hl]
        have e : (i - j + (-c - 1)) / (-c) = (i - j - 1) / (-c) + 1 := by
          have : i - j + (-c - 1) = (i - j - 1) + (-c) * 1 := by omega
          rw [this, Int.add_mul_ediv_left _ _ (by omega)]
        have hn : 0 ≤ (i - j - 1) / (-c) := Int.ediv_nonneg (by omega) (by omega)
        have hm : (i - j - 1) / (-c) ≤ i - j - 1 := Int.ediv_le_self _ (by omega)
        rw [e, Int.toNat_of_nonneg (by omega)]
        exact ⟨rfl, by omega, by omega⟩
      · rw [if_neg hl]
        have : (i - j + (-c - 1)) / (-c) ≤ 0 := by
          have : (i - j + (-c - 1)) / (-c) < 1 := Int.ediv_lt_of_lt_mul hm (by omega)
          omega
        rw [Int.toNat_eq_zero.mpr this]
        exact ⟨rfl, by decide, by decide⟩
  obtain ⟨k1, k2, k3⟩ := key
  refine ⟨hc, hc2, ?_, k1⟩
  unfold Builtin.Range.small Builtin.Range.rangeFitsLong
  simp only [Bool.and_eq_true, Bool.or_eq_true, decide_eq_true_eq]
  refine ⟨⟨⟨⟨by omega, by omega⟩, by omega⟩, by omega⟩, .inr ?_⟩
  split <;> simp only [Bool.and_eq_true, decide_eq_true_eq] <;> omega
theorem i_rng3 {p : Pos} (hg : Gl X "range") (hm : X.mg "range" = none) (h1 : nst a = true) (h2 : nst b = true) (h3 : nst d = true) (ha : PE X a (tV G eh W P cs ca)) (hb : PE X b (tV G eh W P cs cb)) (hd : PE X d (tV G eh W P cs cd)) :
    PI X tg (.Call (.Name "range" p) [a, b, d] [] pos) (tI G eh W P cs (.rng3 ca cb cd)) := by
  refine PI.imp (pi_range3 hg hm (pa_cons ha (pa_cons hb (pa_cons hd pa_nil (star_cons h3)) (star_cons h2)) (star_cons h1)) (star_cons h1) (by rw [star_cons h2, star_cons h3]; rfl)) fun σ H R q => ?_
  obtain ⟨F, am, env, μ, s, en, h⟩ := q
  rw [evi] at h
  refine tV.go s en h fun p v μ1 F1 H1 am1 x1 s1 r1 en1 h1 => ?_
  refine tV.go s1 en1 h1 fun q u μ2 F2 H2 am2 x2 s2 r2 en2 h2 => ?_
  refine tV.go s2 en2 h2 fun q3 u3 μ3 F3 H3 am3 x3 s3 r3 en3 h3 => ?_
  unfold srcRng3 at h3
  split at h3
  · split at h3
    · rename_i i j c hj
      cases r1
      cases r2
      cases r3
      simp only [Bool.and_eq_true, decide_eq_true_eq] at hj
      obtain ⟨e1, e2⟩ := small62_of hj.1.1
      obtain ⟨e3, e4⟩ := small62_of hj.1.2
      exact ⟨_, _, _, _, rfl, rgLen_of e1 e2 e3 e4 hj.2.1 hj.2.2, h3.ok_now s3 _ srcOk_rngC⟩
    · exact h3.elim
  · exact h3.elim
/-! ### dicts -/
theorem any_rep {F : Hp} {am : List Addr} {p : PV} {k : Key} (hk : KeyRel p k) : ∀ {kvs : List (PV × PV)} {es : List (Key × V)}, DRep G eh F am kvs es → (kvs.any fun kv => peq kv.1 p) = es.any fun kv => decide (kv.1 = k)
  | _, _, .nil => rfl
  | _, _, .cons h1 h2 h3 => by rw [List.any_cons, List.any_cons, key_eq h1 hk, any_rep hk h3]
theorem DRep.app {F : Hp} {am : List Addr} {x y : List (PV × PV)} {z w : List (Key × V)} (h : DRep G eh F am x z) (h2 : DRep G eh F am y w) : DRep G eh F am (x ++ y) (z ++ w) := by
  induction h with
  | nil => exact h2
  | cons a b c ih => exact .cons a b ih
theorem map_rep {F : Hp} {am : List Addr} {p q : PV} {k : Key} {v : V} (hk : KeyRel p k) (r : Rep G eh F am q v) : ∀ {kvs : List (PV × PV)} {es : List (Key × V)}, DRep G eh F am kvs es →
    DRep G eh F am (kvs.map fun kv => if peq kv.1 p then (kv.1, q) else kv) (es.map fun kv => if kv.1 = k then (kv.1, v) else kv)
  | _, _, .nil => .nil
  | _, _, .cons (k := p2) (j := j) h1 h2 h3 => by
    rw [List.map_cons, List.map_cons]
    have e := key_eq h1 hk
    by_cases hj : j = k
    · rw [decide_eq_true hj] at e
      simp only [e, hj, if_true]
      rw [hj] at h1
      exact .cons h1 r (map_rep hk r h3)
    · rw [decide_eq_false hj] at e
      simp only [e, hj, if_false]
      exact .cons h1 h2 (map_rep hk r h3)
theorem put_rep {F : Hp} {am : List Addr} {p q : PV} {k : Key} {v : V} (hk : KeyRel p k) (r : Rep G eh F am q v) {kvs : List (PV × PV)} {es : List (Key × V)} (h : DRep G eh F am kvs es) : DRep G eh F am (putD p q kvs) (putK es k v) := by
  unfold putD putK
  rw [any_rep hk h]
  split
  · exact map_rep hk r h
  · exact h.app (.cons hk r .nil)
theorem m_get (hu : X.A.units + 1 < cLine) : MtR X "dict.get" (vM G eh mGet) := by
  intro pins s σ H x xs v us Q I rx r h
  obtain ⟨F, am, μ, p, ps, ex, st, rp, rps, h⟩ := h
  unfold mGet at h
  split at h
  · rename_i n k d
    split at h
    · rename_i kvs em
      split at h
      · rename_i hk
        cases rp with
        | loc ha =>
          obtain ⟨a, ha', es, h1, h2⟩ := st.cellAt em
          rw [ha] at ha'; cases ha'
          cases rps with
          | cons rk r2 =>
            cases r2 with
            | cons rd r3 =>
              cases r3
              obtain ⟨u1, u2, rfl, q1, q2⟩ : ∃ u1 u2, us = [u1, u2] ∧ RelV _ u1 ∧ RelV _ u2 := by
                cases r with
                | cons p q =>
                  cases q with
                  | cons p' q' =>
                    cases q'
                    exact ⟨_, _, rfl, p, p'⟩
              cases rx
              obtain ⟨j, hj, rfl⟩ := key_of_rep rk hk
              refine d_get2 hu I (DGet.k h1) q1 q2 fun w' s3 I3 rw' => ⟨_, H, I3, rw', h.val st ?_⟩
              rcases look_rep hj h2 with ⟨e1, e2⟩ | ⟨q', v', e1, e2, e3⟩
              · rw [e1, e2]; exact rd
              · rw [e1, e2]; exact e3
      · exact h.elim
    · exact h.elim
  · exact h.elim
theorem r_newd0 : PE X (.Dict [] [] pos) (tV G eh W P cs (.newd [] [])) := by
  refine PE.imp pe_dnewK fun σ H Q q => ?_
  obtain ⟨F, am, env, μ, s, en, h⟩ := tV.out q
  have e : ev P cs (.newd [] []) env μ = .ok (.loc μ.length) (μ ++ [.dict []]) := by simp [ev, evs]
  rw [e] at h
  intro p hp
  obtain ⟨s2, x2⟩ := s.newCell (c := .dict []) (o := .dK []) hp ⟨[], upd_same, .nil⟩
  refine h _ _ _ x2 s2 _ (.loc ?_)
  rw [← s.len]; simp
/-! ### d[i] = v -/
def rSetV (G : Gi) (eh : List (Addr × Nat)) : TSet := fun o i v H Q => ∃ F am μ μ' p q r, StOk G eh F H am μ ∧ Rep G eh F am p o ∧ Rep G eh F am q i ∧ Rep G eh F am r v ∧ setSub p q r μ = some μ' ∧ ∀ H', StOk G eh F H' am μ' → Ext F H am F H' am → Q H'
theorem set_v (hu : X.A.units + 1 < cLine) : PSet X (rSetV G eh) := by
  intro pins s σ H o i v ov iv u Q I ro ri rv h
  obtain ⟨F, am, μ, μ', p, q, r, st, rp, rq, rr, e, h⟩ := h
  unfold setSub at e
  split at e
  · rename_i n
    split at e
    · rename_i xs em
      split at e
      · rename_i j
        cases rp with
        | loc ha =>
          obtain ⟨a, ha', ys, h1, h2⟩ := st.cellAt em
          rw [ha] at ha'; cases ha'
          cases rq
          cases hk : L2.ixN xs.length j with
          | none => rw [hk] at e; cases e
          | some k =>
            rw [hk] at e
            cases e
            obtain ⟨s2, x2⟩ := st.write (c := .list (xs.set k r)) (o := .lst (ys.set k v)) ha (List.getElem?_eq_some_iff.mp em).1 ⟨_, upd_same, RepL.set rr k h2⟩
            exact set_list pins s σ H _ _ v ov iv u Q I ro ri rv ⟨_, ys, j, k, rfl, rfl, h1, by rw [← h2.length]; exact hk, h _ s2 x2⟩
      · cases e
    · rename_i kvs em
      split at e
      · rename_i hk
        simp only [Bool.and_eq_true, decide_eq_true_eq] at hk
        cases e
        cases rp with
        | loc ha =>
          obtain ⟨a, ha', es, h1, h2⟩ := st.cellAt em
          rw [ha] at ha'; cases ha'
          obtain ⟨j, hj, rfl⟩ := key_of_rep rq hk.1
          obtain ⟨s2, x2⟩ := st.write (c := .dict (putD q r kvs)) (o := .dK (putK es j v)) ha (List.getElem?_eq_some_iff.mp em).1 ⟨_, upd_same, put_rep hj rr h2⟩
          exact set_dict hu pins s σ H _ _ v ov iv u Q I ro ri rv ⟨_, _, rfl, DPut.k h1 (by rw [← h2.length, sizeLine_eq]; omega), h _ s2 x2⟩
      · cases e
    · cases e
  · cases e
theorem swap_sub {o i : Expr} {p : Pos} {a : Expr} {env : Env} : swappedStores [.Subscript o i p] a env = pure none := by
  unfold swappedStores
  cases a <;> rfl
theorem swapSole_sub {o i : Expr} {p : Pos} {a : Expr} {l : Nat} {env : Env} (hn : ncomp a = true) : swapsWithSole [.Subscript o i p] a l env = pure false := by
  show swapsWith a (some (.Subscript o i p)) l env = pure false
  cases a <;> first | rfl | (cases hn; done)
theorem s_sub {o i v : Expr} {co ci cv : CE} {p : Pos} (hu : X.A.units + 1 < cLine) (hn : ncomp v = true) (hi : nslice i = true) (ho : PE X o (tV G eh W P cs co)) (hi2 : PE X i (tV G eh W P cs ci)) (hv : PE X v (tV G eh W P cs cv)) :
    PS X (.Assign [.Subscript o i p] v pos) (tC1 G eh W P cs (.sub co ci cv)) := by
  refine PS.imp (ps_asg hv (pg_sub ho hi2 (set_v (G := G) (eh := eh) hu) (by intro _; cases i <;> first | rfl | (cases hi; done))) (swapSole_sub hn) swap_sub (by rw [assign_cons rfl]; rfl)) fun D σ H q => ?_
  obtain ⟨F, am, env, μ, s, en, h⟩ := tC1.out q
  rw [NR.exec] at h
  refine tV.goS s en h fun r v μ1 F1 H1 am1 x1 s1 r1 en1 h1 => ?_
  refine tV.goS s1 en1 h1 fun y o μ2 F2 H2 am2 x2 s2 r2 en2 h2 => ?_
  refine tV.goS s2 en2 h2 fun z i μ3 F3 H3 am3 x3 s3 r3 en3 h3 => ?_
  cases e : setSub y z r μ3 with
  | none => rw [e] at h3; exact h3.elim
  | some μ4 =>
    rw [e] at h3
    exact ⟨F3, am3, μ3, μ4, y, z, r, s3, x3.rep r2, r3, x3.rep (x2.rep r1), e, fun H' s4 x4 => h3 _ _ _ _ x4 s4 (x4.en en3)⟩
end
end NR

/-! NR2e: index, count, remove, partition, str, int; sorted names of a dict. -/
namespace NR
open PySem L2
open PySem.Spec PyProof.Rows
section
variable {X : Cx} {G : Gi} {eh : List (Addr × Nat)}
theorem data_lst {ys : List PV} (h : data? (.lst ys) = true) : pures ys = true ∧ deps ys ≤ 63 := by
  obtain ⟨h1, h2⟩ := data_of h
  exact ⟨by simpa [pure?] using h1, by simpa [dep] using h2⟩
theorem data_tup {ys : List PV} (h : data? (.tup ys) = true) : pures ys = true ∧ deps ys ≤ 63 := by
  obtain ⟨h1, h2⟩ := data_of h
  exact ⟨by simpa [pure?] using h1, by simpa [dep] using h2⟩
theorem pure_at : ∀ {ys : List PV} {i : Nat} {y : PV}, pures ys = true → ys[i]? = some y → pure? y = true
  | [], _, _, _, e => by simp at e
  | z :: ys, 0, y, h, e => by
    simp only [pures, Bool.and_eq_true] at h
    simp at e; subst e; exact h.1
  | z :: ys, i + 1, y, h, e => by
    simp only [pures, Bool.and_eq_true] at h
    exact pure_at (i := i) h.2 (by simpa using e)
theorem find_at {ys : List PV} {x : PV} {j : Nat} (h : ys.findIdx? (fun y => peq y x) = some j) : ∃ y, ys[j]? = some y ∧ peq y x = true ∧ ∀ m z, m < j → ys[m]? = some z → peq z x = false := by
  rw [List.findIdx?_eq_some_iff_getElem] at h
  obtain ⟨hl, h1, h2⟩ := h
  refine ⟨ys[j], List.getElem?_eq_getElem hl, h1, fun m z hm e => ?_⟩
  obtain ⟨hml, rfl⟩ := List.getElem?_eq_some_iff.mp e
  simpa using h2 m hm
theorem see_pure {μ : Sto} {q : PV} (h : pure? q = true) : see μ q = q := by
  cases q <;> first | rfl | (simp [pure?] at h; done)
theorem toDs_get {ys : List PV} {i : Nat} {y : PV} (h : ys[i]? = some y) : (toDs ys)[i]? = some (toD y) := by rw [toDs_map, List.getElem?_map, h]; rfl
theorem m_index (hG : X.K = G.K) (hu : X.A.units + 65 < cLine) : MtR X "list.index" (vM G eh mIndex) := by
  intro pins s σ H x xs v us Q I rx r h
  obtain ⟨F, am, μ, p, ps, ex, st, rp, rps, h⟩ := h
  unfold mIndex at h
  split at h
  · rename_i q
    split at h
    · rename_i ys e
      unfold indexOf at h
      split at h
      · rename_i hd
        rw [Bool.and_eq_true] at hd
        split at h
        · rename_i j ej
          obtain ⟨a, vs, rfl, h1, r1⟩ := rp.seeL st e
          obtain ⟨d1, d2⟩ := data_of hd.1
          obtain ⟨l1, l2⟩ := data_lst hd.2
          cases rps with
          | cons rq r2 =>
            cases r2
            obtain ⟨y, hy, hyx, hno⟩ := find_at ej
            obtain ⟨dl, sl⟩ := shaped_of st rp (by rw [e]; exact hd.2)
            obtain ⟨dq, sq⟩ := shaped_of st rq (by rw [see_pure d1]; exact hd.1)
            rw [e] at dl sl
            rw [see_pure d1] at dq sq
            refine mt_indexD hu pins s σ H _ _ v us Q I rx r ⟨a, _, toD q, toDs ys, j, toD y, rfl, rfl, by rw [hG]; exact dl, by rw [hG]; exact dq, sl, sq, toDs_get hy, ?_, fun m z' hm ez => ?_, h.val st (.int _)⟩
            · rw [peq_toD _ _ (pure_at l1 hy) d1]; exact hyx
            · rw [toDs_map, List.getElem?_map] at ez
              cases em : ys[m]? with
              | none => rw [em] at ez; cases ez
              | some z =>
                rw [em] at ez
                cases ez
                rw [peq_toD _ _ (pure_at l1 em) d1]
                exact hno m z hm em
        · exact h.elim
      · exact h.elim
    · exact h.elim
  · exact h.elim
theorem countP_toD {x : PV} (hx : pure? x = true) : ∀ {ys : List PV}, pures ys = true → ((toDs ys).countP fun z => PyData.eqv z (toD x)) = ys.countP fun y => peq y x
  | [], _ => rfl
  | y :: ys, h => by
    simp only [pures, Bool.and_eq_true] at h
    simp only [toDs, List.countP_cons, peq_toD y x h.1 hx, countP_toD hx h.2]
mutual
theorem plain_toD : ∀ p : PV, pure? p = true → (toD p).plain = true
  | .non, _ => by simp [toD, PyData.plain]
  | .bl b, _ => by simp [toD, PyData.plain]
  | .int i, _ => by simp [toD, PyData.plain]
  | .str s, _ => by simp [toD, PyData.plain]
  | .tup xs, h => by simp only [toD, PyData.plain]; exact plain_toDs xs (by simpa [pure?] using h)
  | .lst xs, h => by simp only [toD, PyData.plain]; exact plain_toDs xs (by simpa [pure?] using h)
  | .loc _, h => by simp [pure?] at h
  | .exc _, h => by simp [pure?] at h
  | .scr _, h => by simp [pure?] at h
theorem plain_toDs : ∀ xs : List PV, pures xs = true → PyData.plainAll (toDs xs) = true
  | [], _ => by simp [toDs, PyData.plainAll]
  | x :: xs, h => by
    simp only [pures, Bool.and_eq_true] at h
    simp only [toDs, PyData.plainAll, Bool.and_eq_true]
    exact ⟨plain_toD x h.1, plain_toDs xs h.2⟩
end
theorem find_toD {x : PV} (hx : pure? x = true) : ∀ {ys : List PV}, pures ys = true → ((toDs ys).findIdx? fun z => PyData.eqv z (toD x)) = ys.findIdx? fun y => peq y x
  | [], _ => rfl
  | y :: ys, h => by
    simp only [pures, Bool.and_eq_true] at h
    simp only [toDs, List.findIdx?_cons, peq_toD y x h.1 hx, find_toD hx h.2]
theorem depAll_toDs {ys : List PV} (h : pures ys = true) : PyData.depthAll (toDs ys) = deps ys := deps_toDs ys h
theorem m_count (hG : X.K = G.K) (hu : X.A.units + 70 < cLine) : MtR X "list.count" (vM G eh mCount) := by
  intro pins s σ H x xs v us Q I rx r h
  obtain ⟨F, am, μ, p, ps, ex, st, rp, rps, h⟩ := h
  unfold mCount at h
  split at h
  · rename_i q
    split at h
    · rename_i ys e
      split at h
      · rename_i hd
        rw [Bool.and_eq_true] at hd
        obtain ⟨a, vs, rfl, h1, r1⟩ := rp.seeL st e
        obtain ⟨d1, d2⟩ := data_of hd.1
        obtain ⟨l1, l2⟩ := data_lst hd.2
        cases rps with
        | cons rq r2 =>
          cases r2
          obtain ⟨u, rfl, ru⟩ := r.one
          cases rx
          obtain ⟨its, rv, pl, hz⟩ := I.list (SqL.of h1)
          obtain ⟨as, ra⟩ := Dp.readsAll I (toDs ys) vs its (by rw [hG]; exact RepL.dp st ys vs r1 l1) rv
          obtain ⟨bs, rb⟩ := Dp.reads I _ _ _ (by rw [hG]; exact rq.dp st _ _ d1) ru
          refine SeqAt.count_list_data (xs := toDs ys) (d := toD q) pl.isList (by simpa using ra) rb (plain_toDs ys l1) (plain_toD q d1) (by rw [depAll_toDs l1]; have := Nat.min_le_left (deps ys) (toD q).depth; omega) ?_
          rw [countP_toD d1 l1]
          exact ⟨.int _, H, I.tok _, ⟨_, rfl⟩, h.val st (.int _)⟩
      · exact h.elim
    · exact h.elim
  · exact h.elim
theorem m_remove (hG : X.K = G.K) (hu : X.A.units + 70 < cLine) : MtR X "list.remove" (vM G eh mRemove) := by
  intro pins s σ H x xs v us Q I rx r h
  obtain ⟨F, am, μ, p, ps, ex, st, rp, rps, h⟩ := h
  unfold mRemove at h
  split at h
  · rename_i n q
    split at h
    · rename_i ys em
      split at h
      · rename_i hd
        rw [Bool.and_eq_true] at hd
        split at h
        · rename_i j ej
          cases rp with
          | loc ha =>
            obtain ⟨a', ha', vs, h1, r1⟩ := st.cellAt em
            rw [ha] at ha'; cases ha'
            obtain ⟨d1, d2⟩ := data_of hd.1
            obtain ⟨l1, l2⟩ := data_lst hd.2
            cases rps with
            | cons rq r2 =>
              cases r2
              obtain ⟨u, rfl, ru⟩ := r.one
              cases rx
              obtain ⟨z, its, m, rv, hl, e⟩ := I.lstM h1
              obtain ⟨as, ra⟩ := Dp.readsAll I (toDs ys) vs its (by rw [hG]; exact RepL.dp st ys vs r1 l1) rv
              obtain ⟨bs, rb⟩ := Dp.reads I _ _ _ (by rw [hG]; exact rq.dp st _ _ d1) ru
              have hp : SeqAt.dataPlace (toDs ys) (toD q) = some j := by
                unfold SeqAt.dataPlace
                rw [find_toD d1 l1]; exact ej
              refine SeqAt.remove_list_data (xs := toDs ys) (d := toD q) (vs := its.toArray) ⟨_, e, rfl, _, rfl⟩ (by simpa using ra) rb (plain_toDs ys l1) (plain_toD q d1) (by rw [depAll_toDs l1]; have := Nat.min_le_left (deps ys) (toD q).depth; omega) hp (by rw [List.size_toArray, ← hl]; exact z) ?_
              have rr : RepL G eh F am (ys.eraseIdx j) (vs.eraseIdx j) := by
                rw [List.eraseIdx_eq_take_drop_succ, List.eraseIdx_eq_take_drop_succ]
                exact (r1.take j).append (r1.drop (j + 1))
              obtain ⟨s2, x2⟩ := st.write (c := .list (ys.eraseIdx j)) (o := .lst (vs.eraseIdx j)) ha (List.getElem?_eq_some_iff.mp em).1 ⟨_, upd_same, rr⟩
              exact ⟨.non, _, I.lset (its' := its.eraseIdx j) h1 e (by simp) (rv.eraseIdx j) (by rw [List.length_eraseIdx]; split <;> omega), rfl, h _ _ _ x2 s2 _ .non⟩
        · exact h.elim
      · exact h.elim
    · exact h.elim
  · exact h.elim
/-! ### texts -/
theorem m_part : MtR X "str.partition" (vM G eh mPart) := by
  intro pins s σ H x xs v us Q I rx r h
  obtain ⟨F, am, μ, p, ps, ex, st, rp, rps, h⟩ := h
  unfold mPart at h
  split at h
  · rename_i z c d
    split at h
    · rename_i hl
      cases rp with
      | str _ oz =>
        cases rps with
        | cons rq r2 =>
          cases r2
          cases rq with
          | str _ oc =>
            have hy : TL.tl (mkT (c :: d)) ≠ [] := by rw [TL.tl_mk]; simp
            refine mt_partition pins s σ H _ _ v us Q I rx r ⟨mkT z, mkT (c :: d), rfl, rfl, by rw [mkT_len]; rfl, by rw [mkT_len, ← SL_eq]; exact hl, fun p hp => ?_⟩
            have e := TL.partition_par (mkT z) (mkT (c :: d)) hy
            rw [TL.tl_mk, TL.tl_mk] at e
            cases ep : TL.par (c :: d) [] z with
            | none =>
              rw [ep] at h e
              rw [e]
              exact h.newT st (.cons (.str _ oz) (.cons (.str [] (fun c hc => by cases hc)) (.cons (.str [] (fun c hc => by cases hc)) .nil))) p hp
            | some ab =>
              obtain ⟨a, b⟩ := ab
              rw [ep] at h e
              rw [e]
              have hab : ∀ (l acc : List Nat) a b, TL.par (c :: d) acc l = some (a, b) → (∀ k ∈ a, k ∈ acc ∨ k ∈ l) ∧ ∀ k ∈ b, k ∈ l := by
                intro l
                induction l with
                | nil => intro acc a b h; cases h
                | cons k l ih =>
                  intro acc a b h
                  cases hp : TL.pre (c :: d) (k :: l) with
                  | true =>
                    rw [TL.par_hit hp] at h
                    cases h
                    exact ⟨fun k hk => .inl hk, fun k hk => List.mem_of_mem_drop hk⟩
                  | false =>
                    rw [TL.par_miss hp] at h
                    obtain ⟨h1, h2⟩ := ih _ _ _ h
                    refine ⟨fun j hj => ?_, fun j hj => List.mem_cons_of_mem _ (h2 j hj)⟩
                    rcases h1 j hj with q | q
                    · rcases List.mem_append.mp q with q | q
                      · exact .inl q
                      · exact .inr (by rw [List.mem_singleton.mp q]; exact List.mem_cons_self)
                    · exact .inr (List.mem_cons_of_mem _ q)
              obtain ⟨h1, h2⟩ := hab z [] a b ep
              exact h.newT st (.cons (.str a fun k hk => oz k ((h1 k hk).elim (fun q => by cases q) id)) (.cons (.str _ oc) (.cons (.str b fun k hk => oz k (h2 k hk)) .nil))) p hp
    · exact h.elim
  · exact h.elim
theorem numL_ok (n : Nat) : okTxt (TL.numL n) := fun c hc => by
  have := TL.numL_digits n c hc
  omega
theorem c_str : CallR X (.type "str") (vL1 G eh opStr) := by
  intro pins s σ H xs us Q I r h
  obtain ⟨x, rfl, F, am, μ, p, ex, st, rp, h⟩ := h
  unfold opStr at h
  split at h
  · rename_i i
    split at h
    · rename_i hi
      cases rp
      obtain ⟨n, rfl⟩ := Int.eq_ofNat_of_zero_le hi.1
      refine call_str_int pins s σ H _ us Q I r ⟨_, rfl, ?_, ?_⟩
      · have h2 : n < 2 ^ 20 := by omega
        show (n : Int).natAbs.log2 < 1920
        rw [Int.natAbs_natCast]
        by_cases h0 : n = 0
        · rw [h0]; decide
        · have := (Nat.log2_lt h0 (k := 20)).mpr h2
          omega
      · have e : Str.ofString (toString (n : Int)) = mkT (TL.numL n) := TL.ext_tl (TL.tl_num n)
        rw [e]
        exact h.val st (.str _ (numL_ok n))
    · exact h.elim
  · cases rp with
    | str _ o => exact SkE.call_str_str pins s σ H _ us Q I r ⟨_, rfl, h.val st (.str _ o)⟩
  · exact h.elim
theorem dig1 : ((List.range 10).all fun a => decide (PySem.intText? (mkT [48 + a]) = some ((a : Nat) : Int))) = true := by decide +kernel
theorem dig2 : ((List.range 10).all fun a => (List.range 10).all fun b => decide (PySem.intText? (mkT [48 + a, 48 + b]) = some ((a * 10 + b : Nat) : Int))) = true := by decide +kernel
theorem digit_of {a : Nat} (h : digit? a = true) : ∃ k, k < 10 ∧ a = 48 + k := by
  unfold digit? at h
  simp at h
  exact ⟨a - 48, by omega, by omega⟩
theorem c_int : CallR X (.type "int") (vL1 G eh opInt) := by
  intro pins s σ H xs us Q I r h
  obtain ⟨x, rfl, F, am, μ, p, ex, st, rp, h⟩ := h
  have h1 := dig1
  have h2 := dig2
  simp only [List.all_eq_true, List.mem_range, decide_eq_true_eq] at h1 h2
  unfold opInt at h
  split at h
  · split at h
    · rename_i hd
      obtain ⟨k, hk, rfl⟩ := digit_of hd
      cases rp
      refine call_int_str pins s σ H _ us Q I r ⟨_, _, rfl, h1 k hk, by rw [mkT_len]; show 1 ≤ 640; omega, ?_⟩
      have e : 48 + k - 48 = k := by omega
      rw [e] at h
      exact h.val st (.int _)
    · exact h.elim
  · split at h
    · rename_i hd
      rw [Bool.and_eq_true] at hd
      obtain ⟨k, hk, rfl⟩ := digit_of hd.1
      obtain ⟨l, hl, rfl⟩ := digit_of hd.2
      cases rp
      refine call_int_str pins s σ H _ us Q I r ⟨_, _, rfl, h2 k hk l hl, by rw [mkT_len]; show 2 ≤ 640; omega, ?_⟩
      have e : 48 + k - 48 = k := by omega
      have e2 : 48 + l - 48 = l := by omega
      rw [e, e2] at h
      exact h.val st (.int _)
    · exact h.elim
  · exact h.elim
end
end NR

/-! NR3h: sorted by a key. -/
namespace NR
open PySem L2
open PySem.Spec PyProof.Rows RZ
/-- the key at f, called within sorted while the slots σ stand; pf: what is pinned for it -/
def KeyRun (X : Cx) (G : Gi) (eh : List (Addr × Nat)) (σ : L2.St) (f : Value) (pf : List (Addr × Obj)) (F0 H0 : Hp) (am0 : List Addr) (g : PV → Sto → R PV) : Prop :=
  ∀ (pins : List (Addr × Obj)) (s : Shared) (F H : Hp) (am : List Addr) (μ μ' : Sto) (p k : PV) (x : V) (u : Value),
    (∀ q ∈ pf, q ∈ pins) → L2.Inv X pins σ H s → Ext F0 H0 am0 F H am → StOk G eh F H am μ → Rep G eh F am p x → RelV x u → g p μ = .ok k μ' →
    wpAny (model X.prog X.w) X.A.in1.in1 (call f [u]) (fun r s' => ∃ v F' H' am', L2.Inv X pins σ H' s' ∧ RelV v r ∧ Ext F H am F' H' am' ∧ StOk G eh F' H' am' μ' ∧ Rep G eh F' am' k v) (fun _ _ => False) s
theorem keysBy_cons {g : PV → Sto → R PV} {x : PV} {xs kz : List PV} {μ μe : Sto} (h : keysBy g (x :: xs) μ = .ok kz μe) : ∃ k ks μ1, g x μ = .ok k μ1 ∧ keysBy g xs μ1 = .ok ks μe ∧ kz = k :: ks := by
  rw [keysBy] at h
  cases e : g x μ with
  | bad => rw [e] at h; cases h
  | exn c m => rw [e] at h; cases h
  | ok k μ1 =>
    rw [e] at h
    have h : (keysBy g xs μ1).bind (fun ks μ => R.ok (k :: ks) μ) = .ok kz μe := h
    cases e2 : keysBy g xs μ1 with
    | bad => rw [e2] at h; cases h
    | exn c m => rw [e2] at h; cases h
    | ok ks μ2 =>
      rw [e2] at h
      have h : R.ok (k :: ks) μ2 = .ok kz μe := h
      cases h
      exact ⟨k, ks, μ1, rfl, e2, rfl⟩
theorem keysBy_len {g : PV → Sto → R PV} : ∀ {xs kz : List PV} {μ μe : Sto}, keysBy g xs μ = .ok kz μe → kz.length = xs.length
  | [], kz, μ, μe, h => by rw [keysBy] at h; cases h; rfl
  | x :: xs, kz, μ, μe, h => by
    obtain ⟨k, ks, μ1, _, h2, rfl⟩ := keysBy_cons h
    simp [keysBy_len h2]
theorem keysBy_drop {g : PV → Sto → R PV} {xs kz : List PV} {μ μe : Sto} {x : PV} {j : Nat} (hj : xs[j]? = some x) (h : keysBy g (xs.drop j) μ = .ok kz μe) : ∃ k ks μ1, g x μ = .ok k μ1 ∧ keysBy g (xs.drop (j + 1)) μ1 = .ok ks μe ∧ kz = k :: ks := by
  obtain ⟨hl, e⟩ := List.getElem?_eq_some_iff.mp hj
  rw [List.drop_eq_getElem_cons hl, e] at h
  exact keysBy_cons h
section
variable {X : Cx} {G : Gi} {eh : List (Addr × Nat)} {σ : L2.St} {pins pf : List (Addr × Obj)} {F H : Hp} {am : List Addr} {μ : Sto}
/-- what holds when j keys are made -/
def KSt (X : Cx) (G : Gi) (eh : List (Addr × Nat)) (σ : L2.St) (pins : List (Addr × Obj)) (F H : Hp) (am : List Addr) (a kS : Addr) (oa : Obj) (g : PV → Sto → R PV) (xs kz : List PV) (μe : Sto) (j : Nat) (s' : Shared) : Prop :=
  ∃ F' H' am' μ' kA e ks ws, L2.Inv X ((a, oa) :: (kS, seqObj "list" kA e) :: pins) σ H' s' ∧ Ext F H am F' H' am' ∧ StOk G eh F' H' am' μ' ∧ Vals ws kA.toList ∧ RepL G eh F' am' ks ws ∧ ks = kz.take j ∧ keysBy g (xs.drop j) μ' = .ok (kz.drop j) μe
theorem pinT {a : Addr} {o : Obj} {s : Shared} (I : L2.Inv X pins σ H s) (h : (a, o) ∈ pins) : s.heap.get? a = some o ∧ H a = none ∧ a ≠ X.env.locals ∧ a ∉ X.fs ∧ ∀ v, o.data ≠ .cell v := I.pin (a, o) (List.mem_append_right _ h)
theorem repins {pins' : List (Addr × Obj)} {s : Shared} (I : L2.Inv X pins σ H s) (h : ∀ p ∈ pins', p ∈ pins) : L2.Inv X pins' σ H s := I.pins_of fun p hp => I.pin p (List.mem_append_right _ (h p hp))
/-- one more key -/
theorem key_turn {a kS : Addr} {e1 : Nat} {f : Value} {g : PV → Sto → R PV} {xs kz : List PV} {ys : List V} {vs : List Value} {μe : Sto} (KR : KeyRun X G eh σ f pf F H am g) (hpf : ∀ q ∈ pf, q ∈ pins) (hka : kS ≠ a)
    (hkC : ∀ q ∈ pins, q.1 ≠ kS) (hpn : ∀ q ∈ X.pn, q.1 ≠ kS) (hk0 : X.s_0.heap.objs.size ≤ kS) (hkc : ∀ x c, X.env.cells.lookup x = some c → c ≠ kS) (rx : RepL G eh F am xs ys) (rv : Vals ys vs) (hZ : xs.length ≤ sizeLine)
    {j : Nat} {u : Value} (hu : vs[j]? = some u) {s' : Shared} (h : KSt X G eh σ pins F H am a kS (seqObj "list" #[] e1) g xs kz μe j s')
    {E' : Value → Shared → Prop} : wpAny (model X.prog X.w) X.A.in1.in1 (call f [u]) (fun r s2 => wpAny (model X.prog X.w) X.A.in1.in1 (Builtin.List.listUpdate (.ref kS) (·.push r)) (fun _ s'' => KSt X G eh σ pins F H am a kS (seqObj "list" #[] e1) g xs kz μe (j + 1) s'') E' s2) (fun _ _ => False) s' := by
  obtain ⟨F1, H1, am1, μ1, kA, e, ks, ws, I1, x1, st1, rw1, rk1, rfl, hk⟩ := h
  have hjl : j < vs.length := (List.getElem?_eq_some_iff.mp hu).1
  have hyl : j < ys.length := by rw [rv.length]; exact hjl
  obtain ⟨y, hy⟩ : ∃ y, ys[j]? = some y := ⟨_, List.getElem?_eq_getElem hyl⟩
  have ry : RelV y u := by
    obtain ⟨u', e1, e2⟩ := rv.get hy
    rw [hu] at e1; cases e1; exact e2
  obtain ⟨p, hp, rp⟩ := rx.getV hy
  obtain ⟨k, kr, μ2, hg, hrest, ekz⟩ := keysBy_drop hp hk
  refine wpAny_mono (KR _ s' F1 H1 am1 μ1 μ2 p k y u (fun q hq => List.mem_cons_of_mem _ (List.mem_cons_of_mem _ (hpf q hq))) I1 x1 st1 (x1.rep rp) ry hg) (fun r s2 h2 => ?_) fun _ _ hF => hF
  obtain ⟨w, F2, H2, am2, I2, rw2, x2, st2, rp2⟩ := h2
  obtain ⟨nk, hnk, nkL, nkf, _⟩ := pinT I2 (a := kS) (List.mem_cons_of_mem _ List.mem_cons_self)
  have len2 : kA.size = j := by
    have l1 : ws.length = kA.size := rw1.length.trans Array.length_toList
    have l2 : min j kz.length = ws.length := (List.length_take).symm.trans rk1.length
    have l4 : kz.length - j = kr.length + 1 := (List.length_drop).symm.trans (congrArg List.length ekz)
    omega
  have hxl : xs.length = vs.length := rx.length.trans rv.length
  try dsimp only
  obtain ⟨c2, hc2⟩ : ∃ c2, (s2.heap.update kS (Obj.mapSeq (·.push r))).get? kS = some (seqObj "list" (kA.push r) c2) := ⟨_, get?_update_seq nk (·.push r)⟩
  have sb := Heap.SameBut.update s2.heap kS (Obj.mapSeq (·.push r))
  refine listUpdate_at nk rfl ?_ (by rw [len2]; omega) (by rw [Array.size_push, len2]; omega)
  have I3 : L2.Inv X ((a, seqObj "list" #[] e1) :: pins) σ H2 { s2 with heap := s2.heap.update kS (Obj.mapSeq (·.push r)), toks := s2.toks } :=
    (repins I2 (pins' := (a, seqObj "list" #[] e1) :: pins) fun q hq => by
      rcases List.mem_cons.mp hq with z | z
      · exact z ▸ List.mem_cons_self
      · exact List.mem_cons_of_mem _ (List.mem_cons_of_mem _ z)).turned (it := kS) (fun b o hb ho => (sb.2 b hb).trans ho) hnk nkL (.inr hk0) hkc fun q hq => by
        rcases List.mem_append.mp hq with z | z
        · exact hpn q z
        · rcases List.mem_cons.mp z with z | z
          · rw [z]; exact hka.symm
          · exact hkC q z
  refine ⟨F2, H2, am2, μ2, kA.push r, c2, kz.take j ++ [k], ws ++ [w], I3.pins_of fun q hq => ?_, x1.trans x2, st2, ?_, (x2.repL rk1).append (.cons rp2 .nil), ?_, ?_⟩
  · rcases List.mem_cons.mp hq with z | z
    · exact I3.pin q (List.mem_append_right _ (z ▸ List.mem_cons_self))
    · rcases List.mem_cons.mp z with z | z
      · rw [z]
        exact ⟨hc2, hnk, nkL, nkf, fun v d => by cases d⟩
      · exact I3.pin q (List.mem_append_right _ (List.mem_cons_of_mem _ z))
  · rw [Array.toList_push]
    exact rw1.append (.cons rw2 .nil)
  · have hkj : kz[j]? = some k := by
      have q := congrArg (fun l => l[0]?) ekz
      simpa using q
    rw [List.take_add_one, hkj]; rfl
  · have e2 : kz.drop (j + 1) = kr := by
      have q := congrArg List.tail ekz
      simpa [List.tail_drop] using q
    rw [e2]; exact hrest
/-- a heap without the object at k -/
def hideK (h : Heap) (k : Addr) : Heap := hidT h fun b => if b = k then some (.tup []) else none
theorem hideK_none {h : Heap} {k : Addr} : (hideK h k).get? k = none := by
  cases e : (hideK h k).get? k with
  | none => rfl
  | some o =>
    have := (of_hidT e).2
    rw [if_pos rfl] at this
    cases this
theorem hideK_keeps {h : Heap} {a k : Addr} : PySem.W.KeepsBut a (hideK h k) h := fun _ _ _ e => (of_hidT e).1
theorem hideK_get {h : Heap} {b k : Addr} {o : Obj} (e : h.get? b = some o) (n : b ≠ k) : (hideK h k).get? b = some o := hidT_get e (if_neg n)
theorem each_keys {F H : Hp} {am : List Addr} {μ : Sto} {pins : List (Addr × Obj)} {s : Shared} (hG : X.K = G.K) (I : L2.Inv X pins σ H s) (st : StOk G eh F H am μ) : ∀ {ps : List PV} {vs : List V} {us : List Value}, RepL G eh F am ps vs → (ps.all fun k => pure? k) = true → Vals vs us →
    PySem.W.EachIs (fun (u : Value) (d : PyData) => ∃ as, Reads s.heap u d as) us (ps.map toD)
  | _, _, _, .nil, _, .nil => .nil
  | _, _, _, .cons r1 r2, h, .cons q1 q2 => by
    simp only [List.all_cons, Bool.and_eq_true] at h
    exact .cons (Dp.reads I _ _ _ (by rw [hG]; exact r1.dp st _ _ h.1) q1) (each_keys hG I st r2 h.2 q2)
theorem each_trip : ∀ {ks xs : List PV} {ys : List V} {vs : List Value}, ks.length = xs.length → xs.length = ys.length → Vals ys vs → PySem.W.EachIs (fun (u : Value) (b : PV × PV × V) => RelV b.2.2 u) vs (ks.zip (xs.zip ys))
  | [], [], [], [], _, _, .nil => .nil
  | _ :: _, _ :: _, _ :: _, _ :: _, h1, h2, .cons r t => .cons r (each_trip (by simpa using h1) (by simpa using h2) t)
theorem each_outT : ∀ {us : List Value} {bs : List (PV × PV × V)}, PySem.W.EachIs (fun (u : Value) (b : PV × PV × V) => RelV b.2.2 u) us bs → Vals (bs.map (·.2.2)) us
  | _, _, .nil => .nil
  | _, _, .cons r t => .cons r (each_outT t)
/-- the sort by the key at f, over the copy at a -/
theorem sortK_tree {a : Addr} {f : Value} {g : PV → Sto → R PV} {xs kz : List PV} {ys : List V} {vs : List Value} {μe : Sto} {n : Nat} {s : Shared} {Q : Value → Shared → Prop} {E' : Value → Shared → Prop} (hG : X.K = G.K) (hu : X.A.units + 70 < cLine) (KR : KeyRun X G eh σ f pf F H am g) (hpf : ∀ q ∈ pf, q ∈ pins)
    (I : L2.Inv X pins σ H s) (st : StOk G eh F H am μ) (ho : s.heap.get? a = some (seqObj "list" vs.toArray n)) (hHa : H a = none) (haL : a ≠ X.env.locals) (haf : a ∉ X.fs) (ha0 : X.s_0.heap.objs.size ≤ a) (hac : ∀ x c, X.env.cells.lookup x = some c → c ≠ a) (hap : ∀ q ∈ pins, q.1 ≠ a) (hapn : ∀ q ∈ X.pn, q.1 ≠ a)
    (rx : RepL G eh F am xs ys) (rv : Vals ys vs) (hZ : xs.length ≤ sizeLine) (hk : keysBy g xs μ = .ok kz μe) (hs : sortable kz = true)
    (h : ∀ F' H' am' s', L2.Inv X pins σ H' s' → Ext F H am F' H' am' → StOk G eh F' H' am' μe → RepL G eh F' am' (((kz.zip xs).mergeSort (PySem.W.dataLe false fun q => toD q.1)).map (·.2)) ((((kz.zip (xs.zip ys)).mergeSort (PySem.W.dataLe false fun q => toD q.1))).map (·.2.2)) →
      H' a = some (.lst ((((kz.zip (xs.zip ys)).mergeSort (PySem.W.dataLe false fun q => toD q.1))).map (·.2.2))) → F' a = none → a ∉ am' → Q .none s') :
    wpAny (model X.prog X.w) X.A.in1.in1 (PyProof.Rows.ksk_tree a f false) (fun fl s' => fl = .done (.ret .none) ∧ Q .none s') E' s := by
  have hxl : xs.length = vs.length := rx.length.trans rv.length
  have hkl : kz.length = xs.length := keysBy_len hk
  obtain ⟨k1, k2, k3, k4⟩ := sortable_of hs
  have haH : Nat.lt a s.heap.objs.size := Heap.lt_size ho
  have haH : (show Nat from a) + 1 ≤ s.heap.objs.size := haH
  obtain ⟨e1, ho1⟩ : ∃ e1, (s.heap.update a (Obj.mapSeq fun _ => (#[] : Array Value))).get? a = some (seqObj "list" #[] e1) := ⟨_, get?_update_seq ho fun _ => #[]⟩
  have sb := Heap.SameBut.update s.heap a (Obj.mapSeq fun _ => (#[] : Array Value))
  have hsz1 : (s.heap.update a (Obj.mapSeq fun _ => (#[] : Array Value))).objs.size = s.heap.objs.size := Heap.size_update _ _ _
  have hsz2 : ((s.heap.update a (Obj.mapSeq fun _ => (#[] : Array Value))).push (seqObj "tuple" vs.toArray 0)).objs.size = s.heap.objs.size + 1 := by rw [size_push', hsz1]
  unfold PyProof.Rows.ksk_tree
  refine wpAny_bind (listItems_at ho rfl ?_)
  refine wpAny_bind (listUpdate_at ho rfl ?_ (by rw [List.size_toArray]; omega) (Nat.zero_le _))
  refine wpAny_bind (seqEpoch_at ho1 rfl ?_)
  refine wpAny_bind (wpAny_newTuple ?_ (by show vs.length ≤ _; omega))
  refine wpAny_bind (wpAny_newList ?_ (Nat.zero_le _))
  refine wpAny_holding ?_
  rw [hsz2]
  obtain ⟨kS, hkS⟩ : ∃ kS : Nat, s.heap.objs.size + 1 = kS := ⟨_, rfl⟩
  rw [hkS]
  have hka : kS ≠ a := fun z => by rw [← z] at haH; exact absurd (show kS + 1 ≤ s.heap.objs.size from haH) (by omega)
  -- the state ahead of the first key
  have I0 : L2.Inv X pins σ H { s with heap := s.heap.update a (Obj.mapSeq fun _ => (#[] : Array Value)), toks := s.toks } :=
    I.turned (it := a) (fun b o hb e => (sb.2 b hb).trans e) hHa haL (.inr ha0) hac fun q hq => by
      rcases List.mem_append.mp hq with z | z
      · exact hapn q z
      · exact hap q z
  have I1 : L2.Inv X pins σ H { s with heap := ((s.heap.update a (Obj.mapSeq fun _ => (#[] : Array Value))).push (seqObj "tuple" vs.toArray 0)).push (seqObj "list" #[] 0), toks := s.toks } :=
    I0.kept (t' := s.toks) fun b o e => Heap.get?_push_of_some _ (Heap.get?_push_of_some _ e)
  have hnew : (((s.heap.update a (Obj.mapSeq fun _ => (#[] : Array Value))).push (seqObj "tuple" vs.toArray 0)).push (seqObj "list" #[] 0)).get? kS = some (seqObj "list" #[] 0) := by
    rw [← hkS, ← hsz2]; exact Heap.get?_push_size _ rfl
  have hkz : s.heap.objs.size ≤ kS := by omega
  have hkF : H kS = none := I.hok.fresh hkz
  have hold : ∀ b o, s.heap.get? b = some o → b ≠ kS := fun b o e z => by have h1 : Nat.lt b s.heap.objs.size := Heap.lt_size e; rw [z] at h1; exact absurd (show kS + 1 ≤ s.heap.objs.size from h1) (by omega)
  have hkL : kS ≠ X.env.locals := fun z => by have h1 : Nat.lt X.env.locals s.heap.objs.size := I.lt; rw [← z] at h1; exact absurd (show kS + 1 ≤ s.heap.objs.size from h1) (by omega)
  have hkf : kS ∉ X.fs := I.nofs hkz
  have hkC : ∀ q ∈ pins, q.1 ≠ kS := fun q hq => hold _ _ (I.pin q (List.mem_append_right _ hq)).1
  have hpn : ∀ q ∈ X.pn, q.1 ≠ kS := fun q hq => hold _ _ (I.pin q (List.mem_append_left _ hq)).1
  have hk0 : X.s_0.heap.objs.size ≤ kS := by have := I.sz; omega
  have hkc : ∀ x c, X.env.cells.lookup x = some c → c ≠ kS := fun x c e => by
    obtain ⟨v, o, ho', _⟩ := I.cell x c e
    exact hold _ _ ho'
  have S0 : KSt X G eh σ pins F H am a kS (seqObj "list" #[] e1) g xs kz μe 0 { s with heap := ((s.heap.update a (Obj.mapSeq fun _ => (#[] : Array Value))).push (seqObj "tuple" vs.toArray 0)).push (seqObj "list" #[] 0), toks := s.toks } := by
    refine ⟨F, H, am, μ, #[], 0, [], [], I1.pins_of fun q hq => ?_, Ext.refl, st, .nil, .nil, by simp, by simpa using hk⟩
    rcases List.mem_cons.mp hq with z | z
    · rw [z]
      exact ⟨Heap.get?_push_of_some _ (Heap.get?_push_of_some _ ho1), hHa, haL, haf, fun v d => by cases d⟩
    · rcases List.mem_cons.mp z with z | z
      · rw [z]
        exact ⟨hnew, hkF, hkL, hkf, fun v d => by cases d⟩
      · exact I1.pin q (List.mem_append_right _ z)
  unfold PyProof.Rows.ksk_rest
  refine wpAny_bind (wpAny_rule ?_)
  rw [List.forIn_toArray]
  refine wpAny_bind (PyProof.Rows.ksk_fold (fun j s' => KSt X G eh σ pins F H am a kS (seqObj "list" #[] e1) g xs kz μe j s') vs 0 _ S0 (fun j u s' hj hS => ?_) fun s' hS => ?_)
  · rw [Nat.zero_add] at hS ⊢
    refine wpAny_bind (wpAny_attempt (wpAny_mono (key_turn (E' := E') KR hpf hka hkC hpn hk0 hkc rx rv hZ hj hS) (fun r s2 h2 => ?_) fun _ _ hF => hF.elim))
    try dsimp only
    exact wpAny_bind (wpAny_mono h2 (fun _ s3 h3 => wpAny_pure ⟨rfl, h3⟩) fun _ _ q => q)
  · rw [Nat.zero_add] at hS
    obtain ⟨F1, H1, am1, μ1, kA, e, ks, ws, J, x1, st1, rw1, rk1, rfl, hk1⟩ := hS
    obtain ⟨na, hna, _, _, _⟩ := pinT J (a := a) List.mem_cons_self
    obtain ⟨nk, hnk, _, _, _⟩ := pinT J (a := kS) (List.mem_cons_of_mem _ List.mem_cons_self)
    rw [List.take_of_length_le (by omega)] at rk1
    have eμ : μ1 = μe := by
      rw [List.drop_of_length_le (by omega), List.drop_of_length_le (by omega), keysBy] at hk1
      cases hk1; rfl
    subst eμ
    have hsz : kA.size = vs.length := by
      have l1 : ws.length = kA.size := rw1.length.trans Array.length_toList
      have l2 := rk1.length
      omega
    try dsimp only
    refine wpAny_bind (listItems_at nk rfl ?_)
    have hal : (kz.map toD).length = vs.length := by rw [List.length_map]; omega
    have ek := each_keys hG J st1 rk1 k1 rw1
    have eT := each_trip (ks := kz) hkl rx.length rv
    have ebs : (kz.zip (xs.zip ys)).map (fun b => toD b.1) = kz.map toD := by
      have z : (kz.zip (xs.zip ys)).map (·.1) = kz := List.map_fst_zip (by rw [List.length_zip, ← rx.length, Nat.min_self]; omega)
      conv => rhs; rw [← z]
      rw [List.map_map]; rfl
    refine PySem.W.keyH_end (κ := PySem.W.dataKind s'.heap (kz.map toD)) (h₁ := hideK s'.heap kS) hideK_keeps hideK_none nk na hka (PySem.W.SortsAt.data (s := s') ek k3 k4 fun d hd => ?_) hsz (by omega) fun h3 tk3 c3 kp3 n3 => ⟨rfl, ?_⟩
    · obtain ⟨k, hk', rfl⟩ := List.mem_map.mp hd
      have hp : pure? k = true := by rw [List.all_eq_true] at k1; exact k1 _ hk'
      show X.A.units + 2 + (toD k).depth < cLine
      rw [dep_toD _ hp]
      have := k2 _ hk'
      omega
    · have ko : PySem.W.KeyedOut false ((kz.zip (xs.zip ys)).map fun b => toD b.1) vs (PySem.W.sortVals (PySem.W.dataKind s'.heap (kz.map toD)) false kA.toList vs) := by
        rw [ebs]
        exact ⟨s'.heap, kA.toList, k3, rfl, ek⟩
      have eo := PySem.W.keyedOut_each (fun b : PV × PV × V => toD b.1) ko eT
      have vo := each_outT eo
      have rzip : ∀ {qs : List PV} {ps : List PV} {zs : List V}, RepL G eh F am ps zs → ∀ b ∈ qs.zip (ps.zip zs), Rep G eh F am b.2.1 b.2.2 := fun {qs ps zs} r b hb => repL_zip r b.2 (List.of_mem_zip (show (b.1, b.2) ∈ qs.zip (ps.zip zs) from hb)).2
      have rp : ∀ {bs : List (PV × PV × V)}, (∀ b ∈ bs, Rep G eh F am b.2.1 b.2.2) → RepL G eh F am (bs.map (·.2.1)) (bs.map (·.2.2)) := fun {bs} hb => by
        have q := repL_pairs (G := G) (eh := eh) (F := F) (am := am) (bs := bs.map (·.2)) fun c hc => by
          obtain ⟨b, hb2, rfl⟩ := List.mem_map.mp hc
          exact hb b hb2
        rw [List.map_map, List.map_map] at q
        exact q
      have esort : ((kz.zip xs).mergeSort (PySem.W.dataLe false fun q => toD q.1)).map (·.2) = ((kz.zip (xs.zip ys)).mergeSort (PySem.W.dataLe false fun q => toD q.1)).map (·.2.1) := by
        have z : (kz.zip (xs.zip ys)).map (fun b => (b.1, b.2.1)) = kz.zip xs := by
          have z1 : (xs.zip ys).map (·.1) = xs := List.map_fst_zip (by rw [rx.length]; exact Nat.le_refl _)
          conv => rhs; rw [← z1]
          rw [List.zip_map_right]; rfl
        have z2 := PySem.W.sort_maps (r := PySem.W.dataLe false fun b : PV × PV × V => toD b.1) (s := PySem.W.dataLe false fun q : PV × PV => toD q.1) (fun b : PV × PV × V => (b.1, b.2.1)) (l := kz.zip (xs.zip ys)) (fun a _ b _ => rfl)
        rw [z] at z2
        rw [← z2, List.map_map]; rfl
      have rout := rp (bs := (kz.zip (xs.zip ys)).mergeSort (PySem.W.dataLe false fun q => toD q.1)) fun b hb => rzip rx b (List.mem_mergeSort.mp hb)
      rw [← esort] at rout
      have hne : ∀ b u, H1 b = some u → b ≠ a := fun b u e z => by rw [z, hna] at e; cases e
      have hnk' : ∀ b u, H1 b = some u → b ≠ kS := fun b u e z => by rw [z, hnk] at e; cases e
      have kp : ∀ b o, b ≠ a → b ≠ kS → s'.heap.get? b = some o → h3.get? b = some o := fun b o h1 h2 e => kp3 b o h1 (hideK_get e h2)
      have J0 := repins J (pins' := pins) fun q hq => List.mem_cons_of_mem _ (List.mem_cons_of_mem _ hq)
      have J1 : L2.Inv X pins σ (upd H1 a (.lst (((kz.zip (xs.zip ys)).mergeSort (PySem.W.dataLe false fun q => toD q.1)).map (·.2.2)))) { s' with heap := h3, gens := s'.gens, drawn := s'.drawn, toks := tk3 } := by
        have nin : ∀ b : Addr, b ∉ [a, kS] → b ≠ a ∧ b ≠ kS := fun b hb => ⟨fun z => hb (by simp [z]), fun z => hb (by simp [z])⟩
        refine J0.step (ch := [a, kS]) (fun b hb => ?_) (fun b o _ _ hc e _ => kp b o (nin b hc).1 (nin b hc).2 e) (fun b o _ _ hc e _ => ⟨o.slots, kp b o (nin b hc).1 (nin b hc).2 e⟩) (fun b o hc _ e => by rw [upd_ne (nin b hc).1]; exact e)
          (fun b o hc e => ⟨o, kp b o (nin b hc).1 (nin b hc).2 e⟩) (fun b l e => by rw [upd_ne (hne b _ e)]; exact e) (fun b o l e => by rw [upd_ne (hne b _ e)]; exact e) (fun b l e => ⟨#[], by rw [upd_ne (hne b _ e), e]; simp⟩) (fun m hm => ?_) (fun b u e => ?_) J0.bare
        · rcases List.mem_cons.mp hb with z | z
          · subst z
            exact ⟨.inr ha0, haL, hac, fun q hq => (List.mem_append.mp hq).elim (hapn q) (hap q)⟩
          · rw [List.mem_singleton.mp z]
            exact ⟨.inr hk0, hkL, hkc, fun q hq => (List.mem_append.mp hq).elim (hpn q) (hkC q)⟩
        · obtain ⟨o, es, ep, ho', r'⟩ := hm
          exact ⟨o, es, ep, kp _ o haL.symm hkL.symm ho', r'⟩
        · by_cases hb : b = a
          · subst hb
            rw [upd_same] at e
            cases e
            refine ⟨?_, _, c3, vo, n3⟩
            rw [List.length_map, List.length_mergeSort, List.length_zip, List.length_zip, ← rx.length, Nat.min_self]
            omega
          · rw [upd_ne hb] at e
            refine (J0.hok b u e).stay (fun d v hd q => ?_) (fun d q => by rw [upd_ne (hne d _ q)]; exact q) fun d l q => by rw [upd_ne (hne d _ q)]; exact q
            rcases hd with z | z
            · rw [z] at q ⊢; exact kp _ v hb (hnk' b u e) q
            · exact kp _ v (hne d _ z) (hnk' d _ z) q
      obtain ⟨p1, p2⟩ := st.free hHa
      have q2 : F1 a = none := by
        cases e : F1 a with
        | none => rfl
        | some u => rw [st1.sub _ _ e] at hna; cases hna
      have q1 : a ∉ am1 := fun hm => by
        obtain ⟨o, e⟩ := st1.there hm
        rw [hna] at e; cases e
      exact h F1 _ am1 _ J1 (x1.side hHa) (st1.side q1 q2 (.inl hna)) (x1.repL rout) upd_same q2 q1
end
end NR

/-! NR3i: lambdas of one parameter, defs, as keys. -/
namespace NR
open PySem L2
open PySem.Spec PyProof.Rows RZ
/-- a lambda's names: one parameter, captured ones, globals -/
structure LamP (sc scope : Scope) (x : Str) : Prop where
  kind : scope.kind = .function
  co : scope.isCoroutine = false
  gen : scope.isGenerator = false
  nocell : ∀ y ∈ scope.names, y.2 ≠ .cell
  own : ∀ y ∈ scope.names, y.2 = .local → y.1 = x
  par : scope.names.lookup x = some .local
  free : ∀ y ∈ scope.names, y.2 = .free → sc.names.lookup y.1 = some .cell ∨ sc.names.lookup y.1 = some .free
def lamPB (sc scope : Scope) (x : Str) : Bool :=
  (match scope.kind with | .function => true | _ => false) && !scope.isCoroutine && !scope.isGenerator && (scope.names.all fun y => match y.2 with | .cell => false | .local => y.1 == x | .free => (match sc.names.lookup y.1 with | some .cell => true | some .free => true | _ => false) | _ => true) &&
    (match scope.names.lookup x with | some .local => true | _ => false)
theorem lamP_of {sc scope : Scope} {x : Str} (h : lamPB sc scope x = true) : LamP sc scope x := by
  unfold lamPB at h
  simp only [Bool.and_eq_true, Bool.not_eq_true', List.all_eq_true] at h
  obtain ⟨⟨⟨⟨h1, h2⟩, h3⟩, h4⟩, h5⟩ := h
  refine ⟨?_, h2, h3, fun y hy e => ?_, fun y hy e => ?_, ?_, fun y hy e => ?_⟩
  · split at h1
    · assumption
    · cases h1
  · have := h4 y hy
    rw [e] at this; cases this
  · have := h4 y hy
    rw [e] at this
    exact beq_iff_eq.mp this
  · split at h5
    · assumption
    · cases h5
  · have := h4 y hy
    rw [e] at this
    dsimp only at this
    split at this
    · rename_i q; exact .inl q
    · rename_i q; exact .inr q
    · cases this
section
variable {X : Cx} {pins : List (Addr × Obj)} {σ : L2.St} {H : Hp} {s : Shared}
theorem LamP.has {scope : Scope} {x : Str} (L : LamP X.env.scope scope x) (ok : X.Ok) : ∀ y ∈ scope.names, y.2 = .free → ∃ c, X.env.cells.lookup y.1 = some c := fun y hy e => by
  rcases L.free y hy e with k | k
  · exact ok.has _ (.inl k)
  · exact ok.has _ (.inr k)
/-- the lambda's frame at its entry -/
theorem lamP_start {A : Around} {E : XK} {scope : Scope} {f c' : Addr} {h₁ : Heap} {tk i : Nat} {x : Str} {v : V} {u : Value} (I : L2.Inv X pins σ H s) (L : LamP X.env.scope scope x) (e0 : Env0 X.prog X.w X.K X.mg X.base A X.stack s H) (hd : A.handled = none) (nd : X.N.Nodup) (hi : X.N[i]? = some x) (rv : RelV v u)
    (hns : h₁.Ns s.heap.objs.size fun y => ([(x, u)] : List (Str × Value)).reverse.lookup y) (kp : ∀ b o, s.heap.get? b = some o → h₁.get? b = some o) :
    L2.Inv (LamX.lamCx X A X.stack s H E scope f c') [] (σ.set i (some v)) H { s with heap := h₁, toks := tk } := by
  have hfree := L.has I.ok
  have up : ∀ {y c}, (cloFrom X.env.cells scope.names []).lookup y = some c → X.env.cells.lookup y = some c := fun {y c} e => by
    rcases cloFrom_mem (PySem.mem_of_lookup e) with hm | ⟨q1, q2⟩
    · cases hm
    · obtain ⟨c1, hc⟩ := hfree _ q1 rfl
      have hc : X.env.cells.lookup y = some c1 := hc
      rw [hc]
      rw [q2, hc] <;> rfl
  have down : ∀ {y}, scope.names.lookup y = some .free → ∃ c, (cloFrom X.env.cells scope.names []).lookup y = some c := fun {y} hl =>
    mem_lookup (cloFrom_has (cells := X.env.cells) (acc := []) (PySem.mem_of_lookup hl))
  have stay : ∀ {c : Addr} {w : Option Value}, s.heap.IsCell c w → h₁.IsCell c w := fun {c w} ⟨o, ho, hd⟩ => ⟨o, kp _ _ ho, hd⟩
  have none_ : ∀ b : Addr, b ∉ (LamX.lamCx X A X.stack s H E scope f c').ex := fun b z => by cases (show b ∈ ([] : List Addr) from z)
  refine ⟨⟨e0.mod, L.kind, rfl, rfl, Nat.le_refl _, fun y z c e1 e2 => I.ok.inj y z c (up e1) (up e2), fun y hy => ?_, fun y c z _ => (by cases (show false = true from z)), fun _ => hd, Around.frames_deeper e0.frames, .inr ⟨rfl, rfl⟩, fun b z => absurd z (none_ b), e0.bs, e0.bsz,
      fun b _ _ => none_ b, fun b z => absurd z (none_ b), e0.funs, e0.frf⟩, rfl, e0.bare, Un.kept kp, ⟨_, hns, fun j y w e1 e2 e3 => ?_⟩, fun y c e => ?_, e0.hok.fresh (Nat.le_refl _), fun y c e => I.freeC y c (up e), fun q hq => ?_, e0.hok.kept kp, ?_⟩
  · have hy : scope.names.lookup y = some .cell ∨ scope.names.lookup y = some .free := hy
    rcases hy with hy | hy
    · exact absurd rfl (L.nocell _ (PySem.mem_of_lookup hy))
    · exact down hy
  · have e3 : Vis scope y := e3
    have e1 : X.N[j]? = some y := e1
    rcases e3 with k | k | k
    · obtain rfl : y = x := L.own _ (PySem.mem_of_lookup k) rfl
      obtain rfl : j = i := nodup_ix nd e1 hi
      have hj : j < σ.length := by rw [I.len]; exact (List.getElem?_eq_some_iff.mp e1).1
      rw [List.getElem?_set_self hj] at e2
      cases e2
      exact ⟨u, rv, .inl ⟨k, by simp [List.lookup]⟩⟩
    · exact absurd rfl (L.nocell _ (PySem.mem_of_lookup k))
    · have hne : i ≠ j := fun z => by
        subst z
        rw [hi] at e1
        cases e1
        rw [L.par] at k; cases k
      rw [List.getElem?_set_ne hne] at e2
      obtain ⟨m, hn, hl⟩ := I.loc
      have hf := L.free _ (PySem.mem_of_lookup k) rfl
      have hvis : Vis X.env.scope y := hf.elim (fun k => .inr (.inl k)) (fun k => .inr (.inr k))
      obtain ⟨w', r, q⟩ := hl j y w e1 e2 hvis
      obtain ⟨c2, h2⟩ := down k
      refine ⟨w', r, .inr ⟨.inr k, c2, h2, ?_⟩⟩
      rcases q with ⟨k', _⟩ | ⟨_, c3, e', z⟩
      · have k' : X.env.scope.names.lookup y = some .local := k'
        rcases hf with k2 | k2
        · rw [show X.env.scope.names.lookup y = _ from k2] at k'; cases k'
        · rw [show X.env.scope.names.lookup y = _ from k2] at k'; cases k'
      · rw [up h2] at e'
        cases e'
        exact stay z
  · obtain ⟨w', z⟩ := I.cell y c (up e)
    exact ⟨w', stay z⟩
  · have hq : q ∈ ([] : List (Addr × Obj)) ++ [] := hq
    cases hq
  · rw [List.length_set]; exact I.len
theorem bind_lam {qual x : Str} {ann : Option Expr} {p : Pos} {body : Expr} {scope : Scope} {cl : List (Str × Addr)} {pm cdv ct u : Value} : bindArgs (PySem.W.kla_fn "<lambda>" qual ⟨[], [⟨x, ann, p⟩], none, [], [], none, []⟩ body scope cl pm cdv ct) ⟨[u], []⟩ = pure [(x, u)] := by
  unfold bindArgs
  have h4 : notAStandIn Value.none = (pure () : Sem Unit) := rfl
  simp [PySem.W.kla_fn, seqItems?, h4]
end
section
variable {X : Cx} {G : Gi} {eh : List (Addr × Nat)} {P : Prog} {cs : CallS}
def okR (r : R PV) (k : PV) (μ : Sto) : Prop := r = .ok k μ
/-- a lambda as a key -/
theorem keyrun_lam {σ : L2.St} {F0 H0 : Hp} {am0 : List Addr} {env : EnvP} {f c' : Addr} {pm ctv : Value} {x : Str} {ann : Option Expr} {pp : Pos} {body : Expr} {scope : Scope} {i k : Nat} {ck : CE} (en : EnvOk G eh F0 am0 σ env) (L : LamP X.env.scope scope x) (nd : X.N.Nodup) (hi : X.N[i]? = some x)
    (hc : H0 c' = some (LamX.CodeO c' (X.env.qual ++ "<lambda>"))) (hca : c' ∉ am0) (hr : Room (k + 3) X.A)
    (hbody : ∀ (A : Around) (outer : List Env) (s : Shared) (H : Hp), Room k (A.deeper (LamX.lamEnv X scope s.heap.objs.size f c')) → PE (LamX.lamCx X A outer s H (fun _ _ _ => False) scope f c') body (tV G eh W0 P cs ck)) :
    KeyRun X G eh σ (.ref f) [(f, PySem.W.kla_obj "<lambda>" (X.env.qual ++ "<lambda>") ⟨[], [⟨x, ann, pp⟩], none, [], [], none, []⟩ body scope (cloFrom X.env.cells scope.names []) pm c' ctv)] F0 H0 am0 (fun p μ => ev P cs ck (env.set i (some p)) μ) := by
  intro pins s F H am μ μ' p kk v u hpf I hx st rp rv hg
  obtain ⟨ho, hHf, _, _, _⟩ := pinT I (hpf _ List.mem_cons_self)
  have hcH : H c' = some (LamX.CodeO c' (X.env.qual ++ "<lambda>")) := hx.h _ _ hc (fun ps z => by unfold LamX.CodeO at z; cases z) hca
  obtain ⟨⟨oc, vs, t, hoc, hdc, hvc⟩, _, _⟩ := I.hok c' _ hcH
  have hr2 : Room (k + 1) X.A.in1.in1 := hr.in1.in1
  have lim := I.nolimit
  have rc : codeAny (model X.prog X.w) X.A.in1.in1 (.call (.ref f) ⟨[u], []⟩) (CR (L2.CX X.prog X.w) X.stack X.prog X.w H s (fun w H' => ∃ F' am', Ext F H am F' H' am' ∧ StOk G eh F' H' am' μ' ∧ Rep G eh F' am' kk w) (fun _ _ _ => False)) s := by
    refine PySem.W.kla_callFunE hr2.depth ho rfl L.co L.gen rfl ⟨c', oc, vs, t, rfl, hoc, hdc, hvc⟩ ?_
    rw [bind_lam]
    refine wpAny_pure (wpAny_newFunctionEnv L.nocell (fun y hy => by rw [List.mem_singleton.mp hy]; exact L.par) (fun h₁ hns hsb => ⟨lim.fresh _ hsb, ?_⟩) L.kind)
    have kp : ∀ b o, s.heap.get? b = some o → h₁.get? b = some o := fun b o e => hsb.extBut b o (Nat.ne_of_lt (Heap.lt_size e)) (Heap.get?_push_of_some _ e)
    have J : L2.Inv (LamX.lamCx X X.A.in1.in1 X.stack s H (fun _ _ _ => False) scope f c') [] (σ.set i (some v)) H { s with heap := h₁, toks := s.toks + ([(x, u)] : List (Str × Value)).length } :=
      lamP_start I L I.env0.in1.in1 hr2.hd nd hi rv hns kp
    show codeAny _ _ (.expr body (LamX.lamEnv X scope s.heap.objs.size f c')) _ _
    refine PySem.W.kla_codeExpr (wpAny_mono ((hbody _ _ s H (hr2.deeper _)).run [] _ _ H (fun w H' => ∃ F' am', Ext F H am F' H' am' ∧ StOk G eh F' H' am' μ' ∧ Rep G eh F' am' kk w) J ?_) (fun w s' hq => ?_) fun e s' hq => hq)
    · refine ⟨F, am, env.set i (some p), μ, st, (hx.en en).set rp, ?_⟩
      rw [hg]
      exact fun F' H' am' x' s' w rw' => ⟨F', am', x', s', rw'⟩
    · obtain ⟨w', H', J', rw', q⟩ := hq
      exact ⟨w', H', J'.os, J'.bare, J'.base, J'.hok, rw', q⟩
  refine wpAny_call (codeAny_mono rc fun r s' hq => ?_)
  cases r with
  | error e =>
    obtain ⟨_, _, _, _, _, _, _, _, _, _, _, _, z⟩ := hq
    exact z.elim
  | ok fl =>
    cases fl with
    | ret w =>
      obtain ⟨v', H', J, r', F', am', x', s', q⟩ := I.after hq
      exact ⟨v', F', H', am', J, r', x', s', q⟩
    | next => exact False.elim hq
    | brk => exact False.elim hq
    | cont => exact False.elim hq
/-- a def as a key -/
theorem keyrun_def {σ : L2.St} {F0 H0 : Hp} {am0 : List Addr} {fa : Addr} {fd : FuncData} {ps : List Str} {i k : Nat} (hF : FnOk X.prog X.w X.K X.mg X.base (L2.CX X.prog X.w) k fa fd ps (spOf G cs i)) (hb : Binds X.K fd ps []) (hr : Room (k + 2) X.A) :
    KeyRun X G eh σ (.ref fa) [] F0 H0 am0 (fun p μ => cs i [p] μ) := by
  intro pins s F H am μ μ' p kk v u hpf I hx st rp rv hg
  have sp : spOf G cs i [v] H (fun w H' => ∃ F' am', Ext F H am F' H' am' ∧ StOk G eh F' H' am' μ' ∧ Rep G eh F' am' kk w) (fun _ _ _ => False) := by
    refine ⟨eh, F, am, μ, [p], st, .cons rp .nil, ?_⟩
    rw [show cs i [p] μ = .ok kk μ' from hg]
    exact fun F' H' am' x' s' w rw' => ⟨F', am', x', s', rw'⟩
  have hl : ([u] ++ ([] : List Value)).length = ps.length := hF.len _ _ _ _ sp
  refine wpAny_call (codeAny_mono (hF.run X.A.in1.in1 X.stack s H ⟨[u], []⟩ [u] [v] _ _ hr.in1.in1 I.env0.in1.in1 (hb s [u] I.kIn hl) (.cons rv .nil) sp) fun r s' hq => ?_)
  cases r with
  | error e =>
    obtain ⟨_, _, _, _, _, _, _, _, _, _, _, _, z⟩ := hq
    exact z.elim
  | ok fl =>
    cases fl with
    | ret w =>
      obtain ⟨v', H', J, r', F', am', x', s', q⟩ := I.after hq
      exact ⟨v', F', H', am', J, r', x', s', q⟩
    | next => exact False.elim hq
    | brk => exact False.elim hq
    | cont => exact False.elim hq
end

/-! ### the lambda made -/
section
variable {X : Cx} {G : Gi} {eh : List (Addr × Nat)} {pins : List (Addr × Obj)} {σ : L2.St} {H : Hp} {s : Shared}
/-- the def's code object and its table -/
def TabOk (X : Cx) (G : Gi) : Prop := ∃ c P, LamX.TabB X.base X.mg c P ∧ X.env.code = .ref c ∧ (P, X.env.qual ++ "<lambda>") ∈ G.T ∧ ∀ p ∈ G.T, p.1 = P → p.2 = X.env.qual ++ "<lambda>"
abbrev lamO (X : Cx) (params : Arguments) (body : Expr) (scope : Scope) (pm : Value) (c' : Addr) (ctv : Value) : Obj := PySem.W.kla_obj "<lambda>" (X.env.qual ++ "<lambda>") params body scope (cloFrom X.env.cells scope.names []) pm c' ctv
theorem up2_none {H : Hp} {a b c : Addr} {o u : HO} (e : upd (upd H a o) c u b = none) : H b = none := by
  unfold upd at e
  split at e
  · cases e
  · split at e
    · cases e
    · exact e
theorem lam_mk {params : Arguments} {body : Expr} {scope : Scope} {pos : Pos} {E : Value → Shared → Prop} {Q : Value → Shared → Prop} (I : L2.Inv X pins σ H s) (tb : TabOk X G) (hT : LamX.Tabs G.T H) (hdef : defaultsOf params X.env = ([], [])) (hfree : ∀ y ∈ scope.names, y.2 = .free → ∃ c, X.env.cells.lookup y.1 = some c)
    (h : ∀ (f c' : Addr) (pm ctv : Value) (H1 : Hp) (s' : Shared), L2.Inv X pins σ H1 s' → LamX.ExtN H H1 → (∀ b, H1 b = none → H b = none) → LamX.Tabs G.T H1 → s'.heap.get? f = some (lamO X params body scope pm c' ctv) → H1 f = none → s.heap.objs.size ≤ f → H1 c' = some (LamX.CodeO c' (X.env.qual ++ "<lambda>")) → Q (.ref f) s') :
    wpAny (model X.prog X.w) X.A (eval (.Lambda params body scope pos) X.env) Q E s := by
  obtain ⟨c, P, TB, hcode, hm, huniq⟩ := tb
  obtain ⟨ps, tP, t3, tall⟩ := hT _ hm
  have bP : s.heap.BuiltinsAt X.mg P := TB.bm.keeps I.bk
  have oP : s.heap.get? P = some { cls := .none, data := .fields ps } := I.hok P _ tP
  refine PySem.W.kla_eval hdef ?_
  rcases hq : codeAmong pos ps.toList with _ | cv
  · refine PySem.W.kla_makeFunction (mg := X.mg) (closure_ok hfree) I.ok.glob (I.mod.glob.keeps I.bk) hcode (TB.code.keeps I.bk) oP t3 hq TB.gP bP fun c' ctv h' tk hx hge hlt hrec htb => ?_
    obtain ⟨c2, oc, vs, t, e2, ocAt, od, ov⟩ := hrec
    cases e2
    have grow : s.heap.objs.size ≤ h'.objs.size := Nat.le_trans hge (Nat.le_of_lt hlt)
    have nC := I.hok.fresh hge
    have pushed : ∀ {b : Addr} {o : Obj} (z : Obj), h'.get? b = some o → (h'.push z).get? b = some o := fun z e => Heap.get?_push_of_some _ e
    have J := LamX.inv_table (t' := tk) (more := #[rawInt pos.line, rawInt pos.col, .ref c']) (h' := h'.push (lamO X params body scope ((X.mg "__name__").getD .none) c' ctv)) I tP (fun b o hb e => pushed _ (hx b o hb e)) (pushed _ htb) hge ⟨oc, vs, t, pushed _ ocAt, od, ov⟩
    have keep : LamX.ExtN H (upd (upd H P (.tbl (ps ++ #[rawInt pos.line, rawInt pos.col, .ref c']))) c' (LamX.CodeO c' (X.env.qual ++ "<lambda>"))) := fun b o e n => by
      have hbP : b ≠ P := fun z => by
        rw [z, tP] at e
        exact n ps (Option.some.inj e).symm
      rw [upd_ne (ne_of_none e nC), upd_ne hbP]; exact e
    have atP : upd (upd H P (.tbl (ps ++ #[rawInt pos.line, rawInt pos.col, .ref c']))) c' (LamX.CodeO c' (X.env.qual ++ "<lambda>")) P = some (.tbl (ps ++ #[rawInt pos.line, rawInt pos.col, .ref c'])) := by rw [upd_ne (ne_of_none tP nC), upd_same]
    have lst : (ps ++ #[rawInt pos.line, rawInt pos.col, .ref c']).toList = ps.toList ++ [rawInt pos.line, rawInt pos.col, .ref c'] := by simp
    refine h _ c' _ ctv _ _ J keep (fun b e => up2_none e) (fun p hp => ?_) (Heap.get?_push_size _ rfl) ?_ grow upd_same
    · by_cases hb : p.1 = P
      · rw [hb, huniq p hp hb]
        refine ⟨_, atP, by rw [lst]; exact PySem.TriplesOk_snoc _ _ _ _ t3, fun q w hw => ?_⟩
        rw [lst] at hw
        rcases LamX.among_app _ t3 hw with z | z
        · obtain ⟨d, d1, d2⟩ := tall q w z
          exact ⟨d, d1, keep _ _ d2 LamX.codeO_ne⟩
        · exact ⟨c', z, upd_same⟩
      · obtain ⟨qs, b1, b2, b3⟩ := hT p hp
        refine ⟨qs, by rw [upd_ne (ne_of_none b1 nC), upd_ne hb]; exact b1, b2, fun q w hw => ?_⟩
        obtain ⟨d, d1, d2⟩ := b3 q w hw
        exact ⟨d, d1, keep _ _ d2 LamX.codeO_ne⟩
    · have z1 : h'.objs.size ≠ c' := Nat.ne_of_gt hlt
      have z2 : h'.objs.size ≠ P := Nat.ne_of_gt (Nat.lt_of_lt_of_le (Heap.lt_size oP) grow)
      rw [upd_ne z1, upd_ne z2]
      exact I.hok.fresh grow
  · obtain ⟨c', rfl, cAt⟩ := tall pos cv hq
    refine PySem.W.kla_makeFunctionHit (mg := X.mg) (closure_ok hfree) I.ok.glob (I.mod.glob.keeps I.bk) hcode (TB.code.keeps I.bk) oP t3 hq bP fun ctv h' tk hx grow => ?_
    exact h _ c' _ ctv H _ (I.kept fun b o e => Heap.get?_push_of_some _ (hx b o e)) (LamX.ExtN.refl H) (fun _ e => e) hT (Heap.get?_push_size _ rfl) (I.hok.fresh grow) grow cAt
/-- .. the store stands -/
theorem StOk.extN {F H1 : Hp} {am : List Addr} {μ : Sto} (st : StOk G eh F H am μ) (e : LamX.ExtN H H1) (n : ∀ b, H1 b = none → H b = none) (t : LamX.Tabs G.T H1) : StOk G eh F H1 am μ ∧ Ext F H am F H1 am := by
  refine ⟨⟨st.len, st.nd, st.fr, fun b o q => e b o (st.sub b o q) fun ps z => st.ft b ps (z ▸ q), st.ft, t, fun m a c e1 e2 => ?_⟩, ⟨Same.refl F, List.prefix_refl _, fun b o q nt _ => e b o q nt, fun b q z => q (n b z), fun _ _ => rfl, fun b hb hn => absurd hb hn⟩⟩
  obtain ⟨o, eo, nt, _⟩ := st.kindAt (List.mem_of_getElem? e1)
  refine (st.cell m a c e1 e2).mono (Same.refl F) (List.prefix_refl _) ?_
  rw [eo, e a o eo nt]
end

/-! ### sorted(xs, key=..) -/
section
variable {X : Cx} {G : Gi} {eh : List (Addr × Nat)} {W : WX} {P : Prog} {cs : CallS}
variable {a : Expr} {ca ck : CE} {pos p lpos kpos : Pos}
theorem sorted_run {pins pf : List (Addr × Obj)} {σ : L2.St} {F H : Hp} {am : List Addr} {μ μe : Sto} {s : Shared} {q : PV} {l z : Addr} {xs kz : List PV} {g : PV → Sto → R PV} {Q : VK} {E : Value → Shared → Prop} (hG : X.K = G.K) (hu : X.A.units + 70 < cLine) (I : L2.Inv X pins σ H s) (st : StOk G eh F H am μ)
    (rq : Rep G eh F am q (.ref l)) (e : see μ q = .lst xs) (KR : KeyRun X G eh σ (.ref z) pf F H am g) (hpf : ∀ q ∈ pf, q ∈ pins) (hk : keysBy g xs μ = .ok kz μe) (hs : sortable kz = true)
    (h : ∀ F' H' am', Ext F H am F' H' am' → StOk G eh F' H' am' μe → ∀ v, Rep G eh F' am' (.lst (((kz.zip xs).mergeSort (PySem.W.dataLe false fun q => toD q.1)).map (·.2))) v → Q v H') :
    wpAny (model X.prog X.w) X.A (call (.builtin "sorted") [.ref l] [(Str.ofString "key", .ref z)]) (EP X pins σ Q) E s := by
  obtain ⟨b, ys, e1, h1, rx⟩ := rq.seeL st e
  cases e1
  obtain ⟨vs, rv, pl, hz⟩ := I.list (SqL.of h1)
  have hvl : vs.length ≤ sizeLine := by rw [← rv.length]; exact hz
  have hxl : xs.length ≤ sizeLine := by rw [rx.length]; exact hz
  have fresh : H (s.heap.objs.size + 1) = none := I.hok.fresh (Nat.le_succ _)
  have I2 : L2.Inv X pins σ H { s with heap := PySem.W.copyHeap s.heap vs, toks := s.toks } := I.kept fun b o e => PySem.W.copyHeap_old e
  have old : ∀ b o, s.heap.get? b = some o → b ≠ s.heap.objs.size + 1 := fun b o e => Nat.ne_of_lt (Nat.lt_succ_of_lt (Heap.lt_size e))
  refine PySem.W.sorted_of_sort pl.isList hvl (ksk_s1 _ _) (fun x => by unfold argsOk; kernel_rfl) fun E' => ?_
  rw [ksk_t1]
  refine sortK_tree (Q := fun _ s' => EP X pins σ Q (.ref (s.heap.objs.size + 1)) s') (s := { s with heap := PySem.W.copyHeap s.heap vs, toks := s.toks }) hG hu KR hpf I2 st (PySem.W.copyHeap_at s.heap vs) fresh (fun z => ?_) (I.nofs (Nat.le_succ _)) (Nat.le_trans I.sz (Nat.le_succ _)) (fun x c e => ?_) (fun q hq => ?_) (fun q hq => ?_) rx rv hxl hk hs
    fun F' H' am' s' J x st' ro hH hF ha => ?_
  · have q := I.lt
    rw [← z] at q
    exact absurd q (Nat.not_lt_of_le (Nat.le_succ _))
  · obtain ⟨v, o, ho, _⟩ := I.cell x c e
    exact old _ _ ho
  · exact old _ _ (I.pin q (List.mem_append_right _ hq)).1
  · exact old _ _ (I.pin q (List.mem_append_left _ hq)).1
  · obtain ⟨st2, f2⟩ := st'.froze ha hF hH
    exact ⟨.ref _, H', J, rfl, h _ _ _ (x.froze fresh hF) st2 _ (.lst upd_same (RepL.mono f2 (List.prefix_refl _) _ _ ro))⟩
theorem sortBy_ok {xs ks : List PV} {μ : Sto} {r : PV} {μ' : Sto} (h : sortBy xs ks μ = .ok r μ') : sortable ks = true ∧ ks.length = xs.length ∧ r = .lst (((ks.zip xs).mergeSort (PySem.W.dataLe false fun q => toD q.1)).map (·.2)) ∧ μ' = μ := by
  unfold sortBy at h
  split at h
  · rename_i c
    simp only [Bool.and_eq_true, beq_iff_eq] at c
    cases h
    exact ⟨c.1, c.2, rfl, rfl⟩
  · cases h
theorem keysBy_exn {g : PV → Sto → R PV} : ∀ {xs : List PV} {μ μ' : Sto} {c : Nat}, keysBy (fun x μ => calm (g x μ)) xs μ ≠ .exn c μ'
  | [], μ, μ', c, h => by rw [keysBy] at h; cases h
  | x :: xs, μ, μ', c, h => by
    rw [keysBy] at h
    cases e : g x μ with
    | bad => rw [e] at h; cases h
    | exn d m => rw [e] at h; cases h
    | ok k m =>
      rw [e] at h
      have h : (keysBy (fun x μ => calm (g x μ)) xs m).bind (fun ks μ => R.ok (k :: ks) μ) = .exn c μ' := h
      cases e2 : keysBy (fun x μ => calm (g x μ)) xs m with
      | bad => rw [e2] at h; cases h
      | exn d m2 => exact keysBy_exn e2
      | ok ks m2 => rw [e2] at h; cases h
theorem WpR.key {α β : Type} {r : R α} {k : α → Sto → R β} {G : Gi} {eh : List (Addr × Nat)} {F H : Hp} {am : List Addr} {okk : β → Sto → Hp → Hp → List Addr → Prop} {ex : Nat → Hp → Prop} (h : WpR G eh F H am (r.bind k) okk ex) (hn : ∀ c μ, r ≠ .exn c μ) : ∃ x μ, r = .ok x μ ∧ WpR G eh F H am (k x μ) okk ex := by
  cases r with
  | bad => exact False.elim h
  | exn c μ => exact absurd rfl (hn c μ)
  | ok x μ => exact ⟨x, μ, rfl, h⟩
theorem calm_ok {α : Type} {r : R α} {x : α} {μ : Sto} (h : calm r = .ok x μ) : r = .ok x μ := by
  cases r with
  | ok y m => exact h
  | exn c m => cases h
  | bad => cases h
/-- from the evaluator's wish to the sort's -/
theorem sort_wish {pins pf : List (Addr × Obj)} {σ : L2.St} {F H : Hp} {am : List Addr} {μ : Sto} {s : Shared} {q : PV} {v : V} {u : Value} {z : Addr} {g : PV → Sto → R PV} {Q : VK} {E : Value → Shared → Prop} {ex : Nat → Hp → Prop} (hG : X.K = G.K) (hu : X.A.units + 70 < cLine) (I : L2.Inv X pins σ H s) (st : StOk G eh F H am μ)
    (rq : Rep G eh F am q v) (rv : RelV v u) (KR : KeyRun X G eh σ (.ref z) pf F H am g) (hpf : ∀ q ∈ pf, q ∈ pins)
    (h : WpR G eh F H am (listOf q μ fun xs => (keysBy g xs μ).bind fun ks μ => sortBy xs ks μ) (fun p _ F' H' am' => ∀ v, Rep G eh F' am' p v → Q v H') ex) :
    wpAny (model X.prog X.w) X.A (call (.builtin "sorted") [u] [(Str.ofString "key", .ref z)]) (EP X pins σ Q) E s := by
  unfold listOf at h
  split at h
  · rename_i xs e
    obtain ⟨l, ys, rfl, _, _⟩ := rq.seeL st e
    obtain rfl : u = Value.ref l := rv
    have hn : ∀ c m, keysBy g xs μ ≠ .exn c m := by
      have gen : ∀ (xs : List PV) (μ : Sto) c m, keysBy g xs μ ≠ .exn c m := by
        intro xs
        induction xs with
        | nil => intro μ c m h; rw [keysBy] at h; cases h
        | cons x xs ih =>
          intro μ c m h
          rw [keysBy] at h
          cases e : g x μ with
          | bad => rw [e] at h; cases h
          | exn d m => rw [e] at h; cases h
          | ok k m1 =>
            rw [e] at h
            have h : (keysBy g xs m1).bind (fun ks μ => R.ok (k :: ks) μ) = .exn c m := h
            cases e2 : keysBy g xs m1 with
            | bad => rw [e2] at h; cases h
            | exn d m2 => exact ih _ _ _ e2
            | ok ks m2 => rw [e2] at h; cases h
      exact gen xs μ
    obtain ⟨ks, μe, ek, h⟩ := h.key hn
    cases er : sortBy xs ks μe with
    | bad => rw [er] at h; exact False.elim h
    | exn c m =>
      unfold sortBy at er
      split at er <;> cases er
    | ok r μ2 =>
      obtain ⟨h1, h2, rfl, rfl⟩ := sortBy_ok er
      rw [er] at h
      exact sorted_run hG hu I st rq e KR hpf ek h1 h
  · exact h.elim
theorem evs_one (env : EnvP) (μ : Sto) : evs P cs [ca] env μ = (ev P cs ca env μ).bind fun p μ => R.ok [p] μ := by
  have e : ∀ μ, evs P cs [] env μ = .ok [] μ := fun μ => by rw [evs]
  rw [evs]
  simp only [e]
  rfl
theorem r_sortk {x : Str} {ann : Option Expr} {pp : Pos} {body : Expr} {scope : Scope} {i k : Nat} (hG : X.K = G.K) (hu : X.A.units + 70 < cLine) (nd : X.N.Nodup) (tb : TabOk X G) (L : LamP X.env.scope scope x) (hi : X.N[i]? = some x) (hr : Room (k + 3) X.A) (hg : Gl X "sorted") (hm : X.mg "sorted" = none)
    (h1 : nst a = true) (ha : PE X a (tV G eh W P cs ca))
    (hbody : ∀ (A : Around) (outer : List Env) (s : Shared) (H : Hp) (f c' : Addr), Room k (A.deeper (LamX.lamEnv X scope s.heap.objs.size f c')) → PE (LamX.lamCx X A outer s H (fun _ _ _ => False) scope f c') body (tV G eh W0 P cs ck)) :
    PE X (.Call (.Name "sorted" p) [a] [⟨some "key", .Lambda ⟨[], [⟨x, ann, pp⟩], none, [], [], none, []⟩ body scope lpos, kpos⟩] pos) (tV G eh W P cs (.sortk ca i ck)) := by
  refine ⟨fun pins s σ H Q I h => ?_⟩
  obtain ⟨F, am, env, μ, st, en, h⟩ := tV.out h
  rw [ev] at h
  refine wpAny_Call_Name_kw (ld_blt I hg hm boot_sorted ?_ (by decide) (by decide))
  refine PyProof.Rows.callWith_kw (thn ((r_cons (W := W) (P := P) (cs := cs) (G := G) (eh := eh) h1 ha r_nil).run pos pins s σ H (fun vs H1 => ∃ v F1 am1 μ1 q, vs = [v] ∧ StOk G eh F1 H1 am1 μ1 ∧ Rep G eh F1 am1 q v ∧ EnvOk G eh F1 am1 σ env ∧
      WpR G eh F1 H1 am1 (listOf q μ1 fun xs => (keysBy (fun x μ => ev P cs ck (env.set i (some x)) μ) xs μ1).bind fun ks μ => sortBy xs ks μ) (fun p _ F' H' am' => ∀ v, Rep G eh F' am' p v → Q v H') (wish G W σ)) I ⟨F, am, env, μ, st, en, ?_⟩) fun us s1 ⟨vs, H1, I1, r1, v, F1, am1, μ1, q, ev1, st1, rq, en1, h1⟩ => ?_)
      (by rw [star_cons h1]; rfl) (by rw [star_cons h1]; rfl) rfl rfl
  · show WpR G eh F H am (evs P cs [ca] env μ) _ _
    rw [evs_one]
    cases e : ev P cs ca env μ with
    | bad => rw [e] at h; exact False.elim h
    | exn c m => rw [e] at h; exact h
    | ok q μ1 =>
      rw [e] at h
      intro F1 H1 am1 x1 s1 vs rv
      have h : WpR G eh F H am (listOf q μ1 fun xs => (keysBy (fun x μ => ev P cs ck (env.set i (some x)) μ) xs μ1).bind fun ks μ => sortBy xs ks μ) _ _ := h
      cases rv with
      | cons r rs =>
        cases rs
        exact ⟨_, F1, am1, μ1, q, rfl, s1, r, x1.en en, h.later x1⟩
  · subst ev1
    obtain ⟨u, rfl, ru⟩ := r1.one
    show wpAny _ _ (evalAll ((do let v ← eval (.Lambda ⟨[], [⟨x, ann, pp⟩], none, [], [], none, []⟩ body scope lpos) X.env; standAt pos; pure v) :: [])) _ _ s1
    refine wpAny_evalAll_cons (wpAny_bind (lam_mk I1 tb st1.tb rfl (L.has I1.ok) fun f c' pm ctv H2 s2 I2 eN nN T2 of nf gf cAt => wpAny_bind (wpAny_standAt (wpAny_pure (wpAny_evalAll_nil ?_)))))
    obtain ⟨st2, x2⟩ := st1.extN eN nN T2
    have I3 : L2.Inv X ((f, lamO X ⟨[], [⟨x, ann, pp⟩], none, [], [], none, []⟩ body scope pm c' ctv) :: pins) σ H2 s2 := I2.pins_of fun y hy => by
      rcases List.mem_cons.mp hy with z | z
      · rw [z]
        refine ⟨of, nf, fun z => ?_, I1.nofs gf, fun v d => by cases d⟩
        have q := I1.lt
        rw [← show f = X.env.locals from z] at q
        exact absurd q (Nat.not_lt_of_le gf)
      · exact I2.pin y (List.mem_append_right _ z)
    have hca : c' ∉ am1 := fun hm => by
      obtain ⟨o, eo, _, n2⟩ := st2.kindAt hm
      rw [cAt] at eo
      exact n2 c' _ (Option.some.inj eo).symm
    have KR := keyrun_lam (P := P) (cs := cs) (am0 := am1) (pm := pm) (ctv := ctv) (ann := ann) (pp := pp) (x2.en en1) L nd hi cAt hca hr fun A outer s H => hbody A outer s H f c'
    refine wpAny_mono (sort_wish hG hu I3 st2 (x2.rep rq) ru KR (fun y hy => by rw [List.mem_singleton.mp hy]; exact List.mem_cons_self) (h1.later x2)) (fun w s3 ⟨y, H3, I4, r4, q4⟩ => ?_) fun _ _ q => q
    exact ⟨y, H3, repins I4 fun z hz => List.mem_cons_of_mem _ hz, r4, q4⟩
theorem r_sortf {x : Str} {i : Nat} (hG : X.K = G.K) (hu : X.A.units + 70 < cLine) (hf : ∃ k f fd ps, Room (k + 2) X.A ∧ X.mg x = some (.ref f) ∧ PySem.W.keepIn X.K (.ref f) = true ∧ Binds X.K fd ps [] ∧ FnOk X.prog X.w X.K X.mg X.base (L2.CX X.prog X.w) k f fd ps (spOf G cs i)) (hx : Gl X x) (hd : (x == ("__debug__" : Str)) = false)
    (hg : Gl X "sorted") (hm : X.mg "sorted" = none) (h1 : nst a = true) (ha : PE X a (tV G eh W P cs ca)) :
    PE X (.Call (.Name "sorted" p) [a] [⟨some "key", .Name x lpos, kpos⟩] pos) (tV G eh W P cs (.sortf ca i)) := by
  obtain ⟨k, f, fd, ps, hr, hmx, hk, hb, hF⟩ := hf
  refine ⟨fun pins s σ H Q I h => ?_⟩
  obtain ⟨F, am, env, μ, st, en, h⟩ := tV.out h
  rw [ev] at h
  refine wpAny_Call_Name_kw (ld_blt I hg hm boot_sorted ?_ (by decide) (by decide))
  refine PyProof.Rows.callWith_kw (thn ((r_cons (W := W) (P := P) (cs := cs) (G := G) (eh := eh) h1 ha r_nil).run pos pins s σ H (fun vs H1 => ∃ v F1 am1 μ1 q, vs = [v] ∧ StOk G eh F1 H1 am1 μ1 ∧ Rep G eh F1 am1 q v ∧
      WpR G eh F1 H1 am1 (listOf q μ1 fun xs => (keysBy (fun x μ => cs i [x] μ) xs μ1).bind fun ks μ => sortBy xs ks μ) (fun p _ F' H' am' => ∀ v, Rep G eh F' am' p v → Q v H') (wish G W σ)) I ⟨F, am, env, μ, st, en, ?_⟩) fun us s1 ⟨vs, H1, I1, r1, v, F1, am1, μ1, q, ev1, st1, rq, h1⟩ => ?_)
      (by rw [star_cons h1]; rfl) (by rw [star_cons h1]; rfl) rfl rfl
  · show WpR G eh F H am (evs P cs [ca] env μ) _ _
    rw [evs_one]
    cases e : ev P cs ca env μ with
    | bad => rw [e] at h; exact False.elim h
    | exn c m => rw [e] at h; exact h
    | ok q μ1 =>
      rw [e] at h
      intro F1 H1 am1 x1 s1 vs rv
      have h : WpR G eh F H am (listOf q μ1 fun xs => (keysBy (fun x μ => cs i [x] μ) xs μ1).bind fun ks μ => sortBy xs ks μ) _ _ := h
      cases rv with
      | cons r rs =>
        cases rs
        exact ⟨_, F1, am1, μ1, q, rfl, s1, r, h.later x1⟩
  · subst ev1
    obtain ⟨u, rfl, ru⟩ := r1.one
    show wpAny _ _ (evalAll ((do let v ← eval (.Name x lpos) X.env; standAt pos; pure v) :: [])) _ _ s1
    refine wpAny_evalAll_cons (wpAny_bind (ld_glob I1 hx hmx (wpAny_bind (wpAny_standAt (wpAny_pure (wpAny_evalAll_nil ?_)))) hd))
    exact sort_wish hG hu I1 st1 rq ru (keyrun_def hF hb hr) (fun y hy => by cases hy) h1
end
end NR

/-! NR3j: exceptions. -/
namespace NR
open PySem L2
open PySem.Spec PyProof.Rows RZ
/-- the exception classes of the text by their numbers (99: ValueError) -/
structure ExcOk (G : Gi) (P : Prog) (K : PySem.W.Frag) (mg : Str → Option Value) (ex : List Str) : Prop where
  at_ : ∀ (c : Nat) (x : Str), ex[c]? = some x → x ≠ "" → ∃ C, G.cv c = .ref C ∧ mg x = some (.ref C) ∧ PySem.W.excIn K C He.veBase "ValueError.__new__" = true ∧ PySem.W.keepIn K (.ref C) = true ∧ PySem.W.subIn K (.ref C) (.type "BaseException") = some true ∧ PySem.W.typeIn K (.ref C) = some (.type "type")
  isx : ∀ (c : Nat) (x : Str) (C : Addr), ex[c]? = some x → x ≠ "" → G.cv c = .ref C → ExcC K C ∧ PySem.W.kitOne K (.ref C) (.type "ValueError") = some (P.sup c 99)
  two : ∀ (c d : Nat) (x y : Str), ex[c]? = some x → x ≠ "" → ex[d]? = some y → y ≠ "" → PySem.W.exmOne K (G.cv c) (G.cv d) = some (P.sup c d) ∧ PySem.W.kitOne K (G.cv c) (G.cv d) = some (P.sup c d)
/-- the caught exceptions are pinned -/
def HotOk (X : Cx) (G : Gi) (ex : List Str) (eh : List (Addr × Nat)) : Prop := ∀ a n, (a, n) ∈ eh → ∃ D oe x, G.cv n = .ref D ∧ ex[n]? = some x ∧ x ≠ "" ∧ Zc (.ref D) none oe ∧ (∃ vs, oe.data = .fields vs) ∧ (a, oe) ∈ X.pn
section
variable {X : Cx} {G : Gi} {eh : List (Addr × Nat)} {W : WX} {P : Prog} {cs : CallS} {ex : List Str}
variable {F H : Hp} {am : List Addr} {σ : L2.St} {env : EnvP} {μ : Sto} {D : Ends}
theorem s_raise {x m : Str} {j k : Nat} {p p2 pos pos2 : Pos} (hc : X.calm = true) (tk : Takes X W) (E : ExcOk G P X.K X.mg ex) (hk : ex[k]? = some x) (hx : x ≠ "") (hg : Gl X x) (hd : (x == ("__debug__" : Str)) = false) :
    PS X (.Raise (some (.Call (.Name x p) [.Constant (.str m) j p2] [] pos2)) none pos) (tC1 G eh W P cs (.raise k)) := by
  obtain ⟨C, e1, e2, e3, e4, e5, e6⟩ := E.at_ k x hk hx
  refine PS.imp (ps_raise hc tk (pmk_own PySem.F.excBase_ValueError e3 e2 e4 (raises_own e5 e6) hg hd)) fun D σ H q => ?_
  obtain ⟨F, am, env, μ, s, en, h⟩ := tC1.out q
  rw [NR.exec] at h
  have q := h σ F H am Ext.refl s en
  show W (.ref C) none σ H
  rw [← e1]
  exact q
/-! ### isinstance of a caught one -/
def rIsH (X : Cx) : List V → Hp → VK → Prop := fun xs H Q => ∃ (a D : Addr) (oe : Obj) (c : V) (cv : Value) (b : Bool), (a, oe) ∈ X.pn ∧ ExcC X.K D ∧ Zc (.ref D) none oe ∧ (∃ vs, oe.data = .fields vs) ∧ xs = [.ref a, c] ∧ (∀ u, RelV c u → u = cv) ∧ PySem.W.kitOne X.K (.ref D) cv = some b ∧ Q (.bl b) H
theorem call_isH : CallR X (.builtin "isinstance") (rIsH X) := by
  intro pins s σ H xs us Q I r h
  obtain ⟨a, D, oe, c, cv, b, hp, C, hz, ⟨vs, hv⟩, rfl, hcv, e, q⟩ := h
  obtain ⟨u1, u2, rfl, r1, r2⟩ : ∃ u1 u2, us = [u1, u2] ∧ RelV (.ref a) u1 ∧ RelV c u2 := by
    cases r with
    | cons p q =>
      cases q with
      | cons p' q' =>
        cases q'
        exact ⟨_, _, rfl, p, p'⟩
  obtain rfl : u1 = Value.ref a := r1
  obtain rfl := hcv _ r2
  obtain ⟨at_, _⟩ := I.pin (a, oe) (List.mem_append_left _ hp)
  have J : PySem.W.InstAt s.heap a oe D none := by
    obtain ⟨oc, od, oda, osl⟩ := oe
    obtain ⟨z1, z2⟩ := hz
    simp only at z1 z2 hv
    subst z1 z2 hv
    exact ⟨at_, rfl, rfl, trivial⟩
  refine PySem.W.kia_one (PySem.W.handS_kitx_exc C.hg C.hk C.hs C.hd C.ha C.hn C.ht C.hm) I.kIn J e (by intro z; cases z) fun tk => ?_
  exact ⟨.bl b, H, I.kept (t' := tk) fun _ _ z => z, rfl, q⟩
theorem r_isx {a : Expr} {ca : CE} {p p2 pos : Pos} {T : Str} {k : Nat} {v : V} {cv : Value} (E : ExcOk G P X.K X.mg ex) (hh : HotOk X G ex eh) (hg : Gl X "isinstance") (hm : X.mg "isinstance" = none) (hT : PE X (.Name T p2) (tC v)) (hcv : ∀ u, RelV v u → u = cv)
    (hk : ∀ (n : Nat) (x : Str), ex[n]? = some x → x ≠ "" → PySem.W.kitOne X.K (G.cv n) cv = some (P.sup n k)) (h1 : nst a = true) (ha : PE X a (tV G eh W P cs ca)) : PE X (.Call (.Name "isinstance" p) [a, .Name T p2] [] pos) (tV G eh W P cs (.isx ca k)) := by
  refine PE.imp (pe_callB call_isH hg hm boot_isinstance (pa_cons ha (pa_cons hT pa_nil) (star_cons h1)) (by decide) (by decide) (star_cons h1) rfl) fun σ H Q q => ?_
  obtain ⟨F, am, env, μ, s, en, h⟩ := tV.out q
  rw [ev] at h
  refine tV.go s en h fun p v' μ1 F1 H1 am1 x1 s1 r1 en1 h1 => ?_
  cases p <;> first | (exact False.elim h1) | skip
  rename_i n
  cases r1 with
  | exc hm =>
    rename_i a'
    obtain ⟨D, oe, x, e1, e2, e3, hz, hf, hp⟩ := hh a' n hm
    have kk := hk n x e2 e3
    rw [e1] at kk
    exact ⟨a', D, oe, v, cv, _, hp, (E.isx n x D e2 e3 e1).1, hz, hf, rfl, hcv, kk, h1.val s1 (.bl _)⟩

/-! ### a def called in a suite -/
def spE (G : Gi) (cs : CallS) (i : Nat) (a : Addr) (n : Nat) (vs : List V) (H : Hp) (Q : VK) : Prop := ∃ F am μ qs, StOk G [(a, n)] F H am μ ∧ RepL G [(a, n)] F am qs vs ∧
  WpR G [(a, n)] F H am (cs i qs μ) (fun p _ F' H' am' => ∀ v, Rep G [(a, n)] F' am' p v → Q v H') (fun _ _ => False)
structure FnE (Pr : Program) (w : World) (K : PySem.W.Frag) (mg : Str → Option Value) (base : Heap) (G : Gi) (ex : List Str) (cs : CallS) (f : Addr) (fd : FuncData) (ps : List Str) (i : Nat) : Prop where
  len : ∀ a n vs H Q, spE G cs i a n vs H Q → vs.length = ps.length
  run : ∀ (A : Around) (outer : List Env) (s : Shared) (H : Hp) (args : Args) (us : List Value) (vs : List V) (Q : VK) (p : Addr × Obj) (n : Nat) (D : Addr) (x : Str), L2H.RoomH 2 A → L2H.PinOk outer H s p → Zc (.ref D) none p.2 → (∃ vs, p.2.data = .fields vs) → G.cv n = .ref D → ex[n]? = some x → x ≠ "" →
    Env0 Pr w K mg base A outer s H → BindsTo s fd args (ps.zip us) → Vals vs us → spE G cs i p.1 n vs H Q → codeAny (model Pr w) A (.call (.ref f) args) (CR (L2.CX Pr w) outer Pr w H s Q (fun _ _ _ => False)) s
def FnAtH (X : Cx) (G : Gi) (ex : List Str) (cs : CallS) (x : Str) (i : Nat) : Prop := ∃ f fd ps, X.mg x = some (.ref f) ∧ PySem.W.keepIn X.K (.ref f) = true ∧ Binds X.K fd ps [] ∧ FnE X.prog X.w X.K X.mg X.base G ex cs f fd ps i
theorem r_callH {x : Str} {p pos : Pos} {e : Expr} {es : List Expr} {f : Nat} {cl : List CE} {a : Addr} {n : Nat} (hf : FnAtH X G ex cs x f) (hh : HotOk X G ex [(a, n)]) (hr : L2H.RoomH 2 X.A) (hg : Gl X x) (hd : (x == ("__debug__" : Str)) = false) (h1 : nst e = true) (h2 : es.all nst = true)
    (ha : PA X (e :: es) (tVs G [(a, n)] W0 P cs cl)) : PE X (.Call (.Name x p) (e :: es) [] pos) (tV G [(a, n)] W0 P cs (.call f cl)) := by
  obtain ⟨fa, fd, ps, hm, hk, hb, hF⟩ := hf
  obtain ⟨D, oe, y, e1, e2, e3, hz, hfl, hp⟩ := hh a n List.mem_cons_self
  refine ⟨fun pins s σ H Q I h => ?_⟩
  obtain ⟨F, am, env, μ, st, en, h⟩ := tV.out h
  rw [ev] at h
  refine wpAny_Call_Name_kw (ld_glob I hg hm ?_ hd)
  refine PySem.W.callWith_K (h₀ := X.base) I.ok.mod.kin hk (thn (ha.run pos pins s σ H (fun vs H1 => spE G cs f a n vs H1 Q) I (tVs.go st en h fun ps vs μ1 F1 H1 am1 x1 s1 r1 en1 h1 => ⟨F1, am1, μ1, ps, s1, r1, ?_⟩)) fun us s1 ⟨vs, H1, I1, r1, q1⟩ => ⟨I1.kIn, ?_⟩) (star_cons h1) (star_none pos h2)
  · exact h1
  · obtain ⟨g1, g2, g3, g4, g5⟩ := I1.pin (a, oe) (List.mem_append_left _ hp)
    have hl : (us ++ ([] : List Value)).length = ps.length := by rw [List.append_nil, ← r1.length]; exact hF.len _ _ _ _ _ q1
    have hbt := hb s1 us I1.kIn hl
    rw [List.append_nil] at hbt
    refine wpAny_call (codeAny_mono (hF.run X.A X.stack s1 H1 ⟨us, []⟩ us vs Q (a, oe) n D y hr ⟨g1, g2, fun hm => ?_, g5⟩ hz hfl e1 e2 e3 I1.env0 hbt r1 q1) fun r s' hq => ?_)
    · rcases List.mem_cons.mp (I1.stkSub _ hm) with z | z
      · exact g3 z
      · exact g4 z
    · cases r with
      | error e =>
        obtain ⟨_, _, _, _, _, _, _, _, _, _, _, _, z⟩ := hq
        exact z.elim
      | ok fl =>
        cases fl with
        | ret u => exact I1.after hq
        | next => exact False.elim hq
        | brk => exact False.elim hq
        | cont => exact False.elim hq
end
section
variable {P : Program} {w : World} {K : PySem.W.Frag} {mg : Str → Option Value} {base : Heap} {G : Gi} {PR : Prog} {exN : List Str}
/-- such a def by its body -/
theorem fn_okE {x qual : Str} {params : Arguments} {body : List Stmt} {scope : Scope} {f : Addr} {fd : FuncData} {N ps : List Str} {n i : Nat} {d : FDef} (F : FunD K x qual params body scope [] [] f fd) (S : FnScope N ps scope)
    (hi : PR.funs[i]? = some d) (he : d.eff = true) (hps : ps.length = d.np) (hN : N.length = d.ns)
    (hbody : ∀ (A : Around) (outer : List Env) (s : Shared) (H : Hp) (p : Addr × Obj) (m : Nat) (D : Addr) (y : Str), Zc (.ref D) none p.2 → (∃ vs, p.2.data = .fields vs) → G.cv m = .ref D → exN[m]? = some y → y ≠ "" → L2H.RoomH 1 (A.deeper (envOfC qual scope s.heap.objs.size f (codeV K f))) →
      PSs (L2H.cxH (L2.CX P w) P w K mg base N qual scope f (codeV K f) A outer s H (fun _ _ _ => False) p) body (tCs G [(p.1, m)] W0 PR (callF PR n) d.body)) : FnE P w K mg base G exN (callF PR (n + 1)) f fd ps i := by
  have hcall : ∀ args μ, callF PR (n + 1) i args μ = if args.length = d.np then endOf (execs PR (callF PR n) d.body (startE d args) μ) else .bad := fun args μ => by
    rw [callF, hi]
    show (if args.length = d.np then (if d.eff = true then _ else _) else _) = _
    rw [he]; rfl
  have hlen : ∀ {eh : List (Addr × Nat)} {F H : Hp} {am : List Addr} {μ : Sto} {args : List PV} {okk : PV → Sto → Hp → Hp → List Addr → Prop} {ex : Nat → Hp → Prop}, WpR G eh F H am (callF PR (n + 1) i args μ) okk ex → args.length = d.np := by
    intro eh F H am μ args okk ex h
    rw [hcall] at h
    by_cases e : args.length = d.np
    · exact e
    · rw [if_neg e] at h; exact False.elim h
  obtain ⟨oc, od, dV, kV, doc, pm, an, cdv, ct, osl, rfl, lk, hcd, _, _⟩ := F.ex
  have ecd : codeV K f = cdv := by unfold codeV; rw [lk]
  rw [ecd] at hbody
  refine ⟨fun a m vs H Q h => ?_, fun A outer s H args us vs Q p m D y hr hpin hz hf e1 e2 e3 e0 hb r h => ?_⟩
  · obtain ⟨F0, am, μ, qs, st, r, hw⟩ := h
    rw [← r.length, hlen hw, hps]
  · obtain ⟨F0, am, μ, qs, st, rr, hw⟩ := h
    have hl := hlen hw
    rw [hcall, if_pos hl] at hw
    have hvl : vs.length = ps.length := by rw [← rr.length, hl, hps]
    have KX : K.In s.heap := e0.mod.kin.keeps fun b o e => (e0.bs b o e).1
    have lim : s.heap.NoLimit := e0.mod.nolimit.keeps fun b o e => (e0.bs b o e).1
    have hkind : ∀ y ∈ ps.zip us, scope.names.lookup y.1 = some .local ∨ (scope.names.lookup y.1 = some .cell ∧ ((cellsFrom (s.heap.objs.size + 1) scope.names []).lookup y.1).isSome = true) := by
      rintro ⟨nm, v⟩ hy
      rcases S.par nm (List.of_mem_zip hy).1 with q | q
      · left; exact q
      · right; exact ⟨q, PySem.W.cellsFrom_some _ _ _ (.inl q)⟩
    refine codeAny_call_function hr.depth (KX _ _ lk) rfl S.co S.gen rfl (PySem.W.codeRec_of KX hcd) (hb _ _ _ _ ?_)
    refine wpAny_newFunctionEnv_cells S.kind hkind fun env he' s1 x => ?_
    subst he'
    refine ⟨lim.keeps x.toInCall.keep, codeAny_func ?_⟩
    have I := L2H.inv_startH (CX := L2.CX P w) (E := fun _ _ _ => False) S hpin e0 hvl r x
    refine wpAny_mono ((hbody A outer s H p m D y hz hf e1 e2 e3 (hr.deeper _)).run [] s1 (L2.start N vs) H { nx := fun _ H' => Q .non H', rt := Q } I ⟨F0, am, startE d qs, μ, st, start_ok rr hl hN, ?_⟩) (fun fl s' hs => ?_) fun e s' hs => hs
    · exact wpS_end (E := fun _ _ _ => False) hw
    · have fin : ∀ {σ' : L2.St} {H' : Hp} {v : V} {u : Value}, L2.Inv (L2H.cxH (L2.CX P w) P w K mg base N qual scope f cdv A outer s H (fun _ _ _ => False) p) [] σ' H' s' → RelV v u → Q v H' → L2.CE outer P w H s Q u s' := fun {σ' H' v u} J rv q => ⟨v, H', J.os, J.bare, J.base, J.hok, rv, q⟩
      cases fl with
      | ret u =>
        obtain ⟨v, σ', H', J, rv, q⟩ := hs
        exact fin J rv q
      | next =>
        obtain ⟨σ', H', J, q⟩ := hs
        exact fin (v := V.non) (u := Value.none) J rfl q
      | brk =>
        obtain ⟨_, _, _, q⟩ := hs
        exact False.elim q
      | cont =>
        obtain ⟨_, _, _, q⟩ := hs
        exact False.elim q
end

/-! ### try -/
section
variable {X : Cx} {G : Gi} {eh : List (Addr × Nat)} {W : WX} {P : Prog} {cs : CallS} {ex : List Str}
variable {F H : Hp} {am : List Addr} {σ : L2.St} {env : EnvP} {μ : Sto} {D : Ends}
theorem EnvOk.suite {i j : Nat} {w v : V} {p : PV} (en : EnvOk G eh F am σ env) (r : Rep G eh F am p v) : EnvOk G eh F am (((σ.set i (some w)).set j (some v)).set i none) ((env.set j (some p)).set i none) := by
  refine ⟨by simp [en.len], fun k q h => ?_⟩
  by_cases hk : i = k
  · subst hk
    by_cases hl : i < env.length
    · rw [List.getElem?_set_self (by simpa using hl)] at h; cases h
    · rw [List.getElem?_eq_none (by simpa using hl)] at h; cases h
  · rw [List.getElem?_set_ne hk] at h ⊢
    by_cases hj : j = k
    · subst hj
      by_cases hl : j < env.length
      · rw [List.getElem?_set_self hl] at h
        cases h
        exact ⟨v, List.getElem?_set_self (by rw [List.length_set, en.len]; exact hl), r⟩
      · rw [List.getElem?_eq_none (by simpa using hl)] at h; cases h
    · rw [List.getElem?_set_ne hj] at h ⊢
      rw [List.getElem?_set_ne hk]
      exact en.at_ k q h
theorem suite_env {a : Addr} {n : Nat} {slot : Option Nat} (en : EnvOk G eh F am σ env) (hs : ∀ i, slot = some i → ∃ σ0 : L2.St, σ = σ0.set i (some (.ref a))) : EnvOk G [(a, n)] F [] σ (suiteEnv slot n env) := by
  unfold suiteEnv
  cases slot with
  | none =>
    refine ⟨by simp [en.len], fun k q h => ?_⟩
    rw [List.getElem?_replicate] at h
    split at h <;> cases h
  | some i =>
    obtain ⟨σ0, rfl⟩ := hs i rfl
    refine ⟨by simp [← en.len], fun k q h => ?_⟩
    by_cases hk : i = k
    · subst hk
      by_cases hl : i < env.length
      · rw [List.getElem?_set_self (by simpa using hl)] at h
        cases h
        refine ⟨_, List.getElem?_set_self ?_, .exc List.mem_cons_self⟩
        have := en.len
        rw [List.length_set] at this
        omega
      · rw [List.getElem?_eq_none (by simpa using hl)] at h; cases h
    · rw [List.getElem?_set_ne hk, List.getElem?_replicate] at h
      split at h <;> cases h
/-- what the suite's expression leaves is the outer state's -/
theorem suite_back {a : Addr} {n : Nat} {F3 H3 : Hp} {am3 : List Addr} {μ3 : Sto} {p : PV} {v : V} (s : StOk G eh F H am μ) (x : Ext F H [] F3 H3 am3) (s3 : StOk G [(a, n)] F3 H3 am3 μ3) (r : Rep G [(a, n)] F3 am3 p v) (hp : pure? p = true) :
    ∃ F4, StOk G eh F4 H3 am μ ∧ Ext F H am F4 H3 am ∧ Rep G eh F4 am p v := by
  obtain ⟨s4, x4⟩ := back4_ok s (fun b _ => rfl) x s3
  have hne : ∀ b ∈ am, H b ≠ none := fun b hb => by
    obtain ⟨o, e⟩ := s.there hb
    rw [e]; simp
  have hstay : ∀ b o, F3 b = some o → back4 am am3 F3 H3 b = some o := fun b o e => by
    have h1 : b ∉ am := fun hm => by
      rw [x.nf b (hne b hm), s.fr b hm] at e; cases e
    have h2 : b ∉ am3 := fun hm => by rw [s3.fr b hm] at e; cases e
    unfold back4
    rw [if_neg h1, if_neg h2]; exact e
  exact ⟨_, s4, x4, Rep.pure (fun b xs e => hstay b _ e) (fun b xs q => sqT_of q (fun ys e => hstay b _ e) fun o ys e => hstay b _ e) p v r hp⟩
/-- where the suite's value goes -/
def suG (goal : Option Nat) (Dr : VK) (Dn : L2.St → Hp → Prop) (σ : L2.St) : VK := fun v H => match goal with
  | none => Dr v H
  | some j => Dn (σ.set j (some v)) H
/-- the reading of a suite that hands back, or stores, one value -/
def tSu (G : Gi) (P : Prog) (cs : CallS) (ex : List Str) (e : CE) (goal : Option Nat) (a : Addr) (cls : Value) (d : Option Addr) : TS := fun D σ H => ∃ n x, cls = G.cv n ∧ d = none ∧ ex[n]? = some x ∧ x ≠ "" ∧
  tV G [(a, n)] W0 P cs e σ H (suG goal D.rt D.nx σ)
theorem exec_try {body : List CS} {c : Nat} {slot goal : Option Nat} {e : CE} {ds : List Nat} {ca : CE} (h : WpS G eh F H am (NR.exec P cs (.tryy body c slot goal e ds) env μ) D (wish G W)) (W' : WX)
    (hn : ∀ (n : Nat) σ' F' H' am' env' μ', Ext F H am F' H' am' → StOk G eh F' H' am' μ' → EnvOk G eh F' am' σ' env' → n ∈ ds → (P.sup n c = true → WpS G eh F' H' am' (suiteEnd slot goal (ev P cs e (suiteEnv slot n env') []) env' μ') D (wish G W)) → (P.sup n c = false → wish G W σ' n H') → wish G W' σ' n H') :
    WpS G eh F H am (NR.execs P cs body env μ) D (wish G W') := by
  rw [NR.exec] at h
  cases er : NR.execs P cs body env μ with
  | bad => rw [er] at h; exact h
  | nx env' μ' => rw [er] at h; exact h
  | rt p μ' => rw [er] at h; exact h
  | exn d env' μ' =>
    rw [er] at h
    have h : WpS G eh F H am (if ds.contains d = true then if P.sup d c = true then suiteEnd slot goal (ev P cs e (suiteEnv slot d env') []) env' μ' else RS.exn d env' μ' else RS.bad) D (wish G W) := h
    split at h
    · rename_i hd
      intro σ' F' H' am' x' s' e'
      refine hn d σ' F' H' am' env' μ' x' s' e' (by simpa using hd) (fun hs => ?_) fun hs => ?_
      · rw [if_pos hs] at h
        exact h.later x'
      · rw [if_neg (by rw [hs]; decide)] at h
        exact h σ' F' H' am' x' s' e'
    · exact False.elim h
theorem suite_val {slot goal : Option Nat} {e : CE} {env' : EnvP} {n : Nat} {a : Addr} {σ' : L2.St} {Dn : L2.St → Hp → Prop} {Dr : VK} (st : StOk G eh F H am μ) (en : EnvOk G eh F am σ env')
    (hs : ∀ i, slot = some i → ∃ σ0 : L2.St, σ' = σ0.set i (some (.ref a))) (el : EnvOk G eh F am σ' env' ∨ ∃ i, slot = some i ∧ σ' = σ.set i (some (.ref a)))
    (h : WpS G eh F H am (suiteEnd slot goal (ev P cs e (suiteEnv slot n env') []) env' μ) D (wish G W)) (hr : ∀ v H', D.rt v H' → Dr v H') (hnx : ∀ j v H', goal = some j → D.nx (match slot with | none => σ.set j (some v) | some i => ((σ.set i (some (.ref a))).set j (some v)).set i none) H' → Dn (σ'.set j (some v)) H') :
    tV G [(a, n)] W0 P cs e σ' H (suG goal Dr Dn σ') := by
  have en2 : EnvOk G [(a, n)] F [] σ' (suiteEnv slot n env') := by
    rcases el with q | ⟨i, rfl, rfl⟩
    · exact suite_env q hs
    · unfold suiteEnv
      refine ⟨by simp [← en.len], fun k q h => ?_⟩
      by_cases hk : i = k
      · subst hk
        by_cases hl : i < env'.length
        · rw [List.getElem?_set_self (by simpa using hl)] at h
          cases h
          exact ⟨_, List.getElem?_set_self (by rw [en.len]; exact hl), .exc List.mem_cons_self⟩
        · rw [List.getElem?_eq_none (by simpa using hl)] at h; cases h
      · rw [List.getElem?_set_ne hk, List.getElem?_replicate] at h
        split at h <;> cases h
  refine ⟨F, [], suiteEnv slot n env', [], stOk0 st.sub st.ft st.tb, en2, ?_⟩
  cases ee : ev P cs e (suiteEnv slot n env') [] with
  | bad => rw [ee] at h; exact False.elim h
  | exn c m => rw [ee] at h; exact False.elim h
  | ok p μ3 =>
    rw [ee] at h
    unfold suiteEnd at h
    simp only at h
    split at h
    · rename_i hp
      show WpR G [(a, n)] F H [] (ev P cs e (suiteEnv slot n env') []) _ _
      rw [ee]
      intro F3 H3 am3 x3 s3 v rv
      obtain ⟨F4, s4, x4, r4⟩ := suite_back st x3 s3 rv hp
      cases goal with
      | none => exact hr v H3 (h F4 H3 am x4 s4 v r4)
      | some j =>
        refine hnx j v H3 rfl ?_
        cases slot with
        | none => exact h _ F4 H3 am x4 s4 ((x4.en en).set r4)
        | some i => exact h _ F4 H3 am x4 s4 (EnvOk.suite (x4.en en) r4)
    · exact False.elim h
theorem s_tryO {body suite : List Stmt} {b₀ : Stmt} {x : Str} {np pos pos' : Pos} {cb : List CS} {c : Nat} {goal : Option Nat} {e : CE} {ds : List Nat} (hs : X.stack = X.env :: X.outer) (hf : X.env.frame = some X.env.locals) (hg : Gl X x) (hd : (x == ("__debug__" : Str)) = false) (tk : Takes X W) (E : ExcOk G P X.K X.mg ex)
    (hc : ex[c]? = some x) (hx : x ≠ "") (hds : ∀ d ∈ ds, ∃ y, ex[d]? = some y ∧ y ≠ "")
    (hb : ∀ (W' : WX) (pn : List (Addr × Obj)) (xe : Value → Shared → Prop), Takes (X.tr pn xe) W' → PassesOwn (model X.prog X.w) X.A X.env xe → PSs (X.tr pn xe) body (tCs G eh W' P cs cb))
    (hsu : ∀ (a : Addr) (oe : Obj) (n : Nat) (pn : List (Addr × Obj)) (D : Addr) (y : Str), G.cv n = .ref D → ex[n]? = some y → y ≠ "" → Zc (.ref D) none oe → (∃ vs, oe.data = .fields vs) → PSs (X.suite a ((a, oe) :: pn)) (b₀ :: suite) (fun D σ H => tV G [(a, n)] W0 P cs e σ H (suG goal D.rt D.nx σ))) :
    PS X (.Try body [.ExceptHandler (some (.Name x np)) none (b₀ :: suite) pos'] [] [] pos) (tC1 G eh W P cs (.tryy cb c none goal e ds)) := by
  obtain ⟨C, e1, e2, _⟩ := E.at_ c x hc hx
  refine PS.imp (ps_try_only (c := .ref C) (ts := tSu G P cs ex e goal) hs hf ⟨hg, hd, .inl e2⟩ tk hb fun a oe cls d pn hz hfl => ⟨fun pins s σ H D I q => ?_⟩) fun D σ H q => ?_
  · obtain ⟨n, y, rfl, rfl, k1, k2, q⟩ := q
    obtain ⟨D', e3, _⟩ := E.at_ n y k1 k2
    exact (hsu a oe n pn D' y e3 k1 k2 (by rw [← e3]; exact hz) hfl).run pins s σ H D I q
  · obtain ⟨F, am, env, μ, st, en, h⟩ := tC1.out q
    refine ⟨F, am, env, μ, st, en, exec_try (ca := e) h _ fun n σ' F' H' am' env' μ' x' s' e' hm hyes hno => ?_⟩
    obtain ⟨y, k1, k2⟩ := hds n hm
    have q := (E.two n c y x k1 k2 hc hx).1
    rw [e1] at q
    refine ⟨_, q, fun hb a ha => ⟨n, y, rfl, rfl, k1, k2, ?_⟩, hno⟩
    exact suite_val (slot := none) (Dn := fun σ H => D.nx σ H) (Dr := fun v H => D.rt v H) s' e' (fun i hi => by cases hi) (.inl e') (hyes hb) (fun v H' q => q) fun j v H' _ q => q
theorem s_tryA {body suite : List Stmt} {b₀ : Stmt} {x nm : Str} {np pos pos' : Pos} {cb : List CS} {c i : Nat} {goal : Option Nat} {e : CE} {ds : List Nat} (hs : X.stack = X.env :: X.outer) (hf : X.env.frame = some X.env.locals) (hN : X.N.Nodup) (hi : X.N[i]? = some nm) (hl : X.env.kindOf nm = some .local)
    (hg : Gl X x) (hd : (x == ("__debug__" : Str)) = false) (tk : Takes X W) (E : ExcOk G P X.K X.mg ex)
    (hc : ex[c]? = some x) (hx : x ≠ "") (hds : ∀ d ∈ ds, ∃ y, ex[d]? = some y ∧ y ≠ "")
    (hb : ∀ (W' : WX) (pn : List (Addr × Obj)) (xe : Value → Shared → Prop), Takes (X.tr pn xe) W' → PassesOwn (model X.prog X.w) X.A X.env xe → PSs (X.tr pn xe) body (tCs G eh W' P cs cb))
    (hsu : ∀ (a : Addr) (oe : Obj) (n : Nat) (pn : List (Addr × Obj)) (D : Addr) (y : Str), G.cv n = .ref D → ex[n]? = some y → y ≠ "" → Zc (.ref D) none oe → (∃ vs, oe.data = .fields vs) → PSs (X.suite a ((a, oe) :: pn)) (b₀ :: suite) (fun D σ H => tV G [(a, n)] W0 P cs e σ H (suG goal D.rt D.nx σ))) :
    PS X (.Try body [.ExceptHandler (some (.Name x np)) (some nm) (b₀ :: suite) pos'] [] [] pos) (tC1 G eh W P cs (.tryy cb c (some i) goal e ds)) := by
  obtain ⟨C, e1, e2, _⟩ := E.at_ c x hc hx
  refine PS.imp (ps_try_as (c := .ref C) (i := i) (ts := tSu G P cs ex e goal) hs hf hN hi hl ⟨hg, hd, .inl e2⟩ tk hb fun a oe cls d pn hz hfl => ⟨fun pins s σ H D I q => ?_⟩) fun D σ H q => ?_
  · obtain ⟨n, y, rfl, rfl, k1, k2, q⟩ := q
    obtain ⟨D', e3, _⟩ := E.at_ n y k1 k2
    exact (hsu a oe n pn D' y e3 k1 k2 (by rw [← e3]; exact hz) hfl).run pins s σ H D I q
  · obtain ⟨F, am, env, μ, st, en, h⟩ := tC1.out q
    refine ⟨F, am, env, μ, st, en, exec_try (ca := e) h _ fun n σ' F' H' am' env' μ' x' s' e' hm hyes hno => ?_⟩
    obtain ⟨y, k1, k2⟩ := hds n hm
    have q := (E.two n c y x k1 k2 hc hx).1
    rw [e1] at q
    refine ⟨_, q, fun hb a ha => ⟨n, y, rfl, rfl, k1, k2, ?_⟩, hno⟩
    exact suite_val (slot := some i) (D := D) (Dn := fun σ H => D.nx (σ.set i none) H) (Dr := fun v H => D.rt v H) s' e' (fun k hk => by cases hk; exact ⟨σ', rfl⟩) (.inr ⟨i, rfl, rfl⟩) (hyes hb) (fun v H' q => q) fun j v H' _ q => q
end
end NR

/-! NR3k: objects of the text's own classes. -/
namespace NR
open PySem L2
open PySem.Spec PyProof.Rows RZ
/-- the fields' names are apart -/
def NamesApart (G : Gi) : Prop := ∀ f g, G.fN f = G.fN g → f = g
section
variable {G : Gi} {eh : List (Addr × Nat)} {F F' H H' : Hp} {am am' : List Addr} {μ : Sto} {σ : L2.St} {env : EnvP}
theorem FRep.look (hn : NamesApart G) {f : Nat} : ∀ {fs : List (Nat × PV)} {fv : List (Str × V)}, FRep G eh F am fs fv → (∀ p, fs.lookup f = some p → ∃ v, fv.lookup (G.fN f) = some v ∧ Rep G eh F am p v)
  | _, _, .nil, p, h => by cases h
  | _, _, .cons (f := g) (p := q) (v := w) h1 h2, p, h => by
    rw [List.lookup_cons] at h ⊢
    by_cases e : f = g
    · subst e
      simp at h
      subst h
      exact ⟨w, by simp, h1⟩
    · have e1 : (f == g) = false := by simpa using e
      have e2 : (G.fN f == G.fN g) = false := by simpa using fun z => e (hn f g z)
      rw [e1] at h
      rw [e2]
      exact FRep.look hn h2 p h
theorem FRep.miss {m : Str} (hm : ∀ g, G.fN g ≠ m) : ∀ {fs : List (Nat × PV)} {fv : List (Str × V)}, FRep G eh F am fs fv → fv.lookup m = none
  | _, _, .nil => rfl
  | _, _, .cons (f := g) h1 h2 => by
    rw [List.lookup_cons]
    have e : (m == G.fN g) = false := by simpa using fun z => hm g z.symm
    rw [e]
    exact FRep.miss hm h2
theorem FRep.put (hn : NamesApart G) {f : Nat} {p : PV} {v : V} (r : Rep G eh F am p v) : ∀ {fs : List (Nat × PV)} {fv : List (Str × V)}, FRep G eh F am fs fv → FRep G eh F am (putField f p fs) (putF (G.fN f) v fv)
  | _, _, .nil => .cons r .nil
  | _, _, .cons (f := g) (p := q) (v := w) (r := fs) (s := fv) h1 h2 => by
    show FRep G eh F am (if g = f then (g, p) :: fs else (g, q) :: putField f p fs) (if G.fN g = G.fN f then (G.fN g, v) :: fv else (G.fN g, w) :: putF (G.fN f) v fv)
    by_cases e : g = f
    · subst e
      rw [if_pos rfl, if_pos rfl]
      exact .cons r h2
    · rw [if_neg e, if_neg fun z => e (hn _ _ z)]
      exact .cons h1 (FRep.put hn r h2)
theorem FRep.len : ∀ {fs : List (Nat × PV)} {fv : List (Str × V)}, FRep G eh F am fs fv → fs.length = fv.length
  | _, _, .nil => rfl
  | _, _, .cons _ h => by simp [FRep.len h]
theorem inst_at (s : StOk G eh F H am μ) {n c : Nat} {fs : List (Nat × PV)} {a : Addr} (ha : am[n]? = some a) (h : μ[n]? = some (.inst c fs)) : ∃ dx fv, H a = some (.ins (G.cA c) dx fv) ∧ FRep G eh F am fs fv := s.cell n a _ ha h
theorem isInst_of {c : Nat} {p : PV} (h : isInst c p μ = true) : ∃ n fs, p = .loc n ∧ μ[n]? = some (.inst c fs) := by
  unfold isInst at h
  split at h
  · rename_i n
    split at h
    · rename_i d fs e
      have hd : d = c := by simpa using h
      subst hd
      exact ⟨n, fs, rfl, e⟩
    · cases h
  · cases h
end
section
variable {X : Cx} {G : Gi} {eh : List (Addr × Nat)} {W : WX} {P : Prog} {cs : CallS} {pos : Pos}
/-- o.f -/
theorem r_fld {o : Expr} {co : CE} {f : Nat} {name : Str} (hn : NamesApart G) (hf : G.fN f = name) (hcl : ∀ c, Cls X.K (G.cA c) ∧ NoAttr X.K (G.cA c) name) (hs : nsup o = true) (ho : PE X o (tV G eh W P cs co)) : PE X (.Attribute o name pos) (tV G eh W P cs (.fld co f)) := by
  refine PE.imp (pe_fld ho (attr_base hs)) fun σ H Q q => ?_
  obtain ⟨F, am, env, μ, s, en, h⟩ := tV.out q
  rw [ev] at h
  refine tV.go s en h fun p v μ1 F1 H1 am1 x1 s1 r1 en1 h1 => ?_
  unfold fldOf at h1
  split at h1
  · rename_i n
    split at h1
    · rename_i c fs e
      split at h1
      · rename_i pv el
        cases r1 with
        | loc hl =>
          rename_i a
          obtain ⟨dx, fv, e1, e2⟩ := inst_at s1 hl e
          obtain ⟨w, l1, l2⟩ := e2.look hn _ el
          obtain ⟨k1, k2⟩ := hcl c
          exact ⟨a, G.cA c, dx, fv, w, rfl, e1, k1, k2, by rw [← hf]; exact l1, h1.val s1 l2⟩
      · exact h1.elim
    · exact h1.elim
  · exact h1.elim
/-- o.f = value -/
theorem s_sfld {o value : Expr} {co cv : CE} {f : Nat} {name : Str} {pos' : Pos} (hn : NamesApart G) (hf : G.fN f = name) (hcl : ∀ c, Cls X.K (G.cA c) ∧ NoAttr X.K (G.cA c) name) (hw : swapsWith value (some (.Attribute o name pos')) pos.line X.env = pure false)
    (ho : PE X o (tV G eh W P cs co)) (hv : PE X value (tV G eh W P cs cv)) : PS X (.Assign [.Attribute o name pos'] value pos) (tC1 G eh W P cs (.sfld co f cv)) := by
  refine PS.imp (ps_fld ho hv hw) fun D σ H q => ?_
  obtain ⟨F, am, env, μ, s, en, h⟩ := tC1.out q
  rw [NR.exec] at h
  refine tV.goS s en h fun x v μ1 F1 H1 am1 x1 s1 r1 en1 h1 => ?_
  refine tV.goS s1 en1 h1 fun y w μ2 F2 H2 am2 x2 s2 r2 en2 h2 => ?_
  unfold setFld at h2
  cases y <;> first | (exact False.elim h2) | skip
  rename_i n
  cases e : μ2[n]? with
  | none => simp only [e] at h2; exact False.elim h2
  | some cl =>
    simp only [e] at h2
    cases cl with
    | list _ => exact False.elim h2
    | dict _ => exact False.elim h2
    | inst c fs =>
      simp only at h2
      by_cases hl : fs.length < 900
      · rw [if_pos hl] at h2
        cases r2 with
        | loc hm =>
          rename_i a
          obtain ⟨dx, fv, e1, e2⟩ := inst_at s2 hm e
          obtain ⟨k1, k2⟩ := hcl c
          have hnl : n < μ2.length := (List.getElem?_eq_some_iff.mp e).1
          have hc : CellOk G eh F2 (upd H2 a (.ins (G.cA c) dx (putF (G.fN f) v fv))) am2 a (.inst c (putField f x fs)) := ⟨dx, _, upd_same, e2.put hn (x2.rep r1)⟩
          obtain ⟨s3, x3⟩ := s2.write hm hnl hc
          refine ⟨a, G.cA c, dx, fv, rfl, e1, k1, k2, by rw [← e2.len]; omega, ?_⟩
          have h3 : WpS G eh F2 H2 am2 (.nx env (μ2.set n (.inst c (putField f x fs)))) D (wish G W) := h2
          rw [← hf]
          exact h3 σ _ _ am2 x3 s3 (x3.en en2)
      · rw [if_neg hl] at h2; exact False.elim h2
/-- a method's call by its parts -/
theorem eval_meth {o : Expr} {m : Str} {apos cpos : Pos} {es : List Expr} {env : Env} (hs : nsup o = true) (hn : es.all nst = true) (h3 : es.length < 28) (hline : (apos.endLine == cpos.line) = true) : eval (.Call (.Attribute o m apos) es [] cpos) env = (do
      let ov ← eval o env
      standAt apos.atName
      let (f, first) ← holding [ov] (getMethod ov m (do return (← importBound o env).getD true))
      callWith cpos f first (backTo cpos (starEach es env)) (backToKw cpos (keywordEach [] env))) := by
  have hform : methodCallForm (es.length + ([] : List Keyword).length) (backTo cpos (starEach es env)) (backToKw cpos (keywordEach [] env)) = true := by
    cases es with
    | nil => rfl
    | cons e es =>
      simp only [List.all_cons, Bool.and_eq_true] at hn
      exact star_few hn.1 hn.2 (by simp at h3; omega)
  have hpos : methodCallPos true o env apos cpos = pure cpos := by unfold methodCallPos; simp [hline]
  rw [arm_eval_Call, attr_base hs]
  unfold methodCall
  rw [hform, hpos]
  simp only [pure_bind]
  rfl
/-- a method's promise: number f, of the class c, named m -/
def MethAt (X : Cx) (G : Gi) (cs : CallS) (c : Nat) (m : Str) (i : Nat) : Prop := ∃ k f fd ps, Room k X.A ∧ Meth X.K (G.cA c) m f ∧ Cls X.K (G.cA c) ∧ Binds X.K fd ps [] ∧ FnOk X.prog X.w X.K X.mg X.base (L2.CX X.prog X.w) k f fd ps (spOf G cs i)
theorem r_meth {o e : Expr} {es : List Expr} {co : CE} {cl : List CE} {c i : Nat} {m : Str} {apos : Pos} {pl : Sem Bool} (tk : Takes X W) (hf : MethAt X G cs c m i) (hm : ∀ g, G.fN g ≠ m) (h1 : nst e = true) (h2 : es.all nst = true)
    (ht : eval (.Call (.Attribute o m apos) (e :: es) [] pos) X.env = (do
      let ov ← eval o X.env
      standAt apos.atName
      let (f, first) ← holding [ov] (getMethod ov m pl)
      callWith pos f first (backTo pos (starEach (e :: es) X.env)) (backToKw pos (keywordEach [] X.env))))
    (ho : PE X o (tV G eh W P cs co)) (ha : PA X (e :: es) (tVs G eh W P cs cl)) : PE X (.Call (.Attribute o m apos) (e :: es) [] pos) (tV G eh W P cs (.meth c i co cl)) := by
  obtain ⟨k, f, fd, ps, hr, hM, hC, hb, hF⟩ := hf
  refine ⟨fun pins s σ H Q I q => ?_⟩
  obtain ⟨F, am, env, μ, st, en, h⟩ := tV.out q
  rw [ev] at h
  refine PySem.W.methodCall_KW (pl := pl) (thn (ho.run pins s σ H (fun x H1 => ∃ a dx fs, x = .ref a ∧ H1 a = some (.ins (G.cA c) dx fs) ∧ fs.lookup m = none ∧ tVs G eh W P cs cl σ H1 fun vs H2 => spOf G cs i (x :: (vs ++ [])) H2 Q (WE W σ)) I (tV.go st en h fun p v μ1 F1 H1 am1 x1 s1 r1 en1 hh => ?_)) fun u s1 ⟨x, H1, I1, rx, a, dx, fs, ex, ea, l, q⟩ => ?_) ht
  · split at hh
    · rename_i hi
      obtain ⟨n, fs, rfl, e⟩ := isInst_of hi
      cases r1 with
      | loc hl =>
        rename_i a
        obtain ⟨dx, fv, e1, e2⟩ := inst_at s1 hl e
        refine ⟨a, dx, fv, rfl, e1, e2.miss hm, ?_⟩
        refine tVs.go s1 en1 hh fun qs vs μ2 F2 H2 am2 x2 s2 r2 en2 h2 => ?_
        rw [List.append_nil]
        exact ⟨eh, F2, am2, μ2, .loc n :: qs, s2, .cons (x2.rep (.loc hl)) r2, h2⟩
    · exact hh.elim
  · subst ex
    obtain rfl : u = Value.ref a := rx
    refine getmeth_ok I1 ea hC hM l ?_
    refine PySem.W.callWith_K (first := [.ref a]) (h₀ := X.base) I.ok.mod.kin hM.kp (thn (ha.run pos pins s1 σ H1 _ I1 q) fun us s2 ⟨vs, H2, I2, r, q2⟩ => ⟨I2.kIn, ?_⟩) (star_cons h1) (star_none pos h2)
    exact run_fnSD (E := WE W) (us := .ref a :: us) (vs := .ref a :: vs) hF hr hb .nil (passAt tk σ) I2 (.cons rfl r) q2
theorem r_meth0 {o : Expr} {co : CE} {c i : Nat} {m : Str} {apos : Pos} {pl : Sem Bool} (tk : Takes X W) (hf : MethAt X G cs c m i) (hm : ∀ g, G.fN g ≠ m)
    (ht : eval (.Call (.Attribute o m apos) [] [] pos) X.env = (do
      let ov ← eval o X.env
      standAt apos.atName
      let (f, first) ← holding [ov] (getMethod ov m pl)
      callWith pos f first (backTo pos (starEach [] X.env)) (backToKw pos (keywordEach [] X.env))))
    (ho : PE X o (tV G eh W P cs co)) : PE X (.Call (.Attribute o m apos) [] [] pos) (tV G eh W P cs (.meth c i co [])) := by
  obtain ⟨k, f, fd, ps, hr, hM, hC, hb, hF⟩ := hf
  refine ⟨fun pins s σ H Q I q => ?_⟩
  obtain ⟨F, am, env, μ, st, en, h⟩ := tV.out q
  rw [ev] at h
  refine PySem.W.methodCall_KW (pl := pl) (thn (ho.run pins s σ H (fun x H1 => ∃ a dx fs, x = .ref a ∧ H1 a = some (.ins (G.cA c) dx fs) ∧ fs.lookup m = none ∧ spOf G cs i ([x] ++ []) H1 Q (WE W σ)) I (tV.go st en h fun p v μ1 F1 H1 am1 x1 s1 r1 en1 hh => ?_)) fun u s1 ⟨x, H1, I1, rx, a, dx, fs, ex, ea, l, q⟩ => ?_) ht
  · split at hh
    · rename_i hi
      obtain ⟨n, fs, rfl, e⟩ := isInst_of hi
      cases r1 with
      | loc hl =>
        rename_i a
        obtain ⟨dx, fv, e1, e2⟩ := inst_at s1 hl e
        rw [evs, R.ok_bind] at hh
        exact ⟨a, dx, fv, rfl, e1, e2.miss hm, eh, F1, am1, μ1, [.loc n], s1, .cons (.loc hl) .nil, hh⟩
    · exact hh.elim
  · subst ex
    obtain rfl : u = Value.ref a := rx
    refine getmeth_ok I1 ea hC hM l ?_
    exact PySem.W.callWith_K0 (first := [.ref a]) I1.kIn hM.kp (run_fnSD (E := WE W) (us := [.ref a]) (vs := [.ref a]) hF hr hb .nil (passAt tk σ) I1 (.cons rfl .nil) q)
/-- a class's promise -/
def MakeAt (X : Cx) (G : Gi) (cs : CallS) (c : Nat) (x : Str) (i : Nat) : Prop := ∃ k f fd ps, Room (k + 1) X.A ∧ X.mg x = some (.ref (G.cA c)) ∧ Mk X.K (G.cA c) f ∧ Binds X.K fd ps [] ∧ FnOk X.prog X.w X.K X.mg X.base (L2.CX X.prog X.w) k f fd ps (spOf G cs i)
/-- a new object: its dict, itself, then its __init__ -/
theorem run_makeSD {kk : Nat} {Ca fI : Addr} {fdI : FuncData} {pI : List Str} {spI : Sp} {EW : L2.St → XK} {pins : List (Addr × Obj)} {σ : L2.St} {H : Hp} {s0 : Shared} {Q : VK} {us : List Value} {vs : List V} (M : Mk X.K Ca fI) (FI : FnOk X.prog X.w X.K X.mg X.base (L2.CX X.prog X.w) kk fI fdI pI spI) (room : Room (kk + 1) X.A) (bI : Binds X.K fdI pI [])
    (pas : PassesAt (L2.CX X.prog X.w) X σ (EW σ)) (I : Inv X pins σ H s0) (rv : Vals vs us)
    (want : ∀ x dx, H x = none → H dx = none → dx ≠ x → spI (.ref x :: vs) (upd (upd H dx (.own x)) x (.ins Ca dx [])) (fun v H2 => v = .non ∧ Q (.ref x) H2) (EW σ)) :
    wpAny (model X.prog X.w) X.A (call (.ref Ca) us) (EP X pins σ Q) X.xe s0 := by
  have w1 := want (s0.heap.objs.size + 1) s0.heap.objs.size (I.hok.fresh (Nat.le_succ _)) (I.hok.fresh (Nat.le_refl _)) (Nat.ne_of_lt (Nat.lt_succ_self _))
  have J := Inv.made (C := Ca) I
  have rr : Vals (V.ref (s0.heap.objs.size + 1) :: vs) (Value.ref (s0.heap.objs.size + 1) :: us) := .cons rfl rv
  have len : (Value.ref (s0.heap.objs.size + 1) :: us).length = pI.length := by rw [← rr.length]; exact FI.len _ _ _ _ w1
  have bd := bI _ (Value.ref (s0.heap.objs.size + 1) :: us) J.kIn (by rw [List.append_nil]; exact len)
  rw [List.append_nil] at bd
  refine wpAny_call (make_map (f := fI) I.kIn M.makes M.init (beq_iff_eq.mp M.fn) (codeAny_mono (FI.run _ X.stack _ _ ⟨Value.ref (s0.heap.objs.size + 1) :: us, []⟩ _ _ _ (EW σ) (room.make Ca us []) (J.env0.make Ca us []) bd rr w1) fun res s2 done => ?_))
  cases res with
  | error ee => exact pas pins _ _ ee s2 J done
  | ok fl =>
    cases fl with
    | ret u =>
      obtain ⟨v, H9, J9, r9, e9, q9⟩ := J.after done
      subst e9
      exact ⟨r9, ⟨V.ref (s0.heap.objs.size + 1), H9, J9, rfl, q9⟩⟩
    | next => exact done.elim
    | brk => exact done.elim
    | cont => exact done.elim
/-- what __init__ is asked -/
theorem make_want {F H : Hp} {am : List Addr} {μ : Sto} {σ : L2.St} {c i : Nat} {ps : List PV} {vs : List V} {Q : VK} {cd : CDef} (st : StOk G eh F H am μ) (r : RepL G eh F am ps vs) (hi : cd.init = i)
    (h : WpR G eh F H am ((cs cd.init (.loc μ.length :: ps) (μ ++ [.inst c []])).bind fun r μ' => match r with | .non => .ok (.loc μ.length) μ' | _ => .bad) (fun p _ F' H' am' => ∀ v, Rep G eh F' am' p v → Q v H') (wish G W σ)) :
    ∀ x dx, H x = none → H dx = none → dx ≠ x → spOf G cs i (.ref x :: vs) (upd (upd H dx (.own x)) x (.ins (G.cA c) dx [])) (fun v H2 => v = .non ∧ Q (.ref x) H2) (WE W σ) := by
  intro x dx hx hd hne
  obtain ⟨s1, x1⟩ := st.new (o := .own x) hd
  have hx1 : upd H dx (.own x) x = none := by rw [upd_ne fun z => hne z.symm]; exact hx
  obtain ⟨s2, x2⟩ := s1.newCell (o := .ins (G.cA c) dx []) (c := .inst c []) hx1 ⟨dx, [], upd_same, .nil⟩
  have hl : (am ++ [x])[μ.length]? = some x := by rw [← st.len]; simp
  refine ⟨eh, _, am ++ [x], μ ++ [.inst c []], .loc μ.length :: ps, s2, .cons (.loc hl) ((x1.trans x2).repL r), ?_⟩
  rw [← hi]
  have h2 := (h.later (x1.trans x2)).bind
  cases e : cs cd.init (.loc μ.length :: ps) (μ ++ [.inst c []]) with
  | bad => rw [e] at h2; exact h2
  | exn k m => rw [e] at h2; exact h2
  | ok p μ3 =>
    rw [e] at h2
    intro F3 H3 am3 x3 s3 v rv
    have h3 := h2 F3 H3 am3 x3 s3
    cases p <;> first | (exact False.elim h3) | skip
    cases rv
    refine ⟨rfl, ?_⟩
    exact h3.ok_now s3 _ (.loc (pre_get x3.a hl))
theorem r_new {x : Str} {e : Expr} {es : List Expr} {cl : List CE} {c : Nat} {p : Pos} {cd : CDef} (tk : Takes X W) (hc : P.classes[c]? = some cd) (hf : MakeAt X G cs c x cd.init) (hg : Gl X x) (hd : (x == ("__debug__" : Str)) = false) (h1 : nst e = true) (h2 : es.all nst = true)
    (ha : PA X (e :: es) (tVs G eh W P cs cl)) : PE X (.Call (.Name x p) (e :: es) [] pos) (tV G eh W P cs (.new c cl)) := by
  obtain ⟨k, f, fd, pl, hr, hm, hM, hb, hF⟩ := hf
  refine ⟨fun pins s σ H Q I q => ?_⟩
  obtain ⟨F, am, env, μ, st, en, h⟩ := tV.out q
  rw [ev] at h
  refine wpAny_Call_Name_kw (ld_glob I hg hm ?_ hd)
  refine PySem.W.callWith_K (h₀ := X.base) I.ok.mod.kin hM.kp (thn (ha.run pos pins s σ H (fun vs H1 => ∀ x dx, H1 x = none → H1 dx = none → dx ≠ x → spOf G cs cd.init (.ref x :: vs) (upd (upd H1 dx (.own x)) x (.ins (G.cA c) dx [])) (fun v H2 => v = .non ∧ Q (.ref x) H2) (WE W σ)) I (tVs.go st en h fun ps vs μ1 F1 H1 am1 x1 s1 r1 en1 hh => ?_)) fun us s1 ⟨vs, H1, I1, r, q1⟩ => ⟨I1.kIn, ?_⟩) (star_cons h1) (star_none pos h2)
  · rw [hc] at hh
    exact make_want s1 r1 rfl hh
  · exact run_makeSD (EW := WE W) hM hF hr hb (passAt tk σ) I1 r q1
theorem r_new0 {x : Str} {c : Nat} {p : Pos} {cd : CDef} (tk : Takes X W) (hc : P.classes[c]? = some cd) (hf : MakeAt X G cs c x cd.init) (hg : Gl X x) (hd : (x == ("__debug__" : Str)) = false) : PE X (.Call (.Name x p) [] [] pos) (tV G eh W P cs (.new c [])) := by
  obtain ⟨k, f, fd, pl, hr, hm, hM, hb, hF⟩ := hf
  refine ⟨fun pins s σ H Q I q => ?_⟩
  obtain ⟨F, am, env, μ, st, en, h⟩ := tV.out q
  rw [ev, evs, R.ok_bind, hc] at h
  refine wpAny_Call_Name_kw (ld_glob I hg hm ?_ hd)
  exact PySem.W.callWith_K0 I.kIn hM.kp (run_makeSD (EW := WE W) (us := []) hM hF hr hb (passAt tk σ) I .nil (make_want st .nil rfl h))
/-- fields of one object, one behind the other -/
def gFs (G : Gi) (eh : List (Addr × Nat)) (W : WX) (P : Prog) (cs : CallS) (co : CE) (fs : List Nat) : TGs := fun vs σ H Q => ∃ F am qs env μ, ∃ rt : VK, StOk G eh F H am μ ∧ RepL G eh F am qs vs ∧ EnvOk G eh F am σ env ∧
  WpS G eh F H am (tFlds (fun env μ => ev P cs co env μ) fs qs env μ) { nx := Q, rt := rt } (wish G W)
theorem gf_nil {co : CE} : PGs X [] (gFs G eh W P cs co []) := by
  refine ⟨fun pins s σ H vs us Q I r q => pgs_nil.run pins s σ H vs us Q I r ?_⟩
  obtain ⟨F, am, qs, env, μ, rt, st, rq, en, h⟩ := q
  cases qs with
  | nil =>
    cases rq
    exact ⟨rfl, h σ F H am Ext.refl st en⟩
  | cons _ _ => exact False.elim h
theorem gf_cons {o : Expr} {es : List Expr} {co : CE} {f : Nat} {fs : List Nat} {name : Str} {pos' : Pos} (hn : NamesApart G) (hf : G.fN f = name) (hcl : ∀ c, Cls X.K (G.cA c) ∧ NoAttr X.K (G.cA c) name) (ho : PE X o (tV G eh W P cs co)) (h2 : PGs X es (gFs G eh W P cs co fs)) :
    PGs X (.Attribute o name pos' :: es) (gFs G eh W P cs co (f :: fs)) := by
  refine ⟨fun pins s σ H vs us Q I r q => ?_⟩
  obtain ⟨F, am, qs, env, μ, rt, st, rq, en, h⟩ := q
  cases qs with
  | nil => exact False.elim h
  | cons x qs =>
    cases rq with
    | cons r1 r2 =>
      cases r with
      | cons k1 k2 =>
        rename_i v vs u us
        rw [assign_cons rfl, List.map_cons]
        have h : WpS G eh F H am (RS.of env (ev P cs co env μ) fun y μ => match setFld y f x μ with | some μ => tFlds (fun env μ => ev P cs co env μ) fs qs env μ | none => .bad) { nx := Q, rt := rt } (wish G W) := h
        refine assignInOrder_cons (PySem.W.kas_attr (thn (ho.run pins s σ H (fun y H1 => ∃ a C dx fv, y = .ref a ∧ H1 a = some (.ins C dx fv) ∧ Cls X.K C ∧ NoAttr X.K C name ∧ fv.length < 1000 ∧ gFs G eh W P cs co fs vs σ (upd H1 a (.ins C dx (putF name v fv))) Q) I (tV.goS st en h fun y w μ2 F2 H2 am2 x2 s2 rw2 en2 h2 => ?_)) fun ov s1 ⟨y, H1, I1, ry, a, C, dx, fv, ey, ea, c, nn, l, q2⟩ => ?_))
        · unfold setFld at h2
          cases y <;> first | (exact False.elim h2) | skip
          rename_i n
          cases e : μ2[n]? with
          | none => simp only [e] at h2; exact False.elim h2
          | some cl =>
            simp only [e] at h2
            cases cl with
            | list _ => exact False.elim h2
            | dict _ => exact False.elim h2
            | inst c fl =>
              simp only at h2
              by_cases hl : fl.length < 900
              · rw [if_pos hl] at h2
                cases rw2 with
                | loc hm =>
                  rename_i a
                  obtain ⟨dx, fv, e1, e2⟩ := inst_at s2 hm e
                  obtain ⟨k1, k2⟩ := hcl c
                  have hnl : n < μ2.length := (List.getElem?_eq_some_iff.mp e).1
                  have hc : CellOk G eh F2 (upd H2 a (.ins (G.cA c) dx (putF (G.fN f) v fv))) am2 a (.inst c (putField f x fl)) := ⟨dx, _, upd_same, e2.put hn (x2.rep r1)⟩
                  obtain ⟨s3, x3⟩ := s2.write hm hnl hc
                  refine ⟨a, G.cA c, dx, fv, rfl, e1, k1, k2, by rw [← e2.len]; omega, F2, am2, qs, env, μ2.set n (.inst c (putField f x fl)), rt, ?_, x3.repL (x2.repL r2), x3.en en2, ?_⟩
                  · rw [← hf]; exact s3
                  · have h4 := WpS.later (x := x3) h2
                    rw [← hf]
                    exact h4
              · rw [if_neg hl] at h2; exact False.elim h2
        · subst ey
          obtain rfl : ov = Value.ref a := ry
          exact setattr_ok I1 ea c nn l k1 fun s3 I3 => h2.run pins s3 σ _ _ _ Q I3 k2 q2
theorem s_tfld {a : Expr} {es : List Expr} {co ca : CE} {fs : List Nat} {k : Nat} {pt : Pos} (hG : X.K = G.K) (hc : X.calm = true) (hn : es.all nst = true) (hl : es.length = fs.length) (hsw : swapsWithSole [.Tuple es k pt] a pos.line X.env = pure false) (hw : swappedStores [.Tuple es k pt] a X.env = pure none)
    (hg : PGs X es (gFs G eh W P cs co fs)) (ha : PE X a (tV G eh W P cs ca)) : PS X (.Assign [.Tuple es k pt] a pos) (tC1 G eh W P cs (.tfld co fs ca)) := by
  have hp : PG X (.Tuple es k pt) (gTup X.K fs.length (gFs G eh W P cs co fs)) := by
    refine pg_tup (n := fs.length) hc hg ?_ ?_
    · rw [assign_all hn, List.length_map, hl]
    · rw [assign_all hn, List.findIdx?_eq_none_iff]
      intro x hx
      obtain ⟨e, _, rfl⟩ := List.mem_map.mp hx
      rfl
  refine PS.imp (ps_asg ha hp hsw hw (by rfl)) fun D σ H q => ?_
  obtain ⟨F, am, env, μ, s, en, h⟩ := tC1.out q
  rw [NR.exec] at h
  refine tV.goS s en h fun q v μ1 F1 H1 am1 x1 s1 r1 en1 h1 => ?_
  cases q <;> first | (exact False.elim h1) | skip
  rename_i qs
  cases r1 with
  | tup t1 t2 =>
    rename_i a' xs
    have h1 : WpS G eh F1 H1 am1 (if qs.length = fs.length then tFlds (fun env μ => ev P cs co env μ) fs qs env μ1 else .bad) D (wish G W) := h1
    by_cases hlen : qs.length = fs.length
    · rw [if_pos hlen] at h1
      exact ⟨a', xs, rfl, by rw [hG]; exact SqT.same s1.sub t1, by rw [← t2.length]; exact hlen, F1, am1, qs, env, μ1, D.rt, s1, t2, en1, h1⟩
    · rw [if_neg hlen] at h1
      exact False.elim h1
end
end NR

/-! NR4: the text checked against the evaluator's terms. -/
namespace NR
open PySem L2
open PySem.Spec PyProof.Rows RZ

/-- names: the slots, the module's constants, the defs; the scope that runs, the names stored as cells of its own -/
structure Ck where
  N : List Str
  con : List Str
  fns : List Str
  sc : Scope
  fn : Str → Bool
  /-- room to spare -/
  rm : Nat
  /-- lambdas may be made -/
  lam : Bool
  /-- the exception classes by number -/
  exn : List Str
  /-- an exception is being handled -/
  hot : Bool
  /-- the defs that may be called then -/
  hfns : List Str
  /-- the classes, the fields by number; by a def's number the class and the method that it is -/
  cls : List Str
  fld : List Str
  mts : List (Nat × Str)

def visB (sc : Scope) (x : Str) : Bool := match sc.names.lookup x with
  | some .local => true | some .cell => true | some .free => true
  | _ => false
def locB (c : Ck) (x : Str) : Bool := match c.sc.names.lookup x with
  | some .local => true
  | some .cell => c.fn x
  | _ => false
def glB (sc : Scope) (x : Str) : Bool := match sc.names.lookup x with
  | some .globalImplicit => true
  | _ => false
def plainN (x : Str) : Bool := !(x == ("__debug__" : Str)) && !(x == ("__classdict__" : Str)) && !(x == ("__name__" : Str))
def slotB (c : Ck) (i : Nat) (x : Str) : Bool := decide (c.N[i]? = some x)
theorem visB_of {sc : Scope} {x : Str} (h : visB sc x = true) : Vis sc x := by
  unfold visB at h
  split at h <;> first | (rename_i e; exact .inl e) | (rename_i e; exact .inr (.inl e)) | (rename_i e; exact .inr (.inr e)) | cases h
theorem locB_of {c : Ck} {x : Str} (h : locB c x = true) : Loc c.sc x ∧ (c.fn x = true ∨ c.sc.names.lookup x = some .local) := by
  unfold locB at h
  split at h
  · rename_i e; exact ⟨.inl e, .inr e⟩
  · rename_i e; exact ⟨.inr e, .inl h⟩
  · cases h
theorem glB_of {sc : Scope} {x : Str} (h : glB sc x = true) : sc.names.lookup x = some .globalImplicit := by
  unfold glB at h
  split at h
  · assumption
  · cases h
theorem plainN_of {x : Str} (h : plainN x = true) : (x == ("__debug__" : Str)) = false ∧ (x == ("__classdict__" : Str)) = false ∧ x ≠ "__name__" := by
  unfold plainN at h
  simp only [Bool.and_eq_true, Bool.not_eq_true'] at h
  exact ⟨h.1.1, h.1.2, fun e => by rw [e] at h; simp at h⟩

def relabelS (scope sc : Scope) : Scope :=
  { scope with names := scope.names.map fun (n, k) => if (k == .free && sc.kind == .function && sc.names.lookup n == some .cell) then (n, .cell) else (n, k) }
/-- within a comprehension's block -/
def Ck.blk (c : Ck) (scope : Scope) : Ck := { c with sc := relabelS scope c.sc, fn := (fun x => scope.names.lookup x == some .cell), lam := false }
/-- within a lambda -/
def Ck.lamb (c : Ck) (scope : Scope) : Ck := { c with sc := scope, fn := (fun _ => false), rm := c.rm - 4, lam := false }
def ownOf (c : Ck) (p : Pat) : List (Str × Nat) := (patSlots p).map fun i => (c.N.getD i "", i)
theorem ownOf_slots (c : Ck) (p : Pat) : (ownOf c p).map (·.2) = patSlots p := by
  unfold ownOf
  rw [List.map_map]
  exact List.map_id _

/-- a constant of the text -/
def conE : PV → Expr → Bool
  | .non, .Constant .none _ _ => true
  | .bl b, .Constant (.bool c) _ _ => b == c
  | .int i, .Constant (.int j) _ _ => decide (i = j)
  | .str s, .Constant (.str x) _ _ => decide (x.cps.toList = s) && s.all (· < 0x110000)
  | _, _ => false
def b1Name : B1 → String
  | .len => "len" | .all => "all" | .any => "any" | .list => "list" | .listc => "list" | .tuple => "tuple" | .sum => "sum"
  | .sorted => "sorted" | .str => "str" | .int => "int" | .max => "max"
  | .ssorted => "" | .slen => "" | .neg => ""
def b2Name : B2 → String
  | .max => "max" | .min => "min"
def mName : MOp → String
  | .split => "split" | .join => "join" | .endswith => "endswith" | .startswith => "startswith" | .partition => "partition" | .countS => "count" | .count => "count" | .index => "index"
  | .append => "append" | .extend => "extend" | .pop => "pop" | .remove => "remove" | .get => "get" | .upper => "upper" | .setdefault => "setdefault" | .values => "values"
/-- served so far -/
def b1Has : B1 → Bool
  | .len => true | .all => true | .any => true | .list => true | .listc => true | .tuple => true | .sum => true | .sorted => true | .str => true | .int => true | _ => false
def mHas : MOp → Bool
  | .split => true | .join => true | .endswith => true | .startswith => true | .append => true | .extend => true | .pop => true | .get => true | .index => true | .count => true | .remove => true | .partition => true | _ => false
def bltN : List Str := ["len", "all", "any", "list", "tuple", "sum", "sorted", "str", "int", "bool", "max", "min", "isinstance", "range", "enumerate", "zip", "set", "ValueError"]
def bltB (c : Ck) (x : Str) (s : String) : Bool := decide (x = Str.ofString s) && glB c.sc x
def b1Hot : B1 → Bool
  | .all => false | .any => false | .sum => false | .sorted => false | _ => true
/-- the class x of number k -/
def excB (c : Ck) (k : Nat) (x : Str) : Bool := decide (c.exn[k]? = some x) && !(x == ("" : Str)) && glB c.sc x && plainN x
theorem excB_of {c : Ck} {k : Nat} {x : Str} (h : excB c k x = true) : c.exn[k]? = some x ∧ x ≠ "" ∧ glB c.sc x = true ∧ plainN x = true := by
  unfold excB at h
  simp only [Bool.and_eq_true, decide_eq_true_eq, Bool.not_eq_true'] at h
  exact ⟨h.1.1.1, by simpa using h.1.1.2, h.1.2, h.2⟩
def isTupE : Expr → Bool
  | .Tuple .. => true
  | _ => false

mutual
def chkP (c : Ck) : Pat → Expr → Bool
  | .v i, .Name x _ => slotB c i x && locB c x
  | .t ps, .Tuple es _ _ => !c.hot && es.all nst && decide (es.length = ps.length) && chkPs c ps es
  | _, _ => false
def chkPs (c : Ck) : List Pat → List Expr → Bool
  | [], [] => true
  | p :: ps, e :: es => chkP c p e && chkPs c ps es
  | _, _ => false
end

mutual
def chkE (c : Ck) : CE → Expr → Bool
  | .var i, e => (match e with | .Name x _ => slotB c i x && visB c.sc x && plainN x | _ => false)
  | .con p, e => conE p e
  | .glo i, e => (match e with | .Name x _ => decide (c.con[i]? = some x) && glB c.sc x && plainN x && !(x == ("" : Str)) | _ => false)
  | .tup es, e => (match e with | .Tuple es' _ _ => es'.all nst && chkEs c es es' | _ => false)
  | .lst es, e => (match e with | .List es' _ => es'.all nst && chkEs c es es' | _ => false)
  | .newl es, e => (match e with | .List es' _ => es'.all nst && chkEs c es es' | _ => false)
  | .newd ks vs, e => (match e with | .Dict [] [] _ => ks.isEmpty && vs.isEmpty | _ => false)
  | .bin op a b, e => (match e with | .BinOp a' op' b' _ => decide (op' = pyB op) && chkE c a a' && chkE c b b' | _ => false)
  | .cmp op a b, e => (match e with | .Compare a' [op'] [b'] _ => decide (op' = pyC op) && nset b' && chkE c a a' && chkE c b b' | _ => false)
  | .chain op op2 a b d, e => (match e with | .Compare a' [op', op2'] [b', d'] _ => decide (op' = pyC op) && decide (op2' = pyC op2) && nset d' && chkE c a a' && chkE c b b' && chkE c d d' | _ => false)
  | .and a b, e => (match e with
    | .BoolOp .And (x :: y :: []) _ => chkE c a x && chkE c b y
    | .BoolOp .And (x :: y :: z :: r) pos => chkE c a x && chkE c b (.BoolOp .And (y :: z :: r) pos)
    | _ => false)
  | .or a b, e => (match e with
    | .BoolOp .Or (x :: y :: []) _ => chkE c a x && chkE c b y
    | .BoolOp .Or (x :: y :: z :: r) pos => chkE c a x && chkE c b (.BoolOp .Or (y :: z :: r) pos)
    | _ => false)
  | .not a, e => (match e with | .UnaryOp .Not a' _ => chkE c a a' | _ => false)
  | .ite d a b, e => (match e with | .IfExp d' a' b' _ => chkE c d d' && chkE c a a' && chkE c b b' | _ => false)
  | .isi a ks, e => (match e with
    | .Call (.Name f _) [a', .Name T _] [] _ => bltB c f "isinstance" && nst a' && chkE c a a' && (match ks with | [k] => decide (k < 5) && decide (T = Str.ofString (kName k)) && glB c.sc T | _ => false)
    | .Call (.Name f _) [a', .Tuple es _ _] [] _ => bltB c f "isinstance" && nst a' && chkE c a a' && kindNames ks es && decide (ks.length < 100) && ks.all fun k => glB c.sc (Str.ofString (kName k))
    | _ => false)
  | .isx a k, e => (match e with
    | .Call (.Name f _) [a', .Name T _] [] _ => c.hot && bltB c f "isinstance" && nst a' && chkE c a a' && (if k = 99 then bltB c T "ValueError" else excB c k T)
    | _ => false)
  | .call f args, e => (match e with | .Call (.Name x _) es [] _ => decide ((if c.hot then c.hfns else c.fns)[f]? = some x) && (!c.hot || !es.isEmpty) && !(x == ("" : Str)) && glB c.sc x && plainN x && es.all nst && chkEs c args es | _ => false)
  | .new k args, e => (match e with | .Call (.Name x _) es [] _ => !c.hot && decide (c.cls[k]? = some x) && !(x == ("" : Str)) && glB c.sc x && plainN x && es.all nst && chkEs c args es | _ => false)
  | .meth k f o args, e => (match e with | .Call (.Attribute o' m apos) es [] cpos => !c.hot && decide (c.mts[f]? = some (k, m)) && !(m == ("" : Str)) && nsup o' && es.all nst && decide (es.length < 28) && (apos.endLine == cpos.line) && chkE c o o' && chkEs c args es | _ => false)
  | .fld o f, e => (match e with | .Attribute o' y _ => !c.hot && decide (c.fld[f]? = some y) && !(y == ("" : Str)) && nsup o' && chkE c o o' | _ => false)
  | .b1 op a, e => (match op with
    | .neg => (match e with | .UnaryOp .USub a' _ => chkE c a a' | _ => false)
    | _ => (match e with | .Call (.Name x _) [a'] [] _ => b1Has op && (!c.hot || b1Hot op) && bltB c x (b1Name op) && nst a' && chkE c a a' | _ => false))
  | .b2 op a b, e => (match e with | .Call (.Name x _) [a', b'] [] _ => !c.hot && bltB c x (b2Name op) && nst a' && nst b' && chkE c a a' && chkE c b b' | _ => false)
  | .m op o args, e => (match e with | .Call (.Attribute o' name apos) es [] cpos => mHas op && decide (name = Str.ofString (mName op)) && nsup o' && es.all nst && decide (es.length < 28) && (apos.endLine == cpos.line) && chkE c o o' && chkEs c args es | _ => false)
  | .idx a i, e => (match e with | .Subscript a' i' _ => nslice i' && chkE c a a' && chkE c i i' | _ => false)
  | .sl a lo hi, e => (match e with | .Subscript a' (.Slice lo' hi' none _) _ => chkE c a a' && chkO c lo lo' && chkO c hi hi' | _ => false)
  | .rev a, e => (match e with | .Subscript a' (.Slice none none (some (.UnaryOp .USub (.Constant (.int 1) _ _) _)) _) _ => chkE c a a' | _ => false)
  | .comp _ elt p it cond, e => (match e with
    | .ListComp elt' [⟨tg, iter, ifs, k⟩] scope _ => !c.hot && decide (k = 0) && nset iter && blkC c.N c.sc scope (ownOf c p) && chkI c it tg iter && chkP (c.blk scope) p tg && chkC (c.blk scope) cond ifs && chkE (c.blk scope) elt elt'
    | _ => false)
  | .sortk a i key, e => (match e with
    | .Call (.Name x _) [a'] [⟨some kw, .Lambda ⟨[], [⟨y, _, _⟩], none, [], [], none, []⟩ body scope _, _⟩] _ => !c.hot && c.lam && decide (4 ≤ c.rm) && decide (kw = Str.ofString "key") && bltB c x "sorted" && nst a' && slotB c i y && lamPB c.sc scope y && chkE c a a' && chkE (c.lamb scope) key body
    | _ => false)
  | .sortf a f, e => (match e with
    | .Call (.Name x _) [a'] [⟨some kw, .Name g _, _⟩] _ => !c.hot && decide (2 ≤ c.rm) && decide (kw = Str.ofString "key") && bltB c x "sorted" && nst a' && decide (c.fns[f]? = some g) && !(g == ("" : Str)) && glB c.sc g && plainN g && chkE c a a'
    | _ => false)
def chkEs (c : Ck) : List CE → List Expr → Bool
  | [], [] => true
  | a :: as, e :: es => chkE c a e && chkEs c as es
  | _, _ => false
def chkO (c : Ck) : Option CE → Option Expr → Bool
  | none, none => true
  | some a, some e => chkE c a e
  | _, _ => false
def chkC (c : Ck) : Option CE → List Expr → Bool
  | none, [] => true
  | some a, [e] => chkE c a e
  | _, _ => false
def chkI (c : Ck) : CI → Expr → Expr → Bool
  | .seq e, _, iter => chkE c e iter
  | .rng1 a, _, iter => (match iter with | .Call (.Name x _) [a'] [] _ => bltB c x "range" && nst a' && chkE c a a' | _ => false)
  | .rng2 a b, _, iter => (match iter with | .Call (.Name x _) [a', b'] [] _ => bltB c x "range" && nst a' && nst b' && chkE c a a' && chkE c b b' | _ => false)
  | .rng3 a b d, _, iter => (match iter with | .Call (.Name x _) [a', b', d'] [] _ => bltB c x "range" && nst a' && nst b' && nst d' && chkE c a a' && chkE c b b' && chkE c d d' | _ => false)
  | .enum a, tg, iter => (match iter with | .Call (.Name x _) [a'] [] _ => isTupE tg && bltB c x "enumerate" && nst a' && chkE c a a' | _ => false)
  | .zip a b, tg, iter => (match iter with | .Call (.Name x _) [a', b'] [] _ => isTupE tg && bltB c x "zip" && nst a' && nst b' && chkE c a a' && chkE c b b' | _ => false)
end
end NR

/-! NR4b: statements checked. -/
namespace NR
open PySem L2
open PySem.Spec PyProof.Rows RZ

def blockK (sc : Scope) : ScopeKind := if sc.kind.isAnnotationScope then .function else sc.kind
/-- does the value's own store take the name -/
def swapB (sc : Scope) (value : Expr) (t : Str) (tpos : Pos) : Bool := match value with
  | .ListComp _ _ s pos => blockK sc == .function && sc.names.lookup t == some .local && tpos.line == pos.line && !(s.names.any fun (n, k) => n == t && (k == .local || k == .cell))
  | .SetComp .. => false
  | .DictComp .. => false
  | _ => false
def nodisp : Expr → Bool
  | .SetComp .. => false
  | .DictComp .. => false
  | _ => true
theorem swapB_eq {a : Expr} {x : Str} {px : Pos} {l : Nat} {env : Env} (hn : nodisp a = true) : swapsWith a (some (.Name x px)) l env = pure (swapB env.scope a x px) := by
  cases a <;> first | rfl | (cases hn; done)
/-- the names to which a written tuple goes from the right -/
def swapM (sc : Scope) (ts vs : List Expr) : Option (Option (List Str)) :=
  if (!(ts.length == 2 || ts.length == 3) || vs.length != ts.length || blockK sc != .function) = true then some none
  else if (vs.any fun | .Starred .. => true | _ => false) = true then some none
  else
    let line := (ts.head?.map (·.pos.line)).getD 0
    let names := ts.filterMap fun
      | .Name id pos => if sc.names.lookup id == some .local && pos.line == line then some id else none
      | _ => none
    if (names.length != ts.length || names.eraseDups.length != names.length) = true then some none
    else if vs.all (foldedForSure 8) = true then some none
    else if vs.all (constantsAlone 8) = true then none
    else some (some names)
theorem swapM_eq {ts vs : List Expr} {k k2 : Nat} {p p2 : Pos} {env : Env} {r : Option (List Str)} (h : swapM env.scope ts vs = some r) : swappedStores [.Tuple ts k p] (.Tuple vs k2 p2) env = pure r := by
  unfold swapM at h
  unfold swappedStores
  have hb : env.blockKind = blockK env.scope := rfl
  have hk : ∀ x, env.kindOf x = env.scope.names.lookup x := fun _ => rfl
  simp only [hb, hk]
  split at h
  · rename_i e
    cases h
    exact if_pos e
  · rename_i e
    refine (if_neg e).trans ?_
    split at h
    · rename_i e
      cases h
      exact if_pos e
    · rename_i e
      refine (if_neg e).trans ?_
      dsimp only at h
      split at h
      · rename_i e
        cases h
        exact if_pos e
      · rename_i e
        refine (if_neg e).trans ?_
        split at h
        · rename_i e
          cases h
          exact if_pos e
        · rename_i e
          refine (if_neg e).trans ?_
          split at h
          · cases h
          · rename_i e
            cases h
            exact if_neg e
def ntup : Expr → Bool
  | .Tuple .. => false
  | _ => true
theorem swap_none {t a : Expr} {env : Env} (h : ntup a = true) : swappedStores [t] a env = pure none := by
  unfold swappedStores
  cases a <;> first | (cases h; done) | skip
  all_goals (cases t <;> rfl)
theorem swapSole_tup {ts : List Expr} {k : Nat} {p : Pos} {a : Expr} {l : Nat} {env : Env} (hn : nodisp a = true) : swapsWithSole [.Tuple ts k p] a l env = pure false := by
  show swapsWith a (some (.Tuple ts k p)) l env = pure false
  cases a <;> first | rfl | (cases hn; done)

/-- an except suite of one statement: the value is handed back, or named -/
def chkX (c : Ck) (goal : Option Nat) (e : CE) (ss : List Stmt) : Bool := match ss with
  | [.Return (some e') _] => goal.isNone && chkE c e e'
  | [.Assign [.Name y py] e' _] => nodisp e' && chkE c e e' && (match goal with | some j => slotB c j y && !swapB c.sc e' y py && locB c y | none => false)
  | _ => false
def chkFs (c : Ck) (o : CE) : List Nat → List Expr → Bool
  | [], [] => true
  | f :: fs, .Attribute o' y _ :: ts => decide (c.fld[f]? = some y) && !(y == ("" : Str)) && chkE c o o' && chkFs c o fs ts
  | _, _ => false
def chkN (c : Ck) (slot : Option Nat) (nm : Option Str) : Bool := match slot, nm with
  | none, none => true
  | some i, some x => slotB c i x && (c.sc.names.lookup x == some .local)
  | _, _ => false
def exnB (c : Ck) (d : Nat) : Bool := match c.exn[d]? with
  | some y => !(y == ("" : Str))
  | none => false
mutual
def chkS (c : Ck) : CS → Stmt → Bool
  | .pass, s => (match s with | .Pass _ => true | .Expr (.Constant (.str _) _ _) _ => true | _ => false)
  | .expr e, s => (match s with | .Expr e' _ => ncomp e' && chkE c e e' | _ => false)
  | .asg p e, s => (match s with
    | .Assign [.Name x px] a _ => nodisp a && chkE c e a && (match p with
      | .v i => slotB c i x && (if swapB c.sc a x px then !c.hot && (c.sc.names.lookup x == some .local) && (match e with | .comp .. => true | _ => false) else locB c x)
      | _ => false)
    | .Assign [.Tuple ts _ _] a _ => nodisp a && chkE c e a && (match a with
      | .Tuple vs _ _ => (match swapM c.sc ts vs with
        | some none => chkP c p (.Tuple ts 0 ⟨0, 0, 0, 0⟩)
        | some (some _) => (match p, e, ts, vs with
          | .t [.v i, .v j], .tup [_, _], [.Name x _, .Name y _], [_, _] => !c.hot && slotB c i x && slotB c j y && decide (i ≠ j) && (c.sc.names.lookup x == some .local) && (c.sc.names.lookup y == some .local) && decide (swapM c.sc ts vs = some (some [x, y]))
          | .t [.v i, .v j, .v l], .tup [_, _, _], [.Name x _, .Name y _, .Name z _], [_, _, _] => !c.hot && slotB c i x && slotB c j y && slotB c l z && decide (i ≠ j) && decide (i ≠ l) && decide (j ≠ l) && (c.sc.names.lookup x == some .local) && (c.sc.names.lookup y == some .local) && (c.sc.names.lookup z == some .local) && decide (swapM c.sc ts vs = some (some [x, y, z]))
          | _, _, _, _ => false)
        | none => false)
      | _ => chkP c p (.Tuple ts 0 ⟨0, 0, 0, 0⟩))
    | _ => false)
  | .sub d i v, s => (match s with | .Assign [.Subscript d' i' _] v' _ => ncomp v' && nslice i' && chkE c d d' && chkE c i i' && chkE c v v' | _ => false)
  | .sfld o f v, s => (match s with | .Assign [.Attribute o' y _] v' _ => !c.hot && nodisp v' && decide (c.fld[f]? = some y) && !(y == ("" : Str)) && chkE c o o' && chkE c v v' | _ => false)
  | .tfld o fs v, s => (match s with | .Assign [.Tuple ts _ _] v' _ => !c.hot && ntup v' && nodisp v' && chkFs c o fs ts && chkE c v v' | _ => false)
  | .ite e a b, s => (match s with | .If e' a' b' _ => chkE c e e' && chkSs c a a' && chkSs c b b' | _ => false)
  | .forr p it body, s => (match s with | .For tg iter body' [] _ => !c.hot && nset iter && chkI c it tg iter && chkP c p tg && chkSs c body body' | _ => false)
  | .ret e, s => (match s with | .Return (some e') _ => chkE c e e' | _ => false)
  | .retn, s => (match s with | .Return none _ => true | _ => false)
  | .raise k, s => (match s with | .Raise (some (.Call (.Name x _) [.Constant (.str _) _ _] [] _)) none _ => !c.hot && excB c k x | _ => false)
  | .tryy body k slot goal e ds, s => (match s with
    | .Try body' [.ExceptHandler (some (.Name x _)) nm (b₀ :: suite) _] [] [] _ => !c.hot && decide (2 ≤ c.rm) && excB c k x && chkN c slot nm && ds.all (exnB c) && chkSs c body body' && chkX { c with hot := true } goal e (b₀ :: suite)
    | _ => false)
  | .stop, _ => true
def chkSs (c : Ck) : List CS → List Stmt → Bool
  | [], [] => true
  | a :: as, s :: ss => chkS c a s && chkSs c as ss
  | _, _ => false
end
end NR

/-! NR5: what is checked is so: expressions. -/
namespace NR
open PySem L2
open PySem.Spec PyProof.Rows RZ

/-- the classes of the text -/
structure ObjI (G : Gi) (P : Prog) (cs : CallS) (c : Ck) (X : Cx) (lv : Nat) : Prop where
  nm : NamesApart G
  fl : ∀ (f : Nat) (y : Str), c.fld[f]? = some y → y ≠ "" → G.fN f = y ∧ ∀ k, Cls X.K (G.cA k) ∧ NoAttr X.K (G.cA k) y
  mt : ∀ (i k : Nat) (m : Str), c.mts[i]? = some (k, m) → m ≠ "" → (∀ g, G.fN g ≠ m) ∧ ∃ kk f fd ps, kk + c.rm ≤ lv ∧ Meth X.K (G.cA k) m f ∧ Cls X.K (G.cA k) ∧ Binds X.K fd ps [] ∧ FnOk X.prog X.w X.K X.mg X.base (L2.CX X.prog X.w) kk f fd ps (spOf G cs i)
  mkc : ∀ (k : Nat) (x : Str), c.cls[k]? = some x → x ≠ "" → ∃ cd kk f fd ps, P.classes[k]? = some cd ∧ kk + 1 + c.rm ≤ lv ∧ X.mg x = some (.ref (G.cA k)) ∧ Mk X.K (G.cA k) f ∧ Binds X.K fd ps [] ∧ FnOk X.prog X.w X.K X.mg X.base (L2.CX X.prog X.w) kk f fd ps (spOf G cs cd.init)
structure Ok (G : Gi) (P : Prog) (cs : CallS) (W : WX) (eh : List (Addr × Nat)) (c : Ck) (X : Cx) : Prop where
  hK : X.K = G.K
  hN : X.N = c.N
  nd : X.N.Nodup
  sc : X.env.scope = c.sc
  fn : X.fn = c.fn
  calm : c.hot = false → X.calm = true
  hu : X.A.units + 70 < cLine
  tk : Takes X W
  con : ∀ (i : Nat) (x : Str), c.con[i]? = some x → x ≠ "" → ∃ p v u, P.consts[i]? = some p ∧ X.mg x = some u ∧ RelV v u ∧ Always G p v
  blt : ∀ x ∈ bltN, X.mg x = none
  rooms : c.hot = false → ∃ lv, Room lv X.A ∧ c.rm ≤ lv ∧ ObjI G P cs c X lv ∧ ∀ (i : Nat) (x : Str), c.fns[i]? = some x → x ≠ "" → ∃ k f fd ps, k + c.rm ≤ lv ∧ X.mg x = some (.ref f) ∧ PySem.W.keepIn X.K (.ref f) = true ∧ Binds X.K fd ps [] ∧ FnOk X.prog X.w X.K X.mg X.base (L2.CX X.prog X.w) k f fd ps (spOf G cs i)
  tab : c.lam = true → TabOk X G
  exc : ExcOk G P X.K X.mg c.exn
  hx : c.hot = true → W = W0 ∧ HotOk X G c.exn eh ∧ ∃ p, eh = [p]
  hroom : c.hot = true → c.hfns = [] ∨ L2H.RoomH 2 X.A
  hots : ∀ (i : Nat) (x : Str), c.hfns[i]? = some x → x ≠ "" → FnAtH X G c.exn cs x i
section
variable {G : Gi} {P : Prog} {cs : CallS} {W : WX} {c : Ck} {X : Cx} {eh : List (Addr × Nat)}
theorem Ok.fns (o : Ok G P cs W eh c X) (ho : c.hot = false) (i : Nat) (x : Str) (h : c.fns[i]? = some x) (hx : x ≠ "") : FnAt X x (spOf G cs i) := by
  obtain ⟨lv, hr, _, _, hf⟩ := o.rooms ho
  obtain ⟨k, f, fd, ps, hk, a1, a2, a3, a4⟩ := hf i x h hx
  exact ⟨k, f, fd, ps, hr.mono (by omega), a1, a2, a3, a4⟩
theorem Ok.slot (o : Ok G P cs W eh c X) {i : Nat} {x : Str} (h : slotB c i x = true) : X.N[i]? = some x := by
  rw [o.hN]; exact of_decide_eq_true h
theorem Ok.vis (o : Ok G P cs W eh c X) {x : Str} (h : visB c.sc x = true) : Vis X.env.scope x := by
  rw [o.sc]; exact visB_of h
theorem Ok.loc (o : Ok G P cs W eh c X) {x : Str} (h : locB c x = true) : Loc X.env.scope x ∧ (X.fn x = true ∨ X.env.scope.names.lookup x = some .local) := by
  rw [o.sc, o.fn]; exact locB_of h
theorem Ok.gl (o : Ok G P cs W eh c X) {x : Str} (h : glB c.sc x = true) : Gl X x := by
  show X.env.scope.names.lookup x = _
  rw [o.sc]; exact glB_of h
theorem Ok.bltn (o : Ok G P cs W eh c X) {x : Str} {s : String} (h : bltB c x s = true) (hs : Str.ofString s ∈ bltN) : x = Str.ofString s ∧ Gl X (Str.ofString s) ∧ X.mg (Str.ofString s) = none := by
  unfold bltB at h
  simp only [Bool.and_eq_true, decide_eq_true_eq] at h
  obtain ⟨rfl, h2⟩ := h
  exact ⟨rfl, o.gl h2, o.blt _ hs⟩
theorem relabel_eq (scope : Scope) (env : Env) : relabel scope env = relabelS scope env.scope := rfl
theorem Ok.blk (o : Ok G P cs W eh c X) (ho : c.hot = false) (scope : Scope) (s : Shared) (H : Hp) (C : Addr) (cl : List (Str × Addr)) (fp : List Addr) : Ok G P cs W0 eh (c.blk scope) (X.blk s H scope (compEnvC scope cl C X.env) fp) := by
  refine ⟨o.hK, o.hN, o.nd, ?_, rfl, o.calm, o.hu, takes0, o.con, o.blt, (fun h => let ⟨lv, hr, hl, oi, hf⟩ := o.rooms h; ⟨lv, hr, hl, ⟨oi.nm, oi.fl, oi.mt, oi.mkc⟩, hf⟩), (fun z => Bool.noConfusion (show false = true from z)), o.exc, fun z => absurd (show c.hot = true from z) (by rw [ho]; decide), fun z => absurd (show c.hot = true from z) (by rw [ho]; decide), o.hots⟩
  show relabel scope X.env = relabelS scope c.sc
  rw [relabel_eq, o.sc]
theorem Ok.lamb (o : Ok G P cs W eh c X) (ho : c.hot = false) (h4 : 4 ≤ c.rm) {scope : Scope} {lv : Nat} (hr : Room lv X.A) (hlv : c.rm ≤ lv) (hf : ∀ (i : Nat) (x : Str), c.fns[i]? = some x → x ≠ "" → ∃ k f fd ps, k + c.rm ≤ lv ∧ X.mg x = some (.ref f) ∧ PySem.W.keepIn X.K (.ref f) = true ∧ Binds X.K fd ps [] ∧ FnOk X.prog X.w X.K X.mg X.base (L2.CX X.prog X.w) k f fd ps (spOf G cs i))
    (oi : ObjI G P cs c X lv) (A : Around) (outer : List Env) (s : Shared) (H : Hp) (f c' : Addr) (hA : Room (lv - 3) (A.deeper (LamX.lamEnv X scope s.heap.objs.size f c'))) : Ok G P cs W0 eh (c.lamb scope) (LamX.lamCx X A outer s H (fun _ _ _ => False) scope f c') := by
  refine ⟨o.hK, o.hN, o.nd, rfl, rfl, fun _ => rfl, ?_, takes0, o.con, o.blt, fun _ => ⟨lv - 3, hA, ?_, ⟨oi.nm, oi.fl, fun i k m hm hne => ?_, fun k x hx hne => ?_⟩, fun i x hx hne => ?_⟩, (fun z => Bool.noConfusion (show false = true from z)), o.exc, fun z => absurd (show c.hot = true from z) (by rw [ho]; decide), fun z => absurd (show c.hot = true from z) (by rw [ho]; decide), o.hots⟩
  · have := hA.un
    show (A.deeper (LamX.lamEnv X scope s.heap.objs.size f c')).units + 70 < cLine
    omega
  · show c.rm - 4 ≤ lv - 3
    omega
  · obtain ⟨a0, kk, f, fd, ps, hk, a⟩ := oi.mt i k m hm hne
    exact ⟨a0, kk, f, fd, ps, by show kk + (c.rm - 4) ≤ lv - 3; omega, a⟩
  · obtain ⟨cd, kk, f, fd, ps, a0, hk, a⟩ := oi.mkc k x hx hne
    exact ⟨cd, kk, f, fd, ps, a0, by show kk + 1 + (c.rm - 4) ≤ lv - 3; omega, a⟩
  · obtain ⟨k, g, fd, ps, hk, a⟩ := hf i x hx hne
    exact ⟨k, g, fd, ps, by show k + (c.rm - 4) ≤ lv - 3; omega, a⟩
/-- built-in names -/
theorem kindT (o : Ok G P cs W eh c X) : ∀ k, k < 5 → glB c.sc (Str.ofString (kName k)) = true → Gl X (Str.ofString (kName k)) ∧ X.mg (Str.ofString (kName k)) = none ∧ bootBuiltins (Str.ofString (kName k)) = some (.type (kName k)) ∧ (Str.ofString (kName k)) ≠ "__name__" ∧ ((Str.ofString (kName k)) == ("__debug__" : Str)) = false
  | 0, _, h => ⟨o.gl h, o.blt _ (by decide), boot_str, by decide, by decide⟩
  | 1, _, h => ⟨o.gl h, o.blt _ (by decide), boot_int, by decide, by decide⟩
  | 2, _, h => ⟨o.gl h, o.blt _ (by decide), boot_bool, by decide, by decide⟩
  | 3, _, h => ⟨o.gl h, o.blt _ (by decide), boot_tuple, by decide, by decide⟩
  | 4, _, h => ⟨o.gl h, o.blt _ (by decide), boot_list, by decide, by decide⟩
  | _ + 5, h, _ => by omega
def isBoolE : Expr → Prop
  | .BoolOp .. => True
  | _ => False
/-- as a value, as a test, as a test whatever its whole is -/
structure Snd (G : Gi) (P : Prog) (cs : CallS) (W : WX) (eh : List (Addr × Nat)) (X : Cx) (e : Expr) (ce : CE) : Prop where
  val : PE X e (tV G eh W P cs ce)
  tst : PT X e (tVt G eh W P cs ce)
  who : isBoolE e → PW X e (tVt G eh W P cs ce)
theorem Snd.of {e : Expr} {ce : CE} (o : Ok G P cs W eh c X) (hp : plainTest e = true) (h : PE X e (tV G eh W P cs ce)) : Snd G P cs W eh X e ce :=
  ⟨h, t_plain o.hK hp h, fun hb => by cases e <;> first | exact hb.elim | (cases hp; done)⟩
theorem t_ite {a b d : Expr} {ca cb cd : CE} {pos : Pos} (hd : PT X d (tVt G eh W P cs cd)) (ha : PT X a (tVt G eh W P cs ca)) (hb : PT X b (tVt G eh W P cs cb)) : PT X (.IfExp d a b pos) (tVt G eh W P cs (.ite cd ca cb)) := by
  refine ⟨fun pins s σ H Q I q => ?_⟩
  obtain ⟨F, am, env, μ, st, en, h⟩ := tVt.out q
  have e1 : evT P cs (.ite cd ca cb) env μ = (evT P cs cd env μ).bind fun k μ => if k = true then evT P cs ca env μ else evT P cs cb env μ := by
    rw [evT, evT_ite, R.bind_assoc]
    congr 1
    funext k μ
    cases k <;> rfl
  rw [e1] at h
  have e2 : isTrue (.IfExp d a b pos) X.env (eval (.IfExp d a b pos) X.env) = (do if ← isTrue d X.env (eval d X.env) then isTrue a X.env (eval a X.env) else isTrue b X.env (eval b X.env)) := rfl
  rw [e2]
  refine wpAny_bind (thn (hd.run pins s σ H _ I (tVt.go (Q := fun k H1 => if k = true then tVt G eh W P cs ca σ H1 Q else tVt G eh W P cs cb σ H1 Q) st en h fun k μ1 F1 H1 am1 x1 s1 en1 h1 => ?_)) fun k s1 ⟨H1, I1, q1⟩ => ?_)
  · cases k with
    | true => rw [if_pos rfl] at h1 ⊢; exact ⟨F1, am1, env, μ1, s1, en1, h1⟩
    | false => rw [if_neg (by decide)] at h1 ⊢; exact ⟨F1, am1, env, μ1, s1, en1, h1⟩
  · cases k with
    | true => rw [if_pos rfl] at q1; exact ha.run pins s1 σ H1 Q I1 q1
    | false => rw [if_neg (by decide)] at q1; exact hb.run pins s1 σ H1 Q I1 q1
theorem okTxt_of {s : List Nat} (h : s.all (· < 0x110000) = true) : okTxt s := fun c hc => by
  rw [List.all_eq_true] at h
  simpa using h c hc
theorem con_ok {p : PV} {e : Expr} (h : conE p e = true) : ∃ v, PE X e (tC v) ∧ Always G p v := by
  unfold conE at h
  split at h
  · exact ⟨_, pe_non, fun _ _ _ => .non⟩
  · rw [beq_iff_eq] at h
    subst h
    exact ⟨_, pe_bl, fun _ _ _ => .bl _⟩
  · have h := of_decide_eq_true h
    subst h
    exact ⟨_, pe_int, fun _ _ _ => .int _⟩
  · simp only [Bool.and_eq_true, decide_eq_true_eq] at h
    obtain ⟨h1, h2⟩ := h
    rename_i s x _ _
    have : x = mkT s := by
      cases x
      simp at h1
      subst h1
      simp [mkT]
    subst this
    exact ⟨_, pe_str, fun _ _ _ => .str s (okTxt_of h2)⟩
  · cases h
end
section
variable {G : Gi} {P : Prog} {cs : CallS} {eh : List (Addr × Nat)}
mutual
theorem chkP_ok : ∀ {p : Pat} {W : WX} {c : Ck} {X : Cx} {e : Expr}, Ok G P cs W eh c X → chkP c p e = true → PG X e (gP G eh p)
  | .v i, W, c, X, e, o, h => by
    cases e <;> first | (simp [chkP] at h; done) | skip
    simp only [chkP, Bool.and_eq_true] at h
    obtain ⟨l1, l2⟩ := o.loc h.2
    exact g_v o.nd (o.slot h.1) l1 l2
  | .t ps, W, c, X, e, o, h => by
    cases e <;> first | (simp [chkP] at h; done) | skip
    simp only [chkP, Bool.and_eq_true, decide_eq_true_eq, Bool.not_eq_true'] at h
    exact g_t o.hK (o.calm h.1.1.1) h.1.1.2 h.1.2 (chkPs_ok o h.1.1.2 h.2)
theorem chkPs_ok : ∀ {ps : List Pat} {W : WX} {c : Ck} {X : Cx} {es : List Expr}, Ok G P cs W eh c X → es.all nst = true → chkPs c ps es = true → PGs X es (gPs G eh ps)
  | [], W, c, X, es, o, hn, h => by
    cases es <;> first | (simp [chkPs] at h; done) | skip
    exact gs_nil
  | p :: ps, W, c, X, es, o, hn, h => by
    cases es <;> first | (simp [chkPs] at h; done) | skip
    simp only [chkPs, Bool.and_eq_true] at h
    simp only [List.all_cons, Bool.and_eq_true] at hn
    exact gs_cons hn.1 (chkP_ok o h.1) (chkPs_ok o hn.2 h.2)
end

theorem b1_ok {W : WX} {c : Ck} {X : Cx} (o : Ok G P cs W eh c X) {op : B1} {x : Str} {p pos : Pos} {a : Expr} {ca : CE} (h1 : b1Has op = true) (h0 : (!c.hot || b1Hot op) = true) (h2 : bltB c x (b1Name op) = true) (h3 : nst a = true) (ha : PE X a (tV G eh W P cs ca)) :
    PE X (.Call (.Name x p) [a] [] pos) (tV G eh W P cs (.b1 op ca)) := by
  have hc : b1Hot op = false → X.calm = true := fun e => by
    rw [e, Bool.or_false, Bool.not_eq_true'] at h0
    exact o.calm h0
  cases op <;> first | (cases h1; done) | skip
  · obtain ⟨rfl, g, m⟩ := o.bltn h2 (by decide)
    exact r_b1 (op := .len) (c_len o.hK) g m boot_len (by decide) (by decide) h3 ha
  · obtain ⟨rfl, g, m⟩ := o.bltn h2 (by decide)
    exact r_b1 (op := .all) (c_all (hc rfl)) g m boot_all (by decide) (by decide) h3 ha
  · obtain ⟨rfl, g, m⟩ := o.bltn h2 (by decide)
    exact r_b1 (op := .any) (c_any (hc rfl)) g m boot_any (by decide) (by decide) h3 ha
  · obtain ⟨rfl, g, m⟩ := o.bltn h2 (by decide)
    exact r_b1T (op := .list) (c_list o.hK) g m boot_list (by decide) (by decide) h3 ha
  · obtain ⟨rfl, g, m⟩ := o.bltn h2 (by decide)
    exact r_b1T (op := .listc) (c_listc o.hK) g m boot_list (by decide) (by decide) h3 ha
  · obtain ⟨rfl, g, m⟩ := o.bltn h2 (by decide)
    exact r_b1T (op := .tuple) (c_tuple o.hK) g m boot_tuple (by decide) (by decide) h3 ha
  · obtain ⟨rfl, g, m⟩ := o.bltn h2 (by decide)
    exact r_b1 (op := .sorted) (c_sorted o.hK o.hu (hc rfl)) g m boot_sorted (by decide) (by decide) h3 ha
  · obtain ⟨rfl, g, m⟩ := o.bltn h2 (by decide)
    exact r_b1 (op := .sum) (c_sum (hc rfl)) g m boot_sum (by decide) (by decide) h3 ha
  · obtain ⟨rfl, g, m⟩ := o.bltn h2 (by decide)
    exact r_b1T (op := .str) c_str g m boot_str (by decide) (by decide) h3 ha
  · obtain ⟨rfl, g, m⟩ := o.bltn h2 (by decide)
    exact r_b1T (op := .int) c_int g m boot_int (by decide) (by decide) h3 ha
theorem b2_ok {W : WX} {c : Ck} {X : Cx} (o : Ok G P cs W eh c X) {op : B2} {x : Str} {p pos : Pos} {a b : Expr} {ca cb : CE} (h0 : c.hot = false) (h2 : bltB c x (b2Name op) = true) (h3 : nst a = true) (h4 : nst b = true) (ha : PE X a (tV G eh W P cs ca)) (hb : PE X b (tV G eh W P cs cb)) :
    PE X (.Call (.Name x p) [a, b] [] pos) (tV G eh W P cs (.b2 op ca cb)) := by
  cases op
  · obtain ⟨rfl, g, m⟩ := o.bltn h2 (by decide)
    exact r_b2 (op := .max) (c_max2 (o.calm h0)) g m boot_max (by decide) (by decide) h3 h4 ha hb
  · obtain ⟨rfl, g, m⟩ := o.bltn h2 (by decide)
    exact r_b2 (op := .min) (c_min2 (o.calm h0)) g m boot_min (by decide) (by decide) h3 h4 ha hb
theorem m_ok {W : WX} {c : Ck} {X : Cx} (o : Ok G P cs W eh c X) {op : MOp} {ob e : Expr} {es : List Expr} {co : CE} {cl : List CE} {apos cpos : Pos} (h0 : mHas op = true) (hs : nsup ob = true) (h1 : nst e = true) (h2 : es.all nst = true) (h3 : es.length < 28) (hline : (apos.endLine == cpos.line) = true)
    (ho : PE X ob (tV G eh W P cs co)) (ha : PA X (e :: es) (tVs G eh W P cs cl)) : PE X (.Call (.Attribute ob (Str.ofString (mName op)) apos) (e :: es) [] cpos) (tV G eh W P cs (.m op co cl)) := by
  cases op <;> first | (cases h0; done) | skip
  · exact r_m o.hK PySem.F.plainAttrs_str PySem.F.slot_str_split PySem.F.type_str_split m_split hs h1 h2 h3 hline ho ha
  · exact r_m o.hK PySem.F.plainAttrs_str PySem.F.slot_str_join PySem.F.type_str_join (m_join o.hK) hs h1 h2 h3 hline ho ha
  · exact r_m o.hK PySem.F.plainAttrs_str PySem.F.slot_str_endswith PySem.F.type_str_endswith m_ends hs h1 h2 h3 hline ho ha
  · exact r_m o.hK PySem.F.plainAttrs_str PySem.F.slot_str_startswith PySem.F.type_str_startswith m_starts hs h1 h2 h3 hline ho ha
  · exact r_m o.hK PySem.F.plainAttrs_str PySem.F.slot_str_partition PySem.F.type_str_partition m_part hs h1 h2 h3 hline ho ha
  · exact r_m o.hK PySem.F.plainAttrs_list PySem.F.slot_list_count PySem.F.type_list_count (m_count o.hK o.hu) hs h1 h2 h3 hline ho ha
  · exact r_m o.hK PySem.F.plainAttrs_list PySem.F.slot_list_index PySem.F.type_list_index (m_index o.hK (by have := o.hu; omega)) hs h1 h2 h3 hline ho ha
  · exact r_m o.hK PySem.F.plainAttrs_list PySem.F.slot_list_append PySem.F.type_list_append m_append hs h1 h2 h3 hline ho ha
  · exact r_m o.hK PySem.F.plainAttrs_list PySem.F.slot_list_extend PySem.F.type_list_extend m_extend hs h1 h2 h3 hline ho ha
  · exact r_m o.hK PySem.F.plainAttrs_list PySem.F.slot_list_pop PySem.F.type_list_pop m_pop hs h1 h2 h3 hline ho ha
  · exact r_m o.hK PySem.F.plainAttrs_list PySem.F.slot_list_remove PySem.F.type_list_remove (m_remove o.hK o.hu) hs h1 h2 h3 hline ho ha
  · exact r_m o.hK PySem.F.plainAttrs_dict PySem.F.slot_dict_get PySem.F.type_dict_get (m_get (by have := o.hu; omega)) hs h1 h2 h3 hline ho ha
/-- none of them goes without an argument, but pop -/
theorem m_nil {W : WX} {c : Ck} {X : Cx} (o : Ok G P cs W eh c X) {op : MOp} {ob : Expr} {co : CE} {apos cpos : Pos} (h0 : mHas op = true) (hs : nsup ob = true) (hline : (apos.endLine == cpos.line) = true)
    (ho : PE X ob (tV G eh W P cs co)) : PE X (.Call (.Attribute ob (Str.ofString (mName op)) apos) [] [] cpos) (tV G eh W P cs (.m op co [])) := by
  cases op <;> first | (cases h0; done) | skip
  · exact r_m0 o.hK PySem.F.plainAttrs_str PySem.F.slot_str_split PySem.F.type_str_split m_split hs hline ho
  · exact r_m0 o.hK PySem.F.plainAttrs_str PySem.F.slot_str_join PySem.F.type_str_join (m_join o.hK) hs hline ho
  · exact r_m0 o.hK PySem.F.plainAttrs_str PySem.F.slot_str_endswith PySem.F.type_str_endswith m_ends hs hline ho
  · exact r_m0 o.hK PySem.F.plainAttrs_str PySem.F.slot_str_startswith PySem.F.type_str_startswith m_starts hs hline ho
  · exact r_m0 o.hK PySem.F.plainAttrs_str PySem.F.slot_str_partition PySem.F.type_str_partition m_part hs hline ho
  · exact r_m0 o.hK PySem.F.plainAttrs_list PySem.F.slot_list_count PySem.F.type_list_count (m_count o.hK o.hu) hs hline ho
  · exact r_m0 o.hK PySem.F.plainAttrs_list PySem.F.slot_list_index PySem.F.type_list_index (m_index o.hK (by have := o.hu; omega)) hs hline ho
  · exact r_m0 o.hK PySem.F.plainAttrs_list PySem.F.slot_list_append PySem.F.type_list_append m_append hs hline ho
  · exact r_m0 o.hK PySem.F.plainAttrs_list PySem.F.slot_list_extend PySem.F.type_list_extend m_extend hs hline ho
  · exact r_m0 o.hK PySem.F.plainAttrs_list PySem.F.slot_list_pop PySem.F.type_list_pop m_pop hs hline ho
  · exact r_m0 o.hK PySem.F.plainAttrs_list PySem.F.slot_list_remove PySem.F.type_list_remove (m_remove o.hK o.hu) hs hline ho
  · exact r_m0 o.hK PySem.F.plainAttrs_dict PySem.F.slot_dict_get PySem.F.type_dict_get (m_get (by have := o.hu; omega)) hs hline ho
theorem call_any {W : WX} {c : Ck} {X : Cx} (o : Ok G P cs W eh c X) {x : Str} {p pos : Pos} {es : List Expr} {f : Nat} {args : List CE} (hf : FnAt X x (spOf G cs f)) (hg : Gl X x) (hd : (x == ("__debug__" : Str)) = false) (hn : es.all nst = true) (h : chkEs c args es = true) (ha : PA X es (tVs G eh W P cs args)) :
    PE X (.Call (.Name x p) es [] pos) (tV G eh W P cs (.call f args)) := by
  cases es with
  | nil =>
    cases args with
    | nil => exact r_call0 o.tk hf hg hd
    | cons _ _ => simp [chkEs] at h
  | cons e1 es =>
    simp only [List.all_cons, Bool.and_eq_true] at hn
    exact r_call o.tk hf hg hd hn.1 hn.2 ha
theorem m_any {W : WX} {c : Ck} {X : Cx} (o : Ok G P cs W eh c X) {op : MOp} {ob : Expr} {es : List Expr} {co : CE} {args : List CE} {apos cpos : Pos} (h0 : mHas op = true) (hs : nsup ob = true) (hn : es.all nst = true) (h3 : es.length < 28) (hline : (apos.endLine == cpos.line) = true) (h : chkEs c args es = true)
    (ho : PE X ob (tV G eh W P cs co)) (ha : PA X es (tVs G eh W P cs args)) : PE X (.Call (.Attribute ob (Str.ofString (mName op)) apos) es [] cpos) (tV G eh W P cs (.m op co args)) := by
  cases es with
  | nil =>
    cases args with
    | cons _ _ => simp [chkEs] at h
    | nil => exact m_nil o h0 hs hline ho
  | cons e1 es =>
    simp only [List.all_cons, Bool.and_eq_true] at hn
    exact m_ok o h0 hs hn.1 hn.2 (by simp at h3; omega) hline ho ha
mutual
theorem chkE_ok : ∀ {ce : CE} {W : WX} {c : Ck} {X : Cx} {e : Expr}, Ok G P cs W eh c X → chkE c ce e = true → Snd G P cs W eh X e ce
  | .var i, W, c, X, e, o, h => by
    cases e <;> first | (simp [chkE] at h; done) | skip
    simp only [chkE, Bool.and_eq_true] at h
    obtain ⟨n1, n2, n3⟩ := plainN_of h.2
    exact .of o rfl (r_var (o.slot h.1.1) (o.vis h.1.2) n1 n2)
  | .con p, W, c, X, e, o, h => by
    obtain ⟨v, h1, h2⟩ := con_ok (X := X) (G := G) (by simpa only [chkE] using h)
    refine .of o ?_ (r_con h1 h2)
    cases e <;> first | rfl | (unfold chkE at h; unfold conE at h; split at h <;> simp_all; done)
  | .glo i, W, c, X, e, o, h => by
    cases e <;> first | (simp [chkE] at h; done) | skip
    simp only [chkE, Bool.and_eq_true, decide_eq_true_eq, Bool.not_eq_true'] at h
    obtain ⟨n1, n2, n3⟩ := plainN_of h.1.2
    obtain ⟨p, v, u, hc, hm, hr, ha⟩ := o.con i _ h.1.1.1 (by simpa using h.2)
    exact .of o rfl (r_glo (pe_glob (o.gl h.1.1.2) hm hr n1) hc ha)
  | .tup es, W, c, X, e, o, h => by
    cases e <;> first | (simp [chkE] at h; done) | skip
    simp only [chkE, Bool.and_eq_true] at h
    exact .of o rfl (r_tup (chkEs_ok o h.1 h.2))
  | .lst es, W, c, X, e, o, h => by
    cases e <;> first | (simp [chkE] at h; done) | skip
    simp only [chkE, Bool.and_eq_true] at h
    exact .of o rfl (r_lst (chkEs_ok o h.1 h.2))
  | .newl es, W, c, X, e, o, h => by
    cases e <;> first | (simp [chkE] at h; done) | skip
    simp only [chkE, Bool.and_eq_true] at h
    exact .of o rfl (r_newl (chkEs_ok o h.1 h.2))
  | .newd ks vs, W, c, X, e, o, h => by
    simp only [chkE] at h
    split at h
    · simp only [Bool.and_eq_true, List.isEmpty_iff] at h
      obtain ⟨rfl, rfl⟩ := h
      exact .of o rfl r_newd0
    · cases h
  | .bin op a b, W, c, X, e, o, h => by
    cases e <;> first | (simp [chkE] at h; done) | skip
    simp only [chkE, Bool.and_eq_true, decide_eq_true_eq] at h
    obtain ⟨⟨rfl, h1⟩, h2⟩ := h
    exact .of o rfl (r_bin o.hK (chkE_ok o h1).val (chkE_ok o h2).val)
  | .cmp op a b, W, c, X, e, o, h => by
    simp only [chkE] at h
    split at h
    · simp only [Bool.and_eq_true, decide_eq_true_eq] at h
      obtain ⟨⟨⟨rfl, hn⟩, h1⟩, h2⟩ := h
      exact ⟨r_cmp o.hK (by have := o.hu; omega) hn (chkE_ok o h1).val (chkE_ok o h2).val, t_cmp o.hK (by have := o.hu; omega) hn (chkE_ok o h1).val (chkE_ok o h2).val, fun z => z.elim⟩
    · cases h
  | .chain op op2 a b d, W, c, X, e, o, h => by
    simp only [chkE] at h
    split at h
    · simp only [Bool.and_eq_true, decide_eq_true_eq] at h
      obtain ⟨⟨⟨⟨⟨rfl, rfl⟩, hn⟩, h1⟩, h2⟩, h3⟩ := h
      exact ⟨r_chain o.hK (by have := o.hu; omega) hn (chkE_ok o h1).val (chkE_ok o h2).val (chkE_ok o h3).val, t_chain o.hK (by have := o.hu; omega) hn (chkE_ok o h1).val (chkE_ok o h2).val (chkE_ok o h3).val, fun z => z.elim⟩
    · cases h
  | .and a b, W, c, X, e, o, h => by
    simp only [chkE] at h
    split at h
    · simp only [Bool.and_eq_true] at h
      have s1 := chkE_ok o h.1
      have s2 := chkE_ok o h.2
      have w := w_and (pos := ‹Pos›) s1.tst (pw_and1 s2.tst)
      exact ⟨r_and o.hK s1.val (pe_one s2.val), w.pt, fun _ => w⟩
    · simp only [Bool.and_eq_true] at h
      have s1 := chkE_ok o h.1
      have s2 := chkE_ok o h.2
      have w := w_and s1.tst (s2.who trivial)
      exact ⟨r_and o.hK s1.val s2.val, w.pt, fun _ => w⟩
    · cases h
  | .or a b, W, c, X, e, o, h => by
    simp only [chkE] at h
    split at h
    · simp only [Bool.and_eq_true] at h
      have s1 := chkE_ok o h.1
      have s2 := chkE_ok o h.2
      have w := w_or (pos := ‹Pos›) s1.tst (pw_or1 s2.tst)
      exact ⟨r_or o.hK s1.val (pe_one s2.val), w.pt, fun _ => w⟩
    · simp only [Bool.and_eq_true] at h
      have s1 := chkE_ok o h.1
      have s2 := chkE_ok o h.2
      have w := w_or s1.tst (s2.who trivial)
      exact ⟨r_or o.hK s1.val s2.val, w.pt, fun _ => w⟩
    · cases h
  | .not a, W, c, X, e, o, h => by
    simp only [chkE] at h
    split at h
    · have s1 := chkE_ok o h
      exact ⟨r_not o.hK s1.val, t_not s1.tst, fun z => z.elim⟩
    · cases h
  | .ite d a b, W, c, X, e, o, h => by
    cases e <;> first | (simp [chkE] at h; done) | skip
    simp only [chkE, Bool.and_eq_true] at h
    have s1 := chkE_ok o h.1.1
    have s2 := chkE_ok o h.1.2
    have s3 := chkE_ok o h.2
    exact ⟨r_ite s1.tst s2.val s3.val, t_ite s1.tst s2.tst s3.tst, fun z => z.elim⟩
  | .isi a ks, W, c, X, e, o, h => by
    simp only [chkE] at h
    split at h
    · simp only [Bool.and_eq_true] at h
      obtain ⟨⟨⟨h1, h2⟩, h3⟩, h4⟩ := h
      obtain ⟨rfl, g, m⟩ := o.bltn h1 (by decide)
      split at h4
      · simp only [Bool.and_eq_true, decide_eq_true_eq] at h4
        obtain ⟨⟨hk, rfl⟩, hgl⟩ := h4
        obtain ⟨k1, k2, k3, k4, k5⟩ := kindT o _ hk hgl
        exact .of o rfl (r_isi1 o.hK hk g m k1 k2 k3 k4 k5 h2 (chkE_ok o h3).val)
      · cases h4
    · simp only [Bool.and_eq_true, decide_eq_true_eq] at h
      obtain ⟨⟨⟨⟨⟨h1, h2⟩, h3⟩, h4⟩, h5⟩, h6⟩ := h
      obtain ⟨rfl, g, m⟩ := o.bltn h1 (by decide)
      have hk := kindNames_lt h4
      rw [List.all_eq_true] at hk h6
      exact .of o rfl (r_isiT o.hK h4 h5 g m (fun k hm => kindT o k (by simpa using hk k hm) (h6 k hm)) h2 (chkE_ok o h3).val)
    · cases h
  | .isx a k, W, c, X, e, o, h => by
    simp only [chkE] at h
    split at h
    · simp only [Bool.and_eq_true] at h
      obtain ⟨⟨⟨⟨h0, h1⟩, h2⟩, h3⟩, h4⟩ := h
      obtain ⟨rfl, g, m⟩ := o.bltn h1 (by decide)
      obtain ⟨rfl, hh, _⟩ := o.hx h0
      split at h4
      · rename_i hk
        subst hk
        obtain ⟨rfl, g2, m2⟩ := o.bltn h4 (by decide)
        refine .of o rfl (r_isx (v := .ty "ValueError") (cv := .type "ValueError") o.exc hh g m (pe_bltn (v := .ty "ValueError") g2 m2 rfl rfl (by decide) (by decide)) (fun u r => r) (fun n x e1 e2 => ?_) h2 (chkE_ok o h3).val)
        obtain ⟨C, a1, _⟩ := o.exc.at_ n x e1 e2
        rw [a1]
        exact (o.exc.isx n x C e1 e2 a1).2
      · obtain ⟨h5, h6, h7, h8⟩ := excB_of h4
        obtain ⟨n1, n2, n3⟩ := plainN_of h8
        obtain ⟨C, a1, a2, _⟩ := o.exc.at_ k _ h5 h6
        refine .of o rfl (r_isx (v := .ref C) (cv := .ref C) o.exc hh g m (pe_glob (o.gl h7) a2 rfl n1) (fun u r => r) (fun n x e1 e2 => ?_) h2 (chkE_ok o h3).val)
        rw [← a1]
        exact (o.exc.two n k _ _ e1 e2 h5 h6).2
    · cases h
  | .call f args, W, c, X, e, o, h => by
    simp only [chkE] at h
    split at h
    · simp only [Bool.and_eq_true, decide_eq_true_eq, Bool.not_eq_true'] at h
      obtain ⟨⟨⟨⟨⟨⟨h1, hne⟩, h0⟩, h2⟩, h3⟩, h4⟩, h5⟩ := h
      obtain ⟨n1, n2, n3⟩ := plainN_of h3
      cases hh : c.hot with
      | false =>
        rw [hh, if_neg (by decide)] at h1
        exact .of o rfl (call_any o (o.fns hh _ _ h1 (by simpa using h0)) (o.gl h2) n1 h4 h5 (chkEs_ok o h4 h5))
      | true =>
        rw [hh, if_pos rfl] at h1
        obtain ⟨rfl, ho, ⟨a, n⟩, he⟩ := o.hx hh
        rcases o.hroom hh with z | hr
        · rw [z] at h1; simp at h1
        rename_i es _
        cases es with
        | nil => rw [hh] at hne; cases hne
        | cons e1 es =>
          have hp := chkEs_ok o h4 h5
          rw [he] at hp ho ⊢
          simp only [List.all_cons, Bool.and_eq_true] at h4
          exact .of (he ▸ o) rfl (r_callH (o.hots _ _ h1 (by simpa using h0)) ho hr (o.gl h2) n1 h4.1 h4.2 hp)
    · cases h
  | .new k args, W, c, X, e, o, h => by
    simp only [chkE] at h
    split at h
    · simp only [Bool.and_eq_true, decide_eq_true_eq, Bool.not_eq_true'] at h
      obtain ⟨⟨⟨⟨⟨⟨h0, h1⟩, hne⟩, h2⟩, h3⟩, h4⟩, h5⟩ := h
      obtain ⟨n1, n2, n3⟩ := plainN_of h3
      obtain ⟨lv, hr, hlv, oi, hf⟩ := o.rooms h0
      obtain ⟨cd, kk, f, fd, ps, a0, hk, a1, a2, a3, a4⟩ := oi.mkc k _ h1 (by simpa using hne)
      have hp := chkEs_ok o h4 h5
      have hM : MakeAt X G cs k _ cd.init := ⟨kk, f, fd, ps, hr.mono (by omega), a1, a2, a3, a4⟩
      rename_i es _
      cases es with
      | nil =>
        cases args with
        | nil => exact .of o rfl (r_new0 o.tk a0 hM (o.gl h2) n1)
        | cons _ _ => simp [chkEs] at h5
      | cons e1 es =>
        simp only [List.all_cons, Bool.and_eq_true] at h4
        exact .of o rfl (r_new o.tk a0 hM (o.gl h2) n1 h4.1 h4.2 hp)
    · cases h
  | .meth k f ob args, W, c, X, e, o, h => by
    simp only [chkE] at h
    split at h
    · simp only [Bool.and_eq_true, decide_eq_true_eq, Bool.not_eq_true'] at h
      obtain ⟨⟨⟨⟨⟨⟨⟨⟨h0, h1⟩, hne⟩, h2⟩, h4⟩, h6⟩, h7⟩, h8⟩, h5⟩ := h
      obtain ⟨lv, hr, hlv, oi, hf⟩ := o.rooms h0
      obtain ⟨a0, kk, g, fd, ps, hk, a1, a2, a3, a4⟩ := oi.mt f k _ h1 (by simpa using hne)
      have hp := chkEs_ok o h4 h5
      have hM : MethAt X G cs k _ f := ⟨kk, g, fd, ps, hr.mono (by omega), a1, a2, a3, a4⟩
      have s1 := (chkE_ok o h8).val
      rename_i es _
      cases es with
      | nil =>
        cases args with
        | nil => exact .of o rfl (r_meth0 o.tk hM a0 (eval_meth h2 rfl h6 h7) s1)
        | cons _ _ => simp [chkEs] at h5
      | cons e1 es =>
        have h4' := h4
        simp only [List.all_cons, Bool.and_eq_true] at h4
        exact .of o rfl (r_meth o.tk hM a0 h4.1 h4.2 (eval_meth h2 h4' h6 h7) s1 hp)
    · cases h
  | .fld ob f, W, c, X, e, o, h => by
    simp only [chkE] at h
    split at h
    · simp only [Bool.and_eq_true, decide_eq_true_eq, Bool.not_eq_true'] at h
      obtain ⟨⟨⟨⟨h0, h1⟩, hne⟩, h2⟩, h3⟩ := h
      obtain ⟨lv, hr, hlv, oi, hf⟩ := o.rooms h0
      obtain ⟨a1, a2⟩ := oi.fl f _ h1 (by simpa using hne)
      exact .of o rfl (r_fld oi.nm a1 a2 h2 (chkE_ok o h3).val)
    · cases h
  | .b1 op a, W, c, X, e, o, h => by
    simp only [chkE] at h
    split at h
    · split at h
      · exact .of o rfl (r_neg (chkE_ok o h).val)
      · cases h
    · split at h
      · simp only [Bool.and_eq_true] at h
        exact .of o rfl (b1_ok o h.1.1.1.1 h.1.1.1.2 h.1.1.2 h.1.2 (chkE_ok o h.2).val)
      · cases h
  | .b2 op a b, W, c, X, e, o, h => by
    simp only [chkE] at h
    split at h
    · simp only [Bool.and_eq_true, Bool.not_eq_true'] at h
      exact .of o rfl (b2_ok o h.1.1.1.1.1 h.1.1.1.1.2 h.1.1.1.2 h.1.1.2 (chkE_ok o h.1.2).val (chkE_ok o h.2).val)
    · cases h
  | .m op ob args, W, c, X, e, o, h => by
    simp only [chkE] at h
    split at h
    · simp only [Bool.and_eq_true, decide_eq_true_eq] at h
      obtain ⟨⟨⟨⟨⟨⟨⟨h0, rfl⟩, h1⟩, h2⟩, h3⟩, h4⟩, h5⟩, h6⟩ := h
      exact .of o rfl (m_any o h0 h1 h2 h3 h4 h6 (chkE_ok o h5).val (chkEs_ok o h2 h6))
    · cases h
  | .idx a i, W, c, X, e, o, h => by
    cases e <;> first | (simp [chkE] at h; done) | skip
    simp only [chkE, Bool.and_eq_true] at h
    exact .of o rfl (r_idx o.hK (by have := o.hu; omega) h.1.1 (chkE_ok o h.1.2).val (chkE_ok o h.2).val)
  | .sl a lo hi, W, c, X, e, o, h => by
    simp only [chkE] at h
    split at h
    · simp only [Bool.and_eq_true] at h
      exact .of o rfl (r_sl o.hK (chkE_ok o h.1.1).val (chkO_ok o h.1.2) (chkO_ok o h.2))
    · cases h
  | .rev a, W, c, X, e, o, h => by
    simp only [chkE] at h
    split at h
    · exact .of o rfl (r_rev o.hK (chkE_ok o h).val)
    · cases h
  | .comp cell elt p it cond, W, c, X, e, o, h => by
    simp only [chkE] at h
    split at h
    · simp only [Bool.and_eq_true, decide_eq_true_eq, Bool.not_eq_true'] at h
      obtain ⟨⟨⟨⟨⟨⟨⟨h0, rfl⟩, h1⟩, h2⟩, h3⟩, h4⟩, h5⟩, h6⟩ := h
      have hb := blkOk_by h2
      rw [← o.hN, ← o.sc] at hb
      exact .of o rfl (r_comp o.hK (o.calm h0) o.nd h1 (ownOf_slots c p) hb (chkI_ok o h3) (fun s H C cl fp => chkP_ok (o.blk h0 _ s H C cl fp) h4) (fun s H C cl fp => chkC_ok (o.blk h0 _ s H C cl fp) h5) (fun s H C cl fp => (chkE_ok (o.blk h0 _ s H C cl fp) h6).val))
    · cases h
  | .sortk a i key, W, c, X, e, o, h => by
    simp only [chkE] at h
    split at h
    · simp only [Bool.and_eq_true, decide_eq_true_eq, Bool.not_eq_true'] at h
      obtain ⟨⟨⟨⟨⟨⟨⟨⟨⟨h0, h1⟩, h2⟩, rfl⟩, h4⟩, h5⟩, h6⟩, h7⟩, h8⟩, h9⟩ := h
      obtain ⟨rfl, g, m⟩ := o.bltn h4 (by decide)
      obtain ⟨lv, hr, hlv, oi, hf⟩ := o.rooms h0
      have L := lamP_of h7
      rw [← o.sc] at L
      exact .of o rfl (r_sortk (k := lv - 3) o.hK o.hu o.nd (o.tab h1) L (o.slot h6) (hr.mono (by omega)) g m h5 (chkE_ok o h8).val fun A outer s H f c' hA => (chkE_ok (o.lamb h0 h2 hr hlv hf oi A outer s H f c' hA) h9).val)
    · cases h
  | .sortf a f, W, c, X, e, o, h => by
    simp only [chkE] at h
    split at h
    · simp only [Bool.and_eq_true, decide_eq_true_eq, Bool.not_eq_true'] at h
      obtain ⟨⟨⟨⟨⟨⟨⟨⟨⟨h0, h1⟩, rfl⟩, h3⟩, h4⟩, h5⟩, h6⟩, h7⟩, h8⟩, h9⟩ := h
      obtain ⟨rfl, g, m⟩ := o.bltn h3 (by decide)
      obtain ⟨n1, n2, n3⟩ := plainN_of h8
      obtain ⟨lv, hr, hlv, oi, hf⟩ := o.rooms h0
      obtain ⟨k, fa, fd, ps, hk, a1, a2, a3, a4⟩ := hf _ _ h5 (by simpa using h6)
      exact .of o rfl (r_sortf o.hK o.hu ⟨k, fa, fd, ps, hr.mono (by omega), a1, a2, a3, a4⟩ (o.gl h7) n1 g m h4 (chkE_ok o h9).val)
    · cases h
theorem chkEs_ok : ∀ {cl : List CE} {W : WX} {c : Ck} {X : Cx} {es : List Expr}, Ok G P cs W eh c X → es.all nst = true → chkEs c cl es = true → PA X es (tVs G eh W P cs cl)
  | [], W, c, X, es, o, hn, h => by
    cases es <;> first | (simp [chkEs] at h; done) | skip
    exact r_nil
  | ce :: cl, W, c, X, es, o, hn, h => by
    cases es <;> first | (simp [chkEs] at h; done) | skip
    simp only [chkEs, Bool.and_eq_true] at h
    simp only [List.all_cons, Bool.and_eq_true] at hn
    exact r_cons hn.1 (chkE_ok o h.1).val (chkEs_ok o hn.2 h.2)
theorem chkO_ok : ∀ {co : Option CE} {W : WX} {c : Ck} {X : Cx} {e : Option Expr}, Ok G P cs W eh c X → chkO c co e = true → PO X e (tO G eh W P cs co)
  | none, W, c, X, e, o, h => by
    cases e <;> first | (simp [chkO] at h; done) | skip
    exact o_none
  | some ce, W, c, X, e, o, h => by
    cases e <;> first | (simp [chkO] at h; done) | skip
    simp only [chkO] at h
    exact o_some (chkE_ok o h).val
theorem chkC_ok : ∀ {co : Option CE} {c : Ck} {X : Cx} {es : List Expr}, Ok G P cs W0 eh c X → chkC c co es = true → PTs X es (tCond G eh P cs co)
  | none, c, X, es, o, h => by
    cases es <;> first | (simp [chkC] at h; done) | skip
    exact pts_nil
  | some ce, c, X, es, o, h => by
    rcases es with _ | ⟨e, _ | ⟨_, _⟩⟩ <;> first | (simp [chkC] at h; done) | skip
    simp only [chkC] at h
    exact pts_one (chkE_ok o h).tst
theorem chkI_ok : ∀ {ci : CI} {W : WX} {c : Ck} {X : Cx} {tg e : Expr}, Ok G P cs W eh c X → chkI c ci tg e = true → PI X tg e (tI G eh W P cs ci)
  | .seq ce, W, c, X, tg, e, o, h => by
    simp only [chkI] at h
    exact i_seq o.hK (chkE_ok o h).val
  | .rng1 a, W, c, X, tg, e, o, h => by
    simp only [chkI] at h
    split at h
    · simp only [Bool.and_eq_true] at h
      obtain ⟨rfl, g, m⟩ := o.bltn h.1.1 (by decide)
      exact i_rng1 g m h.1.2 (chkE_ok o h.2).val
    · cases h
  | .rng2 a b, W, c, X, tg, e, o, h => by
    simp only [chkI] at h
    split at h
    · simp only [Bool.and_eq_true] at h
      obtain ⟨rfl, g, m⟩ := o.bltn h.1.1.1.1 (by decide)
      exact i_rng2 g m h.1.1.1.2 h.1.1.2 (chkE_ok o h.1.2).val (chkE_ok o h.2).val
    · cases h
  | .rng3 a b d, W, c, X, tg, e, o, h => by
    simp only [chkI] at h
    split at h
    · simp only [Bool.and_eq_true] at h
      obtain ⟨rfl, g, m⟩ := o.bltn h.1.1.1.1.1.1 (by decide)
      exact i_rng3 g m h.1.1.1.1.1.2 h.1.1.1.1.2 h.1.1.1.2 (chkE_ok o h.1.1.2).val (chkE_ok o h.1.2).val (chkE_ok o h.2).val
    · cases h
  | .enum a, W, c, X, tg, e, o, h => by
    simp only [chkI] at h
    split at h
    · simp only [Bool.and_eq_true] at h
      obtain ⟨rfl, g, m⟩ := o.bltn h.1.1.2 (by decide)
      cases tg <;> first | (cases h.1.1.1; done) | skip
      exact i_enum o.hK g m h.1.2 (chkE_ok o h.2).val
    · cases h
  | .zip a b, W, c, X, tg, e, o, h => by
    simp only [chkI] at h
    split at h
    · simp only [Bool.and_eq_true] at h
      obtain ⟨rfl, g, m⟩ := o.bltn h.1.1.1.1.2 (by decide)
      cases tg <;> first | (cases h.1.1.1.1.1; done) | skip
      exact i_zip o.hK g m h.1.1.1.2 h.1.1.2 (chkE_ok o h.1.2).val (chkE_ok o h.2).val
    · cases h
end
end
end NR

/-! NR5b: what is checked is so: statements, defs. -/
namespace NR
open PySem L2
open PySem.Spec PyProof.Rows RZ
section
variable {G : Gi} {P : Prog} {cs : CallS} {eh : List (Addr × Nat)} {W : WX} {X : Cx} {pos : Pos}
theorem s_par3 {i j l : Nat} {x y z : Str} {a b d : Expr} {ca cb cd : CE} {px py pz pt : Pos} {kt k2 : Nat} {pt2 : Pos} (hc : X.calm = true) (hN : X.N.Nodup) (hi : X.N[i]? = some x) (hj : X.N[j]? = some y) (hl : X.N[l]? = some z) (hij : i ≠ j) (hil : i ≠ l) (hjl : j ≠ l)
    (hx : X.env.scope.names.lookup x = some .local) (hy : X.env.scope.names.lookup y = some .local) (hz : X.env.scope.names.lookup z = some .local) (ha : PA X [a, b, d] (tVs G eh W P cs [ca, cb, cd]))
    (hw : swappedStores [.Tuple [.Name x px, .Name y py, .Name z pz] kt pt] (.Tuple [a, b, d] k2 pt2) X.env = pure (some [x, y, z])) :
    PS X (.Assign [.Tuple [.Name x px, .Name y py, .Name z pz] kt pt] (.Tuple [a, b, d] k2 pt2) pos) (tC1 G eh W P cs (.asg (.t [.v i, .v j, .v l]) (.tup [ca, cb, cd]))) := by
  refine PS.imp (ps_par3 hc hN hi hj hl hij hil hjl hx hy hz ha hw) fun D σ H q => ?_
  obtain ⟨F, am, env, μ, s, en, h⟩ := tC1.out q
  rw [NR.exec, ev] at h
  have h := h.of en
  refine tVs.go s en h fun ps vs μ1 F1 H1 am1 x1 s1 r1 en1 h1 => ?_
  split at h1
  · have h1 := h1.ok_now s1
    cases r1 with
    | nil => exact False.elim h1
    | cons r1 r2 =>
      cases r2 with
      | nil => exact False.elim h1
      | cons r2 r3 =>
        cases r3 with
        | nil => exact False.elim h1
        | cons r3 r4 =>
          cases r4 with
          | nil => exact ⟨_, _, _, rfl, h1 _ F1 H1 am1 Ext.refl s1 ((((x1.en en).set r1).set r2).set r3)⟩
          | cons _ _ => exact False.elim h1
  · exact h1.elim
/-- chkP looks at no place -/
theorem chkP_tup {c : Ck} {p : Pat} {ts : List Expr} {k k' : Nat} {q q' : Pos} (h : chkP c p (.Tuple ts k q) = true) : chkP c p (.Tuple ts k' q') = true := by
  cases p <;> simpa only [chkP] using h
/-- an except suite of one statement -/
theorem suite_ok {c : Ck} {a : Addr} {n : Nat} {goal : Option Nat} {e : CE} {ss : List Stmt} (o : Ok G P cs W0 [(a, n)] c X) (h : chkX c goal e ss = true) : PSs X ss (fun D σ H => tV G [(a, n)] W0 P cs e σ H (suG goal D.rt D.nx σ)) := by
  unfold chkX at h
  split at h
  · simp only [Bool.and_eq_true, Option.isNone_iff_eq_none] at h
    obtain ⟨rfl, h⟩ := h
    exact PSs.imp (pss_cons (ps_ret (chkE_ok o h).val) pss_nil) fun D σ H q => q
  · simp only [Bool.and_eq_true] at h
    obtain ⟨⟨h1, h2⟩, h3⟩ := h
    split at h3
    · simp only [Bool.and_eq_true, Bool.not_eq_true'] at h3
      obtain ⟨⟨h3, h4⟩, h5⟩ := h3
      obtain ⟨l1, l2⟩ := o.loc h5
      refine PSs.imp (pss_cons (ps_set o.nd (o.slot h3) l1 (chkE_ok o h2).val ?_ l2) pss_nil) fun D σ H q => q
      rw [swapB_eq h1, o.sc, h4]
    · cases h3
  · cases h
theorem exnB_of {c : Ck} {d : Nat} (h : exnB c d = true) : ∃ y, c.exn[d]? = some y ∧ y ≠ "" := by
  unfold exnB at h
  split at h
  · rename_i y e
    exact ⟨y, e, by simpa using h⟩
  · cases h
theorem Ok.suiteO {c : Ck} (o : Ok G P cs W eh c X) (h0 : c.hot = false) (h2 : 2 ≤ c.rm) {a : Addr} {oe : Obj} {n : Nat} {pn : List (Addr × Obj)} {D : Addr} {y : Str} (e1 : G.cv n = .ref D) (e2 : c.exn[n]? = some y) (e3 : y ≠ "") (hz : Zc (.ref D) none oe) (hf : ∃ vs, oe.data = .fields vs) :
    Ok G P cs W0 [(a, n)] { c with hot := true } (X.suite a ((a, oe) :: pn)) := by
  obtain ⟨lv, hr, hlv, _⟩ := o.rooms h0
  refine ⟨o.hK, o.hN, o.nd, o.sc, o.fn, (fun z => Bool.noConfusion (show true = false from z)), o.hu, takes0, o.con, o.blt, (fun z => Bool.noConfusion (show true = false from z)), o.tab, o.exc, fun _ => ⟨rfl, fun a' n' hm => ?_, _, rfl⟩, fun _ => .inr (L2H.RoomH.mono (k := lv) ⟨hr.dp, hr.un⟩ (by omega)), o.hots⟩
  simp only [List.mem_singleton, Prod.mk.injEq] at hm
  obtain ⟨rfl, rfl⟩ := hm
  exact ⟨D, oe, y, e1, e2, e3, hz, hf, List.mem_cons_self⟩
theorem Ok.trO {c : Ck} {W' : WX} (o : Ok G P cs W eh c X) (h0 : c.hot = false) {pn : List (Addr × Obj)} {xe : Value → Shared → Prop} (tk : Takes (X.tr pn xe) W') : Ok G P cs W' eh c (X.tr pn xe) :=
  ⟨o.hK, o.hN, o.nd, o.sc, o.fn, o.calm, o.hu, tk, o.con, o.blt, (fun h => let ⟨lv, hr, hl, oi, hf⟩ := o.rooms h; ⟨lv, hr, hl, ⟨oi.nm, oi.fl, oi.mt, oi.mkc⟩, hf⟩), o.tab, o.exc, fun z => absurd z (by rw [h0]; decide), fun z => absurd z (by rw [h0]; decide), o.hots⟩
theorem swap_attr {a o : Expr} {y : Str} {py : Pos} {l : Nat} {env : Env} (hn : nodisp a = true) : swapsWith a (some (.Attribute o y py)) l env = pure false := by
  cases a <;> first | rfl | (cases hn; done)
theorem chkFs_ok {c : Ck} {ob : CE} (o : Ok G P cs W eh c X) (h0 : c.hot = false) : ∀ {fs : List Nat} {ts : List Expr}, chkFs c ob fs ts = true → ts.all nst = true ∧ ts.length = fs.length ∧ PGs X ts (gFs G eh W P cs ob fs)
  | [], ts, h => by
    cases ts <;> first | (simp [chkFs] at h; done) | skip
    exact ⟨rfl, rfl, gf_nil⟩
  | f :: fs, ts, h => by
    cases ts <;> first | (simp [chkFs] at h; done) | skip
    rename_i t ts
    cases t <;> first | (simp [chkFs] at h; done) | skip
    simp only [chkFs, Bool.and_eq_true, decide_eq_true_eq, Bool.not_eq_true'] at h
    obtain ⟨⟨⟨h1, h2⟩, h3⟩, h4⟩ := h
    obtain ⟨lv, hr, hlv, oi, hf⟩ := o.rooms h0
    obtain ⟨a1, a2⟩ := oi.fl f _ h1 (by simpa using h2)
    obtain ⟨b1, b2, b3⟩ := chkFs_ok o h0 h4
    refine ⟨?_, by simp [b2], gf_cons oi.nm a1 a2 (chkE_ok o h3).val b3⟩
    rw [List.all_cons, b1]; rfl
mutual
theorem chkS_ok : ∀ {s : CS} {W : WX} {X : Cx} {c : Ck} {st : Stmt}, Ok G P cs W eh c X → (X.stack = X.env :: X.outer ∧ X.env.frame = some X.env.locals) → PassesOwn (model X.prog X.w) X.A X.env X.xe → chkS c s st = true → PS X st (tC1 G eh W P cs s)
  | .pass, W, X, c, st, o, hs, hp, h => by
    simp only [chkS] at h
    split at h
    · exact s_pass
    · exact s_doc
    · cases h
  | .expr e, W, X, c, st, o, hs, hp, h => by
    simp only [chkS] at h
    split at h
    · simp only [Bool.and_eq_true] at h
      exact s_expr h.1 (chkE_ok o h.2).val
    · cases h
  | .asg p e, W, X, c, st, o, hs, hp, h => by
    simp only [chkS] at h
    split at h
    · simp only [Bool.and_eq_true] at h
      obtain ⟨⟨h1, h2⟩, h3⟩ := h
      split at h3
      · simp only [Bool.and_eq_true] at h3
        obtain ⟨h3, h4⟩ := h3
        split at h4
        · rename_i hsw
          simp only [Bool.and_eq_true, beq_iff_eq, Bool.not_eq_true'] at h4
          obtain ⟨⟨h0, h4⟩, h5⟩ := h4
          split at h5
          · simp only [chkE] at h2
            split at h2
            · simp only [Bool.and_eq_true, decide_eq_true_eq, Bool.not_eq_true'] at h2
              obtain ⟨⟨⟨⟨⟨⟨⟨k0, rfl⟩, k1⟩, k2⟩, k3⟩, k4⟩, k5⟩, k6⟩ := h2
              have hb := blkOk_by k2
              rw [← o.hN, ← o.sc] at hb
              refine s_setcomp o.hK (o.calm h0) o.nd (o.slot h3) (by rw [o.sc]; exact h4) ?_ k1 (ownOf_slots c _) hb (chkI_ok o k3) (fun s H C cl fp => chkP_ok (o.blk h0 _ s H C cl fp) k4) (fun s H C cl fp => chkC_ok (o.blk h0 _ s H C cl fp) k5) (fun s H C cl fp => (chkE_ok (o.blk h0 _ s H C cl fp) k6).val)
              rw [swapB_eq h1, o.sc, hsw]
            · cases h2
          · cases h5
        · rename_i hsw
          obtain ⟨l1, l2⟩ := o.loc h4
          refine s_set o.nd (o.slot h3) l1 l2 ?_ (chkE_ok o h2).val
          rw [swapB_eq h1, o.sc]
          congr 1
          simpa using hsw
      · cases h3
    · simp only [Bool.and_eq_true] at h
      obtain ⟨⟨h1, h2⟩, h3⟩ := h
      split at h3
      · split at h3
        · rename_i hm
          exact s_asg rfl (swapSole_tup h1) (swapM_eq (by rw [o.sc]; exact hm)) (chkP_ok o (chkP_tup h3)) (chkE_ok o h2).val
        · split at h3
          · simp only [Bool.and_eq_true, decide_eq_true_eq, beq_iff_eq, Bool.not_eq_true'] at h3
            obtain ⟨⟨⟨⟨⟨⟨k0, k1⟩, k2⟩, k3⟩, k4⟩, k5⟩, k6⟩ := h3
            simp only [chkE, Bool.and_eq_true] at h2
            exact s_par (o.calm k0) o.nd (o.slot k1) (o.slot k2) k3 (by rw [o.sc]; exact k4) (by rw [o.sc]; exact k5) (chkEs_ok o h2.1 h2.2) (swapM_eq (by rw [o.sc]; exact k6))
          · simp only [Bool.and_eq_true, decide_eq_true_eq, beq_iff_eq, Bool.not_eq_true'] at h3
            obtain ⟨⟨⟨⟨⟨⟨⟨⟨⟨⟨k0, k1⟩, k2⟩, k3⟩, k4⟩, k5⟩, k6⟩, k7⟩, k8⟩, k9⟩, k10⟩ := h3
            simp only [chkE, Bool.and_eq_true] at h2
            exact s_par3 (o.calm k0) o.nd (o.slot k1) (o.slot k2) (o.slot k3) k4 k5 k6 (by rw [o.sc]; exact k7) (by rw [o.sc]; exact k8) (by rw [o.sc]; exact k9) (chkEs_ok o h2.1 h2.2) (swapM_eq (by rw [o.sc]; exact k10))
          · cases h3
        · cases h3
      · rename_i ht
        refine s_asg rfl (swapSole_tup h1) (swap_none ?_) (chkP_ok o (chkP_tup h3)) (chkE_ok o h2).val
        unfold ntup
        split
        · exact (ht _ _ _ rfl).elim
        · rfl
    · cases h
  | .sub d i v, W, X, c, st, o, hs, hp, h => by
    simp only [chkS] at h
    split at h
    · simp only [Bool.and_eq_true] at h
      exact s_sub (by have := o.hu; omega) h.1.1.1.1 h.1.1.1.2 (chkE_ok o h.1.1.2).val (chkE_ok o h.1.2).val (chkE_ok o h.2).val
    · cases h
  | .sfld ob f v, W, X, c, st, o, hs, hp, h => by
    simp only [chkS] at h
    split at h
    · simp only [Bool.and_eq_true, decide_eq_true_eq, Bool.not_eq_true'] at h
      obtain ⟨⟨⟨⟨⟨h0, h1⟩, h2⟩, h3⟩, h4⟩, h5⟩ := h
      obtain ⟨lv, hr, hlv, oi, hf⟩ := o.rooms h0
      obtain ⟨a1, a2⟩ := oi.fl f _ h2 (by simpa using h3)
      exact s_sfld oi.nm a1 a2 (swap_attr h1) (chkE_ok o h4).val (chkE_ok o h5).val
    · cases h
  | .tfld ob fs v, W, X, c, st, o, hs, hp, h => by
    simp only [chkS] at h
    split at h
    · simp only [Bool.and_eq_true, Bool.not_eq_true'] at h
      obtain ⟨⟨⟨⟨h0, h1⟩, h2⟩, h3⟩, h4⟩ := h
      obtain ⟨b1, b2, b3⟩ := chkFs_ok o h0 h3
      exact s_tfld o.hK (o.calm h0) b1 b2 (swapSole_tup h2) (swap_none h1) b3 (chkE_ok o h4).val
    · cases h
  | .ite e a b, W, X, c, st, o, hs, hp, h => by
    simp only [chkS] at h
    split at h
    · simp only [Bool.and_eq_true] at h
      exact s_if (chkE_ok o h.1.1).tst (chkSs_ok o hs hp h.1.2) (chkSs_ok o hs hp h.2)
    · cases h
  | .forr p it body, W, X, c, st, o, hs, hp, h => by
    simp only [chkS] at h
    split at h
    · simp only [Bool.and_eq_true, Bool.not_eq_true'] at h
      exact s_for hp (o.calm h.1.1.1.1) h.1.1.1.2 (chkI_ok o h.1.1.2) (chkP_ok o h.1.2) (chkSs_ok o hs hp h.2)
    · cases h
  | .ret e, W, X, c, st, o, hs, hp, h => by
    simp only [chkS] at h
    split at h
    · exact s_ret (chkE_ok o h).val
    · cases h
  | .retn, W, X, c, st, o, hs, hp, h => by
    simp only [chkS] at h
    split at h
    · exact s_retn
    · cases h
  | .raise k, W, X, c, st, o, hs, hp, h => by
    simp only [chkS] at h
    split at h
    · simp only [Bool.and_eq_true, Bool.not_eq_true'] at h
      obtain ⟨e1, e2, e3, e4⟩ := excB_of h.2
      obtain ⟨n1, n2, n3⟩ := plainN_of e4
      exact s_raise (o.calm h.1) o.tk o.exc e1 e2 (o.gl e3) n1
    · cases h
  | .tryy body k slot goal e ds, W, X, c, st, o, hs, hp, h => by
    simp only [chkS] at h
    split at h
    · simp only [Bool.and_eq_true, decide_eq_true_eq, Bool.not_eq_true'] at h
      obtain ⟨⟨⟨⟨⟨⟨h0, h2⟩, h3⟩, h4⟩, h5⟩, h6⟩, h7⟩ := h
      obtain ⟨e1, e2, e3, e4⟩ := excB_of h3
      obtain ⟨n1, n2, n3⟩ := plainN_of e4
      rw [List.all_eq_true] at h5
      unfold chkN at h4
      split at h4
      · exact s_tryO hs.1 hs.2 (o.gl e3) n1 o.tk o.exc e1 e2 (fun d hd => exnB_of (h5 d hd)) (fun W' pn xe tk pp => chkSs_ok (o.trO h0 tk) hs pp h6) fun a oe n pn D y a1 a2 a3 a4 a5 => suite_ok (o.suiteO h0 h2 a1 a2 a3 a4 a5) h7
      · simp only [Bool.and_eq_true, beq_iff_eq] at h4
        exact s_tryA hs.1 hs.2 o.nd (o.slot h4.1) (by show X.env.scope.names.lookup _ = _; rw [o.sc]; exact h4.2) (o.gl e3) n1 o.tk o.exc e1 e2 (fun d hd => exnB_of (h5 d hd)) (fun W' pn xe tk pp => chkSs_ok (o.trO h0 tk) hs pp h6) fun a oe n pn D y a1 a2 a3 a4 a5 => suite_ok (o.suiteO h0 h2 a1 a2 a3 a4 a5) h7
      · cases h4
    · cases h
  | .stop, W, X, c, st, o, hs, hp, h => s_stop
theorem chkSs_ok : ∀ {sl : List CS} {W : WX} {X : Cx} {c : Ck} {sts : List Stmt}, Ok G P cs W eh c X → (X.stack = X.env :: X.outer ∧ X.env.frame = some X.env.locals) → PassesOwn (model X.prog X.w) X.A X.env X.xe → chkSs c sl sts = true → PSs X sts (tCs G eh W P cs sl)
  | [], W, X, c, sts, o, hs, hp, h => by
    cases sts <;> first | (simp [chkSs] at h; done) | skip
    exact ss_nil
  | s :: sl, W, X, c, sts, o, hs, hp, h => by
    cases sts <;> first | (simp [chkSs] at h; done) | skip
    simp only [chkSs, Bool.and_eq_true] at h
    exact ss_cons (chkS_ok o hs hp h.1) (chkSs_ok o hs hp h.2)
end
end

/-! ### all defs of a module -/
/-- a def of the text: its name, its parameters, its body, its scope; its slots' names -/
structure DText where
  /-- as a key: a method's with its class ahead -/
  name : Str
  /-- a method's name by itself -/
  plain : Str
  /-- the class's number, the method's name, absent of a plain def -/
  mth : Nat × Str
  args : Arguments
  body : List Stmt
  scope : Scope
  N : List Str
  /-- it makes lambdas -/
  lam : Bool
  /-- it is called in except suites -/
  hot : Bool
def scB (N ps : List Str) (sc : Scope) : Bool :=
  (match sc.kind with | .function => true | _ => false) && !sc.isCoroutine && !sc.isGenerator && decide N.Nodup && decide (N.take ps.length = ps) &&
    (ps.all fun x => match sc.names.lookup x with | some .local => true | some .cell => true | _ => false) && sc.names.all fun y => match y.2 with | .free => false | _ => true
theorem scB_of {N ps : List Str} {sc : Scope} (h : scB N ps sc = true) : FnScope N ps sc := by
  unfold scB at h
  simp only [Bool.and_eq_true, decide_eq_true_eq, Bool.not_eq_true', List.all_eq_true] at h
  obtain ⟨⟨⟨⟨⟨⟨h1, h2⟩, h3⟩, h4⟩, h5⟩, h6⟩, h7⟩ := h
  refine ⟨?_, h2, h3, h4, h5, fun x hx => ?_, fun y hy e => ?_⟩
  · split at h1
    · assumption
    · cases h1
  · have := h6 x hx
    split at this <;> first | (rename_i e; exact .inl e) | (rename_i e; exact .inr e) | cases this
  · have := h7 y hy
    rw [e] at this; cases this
def psOf : Arguments → Option (List Str)
  | ⟨[], as, none, [], [], none, []⟩ => some (as.map (·.arg))
  | _ => none
/-- one def checked -/
def coldN (ds : List DText) : List Str := ds.map fun t => if t.hot || !(t.mth.2 == ("" : Str)) then "" else t.name
def mtsN (ds : List DText) : List (Nat × Str) := ds.map fun t => t.mth
def hotN (ds : List DText) : List Str := ds.map fun t => if t.hot && t.mth.2 == ("" : Str) then t.name else ""
def ckOf (con exn cls fld : List Str) (ds : List DText) (t : DText) : Ck := if t.hot then ⟨t.N, con, [], t.scope, fun _ => true, 0, false, exn, true, [], [], [], []⟩ else ⟨t.N, con, coldN ds, t.scope, fun _ => true, 5, t.lam, exn, false, hotN ds, cls, fld, mtsN ds⟩
def chkD (con exn cls fld : List Str) (ds : List DText) (d : FDef) (t : DText) : Bool := match psOf t.args with
  | some ps => scB t.N ps t.scope && decide (ps.Nodup) && decide (ps.length = d.np) && decide (t.N.length = d.ns) && (!t.hot || d.eff) && chkSs (ckOf con exn cls fld ds t) d.body t.body
  | none => false
section
variable {P : Program} {w : World} {K : PySem.W.Frag} {mg : Str → Option Value} {base : Heap} {G : Gi} {PR : Prog}
theorem psOf_eq {a : Arguments} {ps : List Str} (h : psOf a = some ps) : ∃ as : List Arg, a = ⟨[], as, none, [], [], none, []⟩ ∧ ps = as.map (·.arg) := by
  unfold psOf at h
  split at h
  · cases h; exact ⟨_, rfl, rfl⟩
  · cases h
theorem room_units {k : Nat} {A : Around} (r : Room k A) : A.units + 70 < cLine := by have := r.un; omega
theorem fn_ok0E {f : Addr} {fd : FuncData} {ps : List Str} {i : Nat} {exn : List Str} : FnE P w K mg base G exn (callF PR 0) f fd ps i := by
  have hf : ∀ {a n} {vs : List V} {H : Hp} {Q : VK}, spE G (callF PR 0) i a n vs H Q → False := by
    intro a n vs H Q h
    obtain ⟨F0, am, μ, args, st, r, hw⟩ := h
    rw [callF] at hw
    exact hw
  exact ⟨fun a n vs H Q h => (hf h).elim, fun A outer s H args us vs Q p n D x hr hp hz hv e1 e2 e3 e0 hb r h => (hf h).elim⟩
/-- where a def lies -/
def AtD (K : PySem.W.Frag) (mg : Str → Option Value) (G : Gi) (t : DText) (f : Addr) : Prop := (t.mth.2 = "" → mg t.name = some (.ref f)) ∧ (t.mth.2 ≠ "" → Meth K (G.cA t.mth.1) t.mth.2 f ∧ Cls K (G.cA t.mth.1) ∧ ∀ g, G.fN g ≠ t.mth.2)
theorem all_ok {con exn cls fld : List Str} {ds : List DText} (hl : PR.funs.length = ds.length) (hc : (PR.funs.zip ds).all (fun q => q.2.name == ("" : Str) || chkD con exn cls fld ds q.1 q.2) = true)
    (hK : K = G.K) (hcon : ∀ (i : Nat) (x : Str), con[i]? = some x → x ≠ "" → ∃ p v u, PR.consts[i]? = some p ∧ mg x = some u ∧ RelV v u ∧ Always G p v) (hblt : ∀ x ∈ bltN, mg x = none) (hexc : ExcOk G PR K mg exn)
    (hdef : ∀ (i : Nat) (t : DText), ds[i]? = some t → t.name ≠ "" → ∃ f fd, AtD K mg G t f ∧ FunD K t.plain t.name t.args t.body t.scope [] [] f fd)
    (hnm : NamesApart G) (hfl : ∀ (f : Nat) (y : Str), fld[f]? = some y → y ≠ "" → G.fN f = y ∧ ∀ k, Cls K (G.cA k) ∧ NoAttr K (G.cA k) y)
    (hmts : ∀ (i : Nat) (t : DText), ds[i]? = some t → t.mth.2 ≠ "" → t.name ≠ "" ∧ t.hot = false)
    (hcls : ∀ (k : Nat) (x : Str), cls[k]? = some x → x ≠ "" → ∃ cd t f, PR.classes[k]? = some cd ∧ ds[cd.init]? = some t ∧ t.mth = (k, ("__init__" : Str)) ∧ mg x = some (.ref (G.cA k)) ∧ Mk K (G.cA k) f)
    (hlam : ∀ (i : Nat) (t : DText) (f : Addr), ds[i]? = some t → t.lam = true → t.name ≠ "" → AtD K mg G t f → ∃ c P, LamX.TabB base mg c P ∧ codeV K f = .ref c ∧ (P, (t.name ++ ".<locals>.") ++ "<lambda>") ∈ G.T ∧ ∀ p ∈ G.T, p.1 = P → p.2 = (t.name ++ ".<locals>.") ++ "<lambda>") :
    ∀ (n i : Nat) (d : FDef) (t : DText), PR.funs[i]? = some d → ds[i]? = some t → t.name ≠ "" → ∃ f fd ps, psOf t.args = some ps ∧ AtD K mg G t f ∧ PySem.W.keepIn K (.ref f) = true ∧ Binds K fd ps [] ∧ FunD K t.plain t.name t.args t.body t.scope [] [] f fd ∧
      (t.hot = false → FnOk P w K mg base (L2.CX P w) (8 * n) f fd ps (spOf G (callF PR n) i)) ∧ (t.hot = true → FnE P w K mg base G exn (callF PR n) f fd ps i) := by
  intro n
  have hchk : ∀ (i : Nat) (d : FDef) (t : DText), PR.funs[i]? = some d → ds[i]? = some t → t.name ≠ "" → chkD con exn cls fld ds d t = true := fun i d t h1 h2 h3 => by
    rw [List.all_eq_true] at hc
    have := hc (d, t) (List.mem_of_getElem? (i := i) (by rw [List.getElem?_zip_eq_some]; exact ⟨h1, h2⟩))
    rw [Bool.or_eq_true] at this
    rcases this with z | z
    · exact absurd (by simpa using z) h3
    · exact z
  have hb : ∀ (i : Nat) (d : FDef) (t : DText), PR.funs[i]? = some d → ds[i]? = some t → t.name ≠ "" → ∃ f fd ps, psOf t.args = some ps ∧ AtD K mg G t f ∧ PySem.W.keepIn K (.ref f) = true ∧ Binds K fd ps [] ∧ FunD K t.plain t.name t.args t.body t.scope [] [] f fd := fun i d t h1 h2 h3 => by
    have h := hchk i d t h1 h2 h3
    unfold chkD at h
    split at h
    · rename_i ps e
      simp only [Bool.and_eq_true, decide_eq_true_eq] at h
      obtain ⟨f, fd, hm, hF⟩ := hdef i t h2 h3
      obtain ⟨as, ea, rfl⟩ := psOf_eq e
      refine ⟨f, fd, _, e, hm, hF.kp, ?_, hF⟩
      refine FunD.bindsN hF fun kV doc pm an cdv ct us hu => ?_
      rw [ea]
      exact bind_plain h.1.1.1.1.2 hu
    · cases h
  induction n with
  | zero =>
    intro i d t h1 h2 h3
    obtain ⟨f, fd, ps, e1, e2, e3, e4, e5⟩ := hb i d t h1 h2 h3
    exact ⟨f, fd, ps, e1, e2, e3, e4, e5, fun _ => fn_ok0, fun _ => fn_ok0E⟩
  | succ n ih =>
    intro i d t h1 h2 h3
    obtain ⟨f, fd, ps, e1, e2, e3, e4, e5⟩ := hb i d t h1 h2 h3
    have h := hchk i d t h1 h2 h3
    unfold chkD at h
    rw [e1] at h
    simp only [Bool.and_eq_true, decide_eq_true_eq, Bool.or_eq_true, Bool.not_eq_true'] at h
    obtain ⟨⟨⟨⟨⟨k1, k2⟩, k3⟩, k4⟩, k6⟩, k5⟩ := h
    have fun_of : ∀ (j : Nat) (t2 : DText), ds[j]? = some t2 → ∃ hj : j < PR.funs.length, PR.funs[j]? = some PR.funs[j] := fun j t2 e => by
      have hj : j < PR.funs.length := by rw [hl]; exact (List.getElem?_eq_some_iff.mp e).1
      exact ⟨hj, List.getElem?_eq_getElem hj⟩
    refine ⟨f, fd, ps, e1, e2, e3, e4, e5, fun hh => ?_, fun hh => ?_⟩
    · have ec : ckOf con exn cls fld ds t = ⟨t.N, con, coldN ds, t.scope, fun _ => true, 5, t.lam, exn, false, hotN ds, cls, fld, mtsN ds⟩ := by unfold ckOf; rw [hh]; rfl
      rw [ec] at k5
      refine (fn_ok (k := 8 * n + 7) e5 (scB_of k1) h1 k3 k4 fun A outer s H E eh hr => ?_).mono (by omega)
      refine chkSs_ok (c := ⟨t.N, con, coldN ds, t.scope, fun _ => true, 5, t.lam, exn, false, hotN ds, cls, fld, mtsN ds⟩) ⟨hK, rfl, (scB_of k1).nd, rfl, rfl, fun _ => rfl, room_units hr, takes_of rfl rfl rfl rfl, hcon, hblt, fun _ => ⟨8 * n + 7, hr, by show 5 ≤ 8 * n + 7; omega, ⟨hnm, hfl, fun j k m hm hne => ?_, fun k x hx hne => ?_⟩, fun j x hx hne => ?_⟩, fun hl => ?_, hexc, (fun z => Bool.noConfusion (show false = true from z)), (fun z => Bool.noConfusion (show false = true from z)), fun j x hx hne => ?_⟩ ⟨rfl, rfl⟩ (passes_of rfl) k5
      · have hm : (mtsN ds)[j]? = some (k, m) := hm
        unfold mtsN at hm
        rw [List.getElem?_map] at hm
        cases e : ds[j]? with
        | none => rw [e] at hm; cases hm
        | some t2 =>
          rw [e] at hm
          simp only [Option.map_some, Option.some.injEq] at hm
          obtain ⟨hj, ej⟩ := fun_of j t2 e
          have hm2 : t2.mth.2 = m := by rw [hm]
          obtain ⟨q1, q2⟩ := hmts j t2 e (by rw [hm2]; exact hne)
          obtain ⟨f2, fd2, ps2, a1, a2, a3, a4, a5, a6, a7⟩ := ih j _ t2 ej e q1
          obtain ⟨b1, b2, b3⟩ := a2.2 (by rw [hm2]; exact hne)
          rw [hm] at b1 b2 b3
          exact ⟨b3, 8 * n, f2, fd2, ps2, by show 8 * n + 5 ≤ 8 * n + 7; omega, b1, b2, a4, a6 q2⟩
      · obtain ⟨cd, t2, fi, c1, c2, c3, c4, c5⟩ := hcls k x hx hne
        obtain ⟨hj, ej⟩ := fun_of cd.init t2 c2
        have hm2 : t2.mth.2 = ("__init__" : Str) := by rw [c3]
        obtain ⟨q1, q2⟩ := hmts cd.init t2 c2 (by rw [hm2]; decide)
        obtain ⟨f2, fd2, ps2, a1, a2, a3, a4, a5, a6, a7⟩ := ih cd.init _ t2 ej c2 q1
        obtain ⟨b1, b2, b3⟩ := a2.2 (by rw [hm2]; decide)
        rw [c3] at b1
        have ef : f2 = fi := by
          have z := b1.at_.symm.trans c5.init
          simpa using z
        subst ef
        exact ⟨cd, 8 * n, f2, fd2, ps2, c1, by show 8 * n + 1 + 5 ≤ 8 * n + 7; omega, c4, c5, a4, a6 q2⟩
      case refine_4 =>
        obtain ⟨c, Pt, a1, a2, a3, a4⟩ := hlam i t f h2 hl h3 e2
        exact ⟨c, Pt, a1, a2, a3, a4⟩
      · have hx : (coldN ds)[j]? = some x := hx
        unfold coldN at hx
        rw [List.getElem?_map] at hx
        cases e : ds[j]? with
        | none => rw [e] at hx; cases hx
        | some t2 =>
          rw [e] at hx
          simp only [Option.map_some, Option.some.injEq] at hx
          obtain ⟨hj, ej⟩ := fun_of j t2 e
          split at hx
          · exact absurd hx.symm hne
          · rename_i hc2
            subst hx
            simp only [Bool.or_eq_true, Bool.not_eq_true', beq_eq_false_iff_ne, not_or, Decidable.not_not] at hc2
            obtain ⟨f2, fd2, ps2, a1, a2, a3, a4, a5, a6, a7⟩ := ih j _ t2 ej e hne
            exact ⟨8 * n, f2, fd2, ps2, by show 8 * n + 5 ≤ 8 * n + 7; omega, (a2.1 hc2.2), a3, a4, a6 (by simpa using hc2.1)⟩
      · have hx : (hotN ds)[j]? = some x := hx
        unfold hotN at hx
        rw [List.getElem?_map] at hx
        cases e : ds[j]? with
        | none => rw [e] at hx; cases hx
        | some t2 =>
          rw [e] at hx
          simp only [Option.map_some, Option.some.injEq] at hx
          obtain ⟨hj, ej⟩ := fun_of j t2 e
          split at hx
          · rename_i hc2
            subst hx
            simp only [Bool.and_eq_true, beq_iff_eq] at hc2
            obtain ⟨f2, fd2, ps2, a1, a2, a3, a4, a5, a6, a7⟩ := ih j _ t2 ej e hne
            exact ⟨f2, fd2, ps2, (a2.1 hc2.2), a3, a4, a7 hc2.1⟩
          · exact absurd hx.symm hne
    · have ec : ckOf con exn cls fld ds t = ⟨t.N, con, [], t.scope, fun _ => true, 0, false, exn, true, [], [], [], []⟩ := by unfold ckOf; rw [hh]; rfl
      rw [ec] at k5
      refine fn_okE e5 (scB_of k1) h1 (by rcases k6 with z | z; · rw [hh] at z; cases z
                                          · exact z) k3 k4 fun A outer s H p m D y hz hf e1' e2' e3' hr => ?_
      refine chkSs_ok (c := ⟨t.N, con, [], t.scope, fun _ => true, 0, false, exn, true, [], [], [], []⟩) ⟨hK, rfl, (scB_of k1).nd, rfl, rfl, (fun z => Bool.noConfusion (show true = false from z)), (show (A.deeper (envOfC t.name t.scope s.heap.objs.size f (codeV K f))).units + 70 < cLine by have := hr.un; omega), takes0, hcon, hblt, (fun z => Bool.noConfusion (show true = false from z)), (fun z => Bool.noConfusion (show false = true from z)), hexc, fun _ => ⟨rfl, fun a' n' hm => ?_, _, rfl⟩, fun _ => .inl rfl, fun j x hx hne => by simp at hx⟩ ⟨rfl, rfl⟩ (passes_of rfl) k5
      simp only [List.mem_singleton, Prod.mk.injEq] at hm
      obtain ⟨rfl, rfl⟩ := hm
      exact ⟨D, p.2, y, e1', e2', e3', hz, hf, List.mem_cons_self⟩
end
end NR

/-! NR6: from the evaluator's answer to the law. -/
namespace NR
open PySem L2
open PySem.Spec PyProof.Rows RZ
def dno : DText := ⟨"", "", (0, ""), ⟨[], [], none, [], [], none, []⟩, [], ⟨.function, [], false, false, []⟩, [], false, false⟩
/-- the i-th statement of the top as a def with these slots -/
def mkD (p : Program) (i : Nat) (N : List Str) (lam hot : Bool) : DText := match p.main.body[i]? with
  | some (.FunctionDef n a b _ _ _ sc _ _ _) => ⟨n, n, (0, ""), a, b, sc, N, lam, hot⟩
  | _ => dno
/-- the j-th statement of the class at the top's i-th, of the number k, as a method -/
def mkM (p : Program) (i j k : Nat) (N : List Str) : DText := match p.main.body[i]? with
  | some (.ClassDef c _ _ body _ _ _ _ _ _ _) => (match body[j]? with
    | some (.FunctionDef n a b _ _ _ sc _ _ _) => ⟨c ++ "." ++ n, n, (k, n), a, b, sc, N, false, false⟩
    | _ => dno)
  | _ => dno
def isM (t : DText) : Bool := !(t.mth.2 == ("" : Str))
/-- the class's name by its number -/
def clsN (cls : List Str) (k : Nat) : Str := match cls[k]? with
  | some x => if x == ("" : Str) then (cls.find? fun y => !(y == ("" : Str))).getD "" else x
  | none => (cls.find? fun y => !(y == ("" : Str))).getD ""
def dd (cls : List Str) (t : DText) : He.DefD := if isM t then ⟨(clsN cls t.mth.1, some t.mth.2), t.plain, t.name, t.args, t.body, t.scope, [], []⟩ else ⟨(t.name, none), t.plain, t.name, t.args, t.body, t.scope, [], []⟩
/-- the defs that are there -/
def real (ds : List DText) : List DText := ds.filter fun t => !(t.name == ("" : Str))
def fnL (cls : List Str) (ds : List DText) : List He.DefD := (real ds).map (dd cls)
def faL (ds : List DText) : List He.Fa := ((real ds).filter fun t => !isM t).map (fun t => He.Fa.glo t.name) ++ bltN.map He.Fa.free
/-- those that make lambdas -/
def lamL (ds : List DText) : List He.Defn := ((real ds).filter (·.lam)).map fun t => (t.name, none)
def tabL (K : PySem.W.Frag) (ds : List DText) : List (Addr × Str) := (lamL ds).map fun p => ((He.cT K p).2, (p.1 ++ ".<locals>.") ++ "<lambda>")
def csL (K : PySem.W.Frag) (ds : List DText) : List (Addr × Addr) := (lamL ds).map (He.cT K)
/-! ### the fields' names -/
def padN (f : Nat) : Str := ⟨Array.replicate (f + 1000) 122⟩
def fNo (fld : List Str) (f : Nat) : Str := match fld[f]? with
  | some y => if y == ("" : Str) then padN f else y
  | none => padN f
def fldB (fld : List Str) : Bool := fld.zipIdx.all fun p => p.1 == ("" : Str) || (decide (p.1.cps.size < 1000) && fld.zipIdx.all fun q => !(p.1 == q.1) || p.2 == q.2)
theorem fNo_cases (fld : List Str) (f : Nat) : (∃ y, fld[f]? = some y ∧ y ≠ "" ∧ fNo fld f = y) ∨ fNo fld f = padN f := by
  unfold fNo
  cases e : fld[f]? with
  | none => exact .inr rfl
  | some y =>
    by_cases h : y = ""
    · right
      show (if (y == ("" : Str)) = true then padN f else y) = padN f
      rw [if_pos (by simpa using h)]
    · left
      refine ⟨y, rfl, h, ?_⟩
      show (if (y == ("" : Str)) = true then padN f else y) = y
      rw [if_neg (by simpa using h)]
theorem padN_size (f : Nat) : (padN f).cps.size = f + 1000 := by simp [padN]
theorem fld_of {fld : List Str} (h : fldB fld = true) {f : Nat} {y : Str} (e : fld[f]? = some y) (hy : y ≠ "") : y.cps.size < 1000 ∧ ∀ g, fld[g]? = some y → f = g := by
  unfold fldB at h
  rw [List.all_eq_true] at h
  have h1 := h (y, f) (by rw [List.mem_zipIdx_iff_getElem?]; exact e)
  rw [Bool.or_eq_true] at h1
  rcases h1 with z | z
  · exact absurd (by simpa using z) hy
  · rw [Bool.and_eq_true, decide_eq_true_eq, List.all_eq_true] at z
    refine ⟨z.1, fun g eg => ?_⟩
    have h2 := z.2 (y, g) (by rw [List.mem_zipIdx_iff_getElem?]; exact eg)
    simpa using h2
theorem fN_apart {G : Gi} {fld : List Str} (hG : ∀ f, G.fN f = fNo fld f) (h : fldB fld = true) : NamesApart G := by
  intro f g e
  rw [hG, hG] at e
  rcases fNo_cases fld f with ⟨y, e1, h1, n1⟩ | n1 <;> rcases fNo_cases fld g with ⟨z, e2, h2, n2⟩ | n2
  · rw [n1, n2] at e
    subst e
    exact (fld_of h e1 h1).2 g e2
  · rw [n1, n2] at e
    have := (fld_of h e1 h1).1
    rw [e, padN_size] at this
    omega
  · rw [n1, n2] at e
    have := (fld_of h e2 h2).1
    rw [← e, padN_size] at this
    omega
  · rw [n1, n2] at e
    have := congrArg (fun s : Str => s.cps.size) e
    simp only [padN_size] at this
    omega
theorem fN_not {G : Gi} {fld : List Str} {m : Str} (hG : ∀ f, G.fN f = fNo fld f) (h1 : m ∉ fld) (h2 : m.cps.size < 1000) : ∀ g, G.fN g ≠ m := by
  intro g e
  rw [hG] at e
  rcases fNo_cases fld g with ⟨y, e1, _, n1⟩ | n1
  · rw [n1] at e
    subst e
    exact h1 (List.mem_of_getElem? e1)
  · rw [n1] at e
    rw [← e, padN_size] at h2
    omega
mutual
/-- the plain value p is what u is in K -/
def pvB (K : PySem.W.Frag) : PV → Value → Bool
  | .non, u => (match u with | .none => true | _ => false)
  | .bl b, u => (match u with | .bool c => b == c | _ => false)
  | .int i, u => (match u with | .int j _ => decide (i = j) | _ => false)
  | .str s, u => (match u with | .str x _ => decide (x.cps.toList = s) && s.all (· < 0x110000) | _ => false)
  | .tup ps, u => (match u with
    | .ref a => (match K.lookup a with
      | some ⟨.type c, _, .seq its _, _⟩ => decide (c = "tuple") && decide (its.size ≤ sizeLine) && pvsB K ps its.toList
      | _ => false)
    | _ => false)
  | .lst _, _ => false
  | .loc _, _ => false
  | .exc _, _ => false
  | .scr _, _ => false
def pvsB (K : PySem.W.Frag) : List PV → List Value → Bool
  | [], us => us.isEmpty
  | p :: ps, us => (match us with | u :: us => pvB K p u && pvsB K ps us | [] => false)
end
def vOf : Value → V
  | .bool b => .bl b | .int i _ => .int i | .str x _ => .str x | .ref a => .ref a | _ => .non
mutual
theorem pvB_ok {G : Gi} : ∀ {p : PV} {u : Value}, pvB G.K p u = true → RelV (vOf u) u ∧ ∀ eh F am, Rep G eh F am p (vOf u)
  | .non, u, h => by
    cases u <;> first | (simp [pvB] at h; done) | skip
    exact ⟨rfl, fun _ _ _ => .non⟩
  | .bl b, u, h => by
    cases u <;> first | (simp [pvB] at h; done) | skip
    simp only [pvB, beq_iff_eq] at h
    subst h
    exact ⟨rfl, fun _ _ _ => .bl _⟩
  | .int b, u, h => by
    cases u <;> first | (simp [pvB] at h; done) | skip
    simp only [pvB, decide_eq_true_eq] at h
    subst h
    exact ⟨⟨_, rfl⟩, fun _ _ _ => .int _⟩
  | .str s, u, h => by
    cases u <;> first | (simp [pvB] at h; done) | skip
    rename_i x t
    simp only [pvB, Bool.and_eq_true, decide_eq_true_eq] at h
    obtain ⟨h1, h2⟩ := h
    have : x = mkT s := by
      cases x
      simp at h1
      subst h1
      simp [mkT]
    subst this
    exact ⟨⟨_, rfl⟩, fun _ _ _ => .str s (okTxt_of h2)⟩
  | .tup ps, u, h => by
    unfold pvB at h
    split at h
    · rename_i a
      split at h
      · rename_i c dt its n sl e
        simp only [Bool.and_eq_true, decide_eq_true_eq] at h
        obtain ⟨⟨h1, h2⟩, h3⟩ := h
        obtain ⟨r1, r2⟩ := pvsB_ok h3
        exact ⟨rfl, fun eh F am => .tup (.inr ⟨_, its, n, e, congrArg Value.type h1, rfl, h2, r1⟩) (r2 eh F am)⟩
      · cases h
    · cases h
  | .lst _, u, h => by simp [pvB] at h
  | .loc _, u, h => by simp [pvB] at h
  | .exc _, u, h => by simp [pvB] at h
  | .scr _, u, h => by simp [pvB] at h
theorem pvsB_ok {G : Gi} : ∀ {ps : List PV} {us : List Value}, pvsB G.K ps us = true → Vals (us.map vOf) us ∧ ∀ eh F am, RepL G eh F am ps (us.map vOf)
  | [], us, h => by
    cases us with
    | nil => exact ⟨.nil, fun _ _ _ => .nil⟩
    | cons _ _ => simp [pvsB] at h
  | p :: ps, us, h => by
    cases us with
    | nil => simp [pvsB] at h
    | cons u us =>
      simp only [pvsB, Bool.and_eq_true] at h
      obtain ⟨h1, h2⟩ := pvB_ok h.1
      obtain ⟨h3, h4⟩ := pvsB_ok h.2
      exact ⟨.cons h1 h3, fun eh F am => .cons (h2 eh F am) (h4 eh F am)⟩
end
/-- the global x is p -/
def cOk (K : PySem.W.Frag) (q : Str × PV) : Bool := q.1 == ("" : Str) || match PySem.W.nsIn K mainGlobals q.1 with
  | some (some u) => pvB K q.2 u
  | _ => false

/-- the class x of number c in K -/
def excCB (K : PySem.W.Frag) (D : Addr) : Bool :=
  He.eqO (PySem.W.findIn K (.ref D) "__getattribute__") (some (some (.builtin "BaseException.__getattribute__"))) && He.eqO (PySem.W.findIn K (.ref D) "__getattr__") (some none) && decide (PySem.W.subIn K (.ref D) (.type "BaseException") = some true) && PySem.W.hasDictIn K D &&
    He.eqO (PySem.W.findIn K (.ref D) "__class__") (some (some (.builtin "object.__class__"))) && He.eqO (PySem.W.specialIn K (.builtin "object.__class__") "__get__") (some (some (.builtin "getset_descriptor.__get__"))) && decide (PySem.W.takesIn K (.builtin "object.__class__") = some true) && decide (PySem.W.mroIn K D (.type "object") = some true)
theorem excCB_of {K : PySem.W.Frag} {D : Addr} (h : excCB K D = true) : ExcC K D := by
  unfold excCB at h
  simp only [Bool.and_eq_true, decide_eq_true_eq] at h
  obtain ⟨⟨⟨⟨⟨⟨⟨h1, h2⟩, h3⟩, h4⟩, h5⟩, h6⟩, h7⟩, h8⟩ := h
  exact ⟨He.eqO_ok h1, He.eqO_ok h2, h3, h4, He.eqO_ok h5, He.eqO_ok h6, h7, h8⟩
def exn1 (K : PySem.W.Frag) (sup : Nat → Nat → Bool) (q : Str × Nat) : Bool := q.1 == ("" : Str) ||
  ((He.Fa.glo q.1).ok K && (He.Fa.exc q.1).ok K && excCB K (He.ga K q.1) && decide (PySem.W.kitOne K (.ref (He.ga K q.1)) (.type "ValueError") = some (sup q.2 99)))
def exn2 (K : PySem.W.Frag) (sup : Nat → Nat → Bool) (q r : Str × Nat) : Bool := q.1 == ("" : Str) || r.1 == ("" : Str) ||
  (decide (PySem.W.exmOne K (.ref (He.ga K q.1)) (.ref (He.ga K r.1)) = some (sup q.2 r.2)) && decide (PySem.W.kitOne K (.ref (He.ga K q.1)) (.ref (He.ga K r.1)) = some (sup q.2 r.2)))
def exnOk (K : PySem.W.Frag) (sup : Nat → Nat → Bool) (exn : List Str) : Bool := exn.zipIdx.all (exn1 K sup) && exn.zipIdx.all fun q => exn.zipIdx.all (exn2 K sup q)
def cvOf (K : PySem.W.Frag) (exn : List Str) (n : Nat) : Value := .ref (He.ga K (exn.getD n ""))
theorem exc_of {G : Gi} {P : Prog} {h : Heap} {mg : Str → Option Value} {exn : List Str} (KX : G.K.In h) (Gn : h.Ns mainGlobals mg) (hv : ∀ n, G.cv n = cvOf G.K exn n) (c : exnOk G.K P.sup exn = true) : ExcOk G P G.K mg exn := by
  unfold exnOk at c
  simp only [Bool.and_eq_true, List.all_eq_true] at c
  have mem : ∀ (n : Nat) (x : Str), exn[n]? = some x → (x, n) ∈ exn.zipIdx := fun n x e => by
    rw [List.mem_zipIdx_iff_getElem?]; exact e
  have cv : ∀ (n : Nat) (x : Str), exn[n]? = some x → G.cv n = .ref (He.ga G.K x) := fun n x e => by
    rw [hv, cvOf, List.getD_eq_getElem?_getD, e]; rfl
  have one : ∀ (n : Nat) (x : Str), exn[n]? = some x → x ≠ "" → (He.Fa.glo x).ok G.K = true ∧ (He.Fa.exc x).ok G.K = true ∧ excCB G.K (He.ga G.K x) = true ∧ PySem.W.kitOne G.K (.ref (He.ga G.K x)) (.type "ValueError") = some (P.sup n 99) := fun n x e hne => by
    have q := c.1 _ (mem n x e)
    unfold exn1 at q
    rw [Bool.or_eq_true] at q
    rcases q with z | z
    · exact absurd (by simpa using z) hne
    · simp only [Bool.and_eq_true, decide_eq_true_eq] at z
      exact ⟨z.1.1.1, z.1.1.2, z.1.2, z.2⟩
  refine ⟨fun n x e hne => ?_, fun n x C e hne hC => ?_, fun n m x y e1 h1 e2 h2 => ?_⟩
  · obtain ⟨a1, a2, a3, a4⟩ := one n x e hne
    unfold He.Fa.ok at a2
    simp only [Bool.and_eq_true, decide_eq_true_eq] at a2
    exact ⟨_, cv n x e, He.glo_ok KX Gn a1, a2.1, a2.2.1, a2.2.2.1, a2.2.2.2⟩
  · obtain ⟨a1, a2, a3, a4⟩ := one n x e hne
    rw [cv n x e] at hC
    cases hC
    exact ⟨excCB_of a3, a4⟩
  · have q := c.2 _ (mem n x e1) _ (mem m y e2)
    unfold exn2 at q
    simp only [Bool.or_eq_true] at q
    rcases q with (z | z) | z
    · exact absurd (by simpa using z) h1
    · exact absurd (by simpa using z) h2
    · simp only [Bool.and_eq_true, decide_eq_true_eq] at z
      rw [cv n x e1, cv m y e2]
      exact z
/-- the classes in K -/
def cls1 (K : PySem.W.Frag) (classes : List CDef) (fld : List Str) (ds : List DText) (p : Str × Nat) : Bool := p.1 == ("" : Str) ||
  ((He.Fa.glo p.1).ok K && (He.Fa.cls p.1).ok K && (He.Fa.mkr p.1).ok K && (fld.all fun y => y == ("" : Str) || (He.Fa.noat p.1 y).ok K) &&
    (match classes[p.2]? with | some cd => (match ds[cd.init]? with | some t => decide (t.mth = (p.2, ("__init__" : Str))) | none => false) | none => false))
def mth1 (K : PySem.W.Frag) (cls fld : List Str) (t : DText) : Bool := !isM t ||
  ((match cls[t.mth.1]? with | some x => !(x == ("" : Str)) && (He.Fa.meth x t.mth.2).ok K | none => false) && !(t.name == ("" : Str)) && !t.hot && !t.lam && decide (t.mth.2.cps.size < 1000) && !(fld.any fun y => y == t.mth.2))
def clsOk (K : PySem.W.Frag) (classes : List CDef) (cls fld : List Str) (ds : List DText) : Bool :=
  cls.zipIdx.all (cls1 K classes fld ds) && ds.all (mth1 K cls fld) && fldB fld && (fld.all (fun y => y == ("" : Str)) || cls.any fun x => !(x == ("" : Str)))
theorem clsN_in {cls : List Str} (h : (cls.any fun x => !(x == ("" : Str))) = true) (k : Nat) : clsN cls k ∈ cls ∧ clsN cls k ≠ "" := by
  have hd : (cls.find? fun y => !(y == ("" : Str))).getD "" ∈ cls ∧ (cls.find? fun y => !(y == ("" : Str))).getD "" ≠ "" := by
    rw [List.any_eq_true] at h
    obtain ⟨x, hx, hn⟩ := h
    cases e : cls.find? fun y => !(y == ("" : Str)) with
    | none =>
      rw [List.find?_eq_none] at e
      exact absurd hn (e x hx)
    | some y =>
      have h1 := List.find?_some e
      exact ⟨List.mem_of_find?_eq_some e, by simpa using h1⟩
  unfold clsN
  cases e : cls[k]? with
  | none => exact hd
  | some x =>
    show (if (x == ("" : Str)) = true then _ else x) ∈ cls ∧ (if (x == ("" : Str)) = true then _ else x) ≠ ""
    by_cases hx : (x == ("" : Str)) = true
    · rw [if_pos hx]; exact hd
    · rw [if_neg hx]
      exact ⟨List.mem_of_getElem? e, by simpa using hx⟩
theorem clsN_at {cls : List Str} {k : Nat} {x : Str} (h : cls[k]? = some x) (hx : x ≠ "") : clsN cls k = x := by
  unfold clsN
  rw [h]
  show (if (x == ("" : Str)) = true then _ else x) = x
  rw [if_neg (by simpa using hx)]
/-- what is asked of K besides: the constants, the tables apart, the exception classes, the classes -/
def exL (sup : Nat → Nat → Bool) (classes : List CDef) (exn cls fld : List Str) (cl : List (Str × PV)) (ds : List DText) (K : PySem.W.Frag) : Bool := ((cl.all (cOk K) && decide ((tabL K ds).map (·.1)).Nodup) && exnOk K sup exn) && clsOk K classes cls fld ds
abbrev hookN (n : Nat) (sup : Nat → Nat → Bool) (classes : List CDef) (exn cls fld : List Str) (cl : List (Str × PV)) (ds : List DText) : PySem.W.Hook := He.hookX n (faL ds) (fnL cls ds) [] (lamL ds) (exL sup classes exn cls fld cl ds)
theorem hcon_of {K : PySem.W.Frag} {h : Heap} {mg : Str → Option Value} {con : List Str} {ps : List PV} {G : Gi} (KX : K.In h) (Gn : h.Ns mainGlobals mg) (hK : K = G.K) (hl : con.length = ps.length) (c : (con.zip ps).all (cOk K) = true) :
    ∀ (i : Nat) (x : Str), con[i]? = some x → x ≠ "" → ∃ p v u, ps[i]? = some p ∧ mg x = some u ∧ RelV v u ∧ Always G p v := by
  intro i x e hne
  have hi : i < ps.length := by rw [← hl]; exact (List.getElem?_eq_some_iff.mp e).1
  rw [List.all_eq_true] at c
  have := c (x, ps[i]) (List.mem_of_getElem? (i := i) (by rw [List.getElem?_zip_eq_some]; exact ⟨e, List.getElem?_eq_getElem hi⟩))
  unfold cOk at this
  rw [Bool.or_eq_true] at this
  rcases this with z | z
  · exact absurd (by simpa using z) hne
  · split at z
    · rename_i u e2
      rw [hK] at z
      obtain ⟨r1, r2⟩ := pvB_ok z
      exact ⟨_, _, u, List.getElem?_eq_getElem hi, PySem.W.mg_of KX Gn e2, r1, r2⟩
    · cases z

theorem nodup_fst {α β : Type} : ∀ {l : List (α × β)}, (l.map (·.1)).Nodup → ∀ {a : α} {b c : β}, (a, b) ∈ l → (a, c) ∈ l → b = c
  | [], _, a, b, c, h, _ => by cases h
  | (x, y) :: l, hn, a, b, c, h1, h2 => by
    rw [List.map_cons, List.nodup_cons] at hn
    rcases List.mem_cons.mp h1 with e1 | h1
    · cases e1
      rcases List.mem_cons.mp h2 with e2 | h2
      · cases e2; rfl
      · exact absurd (List.mem_map.mpr ⟨_, h2, rfl⟩) hn.1
    · rcases List.mem_cons.mp h2 with e2 | h2
      · cases e2
        exact absurd (List.mem_map.mpr ⟨_, h1, rfl⟩) hn.1
      · exact nodup_fst hn.2 h1 h2
section
variable {P : Program} {w : World} {K : PySem.W.Frag} {mg : Str → Option Value} {h : Heap} {G : Gi} {PR : Prog}
theorem codeV_of {f : Addr} {t : DText} {fd : FuncData} (F : FunD K t.plain t.name t.args t.body t.scope [] [] f fd) (ha : He.fAd K (t.name, none) = f) : codeV K f = .ref (He.codeOf K (t.name, none)) := by
  obtain ⟨oc, od, dV, kV, doc, pm, an, cdv, ct, osl, rfl, lk, hcd, _, _⟩ := F.ex
  obtain ⟨c, rfl⟩ := He.codeIn_ref hcd
  have e : He.codeOf K (t.name, none) = c := He.codeOf_eq (p := (t.name, none)) (by rw [ha]; exact lk) rfl
  rw [e]
  unfold codeV
  rw [lk]
theorem law_fn {con exn cls fld : List Str} {ds : List DText} {cl : List (Str × PV)} {n li : Nat} {d : FDef} {t : DText} {f : Addr} (KX : K.In h) (Gn : h.Ns mainGlobals mg) (cx : He.SaysX (faL ds) (fnL cls ds) [] (lamL ds) (exL PR.sup PR.classes exn cls fld cl ds) w h K)
    (hl : PR.funs.length = ds.length) (hc : (PR.funs.zip ds).all (fun q => q.2.name == ("" : Str) || chkD con exn cls fld ds q.1 q.2) = true)
    (hK : K = G.K) (hT : G.T = tabL K ds) (hv : ∀ n, G.cv n = cvOf K exn n) (hcA : ∀ k, G.cA k = He.ga K (clsN cls k)) (hfN : ∀ f, G.fN f = fNo fld f) (hcon : ∀ (i : Nat) (x : Str), con[i]? = some x → x ≠ "" → ∃ p v u, PR.consts[i]? = some p ∧ mg x = some u ∧ RelV v u ∧ Always G p v)
    (h1 : PR.funs[li]? = some d) (h2 : ds[li]? = some t) (hps : psOf t.args = some [("_law_script" : Str)]) (hne : t.name ≠ "") (hht : t.hot = false) (hmt : t.mth.2 = "") (hfa : mg t.name = some (.ref f)) :
    ∃ fd : FuncData, (∀ (s : Shared) (v : Value), BindsTo s fd ⟨[v], []⟩ [("_law_script", v)]) ∧ ∀ base : Heap, K.In base → base.Ns mainGlobals mg → (∀ p ∈ csL K ds, LamX.TabB base mg p.1 p.2) → FnOk P w K mg base (L2.CX P w) (8 * n) f fd ["_law_script"] (spOf G (callF PR n) li) := by
  have c := cx.t.d
  have fact : ∀ x ∈ faL ds, x.ok K = true := fun x hx => c.facts hx
  have hblt : ∀ x ∈ bltN, mg x = none := fun x hx => He.free_ok KX Gn (fact _ (List.mem_append_right _ (List.mem_map_of_mem hx)))
  have hmem : ∀ t ∈ ds, t.name ≠ "" → t ∈ real ds := fun t ht hne => List.mem_filter.mpr ⟨ht, by simpa using hne⟩
  have hglo : ∀ t ∈ ds, t.name ≠ "" → t.mth.2 = "" → mg t.name = some (.ref (He.ga K t.name)) := fun t ht hne hm => He.glo_ok KX Gn (fact _ (List.mem_append_left _ (List.mem_map.mpr ⟨t, List.mem_filter.mpr ⟨hmem t ht hne, by simp [isM, hm]⟩, rfl⟩)))
  have hex := cx.more
  unfold exL at hex
  rw [Bool.and_eq_true, Bool.and_eq_true, Bool.and_eq_true, decide_eq_true_eq] at hex
  have hco := hex.2
  unfold clsOk at hco
  simp only [Bool.and_eq_true, Bool.or_eq_true, List.all_eq_true] at hco
  obtain ⟨⟨⟨hc1, hc2⟩, hc3⟩, hc4⟩ := hco
  have hnm : NamesApart G := fN_apart hfN hc3
  have one : ∀ (k : Nat) (x : Str), cls[k]? = some x → x ≠ "" → (He.Fa.glo x).ok K = true ∧ (He.Fa.cls x).ok K = true ∧ (He.Fa.mkr x).ok K = true ∧ (∀ y ∈ fld, y ≠ "" → (He.Fa.noat x y).ok K = true) ∧ ∃ cd t, PR.classes[k]? = some cd ∧ ds[cd.init]? = some t ∧ t.mth = (k, ("__init__" : Str)) := fun k x e hx => by
    have q := hc1 (x, k) (by rw [List.mem_zipIdx_iff_getElem?]; exact e)
    unfold cls1 at q
    rw [Bool.or_eq_true] at q
    rcases q with z | z
    · exact absurd (by simpa using z) hx
    · simp only [Bool.and_eq_true, List.all_eq_true] at z
      obtain ⟨⟨⟨⟨z1, z2⟩, z3⟩, z4⟩, z5⟩ := z
      refine ⟨z1, z2, z3, fun y hy hne => ?_, ?_⟩
      · have := z4 y hy
        rw [Bool.or_eq_true] at this
        rcases this with w | w
        · exact absurd (by simpa using w) hne
        · exact w
      · split at z5
        · rename_i cd e1
          split at z5
          · rename_i t e2
            exact ⟨cd, t, e1, e2, by simpa using z5⟩
          · cases z5
        · cases z5
  have mone : ∀ t ∈ ds, t.mth.2 ≠ "" → (∃ x, cls[t.mth.1]? = some x ∧ x ≠ "" ∧ (He.Fa.meth x t.mth.2).ok K = true) ∧ t.name ≠ "" ∧ t.hot = false ∧ t.lam = false ∧ t.mth.2.cps.size < 1000 ∧ t.mth.2 ∉ fld := fun t ht hm => by
    have q := hc2 t ht
    unfold mth1 at q
    have hM : isM t = true := by simp [isM, hm]
    rw [hM] at q
    simp only [Bool.not_true, Bool.false_or, Bool.and_eq_true, Bool.not_eq_true', decide_eq_true_eq] at q
    obtain ⟨⟨⟨⟨⟨q1, q2⟩, q3⟩, q4⟩, q5⟩, q6⟩ := q
    refine ⟨?_, by simpa using q2, q3, q4, q5, fun hmm => ?_⟩
    · split at q1
      · rename_i x e
        rw [Bool.and_eq_true] at q1
        exact ⟨x, e, by simpa using q1.1, q1.2⟩
      · cases q1
    · rw [List.any_eq_false] at q6
      exact q6 _ hmm (by simp)
  have hdef : ∀ (i : Nat) (t : DText), ds[i]? = some t → t.name ≠ "" → ∃ f fd, AtD K mg G t f ∧ FunD K t.plain t.name t.args t.body t.scope [] [] f fd := fun i t e hne => by
    have ht := List.mem_of_getElem? e
    obtain ⟨fd, F⟩ := c.defs (d := dd cls t) (List.mem_map.mpr ⟨t, hmem t ht hne, rfl⟩)
    by_cases hm : t.mth.2 = ""
    · have hM : isM t = false := by simp [isM, hm]
      unfold dd at F
      rw [hM] at F
      exact ⟨_, fd, ⟨fun _ => hglo t ht hne hm, fun z => absurd hm z⟩, F⟩
    · have hM : isM t = true := by simp [isM, hm]
      obtain ⟨⟨x, e1, hx, e2⟩, _, _, _, e5, e6⟩ := mone t ht hm
      unfold dd at F
      rw [hM, if_pos rfl, clsN_at e1 hx] at F
      have cx1 := one _ x e1 hx
      refine ⟨_, fd, ⟨fun z => absurd z hm, fun _ => ⟨?_, ?_, fN_not hfN e6 e5⟩⟩, F⟩
      · rw [hcA, clsN_at e1 hx]
        exact He.meth_ok e2
      · rw [hcA, clsN_at e1 hx]
        exact He.cls_ok cx1.2.1
  have hfl : ∀ (f : Nat) (y : Str), fld[f]? = some y → y ≠ "" → G.fN f = y ∧ ∀ k, Cls K (G.cA k) ∧ NoAttr K (G.cA k) y := fun f y e hy => by
    have hmem : y ∈ fld := List.mem_of_getElem? e
    refine ⟨?_, fun k => ?_⟩
    · rw [hfN]
      rcases fNo_cases fld f with ⟨z, e1, _, n1⟩ | n1
      · rw [e] at e1; cases e1; exact n1
      · unfold fNo at n1 ⊢
        rw [e]
        show (if (y == ("" : Str)) = true then padN f else y) = y
        rw [if_neg (by simpa using hy)]
    · have ha : (cls.any fun x => !(x == ("" : Str))) = true := by
        rcases hc4 with z | z
        · exact absurd (by simpa using z y hmem) hy
        · exact z
      obtain ⟨k1, k2⟩ := clsN_in ha k
      obtain ⟨i, hi, ei⟩ := List.getElem_of_mem k1
      have q := one i _ (by rw [List.getElem?_eq_getElem hi, ei]) k2
      rw [hcA]
      exact ⟨He.cls_ok q.2.1, He.noat_ok (q.2.2.2.1 y hmem hy)⟩
  have hmts : ∀ (i : Nat) (t : DText), ds[i]? = some t → t.mth.2 ≠ "" → t.name ≠ "" ∧ t.hot = false := fun i t e hm => by
    have q := mone t (List.mem_of_getElem? e) hm
    exact ⟨q.2.1, q.2.2.1⟩
  have hcls : ∀ (k : Nat) (x : Str), cls[k]? = some x → x ≠ "" → ∃ cd t f, PR.classes[k]? = some cd ∧ ds[cd.init]? = some t ∧ t.mth = (k, ("__init__" : Str)) ∧ mg x = some (.ref (G.cA k)) ∧ Mk K (G.cA k) f := fun k x e hx => by
    obtain ⟨q1, q2, q3, q4, cd, t, q5, q6, q7⟩ := one k x e hx
    refine ⟨cd, t, He.ma K (He.ga K x) "__init__", q5, q6, q7, ?_, ?_⟩
    · rw [hcA, clsN_at e hx]
      exact He.glo_ok KX Gn q1
    · rw [hcA, clsN_at e hx]
      exact He.mkr_ok q3
  have hlam : ∀ base : Heap, (∀ p ∈ csL K ds, LamX.TabB base mg p.1 p.2) → ∀ (i : Nat) (t : DText) (f : Addr), ds[i]? = some t → t.lam = true → t.name ≠ "" → AtD K mg G t f → ∃ c P, LamX.TabB base mg c P ∧ codeV K f = .ref c ∧ (P, (t.name ++ ".<locals>.") ++ "<lambda>") ∈ G.T ∧ ∀ p ∈ G.T, p.1 = P → p.2 = (t.name ++ ".<locals>.") ++ "<lambda>" := by
    intro base hb i t f e hl hne ha
    have ht := List.mem_of_getElem? e
    have hm0 : t.mth.2 = "" := by
      by_cases z : t.mth.2 = ""
      · exact z
      · have := (mone t ht z).2.2.2.1
        rw [hl] at this; cases this
    have hm := ha.1 hm0
    have hp : ((t.name, none) : He.Defn) ∈ lamL ds := List.mem_map.mpr ⟨t, List.mem_filter.mpr ⟨hmem t ht hne, hl⟩, rfl⟩
    obtain ⟨fd, F⟩ := c.defs (d := dd cls t) (List.mem_map.mpr ⟨t, hmem t ht hne, rfl⟩)
    have hM : isM t = false := by simp [isM, hm0]
    unfold dd at F
    rw [hM] at F
    have hmf := hglo t ht hne hm0
    rw [hm] at hmf
    cases hmf
    have hT1 : ((He.cT K (t.name, none)).2, (t.name ++ ".<locals>.") ++ "<lambda>") ∈ tabL K ds := List.mem_map.mpr ⟨_, hp, rfl⟩
    refine ⟨_, _, hb _ (List.mem_map.mpr ⟨_, hp, rfl⟩), codeV_of F rfl, by rw [hT]; exact hT1, fun p hp2 e2 => ?_⟩
    rw [hT] at hp2
    obtain ⟨a, b⟩ := p
    dsimp only at e2
    subst e2
    exact nodup_fst hex.1.1.2 hp2 hT1
  obtain ⟨i0, hi0⟩ : ∃ i, ds[i]? = some t := ⟨li, h2⟩
  have hd0 := hdef li t h2 hne
  obtain ⟨f0, fd0, hm0, F0⟩ := hd0
  have hm0 := hm0.1 hmt
  rw [hfa] at hm0
  cases hm0
  obtain ⟨as, ea, eb⟩ := psOf_eq hps
  refine ⟨fd0, fun s v => ?_, fun base hb1 hb2 hb3 => ?_⟩
  · refine FunD.bindsA (ps := [("_law_script" : Str)]) F0 (fun kV doc pm an cdv ct us hu => ?_) s [v] rfl
    rw [ea, eb]
    rw [eb] at hu
    refine bind_plain ?_ hu
    rw [← eb]
    decide
  · obtain ⟨f1, fd1, ps1, b1, b2, b3, b4, b5, b6, _⟩ := all_ok (P := P) (w := w) (base := base) hl hc hK hcon hblt (by subst hK; exact exc_of KX Gn hv hex.1.2) hdef hnm hfl hmts hcls (hlam base hb3) n li d t h1 h2 hne
    rw [hps] at b1
    cases b1
    have b2 := b2.1 hmt
    rw [hfa] at b2
    cases b2
    -- the same function object
    obtain ⟨oc, od, dV, kV, doc, pm, an, cdv, ct, osl, e1, l1, _⟩ := F0.ex
    obtain ⟨oc', od', dV', kV', doc', pm', an', cdv', ct', osl', e1', l1', _⟩ := b5.ex
    rw [l1] at l1'
    cases l1'
    exact b6 hht
/-- the heap without its tables -/
def noTab (H : Hp) : Hp := fun b => match H b with
  | some (.tbl _) => none
  | o => o
theorem noTab_same (H : Hp) : Same (noTab H) H := fun b o e => by
  unfold noTab at e
  split at e
  · cases e
  · exact e
theorem noTab_ft (H : Hp) : ∀ b ps, noTab H b ≠ some (.tbl ps) := fun b ps e => by
  unfold noTab at e
  split at e
  · cases e
  · rename_i h
    exact h ps e
theorem noTab_sq {H : Hp} {a : Addr} {xs : List V} (h : SqL K H a xs) : SqL K (noTab H) a xs := by
  rcases h with (h | ⟨o, h⟩) | h
  · exact .inl (.inl (by unfold noTab; rw [h]))
  · exact .inl (.inr ⟨o, by unfold noTab; rw [h]⟩)
  · exact .inr h
/-- what the row's end asks of the promise -/
theorem law_sp {n li : Nat} {H : Hp} {a : Addr} {ns : List Int} {ds : List DText} (hK : K = G.K) (hT : G.T = tabL K ds) (ht : ∀ p ∈ csL K ds, H p.2 = some (.tbl #[])) (hS : SqL K H a (ns.map V.int)) (h : callF PR n li [.scr ns] [] = .ok (.bl true) []) : spOf G (callF PR n) li [.ref a] H (fun v _ => v = .bl true) fun _ _ _ => False := by
  have tb : LamX.Tabs G.T H := fun p hp => by
    rw [hT] at hp
    obtain ⟨q, hq, rfl⟩ := List.mem_map.mp hp
    exact LamX.TabS.nil (ht _ (List.mem_map.mpr ⟨q, hq, rfl⟩))
  refine ⟨[], noTab H, [], [], [.scr ns], stOk0 (noTab_same H) (noTab_ft H) tb, .cons (.scr (by rw [← hK]; exact noTab_sq hS)) .nil, ?_⟩
  rw [h]
  intro F' H' am' x s v r
  cases r
  rfl
theorem cx_noE {H : Hp} {s s' : Shared} {e : Value} (h : L2.CX P w [] H s (fun _ _ _ => False) e s') : False := by
  obtain ⟨a, B, H', cls, d, _, _, _, _, _, _, _, z⟩ := h
  exact z
/-- all that the row's end asks -/
theorem law_at {l : PySem.W.OpenLaw} {con exn cls fld : List Str} {ds : List DText} {cl : List (Str × PV)} {n k li : Nat} {d : FDef} {t : DText} {f : Addr} (hk : 8 * n ≤ k) (KX : K.In h) (Gn : h.Ns mainGlobals mg) (cx : He.SaysX (faL ds) (fnL cls ds) [] (lamL ds) (exL PR.sup PR.classes exn cls fld cl ds) w h K)
    (hl : PR.funs.length = ds.length) (hc : (PR.funs.zip ds).all (fun q => q.2.name == ("" : Str) || chkD con exn cls fld ds q.1 q.2) = true) (hcl : con.length = PR.consts.length) (ecl : cl = con.zip PR.consts)
    (h1 : PR.funs[li]? = some d) (h2 : ds[li]? = some t) (hps : psOf t.args = some [("_law_script" : Str)]) (hne : t.name ≠ "") (hht : t.hot = false) (hmt : t.mth.2 = "") (hfa : mg t.name = some (.ref f))
    (pure_law : ∀ ns : List Int, ns.length ≤ 63 → callF PR n li [.scr ns] [] = .ok (.bl true) []) :
    LamX.LawAtS l w K (L2.CX l.prog w) k 63 "_law_script" mg f h := by
  have hex := cx.more
  unfold exL at hex
  rw [Bool.and_eq_true, Bool.and_eq_true, Bool.and_eq_true] at hex
  have hcon := hcon_of (G := ⟨K, fun k => He.ga K (clsN cls k), fNo fld, cvOf K exn, tabL K ds⟩) (ps := PR.consts) KX Gn rfl hcl (by rw [← ecl]; exact hex.1.1.1)
  obtain ⟨fd, hb, hF⟩ := law_fn (P := l.prog) (G := ⟨K, fun k => He.ga K (clsN cls k), fNo fld, cvOf K exn, tabL K ds⟩) (n := n) (li := li) KX Gn cx hl hc rfl rfl (fun _ => rfl) (fun _ => rfl) (fun _ => rfl) hcon h1 h2 hps hne hht hmt hfa
  refine ⟨fd, csL K ds, spOf ⟨K, fun k => He.ga K (clsN cls k), fNo fld, cvOf K exn, tabL K ds⟩ (callF PR n) li, fun p hp => ?_, fun p hp => ?_, fun p hp => ?_, hb, fun H a ns hn _ ht hS => law_sp rfl rfl ht hS (pure_law ns hn), fun base a b c => (hF base a b c).mono hk⟩
  · obtain ⟨q, hq, rfl⟩ := List.mem_map.mp hp
    exact cx.empty q hq
  · obtain ⟨q, hq, rfl⟩ := List.mem_map.mp hp
    exact cx.out q hq
  · obtain ⟨q, hq, rfl⟩ := List.mem_map.mp hp
    exact PySem.W.codeHd_of_K KX (cx.hd q hq)
end
end NR

/-! M1: what the evaluator answers, step by step. -/
namespace NR
section
variable {P : Prog} {cs : CallS} {env : EnvP} {μ : Sto}
@[simp] theorem x_var (i : Nat) : ev P cs (.var i) env μ = match env[i]? with | some (some p) => .ok p μ | _ => .bad := by rw [ev] <;> rfl
@[simp] theorem x_con (p : PV) : ev P cs (.con p) env μ = .ok p μ := by rw [ev] <;> rfl
@[simp] theorem x_glo (i : Nat) : ev P cs (.glo i) env μ = match P.consts[i]? with | some p => .ok p μ | none => .bad := by rw [ev] <;> rfl
@[simp] theorem x_tup (es : List CE) : ev P cs (.tup es) env μ = (evs P cs es env μ).bind fun ps μ => if ps.length ≤ SL then .ok (.tup ps) μ else .bad := by rw [ev] <;> rfl
@[simp] theorem x_lst (es : List CE) : ev P cs (.lst es) env μ = (evs P cs es env μ).bind fun ps μ => if ps.length ≤ SL then .ok (.lst ps) μ else .bad := by rw [ev] <;> rfl
@[simp] theorem x_newl (es : List CE) : ev P cs (.newl es) env μ = (evs P cs es env μ).bind fun ps μ => if ps.length ≤ SL then mkLst true ps μ else .bad := by rw [ev] <;> rfl
@[simp] theorem x_bin (op : BOp) (a b : CE) : ev P cs (.bin op a b) env μ = (ev P cs a env μ).bind fun p μ => (ev P cs b env μ).bind fun q μ => opBin op p q μ := by rw [ev] <;> rfl
@[simp] theorem x_cmp (op : COp) (a b : CE) : ev P cs (.cmp op a b) env μ = (ev P cs a env μ).bind fun p μ => (ev P cs b env μ).bind fun q μ => opCmp op p q μ := by rw [ev] <;> rfl
@[simp] theorem x_and (a b : CE) : ev P cs (.and a b) env μ = (ev P cs a env μ).bind fun p μ => match truth μ p with | some true => ev P cs b env μ | some false => .ok p μ | none => .bad := by rw [ev] <;> rfl
@[simp] theorem x_or (a b : CE) : ev P cs (.or a b) env μ = (ev P cs a env μ).bind fun p μ => match truth μ p with | some true => .ok p μ | some false => ev P cs b env μ | none => .bad := by rw [ev] <;> rfl
@[simp] theorem x_not (a : CE) : ev P cs (.not a) env μ = (ev P cs a env μ).bind fun p μ => match truth μ p with | some b => .ok (.bl (!b)) μ | none => .bad := by rw [ev] <;> rfl
@[simp] theorem x_ite (c a b : CE) : ev P cs (.ite c a b) env μ = (ev P cs c env μ).bind fun p μ => match truth μ p with | some true => ev P cs a env μ | some false => ev P cs b env μ | none => .bad := by rw [ev] <;> rfl
@[simp] theorem x_isi (e : CE) (ks : List Nat) : ev P cs (.isi e ks) env μ = (ev P cs e env μ).bind fun p μ => if hasKind (see μ p) then .ok (.bl (ks.any (isKind P.sup (see μ p)))) μ else .bad := by rw [ev] <;> rfl
@[simp] theorem x_call (f : Nat) (args : List CE) : ev P cs (.call f args) env μ = (evs P cs args env μ).bind fun ps μ => cs f ps μ := by rw [ev] <;> rfl
@[simp] theorem x_b1 (op : B1) (a : CE) : ev P cs (.b1 op a) env μ = (ev P cs a env μ).bind fun p μ => opB1 op p μ := by rw [ev] <;> rfl
@[simp] theorem x_b2 (op : B2) (a b : CE) : ev P cs (.b2 op a b) env μ = (ev P cs a env μ).bind fun p μ => (ev P cs b env μ).bind fun q μ => opB2 op p q μ := by rw [ev] <;> rfl
@[simp] theorem x_m (op : MOp) (o : CE) (args : List CE) : ev P cs (.m op o args) env μ = (ev P cs o env μ).bind fun p μ => if recv op p μ then (evs P cs args env μ).bind fun ps μ => opM op p ps μ else .bad := by rw [ev] <;> rfl
@[simp] theorem x_idx (a i : CE) : ev P cs (.idx a i) env μ = (ev P cs a env μ).bind fun p μ => (ev P cs i env μ).bind fun q μ => opIdx p q μ := by rw [ev] <;> rfl
@[simp] theorem x_sl (a : CE) (lo hi : Option CE) : ev P cs (.sl a lo hi) env μ = (ev P cs a env μ).bind fun p μ => (evo P cs lo env μ).bind fun l μ => (evo P cs hi env μ).bind fun h μ => opSl p l h μ := by rw [ev] <;> rfl
@[simp] theorem x_nil : evs P cs [] env μ = .ok [] μ := by rw [evs] <;> rfl
@[simp] theorem x_cons (e : CE) (es : List CE) : evs P cs (e :: es) env μ = (ev P cs e env μ).bind fun p μ => (evs P cs es env μ).bind fun ps μ => .ok (p :: ps) μ := by rw [evs] <;> rfl
@[simp] theorem x_onone : evo P cs none env μ = .ok none μ := by rw [evo] <;> rfl
@[simp] theorem x_osome (e : CE) : evo P cs (some e) env μ = (ev P cs e env μ).bind fun p μ => match p with | .int i => .ok (some i) μ | _ => .bad := by rw [evo] <;> rfl
@[simp] theorem x_seq (e : CE) : evi P cs (.seq e) env μ = (ev P cs e env μ).bind fun p μ => srcSeq p μ := by rw [evi] <;> rfl
@[simp] theorem x_rng1 (a : CE) : evi P cs (.rng1 a) env μ = (ev P cs a env μ).bind fun p μ => srcRng1 p μ := by rw [evi] <;> rfl
@[simp] theorem x_rng2 (a b : CE) : evi P cs (.rng2 a b) env μ = (ev P cs a env μ).bind fun p μ => (ev P cs b env μ).bind fun q μ => srcRng2 p q μ := by rw [evi] <;> rfl
@[simp] theorem x_enum (e : CE) : evi P cs (.enum e) env μ = (ev P cs e env μ).bind fun p μ => srcEnum p μ := by rw [evi] <;> rfl
@[simp] theorem x_zip (a b : CE) : evi P cs (.zip a b) env μ = (ev P cs a env μ).bind fun p μ => (ev P cs b env μ).bind fun q μ => srcZip p q μ := by rw [evi] <;> rfl
/-! ### statements -/
@[simp] theorem y_expr (e : CE) : exec P cs (.expr e) env μ = RS.of env (ev P cs e env μ) fun _ μ => .nx env μ := by rw [exec] <;> rfl
@[simp] theorem y_asg (p : Pat) (e : CE) : exec P cs (.asg p e) env μ = RS.of env (ev P cs e env μ) fun x μ => match setPat p x env with | some env' => .nx env' μ | none => .bad := by rw [exec] <;> rfl
@[simp] theorem y_ite (c : CE) (a b : List CS) : exec P cs (.ite c a b) env μ = RS.of env (ev P cs c env μ) fun p μ => match truth μ p with | some true => execs P cs a env μ | some false => execs P cs b env μ | none => .bad := by rw [exec] <;> rfl
theorem y_for (p : Pat) (it : CI) (body : List CS) : exec P cs (.forr p it body) env μ = RS.of env (evi P cs it env μ) fun src μ => forLoop src (fun x env μ => match setPat p x env with | some env' => execs P cs body env' μ | none => .bad) (src.most μ) 0 env μ := by rw [exec] <;> rfl
@[simp] theorem y_ret (e : CE) : exec P cs (.ret e) env μ = RS.of env (ev P cs e env μ) fun p μ => .rt p μ := by rw [exec] <;> rfl
@[simp] theorem y_retn : exec P cs .retn env μ = .rt .non μ := by rw [exec] <;> rfl
@[simp] theorem y_pass : exec P cs .pass env μ = .nx env μ := by rw [exec] <;> rfl
@[simp] theorem y_nil : execs P cs [] env μ = .nx env μ := by rw [execs] <;> rfl
@[simp] theorem y_cons (s : CS) (ss : List CS) : execs P cs (s :: ss) env μ = (exec P cs s env μ).andThen fun env μ => execs P cs ss env μ := by rw [execs] <;> rfl
@[simp] theorem of_ok {α : Type} (a : α) (k : α → Sto → RS) : RS.of env (.ok a μ) k = k a μ := rfl
@[simp] theorem of_exn {α : Type} (c : Nat) (k : α → Sto → RS) : RS.of env (.exn c μ : R α) k = .exn c env μ := rfl
@[simp] theorem then_nx (k : EnvP → Sto → RS) : (RS.nx env μ).andThen k = k env μ := rfl
@[simp] theorem then_rt (p : PV) (k : EnvP → Sto → RS) : (RS.rt p μ).andThen k = .rt p μ := rfl
@[simp] theorem then_exn (c : Nat) (k : EnvP → Sto → RS) : (RS.exn c env μ).andThen k = .exn c env μ := rfl
@[simp] theorem end_nx : endOf (.nx env μ) = .ok .non μ := rfl
@[simp] theorem end_rt (p : PV) : endOf (.rt p μ) = .ok p μ := rfl
@[simp] theorem end_exn (c : Nat) : endOf (.exn c env μ) = .exn c μ := rfl
@[simp] theorem pat_v (i : Nat) (p : PV) : setPat (.v i) p env = some (env.set i (some p)) := by rw [setPat]
@[simp] theorem pat_t (ps : List Pat) (xs : List PV) : setPat (.t ps) (.tup xs) env = setPats ps xs env := by rw [setPat]
@[simp] theorem pats_nil : setPats [] [] env = some env := by rw [setPats]
@[simp] theorem pats_cons (p : Pat) (ps : List Pat) (x : PV) (xs : List PV) : setPats (p :: ps) (x :: xs) env = (setPat p x env).bind fun e => setPats ps xs e := by rw [setPats]
/-! ### small sizes -/
@[simp] theorem lit0 : (0 : Nat) ≤ SL := by unfold SL; omega
@[simp] theorem lit1 : (1 : Nat) ≤ SL := by unfold SL; omega
@[simp] theorem lit2 : (2 : Nat) ≤ SL := by unfold SL; omega
@[simp] theorem lit3 : (3 : Nat) ≤ SL := by unfold SL; omega
@[simp] theorem lit4 : (4 : Nat) ≤ SL := by unfold SL; omega
@[simp] theorem lit5 : (5 : Nat) ≤ SL := by unfold SL; omega
@[simp] theorem lit6 : (6 : Nat) ≤ SL := by unfold SL; omega
@[simp] theorem lit7 : (7 : Nat) ≤ SL := by unfold SL; omega
@[simp] theorem lit8 : (8 : Nat) ≤ SL := by unfold SL; omega
@[simp] theorem lit9 : (9 : Nat) ≤ SL := by unfold SL; omega
@[simp] theorem lit10 : (10 : Nat) ≤ SL := by unfold SL; omega
@[simp] theorem lit11 : (11 : Nat) ≤ SL := by unfold SL; omega
@[simp] theorem lit12 : (12 : Nat) ≤ SL := by unfold SL; omega
@[simp] theorem lit13 : (13 : Nat) ≤ SL := by unfold SL; omega
@[simp] theorem lit14 : (14 : Nat) ≤ SL := by unfold SL; omega
@[simp] theorem lit15 : (15 : Nat) ≤ SL := by unfold SL; omega
@[simp] theorem lit16 : (16 : Nat) ≤ SL := by unfold SL; omega
@[simp] theorem lit17 : (17 : Nat) ≤ SL := by unfold SL; omega
@[simp] theorem lit18 : (18 : Nat) ≤ SL := by unfold SL; omega
@[simp] theorem lit19 : (19 : Nat) ≤ SL := by unfold SL; omega
@[simp] theorem lit20 : (20 : Nat) ≤ SL := by unfold SL; omega
@[simp] theorem lit21 : (21 : Nat) ≤ SL := by unfold SL; omega
@[simp] theorem lit22 : (22 : Nat) ≤ SL := by unfold SL; omega
@[simp] theorem lit23 : (23 : Nat) ≤ SL := by unfold SL; omega
@[simp] theorem lit24 : (24 : Nat) ≤ SL := by unfold SL; omega
@[simp] theorem lit25 : (25 : Nat) ≤ SL := by unfold SL; omega
@[simp] theorem lit26 : (26 : Nat) ≤ SL := by unfold SL; omega
@[simp] theorem lit27 : (27 : Nat) ≤ SL := by unfold SL; omega
@[simp] theorem lit28 : (28 : Nat) ≤ SL := by unfold SL; omega
@[simp] theorem lit29 : (29 : Nat) ≤ SL := by unfold SL; omega
@[simp] theorem lit30 : (30 : Nat) ≤ SL := by unfold SL; omega
@[simp] theorem lit31 : (31 : Nat) ≤ SL := by unfold SL; omega
@[simp] theorem lit32 : (32 : Nat) ≤ SL := by unfold SL; omega
@[simp] theorem lit33 : (33 : Nat) ≤ SL := by unfold SL; omega
@[simp] theorem lit34 : (34 : Nat) ≤ SL := by unfold SL; omega
@[simp] theorem lit35 : (35 : Nat) ≤ SL := by unfold SL; omega
@[simp] theorem lit36 : (36 : Nat) ≤ SL := by unfold SL; omega
@[simp] theorem lit37 : (37 : Nat) ≤ SL := by unfold SL; omega
@[simp] theorem lit38 : (38 : Nat) ≤ SL := by unfold SL; omega
@[simp] theorem lit39 : (39 : Nat) ≤ SL := by unfold SL; omega
@[simp] theorem lit40 : (40 : Nat) ≤ SL := by unfold SL; omega
@[simp] theorem ltt0 : (0 : Nat) < SL := by unfold SL; omega
@[simp] theorem ltt1 : (1 : Nat) < SL := by unfold SL; omega
@[simp] theorem ltt2 : (2 : Nat) < SL := by unfold SL; omega
@[simp] theorem ltt3 : (3 : Nat) < SL := by unfold SL; omega
@[simp] theorem ltt4 : (4 : Nat) < SL := by unfold SL; omega
@[simp] theorem ltt5 : (5 : Nat) < SL := by unfold SL; omega
@[simp] theorem ltt6 : (6 : Nat) < SL := by unfold SL; omega
@[simp] theorem ltt7 : (7 : Nat) < SL := by unfold SL; omega
@[simp] theorem ltt8 : (8 : Nat) < SL := by unfold SL; omega
@[simp] theorem ltt9 : (9 : Nat) < SL := by unfold SL; omega
@[simp] theorem ltt10 : (10 : Nat) < SL := by unfold SL; omega
@[simp] theorem ltt11 : (11 : Nat) < SL := by unfold SL; omega
@[simp] theorem ltt12 : (12 : Nat) < SL := by unfold SL; omega
@[simp] theorem ltt13 : (13 : Nat) < SL := by unfold SL; omega
@[simp] theorem ltt14 : (14 : Nat) < SL := by unfold SL; omega
@[simp] theorem ltt15 : (15 : Nat) < SL := by unfold SL; omega
@[simp] theorem ltt16 : (16 : Nat) < SL := by unfold SL; omega
@[simp] theorem ltt17 : (17 : Nat) < SL := by unfold SL; omega
@[simp] theorem ltt18 : (18 : Nat) < SL := by unfold SL; omega
@[simp] theorem ltt19 : (19 : Nat) < SL := by unfold SL; omega
@[simp] theorem ltt20 : (20 : Nat) < SL := by unfold SL; omega
@[simp] theorem ltt21 : (21 : Nat) < SL := by unfold SL; omega
@[simp] theorem ltt22 : (22 : Nat) < SL := by unfold SL; omega
@[simp] theorem ltt23 : (23 : Nat) < SL := by unfold SL; omega
@[simp] theorem ltt24 : (24 : Nat) < SL := by unfold SL; omega
@[simp] theorem ltt25 : (25 : Nat) < SL := by unfold SL; omega
@[simp] theorem ltt26 : (26 : Nat) < SL := by unfold SL; omega
@[simp] theorem ltt27 : (27 : Nat) < SL := by unfold SL; omega
@[simp] theorem ltt28 : (28 : Nat) < SL := by unfold SL; omega
@[simp] theorem ltt29 : (29 : Nat) < SL := by unfold SL; omega
@[simp] theorem ltt30 : (30 : Nat) < SL := by unfold SL; omega
@[simp] theorem ltt31 : (31 : Nat) < SL := by unfold SL; omega
@[simp] theorem ltt32 : (32 : Nat) < SL := by unfold SL; omega
@[simp] theorem ltt33 : (33 : Nat) < SL := by unfold SL; omega
@[simp] theorem ltt34 : (34 : Nat) < SL := by unfold SL; omega
@[simp] theorem ltt35 : (35 : Nat) < SL := by unfold SL; omega
@[simp] theorem ltt36 : (36 : Nat) < SL := by unfold SL; omega
@[simp] theorem ltt37 : (37 : Nat) < SL := by unfold SL; omega
@[simp] theorem ltt38 : (38 : Nat) < SL := by unfold SL; omega
@[simp] theorem ltt39 : (39 : Nat) < SL := by unfold SL; omega
@[simp] theorem ltt40 : (40 : Nat) < SL := by unfold SL; omega
/-! ### operations -/
@[simp] theorem o_addI (i j : Int) : opBin .add (.int i) (.int j) μ = .ok (.int (i + j)) μ := rfl
@[simp] theorem o_addS (a b : List Nat) : opBin .add (.str a) (.str b) μ = if a.length + b.length ≤ SL then .ok (.str (a ++ b)) μ else .bad := rfl
@[simp] theorem o_addT (a b : List PV) : opBin .add (.tup a) (.tup b) μ = if a.length + b.length ≤ SL then .ok (.tup (a ++ b)) μ else .bad := rfl
@[simp] theorem o_addL (a b : List PV) : opBin .add (.lst a) (.lst b) μ = if a.length + b.length ≤ SL then .ok (.lst (a ++ b)) μ else .bad := rfl
@[simp] theorem o_sub (i j : Int) : opBin .sub (.int i) (.int j) μ = .ok (.int (i - j)) μ := rfl
@[simp] theorem o_mul (i j : Int) : opBin .mul (.int i) (.int j) μ = if small64 i || small64 j then .ok (.int (i * j)) μ else .bad := rfl
@[simp] theorem o_fdiv (i j : Int) : opBin .fdiv (.int i) (.int j) μ = if 0 < j ∧ j < 1073741824 then .ok (.int (i / j)) μ else .bad := rfl
@[simp] theorem o_mod (i j : Int) : opBin .mod (.int i) (.int j) μ = if 0 < j then .ok (.int (i % j)) μ else .bad := rfl
@[simp] theorem o_eqI (i j : Int) : opCmp .eq (.int i) (.int j) μ = .ok (.bl (i == j)) μ := by simp [opCmp, opEq, see, data?, pure?, dep, peq]
@[simp] theorem o_neI (i j : Int) : opCmp .ne (.int i) (.int j) μ = .ok (.bl (!(i == j))) μ := by simp [opCmp, opEq, see, data?, pure?, dep, peq]
@[simp] theorem o_eqS (i j : List Nat) : opCmp .eq (.str i) (.str j) μ = .ok (.bl (i == j)) μ := by simp [opCmp, opEq, see, data?, pure?, dep, peq]
@[simp] theorem o_neS (i j : List Nat) : opCmp .ne (.str i) (.str j) μ = .ok (.bl (!(i == j))) μ := by simp [opCmp, opEq, see, data?, pure?, dep, peq]
@[simp] theorem o_eqB (i j : Bool) : opCmp .eq (.bl i) (.bl j) μ = .ok (.bl (i == j)) μ := by simp [opCmp, opEq, see, data?, pure?, dep, peq]
@[simp] theorem o_neB (i j : Bool) : opCmp .ne (.bl i) (.bl j) μ = .ok (.bl (!(i == j))) μ := by simp [opCmp, opEq, see, data?, pure?, dep, peq]
theorem o_eq {p q : PV} (h : data? (see μ p) = true) (k : data? (see μ q) = true) : opCmp .eq p q μ = .ok (.bl (peq (see μ p) (see μ q))) μ := by simp [opCmp, opEq, h, k]
theorem o_ne {p q : PV} (h : data? (see μ p) = true) (k : data? (see μ q) = true) : opCmp .ne p q μ = .ok (.bl (!peq (see μ p) (see μ q))) μ := by simp [opCmp, opEq, h, k]
@[simp] theorem o_ltI (i j : Int) : opCmp .lt (.int i) (.int j) μ = .ok (.bl (decide (i < j))) μ := rfl
@[simp] theorem o_leI (i j : Int) : opCmp .le (.int i) (.int j) μ = .ok (.bl (decide (i ≤ j))) μ := rfl
@[simp] theorem o_gtI (i j : Int) : opCmp .gt (.int i) (.int j) μ = .ok (.bl (decide (j < i))) μ := rfl
@[simp] theorem o_geI (i j : Int) : opCmp .ge (.int i) (.int j) μ = .ok (.bl (decide (j ≤ i))) μ := rfl
@[simp] theorem o_isN (p : PV) : opCmp .is p .non μ = .ok (.bl (match p with | .non => true | _ => false)) μ := by cases p <;> rfl
@[simp] theorem o_isnN (p : PV) : opCmp .isn p .non μ = .ok (.bl (match p with | .non => false | _ => true)) μ := by cases p <;> rfl
@[simp] theorem tr_bl (b : Bool) : truth μ (.bl b) = some b := rfl
@[simp] theorem tr_non : truth μ .non = some false := rfl
@[simp] theorem tr_int (i : Int) : truth μ (.int i) = some (i != 0) := rfl
@[simp] theorem tr_tup (xs : List PV) : truth μ (.tup xs) = some (!xs.isEmpty) := rfl
@[simp] theorem tr_lst (xs : List PV) : truth μ (.lst xs) = some (!xs.isEmpty) := rfl
@[simp] theorem see_tup' (xs : List PV) : see μ (.tup xs) = .tup xs := rfl
@[simp] theorem see_lst' (xs : List PV) : see μ (.lst xs) = .lst xs := rfl
@[simp] theorem see_str' (xs : List Nat) : see μ (.str xs) = .str xs := rfl
@[simp] theorem see_int' (i : Int) : see μ (.int i) = .int i := rfl
@[simp] theorem see_bl' (i : Bool) : see μ (.bl i) = .bl i := rfl
@[simp] theorem see_non' : see μ .non = .non := rfl
@[simp] theorem b_neg (i : Int) : opB1 .neg (.int i) μ = .ok (.int (-i)) μ := rfl
@[simp] theorem b_lenT (xs : List PV) : opB1 .len (.tup xs) μ = .ok (.int xs.length) μ := rfl
@[simp] theorem b_lenL (xs : List PV) : opB1 .len (.lst xs) μ = .ok (.int xs.length) μ := rfl
@[simp] theorem b_lenR (xs : List Int) : opB1 .len (.scr xs) μ = .ok (.int xs.length) μ := rfl
@[simp] theorem b_lenS (xs : List Nat) : opB1 .len (.str xs) μ = if xs.length ≤ SL then .ok (.int xs.length) μ else .bad := rfl
@[simp] theorem b_tupT (xs : List PV) : opB1 .tuple (.tup xs) μ = .ok (.tup xs) μ := rfl
@[simp] theorem b_tupL (xs : List PV) : opB1 .tuple (.lst xs) μ = .ok (.tup xs) μ := rfl
@[simp] theorem b_max (i j : Int) : opB2 .max (.int i) (.int j) μ = .ok (.int (if j > i then j else i)) μ := rfl
@[simp] theorem b_min (i j : Int) : opB2 .min (.int i) (.int j) μ = .ok (.int (if j < i then j else i)) μ := rfl
@[simp] theorem m_ends' (z y : List Nat) : opM .endswith (PV.str z) [PV.str y] μ = .ok (.bl (ends z y)) μ := rfl
@[simp] theorem m_starts' (z y : List Nat) : opM .startswith (PV.str z) [PV.str y] μ = .ok (.bl (starts z y)) μ := rfl
@[simp] theorem m_split' (z : List Nat) (c : Nat) (d : List Nat) : opM .split (PV.str z) [PV.str (c :: d)] μ = if z.length + 2 ≤ SL && (c :: d).all (· < 256) then .ok (.lst ((TL.spl (c :: d) 0 [] z).map PV.str)) μ else .bad := rfl
@[simp] theorem rc_ends (z : List Nat) : recv .endswith (.str z) μ = true := rfl
@[simp] theorem rc_starts (z : List Nat) : recv .startswith (.str z) μ = true := rfl
@[simp] theorem rc_split (z : List Nat) : recv .split (.str z) μ = true := rfl
@[simp] theorem rc_join (z : List Nat) : recv .join (.str z) μ = true := rfl
theorem allStr_map (ts : List (List Nat)) : allStr (ts.map PV.str) = some ts := by
  induction ts with
  | nil => rfl
  | cons t ts ih => show (allStr (ts.map PV.str)).map (t :: ·) = _; rw [ih]; rfl
theorem m_joinL' {z : List Nat} {ts : List (List Nat)} (h : totalLen ts + ts.length * z.length ≤ SL) : opM .join (PV.str z) [PV.lst (ts.map PV.str)] μ = (.ok (.str (TL.joinL z ts)) μ : R PV) := by
  show (match allStr (ts.map PV.str) with | some ys => if totalLen ys + ys.length * z.length ≤ SL then R.ok (PV.str (TL.joinL z ys)) μ else .bad | none => .bad) = _
  rw [allStr_map]
  exact if_pos h
theorem m_joinT' {z : List Nat} {ts : List (List Nat)} (h : totalLen ts + ts.length * z.length ≤ SL) : opM .join (PV.str z) [PV.tup (ts.map PV.str)] μ = (.ok (.str (TL.joinL z ts)) μ : R PV) := by
  show (match allStr (ts.map PV.str) with | some ys => if totalLen ys + ys.length * z.length ≤ SL then R.ok (PV.str (TL.joinL z ys)) μ else .bad | none => .bad) = _
  rw [allStr_map]
  exact if_pos h
/-- a place in a tuple, a list -/
theorem i_tup {xs : List PV} {j : Int} {x : PV} (h0 : 0 ≤ j) (h : xs[j.toNat]? = some x) : opIdx (.tup xs) (.int j) μ = .ok x μ := by
  have hl : j.toNat < xs.length := (List.getElem?_eq_some_iff.mp h).1
  show (match L2.atI xs j with | some x => R.ok x μ | none => .bad) = _
  unfold L2.atI L2.ixN
  rw [if_pos h0, if_pos (by omega)]
  show (match xs[j.toNat]? with | some x => R.ok x μ | none => .bad) = _
  rw [h]
theorem i_lst {xs : List PV} {j : Int} {x : PV} (h0 : 0 ≤ j) (h : xs[j.toNat]? = some x) : opIdx (.lst xs) (.int j) μ = .ok x μ := by
  have hl : j.toNat < xs.length := (List.getElem?_eq_some_iff.mp h).1
  show (match L2.atI xs j with | some x => R.ok x μ | none => .bad) = _
  unfold L2.atI L2.ixN
  rw [if_pos h0, if_pos (by omega)]
  show (match xs[j.toNat]? with | some x => R.ok x μ | none => .bad) = _
  rw [h]
theorem i_scr {xs : List Int} {j : Int} {x : Int} (h0 : 0 ≤ j) (h : xs[j.toNat]? = some x) : opIdx (.scr xs) (.int j) μ = .ok (.int x) μ := by
  have hl : j.toNat < xs.length := (List.getElem?_eq_some_iff.mp h).1
  show (match L2.atI xs j with | some x => R.ok (PV.int x) μ | none => .bad) = _
  unfold L2.atI L2.ixN
  rw [if_pos h0, if_pos (by omega)]
  show (match xs[j.toNat]? with | some x => R.ok (PV.int x) μ | none => .bad) = _
  rw [h]
@[simp] theorem i_tupN (xs : List PV) (k : Nat) : opIdx (.tup xs) (PV.int (OfNat.ofNat k)) μ = match xs[k]? with | some x => .ok x μ | none => .bad := by
  have e : (OfNat.ofNat k : Int) = (k : Int) := rfl
  rw [e]
  cases h : xs[k]? with
  | some x => exact i_tup (by omega) (by simpa using h)
  | none =>
    have hl : xs.length ≤ k := List.getElem?_eq_none_iff.mp h
    show (match L2.atI xs (k : Int) with | some x => R.ok x μ | none => .bad) = _
    unfold L2.atI L2.ixN
    rw [if_pos (by omega), if_neg (by omega)]
    rfl
/-! ### calls -/
def okArg : PV → Bool
  | .loc _ => false
  | p => passes p
theorem see_arg {p : PV} (h : okArg p = true) : see μ p = p := by
  cases p <;> first | rfl | (cases h; done)
theorem callF_pure {n i : Nat} {d : FDef} {args : List PV} {v : PV} {μ' : Sto} (h1 : P.funs[i]? = some d) (h2 : d.eff = false) (hl : args.length = d.np) (ha : args.all okArg = true)
    (h : endOf (execs P (callF P n) d.body (startE d args) []) = .ok v μ') (hv : pure? v = true) : callF P (n + 1) i args μ = .ok v μ := by
  have hm : args.map (see μ) = args := by
    have : ∀ l : List PV, l.all okArg = true → l.map (see μ) = l := by
      intro l
      induction l with
      | nil => intro _; rfl
      | cons a l ih =>
        intro h
        simp only [List.all_cons, Bool.and_eq_true] at h
        rw [List.map_cons, see_arg h.1, ih h.2]
    exact this args ha
  have hp : (args.all fun a => passes (see μ a)) = true := by
    rw [List.all_eq_true] at ha ⊢
    intro a hm
    have := ha a hm
    rw [see_arg this]
    cases a <;> first | exact this | (cases this; done)
  have hn : (args.all fun a => match a with | .loc _ => false | _ => true) = true := by
    rw [List.all_eq_true] at ha ⊢
    intro a hm
    have := ha a hm
    cases a <;> first | rfl | (cases this; done)
  have hs : settle v μ' = v := by
    unfold settle
    cases v <;> first | rfl | (cases hv; done)
  rw [callF, h1]
  show (if args.length = d.np then _ else _) = _
  rw [if_pos hl, h2]
  show (if (args.all fun a => passes (see μ a)) = true then _ else _) = _
  rw [if_pos hp, hm, h]
  show (if _ then _ else _) = _
  rw [hs, hv]
  exact if_pos (by rw [Bool.true_and, Bool.or_eq_true]; exact Or.inl hn)
/-! ### comprehensions -/
theorem compLoop_pure {xs : List PV} {turn : PV → Sto → R (Option PV)} {g : PV → Option PV} : ∀ (n i : Nat) (acc : List PV), n = xs.length - i → (∀ x ∈ xs, turn x μ = .ok (g x) μ) → acc.length + n ≤ SL →
    compLoop (.items xs) turn n i acc μ = .ok (acc ++ (xs.drop i).filterMap g) μ
  | 0, i, acc, hn, ht, hl => by
    rw [compLoop]
    have h : xs.length ≤ i := by omega
    have e : (Src.items xs).at μ i = some none := by show some xs[i]? = _; rw [List.getElem?_eq_none_iff.mpr h]
    rw [e, List.drop_eq_nil_of_le h]
    simp
  | n + 1, i, acc, hn, ht, hl => by
    rw [compLoop]
    have h : i < xs.length := by omega
    have e : (Src.items xs).at μ i = some (some xs[i]) := by show some xs[i]? = _; rw [List.getElem?_eq_getElem h]
    rw [e]
    show (turn xs[i] μ).bind _ = _
    rw [ht _ (List.getElem_mem h), R.ok_bind, List.drop_eq_getElem_cons h, List.filterMap_cons]
    cases e2 : g xs[i] with
    | none =>
      show compLoop (.items xs) turn n (i + 1) acc μ = _
      exact compLoop_pure n (i + 1) acc (by omega) ht (by omega)
    | some y =>
      show (if acc.length < SL then compLoop (.items xs) turn n (i + 1) (acc ++ [y]) μ else .bad) = _
      rw [if_pos (by omega), compLoop_pure n (i + 1) (acc ++ [y]) (by omega) ht (by simp; omega)]
      simp
theorem comp_pure {elt : CE} {p : Pat} {it : CI} {cond : Option CE} {xs : List PV} {g : PV → Option PV} (hi : evi P cs it env μ = .ok (.items xs) μ) (hl : xs.length ≤ SL)
    (ht : ∀ x ∈ xs, turnOf P cs elt p cond env x μ = .ok (g x) μ) : ev P cs (.comp false elt p it cond) env μ = .ok (.lst (xs.filterMap g)) μ := by
  rw [ev_comp, hi, R.ok_bind]
  have e : (Src.items xs).most μ = xs.length := rfl
  rw [e, compLoop_pure xs.length 0 [] (by omega) ht (by simpa using hl)]
  rfl
/-- one item for each -/
theorem comp_map {elt : CE} {p : Pat} {it : CI} {xs : List PV} {g : PV → PV} (hi : evi P cs it env μ = .ok (.items xs) μ) (hl : xs.length ≤ SL)
    (ht : ∀ x ∈ xs, ∃ env', setPat p x (wipeE env (patSlots p)) = some env' ∧ ev P cs elt env' μ = .ok (g x) μ) : ev P cs (.comp false elt p it none) env μ = .ok (.lst (xs.map g)) μ := by
  rw [comp_pure (g := fun x => some (g x)) hi hl]
  · rw [List.filterMap_eq_map']
  · intro x hx
    obtain ⟨env', e1, e2⟩ := ht x hx
    unfold turnOf
    rw [e1]
    show ((ev P cs elt env' μ).bind fun y μ => R.ok (some y) μ) = _
    rw [e2]
    rfl
/-- those of a kind -/
theorem comp_filter {elt c : CE} {p : Pat} {it : CI} {xs : List PV} {g : PV → PV} {t : PV → Bool} (hi : evi P cs it env μ = .ok (.items xs) μ) (hl : xs.length ≤ SL)
    (ht : ∀ x ∈ xs, ∃ env', setPat p x (wipeE env (patSlots p)) = some env' ∧ (∃ q, ev P cs c env' μ = .ok q μ ∧ truth μ q = some (t x)) ∧ ev P cs elt env' μ = .ok (g x) μ) : ev P cs (.comp false elt p it (some c)) env μ = .ok (.lst ((xs.filter t).map g)) μ := by
  rw [comp_pure (g := fun x => if t x then some (g x) else none) hi hl]
  · congr 2
    induction xs with
    | nil => rfl
    | cons x xs ih =>
      rw [List.filterMap_cons, List.filter_cons]
      have ih' : List.filterMap (fun x => if t x = true then some (g x) else none) xs = List.map g (List.filter t xs) := by
        clear ih hi hl ht
        induction xs with
        | nil => rfl
        | cons x xs ih => rw [List.filterMap_cons, List.filter_cons]; cases t x <;> simp [ih]
      cases t x <;> simp [ih']
  · intro x hx
    obtain ⟨env', e1, ⟨q, e2, e3⟩, e4⟩ := ht x hx
    unfold turnOf
    rw [e1]
    show ((ev P cs c env' μ).bind _) = _
    rw [e2, R.ok_bind, e3]
    cases t x with
    | true =>
      show ((ev P cs elt env' μ).bind fun y μ => R.ok (some y) μ) = _
      rw [e4]; rfl
    | false => rfl
/-! ### loops that go on -/
theorem for_inv {xs : List PV} {turn : PV → EnvP → Sto → RS} {I : EnvP → Prop} : ∀ (n i : Nat) (env : EnvP), n = xs.length - i → I env → (∀ x ∈ xs, ∀ env, I env → ∃ env', turn x env μ = .nx env' μ ∧ I env') → ∃ env', forLoop (.items xs) turn n i env μ = .nx env' μ ∧ I env'
  | 0, i, env, hn, h0, ht => by
    rw [forLoop]
    have h : xs.length ≤ i := by omega
    have e : (Src.items xs).at μ i = some none := by show some xs[i]? = _; rw [List.getElem?_eq_none_iff.mpr h]
    rw [e]
    exact ⟨env, rfl, h0⟩
  | n + 1, i, env, hn, h0, ht => by
    rw [forLoop]
    have h : i < xs.length := by omega
    have e : (Src.items xs).at μ i = some (some xs[i]) := by show some xs[i]? = _; rw [List.getElem?_eq_getElem h]
    rw [e]
    obtain ⟨env1, e1, h1⟩ := ht _ (List.getElem_mem h) env h0
    obtain ⟨env2, e2, h2⟩ := for_inv n (i + 1) env1 (by omega) h1 ht
    refine ⟨env2, ?_, h2⟩
    show (turn xs[i] env μ).andThen _ = _
    rw [e1]
    exact e2
theorem y_for_inv {p : Pat} {it : CI} {body : List CS} {xs : List PV} {I : EnvP → Prop} (hi : evi P cs it env μ = .ok (.items xs) μ) (h0 : I env)
    (ht : ∀ x ∈ xs, ∀ env, I env → ∃ env1 env', setPat p x env = some env1 ∧ execs P cs body env1 μ = .nx env' μ ∧ I env') : ∃ env', exec P cs (.forr p it body) env μ = .nx env' μ ∧ I env' := by
  rw [y_for, hi, of_ok]
  refine for_inv (I := I) _ 0 env (by show xs.length = _; omega) h0 fun x hx env h => ?_
  obtain ⟨env1, env', e1, e2, h2⟩ := ht x hx env h
  refine ⟨env', ?_, h2⟩
  show (match setPat p x env with | some env' => execs P cs body env' μ | none => .bad) = _
  rw [e1]
  exact e2
end
end NR

namespace NR
def d0 : FDef := ⟨0, 0, false, [.stop]⟩
/-- 0 are_letters : 0=thing 1=least 2=sign -/
def d_are_letters : FDef := ⟨2, 3, false, [
  (.ret (.and (.isi (.var 0) [0]) (.and (.chain .le .le (.var 1) (.b1 .len (.var 0)) (.con (.int 3))) (.b1 .all (.comp false (.cmp .in_ (.var 2) (.glo 0)) (.v 2) (.seq (.var 0)) none)))))]⟩
/-- 1 is_host : 0=thing 1=labels 2=one -/
def d_is_host : FDef := ⟨1, 3, false, [
  (.ite (.not (.isi (.var 0) [0])) [(.ret (.con (.bl false)))] []),
  (.asg (.v 1) (.m .split (.var 0) [(.con (.str [46]))])),
  (.ret (.and (.cmp .le (.b1 .len (.var 1)) (.glo 3)) (.b1 .all (.comp false (.call 0 [(.var 2), (.con (.int 1))]) (.v 2) (.seq (.var 1)) none))))]⟩
/-- 2 is_path : 0=thing 1=some 2=one -/
def d_is_path : FDef := ⟨1, 3, false, [
  (.ite (.or (.not (.isi (.var 0) [0])) (.cmp .ne (.sl (.var 0) none (some (.con (.int 1)))) (.con (.str [47])))) [(.ret (.con (.bl false)))] []),
  (.ite (.cmp .eq (.var 0) (.con (.str [47]))) [(.ret (.con (.bl true)))] []),
  (.asg (.v 1) (.m .split (.sl (.var 0) (some (.con (.int 1))) none) [(.con (.str [47]))])),
  (.ret (.and (.cmp .le (.b1 .len (.var 1)) (.glo 4)) (.b1 .all (.comp false (.call 0 [(.var 2), (.con (.int 1))]) (.v 2) (.seq (.var 1)) none))))]⟩
/-- 3 is_time : 0=thing -/
def d_is_time : FDef := ⟨1, 1, false, [
  (.ret (.and (.isi (.var 0) [1]) (.and (.not (.isi (.var 0) [2])) (.chain .le .le (.con (.int 0)) (.var 0) (.glo 1)))))]⟩
/-- 4 is_note : 0=thing -/
def d_is_note : FDef := ⟨1, 1, false, [
  (.ite (.or (.not (.isi (.var 0) [3])) (.or (.cmp .ne (.b1 .len (.var 0)) (.con (.int 8))) (.or (.not (.call 0 [(.idx (.var 0) (.con (.int 0))), (.con (.int 1))])) (.not (.call 0 [(.idx (.var 0) (.con (.int 1))), (.con (.int 0))]))))) [(.ret (.con (.bl false)))] []),
  (.ite (.or (.not (.call 1 [(.idx (.var 0) (.con (.int 2)))])) (.or (.not (.isi (.idx (.var 0) (.con (.int 3))) [2])) (.not (.call 2 [(.idx (.var 0) (.con (.int 4)))])))) [(.ret (.con (.bl false)))] []),
  (.ite (.or (.and (.cmp .isn (.idx (.var 0) (.con (.int 5))) (.con .non)) (.not (.call 3 [(.idx (.var 0) (.con (.int 5)))]))) (.not (.isi (.idx (.var 0) (.con (.int 6))) [2]))) [(.ret (.con (.bl false)))] []),
  (.ret (.and (.isi (.idx (.var 0) (.con (.int 7))) [0]) (.cmp .in_ (.idx (.var 0) (.con (.int 7))) (.glo 5))))]⟩
/-- 5 mark : 0=note -/
def d_mark : FDef := ⟨1, 1, false, [
  (.ret (.tup [(.idx (.var 0) (.con (.int 0))), (.idx (.var 0) (.con (.int 2))), (.idx (.var 0) (.con (.int 4)))]))]⟩
/-- 6 are_notes : 0=thing 1=one 2=note -/
def d_are_notes : FDef := ⟨1, 3, false, [
  (.ite (.or (.not (.isi (.var 0) [3])) (.or (.cmp .gt (.b1 .len (.var 0)) (.glo 2)) (.not (.b1 .all (.comp false (.call 4 [(.var 1)]) (.v 1) (.seq (.var 0)) none))))) [(.ret (.con (.bl false)))] []),
  (.ret (.cmp .eq (.b1 .slen (.comp false (.call 5 [(.var 2)]) (.v 2) (.seq (.var 0)) none)) (.b1 .len (.var 0))))]⟩
/-- 7 is_ask : 0=thing -/
def d_is_ask : FDef := ⟨1, 1, false, [
  (.ite (.or (.not (.isi (.var 0) [3])) (.or (.cmp .ne (.b1 .len (.var 0)) (.con (.int 6))) (.or (.not (.call 1 [(.idx (.var 0) (.con (.int 0)))])) (.not (.call 2 [(.idx (.var 0) (.con (.int 1)))]))))) [(.ret (.con (.bl false)))] []),
  (.ite (.or (.not (.call 3 [(.idx (.var 0) (.con (.int 2)))])) (.or (.not (.isi (.idx (.var 0) (.con (.int 3))) [2])) (.not (.isi (.idx (.var 0) (.con (.int 5))) [2])))) [(.ret (.con (.bl false)))] []),
  (.ret (.or (.cmp .is (.idx (.var 0) (.con (.int 4))) (.con .non)) (.call 1 [(.idx (.var 0) (.con (.int 4)))])))]⟩
/-- 8 are_rules : 0=thing 1=one 2=some -/
def d_are_rules : FDef := ⟨1, 3, false, [
  (.ite (.or (.not (.isi (.var 0) [3])) (.cmp .ne (.b1 .len (.var 0)) (.con (.int 6)))) [(.ret (.con (.bl false)))] []),
  (.ret (.b1 .all (.comp false (.and (.isi (.var 1) [0]) (.cmp .in_ (.var 1) (.var 2))) (.t [(.v 1), (.v 2)]) (.zip (.var 0) (.bin .add (.glo 6) (.glo 7))) none)))]⟩
/-- 9 _law_cell : 0=_law_script 1=_law_k -/
def d__law_cell : FDef := ⟨2, 2, false, [
  (.ite (.cmp .lt (.var 1) (.b1 .len (.var 0))) [(.ret (.idx (.var 0) (.var 1)))] []),
  (.ret (.con (.int 0)))]⟩
/-- 10 _law_mix : 0=_law_cell_here 1=_law_prime 2=_law_many 3=_law_blend -/
def d__law_mix : FDef := ⟨3, 4, false, [
  (.asg (.v 3) (.bin .mod (.bin .mul (.var 0) (.con (.int 48271))) (.var 1))),
  (.ret (.bin .mod (.bin .mod (.bin .mul (.var 3) (.bin .add (.var 3) (.con (.int 7)))) (.var 1)) (.var 2)))]⟩
/-- 11 _law_host : 0=_law_cell_here 1=_law_labels 2=_law_n -/
def d__law_host : FDef := ⟨1, 3, false, [
  (.asg (.v 1) (.comp false (.idx (.tup [(.con (.str [97])), (.con (.str [98])), (.con (.str [97, 98])), (.con (.str [120])), (.con (.str [99]))]) (.call 10 [(.bin .add (.var 0) (.bin .mul (.con (.int 7)) (.var 2))), (.con (.int 9973)), (.con (.int 5))])) (.v 2) (.rng1 (.bin .add (.con (.int 1)) (.call 10 [(.var 0), (.con (.int 9967)), (.con (.int 3))]))) none)),
  (.ret (.m .join (.con (.str [46])) [(.var 1)]))]⟩
/-- 12 _law_path : 0=_law_cell_here 1=_law_some 2=_law_n -/
def d__law_path : FDef := ⟨1, 3, false, [
  (.asg (.v 1) (.comp false (.idx (.tup [(.con (.str [97])), (.con (.str [98])), (.con (.str [97, 98])), (.con (.str [98, 97]))]) (.call 10 [(.bin .add (.var 0) (.bin .mul (.con (.int 11)) (.var 2))), (.con (.int 9949)), (.con (.int 4))])) (.v 2) (.rng1 (.call 10 [(.var 0), (.con (.int 9941)), (.con (.int 4))])) none)),
  (.ret (.bin .add (.con (.str [47])) (.m .join (.con (.str [47])) [(.var 1)])))]⟩
/-- 13 _law_note : 0=_law_cell_here 1=_law_end 2=_law_first 3=_law_rest -/
def d__law_note : FDef := ⟨1, 4, false, [
  (.asg (.v 1) (.ite (.cmp .eq (.call 10 [(.var 0), (.con (.int 9931)), (.con (.int 3))]) (.con (.int 0))) (.con .non) (.idx (.tup [(.con (.int 0)), (.con (.int 1)), (.con (.int 5)), (.con (.int 9)), (.con (.int 10)), (.con (.int 98)), (.con (.int 99))]) (.call 10 [(.var 0), (.con (.int 9929)), (.con (.int 7))])))),
  (.asg (.v 2) (.tup [(.idx (.tup [(.con (.str [110])), (.con (.str [107])), (.con (.str [109]))]) (.call 10 [(.var 0), (.con (.int 9923)), (.con (.int 3))])), (.idx (.tup [(.con (.str [])), (.con (.str [97])), (.con (.str [98]))]) (.call 10 [(.var 0), (.con (.int 9907)), (.con (.int 3))])), (.call 11 [(.bin .add (.var 0) (.con (.int 1)))])])),
  (.asg (.v 3) (.tup [(.cmp .eq (.call 10 [(.var 0), (.con (.int 9901)), (.con (.int 2))]) (.con (.int 0))), (.call 12 [(.bin .add (.var 0) (.con (.int 2)))]), (.var 1), (.cmp .eq (.call 10 [(.var 0), (.con (.int 9887)), (.con (.int 3))]) (.con (.int 0)))])),
  (.ret (.bin .add (.bin .add (.var 2) (.var 3)) (.tup [(.idx (.tup [(.con (.str [111, 119, 110])), (.con (.str [110, 101, 97, 114])), (.con (.str [97, 110, 121]))]) (.call 10 [(.var 0), (.con (.int 9883)), (.con (.int 3))]))])))]⟩
/-- 14 _law_mark : 0=_law_note_here -/
def d__law_mark : FDef := ⟨1, 1, false, [
  (.ret (.tup [(.idx (.var 0) (.con (.int 0))), (.idx (.var 0) (.con (.int 2))), (.idx (.var 0) (.con (.int 4)))]))]⟩
/-- 15 _law_notes : 0=_law_cell_here 1=_law_most 2=_law_rows 3=_law_n 4=_law_note_here 5=_law_one -/
def d__law_notes : FDef := ⟨2, 6, false, [
  (.asg (.v 2) (.newl [])),
  (.forr (.v 3) (.rng1 (.call 10 [(.var 0), (.con (.int 9871)), (.bin .add (.var 1) (.con (.int 1)))])) [(.asg (.v 4) (.call 13 [(.bin .add (.var 0) (.bin .mul (.con (.int 97)) (.var 3)))])), (.ite (.and (.cmp .ne (.var 2) (.lst [])) (.cmp .eq (.call 10 [(.bin .add (.var 0) (.var 3)), (.con (.int 9859)), (.con (.int 2))]) (.con (.int 0)))) [(.asg (.v 4) (.bin .add (.bin .add (.sl (.var 4) none (some (.con (.int 2)))) (.tup [(.idx (.idx (.var 2) (.con (.int 0))) (.con (.int 2)))])) (.sl (.var 4) (some (.con (.int 3))) none)))] []), (.ite (.and (.cmp .ne (.var 2) (.lst [])) (.cmp .eq (.call 10 [(.bin .add (.var 0) (.var 3)), (.con (.int 9857)), (.con (.int 3))]) (.con (.int 0)))) [(.asg (.v 4) (.bin .add (.bin .add (.sl (.var 4) none (some (.con (.int 4)))) (.tup [(.ite (.cmp .eq (.idx (.idx (.var 2) (.con (.int 0))) (.con (.int 4))) (.con (.str [47]))) (.idx (.idx (.var 2) (.con (.int 0))) (.con (.int 4))) (.bin .add (.idx (.idx (.var 2) (.con (.int 0))) (.con (.int 4))) (.con (.str [47, 97]))))])) (.sl (.var 4) (some (.con (.int 5))) none))), (.asg (.v 4) (.ite (.cmp .lt (.b1 .len (.m .split (.idx (.var 4) (.con (.int 4))) [(.con (.str [47]))])) (.con (.int 5))) (.var 4) (.bin .add (.bin .add (.sl (.var 4) none (some (.con (.int 4)))) (.tup [(.con (.str [47]))])) (.sl (.var 4) (some (.con (.int 5))) none))))] []), (.ite (.cmp .nin (.call 14 [(.var 4)]) (.comp false (.call 14 [(.var 5)]) (.v 5) (.seq (.var 2)) none)) [(.expr (.m .append (.var 2) [(.var 4)]))] [])]),
  (.ret (.b1 .tuple (.var 2)))]⟩
/-- 16 _law_rules : 0=_law_cell_here 1=_law_some 2=_law_found 3=_law_n 4=_law_tokens -/
def d__law_rules : FDef := ⟨1, 5, false, [
  (.asg (.v 1) (.tup [(.tup [(.con (.str [115, 105, 103, 110, 115])), (.con (.str [115, 116, 101, 112, 115]))]), (.tup [(.con (.str [97, 108, 119, 97, 121, 115])), (.con (.str [110, 101, 118, 101, 114])), (.con (.str [116, 111, 108, 100]))]), (.tup [(.con (.str [117, 110, 116, 105, 108])), (.con (.str [119, 105, 116, 104]))])])),
  (.asg (.v 1) (.bin .add (.var 1) (.tup [(.tup [(.con (.str [102, 114, 101, 101])), (.con (.str [109, 117, 115, 116]))]), (.tup [(.con (.str [107, 101, 101, 112])), (.con (.str [108, 111, 111, 115, 101])), (.con (.str [110, 111, 110, 101]))])]))),
  (.asg (.v 2) (.comp false (.idx (.var 4) (.call 10 [(.bin .add (.var 0) (.bin .mul (.con (.int 13)) (.var 3))), (.con (.int 9851)), (.b1 .len (.var 4))])) (.t [(.v 3), (.v 4)]) (.enum (.var 1)) none)),
  (.ret (.bin .add (.b1 .tuple (.var 2)) (.tup [(.idx (.tup [(.con (.str [108, 111, 110, 103])), (.con (.str [110, 97, 109, 101, 115])), (.con (.str [111, 108, 100]))]) (.call 10 [(.var 0), (.con (.int 9839)), (.con (.int 3))]))])))]⟩
/-- 17 _law_ask : 0=_law_cell_here 1=_law_notes_here 2=_law_host_here 3=_law_path_here 4=_law_time 5=_law_note_here 6=_law_other 7=_law_more 8=_law_origin -/
def d__law_ask : FDef := ⟨2, 9, false, [
  (.asg (.t [(.v 2), (.v 3)]) (.tup [(.call 11 [(.bin .add (.var 0) (.con (.int 3)))]), (.call 12 [(.bin .add (.var 0) (.con (.int 4)))])])),
  (.asg (.v 4) (.call 10 [(.var 0), (.con (.int 9833)), (.con (.int 100))])),
  (.ite (.and (.cmp .ne (.var 1) (.tup [])) (.cmp .gt (.call 10 [(.var 0), (.con (.int 9829)), (.con (.int 5))]) (.con (.int 0)))) [(.asg (.t [(.v 5), (.v 6)]) (.tup [(.idx (.var 1) (.call 10 [(.var 0), (.con (.int 9817)), (.b1 .len (.var 1))])), (.idx (.var 1) (.call 10 [(.var 0), (.con (.int 9811)), (.b1 .len (.var 1))]))])), (.asg (.v 2) (.idx (.tup [(.idx (.var 5) (.con (.int 2))), (.idx (.var 5) (.con (.int 2))), (.bin .add (.con (.str [113, 46])) (.idx (.var 5) (.con (.int 2)))), (.var 2)]) (.call 10 [(.var 0), (.con (.int 9803)), (.con (.int 4))]))), (.asg (.v 7) (.ite (.cmp .eq (.idx (.var 6) (.con (.int 4))) (.con (.str [47]))) (.con (.str [])) (.idx (.var 6) (.con (.int 4))))), (.asg (.v 3) (.idx (.tup [(.idx (.var 6) (.con (.int 4))), (.bin .add (.var 7) (.con (.str [47, 113]))), (.bin .add (.idx (.var 6) (.con (.int 4))) (.con (.str [113]))), (.var 3)]) (.call 10 [(.var 0), (.con (.int 9791)), (.con (.int 4))]))), (.ite (.cmp .isn (.idx (.var 5) (.con (.int 5))) (.con .non)) [(.asg (.v 4) (.b2 .max (.con (.int 0)) (.b2 .min (.con (.int 99)) (.bin .sub (.bin .add (.idx (.var 5) (.con (.int 5))) (.call 10 [(.var 0), (.con (.int 9787)), (.con (.int 3))])) (.con (.int 1))))))] [])] []),
  (.asg (.v 8) (.idx (.tup [(.con .non), (.con (.str [113, 46, 113])), (.var 2), (.bin .add (.con (.str [113, 46])) (.m .join (.con (.str [46])) [(.sl (.m .split (.var 2) [(.con (.str [46]))]) (some (.b1 .neg (.con (.int 2)))) none)])), (.con (.str [97]))]) (.call 10 [(.var 0), (.con (.int 9781)), (.con (.int 5))]))),
  (.ret (.tup [(.var 2), (.var 3), (.var 4), (.cmp .eq (.call 10 [(.var 0), (.con (.int 9769)), (.con (.int 2))]) (.con (.int 0))), (.var 8), (.cmp .eq (.call 10 [(.var 0), (.con (.int 9767)), (.con (.int 2))]) (.con (.int 0)))]))]⟩
/-- 18 _law_odd : 0=_law_thing 1=_law_cell_here 2=_law_spot 3=_law_some -/
def d__law_odd : FDef := ⟨2, 4, false, [
  (.ite (.and (.isi (.var 0) [3]) (.and (.cmp .ne (.var 0) (.tup [])) (.cmp .gt (.call 10 [(.var 1), (.con (.int 9781)), (.con (.int 5))]) (.con (.int 0))))) [(.asg (.v 2) (.call 10 [(.var 1), (.con (.int 9769)), (.b1 .len (.var 0))])), (.ret (.bin .add (.bin .add (.sl (.var 0) none (some (.var 2))) (.tup [(.call 18 [(.idx (.var 0) (.var 2)), (.bin .add (.bin .add (.var 1) (.bin .mul (.con (.int 31)) (.var 2))) (.con (.int 7)))])])) (.sl (.var 0) (some (.bin .add (.var 2) (.con (.int 1)))) none)))] []),
  (.asg (.v 3) (.lst [(.con .non), (.con (.bl true)), (.con (.bl false)), (.con (.int 0)), (.con (.int 1)), (.b1 .neg (.con (.int 1))), (.con (.int 2)), (.con (.int 7)), (.con (.int 10)), (.con (.int 1000)), (.con (.str [])), (.con (.str [97])), (.con (.str [65])), (.tup []), (.tup [(.con (.str [97]))]), (.lst [(.con (.int 1))])])),
  (.ite (.isi (.var 0) [3]) [(.asg (.v 3) (.bin .add (.var 3) (.bin .mul (.lst [(.b1 .list (.var 0)), (.bin .add (.var 0) (.sl (.var 0) (some (.b1 .neg (.con (.int 1)))) none)), (.sl (.var 0) none (some (.b1 .neg (.con (.int 1))))), (.rev (.var 0)), (.sl (.var 0) (some (.con (.int 1))) none), (.tup [(.var 0)])]) (.con (.int 2)))))] [(.ite (.isi (.var 0) [0]) [(.asg (.v 3) (.bin .add (.var 3) (.bin .mul (.lst [(.bin .add (.var 0) (.con (.str [97]))), (.sl (.var 0) none (some (.b1 .neg (.con (.int 1))))), (.m .upper (.var 0) []), (.bin .add (.var 0) (.con (.str [32]))), (.bin .mul (.var 0) (.con (.int 2))), (.lst [(.var 0)]), (.bin .add (.var 0) (.sl (.var 0) none (some (.con (.int 1)))))]) (.con (.int 2)))))] [(.ite (.isi (.var 0) [1]) [(.asg (.v 3) (.bin .add (.var 3) (.bin .mul (.lst [(.bin .add (.var 0) (.con (.int 1))), (.bin .sub (.var 0) (.con (.int 1))), (.bin .sub (.con (.int 0)) (.var 0)), (.tup [(.var 0)]), (.bin .add (.var 0) (.con (.int 2))), (.bin .mul (.var 0) (.con (.int 2)))]) (.con (.int 2)))))] [])])]),
  (.ret (.idx (.var 3) (.call 10 [(.var 1), (.con (.int 9749)), (.b1 .len (.var 3))])))]⟩
/-- 19 _law_letters : 0=_law_thing 1=_law_least 2=_law_sign -/
def d__law_letters : FDef := ⟨2, 3, false, [
  (.ite (.or (.not (.isi (.var 0) [0])) (.not (.chain .le .le (.var 1) (.b1 .len (.var 0)) (.con (.int 3))))) [(.ret (.con (.bl false)))] []),
  (.ret (.cmp .eq (.comp false (.var 2) (.v 2) (.seq (.var 0)) (some (.not (.chain .le .le (.con (.str [97])) (.var 2) (.con (.str [122])))))) (.lst [])))]⟩
/-- 20 _law_is_host : 0=_law_thing 1=_law_label -/
def d__law_is_host : FDef := ⟨1, 2, false, [
  (.ite (.or (.not (.isi (.var 0) [0])) (.cmp .gt (.m .count (.var 0) [(.con (.str [46]))]) (.con (.int 3)))) [(.ret (.con (.bl false)))] []),
  (.ret (.cmp .eq (.comp false (.var 1) (.v 1) (.seq (.m .split (.var 0) [(.con (.str [46]))])) (some (.not (.call 19 [(.var 1), (.con (.int 1))])))) (.lst [])))]⟩
/-- 21 _law_is_path : 0=_law_thing 1=_law_step -/
def d__law_is_path : FDef := ⟨1, 2, false, [
  (.ite (.or (.not (.isi (.var 0) [0])) (.or (.cmp .ne (.sl (.var 0) none (some (.con (.int 1)))) (.con (.str [47]))) (.cmp .gt (.m .count (.var 0) [(.con (.str [47]))]) (.con (.int 4))))) [(.ret (.con (.bl false)))] []),
  (.ret (.or (.cmp .eq (.var 0) (.con (.str [47]))) (.cmp .eq (.comp false (.var 1) (.v 1) (.seq (.m .split (.sl (.var 0) (some (.con (.int 1))) none) [(.con (.str [47]))])) (some (.not (.call 19 [(.var 1), (.con (.int 1))])))) (.lst []))))]⟩
/-- 22 _law_is_time : 0=_law_thing -/
def d__law_is_time : FDef := ⟨1, 1, false, [
  (.ret (.and (.isi (.var 0) [1]) (.and (.not (.isi (.var 0) [2])) (.chain .le .lt (.con (.int 0)) (.var 0) (.con (.int 100))))))]⟩
/-- 23 _law_is_note : 0=_law_thing -/
def d__law_is_note : FDef := ⟨1, 1, false, [
  (.ite (.or (.not (.isi (.var 0) [3])) (.cmp .ne (.b1 .len (.var 0)) (.con (.int 8)))) [(.ret (.con (.bl false)))] []),
  (.ite (.or (.not (.call 19 [(.idx (.var 0) (.con (.int 0))), (.con (.int 1))])) (.not (.call 19 [(.idx (.var 0) (.con (.int 1))), (.con (.int 0))]))) [(.ret (.con (.bl false)))] []),
  (.ite (.or (.not (.call 20 [(.idx (.var 0) (.con (.int 2)))])) (.or (.not (.call 21 [(.idx (.var 0) (.con (.int 4)))])) (.and (.cmp .isn (.idx (.var 0) (.con (.int 5))) (.con .non)) (.not (.call 22 [(.idx (.var 0) (.con (.int 5)))]))))) [(.ret (.con (.bl false)))] []),
  (.ite (.or (.not (.isi (.idx (.var 0) (.con (.int 3))) [2])) (.or (.not (.isi (.idx (.var 0) (.con (.int 6))) [2])) (.not (.isi (.idx (.var 0) (.con (.int 7))) [0])))) [(.ret (.con (.bl false)))] []),
  (.ret (.cmp .in_ (.idx (.var 0) (.con (.int 7))) (.tup [(.con (.str [111, 119, 110])), (.con (.str [110, 101, 97, 114])), (.con (.str [97, 110, 121]))])))]⟩
/-- 24 _law_are_notes : 0=_law_thing 1=_law_one -/
def d__law_are_notes : FDef := ⟨1, 2, false, [
  (.ite (.or (.not (.isi (.var 0) [3])) (.or (.cmp .gt (.b1 .len (.var 0)) (.con (.int 6))) (.cmp .ne (.comp false (.var 1) (.v 1) (.seq (.var 0)) (some (.not (.call 23 [(.var 1)])))) (.lst [])))) [(.ret (.con (.bl false)))] []),
  (.ret (.cmp .eq (.b1 .slen (.comp false (.call 14 [(.var 1)]) (.v 1) (.seq (.var 0)) none)) (.b1 .len (.var 0))))]⟩
/-- 25 _law_is_ask : 0=_law_thing -/
def d__law_is_ask : FDef := ⟨1, 1, false, [
  (.ite (.or (.not (.isi (.var 0) [3])) (.or (.cmp .ne (.b1 .len (.var 0)) (.con (.int 6))) (.or (.not (.call 20 [(.idx (.var 0) (.con (.int 0)))])) (.not (.call 21 [(.idx (.var 0) (.con (.int 1)))]))))) [(.ret (.con (.bl false)))] []),
  (.ite (.or (.not (.call 22 [(.idx (.var 0) (.con (.int 2)))])) (.or (.not (.isi (.idx (.var 0) (.con (.int 3))) [2])) (.not (.isi (.idx (.var 0) (.con (.int 5))) [2])))) [(.ret (.con (.bl false)))] []),
  (.ret (.or (.cmp .is (.idx (.var 0) (.con (.int 4))) (.con .non)) (.call 20 [(.idx (.var 0) (.con (.int 4)))])))]⟩
/-- 26 _law_are_rules : 0=_law_thing 1=_law_some 2=_law_one 3=_law_n -/
def d__law_are_rules : FDef := ⟨1, 4, false, [
  (.asg (.v 1) (.tup [(.con (.str [115, 105, 103, 110, 115, 32, 115, 116, 101, 112, 115])), (.con (.str [97, 108, 119, 97, 121, 115, 32, 110, 101, 118, 101, 114, 32, 116, 111, 108, 100])), (.con (.str [117, 110, 116, 105, 108, 32, 119, 105, 116, 104])), (.con (.str [102, 114, 101, 101, 32, 109, 117, 115, 116])), (.con (.str [107, 101, 101, 112, 32, 108, 111, 111, 115, 101, 32, 110, 111, 110, 101])), (.con (.str [108, 111, 110, 103, 32, 110, 97, 109, 101, 115, 32, 111, 108, 100]))])),
  (.ite (.or (.not (.isi (.var 0) [3])) (.or (.cmp .ne (.b1 .len (.var 0)) (.con (.int 6))) (.cmp .ne (.comp false (.var 2) (.v 2) (.seq (.var 0)) (some (.not (.isi (.var 2) [0])))) (.lst [])))) [(.ret (.con (.bl false)))] []),
  (.ret (.cmp .eq (.comp false (.var 3) (.v 3) (.rng1 (.con (.int 6))) (some (.cmp .nin (.idx (.var 0) (.var 3)) (.m .split (.idx (.var 1) (.var 3)) [(.con (.str [32]))])))) (.lst [])))]⟩
/-- 27 _law_is_told : 0=_law_said 1=_law_due -/
def d__law_is_told : FDef := ⟨2, 2, false, [
  (.ret (.or (.and (.cmp .is (.var 0) (.con (.bl true))) (.var 1)) (.and (.cmp .is (.var 0) (.con (.bl false))) (.not (.var 1)))))]⟩
/-- 28 law : 0=_law_script 1=_law_tokens 2=_law_token 3=_law_k 4=_law_cell_here 5=_law_notes_here 6=_law_rules_here 7=_law_ask_here 8=_law_note_here 9=_law_rows 10=_law_j 11=_law_seed 12=_law_thing 13=_law_many 14=_law_n -/
def d_law_k01 : FDef := ⟨1, 15, false, [
  (.asg (.v 1) (.lst [(.con (.str [97])), (.con (.str [97, 98, 99])), (.con (.str [97, 98, 99, 100])), (.con (.str [97, 46, 98])), (.con (.str [97, 46, 98, 46, 99, 46, 100])), (.con (.str [97, 46, 98, 46, 99, 46, 100, 46, 101])), (.con (.str [97, 46, 46, 98])), (.con (.str [46, 97])), (.con (.str [97, 46]))])),
  (.asg (.v 1) (.bin .add (.var 1) (.lst [(.con (.str [])), (.con (.str [65])), (.con (.str [97, 32, 98])), (.con (.str [47])), (.con (.str [47, 97])), (.con (.str [47, 97, 47, 98, 47, 99, 47, 100])), (.con (.str [47, 97, 47, 98, 47, 99, 47, 100, 47, 101])), (.con (.str [47, 47])), (.con (.str [47, 97, 47]))]))),
  (.asg (.v 1) (.bin .add (.var 1) (.lst [(.con (.str [97, 47, 98])), (.con (.str [47, 97, 98, 99, 100])), (.con (.str [47, 65])), (.con (.str [47, 97, 47, 47, 98])), (.con .non), (.con (.int 3)), (.tup [(.con (.str [97]))]), (.con (.str [47, 97, 46, 98])), (.con (.str [97, 49]))]))),
  (.forr (.v 2) (.seq (.var 1)) [(.ite (.not (.call 27 [(.call 1 [(.var 2)]), (.call 20 [(.var 2)])])) [(.ret (.con (.bl false)))] []), (.ite (.not (.call 27 [(.call 2 [(.var 2)]), (.call 21 [(.var 2)])])) [(.ret (.con (.bl false)))] [])]),
  (.forr (.v 3) (.rng1 (.con (.int 10))) [(.asg (.v 4) (.bin .add (.call 9 [(.var 0), (.bin .mod (.var 3) (.con (.int 9)))]) (.bin .mul (.con (.int 31)) (.var 3)))), (.asg (.t [(.v 5), (.v 6), (.v 7)]) (.tup [(.call 15 [(.var 4), (.con (.int 6))]), (.call 16 [(.var 4)]), (.call 17 [(.var 4), (.tup [])])])), (.asg (.v 8) (.call 13 [(.bin .add (.var 4) (.con (.int 5)))])), (.asg (.v 9) (.newl [(.var 8), (.b1 .list (.var 8)), (.sl (.var 8) none (some (.con (.int 7)))), (.var 5), (.bin .add (.var 5) (.sl (.var 5) none (some (.con (.int 1))))), (.b1 .list (.var 5)), (.var 6)])), (.asg (.v 9) (.bin .add (.var 9) (.lst [(.rev (.var 6)), (.sl (.var 6) none (some (.con (.int 5)))), (.var 7), (.rev (.var 7)), (.con .non), (.tup []), (.con (.str [97]))]))), (.forr (.v 10) (.rng1 (.con (.int 20))) [(.asg (.v 11) (.bin .add (.bin .add (.call 9 [(.var 0), (.con (.int 9))]) (.bin .mul (.con (.int 17)) (.var 10))) (.bin .mul (.con (.int 5)) (.var 3)))), (.expr (.m .append (.var 9) [(.call 18 [(.idx (.tup [(.var 8), (.var 5), (.var 6), (.var 7)]) (.bin .mod (.var 10) (.con (.int 4)))), (.var 11)])]))]), (.forr (.v 12) (.seq (.var 9)) [(.ite (.not (.call 27 [(.call 4 [(.var 12)]), (.call 23 [(.var 12)])])) [(.ret (.con (.bl false)))] []), (.ite (.not (.call 27 [(.call 6 [(.var 12)]), (.call 24 [(.var 12)])])) [(.ret (.con (.bl false)))] []), (.ite (.not (.call 27 [(.call 7 [(.var 12)]), (.call 25 [(.var 12)])])) [(.ret (.con (.bl false)))] []), (.ite (.not (.call 27 [(.call 8 [(.var 12)]), (.call 26 [(.var 12)])])) [(.ret (.con (.bl false)))] [])])]),
  (.asg (.v 13) (.b1 .tuple (.comp false (.tup [(.con (.str [110])), (.con (.str [])), (.bin .add (.bin .mul (.con (.str [97])) (.var 14)) (.con (.str [46, 97]))), (.con (.bl true)), (.con (.str [47])), (.con (.int 99)), (.con (.bl false)), (.con (.str [97, 110, 121]))]) (.v 14) (.seq (.tup [(.con (.int 1)), (.con (.int 2)), (.con (.int 3))])) none))),
  (.asg (.v 13) (.bin .add (.var 13) (.b1 .tuple (.comp false (.bin .add (.tup [(.con (.str [107]))]) (.sl (.var 8) (some (.con (.int 1))) none)) (.v 8) (.seq (.var 13)) none)))),
  (.ite (.cmp .isn (.call 6 [(.bin .add (.sl (.var 13) none (some (.con (.int 1)))) (.tup [(.bin .add (.bin .add (.sl (.idx (.var 13) (.con (.int 0))) none (some (.con (.int 1)))) (.tup [(.con (.str [98]))])) (.sl (.idx (.var 13) (.con (.int 0))) (some (.con (.int 2))) none))]))]) (.con (.bl false))) [(.ret (.con (.bl false)))] []),
  (.ite (.or (.cmp .isn (.call 6 [(.var 13)]) (.con (.bl true))) (.cmp .isn (.call 6 [(.bin .add (.var 13) (.tup [(.bin .add (.tup [(.con (.str [109]))]) (.sl (.idx (.var 13) (.con (.int 0))) (some (.con (.int 1))) none))]))]) (.con (.bl false)))) [(.ret (.con (.bl false)))] []),
  (.ret (.cmp .is (.call 4 [(.bin .add (.bin .add (.sl (.idx (.var 13) (.con (.int 0))) none (some (.con (.int 5)))) (.tup [(.con (.int 100))])) (.sl (.idx (.var 13) (.con (.int 0))) (some (.con (.int 6))) none))]) (.con (.bl false))))]⟩
/-- 29 is_below : 0=one 1=other -/
def d_is_below : FDef := ⟨2, 2, false, [
  (.ret (.m .endswith (.var 0) [(.bin .add (.con (.str [46])) (.var 1))]))]⟩
/-- 30 site : 0=host -/
def d_site : FDef := ⟨1, 1, false, [
  (.ret (.m .join (.con (.str [46])) [(.sl (.m .split (.var 0) [(.con (.str [46]))]) (some (.b1 .neg (.con (.int 2)))) none)]))]⟩
/-- 31 steps : 0=path -/
def d_steps : FDef := ⟨1, 1, false, [
  (.ite (.cmp .eq (.var 0) (.con (.str [47]))) [(.ret (.tup []))] []),
  (.ret (.b1 .tuple (.m .split (.sl (.var 0) (some (.con (.int 1))) none) [(.con (.str [47]))])))]⟩
/-- 32 all_rules : 0=found 1=some 2=longer 3=one 4=word -/
def d_all_rules : FDef := ⟨0, 5, false, [
  (.asg (.v 0) (.lst [(.tup [])])),
  (.forr (.v 1) (.seq (.bin .add (.glo 6) (.glo 7))) [(.asg (.v 2) (.newl [])), (.forr (.v 3) (.seq (.var 0)) [(.expr (.m .extend (.var 2) [(.comp false (.bin .add (.var 3) (.tup [(.var 4)])) (.v 4) (.seq (.var 1)) none)]))]), (.asg (.v 0) (.var 2))]),
  (.ret (.b1 .tuple (.b1 .sorted (.var 0))))]⟩
/-- 33 may_put : 0=note 1=host -/
def d_may_put : FDef := ⟨2, 2, false, [
  (.ite (.and (.idx (.var 0) (.con (.int 3))) (.cmp .nin (.con (.str [46])) (.idx (.var 0) (.con (.int 2))))) [(.ret (.con (.bl false)))] []),
  (.ret (.or (.cmp .eq (.var 1) (.idx (.var 0) (.con (.int 2)))) (.call 29 [(.var 1), (.idx (.var 0) (.con (.int 2)))])))]⟩
/-- 34 by_site : 0=notes 1=found 2=note 3=one -/
def d_by_site : FDef := ⟨1, 4, false, [
  (.asg (.v 1) (.newd [] [])),
  (.forr (.v 2) (.seq (.var 0)) [(.sub (.var 1) (.call 30 [(.idx (.var 2) (.con (.int 2)))]) (.bin .add (.m .get (.var 1) [(.call 30 [(.idx (.var 2) (.con (.int 2)))]), (.con (.int 0))]) (.con (.int 1))))]),
  (.ret (.b1 .tuple (.comp false (.tup [(.var 3), (.idx (.var 1) (.var 3))]) (.v 3) (.seq (.b1 .sorted (.var 1))) none)))]⟩
/-- 35 _law_same : 0=_law_found 1=_law_due 2=_law_one 3=_law_other -/
def d__law_same : FDef := ⟨2, 4, false, [
  (.ite (.isi (.var 1) [3]) [(.ite (.or (.not (.isi (.var 0) [3])) (.cmp .ne (.b1 .len (.var 0)) (.b1 .len (.var 1)))) [(.ret (.con (.bl false)))] []), (.ret (.b1 .all (.comp false (.call 35 [(.var 2), (.var 3)]) (.t [(.v 2), (.v 3)]) (.zip (.var 0) (.var 1)) none)))] []),
  (.ite (.cmp .is (.var 1) (.con .non)) [(.ret (.cmp .is (.var 0) (.con .non)))] []),
  (.ite (.or (.isi (.var 1) [2]) (.isi (.var 0) [2])) [(.ret (.and (.isi (.var 1) [2]) (.and (.isi (.var 0) [2]) (.cmp .eq (.var 0) (.var 1)))))] []),
  (.ret (.and (.isi (.var 0) [1, 0]) (.cmp .eq (.var 0) (.var 1))))]⟩
/-- 36 _law_site : 0=_law_host_here 1=_law_labels -/
def d__law_site : FDef := ⟨1, 2, false, [
  (.asg (.v 1) (.m .split (.var 0) [(.con (.str [46]))])),
  (.ret (.b1 .tuple (.sl (.var 1) (some (.b2 .max (.con (.int 0)) (.bin .sub (.b1 .len (.var 1)) (.con (.int 2))))) none)))]⟩
/-- 37 _law_steps : 0=_law_path_here 1=_law_step -/
def d__law_steps : FDef := ⟨1, 2, false, [
  (.ret (.comp false (.var 1) (.v 1) (.seq (.m .split (.var 0) [(.con (.str [47]))])) (some (.cmp .ne (.var 1) (.con (.str []))))))]⟩
/-- 38 law : 0=_law_script 1=_law_k 2=_law_cell_here 3=_law_host_here 4=_law_other 5=_law_mine 6=_law_yours 7=_law_due 8=_law_path_here 9=_law_note_here 10=_law_one 11=_law_low 12=_law_high 13=_law_fits 14=_law_rows 15=_law_notes_here 16=_law_name 17=_law_every 18=_law_n 19=_law_first 20=_law_rest -/
def d_law_k02 : FDef := ⟨1, 21, false, [
  (.forr (.v 1) (.rng1 (.con (.int 14))) [(.asg (.v 2) (.bin .add (.call 9 [(.var 0), (.bin .mod (.var 1) (.con (.int 9)))]) (.bin .mul (.con (.int 31)) (.var 1)))), (.asg (.t [(.v 3), (.v 4)]) (.tup [(.call 11 [(.var 2)]), (.call 11 [(.bin .add (.call 9 [(.var 0), (.con (.int 9))]) (.bin .mul (.con (.int 7)) (.var 1)))])])), (.asg (.v 4) (.idx (.tup [(.var 4), (.var 3), (.bin .add (.con (.str [97, 98, 46])) (.var 3)), (.bin .add (.con (.str [120])) (.sl (.var 3) none (some (.con (.int 2))))), (.bin .add (.sl (.var 3) (some (.con (.int 1))) none) (.con (.str [97])))]) (.call 10 [(.var 2), (.con (.int 9749)), (.con (.int 5))]))), (.asg (.t [(.v 5), (.v 6)]) (.tup [(.m .split (.var 3) [(.con (.str [46]))]), (.m .split (.var 4) [(.con (.str [46]))])])), (.asg (.v 7) (.and (.cmp .gt (.b1 .len (.var 6)) (.b1 .len (.var 5))) (.cmp .eq (.sl (.var 6) (some (.bin .sub (.b1 .len (.var 6)) (.b1 .len (.var 5)))) none) (.var 5)))), (.ite (.not (.call 35 [(.tup [(.call 29 [(.var 4), (.var 3)]), (.call 30 [(.var 3)])]), (.tup [(.var 7), (.m .join (.con (.str [46])) [(.call 36 [(.var 3)])])])])) [(.ret (.con (.bl false)))] []), (.asg (.v 8) (.call 12 [(.var 2)])), (.ite (.not (.call 35 [(.call 31 [(.var 8)]), (.b1 .tuple (.call 37 [(.var 8)]))])) [(.ret (.con (.bl false)))] []), (.asg (.v 9) (.call 13 [(.bin .add (.var 2) (.con (.int 9)))])), (.forr (.v 10) (.seq (.tup [(.idx (.var 9) (.con (.int 2))), (.bin .add (.con (.str [120, 46])) (.idx (.var 9) (.con (.int 2)))), (.bin .add (.sl (.idx (.var 9) (.con (.int 2))) (some (.con (.int 2))) none) (.con (.str [97]))), (.var 3)])) [(.asg (.v 11) (.m .split (.var 10) [(.con (.str [46]))])), (.asg (.v 12) (.m .split (.idx (.var 9) (.con (.int 2))) [(.con (.str [46]))])), (.asg (.v 13) (.and (.cmp .eq (.sl (.var 11) (some (.b2 .max (.con (.int 0)) (.bin .sub (.b1 .len (.var 11)) (.b1 .len (.var 12))))) none) (.var 12)) (.not (.and (.idx (.var 9) (.con (.int 3))) (.cmp .eq (.b1 .len (.var 12)) (.con (.int 1))))))), (.ite (.not (.call 35 [(.call 33 [(.var 9), (.var 10)]), (.var 13)])) [(.ret (.con (.bl false)))] [])]), (.asg (.v 14) (.newd [] [])), (.asg (.v 15) (.call 15 [(.var 2), (.con (.int 6))])), (.forr (.v 9) (.seq (.var 15)) [(.asg (.v 16) (.m .join (.con (.str [46])) [(.call 36 [(.idx (.var 9) (.con (.int 2)))])])), (.sub (.var 14) (.var 16) (.bin .add (.m .get (.var 14) [(.var 16), (.con (.int 0))]) (.con (.int 1))))]), (.ite (.not (.call 35 [(.call 34 [(.var 15)]), (.b1 .tuple (.comp false (.tup [(.var 16), (.idx (.var 14) (.var 16))]) (.v 16) (.seq (.b1 .sorted (.var 14))) none))])) [(.ret (.con (.bl false)))] [])]),
  (.asg (.v 17) (.newl [])),
  (.forr (.v 18) (.rng1 (.con (.int 216))) [(.asg (.v 19) (.tup [(.idx (.tup [(.con (.str [115, 105, 103, 110, 115])), (.con (.str [115, 116, 101, 112, 115]))]) (.bin .mod (.var 18) (.con (.int 2)))), (.idx (.tup [(.con (.str [97, 108, 119, 97, 121, 115])), (.con (.str [110, 101, 118, 101, 114])), (.con (.str [116, 111, 108, 100]))]) (.bin .mod (.bin .fdiv (.var 18) (.con (.int 2))) (.con (.int 3)))), (.idx (.tup [(.con (.str [117, 110, 116, 105, 108])), (.con (.str [119, 105, 116, 104]))]) (.bin .mod (.bin .fdiv (.var 18) (.con (.int 6))) (.con (.int 2))))])), (.asg (.v 20) (.tup [(.idx (.tup [(.con (.str [102, 114, 101, 101])), (.con (.str [109, 117, 115, 116]))]) (.bin .mod (.bin .fdiv (.var 18) (.con (.int 12))) (.con (.int 2)))), (.idx (.tup [(.con (.str [107, 101, 101, 112])), (.con (.str [108, 111, 111, 115, 101])), (.con (.str [110, 111, 110, 101]))]) (.bin .mod (.bin .fdiv (.var 18) (.con (.int 24))) (.con (.int 3))))])), (.asg (.v 20) (.bin .add (.var 20) (.tup [(.idx (.tup [(.con (.str [108, 111, 110, 103])), (.con (.str [110, 97, 109, 101, 115])), (.con (.str [111, 108, 100]))]) (.bin .fdiv (.var 18) (.con (.int 72))))]))), (.expr (.m .append (.var 17) [(.bin .add (.var 19) (.var 20))]))]),
  (.ite (.not (.call 35 [(.call 32 []), (.b1 .tuple (.b1 .sorted (.var 17)))])) [(.ret (.con (.bl false)))] []),
  (.ret (.and (.cmp .eq (.call 30 [(.con (.str [97, 46, 98, 46, 99]))]) (.con (.str [98, 46, 99]))) (.and (.cmp .eq (.call 30 [(.con (.str [97]))]) (.con (.str [97]))) (.cmp .is (.call 29 [(.con (.str [97, 98])), (.con (.str [98]))]) (.con (.bl false))))))]⟩
/-- 39 host_fits : 0=rules 1=note 2=host 3=is_wide -/
def d_host_fits : FDef := ⟨3, 4, false, [
  (.ite (.cmp .eq (.var 2) (.idx (.var 1) (.con (.int 2)))) [(.ret (.con (.bl true)))] []),
  (.asg (.v 3) (.or (.cmp .eq (.idx (.var 0) (.con (.int 1))) (.con (.str [97, 108, 119, 97, 121, 115]))) (.and (.cmp .eq (.idx (.var 0) (.con (.int 1))) (.con (.str [116, 111, 108, 100]))) (.idx (.var 1) (.con (.int 3)))))),
  (.ret (.and (.var 3) (.call 29 [(.var 2), (.idx (.var 1) (.con (.int 2)))])))]⟩
/-- 40 path_fits : 0=rules 1=note 2=path 3=some -/
def d_path_fits : FDef := ⟨3, 4, false, [
  (.ite (.cmp .eq (.idx (.var 0) (.con (.int 0))) (.con (.str [115, 105, 103, 110, 115]))) [(.ret (.m .startswith (.var 2) [(.idx (.var 1) (.con (.int 4)))]))] []),
  (.asg (.v 3) (.call 31 [(.idx (.var 1) (.con (.int 4)))])),
  (.ret (.cmp .eq (.sl (.call 31 [(.var 2)]) none (some (.b1 .len (.var 3)))) (.var 3)))]⟩
/-- 41 has_ended : 0=rules 1=note 2=time -/
def d_has_ended : FDef := ⟨3, 3, false, [
  (.ite (.cmp .is (.idx (.var 1) (.con (.int 5))) (.con .non)) [(.ret (.con (.bl false)))] []),
  (.ite (.cmp .eq (.idx (.var 0) (.con (.int 2))) (.con (.str [117, 110, 116, 105, 108]))) [(.ret (.cmp .ge (.var 2) (.idx (.var 1) (.con (.int 5)))))] []),
  (.ret (.cmp .gt (.var 2) (.idx (.var 1) (.con (.int 5)))))]⟩
/-- 42 safe_fits : 0=rules 1=note 2=ask -/
def d_safe_fits : FDef := ⟨3, 3, false, [
  (.ret (.or (.not (.idx (.var 1) (.con (.int 6)))) (.or (.idx (.var 2) (.con (.int 3))) (.cmp .eq (.idx (.var 0) (.con (.int 3))) (.con (.str [102, 114, 101, 101]))))))]⟩
/-- 43 side_fits : 0=rules 1=note 2=ask -/
def d_side_fits : FDef := ⟨3, 3, false, [
  (.ite (.or (.cmp .is (.idx (.var 2) (.con (.int 4))) (.con .non)) (.or (.cmp .eq (.call 30 [(.idx (.var 2) (.con (.int 4)))]) (.call 30 [(.idx (.var 2) (.con (.int 0)))])) (.or (.cmp .eq (.idx (.var 0) (.con (.int 4))) (.con (.str [110, 111, 110, 101]))) (.cmp .eq (.idx (.var 1) (.con (.int 7))) (.con (.str [97, 110, 121])))))) [(.ret (.con (.bl true)))] []),
  (.ret (.and (.idx (.var 2) (.con (.int 5))) (.or (.cmp .eq (.idx (.var 1) (.con (.int 7))) (.con (.str [110, 101, 97, 114]))) (.cmp .eq (.idx (.var 0) (.con (.int 4))) (.con (.str [108, 111, 111, 115, 101]))))))]⟩
/-- 44 why_not : 0=rules 1=note 2=ask -/
def d_why_not : FDef := ⟨3, 3, false, [
  (.ite (.not (.call 39 [(.var 0), (.var 1), (.idx (.var 2) (.con (.int 0)))])) [(.ret (.con (.str [104, 111, 115, 116])))] []),
  (.ite (.not (.call 40 [(.var 0), (.var 1), (.idx (.var 2) (.con (.int 1)))])) [(.ret (.con (.str [112, 97, 116, 104])))] []),
  (.ite (.call 41 [(.var 0), (.var 1), (.idx (.var 2) (.con (.int 2)))]) [(.ret (.con (.str [101, 110, 100])))] []),
  (.ite (.not (.call 42 [(.var 0), (.var 1), (.var 2)])) [(.ret (.con (.str [115, 97, 102, 101])))] []),
  (.ite (.not (.call 43 [(.var 0), (.var 1), (.var 2)])) [(.ret (.con (.str [115, 105, 100, 101])))] []),
  (.ret (.con .non))]⟩
/-- 45 goes : 0=rules 1=note 2=ask -/
def d_goes : FDef := ⟨3, 3, false, [
  (.ret (.cmp .is (.call 44 [(.var 0), (.var 1), (.var 2)]) (.con .non)))]⟩
/-- 46 _law_host_fits : 0=_law_rules_here 1=_law_note_here 2=_law_host_here 3=_law_mine 4=_law_yours -/
def d__law_host_fits : FDef := ⟨3, 5, false, [
  (.ite (.cmp .eq (.var 2) (.idx (.var 1) (.con (.int 2)))) [(.ret (.con (.bl true)))] []),
  (.ite (.or (.cmp .eq (.idx (.var 0) (.con (.int 1))) (.con (.str [110, 101, 118, 101, 114]))) (.and (.cmp .eq (.idx (.var 0) (.con (.int 1))) (.con (.str [116, 111, 108, 100]))) (.not (.idx (.var 1) (.con (.int 3)))))) [(.ret (.con (.bl false)))] []),
  (.asg (.t [(.v 3), (.v 4)]) (.tup [(.m .split (.var 2) [(.con (.str [46]))]), (.m .split (.idx (.var 1) (.con (.int 2))) [(.con (.str [46]))])])),
  (.ret (.and (.cmp .gt (.b1 .len (.var 3)) (.b1 .len (.var 4))) (.cmp .eq (.sl (.var 3) (some (.bin .sub (.b1 .len (.var 3)) (.b1 .len (.var 4)))) none) (.var 4))))]⟩
/-- 47 _law_path_fits : 0=_law_rules_here 1=_law_note_here 2=_law_path_here 3=_law_mine 4=_law_yours -/
def d__law_path_fits : FDef := ⟨3, 5, false, [
  (.ite (.cmp .eq (.idx (.var 0) (.con (.int 0))) (.con (.str [115, 105, 103, 110, 115]))) [(.ret (.cmp .eq (.sl (.var 2) none (some (.b1 .len (.idx (.var 1) (.con (.int 4)))))) (.idx (.var 1) (.con (.int 4)))))] []),
  (.asg (.t [(.v 3), (.v 4)]) (.tup [(.call 37 [(.var 2)]), (.call 37 [(.idx (.var 1) (.con (.int 4)))])])),
  (.ret (.cmp .eq (.sl (.var 3) none (some (.b1 .len (.var 4)))) (.var 4)))]⟩
/-- 48 _law_ended : 0=_law_rules_here 1=_law_note_here 2=_law_time -/
def d__law_ended : FDef := ⟨3, 3, false, [
  (.ite (.cmp .is (.idx (.var 1) (.con (.int 5))) (.con .non)) [(.ret (.con (.bl false)))] []),
  (.ret (.or (.cmp .gt (.var 2) (.idx (.var 1) (.con (.int 5)))) (.and (.cmp .eq (.var 2) (.idx (.var 1) (.con (.int 5)))) (.cmp .eq (.idx (.var 0) (.con (.int 2))) (.con (.str [117, 110, 116, 105, 108]))))))]⟩
/-- 49 _law_safe_fits : 0=_law_rules_here 1=_law_note_here 2=_law_ask_here -/
def d__law_safe_fits : FDef := ⟨3, 3, false, [
  (.ret (.or (.idx (.var 2) (.con (.int 3))) (.or (.not (.idx (.var 1) (.con (.int 6)))) (.cmp .eq (.idx (.var 0) (.con (.int 3))) (.con (.str [102, 114, 101, 101]))))))]⟩
/-- 50 _law_side_fits : 0=_law_rules_here 1=_law_note_here 2=_law_ask_here -/
def d__law_side_fits : FDef := ⟨3, 3, false, [
  (.ite (.or (.cmp .is (.idx (.var 2) (.con (.int 4))) (.con .non)) (.cmp .eq (.call 36 [(.idx (.var 2) (.con (.int 4)))]) (.call 36 [(.idx (.var 2) (.con (.int 0)))]))) [(.ret (.con (.bl true)))] []),
  (.ite (.or (.cmp .eq (.idx (.var 0) (.con (.int 4))) (.con (.str [110, 111, 110, 101]))) (.cmp .eq (.idx (.var 1) (.con (.int 7))) (.con (.str [97, 110, 121])))) [(.ret (.con (.bl true)))] []),
  (.ret (.and (.idx (.var 2) (.con (.int 5))) (.or (.cmp .eq (.idx (.var 1) (.con (.int 7))) (.con (.str [110, 101, 97, 114]))) (.cmp .eq (.idx (.var 0) (.con (.int 4))) (.con (.str [108, 111, 111, 115, 101]))))))]⟩
/-- 51 _law_why : 0=_law_rules_here 1=_law_note_here 2=_law_ask_here -/
def d__law_why : FDef := ⟨3, 3, false, [
  (.ite (.not (.call 46 [(.var 0), (.var 1), (.idx (.var 2) (.con (.int 0)))])) [(.ret (.con (.str [104, 111, 115, 116])))] []),
  (.ite (.not (.call 47 [(.var 0), (.var 1), (.idx (.var 2) (.con (.int 1)))])) [(.ret (.con (.str [112, 97, 116, 104])))] []),
  (.ite (.call 48 [(.var 0), (.var 1), (.idx (.var 2) (.con (.int 2)))]) [(.ret (.con (.str [101, 110, 100])))] []),
  (.ite (.not (.call 49 [(.var 0), (.var 1), (.var 2)])) [(.ret (.con (.str [115, 97, 102, 101])))] []),
  (.ret (.ite (.call 50 [(.var 0), (.var 1), (.var 2)]) (.con .non) (.con (.str [115, 105, 100, 101]))))]⟩
/-- 52 law : 0=_law_script 1=_law_k 2=_law_cell_here 3=_law_note_here 4=_law_j 5=_law_seed 6=_law_rules_here 7=_law_ask_here 8=_law_due 9=_law_said 10=_law_asks -/
def d_law_k03 : FDef := ⟨1, 11, false, [
  (.forr (.v 1) (.rng1 (.con (.int 14))) [(.asg (.v 2) (.bin .add (.call 9 [(.var 0), (.bin .mod (.var 1) (.con (.int 9)))]) (.bin .mul (.con (.int 31)) (.var 1)))), (.asg (.v 3) (.call 13 [(.var 2)])), (.forr (.v 4) (.rng1 (.con (.int 10))) [(.asg (.v 5) (.bin .add (.bin .add (.call 9 [(.var 0), (.con (.int 9))]) (.bin .mul (.con (.int 17)) (.var 4))) (.bin .mul (.con (.int 7)) (.var 1)))), (.asg (.t [(.v 6), (.v 7)]) (.tup [(.call 16 [(.var 5)]), (.call 17 [(.bin .add (.var 5) (.con (.int 1))), (.tup [(.var 3)])])])), (.asg (.v 8) (.tup [(.call 46 [(.var 6), (.var 3), (.idx (.var 7) (.con (.int 0)))]), (.call 47 [(.var 6), (.var 3), (.idx (.var 7) (.con (.int 1)))])])), (.asg (.v 8) (.bin .add (.var 8) (.tup [(.call 48 [(.var 6), (.var 3), (.idx (.var 7) (.con (.int 2)))])]))), (.asg (.v 9) (.tup [(.call 39 [(.var 6), (.var 3), (.idx (.var 7) (.con (.int 0)))]), (.call 40 [(.var 6), (.var 3), (.idx (.var 7) (.con (.int 1)))]), (.call 41 [(.var 6), (.var 3), (.idx (.var 7) (.con (.int 2)))])])), (.ite (.not (.call 35 [(.var 9), (.var 8)])) [(.ret (.con (.bl false)))] []), (.asg (.v 8) (.tup [(.call 49 [(.var 6), (.var 3), (.var 7)]), (.call 50 [(.var 6), (.var 3), (.var 7)])])), (.ite (.not (.call 35 [(.tup [(.call 42 [(.var 6), (.var 3), (.var 7)]), (.call 43 [(.var 6), (.var 3), (.var 7)])]), (.var 8)])) [(.ret (.con (.bl false)))] []), (.asg (.v 8) (.call 51 [(.var 6), (.var 3), (.var 7)])), (.ite (.not (.call 35 [(.tup [(.call 44 [(.var 6), (.var 3), (.var 7)]), (.call 45 [(.var 6), (.var 3), (.var 7)])]), (.tup [(.var 8), (.cmp .is (.var 8) (.con .non))])])) [(.ret (.con (.bl false)))] [])])]),
  (.asg (.t [(.v 3), (.v 6)]) (.tup [(.tup [(.con (.str [110])), (.con (.str [])), (.con (.str [97, 46, 98])), (.con (.bl true)), (.con (.str [47, 97])), (.con (.int 5)), (.con (.bl false)), (.con (.str [97, 110, 121]))]), (.tup [(.con (.str [115, 116, 101, 112, 115])), (.con (.str [116, 111, 108, 100])), (.con (.str [117, 110, 116, 105, 108])), (.con (.str [109, 117, 115, 116])), (.con (.str [107, 101, 101, 112])), (.con (.str [111, 108, 100]))])])),
  (.asg (.v 10) (.lst [(.tup [(.con (.str [120, 46, 97, 46, 98])), (.con (.str [47, 97, 47, 98])), (.con (.int 4))]), (.tup [(.con (.str [99, 97, 46, 98])), (.con (.str [47, 97])), (.con (.int 4))]), (.tup [(.con (.str [97, 46, 98])), (.con (.str [47, 97, 98])), (.con (.int 4))]), (.tup [(.con (.str [97, 46, 98])), (.con (.str [47, 97])), (.con (.int 5))])])),
  (.ret (.cmp .eq (.comp false (.call 44 [(.var 6), (.var 3), (.bin .add (.var 7) (.tup [(.con (.bl true)), (.con .non), (.con (.bl false))]))]) (.v 7) (.seq (.var 10)) none) (.lst [(.con .non), (.con (.str [104, 111, 115, 116])), (.con (.str [112, 97, 116, 104])), (.con (.str [101, 110, 100]))])))]⟩
/-- 53 _law_is_narrow : 0=_law_note_here 1=_law_ask_here 2=_law_rules 3=_law_pairs 4=_law_n 5=_law_narrow 6=_law_wider 7=_law_new -/
def d__law_is_narrow : FDef := ⟨3, 8, false, [
  (.asg (.v 3) (.tup [(.tup [(.con (.int 0)), (.con (.str [115, 116, 101, 112, 115])), (.con (.str [115, 105, 103, 110, 115]))]), (.tup [(.con (.int 3)), (.con (.str [109, 117, 115, 116])), (.con (.str [102, 114, 101, 101]))]), (.tup [(.con (.int 2)), (.con (.str [117, 110, 116, 105, 108])), (.con (.str [119, 105, 116, 104]))])])),
  (.asg (.v 3) (.bin .add (.var 3) (.tup [(.tup [(.con (.int 1)), (.con (.str [110, 101, 118, 101, 114])), (.con (.str [116, 111, 108, 100]))]), (.tup [(.con (.int 1)), (.con (.str [116, 111, 108, 100])), (.con (.str [97, 108, 119, 97, 121, 115]))])]))),
  (.forr (.t [(.v 4), (.v 5), (.v 6)]) (.seq (.bin .add (.var 3) (.tup [(.tup [(.con (.int 4)), (.con (.str [107, 101, 101, 112])), (.con (.str [108, 111, 111, 115, 101]))]), (.tup [(.con (.int 4)), (.con (.str [108, 111, 111, 115, 101])), (.con (.str [110, 111, 110, 101]))])]))) [(.asg (.v 7) (.bin .add (.bin .add (.sl (.var 2) none (some (.var 4))) (.tup [(.var 6)])) (.sl (.var 2) (some (.bin .add (.var 4) (.con (.int 1)))) none))), (.ite (.and (.cmp .eq (.idx (.var 2) (.var 4)) (.var 5)) (.and (.call 45 [(.var 2), (.var 0), (.var 1)]) (.not (.call 45 [(.var 7), (.var 0), (.var 1)])))) [(.ret (.con (.bl false)))] [])]),
  (.ret (.con (.bl true)))]⟩
/-- 54 _law_once : 0=_law_script 1=_law_every 2=_law_k 3=_law_note_here 4=_law_ask_here 5=_law_n 6=_law_rules 7=_law_fits 8=_law_home 9=_law_ends 10=_law_time 11=_law_bare 12=_law_old -/
def d__law_once : FDef := ⟨1, 13, false, [
  (.asg (.v 1) (.call 32 [])),
  (.forr (.v 2) (.rng1 (.con (.int 14))) [(.asg (.v 3) (.call 13 [(.bin .add (.call 9 [(.var 0), (.bin .mod (.var 2) (.con (.int 9)))]) (.bin .mul (.con (.int 31)) (.var 2)))])), (.asg (.v 4) (.call 17 [(.bin .add (.call 9 [(.var 0), (.con (.int 9))]) (.bin .mul (.con (.int 7)) (.var 2))), (.tup [(.var 3)])])), (.forr (.v 5) (.rng3 (.con (.int 0)) (.con (.int 216)) (.bin .add (.con (.int 1)) (.call 10 [(.bin .add (.call 9 [(.var 0), (.con (.int 8))]) (.var 2)), (.con (.int 9743)), (.con (.int 9))]))) [(.asg (.v 6) (.idx (.var 1) (.var 5))), (.asg (.v 7) (.and (.call 39 [(.var 6), (.var 3), (.idx (.var 4) (.con (.int 0)))]) (.call 40 [(.var 6), (.var 3), (.idx (.var 4) (.con (.int 1)))]))), (.asg (.v 7) (.and (.var 7) (.not (.call 41 [(.var 6), (.var 3), (.idx (.var 4) (.con (.int 2)))])))), (.asg (.v 7) (.and (.var 7) (.and (.call 42 [(.var 6), (.var 3), (.var 4)]) (.call 43 [(.var 6), (.var 3), (.var 4)])))), (.ite (.or (.cmp .ne (.call 45 [(.var 6), (.var 3), (.var 4)]) (.var 7)) (.cmp .ne (.cmp .is (.call 44 [(.var 6), (.var 3), (.var 4)]) (.con .non)) (.var 7))) [(.ret (.con (.bl false)))] []), (.ite (.not (.call 53 [(.var 3), (.var 4), (.var 6)])) [(.ret (.con (.bl false)))] []), (.asg (.v 8) (.tup [(.idx (.var 3) (.con (.int 2))), (.idx (.var 3) (.con (.int 4))), (.idx (.var 4) (.con (.int 2))), (.con (.bl true)), (.con .non), (.idx (.var 4) (.con (.int 5)))])), (.ite (.and (.var 7) (.not (.call 45 [(.var 6), (.var 3), (.var 8)]))) [(.ret (.con (.bl false)))] []), (.ite (.and (.var 7) (.not (.call 45 [(.var 6), (.var 3), (.bin .add (.sl (.var 4) none (some (.con (.int 3)))) (.tup [(.con (.bl true)), (.con .non), (.idx (.var 4) (.con (.int 5)))]))]))) [(.ret (.con (.bl false)))] []), (.asg (.v 9) (.comp false (.call 41 [(.var 6), (.var 3), (.var 10)]) (.v 10) (.rng1 (.con (.int 100))) none)), (.ite (.cmp .ne (.var 9) (.b1 .sorted (.var 9))) [(.ret (.con (.bl false)))] []), (.asg (.v 11) (.bin .add (.sl (.var 3) none (some (.con (.int 5)))) (.tup [(.con .non), (.con (.bl false)), (.con (.str [97, 110, 121]))]))), (.ite (.not (.call 45 [(.var 6), (.var 11), (.bin .add (.tup [(.idx (.var 3) (.con (.int 2))), (.idx (.var 3) (.con (.int 4)))]) (.sl (.var 4) (some (.con (.int 2))) none))])) [(.ret (.con (.bl false)))] []), (.ite (.and (.call 45 [(.var 6), (.var 3), (.var 4)]) (.not (.call 45 [(.var 6), (.var 11), (.var 4)]))) [(.ret (.con (.bl false)))] []), (.asg (.v 12) (.bin .add (.sl (.var 6) none (some (.con (.int 5)))) (.tup [(.con (.str [111, 108, 100]))]))), (.ite (.cmp .ne (.call 44 [(.var 12), (.var 3), (.var 4)]) (.call 44 [(.var 6), (.var 3), (.var 4)])) [(.ret (.con (.bl false)))] [])])]),
  (.ret (.con (.bl true)))]⟩
/-- 55 law : 0=_law_script 1=_law_cell_here -/
def d_law_k04 : FDef := ⟨1, 2, false, [
  (.ret (.and (.call 54 [(.var 0)]) (.call 54 [(.comp false (.bin .add (.var 1) (.con (.int 1))) (.v 1) (.seq (.rev (.var 0))) none)])))]⟩
/-- 56 place : 0=rules 1=note -/
def d_place : FDef := ⟨2, 2, false, [
  (.ite (.cmp .eq (.idx (.var 0) (.con (.int 5))) (.con (.str [108, 111, 110, 103]))) [(.ret (.tup [(.bin .sub (.con (.int 0)) (.b1 .len (.idx (.var 1) (.con (.int 4))))), (.con (.str []))]))] []),
  (.ite (.cmp .eq (.idx (.var 0) (.con (.int 5))) (.con (.str [110, 97, 109, 101, 115]))) [(.ret (.tup [(.con (.int 0)), (.idx (.var 1) (.con (.int 0)))]))] []),
  (.ret (.tup [(.con (.int 0)), (.con (.str []))]))]⟩
/-- 57 sent : 0=rules 1=notes 2=ask 3=some 4=note -/
def d_sent : FDef := ⟨3, 5, false, [
  (.asg (.v 3) (.comp false (.var 4) (.v 4) (.seq (.var 1)) (some (.call 45 [(.var 0), (.var 4), (.var 2)])))),
  (.ret (.b1 .tuple (.comp false (.sl (.var 4) none (some (.con (.int 2)))) (.v 4) (.seq (.sortk (.var 3) 4 (.call 56 [(.var 0), (.var 4)]))) none)))]⟩
/-- 58 reasons : 0=rules 1=notes 2=ask 3=note -/
def d_reasons : FDef := ⟨3, 4, false, [
  (.ret (.b1 .tuple (.comp false (.call 44 [(.var 0), (.var 3), (.var 2)]) (.v 3) (.seq (.var 1)) none)))]⟩
/-- 59 head_of : 0=some 1=name 2=worth -/
def d_head_of : FDef := ⟨1, 3, false, [
  (.ret (.m .join (.con (.str [59, 32])) [(.comp false (.bin .add (.bin .add (.var 1) (.con (.str [61]))) (.var 2)) (.t [(.v 1), (.v 2)]) (.seq (.var 0)) none)]))]⟩
/-- 60 head : 0=rules 1=notes 2=ask -/
def d_head : FDef := ⟨3, 3, false, [
  (.ret (.call 59 [(.call 57 [(.var 0), (.var 1), (.var 2)])]))]⟩
/-- 61 named : 0=rules 1=notes 2=ask 3=name 4=one 5=worth -/
def d_named : FDef := ⟨4, 6, false, [
  (.forr (.t [(.v 4), (.v 5)]) (.seq (.call 57 [(.var 0), (.var 1), (.var 2)])) [(.ite (.cmp .eq (.var 4) (.var 3)) [(.ret (.var 5))] [])]),
  (.raise 1)]⟩
/-- 62 _law_sent : 0=_law_rules_here 1=_law_notes_here 2=_law_ask_here 3=_law_rows 4=_law_n 5=_law_note_here 6=_law_row -/
def d__law_sent : FDef := ⟨3, 7, false, [
  (.asg (.v 3) (.comp false (.tup [(.var 5), (.var 4)]) (.t [(.v 4), (.v 5)]) (.enum (.var 1)) (some (.cmp .is (.call 51 [(.var 0), (.var 5), (.var 2)]) (.con .non))))),
  (.ite (.cmp .eq (.idx (.var 0) (.con (.int 5))) (.con (.str [108, 111, 110, 103]))) [(.asg (.v 3) (.sortk (.var 3) 6 (.tup [(.bin .sub (.con (.int 0)) (.b1 .len (.idx (.idx (.var 6) (.con (.int 0))) (.con (.int 4))))), (.idx (.var 6) (.con (.int 1)))])))] []),
  (.ite (.cmp .eq (.idx (.var 0) (.con (.int 5))) (.con (.str [110, 97, 109, 101, 115]))) [(.asg (.v 3) (.sortk (.var 3) 6 (.tup [(.idx (.idx (.var 6) (.con (.int 0))) (.con (.int 0))), (.idx (.var 6) (.con (.int 1)))])))] []),
  (.ret (.b1 .tuple (.comp false (.tup [(.idx (.var 5) (.con (.int 0))), (.idx (.var 5) (.con (.int 1)))]) (.t [(.v 5), (.v 4)]) (.seq (.var 3)) none)))]⟩
/-- 63 _law_word : 0=_law_what 1=_law_kinds -/
def d__law_word : FDef := ⟨1, 2, true, [
  (.asg (.v 1) (.lst [(.isx (.var 0) 1), (.isx (.var 0) 2)])),
  (.asg (.v 1) (.bin .add (.var 1) (.lst [(.isx (.var 0) 3), (.isx (.var 0) 4)]))),
  (.asg (.v 1) (.bin .add (.var 1) (.lst [(.isx (.var 0) 5), (.isx (.var 0) 6)]))),
  (.ite (.or (.cmp .ne (.m .count (.var 1) [(.con (.bl true))]) (.con (.int 1))) (.not (.isx (.var 0) 99))) [(.ret (.con (.str [119, 114, 111, 110, 103])))] []),
  (.ret (.idx (.tup [(.con (.str [110, 111, 32, 110, 111, 116, 101])), (.con (.str [102, 117, 108, 108])), (.con (.str [110, 111, 32, 114, 117, 108, 101, 115])), (.con (.str [110, 111, 116, 32, 116, 104, 101, 105, 114, 115])), (.con (.str [110, 111, 32, 100, 101, 101, 100])), (.con (.str [110, 111, 32, 116, 101, 120, 116]))]) (.m .index (.var 1) [(.con (.bl true))])))]⟩
/-- 64 _law_said : 0=_law_rules_here 1=_law_notes_here 2=_law_ask_here 3=_law_name 4=e -/
def d__law_said : FDef := ⟨4, 5, false, [
  (.tryy [(.ret (.call 61 [(.var 0), (.var 1), (.var 2), (.var 3)]))] 0 (some 4) none (.call 63 [(.var 4)]) [0, 1, 2, 3, 4, 5, 6])]⟩
/-- 65 law : 0=_law_script 1=_law_k 2=_law_cell_here 3=_law_notes_here 4=_law_j 5=_law_seed 6=_law_rules_here 7=_law_ask_here 8=_law_due 9=_law_here 10=_law_n 11=_law_name 12=_law_worth 13=_law_note_here 14=_law_mine 15=_law_one -/
def d_law_k05 : FDef := ⟨1, 16, false, [
  (.forr (.v 1) (.rng1 (.con (.int 12))) [(.asg (.v 2) (.bin .add (.call 9 [(.var 0), (.bin .mod (.var 1) (.con (.int 9)))]) (.bin .mul (.con (.int 31)) (.var 1)))), (.asg (.v 3) (.call 15 [(.var 2), (.con (.int 6))])), (.forr (.v 4) (.rng1 (.con (.int 8))) [(.asg (.v 5) (.bin .add (.bin .add (.call 9 [(.var 0), (.con (.int 9))]) (.bin .mul (.con (.int 17)) (.var 4))) (.bin .mul (.con (.int 7)) (.var 1)))), (.asg (.t [(.v 6), (.v 7)]) (.tup [(.call 16 [(.var 5)]), (.call 17 [(.bin .add (.var 5) (.con (.int 1))), (.var 3)])])), (.asg (.t [(.v 8), (.v 9)]) (.tup [(.call 62 [(.var 6), (.var 3), (.var 7)]), (.con (.str []))])), (.forr (.t [(.v 10), (.t [(.v 11), (.v 12)])]) (.enum (.var 8)) [(.asg (.v 9) (.bin .add (.bin .add (.bin .add (.bin .add (.var 9) (.ite (.cmp .gt (.var 10) (.con (.int 0))) (.con (.str [59, 32])) (.con (.str [])))) (.var 11)) (.con (.str [61]))) (.var 12)))]), (.ite (.not (.call 35 [(.tup [(.call 57 [(.var 6), (.var 3), (.var 7)]), (.call 60 [(.var 6), (.var 3), (.var 7)])]), (.tup [(.var 8), (.var 9)])])) [(.ret (.con (.bl false)))] []), (.ite (.not (.call 35 [(.call 58 [(.var 6), (.var 3), (.var 7)]), (.b1 .tuple (.comp false (.call 51 [(.var 6), (.var 13), (.var 7)]) (.v 13) (.seq (.var 3)) none))])) [(.ret (.con (.bl false)))] []), (.forr (.v 11) (.seq (.tup [(.con (.str [110])), (.con (.str [107])), (.con (.str [122, 122]))])) [(.asg (.v 14) (.comp false (.var 12) (.t [(.v 15), (.v 12)]) (.seq (.var 8)) (some (.cmp .eq (.var 15) (.var 11))))), (.ite (.not (.call 35 [(.call 64 [(.var 6), (.var 3), (.var 7), (.var 11)]), (.ite (.cmp .ne (.var 14) (.lst [])) (.idx (.var 14) (.con (.int 0))) (.con (.str [110, 111, 32, 110, 111, 116, 101])))])) [(.ret (.con (.bl false)))] [])])])]),
  (.asg (.v 3) (.tup [(.tup [(.con (.str [110])), (.con (.str [97])), (.con (.str [120])), (.con (.bl false)), (.con (.str [47])), (.con .non), (.con (.bl false)), (.con (.str [97, 110, 121]))]), (.tup [(.con (.str [98])), (.con (.str [99])), (.con (.str [120])), (.con (.bl false)), (.con (.str [47, 97])), (.con .non), (.con (.bl false)), (.con (.str [97, 110, 121]))])])),
  (.asg (.t [(.v 6), (.v 7)]) (.tup [(.tup [(.con (.str [115, 116, 101, 112, 115])), (.con (.str [116, 111, 108, 100])), (.con (.str [117, 110, 116, 105, 108])), (.con (.str [109, 117, 115, 116])), (.con (.str [107, 101, 101, 112])), (.con (.str [108, 111, 110, 103]))]), (.tup [(.con (.str [120])), (.con (.str [47, 97])), (.con (.int 0)), (.con (.bl true)), (.con .non), (.con (.bl false))])])),
  (.ret (.and (.cmp .eq (.call 60 [(.var 6), (.var 3), (.var 7)]) (.con (.str [98, 61, 99, 59, 32, 110, 61, 97]))) (.cmp .eq (.call 57 [(.bin .add (.sl (.var 6) none (some (.con (.int 5)))) (.tup [(.con (.str [111, 108, 100]))])), (.var 3), (.var 7)]) (.tup [(.tup [(.con (.str [110])), (.con (.str [97]))]), (.tup [(.con (.str [98])), (.con (.str [99]))])]))))]⟩
/-- 66 _law_is_part : 0=_law_few 1=_law_many 2=_law_one -/
def d__law_is_part : FDef := ⟨2, 3, false, [
  (.asg (.v 1) (.b1 .listc (.var 1))),
  (.forr (.v 2) (.seq (.var 0)) [(.ite (.cmp .nin (.var 2) (.var 1)) [(.ret (.con (.bl false)))] []), (.expr (.m .remove (.var 1) [(.var 2)]))]),
  (.ret (.con (.bl true)))]⟩
/-- 67 _law_is_ordered : 0=_law_rules_here 1=_law_notes_here 2=_law_ask_here 3=_law_some 4=_law_names 5=_law_name 6=_law_worth 7=_law_going 8=_law_note_here 9=_law_longs 10=_law_by_long 11=_law_n -/
def d__law_is_ordered : FDef := ⟨4, 12, false, [
  (.asg (.v 4) (.comp false (.var 5) (.t [(.v 5), (.v 6)]) (.seq (.call 57 [(.bin .add (.sl (.var 0) none (some (.con (.int 5)))) (.tup [(.con (.str [110, 97, 109, 101, 115]))])), (.var 1), (.var 2)])) none)),
  (.ite (.or (.cmp .ne (.var 4) (.b1 .sorted (.var 4))) (.cmp .ne (.b1 .sorted (.var 4)) (.b1 .sorted (.comp false (.var 5) (.t [(.v 5), (.v 6)]) (.seq (.var 3)) none)))) [(.ret (.con (.bl false)))] []),
  (.asg (.v 7) (.comp false (.var 8) (.v 8) (.seq (.var 1)) (some (.call 45 [(.var 0), (.var 8), (.var 2)])))),
  (.asg (.v 9) (.b1 .sorted (.comp false (.bin .sub (.con (.int 0)) (.b1 .len (.idx (.var 8) (.con (.int 4))))) (.v 8) (.seq (.var 7)) none))),
  (.asg (.v 10) (.call 57 [(.bin .add (.sl (.var 0) none (some (.con (.int 5)))) (.tup [(.con (.str [108, 111, 110, 103]))])), (.var 1), (.var 2)])),
  (.forr (.v 11) (.rng1 (.b1 .len (.var 10))) [(.ite (.cmp .eq (.comp false (.var 8) (.v 8) (.seq (.var 7)) (some (.and (.cmp .eq (.sl (.var 8) none (some (.con (.int 2)))) (.idx (.var 10) (.var 11))) (.cmp .eq (.bin .sub (.con (.int 0)) (.b1 .len (.idx (.var 8) (.con (.int 4))))) (.idx (.var 9) (.var 11)))))) (.lst [])) [(.ret (.con (.bl false)))] [])]),
  (.ret (.con (.bl true)))]⟩
/-- 68 law : 0=_law_script 1=_law_k 2=_law_notes_here 3=_law_j 4=_law_seed 5=_law_rules_here 6=_law_ask_here 7=_law_some 8=_law_why 9=_law_note_here 10=_law_one 11=_law_alone 12=_law_n 13=_law_rest 14=_law_wide 15=_law_tight 16=_law_name 17=_law_worth 18=_law_start -/
def d_law_k06 : FDef := ⟨1, 19, false, [
  (.forr (.v 1) (.rng1 (.con (.int 12))) [(.asg (.v 2) (.call 15 [(.bin .add (.call 9 [(.var 0), (.bin .mod (.var 1) (.con (.int 9)))]) (.bin .mul (.con (.int 31)) (.var 1))), (.con (.int 6))])), (.forr (.v 3) (.rng1 (.con (.int 8))) [(.asg (.v 4) (.bin .add (.bin .add (.call 9 [(.var 0), (.con (.int 9))]) (.bin .mul (.con (.int 17)) (.var 3))) (.bin .mul (.con (.int 7)) (.var 1)))), (.asg (.t [(.v 5), (.v 6)]) (.tup [(.call 16 [(.var 4)]), (.call 17 [(.bin .add (.var 4) (.con (.int 1))), (.var 2)])])), (.asg (.t [(.v 7), (.v 8)]) (.tup [(.call 57 [(.var 5), (.var 2), (.var 6)]), (.call 58 [(.var 5), (.var 2), (.var 6)])])), (.ite (.cmp .ne (.b1 .len (.var 7)) (.m .count (.var 8) [(.con .non)])) [(.ret (.con (.bl false)))] []), (.ite (.cmp .ne (.comp false (.var 9) (.t [(.v 9), (.v 10)]) (.zip (.var 2) (.var 8)) (some (.cmp .ne (.cmp .is (.var 10) (.con .non)) (.call 45 [(.var 5), (.var 9), (.var 6)])))) (.lst [])) [(.ret (.con (.bl false)))] []), (.asg (.v 11) (.newl [])), (.forr (.v 9) (.seq (.var 2)) [(.expr (.m .extend (.var 11) [(.b1 .list (.call 57 [(.var 5), (.tup [(.var 9)]), (.var 6)]))]))]), (.ite (.or (.cmp .ne (.b1 .sorted (.var 11)) (.b1 .sorted (.var 7))) (.cmp .ne (.call 57 [(.bin .add (.sl (.var 5) none (some (.con (.int 5)))) (.tup [(.con (.str [111, 108, 100]))])), (.var 2), (.var 6)]) (.b1 .tuple (.var 11)))) [(.ret (.con (.bl false)))] []), (.ite (.not (.call 67 [(.var 5), (.var 2), (.var 6), (.var 7)])) [(.ret (.con (.bl false)))] []), (.forr (.v 12) (.rng1 (.b1 .len (.var 2))) [(.asg (.v 13) (.call 57 [(.var 5), (.bin .add (.sl (.var 2) none (some (.var 12))) (.sl (.var 2) (some (.bin .add (.var 12) (.con (.int 1)))) none)), (.var 6)])), (.ite (.or (.not (.chain .le .le (.con (.int 0)) (.bin .sub (.b1 .len (.var 7)) (.b1 .len (.var 13))) (.con (.int 1)))) (.not (.call 66 [(.var 13), (.var 7)]))) [(.ret (.con (.bl false)))] [])]), (.asg (.v 14) (.tup [(.con (.str [115, 105, 103, 110, 115])), (.con (.str [97, 108, 119, 97, 121, 115])), (.con (.str [119, 105, 116, 104])), (.con (.str [102, 114, 101, 101])), (.con (.str [110, 111, 110, 101])), (.idx (.var 5) (.con (.int 5)))])), (.asg (.v 15) (.tup [(.con (.str [115, 116, 101, 112, 115])), (.con (.str [110, 101, 118, 101, 114])), (.con (.str [117, 110, 116, 105, 108])), (.con (.str [109, 117, 115, 116])), (.con (.str [107, 101, 101, 112])), (.con (.str [111, 108, 100]))])), (.ite (.or (.not (.call 66 [(.var 7), (.call 57 [(.var 14), (.var 2), (.var 6)])])) (.not (.call 66 [(.call 57 [(.var 15), (.var 2), (.var 6)]), (.var 7)]))) [(.ret (.con (.bl false)))] []), (.forr (.t [(.v 16), (.v 17)]) (.seq (.sl (.var 7) none (some (.con (.int 1))))) [(.asg (.v 18) (.sl (.call 60 [(.var 5), (.var 2), (.var 6)]) none (some (.bin .add (.b1 .len (.var 16)) (.con (.int 1)))))), (.ite (.or (.cmp .ne (.call 61 [(.var 5), (.var 2), (.var 6), (.var 16)]) (.var 17)) (.cmp .ne (.var 18) (.bin .add (.var 16) (.con (.str [61]))))) [(.ret (.con (.bl false)))] [])])])]),
  (.ret (.con (.bl true)))]⟩
/-- 69 put : 0=notes 1=note 2=marks 3=one 4=where -/
def d_put : FDef := ⟨2, 5, false, [
  (.asg (.v 2) (.comp false (.call 5 [(.var 3)]) (.v 3) (.seq (.var 0)) none)),
  (.ite (.cmp .in_ (.call 5 [(.var 1)]) (.var 2)) [(.asg (.v 4) (.m .index (.var 2) [(.call 5 [(.var 1)])])), (.ret (.bin .add (.bin .add (.sl (.var 0) none (some (.var 4))) (.tup [(.var 1)])) (.sl (.var 0) (some (.bin .add (.var 4) (.con (.int 1)))) none)))] []),
  (.ite (.cmp .eq (.b1 .len (.var 0)) (.glo 2)) [(.raise 2)] []),
  (.ret (.bin .add (.var 0) (.tup [(.var 1)])))]⟩
/-- 70 without : 0=notes 1=one 2=note -/
def d_without : FDef := ⟨2, 3, false, [
  (.ret (.b1 .tuple (.comp false (.var 2) (.v 2) (.seq (.var 0)) (some (.cmp .ne (.call 5 [(.var 2)]) (.var 1))))))]⟩
/-- 71 dropped : 0=notes 1=name 2=host 3=path 4=found -/
def d_dropped : FDef := ⟨4, 5, false, [
  (.asg (.v 4) (.call 70 [(.var 0), (.tup [(.var 1), (.var 2), (.var 3)])])),
  (.ite (.cmp .eq (.b1 .len (.var 4)) (.b1 .len (.var 0))) [(.raise 1)] []),
  (.ret (.var 4))]⟩
/-- 72 fresh : 0=rules 1=notes 2=time 3=note -/
def d_fresh : FDef := ⟨3, 4, false, [
  (.ret (.b1 .tuple (.comp false (.var 3) (.v 3) (.seq (.var 1)) (some (.not (.call 41 [(.var 0), (.var 3), (.var 2)]))))))]⟩
/-- 73 _law_said : 0=_law_way 1=_law_notes 2=_law_thing 3=e -/
def d__law_said_2 : FDef := ⟨3, 4, false, [
  (.tryy [(.ret (.ite (.cmp .eq (.var 0) (.con (.int 0))) (.call 69 [(.var 1), (.var 2)]) (.call 71 [(.var 1), (.idx (.var 2) (.con (.int 0))), (.idx (.var 2) (.con (.int 2))), (.idx (.var 2) (.con (.int 4)))])))] 0 (some 3) none (.call 63 [(.var 3)]) [0, 1, 2, 3, 4, 5, 6])]⟩
/-- 74 _law_put : 0=_law_notes 1=_law_note_here 2=_law_marks 3=_law_one 4=_law_n -/
def d__law_put : FDef := ⟨2, 5, false, [
  (.asg (.v 2) (.comp false (.call 14 [(.var 3)]) (.v 3) (.seq (.var 0)) none)),
  (.ite (.cmp .in_ (.call 14 [(.var 1)]) (.var 2)) [(.asg (.v 4) (.m .index (.var 2) [(.call 14 [(.var 1)])])), (.ret (.bin .add (.bin .add (.sl (.var 0) none (some (.var 4))) (.tup [(.var 1)])) (.sl (.var 0) (some (.bin .add (.var 4) (.con (.int 1)))) none)))] []),
  (.ret (.ite (.cmp .gt (.b1 .len (.var 0)) (.con (.int 5))) (.con (.str [102, 117, 108, 108])) (.bin .add (.var 0) (.tup [(.var 1)]))))]⟩
/-- 75 law : 0=_law_script 1=_law_k 2=_law_notes 3=_law_j 4=_law_seed 5=_law_note_here 6=_law_old 7=_law_due 8=_law_other 9=_law_rest 10=_law_one 11=_law_rules_here 12=_law_time -/
def d_law_k07 : FDef := ⟨1, 13, false, [
  (.forr (.v 1) (.rng1 (.con (.int 12))) [(.asg (.v 2) (.tup [])), (.forr (.v 3) (.rng1 (.con (.int 12))) [(.asg (.v 4) (.bin .add (.bin .add (.bin .add (.call 9 [(.var 0), (.con (.int 9))]) (.bin .mul (.con (.int 17)) (.var 3))) (.bin .mul (.con (.int 7)) (.var 1))) (.call 9 [(.var 0), (.bin .mod (.var 1) (.con (.int 9)))]))), (.asg (.v 5) (.call 13 [(.var 4)])), (.ite (.and (.cmp .ne (.var 2) (.tup [])) (.cmp .eq (.call 10 [(.var 4), (.con (.int 9739)), (.con (.int 3))]) (.con (.int 0)))) [(.asg (.v 6) (.idx (.var 2) (.call 10 [(.var 4), (.con (.int 9733)), (.b1 .len (.var 2))]))), (.asg (.v 5) (.bin .add (.tup [(.idx (.var 6) (.con (.int 0))), (.idx (.var 5) (.con (.int 1))), (.idx (.var 6) (.con (.int 2))), (.idx (.var 5) (.con (.int 3))), (.idx (.var 6) (.con (.int 4)))]) (.sl (.var 5) (some (.con (.int 5))) none)))] []), (.asg (.v 7) (.call 74 [(.var 2), (.var 5)])), (.ite (.not (.call 35 [(.call 73 [(.con (.int 0)), (.var 2), (.var 5)]), (.var 7)])) [(.ret (.con (.bl false)))] []), (.asg (.v 2) (.ite (.cmp .eq (.var 7) (.con (.str [102, 117, 108, 108]))) (.var 2) (.var 7))), (.asg (.v 8) (.ite (.cmp .eq (.call 10 [(.var 4), (.con (.int 9719)), (.con (.int 2))]) (.con (.int 0))) (.idx (.var 2) (.call 10 [(.var 4), (.con (.int 9721)), (.b1 .len (.var 2))])) (.call 13 [(.bin .add (.var 4) (.con (.int 1)))]))), (.asg (.v 9) (.b1 .tuple (.comp false (.var 10) (.v 10) (.seq (.var 2)) (some (.cmp .ne (.call 14 [(.var 10)]) (.call 14 [(.var 8)])))))), (.ite (.not (.call 35 [(.call 73 [(.con (.int 1)), (.var 2), (.var 8)]), (.ite (.cmp .lt (.b1 .len (.var 9)) (.b1 .len (.var 2))) (.var 9) (.con (.str [110, 111, 32, 110, 111, 116, 101])))])) [(.ret (.con (.bl false)))] []), (.ite (.and (.cmp .eq (.call 10 [(.var 4), (.con (.int 9697)), (.con (.int 4))]) (.con (.int 0))) (.cmp .lt (.b1 .len (.var 9)) (.b1 .len (.var 2)))) [(.asg (.v 2) (.var 9))] []), (.asg (.t [(.v 11), (.v 12)]) (.tup [(.call 16 [(.var 4)]), (.call 10 [(.var 4), (.con (.int 9689)), (.con (.int 100))])])), (.asg (.v 7) (.b1 .tuple (.comp false (.var 10) (.v 10) (.seq (.var 2)) (some (.not (.call 48 [(.var 11), (.var 10), (.var 12)])))))), (.ite (.not (.call 35 [(.call 72 [(.var 11), (.var 2), (.var 12)]), (.var 7)])) [(.ret (.con (.bl false)))] [])])]),
  (.ite (.cmp .ne (.call 73 [(.con (.int 1)), (.tup []), (.call 13 [(.con (.int 5))])]) (.con (.str [110, 111, 32, 110, 111, 116, 101]))) [(.ret (.con (.bl false)))] []),
  (.ret (.and (.cmp .eq (.idx (.idx (.call 69 [(.tup []), (.tup [(.con (.str [110])), (.con (.str [])), (.con (.str [97])), (.con (.bl false)), (.con (.str [47])), (.con .non), (.con (.bl false)), (.con (.str [97, 110, 121]))])]) (.con (.int 0))) (.con (.int 0))) (.con (.str [110]))) (.cmp .eq (.call 72 [(.bin .mul (.tup [(.con (.str [115, 116, 101, 112, 115]))]) (.con (.int 6))), (.tup []), (.con (.int 3))]) (.tup []))))]⟩
/-- 76 _law_are_fresh : 0=_law_rules_here 1=_law_notes_here 2=_law_time 3=_law_ask_here 4=_law_young 5=_law_one 6=_law_now -/
def d__law_are_fresh : FDef := ⟨4, 7, false, [
  (.asg (.v 4) (.call 72 [(.var 0), (.var 1), (.var 2)])),
  (.ite (.cmp .ne (.call 72 [(.var 0), (.var 4), (.var 2)]) (.var 4)) [(.ret (.con (.bl false)))] []),
  (.ite (.cmp .ne (.comp false (.var 5) (.v 5) (.seq (.call 72 [(.var 0), (.var 1), (.b2 .min (.con (.int 99)) (.bin .add (.var 2) (.con (.int 7))))])) (some (.cmp .nin (.var 5) (.var 4)))) (.lst [])) [(.ret (.con (.bl false)))] []),
  (.ite (.cmp .ne (.comp false (.var 5) (.v 5) (.seq (.var 1)) (some (.cmp .eq (.cmp .in_ (.var 5) (.var 4)) (.call 41 [(.var 0), (.var 5), (.var 2)])))) (.lst [])) [(.ret (.con (.bl false)))] []),
  (.asg (.v 6) (.bin .add (.bin .add (.sl (.var 3) none (some (.con (.int 2)))) (.tup [(.var 2)])) (.sl (.var 3) (some (.con (.int 3))) none))),
  (.ite (.cmp .ne (.call 57 [(.var 0), (.var 1), (.var 6)]) (.call 57 [(.var 0), (.var 4), (.var 6)])) [(.ret (.con (.bl false)))] []),
  (.ret (.con (.bl true)))]⟩
/-- 77 _law_are_put : 0=_law_notes_here 1=_law_rules_here 2=_law_ask_here 3=_law_there 4=_law_back 5=_law_one 6=_law_names 7=_law_longs 8=_law_token 9=_law_some 10=_law_other -/
def d__law_are_put : FDef := ⟨3, 11, false, [
  (.asg (.t [(.v 3), (.v 4)]) (.tup [(.tup []), (.tup [])])),
  (.forr (.v 5) (.seq (.var 0)) [(.asg (.v 3) (.call 69 [(.var 3), (.var 5)]))]),
  (.forr (.v 5) (.seq (.rev (.var 0))) [(.asg (.v 4) (.call 69 [(.var 4), (.var 5)]))]),
  (.ite (.or (.cmp .ne (.var 3) (.var 0)) (.cmp .ne (.var 4) (.rev (.var 0)))) [(.ret (.con (.bl false)))] []),
  (.ite (.cmp .ne (.b1 .sorted (.call 57 [(.var 1), (.var 3), (.var 2)])) (.b1 .sorted (.call 57 [(.var 1), (.var 4), (.var 2)]))) [(.ret (.con (.bl false)))] []),
  (.asg (.t [(.v 6), (.v 7)]) (.tup [(.comp false (.idx (.var 5) (.con (.int 0))) (.v 5) (.seq (.var 0)) none), (.comp false (.b1 .len (.idx (.var 5) (.con (.int 4)))) (.v 5) (.seq (.var 0)) none)])),
  (.forr (.t [(.v 8), (.v 9)]) (.seq (.tup [(.tup [(.con (.str [110, 97, 109, 101, 115])), (.var 6)]), (.tup [(.con (.str [108, 111, 110, 103])), (.var 7)])])) [(.asg (.v 10) (.bin .add (.sl (.var 1) none (some (.con (.int 5)))) (.tup [(.var 8)]))), (.ite (.and (.cmp .eq (.b1 .slen (.var 9)) (.b1 .len (.var 9))) (.cmp .ne (.call 57 [(.var 10), (.var 3), (.var 2)]) (.call 57 [(.var 10), (.var 4), (.var 2)]))) [(.ret (.con (.bl false)))] [])]),
  (.ret (.con (.bl true)))]⟩
/-- 78 law : 0=_law_script 1=_law_k 2=_law_cell_here 3=_law_notes_here 4=_law_seed 5=_law_note_here 6=_law_rules_here 7=_law_time 8=_law_more 9=_law_ask_here 10=_law_name 11=_law_many 12=_law_one -/
def d_law_k08 : FDef := ⟨1, 13, false, [
  (.forr (.v 1) (.rng1 (.con (.int 14))) [(.asg (.v 2) (.bin .add (.call 9 [(.var 0), (.bin .mod (.var 1) (.con (.int 9)))]) (.bin .mul (.con (.int 31)) (.var 1)))), (.asg (.v 3) (.call 15 [(.var 2), (.con (.int 5))])), (.asg (.v 4) (.bin .add (.call 9 [(.var 0), (.con (.int 9))]) (.bin .mul (.con (.int 7)) (.var 1)))), (.asg (.t [(.v 5), (.v 6)]) (.tup [(.call 13 [(.bin .add (.var 4) (.con (.int 2)))]), (.call 16 [(.var 4)])])), (.asg (.v 7) (.call 10 [(.var 4), (.con (.int 9679)), (.con (.int 100))])), (.asg (.v 8) (.call 69 [(.var 3), (.var 5)])), (.ite (.or (.cmp .isn (.call 6 [(.var 8)]) (.con (.bl true))) (.or (.cmp .ne (.call 69 [(.var 8), (.var 5)]) (.var 8)) (.cmp .nin (.var 5) (.var 8)))) [(.ret (.con (.bl false)))] []), (.ite (.cmp .nin (.bin .sub (.b1 .len (.var 8)) (.b1 .len (.var 3))) (.tup [(.con (.int 0)), (.con (.int 1))])) [(.ret (.con (.bl false)))] []), (.ite (.and (.cmp .gt (.b1 .len (.var 8)) (.b1 .len (.var 3))) (.cmp .ne (.call 71 [(.var 8), (.idx (.var 5) (.con (.int 0))), (.idx (.var 5) (.con (.int 2))), (.idx (.var 5) (.con (.int 4)))]) (.var 3))) [(.ret (.con (.bl false)))] []), (.asg (.v 9) (.call 17 [(.bin .add (.var 4) (.con (.int 1))), (.var 3)])), (.ite (.not (.call 77 [(.var 3), (.var 6), (.var 9)])) [(.ret (.con (.bl false)))] []), (.ite (.not (.call 76 [(.var 6), (.var 3), (.var 7), (.var 9)])) [(.ret (.con (.bl false)))] []), (.ite (.cmp .ne (.b1 .sum (.comp false (.var 11) (.t [(.v 10), (.v 11)]) (.seq (.call 34 [(.var 3)])) none)) (.b1 .len (.var 3))) [(.ret (.con (.bl false)))] []), (.ite (.cmp .ne (.comp false (.var 10) (.t [(.v 10), (.v 11)]) (.seq (.call 34 [(.var 3)])) none) (.b1 .ssorted (.comp false (.call 30 [(.idx (.var 12) (.con (.int 2)))]) (.v 12) (.seq (.var 3)) none))) [(.ret (.con (.bl false)))] [])]),
  (.ret (.con (.bl true)))]⟩
/-- 79 word : 0=thing -/
def d_word : FDef := ⟨1, 1, false, [
  (.ite (.or (.cmp .is (.var 0) (.con .non)) (.cmp .eq (.var 0) (.con (.str [])))) [(.ret (.con (.str [45])))] []),
  (.ite (.isi (.var 0) [2]) [(.ret (.ite (.var 0) (.con (.str [121, 101, 115])) (.con (.str [110, 111]))))] []),
  (.ret (.b1 .str (.var 0)))]⟩
/-- 80 words : 0=things 1=thing -/
def d_words : FDef := ⟨1, 2, false, [
  (.ret (.m .join (.con (.str [32])) [(.comp false (.call 79 [(.var 1)]) (.v 1) (.seq (.var 0)) none)]))]⟩
/-- 81 ask_text : 0=ask -/
def d_ask_text : FDef := ⟨1, 1, false, [
  (.ret (.call 80 [(.var 0)]))]⟩
/-- 82 hosts_for : 0=notes 1=found 2=note -/
def d_hosts_for : FDef := ⟨1, 3, false, [
  (.asg (.v 1) (.newl [(.glo 8)])),
  (.forr (.v 2) (.seq (.var 0)) [(.expr (.m .extend (.var 1) [(.lst [(.idx (.var 2) (.con (.int 2))), (.bin .add (.bin .add (.glo 8) (.con (.str [46]))) (.idx (.var 2) (.con (.int 2))))])]))]),
  (.ret (.b1 .ssorted (.var 1)))]⟩
/-- 83 paths_for : 0=notes 1=found 2=note 3=more -/
def d_paths_for : FDef := ⟨1, 4, false, [
  (.asg (.v 1) (.newl [(.con (.str [47]))])),
  (.forr (.v 2) (.seq (.var 0)) [(.asg (.v 3) (.ite (.cmp .eq (.idx (.var 2) (.con (.int 4))) (.con (.str [47]))) (.con (.str [47])) (.bin .add (.idx (.var 2) (.con (.int 4))) (.con (.str [47]))))), (.expr (.m .extend (.var 1) [(.lst [(.idx (.var 2) (.con (.int 4))), (.bin .add (.var 3) (.glo 8)), (.bin .add (.idx (.var 2) (.con (.int 4))) (.glo 8))])]))]),
  (.ret (.b1 .ssorted (.var 1)))]⟩
/-- 84 times_for : 0=notes 1=found 2=note 3=time -/
def d_times_for : FDef := ⟨1, 4, false, [
  (.asg (.v 1) (.newl [(.con (.int 0))])),
  (.forr (.v 2) (.seq (.var 0)) [(.ite (.cmp .isn (.idx (.var 2) (.con (.int 5))) (.con .non)) [(.expr (.m .extend (.var 1) [(.comp false (.var 3) (.v 3) (.rng2 (.bin .sub (.idx (.var 2) (.con (.int 5))) (.con (.int 1))) (.bin .add (.idx (.var 2) (.con (.int 5))) (.con (.int 2)))) (some (.chain .le .le (.con (.int 0)) (.var 3) (.glo 1))))]))] [])]),
  (.ret (.b1 .ssorted (.var 1)))]⟩
/-- 85 ways_for : 0=host 1=path 2=time 3=found 4=is_safe 5=origin 6=is_led -/
def d_ways_for : FDef := ⟨3, 7, false, [
  (.asg (.v 3) (.newl [])),
  (.forr (.v 4) (.seq (.tup [(.con (.bl false)), (.con (.bl true))])) [(.forr (.v 5) (.seq (.tup [(.con .non), (.glo 9)])) [(.expr (.m .extend (.var 3) [(.comp false (.tup [(.var 0), (.var 1), (.var 2), (.var 4), (.var 5), (.var 6)]) (.v 6) (.seq (.tup [(.con (.bl false)), (.con (.bl true))])) none)]))])]),
  (.ret (.var 3))]⟩
/-- 86 near_asks : 0=notes 1=found 2=host 3=path 4=time -/
def d_near_asks : FDef := ⟨1, 5, false, [
  (.ite (.not (.var 0)) [(.ret (.tup []))] []),
  (.asg (.v 1) (.newl [])),
  (.forr (.v 2) (.seq (.call 82 [(.var 0)])) [(.forr (.v 3) (.seq (.call 83 [(.var 0)])) [(.forr (.v 4) (.seq (.call 84 [(.var 0)])) [(.expr (.m .extend (.var 1) [(.call 85 [(.var 2), (.var 3), (.var 4)])]))])])]),
  (.ret (.b1 .tuple (.sortf (.var 1) 81)))]⟩
/-- 87 do_part : 0=one 1=other 2=notes 3=ask -/
def d_do_part : FDef := ⟨4, 4, false, [
  (.ret (.cmp .ne (.call 57 [(.var 0), (.var 2), (.var 3)]) (.call 57 [(.var 1), (.var 2), (.var 3)])))]⟩
/-- 88 parting : 0=one 1=other 2=notes 3=ask -/
def d_parting : FDef := ⟨3, 4, false, [
  (.forr (.v 3) (.seq (.call 86 [(.var 2)])) [(.ite (.call 87 [(.var 0), (.var 1), (.var 2), (.var 3)]) [(.ret (.var 3))] [])]),
  (.ret (.con .non))]⟩
/-- 89 are_one : 0=one 1=other 2=notes -/
def d_are_one : FDef := ⟨3, 3, false, [
  (.ret (.cmp .is (.call 88 [(.var 0), (.var 1), (.var 2)]) (.con .non)))]⟩
/-- 90 _law_text : 0=_law_things 1=_law_gathered 2=_law_thing -/
def d__law_text : FDef := ⟨1, 3, false, [
  (.asg (.v 1) (.newl [])),
  (.forr (.v 2) (.seq (.var 0)) [(.ite (.or (.cmp .is (.var 2) (.con .non)) (.cmp .eq (.var 2) (.con (.str [])))) [(.expr (.m .append (.var 1) [(.con (.str [45]))]))] [(.ite (.isi (.var 2) [2]) [(.expr (.m .append (.var 1) [(.ite (.var 2) (.con (.str [121, 101, 115])) (.con (.str [110, 111])))]))] [(.expr (.m .append (.var 1) [(.b1 .str (.var 2))]))])])]),
  (.ret (.m .join (.con (.str [32])) [(.var 1)]))]⟩
/-- 91 _law_near : 0=_law_notes_here 1=_law_hosts 2=_law_paths 3=_law_times_now 4=_law_note_here 5=_law_ahead 6=_law_path_here 7=_law_time 8=_law_rows 9=_law_host_here 10=_law_n -/
def d__law_near : FDef := ⟨1, 11, false, [
  (.ite (.cmp .eq (.var 0) (.tup [])) [(.ret (.lst []))] []),
  (.asg (.t [(.v 1), (.v 2), (.v 3)]) (.tup [(.newd [(.con (.str [113]))] [(.con (.bl true))]), (.newd [(.con (.str [47]))] [(.con (.bl true))]), (.newd [(.con (.int 0))] [(.con (.bl true))])])),
  .stop,
  (.asg (.v 8) (.newl [])),
  (.forr (.v 9) (.seq (.var 1)) [(.forr (.v 6) (.seq (.var 2)) [(.forr (.v 7) (.seq (.var 3)) [(.forr (.v 10) (.rng1 (.con (.int 8))) [(.expr (.m .append (.var 8) [(.tup [(.var 9), (.var 6), (.var 7), (.cmp .eq (.bin .mod (.var 10) (.con (.int 2))) (.con (.int 0))), (.idx (.tup [(.con .non), (.con (.str [113, 46, 113]))]) (.bin .mod (.bin .fdiv (.var 10) (.con (.int 2))) (.con (.int 2)))), (.cmp .gt (.var 10) (.con (.int 3)))])]))])])])]),
  (.ret (.sortf (.var 8) 90))]⟩
/-- 92 law : 0=_law_script 1=_law_k 2=_law_notes_here 3=_law_asks 4=_law_one 5=_law_j 6=_law_seed 7=_law_other 8=_law_more 9=_law_n 10=_law_due 11=_law_ask_here 12=_law_both_now 13=_law_part -/
def d_law_k09 : FDef := ⟨1, 14, false, [
  (.forr (.v 1) (.rng1 (.con (.int 4))) [(.asg (.v 2) (.call 15 [(.bin .add (.call 9 [(.var 0), (.var 1)]) (.bin .mul (.con (.int 31)) (.var 1))), (.con (.int 2))])), (.asg (.v 3) (.call 91 [(.var 2)])), (.ite (.not (.call 35 [(.call 86 [(.var 2)]), (.b1 .tuple (.var 3))])) [(.ret (.con (.bl false)))] []), (.asg (.v 4) (.call 16 [(.bin .add (.call 9 [(.var 0), (.con (.int 9))]) (.bin .mul (.con (.int 7)) (.var 1)))])), (.forr (.v 5) (.rng1 (.con (.int 3))) [(.asg (.t [(.v 6), (.v 7)]) (.tup [(.bin .add (.bin .add (.call 9 [(.var 0), (.con (.int 8))]) (.bin .mul (.con (.int 17)) (.var 5))) (.var 1)), (.b1 .listc (.var 4))])), (.asg (.v 8) (.call 16 [(.var 6)])), (.forr (.v 9) (.rng1 (.con (.int 6))) [(.sub (.var 7) (.var 9) (.ite (.cmp .eq (.call 10 [(.bin .add (.var 6) (.var 9)), (.con (.int 9677)), (.con (.int 3))]) (.con (.int 0))) (.idx (.var 8) (.var 9)) (.idx (.var 7) (.var 9))))]), (.asg (.t [(.v 7), (.v 10)]) (.tup [(.b1 .tuple (.var 7)), (.con .non)])), (.forr (.v 11) (.seq (.var 3)) [(.ite (.cmp .is (.var 10) (.con .non)) [(.asg (.v 12) (.tup [(.call 62 [(.var 4), (.var 2), (.var 11)]), (.call 62 [(.var 7), (.var 2), (.var 11)])]))] []), (.ite (.and (.cmp .is (.var 10) (.con .non)) (.cmp .ne (.idx (.var 12) (.con (.int 0))) (.idx (.var 12) (.con (.int 1))))) [(.asg (.v 10) (.var 11))] [])]), (.ite (.not (.call 35 [(.tup [(.call 88 [(.var 4), (.var 7), (.var 2)]), (.call 89 [(.var 4), (.var 7), (.var 2)])]), (.tup [(.var 10), (.cmp .is (.var 10) (.con .non))])])) [(.ret (.con (.bl false)))] []), (.asg (.v 11) (.call 17 [(.var 6), (.var 2)])), (.asg (.v 13) (.cmp .ne (.call 62 [(.var 4), (.var 2), (.var 11)]) (.call 62 [(.var 7), (.var 2), (.var 11)]))), (.ite (.not (.call 35 [(.call 87 [(.var 4), (.var 7), (.var 2), (.var 11)]), (.var 13)])) [(.ret (.con (.bl false)))] [])])]),
  (.asg (.t [(.v 4), (.v 8)]) (.tup [(.tup [(.con (.str [115, 105, 103, 110, 115])), (.con (.str [116, 111, 108, 100])), (.con (.str [119, 105, 116, 104])), (.con (.str [102, 114, 101, 101])), (.con (.str [110, 111, 110, 101])), (.con (.str [111, 108, 100]))]), (.tup [(.con (.bl false)), (.con (.str [47])), (.con .non), (.con (.bl false)), (.con (.str [97, 110, 121]))])])),
  (.asg (.v 2) (.tup [(.bin .add (.tup [(.con (.str [110])), (.con (.str [])), (.con (.str [97]))]) (.var 8)), (.bin .add (.tup [(.con (.str [107])), (.con (.str [])), (.con (.str [97]))]) (.var 8))])),
  (.ite (.not (.call 87 [(.var 4), (.bin .add (.sl (.var 4) none (some (.con (.int 5)))) (.tup [(.con (.str [110, 97, 109, 101, 115]))])), (.var 2), (.tup [(.con (.str [97])), (.con (.str [47])), (.con (.int 0)), (.con (.bl true)), (.con .non), (.con (.bl false))])])) [(.ret (.con (.bl false)))] []),
  (.ret (.and (.cmp .eq (.call 86 [(.tup [])]) (.tup [])) (.cmp .eq (.b1 .len (.call 86 [(.tup [(.tup [(.con (.str [110])), (.con (.str [])), (.con (.str [97])), (.con (.bl false)), (.con (.str [47])), (.con .non), (.con (.bl false)), (.con (.str [97, 110, 121]))])])])) (.con (.int 48)))))]⟩
/-- 93 groups : 0=notes 1=some 2=found 3=rules 4=places 5=k 6=group -/
def d_groups : FDef := ⟨2, 7, false, [
  (.asg (.v 2) (.newl [])),
  (.forr (.v 3) (.seq (.var 1)) [(.asg (.v 4) (.comp false (.var 5) (.t [(.v 5), (.v 6)]) (.enum (.var 2)) (some (.call 89 [(.idx (.var 6) (.con (.int 0))), (.var 3), (.var 0)])))), (.ite (.var 4) [(.sub (.var 2) (.idx (.var 4) (.con (.int 0))) (.bin .add (.idx (.var 2) (.idx (.var 4) (.con (.int 0)))) (.tup [(.var 3)])))] [(.expr (.m .append (.var 2) [(.tup [(.var 3)])]))])]),
  (.ret (.b1 .tuple (.b1 .sorted (.var 2))))]⟩
/-- 94 _law_changed : 0=_law_rules_here 1=_law_seed 2=_law_more 3=_law_n -/
def d__law_changed : FDef := ⟨2, 4, false, [
  (.asg (.v 2) (.call 16 [(.var 1)])),
  (.ret (.b1 .tuple (.comp false (.ite (.cmp .eq (.call 10 [(.bin .add (.var 1) (.var 3)), (.con (.int 9661)), (.con (.int 3))]) (.con (.int 0))) (.idx (.var 2) (.var 3)) (.idx (.var 0) (.var 3))) (.v 3) (.rng1 (.con (.int 6))) none)))]⟩
/-- 95 _law_are_groups : 0=_law_notes_here 1=_law_some 2=_law_parts_now 3=_law_every 4=_law_part 5=_law_rules_here 6=_law_firsts 7=_law_n -/
def d__law_are_groups : FDef := ⟨2, 8, false, [
  (.asg (.v 1) (.b1 .tuple (.b1 .ssorted (.var 1)))),
  (.asg (.v 2) (.call 93 [(.var 0), (.var 1)])),
  (.asg (.v 3) (.newl [])),
  (.forr (.v 4) (.seq (.var 2)) [(.expr (.m .extend (.var 3) [(.b1 .list (.var 4))])), (.ite (.cmp .ne (.b1 .list (.var 4)) (.b1 .sorted (.var 4))) [(.ret (.con (.bl false)))] []), (.ite (.cmp .ne (.comp false (.var 5) (.v 5) (.seq (.var 4)) (some (.not (.call 89 [(.idx (.var 4) (.con (.int 0))), (.var 5), (.var 0)])))) (.lst [])) [(.ret (.con (.bl false)))] [])]),
  (.ite (.or (.cmp .ne (.b1 .sorted (.var 3)) (.b1 .list (.var 1))) (.cmp .ne (.b1 .list (.var 2)) (.b1 .sorted (.var 2)))) [(.ret (.con (.bl false)))] []),
  (.asg (.v 6) (.comp false (.idx (.var 4) (.con (.int 0))) (.v 4) (.seq (.var 2)) none)),
  (.forr (.v 7) (.rng2 (.con (.int 1)) (.b1 .len (.var 6))) [(.ite (.call 89 [(.idx (.var 6) (.bin .sub (.var 7) (.con (.int 1)))), (.idx (.var 6) (.var 7)), (.var 0)]) [(.ret (.con (.bl false)))] [])]),
  (.ret (.con (.bl true)))]⟩
/-- 96 law : 0=_law_script 1=_law_k 2=_law_notes_here 3=_law_one 4=_law_some 5=_law_j 6=_law_other 7=_law_ask_here 8=_law_told 9=_law_rules_here 10=_law_n -/
def d_law_k10 : FDef := ⟨1, 11, false, [
  (.forr (.v 1) (.rng1 (.con (.int 5))) [(.asg (.v 2) (.call 15 [(.bin .add (.call 9 [(.var 0), (.var 1)]) (.bin .mul (.con (.int 31)) (.var 1))), (.con (.int 2))])), (.asg (.v 3) (.call 16 [(.bin .add (.call 9 [(.var 0), (.con (.int 9))]) (.bin .mul (.con (.int 7)) (.var 1)))])), (.asg (.v 4) (.newl [(.var 3)])), (.forr (.v 5) (.rng1 (.con (.int 3))) [(.asg (.v 6) (.call 94 [(.var 3), (.bin .add (.bin .add (.call 9 [(.var 0), (.con (.int 8))]) (.bin .mul (.con (.int 17)) (.var 5))) (.var 1))])), (.asg (.v 7) (.call 88 [(.var 3), (.var 6), (.var 2)])), (.ite (.or (.cmp .ne (.cmp .is (.var 7) (.con .non)) (.call 89 [(.var 3), (.var 6), (.var 2)])) (.cmp .ne (.call 88 [(.var 6), (.var 3), (.var 2)]) (.var 7))) [(.ret (.con (.bl false)))] []), (.ite (.and (.cmp .isn (.var 7) (.con .non)) (.not (.call 87 [(.var 3), (.var 6), (.var 2), (.var 7)]))) [(.ret (.con (.bl false)))] []), (.asg (.v 8) (.comp false (.call 57 [(.var 9), (.var 2), (.or (.var 7) (.tup [(.con (.str [113])), (.con (.str [47])), (.con (.int 0)), (.con (.bl true)), (.con .non), (.con (.bl true))]))]) (.v 9) (.seq (.tup [(.var 3), (.var 6)])) none)), (.ite (.and (.cmp .isn (.var 7) (.con .non)) (.cmp .eq (.idx (.var 8) (.con (.int 0))) (.idx (.var 8) (.con (.int 1))))) [(.ret (.con (.bl false)))] []), (.ite (.cmp .is (.var 7) (.con .non)) [(.forr (.v 10) (.rng1 (.con (.int 30))) [(.ite (.call 87 [(.var 3), (.var 6), (.var 2), (.call 17 [(.bin .add (.bin .add (.call 9 [(.var 0), (.con (.int 7))]) (.bin .mul (.con (.int 19)) (.var 10))) (.bin .mul (.con (.int 5)) (.var 5))), (.var 2)])]) [(.ret (.con (.bl false)))] [])])] []), (.expr (.m .append (.var 4) [(.var 6)]))]), (.ite (.or (.not (.call 89 [(.var 3), (.var 3), (.var 2)])) (.not (.call 89 [(.idx (.var 4) (.con (.int 1))), (.idx (.var 4) (.con (.int 2))), (.tup [])]))) [(.ret (.con (.bl false)))] []), (.ite (.not (.call 95 [(.var 2), (.var 4)])) [(.ret (.con (.bl false)))] [])]),
  (.ret (.con (.bl true)))]⟩
/-- 97 unlike : 0=one 1=other 2=k -/
def d_unlike : FDef := ⟨2, 3, false, [
  (.ret (.b1 .tuple (.comp false (.var 2) (.v 2) (.rng1 (.con (.int 6))) (some (.cmp .ne (.idx (.var 0) (.var 2)) (.idx (.var 1) (.var 2)))))))]⟩
/-- 98 changed : 0=one 1=other 2=numbers 3=k -/
def d_changed : FDef := ⟨3, 4, false, [
  (.ret (.b1 .tuple (.comp false (.ite (.cmp .in_ (.var 3) (.var 2)) (.idx (.var 1) (.var 3)) (.idx (.var 0) (.var 3))) (.v 3) (.rng1 (.con (.int 6))) none)))]⟩
/-- 99 parts_of : 0=numbers 1=found 2=number 3=one -/
def d_parts_of : FDef := ⟨1, 4, false, [
  (.asg (.v 1) (.lst [(.tup [])])),
  (.forr (.v 2) (.seq (.var 0)) [(.asg (.v 1) (.bin .add (.var 1) (.comp false (.bin .add (.var 3) (.tup [(.var 2)])) (.v 3) (.seq (.var 1)) none)))]),
  (.ret (.sortk (.var 1) 3 (.tup [(.b1 .len (.var 3)), (.var 3)])))]⟩
/-- 100 fewest : 0=one 1=other 2=notes 3=numbers -/
def d_fewest : FDef := ⟨3, 4, false, [
  (.forr (.v 3) (.seq (.call 99 [(.call 97 [(.var 0), (.var 1)])])) [(.ite (.call 89 [(.call 98 [(.var 0), (.var 1), (.var 3)]), (.var 1), (.var 2)]) [(.ret (.var 3))] [])]),
  (.ret (.call 97 [(.var 0), (.var 1)]))]⟩
/-- 101 idle : 0=rules 1=notes 2=found 3=k 4=words 5=word -/
def d_idle : FDef := ⟨2, 6, false, [
  (.asg (.v 2) (.newl [])),
  (.forr (.t [(.v 3), (.v 4)]) (.enum (.bin .add (.glo 6) (.glo 7))) [(.ite (.b1 .all (.comp false (.call 89 [(.var 0), (.bin .add (.bin .add (.sl (.var 0) none (some (.var 3))) (.tup [(.var 5)])) (.sl (.var 0) (some (.bin .add (.var 3) (.con (.int 1)))) none)), (.var 1)]) (.v 5) (.seq (.var 4)) none)) [(.expr (.m .append (.var 2) [(.var 3)]))] [])]),
  (.ret (.b1 .tuple (.var 2)))]⟩
/-- 102 _law_are_one : 0=_law_one 1=_law_other 2=_law_notes_here 3=_law_asks 4=_law_ask -/
def d__law_are_one : FDef := ⟨4, 5, false, [
  (.forr (.v 4) (.seq (.var 3)) [(.ite (.cmp .ne (.call 62 [(.var 0), (.var 2), (.var 4)]) (.call 62 [(.var 1), (.var 2), (.var 4)])) [(.ret (.con (.bl false)))] [])]),
  (.ret (.con (.bl true)))]⟩
/-- 103 law : 0=_law_script 1=_law_tokens 2=_law_k 3=_law_notes_here 4=_law_asks 5=_law_one 6=_law_other 7=_law_j 8=_law_seed 9=_law_n 10=_law_apart_now 11=_law_rows 12=_law_row 13=_law_due 14=_law_new 15=_law_free 16=_law_more 17=_law_token 18=_law_rules_here -/
def d_law_k11 : FDef := ⟨1, 19, false, [
  (.asg (.v 1) (.tup [(.con (.str [115, 105, 103, 110, 115, 32, 115, 116, 101, 112, 115])), (.con (.str [97, 108, 119, 97, 121, 115, 32, 110, 101, 118, 101, 114, 32, 116, 111, 108, 100])), (.con (.str [117, 110, 116, 105, 108, 32, 119, 105, 116, 104])), (.con (.str [102, 114, 101, 101, 32, 109, 117, 115, 116])), (.con (.str [107, 101, 101, 112, 32, 108, 111, 111, 115, 101, 32, 110, 111, 110, 101])), (.con (.str [108, 111, 110, 103, 32, 110, 97, 109, 101, 115, 32, 111, 108, 100]))])),
  (.forr (.v 2) (.rng1 (.con (.int 4))) [(.asg (.v 3) (.call 15 [(.bin .add (.call 9 [(.var 0), (.var 2)]) (.bin .mul (.con (.int 31)) (.var 2))), (.con (.int 2))])), (.asg (.v 4) (.call 91 [(.var 3)])), (.asg (.t [(.v 5), (.v 6)]) (.tup [(.call 16 [(.bin .add (.call 9 [(.var 0), (.con (.int 9))]) (.bin .mul (.con (.int 7)) (.var 2)))]), (.b1 .listc (.call 16 [(.bin .add (.call 9 [(.var 0), (.con (.int 9))]) (.bin .mul (.con (.int 7)) (.var 2)))]))])), (.forr (.v 7) (.rng1 (.con (.int 3))) [(.asg (.v 8) (.bin .add (.bin .add (.call 9 [(.var 0), (.con (.int 8))]) (.bin .mul (.con (.int 17)) (.var 7))) (.var 2))), (.asg (.v 9) (.call 10 [(.var 8), (.con (.int 9649)), (.con (.int 6))])), (.sub (.var 6) (.var 9) (.idx (.m .split (.idx (.var 1) (.var 9)) [(.con (.str [32]))]) (.call 10 [(.var 8), (.con (.int 9643)), (.b1 .len (.m .split (.idx (.var 1) (.var 9)) [(.con (.str [32]))]))])))]), (.asg (.v 6) (.b1 .tuple (.var 6))), (.asg (.v 10) (.comp false (.var 9) (.v 9) (.rng1 (.con (.int 6))) (some (.cmp .ne (.idx (.var 5) (.var 9)) (.idx (.var 6) (.var 9)))))), (.asg (.v 11) (.lst [(.tup [])])), (.forr (.v 9) (.seq (.var 10)) [(.asg (.v 11) (.bin .add (.var 11) (.comp false (.bin .add (.var 12) (.tup [(.var 9)])) (.v 12) (.seq (.var 11)) none)))]), (.asg (.v 13) (.con .non)), (.forr (.v 12) (.seq (.sortk (.var 11) 12 (.tup [(.b1 .len (.var 12)), (.var 12)]))) [(.asg (.v 14) (.b1 .tuple (.comp false (.ite (.cmp .in_ (.var 9) (.var 12)) (.idx (.var 6) (.var 9)) (.idx (.var 5) (.var 9))) (.v 9) (.rng1 (.con (.int 6))) none))), (.ite (.not (.call 35 [(.call 98 [(.var 5), (.var 6), (.var 12)]), (.var 14)])) [(.ret (.con (.bl false)))] []), (.ite (.and (.cmp .is (.var 13) (.con .non)) (.call 102 [(.var 14), (.var 6), (.var 3), (.var 4)])) [(.asg (.v 13) (.var 12))] [])]), (.ite (.not (.call 35 [(.tup [(.call 97 [(.var 5), (.var 6)]), (.call 100 [(.var 5), (.var 6), (.var 3)])]), (.tup [(.b1 .tuple (.var 10)), (.var 13)])])) [(.ret (.con (.bl false)))] []), (.asg (.v 15) (.newl [])), (.forr (.v 9) (.rng1 (.con (.int 6))) [(.asg (.v 16) (.comp false (.bin .add (.bin .add (.sl (.var 5) none (some (.var 9))) (.tup [(.var 17)])) (.sl (.var 5) (some (.bin .add (.var 9) (.con (.int 1)))) none)) (.v 17) (.seq (.m .split (.idx (.var 1) (.var 9)) [(.con (.str [32]))])) none)), (.ite (.cmp .eq (.comp false (.var 18) (.v 18) (.seq (.var 16)) (some (.not (.call 102 [(.var 5), (.var 18), (.var 3), (.var 4)])))) (.lst [])) [(.expr (.m .append (.var 15) [(.var 9)]))] [])]), (.ite (.not (.call 35 [(.call 101 [(.var 5), (.var 3)]), (.b1 .tuple (.var 15))])) [(.ret (.con (.bl false)))] [])]),
  (.ret (.cmp .eq (.call 101 [(.tup [(.con (.str [115, 105, 103, 110, 115])), (.con (.str [116, 111, 108, 100])), (.con (.str [119, 105, 116, 104])), (.con (.str [102, 114, 101, 101])), (.con (.str [110, 111, 110, 101])), (.con (.str [111, 108, 100]))]), (.tup [])]) (.tup [(.con (.int 0)), (.con (.int 1)), (.con (.int 2)), (.con (.int 3)), (.con (.int 4)), (.con (.int 5))])))]⟩
/-- 104 law : 0=_law_script 1=_law_tokens 2=_law_k 3=_law_notes_here 4=_law_one 5=_law_other 6=_law_n 7=_law_some 8=_law_apart_now 9=_law_m 10=_law_free 11=_law_token 12=_law_new -/
def d_law_k12 : FDef := ⟨1, 13, false, [
  (.asg (.v 1) (.tup [(.con (.str [115, 105, 103, 110, 115, 32, 115, 116, 101, 112, 115])), (.con (.str [97, 108, 119, 97, 121, 115, 32, 110, 101, 118, 101, 114, 32, 116, 111, 108, 100])), (.con (.str [117, 110, 116, 105, 108, 32, 119, 105, 116, 104])), (.con (.str [102, 114, 101, 101, 32, 109, 117, 115, 116])), (.con (.str [107, 101, 101, 112, 32, 108, 111, 111, 115, 101, 32, 110, 111, 110, 101])), (.con (.str [108, 111, 110, 103, 32, 110, 97, 109, 101, 115, 32, 111, 108, 100]))])),
  (.forr (.v 2) (.rng1 (.con (.int 4))) [(.asg (.v 3) (.call 15 [(.bin .add (.call 9 [(.var 0), (.var 2)]) (.bin .mul (.con (.int 31)) (.var 2))), (.con (.int 2))])), (.asg (.t [(.v 4), (.v 5)]) (.tup [(.call 16 [(.bin .add (.call 9 [(.var 0), (.con (.int 9))]) (.bin .mul (.con (.int 7)) (.var 2)))]), (.call 16 [(.bin .add (.call 9 [(.var 0), (.con (.int 8))]) (.bin .mul (.con (.int 5)) (.var 2)))])])), (.asg (.v 6) (.call 10 [(.bin .add (.call 9 [(.var 0), (.con (.int 7))]) (.var 2)), (.con (.int 9631)), (.con (.int 6))])), (.asg (.v 5) (.bin .add (.sl (.var 4) none (some (.var 6))) (.sl (.var 5) (some (.var 6)) none))), (.asg (.t [(.v 7), (.v 8)]) (.tup [(.call 100 [(.var 4), (.var 5), (.var 3)]), (.call 97 [(.var 4), (.var 5)])])), (.ite (.or (.cmp .ne (.comp false (.var 6) (.v 6) (.seq (.var 7)) (some (.cmp .nin (.var 6) (.var 8)))) (.lst [])) (.not (.call 89 [(.call 98 [(.var 4), (.var 5), (.var 7)]), (.var 5), (.var 3)]))) [(.ret (.con (.bl false)))] []), (.forr (.v 6) (.seq (.var 7)) [(.ite (.call 89 [(.call 98 [(.var 4), (.var 5), (.b1 .tuple (.comp false (.var 9) (.v 9) (.seq (.var 7)) (some (.cmp .ne (.var 9) (.var 6)))))]), (.var 5), (.var 3)]) [(.ret (.con (.bl false)))] [])]), (.ite (.or (.cmp .ne (.cmp .eq (.var 7) (.tup [])) (.call 89 [(.var 4), (.var 5), (.var 3)])) (.cmp .ne (.call 98 [(.var 4), (.var 5), (.var 8)]) (.var 5))) [(.ret (.con (.bl false)))] []), (.ite (.cmp .ne (.call 100 [(.var 4), (.var 5), (.tup [])]) (.tup [])) [(.ret (.con (.bl false)))] []), (.ite (.or (.and (.cmp .ne (.b1 .len (.call 100 [(.var 5), (.var 4), (.var 3)])) (.con (.int 0))) (.cmp .eq (.var 7) (.tup []))) (.cmp .ne (.call 97 [(.var 5), (.var 4)]) (.var 8))) [(.ret (.con (.bl false)))] []), (.asg (.v 10) (.call 101 [(.var 4), (.var 3)])), (.forr (.v 6) (.rng1 (.con (.int 6))) [(.forr (.v 11) (.seq (.m .split (.idx (.var 1) (.var 6)) [(.con (.str [32]))])) [(.asg (.v 12) (.bin .add (.bin .add (.sl (.var 4) none (some (.var 6))) (.tup [(.var 11)])) (.sl (.var 4) (some (.bin .add (.var 6) (.con (.int 1)))) none))), (.ite (.and (.cmp .in_ (.var 6) (.var 10)) (.not (.call 89 [(.var 4), (.var 12), (.var 3)]))) [(.ret (.con (.bl false)))] []), (.ite (.and (.cmp .in_ (.var 6) (.var 10)) (.cmp .ne (.call 100 [(.var 4), (.var 12), (.var 3)]) (.tup []))) [(.ret (.con (.bl false)))] []), (.ite (.and (.not (.call 89 [(.var 4), (.var 12), (.var 3)])) (.cmp .ne (.call 100 [(.var 4), (.var 12), (.var 3)]) (.tup [(.var 6)]))) [(.ret (.con (.bl false)))] [])])])]),
  (.ret (.con (.bl true)))]⟩
/-- 105 first_wrong : 0=rules 1=notes 2=log 3=number 4=one -/
def d_first_wrong : FDef := ⟨3, 5, false, [
  (.forr (.t [(.v 3), (.v 4)]) (.enum (.var 2)) [(.ite (.cmp .ne (.call 57 [(.var 0), (.var 1), (.idx (.var 4) (.con (.int 0)))]) (.idx (.var 4) (.con (.int 1)))) [(.ret (.var 3))] [])]),
  (.ret (.con .non))]⟩
/-- 106 explains : 0=rules 1=notes 2=log -/
def d_explains : FDef := ⟨3, 3, false, [
  (.ret (.cmp .is (.call 105 [(.var 0), (.var 1), (.var 2)]) (.con .non)))]⟩
/-- 107 learned : 0=notes 1=log 2=rules -/
def d_learned : FDef := ⟨2, 3, false, [
  (.ret (.b1 .tuple (.comp false (.var 2) (.v 2) (.seq (.call 32 [])) (some (.call 106 [(.var 2), (.var 0), (.var 1)])))))]⟩
/-- 108 splits : 0=notes 1=some 2=ask 3=found 4=rules 5=what -/
def d_splits : FDef := ⟨3, 6, false, [
  (.asg (.v 3) (.newd [] [])),
  (.forr (.v 4) (.seq (.var 1)) [(.asg (.v 5) (.call 57 [(.var 4), (.var 0), (.var 2)])), (.sub (.var 3) (.var 5) (.bin .add (.m .get (.var 3) [(.var 5), (.tup [])]) (.tup [(.var 4)])))]),
  (.ret (.b1 .tuple (.b1 .sorted (.comp false (.idx (.var 3) (.var 5)) (.v 5) (.seq (.var 3)) none))))]⟩
/-- 109 settled : 0=notes 1=log 2=some -/
def d_settled : FDef := ⟨2, 3, false, [
  (.asg (.v 2) (.call 107 [(.var 0), (.var 1)])),
  (.ite (.not (.var 2)) [(.raise 3)] []),
  (.ret (.cmp .eq (.b1 .len (.call 93 [(.var 0), (.var 2)])) (.con (.int 1))))]⟩
/-- 110 _law_said : 0=_law_notes_here 1=_law_log 2=e -/
def d__law_said_3 : FDef := ⟨2, 3, false, [
  (.tryy [(.ret (.call 109 [(.var 0), (.var 1)]))] 0 (some 2) none (.call 63 [(.var 2)]) [0, 1, 2, 3, 4, 5, 6])]⟩
/-- 111 _law_are_settled : 0=_law_notes_here 1=_law_some 2=_law_ask_here 3=_law_rules_here -/
def d__law_are_settled : FDef := ⟨2, 4, false, [
  (.ite (.cmp .eq (.var 1) (.lst [])) [(.ret (.con (.str [110, 111, 32, 114, 117, 108, 101, 115])))] []),
  (.forr (.v 2) (.seq (.call 91 [(.var 0)])) [(.ite (.cmp .gt (.b1 .slen (.comp false (.call 62 [(.var 3), (.var 0), (.var 2)]) (.v 3) (.seq (.var 1)) none)) (.con (.int 1))) [(.ret (.con (.bl false)))] [])]),
  (.ret (.con (.bl true)))]⟩
/-- 112 _law_are_splits : 0=_law_script 1=_law_k 2=_law_notes_here 3=_law_every 4=_law_some 5=_law_table 6=_law_ask_here 7=_law_one 8=_law_what -/
def d__law_are_splits : FDef := ⟨4, 9, false, [
  (.asg (.t [(.v 4), (.v 5)]) (.tup [(.sl (.sl (.var 3) (some (.call 10 [(.bin .add (.call 9 [(.var 0), (.con (.int 6))]) (.var 1)), (.con (.int 9623)), (.con (.int 200))])) none) none (some (.con (.int 9)))), (.newd [] [])])),
  (.asg (.v 6) (.call 17 [(.bin .add (.call 9 [(.var 0), (.con (.int 5))]) (.var 1)), (.var 2)])),
  (.forr (.v 7) (.seq (.var 4)) [(.asg (.v 8) (.call 62 [(.var 7), (.var 2), (.var 6)])), (.sub (.var 5) (.var 8) (.bin .add (.m .get (.var 5) [(.var 8), (.tup [])]) (.tup [(.var 7)])))]),
  (.ite (.not (.call 35 [(.call 108 [(.var 2), (.var 4), (.var 6)]), (.b1 .tuple (.b1 .sorted (.comp false (.idx (.var 5) (.var 8)) (.v 8) (.seq (.var 5)) none)))])) [(.ret (.con (.bl false)))] []),
  (.ret (.con (.bl true)))]⟩
/-- 113 law : 0=_law_script 1=_law_every 2=_law_k 3=_law_notes_here 4=_law_rules_here 5=_law_log 6=_law_j 7=_law_ask_here 8=_law_due 9=_law_one 10=_law_bad 11=_law_n 12=_law_row 13=_law_said_here 14=_law_note_here 15=_law_few -/
def d_law_k13 : FDef := ⟨1, 16, false, [
  (.asg (.v 1) (.call 32 [])),
  (.forr (.v 2) (.rng1 (.con (.int 3))) [(.asg (.t [(.v 3), (.v 4)]) (.tup [(.call 15 [(.bin .add (.call 9 [(.var 0), (.var 2)]) (.bin .mul (.con (.int 31)) (.var 2))), (.con (.int 2))]), (.call 16 [(.bin .add (.call 9 [(.var 0), (.con (.int 9))]) (.bin .mul (.con (.int 7)) (.var 2)))])])), (.asg (.v 5) (.newl [])), (.forr (.v 6) (.rng1 (.bin .add (.bin .add (.con (.int 1)) (.bin .mod (.var 2) (.con (.int 3)))) (.call 10 [(.bin .add (.call 9 [(.var 0), (.con (.int 8))]) (.var 2)), (.con (.int 9629)), (.con (.int 2))]))) [(.asg (.v 7) (.call 17 [(.bin .add (.bin .add (.call 9 [(.var 0), (.con (.int 7))]) (.bin .mul (.con (.int 17)) (.var 6))) (.var 2)), (.var 3)])), (.expr (.m .append (.var 5) [(.tup [(.var 7), (.call 62 [(.var 4), (.var 3), (.var 7)])])]))]), (.ite (.and (.cmp .eq (.bin .mod (.var 2) (.con (.int 3))) (.con (.int 1))) (.cmp .ne (.var 3) (.tup []))) [(.expr (.m .append (.var 5) [(.tup [(.var 7), (.tup [(.tup [(.con (.str [122, 122])), (.con (.str []))])])])]))] []), (.asg (.t [(.v 5), (.v 8)]) (.tup [(.b1 .tuple (.var 5)), (.newl [])])), (.forr (.v 9) (.seq (.var 1)) [(.asg (.v 10) (.comp false (.var 11) (.t [(.v 11), (.v 12)]) (.enum (.var 5)) (some (.cmp .ne (.call 62 [(.var 9), (.var 3), (.idx (.var 12) (.con (.int 0)))]) (.idx (.var 12) (.con (.int 1))))))), (.ite (.cmp .eq (.var 10) (.lst [])) [(.expr (.m .append (.var 8) [(.var 9)]))] []), (.asg (.v 13) (.tup [(.call 105 [(.var 9), (.var 3), (.var 5)]), (.call 106 [(.var 9), (.var 3), (.var 5)])])), (.ite (.and (.cmp .eq (.idx (.var 9) (.con (.int 0))) (.idx (.var 4) (.con (.int 0)))) (.not (.call 35 [(.var 13), (.tup [(.idx (.bin .add (.var 10) (.lst [(.con .non)])) (.con (.int 0))), (.cmp .eq (.var 10) (.lst []))])]))) [(.ret (.con (.bl false)))] [])]), (.ite (.not (.call 35 [(.call 107 [(.var 3), (.var 5)]), (.b1 .tuple (.var 8))])) [(.ret (.con (.bl false)))] []), (.ite (.and (.cmp .lt (.b1 .len (.var 8)) (.con (.int 9))) (.not (.call 35 [(.call 110 [(.var 3), (.var 5)]), (.call 111 [(.var 3), (.var 8)])]))) [(.ret (.con (.bl false)))] []), (.ite (.not (.call 112 [(.var 0), (.var 2), (.var 3), (.var 1)])) [(.ret (.con (.bl false)))] [])]),
  (.asg (.t [(.v 14), (.v 15)]) (.tup [(.tup [(.con (.str [110])), (.con (.str [])), (.con (.str [97])), (.con (.bl true)), (.con (.str [47])), (.con (.int 5)), (.con (.bl false)), (.con (.str [97, 110, 121]))]), (.bin .add (.sl (.var 1) none (some (.con (.int 1)))) (.tup [(.bin .add (.bin .add (.sl (.idx (.var 1) (.con (.int 0))) none (some (.con (.int 2)))) (.tup [(.con (.str [119, 105, 116, 104]))])) (.sl (.idx (.var 1) (.con (.int 0))) (some (.con (.int 3))) none))]))])),
  (.ite (.cmp .ne (.call 108 [(.tup [(.var 14)]), (.var 15), (.tup [(.con (.str [97])), (.con (.str [47])), (.con (.int 5)), (.con (.bl true)), (.con .non), (.con (.bl true))])]) (.tup [(.sl (.var 15) none (some (.con (.int 1)))), (.sl (.var 15) (some (.con (.int 1))) none)])) [(.ret (.con (.bl false)))] []),
  (.asg (.v 5) (.tup [(.tup [(.tup [(.con (.str [97])), (.con (.str [47])), (.con (.int 0)), (.con (.bl true)), (.con .non), (.con (.bl true))]), (.tup [(.tup [(.con (.str [110])), (.con (.str []))])])])])),
  (.ret (.and (.cmp .eq (.b1 .len (.call 107 [(.tup []), (.tup [])])) (.con (.int 216))) (.cmp .eq (.call 110 [(.tup []), (.var 5)]) (.con (.str [110, 111, 32, 114, 117, 108, 101, 115])))))]⟩
/-- 114 settling : 0=notes 1=some 2=best 3=ask 4=most 5=part -/
def d_settling : FDef := ⟨2, 6, false, [
  (.asg (.v 2) (.con .non)),
  .stop,
  (.ite (.cmp .is (.var 2) (.con .non)) [(.ret (.con .non))] []),
  (.ret (.idx (.var 2) (.con (.int 1))))]⟩
/-- 115 law : 0=_law_script 1=_law_every 2=_law_k 3=_law_notes_here 4=_law_rules_here 5=_law_log 6=_law_last 7=_law_j 8=_law_ask_here 9=_law_parts_now 10=_law_some 11=_law_gathered 12=_law_part 13=_law_few 14=_law_most_now 15=_law_asks 16=_law_spot_now 17=_law_n 18=_law_size 19=_law_odd 20=_law_one -/
def d_law_k14 : FDef := ⟨1, 21, false, [
  (.asg (.v 1) (.call 32 [])),
  (.forr (.v 2) (.rng1 (.con (.int 3))) [(.asg (.t [(.v 3), (.v 4)]) (.tup [(.call 15 [(.bin .add (.call 9 [(.var 0), (.var 2)]) (.bin .mul (.con (.int 31)) (.var 2))), (.con (.int 2))]), (.call 16 [(.bin .add (.call 9 [(.var 0), (.con (.int 9))]) (.bin .mul (.con (.int 7)) (.var 2)))])])), (.asg (.t [(.v 5), (.v 6)]) (.tup [(.tup []), (.var 1)])), (.forr (.v 7) (.rng1 (.con (.int 3))) [(.asg (.v 8) (.call 17 [(.bin .add (.bin .add (.call 9 [(.var 0), (.con (.int 8))]) (.bin .mul (.con (.int 17)) (.var 7))) (.var 2)), (.var 3)])), (.asg (.v 9) (.call 108 [(.var 3), (.var 6), (.var 8)])), (.asg (.v 5) (.bin .add (.var 5) (.tup [(.tup [(.var 8), (.call 57 [(.var 4), (.var 3), (.var 8)])])]))), (.asg (.v 10) (.call 107 [(.var 3), (.var 5)])), (.ite (.or (.cmp .nin (.var 4) (.var 10)) (.cmp .nin (.var 10) (.var 9))) [(.ret (.con (.bl false)))] []), (.ite (.or (.cmp .isn (.call 105 [(.var 4), (.var 3), (.var 5)]) (.con .non)) (.not (.call 106 [(.var 4), (.var 3), (.var 5)]))) [(.ret (.con (.bl false)))] []), (.asg (.v 11) (.newl [])), (.forr (.v 12) (.seq (.var 9)) [(.expr (.m .extend (.var 11) [(.b1 .list (.var 12))]))]), (.ite (.or (.cmp .ne (.b1 .sorted (.var 11)) (.b1 .list (.var 6))) (.cmp .ne (.b1 .list (.var 9)) (.b1 .sorted (.var 9)))) [(.ret (.con (.bl false)))] []), (.asg (.v 6) (.var 10))]), (.asg (.v 13) (.sl (.var 6) none (some (.con (.int 4))))), (.asg (.v 8) (.call 114 [(.var 3), (.var 13)])), (.ite (.cmp .ne (.cmp .is (.var 8) (.con .non)) (.cmp .eq (.var 3) (.tup []))) [(.ret (.con (.bl false)))] []), (.ite (.cmp .isn (.var 8) (.con .non)) [(.asg (.v 14) (.b1 .max (.comp false (.b1 .len (.var 12)) (.v 12) (.seq (.call 108 [(.var 3), (.var 13), (.var 8)])) none))), (.asg (.v 15) (.call 86 [(.var 3)])), (.asg (.v 16) (.m .index (.var 15) [(.var 8)])), (.forr (.v 17) (.rng3 (.con (.int 0)) (.b1 .len (.var 15)) (.bin .add (.con (.int 1)) (.bin .fdiv (.b1 .len (.var 15)) (.con (.int 60))))) [(.asg (.v 18) (.b1 .max (.comp false (.b1 .len (.var 12)) (.v 12) (.seq (.call 108 [(.var 3), (.var 13), (.idx (.var 15) (.var 17))])) none))), (.ite (.or (.cmp .lt (.var 18) (.var 14)) (.and (.cmp .lt (.var 17) (.var 16)) (.cmp .eq (.var 18) (.var 14)))) [(.ret (.con (.bl false)))] [])]), (.asg (.v 19) (.comp false (.var 20) (.v 20) (.seq (.var 13)) (some (.not (.call 89 [(.idx (.var 13) (.con (.int 0))), (.var 20), (.var 3)]))))), (.ite (.and (.cmp .eq (.var 14) (.b1 .len (.var 13))) (.cmp .ne (.var 19) (.lst []))) [(.ret (.con (.bl false)))] [])] [])]),
  (.ret (.con (.bl true)))]⟩
/-- 116 Jar.__init__ : 0=self 1=rules -/
def d_Jar___init__ : FDef := ⟨2, 2, true, [
  (.sfld (.var 0) 0 (.var 1)),
  (.sfld (.var 0) 1 (.tup [])),
  (.sfld (.var 0) 2 (.con (.int 0))),
  (.sfld (.var 0) 3 (.newl [])),
  (.sfld (.var 0) 4 (.tup []))]⟩
/-- 117 Jar.become : 0=self 1=rules 2=notes 3=time -/
def d_Jar_become : FDef := ⟨4, 4, true, [
  (.expr (.m .append (.fld (.var 0) 3) [(.tup [(.fld (.var 0) 0), (.fld (.var 0) 1), (.fld (.var 0) 2)])])),
  (.sfld (.var 0) 0 (.var 1)),
  (.sfld (.var 0) 1 (.var 2)),
  (.sfld (.var 0) 2 (.var 3))]⟩
/-- 118 Jar.take : 0=self 1=note 2=host 3=notes -/
def d_Jar_take : FDef := ⟨3, 4, true, [
  (.ite (.not (.call 33 [(.var 1), (.var 2)])) [(.raise 4)] []),
  (.ite (.call 41 [(.fld (.var 0) 0), (.var 1), (.fld (.var 0) 2)]) [(.asg (.v 3) (.call 70 [(.fld (.var 0) 1), (.call 5 [(.var 1)])]))] [(.asg (.v 3) (.call 69 [(.fld (.var 0) 1), (.var 1)]))]),
  (.expr (.meth 0 117 (.var 0) [(.fld (.var 0) 0), (.var 3), (.fld (.var 0) 2)]))]⟩
/-- 119 Jar.ask : 0=self 1=host 2=path 3=is_safe 4=origin 5=is_led 6=ask 7=found -/
def d_Jar_ask : FDef := ⟨6, 8, true, [
  (.asg (.v 6) (.tup [(.var 1), (.var 2), (.fld (.var 0) 2), (.var 3), (.var 4), (.var 5)])),
  (.asg (.v 7) (.call 57 [(.fld (.var 0) 0), (.fld (.var 0) 1), (.var 6)])),
  (.sfld (.var 0) 4 (.bin .add (.fld (.var 0) 4) (.tup [(.tup [(.var 6), (.var 7)])]))),
  (.ret (.var 7))]⟩
/-- 120 Jar.pass_on : 0=self 1=many 2=time -/
def d_Jar_pass_on : FDef := ⟨2, 3, true, [
  (.asg (.v 2) (.b2 .min (.glo 1) (.bin .add (.fld (.var 0) 2) (.var 1)))),
  (.expr (.meth 0 117 (.var 0) [(.fld (.var 0) 0), (.call 72 [(.fld (.var 0) 0), (.fld (.var 0) 1), (.var 2)]), (.var 2)]))]⟩
/-- 121 Jar.notes : 0=self -/
def d_Jar_notes : FDef := ⟨1, 1, true, [
  (.ret (.fld (.var 0) 1))]⟩
/-- 122 Jar.time : 0=self -/
def d_Jar_time : FDef := ⟨1, 1, true, [
  (.ret (.fld (.var 0) 2))]⟩
/-- 123 Jar.rules : 0=self -/
def d_Jar_rules : FDef := ⟨1, 1, true, [
  (.ret (.fld (.var 0) 0))]⟩
/-- 124 Jar.change : 0=self 1=rules -/
def d_Jar_change : FDef := ⟨2, 2, true, [
  (.expr (.meth 0 117 (.var 0) [(.var 1), (.call 72 [(.var 1), (.fld (.var 0) 1), (.fld (.var 0) 2)]), (.fld (.var 0) 2)]))]⟩
/-- 125 Jar.undo : 0=self -/
def d_Jar_undo : FDef := ⟨1, 1, true, [
  (.ite (.not (.fld (.var 0) 3)) [(.raise 5)] []),
  (.tfld (.var 0) [0, 1, 2] (.m .pop (.fld (.var 0) 3) []))]⟩
/-- 126 Jar.log : 0=self -/
def d_Jar_log : FDef := ⟨1, 1, true, [
  (.ret (.fld (.var 0) 4))]⟩
/-- 127 _law_told : 0=_law_jar 1=_law_deed_here 2=e -/
def d__law_told : FDef := ⟨2, 3, true, [
  (.tryy [(.ite (.cmp .eq (.idx (.var 1) (.con (.int 0))) (.con (.str [116, 97, 107, 101]))) [(.ret (.meth 0 118 (.var 0) [(.idx (.var 1) (.con (.int 1))), (.idx (.var 1) (.con (.int 2)))]))] []), (.ite (.cmp .eq (.idx (.var 1) (.con (.int 0))) (.con (.str [97, 115, 107]))) [(.ret (.meth 0 119 (.var 0) [(.idx (.idx (.var 1) (.con (.int 1))) (.con (.int 0))), (.idx (.idx (.var 1) (.con (.int 1))) (.con (.int 1))), (.idx (.idx (.var 1) (.con (.int 1))) (.con (.int 3))), (.idx (.idx (.var 1) (.con (.int 1))) (.con (.int 4))), (.idx (.idx (.var 1) (.con (.int 1))) (.con (.int 5)))]))] []), (.ite (.cmp .eq (.idx (.var 1) (.con (.int 0))) (.con (.str [112, 97, 115, 115]))) [(.ret (.meth 0 120 (.var 0) [(.idx (.var 1) (.con (.int 1)))]))] []), (.ret (.ite (.cmp .eq (.idx (.var 1) (.con (.int 0))) (.con (.str [99, 104, 97, 110, 103, 101]))) (.meth 0 124 (.var 0) [(.idx (.var 1) (.con (.int 1)))]) (.meth 0 125 (.var 0) [])))] 0 (some 2) none (.call 63 [(.var 2)]) [0, 1, 2, 3, 4, 5, 6])]⟩
/-- 128 _law_deed : 0=_law_cell_here 1=_law_notes 2=_law_token 3=_law_note_here -/
def d__law_deed : FDef := ⟨2, 4, false, [
  (.asg (.v 2) (.idx (.tup [(.con (.str [116, 97, 107, 101])), (.con (.str [116, 97, 107, 101])), (.con (.str [116, 97, 107, 101])), (.con (.str [116, 97, 107, 101])), (.con (.str [97, 115, 107])), (.con (.str [97, 115, 107])), (.con (.str [112, 97, 115, 115])), (.con (.str [99, 104, 97, 110, 103, 101])), (.con (.str [117, 110, 100, 111]))]) (.call 10 [(.var 0), (.con (.int 9619)), (.con (.int 9))]))),
  (.ite (.cmp .eq (.var 2) (.con (.str [116, 97, 107, 101]))) [(.asg (.v 3) (.call 13 [(.bin .add (.var 0) (.con (.int 1)))])), (.ite (.and (.cmp .ne (.var 1) (.tup [])) (.cmp .eq (.call 10 [(.var 0), (.con (.int 9613)), (.con (.int 4))]) (.con (.int 0)))) [(.asg (.v 3) (.bin .add (.bin .add (.bin .add (.sl (.idx (.var 1) (.con (.int 0))) none (some (.con (.int 1)))) (.sl (.var 3) (some (.con (.int 1))) (some (.con (.int 2))))) (.sl (.idx (.var 1) (.con (.int 0))) (some (.con (.int 2))) (some (.con (.int 5))))) (.sl (.var 3) (some (.con (.int 5))) none)))] []), (.ret (.tup [(.var 2), (.var 3), (.idx (.tup [(.idx (.var 3) (.con (.int 2))), (.idx (.var 3) (.con (.int 2))), (.bin .add (.con (.str [120, 46])) (.idx (.var 3) (.con (.int 2)))), (.con (.str [97]))]) (.call 10 [(.var 0), (.con (.int 9601)), (.con (.int 4))]))]))] []),
  (.ite (.cmp .eq (.var 2) (.con (.str [97, 115, 107]))) [(.ret (.tup [(.var 2), (.call 17 [(.bin .add (.var 0) (.con (.int 1))), (.var 1)])]))] []),
  (.ret (.ite (.cmp .eq (.var 2) (.con (.str [99, 104, 97, 110, 103, 101]))) (.tup [(.var 2), (.call 16 [(.var 0)])]) (.tup [(.var 2), (.idx (.tup [(.con (.int 0)), (.con (.int 1)), (.con (.int 40)), (.con (.int 70))]) (.call 10 [(.var 0), (.con (.int 9587)), (.con (.int 4))]))])))]⟩
/-- 129 _law_take : 0=_law_state 1=_law_note_here 2=_law_host_here 3=_law_rules_here 4=_law_notes 5=_law_time 6=_law_high 7=_law_low 8=_law_marks 9=_law_one 10=_law_n -/
def d__law_take : FDef := ⟨3, 11, false, [
  (.asg (.t [(.v 3), (.v 4), (.v 5)]) (.var 0)),
  (.asg (.t [(.v 6), (.v 7)]) (.tup [(.m .split (.idx (.var 1) (.con (.int 2))) [(.con (.str [46]))]), (.m .split (.var 2) [(.con (.str [46]))])])),
  (.ite (.or (.and (.idx (.var 1) (.con (.int 3))) (.cmp .eq (.b1 .len (.var 6)) (.con (.int 1)))) (.cmp .ne (.sl (.var 7) (some (.b2 .max (.con (.int 0)) (.bin .sub (.b1 .len (.var 7)) (.b1 .len (.var 6))))) none) (.var 6))) [(.ret (.con (.str [110, 111, 116, 32, 116, 104, 101, 105, 114, 115])))] []),
  (.asg (.v 8) (.comp false (.call 14 [(.var 9)]) (.v 9) (.seq (.var 4)) none)),
  (.ite (.call 48 [(.var 3), (.var 1), (.var 5)]) [(.ret (.tup [(.var 3), (.b1 .tuple (.comp false (.var 9) (.v 9) (.seq (.var 4)) (some (.cmp .ne (.call 14 [(.var 9)]) (.call 14 [(.var 1)]))))), (.var 5)]))] []),
  (.ite (.cmp .in_ (.call 14 [(.var 1)]) (.var 8)) [(.asg (.v 10) (.m .index (.var 8) [(.call 14 [(.var 1)])])), (.ret (.tup [(.var 3), (.bin .add (.bin .add (.sl (.var 4) none (some (.var 10))) (.tup [(.var 1)])) (.sl (.var 4) (some (.bin .add (.var 10) (.con (.int 1)))) none)), (.var 5)]))] []),
  (.ret (.ite (.cmp .gt (.b1 .len (.var 4)) (.con (.int 5))) (.con (.str [102, 117, 108, 108])) (.tup [(.var 3), (.bin .add (.var 4) (.tup [(.var 1)])), (.var 5)])))]⟩
/-- 130 _law_after : 0=_law_state 1=_law_deed_here 2=_law_rules_here 3=_law_notes 4=_law_time 5=_law_one -/
def d__law_after : FDef := ⟨2, 6, false, [
  (.ite (.cmp .eq (.idx (.var 1) (.con (.int 0))) (.con (.str [116, 97, 107, 101]))) [(.ret (.call 129 [(.var 0), (.idx (.var 1) (.con (.int 1))), (.idx (.var 1) (.con (.int 2)))]))] []),
  (.asg (.t [(.v 2), (.v 3), (.v 4)]) (.var 0)),
  (.ite (.cmp .eq (.idx (.var 1) (.con (.int 0))) (.con (.str [99, 104, 97, 110, 103, 101]))) [(.asg (.v 2) (.idx (.var 1) (.con (.int 1))))] [(.asg (.v 4) (.b2 .min (.con (.int 99)) (.bin .add (.var 4) (.idx (.var 1) (.con (.int 1))))))]),
  (.ret (.tup [(.var 2), (.b1 .tuple (.comp false (.var 5) (.v 5) (.seq (.var 3)) (some (.not (.call 48 [(.var 2), (.var 5), (.var 4)]))))), (.var 4)]))]⟩
/-- 131 law : 0=_law_script 1=_law_k 2=_law_state 3=_law_past 4=_law_log 5=_law_jar 6=_law_turn 7=_law_deed_here 8=_law_due 9=_law_ask_here 10=_law_new -/
def d_law_k15 : FDef := ⟨1, 11, false, [
  (.forr (.v 1) (.rng1 (.con (.int 6))) [(.asg (.t [(.v 2), (.v 3), (.v 4)]) (.tup [(.tup [(.call 16 [(.bin .add (.call 9 [(.var 0), (.var 1)]) (.bin .mul (.con (.int 3)) (.var 1)))]), (.tup []), (.con (.int 0))]), (.newl []), (.tup [])])), (.asg (.v 5) (.new 0 [(.idx (.var 2) (.con (.int 0)))])), (.forr (.v 6) (.rng1 (.con (.int 26))) [(.asg (.t [(.v 7), (.v 8)]) (.tup [(.call 128 [(.bin .add (.bin .add (.call 9 [(.var 0), (.bin .add (.con (.int 6)) (.bin .mod (.var 6) (.con (.int 4))))]) (.bin .mul (.con (.int 41)) (.var 6))) (.var 1)), (.idx (.var 2) (.con (.int 1)))]), (.con .non)])), (.ite (.cmp .eq (.idx (.var 7) (.con (.int 0))) (.con (.str [117, 110, 100, 111]))) [(.asg (.v 8) (.ite (.cmp .ne (.var 3) (.lst [])) (.con .non) (.con (.str [110, 111, 32, 100, 101, 101, 100])))), (.asg (.v 2) (.ite (.cmp .ne (.var 3) (.lst [])) (.m .pop (.var 3) []) (.var 2)))] [(.ite (.cmp .eq (.idx (.var 7) (.con (.int 0))) (.con (.str [97, 115, 107]))) [(.asg (.v 9) (.bin .add (.bin .add (.sl (.idx (.var 7) (.con (.int 1))) none (some (.con (.int 2)))) (.tup [(.idx (.var 2) (.con (.int 2)))])) (.sl (.idx (.var 7) (.con (.int 1))) (some (.con (.int 3))) none))), (.asg (.v 8) (.call 62 [(.idx (.var 2) (.con (.int 0))), (.idx (.var 2) (.con (.int 1))), (.var 9)])), (.asg (.v 4) (.bin .add (.var 4) (.tup [(.tup [(.var 9), (.var 8)])])))] [(.asg (.v 10) (.call 130 [(.var 2), (.var 7)])), (.ite (.isi (.var 10) [0]) [(.asg (.v 8) (.var 10))] [(.expr (.m .append (.var 3) [(.var 2)])), (.asg (.v 2) (.var 10))])])]), (.ite (.not (.call 35 [(.call 127 [(.var 5), (.var 7)]), (.var 8)])) [(.ret (.con (.bl false)))] []), (.ite (.not (.call 35 [(.tup [(.meth 0 123 (.var 5) []), (.meth 0 121 (.var 5) []), (.meth 0 122 (.var 5) []), (.meth 0 126 (.var 5) [])]), (.bin .add (.var 2) (.tup [(.var 4)]))])) [(.ret (.con (.bl false)))] [])])]),
  (.ret (.cmp .eq (.meth 0 121 (.new 0 [(.tup [(.con (.str [115, 116, 101, 112, 115])), (.con (.str [116, 111, 108, 100])), (.con (.str [117, 110, 116, 105, 108])), (.con (.str [109, 117, 115, 116])), (.con (.str [107, 101, 101, 112])), (.con (.str [111, 108, 100]))])]) []) (.tup [])))]⟩
/-- 132 _law_do : 0=_law_jar 1=_law_cell_here 2=_law_way 3=_law_note_here -/
def d__law_do : FDef := ⟨2, 4, true, [
  (.asg (.t [(.v 2), (.v 3)]) (.tup [(.call 10 [(.var 1), (.con (.int 9551)), (.con (.int 8))]), (.call 13 [(.bin .add (.var 1) (.con (.int 1)))])])),
  (.tryy [(.ite (.cmp .lt (.var 2) (.con (.int 5))) [(.expr (.meth 0 118 (.var 0) [(.var 3), (.idx (.var 3) (.con (.int 2)))]))] [(.ite (.cmp .lt (.var 2) (.con (.int 7))) [(.expr (.meth 0 120 (.var 0) [(.call 10 [(.var 1), (.con (.int 9547)), (.con (.int 9))])]))] [(.expr (.meth 0 124 (.var 0) [(.call 16 [(.var 1)])]))])]), (.ret (.con (.bl true)))] 0 none none (.con (.bl false)) [0, 2, 4, 5])]⟩
/-- 133 _law_now : 0=_law_jar -/
def d__law_now : FDef := ⟨1, 1, true, [
  (.ret (.tup [(.meth 0 123 (.var 0) []), (.meth 0 121 (.var 0) []), (.meth 0 122 (.var 0) [])]))]⟩
/-- 134 _law_are_ticks : 0=_law_jar 1=_law_other -/
def d__law_are_ticks : FDef := ⟨2, 2, true, [
  (.expr (.meth 0 120 (.var 0) [(.con (.int 3))])),
  (.expr (.meth 0 120 (.var 0) [(.con (.int 4))])),
  (.expr (.meth 0 120 (.var 1) [(.con (.int 7))])),
  (.ite (.cmp .ne (.call 133 [(.var 0)]) (.call 133 [(.var 1)])) [(.ret (.con (.bl false)))] []),
  (.expr (.meth 0 125 (.var 0) [])),
  (.expr (.meth 0 125 (.var 0) [])),
  (.ret (.con (.bl true)))]⟩
/-- 135 law : 0=_law_script 1=_law_k 2=_law_first_rules 3=_law_jar 4=_law_rows 5=_law_cells 6=_law_turn 7=_law_cell_here 8=_law_before 9=_law_rules_here 10=_law_notes 11=_law_time 12=_law_one 13=_law_ask_here 14=_law_end 15=_law_log 16=_law_row 17=_law_other 18=_law_n -/
def d_law_k16 : FDef := ⟨1, 19, false, [
  (.forr (.v 1) (.rng1 (.con (.int 6))) [(.asg (.v 2) (.call 16 [(.bin .add (.call 9 [(.var 0), (.var 1)]) (.bin .mul (.con (.int 3)) (.var 1)))])), (.asg (.t [(.v 3), (.v 4), (.v 5)]) (.tup [(.new 0 [(.var 2)]), (.newl []), (.newl [])])), (.forr (.v 6) (.rng1 (.con (.int 20))) [(.asg (.v 7) (.bin .add (.bin .add (.call 9 [(.var 0), (.bin .add (.con (.int 6)) (.bin .mod (.var 6) (.con (.int 4))))]) (.bin .mul (.con (.int 41)) (.var 6))) (.var 1))), (.asg (.v 8) (.call 133 [(.var 3)])), (.ite (.call 132 [(.var 3), (.var 7)]) [(.expr (.m .append (.var 4) [(.var 8)])), (.expr (.m .append (.var 5) [(.var 7)]))] [(.ite (.cmp .ne (.call 133 [(.var 3)]) (.var 8)) [(.ret (.con (.bl false)))] [])]), (.asg (.t [(.v 9), (.v 10), (.v 11)]) (.call 133 [(.var 3)])), (.ite (.or (.cmp .isn (.call 6 [(.var 10)]) (.con (.bl true))) (.not (.chain .le .lt (.con (.int 0)) (.var 11) (.con (.int 100))))) [(.ret (.con (.bl false)))] []), (.ite (.cmp .ne (.comp false (.var 12) (.v 12) (.seq (.var 10)) (some (.call 41 [(.var 9), (.var 12), (.var 11)]))) (.lst [])) [(.ret (.con (.bl false)))] []), (.asg (.v 13) (.call 17 [(.bin .add (.var 7) (.con (.int 2))), (.var 10)])), (.ite (.cmp .ne (.meth 0 119 (.var 3) [(.idx (.var 13) (.con (.int 0))), (.idx (.var 13) (.con (.int 1))), (.idx (.var 13) (.con (.int 3))), (.idx (.var 13) (.con (.int 4))), (.idx (.var 13) (.con (.int 5)))]) (.call 57 [(.var 9), (.var 10), (.bin .add (.bin .add (.sl (.var 13) none (some (.con (.int 2)))) (.tup [(.var 11)])) (.sl (.var 13) (some (.con (.int 3))) none))])) [(.ret (.con (.bl false)))] [])]), (.asg (.t [(.v 14), (.v 15)]) (.tup [(.call 133 [(.var 3)]), (.meth 0 126 (.var 3) [])])), (.ite (.or (.cmp .ne (.b1 .len (.var 15)) (.con (.int 20))) (.cmp .ne (.comp false (.var 16) (.v 16) (.seq (.var 15)) (some (.cmp .gt (.idx (.idx (.var 16) (.con (.int 0))) (.con (.int 2))) (.idx (.var 14) (.con (.int 2)))))) (.lst []))) [(.ret (.con (.bl false)))] []), (.asg (.v 17) (.new 0 [(.var 2)])), (.forr (.v 7) (.seq (.var 5)) [(.expr (.call 132 [(.var 17), (.var 7)]))]), (.ite (.or (.cmp .ne (.call 133 [(.var 17)]) (.var 14)) (.cmp .ne (.meth 0 126 (.var 17) []) (.tup []))) [(.ret (.con (.bl false)))] []), (.ite (.not (.call 134 [(.var 3), (.var 17)])) [(.ret (.con (.bl false)))] []), (.forr (.v 18) (.rng3 (.bin .sub (.b1 .len (.var 4)) (.con (.int 1))) (.b1 .neg (.con (.int 1))) (.b1 .neg (.con (.int 1)))) [(.expr (.meth 0 125 (.var 3) [])), (.ite (.or (.cmp .ne (.call 133 [(.var 3)]) (.idx (.var 4) (.var 18))) (.cmp .ne (.meth 0 126 (.var 3) []) (.var 15))) [(.ret (.con (.bl false)))] [])])]),
  (.ret (.con (.bl true)))]⟩
/-- 136 note_text : 0=note -/
def d_note_text : FDef := ⟨1, 1, false, [
  (.ret (.call 80 [(.var 0)]))]⟩
/-- 137 rules_text : 0=rules -/
def d_rules_text : FDef := ⟨1, 1, false, [
  (.ret (.call 80 [(.var 0)]))]⟩
/-- 138 sent_text : 0=some 1=name 2=worth -/
def d_sent_text : FDef := ⟨1, 3, false, [
  (.ret (.m .join (.con (.str [59, 32])) [(.comp false (.bin .add (.bin .add (.var 1) (.con (.str [61]))) (.var 2)) (.t [(.v 1), (.v 2)]) (.seq (.var 0)) none)]))]⟩
/-- 139 log_text : 0=log 1=ask 2=some -/
def d_log_text : FDef := ⟨1, 3, false, [
  (.ret (.m .join (.con (.str [])) [(.comp false (.bin .add (.bin .add (.bin .add (.call 81 [(.var 1)]) (.con (.str [32, 62, 32]))) (.call 138 [(.var 2)])) (.con (.str [10]))) (.t [(.v 1), (.v 2)]) (.seq (.var 0)) none)]))]⟩
/-- 140 must : 0=truth -/
def d_must : FDef := ⟨1, 1, false, [
  (.ite (.not (.var 0)) [(.raise 6)] [])]⟩
/-- 141 truth_in : 0=text -/
def d_truth_in : FDef := ⟨1, 1, false, [
  (.expr (.call 140 [(.cmp .in_ (.var 0) (.tup [(.con (.str [121, 101, 115])), (.con (.str [110, 111]))]))])),
  (.ret (.cmp .eq (.var 0) (.con (.str [121, 101, 115]))))]⟩
/-- 142 time_in : 0=text 1=sign -/
def d_time_in : FDef := ⟨1, 2, false, [
  (.expr (.call 140 [(.and (.chain .le .le (.con (.int 1)) (.b1 .len (.var 0)) (.con (.int 2))) (.b1 .all (.comp false (.cmp .in_ (.var 1) (.glo 10)) (.v 1) (.seq (.var 0)) none)))])),
  (.ret (.b1 .int (.var 0)))]⟩
/-- 143 read_note : 0=text 1=parts 2=worth 3=end 4=found -/
def d_read_note : FDef := ⟨1, 5, false, [
  (.asg (.v 1) (.m .split (.var 0) [(.con (.str [32]))])),
  (.expr (.call 140 [(.cmp .eq (.b1 .len (.var 1)) (.con (.int 8)))])),
  (.asg (.v 2) (.ite (.cmp .eq (.idx (.var 1) (.con (.int 1))) (.con (.str [45]))) (.con (.str [])) (.idx (.var 1) (.con (.int 1))))),
  (.asg (.v 3) (.ite (.cmp .eq (.idx (.var 1) (.con (.int 5))) (.con (.str [45]))) (.con .non) (.call 142 [(.idx (.var 1) (.con (.int 5)))]))),
  (.asg (.v 4) (.tup [(.idx (.var 1) (.con (.int 0))), (.var 2), (.idx (.var 1) (.con (.int 2))), (.call 141 [(.idx (.var 1) (.con (.int 3)))]), (.idx (.var 1) (.con (.int 4))), (.var 3), (.call 141 [(.idx (.var 1) (.con (.int 6)))]), (.idx (.var 1) (.con (.int 7)))])),
  (.expr (.call 140 [(.and (.call 4 [(.var 4)]) (.cmp .eq (.call 136 [(.var 4)]) (.var 0)))])),
  (.ret (.var 4))]⟩
/-- 144 read_ask : 0=text 1=parts 2=origin 3=found -/
def d_read_ask : FDef := ⟨1, 4, false, [
  (.asg (.v 1) (.m .split (.var 0) [(.con (.str [32]))])),
  (.expr (.call 140 [(.cmp .eq (.b1 .len (.var 1)) (.con (.int 6)))])),
  (.asg (.v 2) (.ite (.cmp .eq (.idx (.var 1) (.con (.int 4))) (.con (.str [45]))) (.con .non) (.idx (.var 1) (.con (.int 4))))),
  (.asg (.v 3) (.tup [(.idx (.var 1) (.con (.int 0))), (.idx (.var 1) (.con (.int 1))), (.call 142 [(.idx (.var 1) (.con (.int 2)))]), (.call 141 [(.idx (.var 1) (.con (.int 3)))]), (.var 2), (.call 141 [(.idx (.var 1) (.con (.int 5)))])])),
  (.expr (.call 140 [(.and (.call 7 [(.var 3)]) (.cmp .eq (.call 81 [(.var 3)]) (.var 0)))])),
  (.ret (.var 3))]⟩
/-- 145 read_rules : 0=text 1=found -/
def d_read_rules : FDef := ⟨1, 2, false, [
  (.asg (.v 1) (.b1 .tuple (.m .split (.var 0) [(.con (.str [32]))]))),
  (.expr (.call 140 [(.and (.call 8 [(.var 1)]) (.cmp .eq (.call 137 [(.var 1)]) (.var 0)))])),
  (.ret (.var 1))]⟩
/-- 146 pair_in : 0=text 1=name 2=between 3=worth -/
def d_pair_in : FDef := ⟨1, 4, false, [
  (.asg (.t [(.v 1), (.v 2), (.v 3)]) (.m .partition (.var 0) [(.con (.str [61]))])),
  (.expr (.call 140 [(.and (.cmp .eq (.var 2) (.con (.str [61]))) (.and (.call 0 [(.var 1), (.con (.int 1))]) (.call 0 [(.var 3), (.con (.int 0))])))])),
  (.ret (.tup [(.var 1), (.var 3)]))]⟩
/-- 147 line_in : 0=line 1=first 2=between 3=rest 4=one -/
def d_line_in : FDef := ⟨1, 5, false, [
  (.asg (.t [(.v 1), (.v 2), (.v 3)]) (.m .partition (.var 0) [(.con (.str [32, 62, 32]))])),
  (.expr (.call 140 [(.cmp .ne (.var 2) (.con (.str [])))])),
  (.ret (.tup [(.call 144 [(.var 1)]), (.ite (.var 3) (.b1 .tuple (.comp false (.call 146 [(.var 4)]) (.v 4) (.seq (.m .split (.var 3) [(.con (.str [59, 32]))])) none)) (.tup []))]))]⟩
/-- 148 read_log : 0=text 1=found 2=line -/
def d_read_log : FDef := ⟨1, 3, false, [
  (.asg (.v 1) (.b1 .tuple (.comp false (.call 147 [(.var 2)]) (.v 2) (.seq (.sl (.m .split (.var 0) [(.con (.str [10]))]) none (some (.b1 .neg (.con (.int 1)))))) none))),
  (.expr (.call 140 [(.cmp .eq (.call 139 [(.var 1)]) (.var 0))])),
  (.ret (.var 1))]⟩
/-- 149 _law_read : 0=_law_way 1=_law_here -/
def d__law_read : FDef := ⟨2, 2, false, [
  (.tryy [(.ite (.cmp .eq (.var 0) (.con (.int 0))) [(.ret (.call 143 [(.var 1)]))] []), (.ite (.cmp .eq (.var 0) (.con (.int 1))) [(.ret (.call 144 [(.var 1)]))] []), (.ret (.ite (.cmp .eq (.var 0) (.con (.int 2))) (.call 145 [(.var 1)]) (.call 148 [(.var 1)])))] 0 none none (.con .non) [0, 6])]⟩
/-- 150 law : 0=_law_script 1=_law_k 2=_law_cell_here 3=_law_notes_here 4=_law_rules_here 5=_law_note_here 6=_law_log 7=_law_here 8=_law_j 9=_law_ask_here 10=_law_name 11=_law_worth 12=_law_things 13=_law_texts 14=_law_n -/
def d_law_k17 : FDef := ⟨1, 15, false, [
  (.forr (.v 1) (.rng1 (.con (.int 14))) [(.asg (.v 2) (.bin .add (.call 9 [(.var 0), (.bin .mod (.var 1) (.con (.int 9)))]) (.bin .mul (.con (.int 31)) (.var 1)))), (.asg (.t [(.v 3), (.v 4)]) (.tup [(.call 15 [(.var 2), (.con (.int 6))]), (.call 16 [(.bin .add (.call 9 [(.var 0), (.con (.int 9))]) (.bin .mul (.con (.int 7)) (.var 1)))])])), (.asg (.t [(.v 5), (.v 6), (.v 7)]) (.tup [(.call 13 [(.bin .add (.var 2) (.con (.int 3)))]), (.newl []), (.con (.str []))])), (.forr (.v 8) (.rng1 (.bin .mod (.var 1) (.con (.int 5)))) [(.asg (.v 9) (.call 17 [(.bin .add (.bin .add (.call 9 [(.var 0), (.con (.int 8))]) (.bin .mul (.con (.int 17)) (.var 8))) (.var 1)), (.var 3)])), (.expr (.m .append (.var 6) [(.tup [(.var 9), (.call 62 [(.var 4), (.var 3), (.var 9)])])])), (.asg (.v 7) (.bin .add (.bin .add (.bin .add (.bin .add (.var 7) (.call 90 [(.var 9)])) (.con (.str [32, 62, 32]))) (.m .join (.con (.str [59, 32])) [(.comp false (.bin .add (.bin .add (.var 10) (.con (.str [61]))) (.var 11)) (.t [(.v 10), (.v 11)]) (.seq (.idx (.idx (.var 6) (.b1 .neg (.con (.int 1)))) (.con (.int 1)))) none)])) (.con (.str [10]))))]), (.asg (.v 12) (.tup [(.var 5), (.call 17 [(.bin .add (.var 2) (.con (.int 5))), (.var 3)]), (.var 4), (.b1 .tuple (.var 6))])), (.asg (.v 13) (.tup [(.call 90 [(.var 5)]), (.call 90 [(.idx (.var 12) (.con (.int 1)))]), (.call 90 [(.var 4)]), (.var 7)])), (.ite (.not (.call 35 [(.tup [(.call 136 [(.var 5)]), (.call 81 [(.idx (.var 12) (.con (.int 1)))]), (.call 137 [(.var 4)]), (.call 139 [(.idx (.var 12) (.con (.int 3)))])]), (.var 13)])) [(.ret (.con (.bl false)))] []), (.ite (.not (.call 35 [(.b1 .tuple (.comp false (.call 149 [(.var 14), (.idx (.var 13) (.var 14))]) (.v 14) (.rng1 (.con (.int 4))) none)), (.var 12)])) [(.ret (.con (.bl false)))] [])]),
  (.asg (.v 5) (.tup [(.con (.str [110])), (.con (.str [])), (.con (.str [97, 46, 98])), (.con (.bl true)), (.con (.str [47])), (.con .non), (.con (.bl false)), (.con (.str [97, 110, 121]))])),
  (.ite (.cmp .ne (.call 81 [(.tup [(.con (.str [97])), (.con (.str [47, 98])), (.con (.int 3)), (.con (.bl false)), (.con .non), (.con (.bl true))])]) (.con (.str [97, 32, 47, 98, 32, 51, 32, 110, 111, 32, 45, 32, 121, 101, 115]))) [(.ret (.con (.bl false)))] []),
  (.ret (.cmp .eq (.call 136 [(.var 5)]) (.con (.str [110, 32, 45, 32, 97, 46, 98, 32, 121, 101, 115, 32, 47, 32, 45, 32, 110, 111, 32, 97, 110, 121]))))]⟩
/-- 151 _law_said : 0=_law_way 1=_law_here 2=e -/
def d__law_said_4 : FDef := ⟨2, 3, false, [
  (.tryy [(.ite (.cmp .eq (.var 0) (.con (.int 0))) [(.ret (.call 143 [(.var 1)]))] []), (.ite (.cmp .eq (.var 0) (.con (.int 1))) [(.ret (.call 144 [(.var 1)]))] []), (.ret (.ite (.cmp .eq (.var 0) (.con (.int 2))) (.call 145 [(.var 1)]) (.call 148 [(.var 1)])))] 0 (some 2) none (.call 63 [(.var 2)]) [0, 1, 2, 3, 4, 5, 6])]⟩
/-- 152 _law_is_pair : 0=_law_pair 1=_law_sign -/
def d__law_is_pair : FDef := ⟨1, 2, false, [
  (.ite (.or (.not (.isi (.var 0) [3])) (.or (.cmp .ne (.b1 .len (.var 0)) (.con (.int 2))) (.or (.not (.chain .lt .lt (.con (.int 0)) (.b1 .len (.idx (.var 0) (.con (.int 0)))) (.con (.int 4)))) (.cmp .gt (.b1 .len (.idx (.var 0) (.con (.int 1)))) (.con (.int 3)))))) [(.ret (.con (.bl false)))] []),
  (.ret (.cmp .eq (.comp false (.var 1) (.v 1) (.seq (.bin .add (.idx (.var 0) (.con (.int 0))) (.idx (.var 0) (.con (.int 1))))) (some (.not (.chain .le .le (.con (.str [97])) (.var 1) (.con (.str [122])))))) (.lst [])))]⟩
/-- 153 _law_is_right : 0=_law_way 1=_law_here 2=_law_thing 3=_law_ask_here 4=_law_some 5=_law_pair -/
def d__law_is_right : FDef := ⟨2, 6, false, [
  (.asg (.v 2) (.call 151 [(.var 0), (.var 1)])),
  (.ite (.cmp .eq (.var 2) (.con (.str [110, 111, 32, 116, 101, 120, 116]))) [(.ret (.con (.bl true)))] []),
  (.ite (.cmp .eq (.var 0) (.con (.int 0))) [(.ret (.and (.cmp .is (.call 4 [(.var 2)]) (.con (.bl true))) (.cmp .eq (.call 136 [(.var 2)]) (.var 1))))] []),
  (.ite (.cmp .eq (.var 0) (.con (.int 1))) [(.ret (.and (.cmp .is (.call 7 [(.var 2)]) (.con (.bl true))) (.cmp .eq (.call 81 [(.var 2)]) (.var 1))))] []),
  (.ite (.cmp .eq (.var 0) (.con (.int 2))) [(.ret (.and (.cmp .is (.call 8 [(.var 2)]) (.con (.bl true))) (.cmp .eq (.call 137 [(.var 2)]) (.var 1))))] []),
  (.forr (.t [(.v 3), (.v 4)]) (.seq (.var 2)) [(.ite (.or (.cmp .isn (.call 7 [(.var 3)]) (.con (.bl true))) (.cmp .ne (.comp false (.var 5) (.v 5) (.seq (.var 4)) (some (.not (.call 152 [(.var 5)])))) (.lst []))) [(.ret (.con (.bl false)))] [])]),
  (.ret (.cmp .eq (.call 139 [(.var 2)]) (.var 1)))]⟩
/-- 154 _law_are_refused : 0=_law_bad 1=_law_here -/
def d__law_are_refused : FDef := ⟨0, 2, false, [
  (.asg (.v 0) (.lst [(.con (.str [])), (.con (.str [110])), (.con (.str [110, 32, 45, 32, 97, 32, 121, 101, 115, 32, 47, 32, 45, 32, 110, 111])), (.con (.str [110, 32, 45, 32, 97, 32, 121, 101, 115, 32, 47, 32, 45, 32, 110, 111, 32, 97, 110, 121, 32]))])),
  (.asg (.v 0) (.bin .add (.var 0) (.lst [(.con (.str [110, 32, 45, 32, 97, 32, 121, 101, 115, 32, 47, 32, 48, 53, 32, 110, 111, 32, 97, 110, 121])), (.con (.str [110, 32, 45, 32, 97, 32, 121, 101, 115, 32, 47, 32, 49, 48, 48, 32, 110, 111, 32, 97, 110, 121])), (.con (.str [110, 32, 45, 32, 97, 32, 89, 101, 115, 32, 47, 32, 45, 32, 110, 111, 32, 97, 110, 121]))]))),
  (.asg (.v 0) (.bin .add (.var 0) (.lst [(.con (.str [110, 32, 45, 32, 97, 32, 121, 101, 115, 32, 97, 32, 45, 32, 110, 111, 32, 97, 110, 121])), (.con (.str [45, 32, 45, 32, 97, 32, 121, 101, 115, 32, 47, 32, 45, 32, 110, 111, 32, 97, 110, 121])), (.con (.str [110, 32, 45, 32, 97, 46, 32, 121, 101, 115, 32, 47, 32, 45, 32, 110, 111, 32, 97, 110, 121]))]))),
  (.asg (.v 0) (.bin .add (.var 0) (.lst [(.con (.str [110, 32, 32, 97, 32, 121, 101, 115, 32, 47, 32, 45, 32, 110, 111, 32, 97, 110, 121])), (.con (.str [110, 32, 45, 32, 97, 32, 121, 101, 115, 32, 47, 32, 45, 32, 110, 111, 32, 97, 108, 108]))]))),
  (.ite (.or (.cmp .ne (.comp false (.var 1) (.v 1) (.seq (.var 0)) (some (.cmp .ne (.call 151 [(.con (.int 0)), (.var 1)]) (.con (.str [110, 111, 32, 116, 101, 120, 116]))))) (.lst [])) (.cmp .ne (.idx (.call 151 [(.con (.int 0)), (.con (.str [110, 32, 45, 32, 97, 32, 121, 101, 115, 32, 47, 32, 48, 32, 110, 111, 32, 97, 110, 121]))]) (.con (.int 5))) (.con (.int 0)))) [(.ret (.con (.bl false)))] []),
  (.asg (.v 0) (.lst [(.con (.str [])), (.con (.str [97, 32, 47, 32, 48, 32, 121, 101, 115, 32, 45])), (.con (.str [97, 32, 47, 32, 45, 32, 121, 101, 115, 32, 45, 32, 110, 111])), (.con (.str [97, 32, 47, 32, 48, 48, 32, 121, 101, 115, 32, 45, 32, 110, 111]))])),
  (.asg (.v 0) (.bin .add (.var 0) (.lst [(.con (.str [97, 32, 47, 32, 48, 32, 121, 101, 115, 32, 45, 32, 110, 111, 32])), (.con (.str [97, 32, 32, 47, 32, 48, 32, 121, 101, 115, 32, 45, 32, 110, 111])), (.con (.str [97, 32, 47, 32, 48, 32, 121, 101, 115, 32, 98, 46, 32, 110, 111])), (.con (.str [97, 32, 47, 32, 48, 32, 49, 32, 45, 32, 110, 111]))]))),
  (.ite (.or (.cmp .ne (.comp false (.var 1) (.v 1) (.seq (.var 0)) (some (.cmp .ne (.call 151 [(.con (.int 1)), (.var 1)]) (.con (.str [110, 111, 32, 116, 101, 120, 116]))))) (.lst [])) (.cmp .ne (.idx (.call 151 [(.con (.int 1)), (.con (.str [97, 32, 47, 32, 57, 57, 32, 121, 101, 115, 32, 98, 32, 110, 111]))]) (.con (.int 4))) (.con (.str [98])))) [(.ret (.con (.bl false)))] []),
  (.asg (.v 0) (.lst [(.con (.str [])), (.con (.str [115, 116, 101, 112, 115, 32, 116, 111, 108, 100, 32, 117, 110, 116, 105, 108, 32, 109, 117, 115, 116, 32, 107, 101, 101, 112])), (.con (.str [115, 116, 101, 112, 115, 32, 116, 111, 108, 100, 32, 117, 110, 116, 105, 108, 32, 109, 117, 115, 116, 32, 107, 101, 101, 112, 32, 111, 108, 100, 32]))])),
  (.asg (.v 0) (.bin .add (.var 0) (.lst [(.con (.str [116, 111, 108, 100, 32, 115, 116, 101, 112, 115, 32, 117, 110, 116, 105, 108, 32, 109, 117, 115, 116, 32, 107, 101, 101, 112, 32, 111, 108, 100])), (.con (.str [115, 116, 101, 112, 115, 32, 116, 111, 108, 100, 32, 117, 110, 116, 105, 108, 32, 109, 117, 115, 116, 32, 107, 101, 101, 112, 32, 111, 108, 100, 32, 111, 108, 100]))]))),
  (.ite (.cmp .ne (.comp false (.var 1) (.v 1) (.seq (.var 0)) (some (.cmp .ne (.call 151 [(.con (.int 2)), (.var 1)]) (.con (.str [110, 111, 32, 116, 101, 120, 116]))))) (.lst [])) [(.ret (.con (.bl false)))] []),
  (.ret (.con (.bl true)))]⟩
/-- 155 law : 0=_law_script 1=_law_signs 2=_law_k 3=_law_cell_here 4=_law_ask_here 5=_law_log 6=_law_texts 7=_law_way 8=_law_here 9=_law_turn 10=_law_seed 11=_law_spot 12=_law_sign 13=_law_news 14=_law_bad -/
def d_law_k18 : FDef := ⟨1, 15, false, [
  (.asg (.v 1) (.con (.str [97, 98, 32, 45, 47, 46, 61, 62, 59, 48, 10, 57, 113, 121]))),
  (.forr (.v 2) (.rng1 (.con (.int 10))) [(.asg (.v 3) (.bin .add (.call 9 [(.var 0), (.bin .mod (.var 2) (.con (.int 8)))]) (.bin .mul (.con (.int 3)) (.var 2)))), (.asg (.v 4) (.call 17 [(.bin .add (.var 3) (.con (.int 2))), (.tup [])])), (.asg (.v 5) (.sl (.tup [(.tup [(.var 4), (.tup [(.tup [(.con (.str [110])), (.con (.str [97]))]), (.tup [(.con (.str [107])), (.con (.str []))])])]), (.tup [(.var 4), (.tup [])])]) none (some (.bin .mod (.var 2) (.con (.int 3)))))), (.asg (.v 6) (.tup [(.call 136 [(.call 13 [(.var 3)])]), (.call 81 [(.var 4)]), (.call 137 [(.call 16 [(.var 3)])]), (.call 139 [(.var 5)])])), (.forr (.v 7) (.rng1 (.con (.int 4))) [(.asg (.v 8) (.idx (.var 6) (.var 7))), (.ite (.or (.cmp .eq (.call 151 [(.var 7), (.var 8)]) (.con (.str [110, 111, 32, 116, 101, 120, 116]))) (.and (.cmp .eq (.var 7) (.con (.int 3))) (.cmp .ne (.call 151 [(.var 7), (.var 8)]) (.var 5)))) [(.ret (.con (.bl false)))] []), (.forr (.v 9) (.rng1 (.con (.int 5))) [(.asg (.v 10) (.bin .add (.bin .add (.bin .add (.call 9 [(.var 0), (.bin .add (.con (.int 8)) (.bin .mod (.var 9) (.con (.int 2))))]) (.bin .mul (.con (.int 7)) (.var 2))) (.bin .mul (.con (.int 11)) (.var 9))) (.var 7))), (.asg (.t [(.v 11), (.v 12)]) (.tup [(.call 10 [(.var 10), (.con (.int 9539)), (.bin .add (.b1 .len (.var 8)) (.con (.int 1)))]), (.idx (.var 1) (.call 10 [(.var 10), (.con (.int 9533)), (.b1 .len (.var 1))]))])), (.asg (.v 13) (.newl [(.bin .add (.bin .add (.sl (.var 8) none (some (.var 11))) (.var 12)) (.sl (.var 8) (some (.var 11)) none)), (.bin .add (.sl (.var 8) none (some (.var 11))) (.sl (.var 8) (some (.bin .add (.var 11) (.con (.int 1)))) none))])), (.expr (.m .append (.var 13) [(.bin .add (.bin .add (.sl (.var 8) none (some (.var 11))) (.var 12)) (.sl (.var 8) (some (.bin .add (.var 11) (.con (.int 1)))) none))])), (.asg (.v 8) (.idx (.var 13) (.call 10 [(.var 10), (.con (.int 9521)), (.con (.int 3))]))), (.ite (.not (.call 153 [(.var 7), (.var 8)])) [(.ret (.con (.bl false)))] [])])])]),
  (.ite (.not (.call 154 [])) [(.ret (.con (.bl false)))] []),
  (.asg (.v 4) (.con (.str [97, 32, 47, 32, 48, 32, 121, 101, 115, 32, 45, 32, 110, 111]))),
  (.asg (.v 14) (.lst [(.var 4), (.bin .add (.var 4) (.con (.str [32, 62, 32]))), (.bin .add (.var 4) (.con (.str [32, 62, 10]))), (.bin .add (.var 4) (.con (.str [32, 62, 32, 110, 10]))), (.bin .add (.var 4) (.con (.str [32, 62, 32, 110, 61, 10, 10])))])),
  (.asg (.v 14) (.bin .add (.var 14) (.lst [(.bin .add (.var 4) (.con (.str [32, 62, 32, 61, 97, 10]))), (.bin .add (.var 4) (.con (.str [32, 62, 32, 110, 61, 97, 59, 107, 61, 10]))), (.bin .add (.var 4) (.con (.str [32, 62, 32, 110, 61, 97, 59, 32, 10]))), (.bin .add (.var 4) (.con (.str [62, 32, 110, 61, 97, 10])))]))),
  (.asg (.v 14) (.bin .add (.var 14) (.lst [(.con (.str [32, 62, 32, 110, 61, 97, 10])), (.bin .add (.var 4) (.con (.str [32, 62, 32, 110, 61, 97, 32, 62, 32, 107, 61, 98, 10]))), (.bin .add (.var 4) (.con (.str [32, 62, 32, 110, 61, 97, 98, 99, 100, 10]))), (.bin .add (.var 4) (.con (.str [32, 62, 32, 78, 61, 97, 10])))]))),
  (.ite (.cmp .ne (.comp false (.var 8) (.v 8) (.seq (.var 14)) (some (.cmp .ne (.call 151 [(.con (.int 3)), (.var 8)]) (.con (.str [110, 111, 32, 116, 101, 120, 116]))))) (.lst [])) [(.ret (.con (.bl false)))] []),
  (.ret (.cmp .eq (.b1 .len (.call 151 [(.con (.int 3)), (.bin .add (.bin .add (.bin .add (.var 4) (.con (.str [32, 62, 32, 10]))) (.var 4)) (.con (.str [32, 62, 32, 110, 61, 59, 32, 107, 61, 98, 10])))])) (.con (.int 2))))]⟩
/-- 156 _law_lives : 0=_law_jar 1=_law_seed 2=_law_way 3=_law_note_here 4=_law_said 5=_law_ask_here 6=e -/
def d__law_lives : FDef := ⟨2, 7, true, [
  (.asg (.t [(.v 2), (.v 3)]) (.tup [(.call 10 [(.var 1), (.con (.int 9511)), (.con (.int 9))]), (.call 13 [(.bin .add (.var 1) (.con (.int 1)))])])),
  (.tryy [(.ite (.cmp .lt (.var 2) (.con (.int 4))) [(.asg (.v 4) (.meth 0 118 (.var 0) [(.var 3), (.idx (.var 3) (.con (.int 2)))]))] [(.ite (.cmp .lt (.var 2) (.con (.int 6))) [(.asg (.v 5) (.call 17 [(.bin .add (.var 1) (.con (.int 2))), (.meth 0 121 (.var 0) [])])), (.asg (.v 4) (.meth 0 119 (.var 0) [(.idx (.var 5) (.con (.int 0))), (.idx (.var 5) (.con (.int 1))), (.idx (.var 5) (.con (.int 3))), (.idx (.var 5) (.con (.int 4))), (.idx (.var 5) (.con (.int 5)))]))] [(.ite (.cmp .eq (.var 2) (.con (.int 6))) [(.asg (.v 4) (.meth 0 120 (.var 0) [(.call 10 [(.var 1), (.con (.int 9497)), (.con (.int 9))])]))] [(.asg (.v 4) (.ite (.cmp .eq (.var 2) (.con (.int 7))) (.meth 0 124 (.var 0) [(.call 16 [(.var 1)])]) (.meth 0 125 (.var 0) [])))])])])] 0 (some 6) (some 4) (.call 63 [(.var 6)]) [0, 1, 2, 3, 4, 5, 6]),
  (.ret (.tup [(.var 4), (.meth 0 121 (.var 0) []), (.meth 0 122 (.var 0) []), (.meth 0 123 (.var 0) []), (.meth 0 126 (.var 0) [])]))]⟩
/-- 157 law : 0=_law_script 1=_law_k 2=_law_rules_here 3=_law_some 4=_law_jars 5=_law_rows 6=_law_seeds 7=_law_one 8=_law_turn 9=_law_seed 10=_law_n 11=_law_lone -/
def d_law_k19 : FDef := ⟨1, 12, false, [
  (.forr (.v 1) (.rng1 (.con (.int 6))) [(.asg (.v 2) (.call 16 [(.bin .add (.call 9 [(.var 0), (.var 1)]) (.bin .mul (.con (.int 3)) (.var 1)))])), (.asg (.v 3) (.tup [(.var 2), (.call 16 [(.bin .add (.call 9 [(.var 0), (.con (.int 9))]) (.var 1))]), (.var 2)])), (.asg (.t [(.v 4), (.v 5), (.v 6)]) (.tup [(.comp false (.new 0 [(.var 7)]) (.v 7) (.seq (.var 3)) none), (.lst [(.newl []), (.newl []), (.newl [])]), (.lst [(.newl []), (.newl []), (.newl [])])])), (.forr (.v 8) (.rng1 (.con (.int 24))) [(.asg (.v 9) (.bin .add (.bin .add (.call 9 [(.var 0), (.bin .add (.con (.int 6)) (.bin .mod (.var 8) (.con (.int 4))))]) (.bin .mul (.con (.int 41)) (.var 8))) (.var 1))), (.asg (.v 10) (.call 10 [(.var 9), (.con (.int 9491)), (.con (.int 3))])), (.expr (.m .append (.idx (.var 6) (.var 10)) [(.var 9)])), (.expr (.m .append (.idx (.var 5) (.var 10)) [(.call 156 [(.idx (.var 4) (.var 10)), (.var 9)])]))]), (.forr (.v 10) (.seq (.tup [(.con (.int 2)), (.con (.int 0)), (.con (.int 1))])) [(.asg (.v 11) (.new 0 [(.idx (.var 3) (.var 10))])), (.ite (.not (.call 35 [(.b1 .tuple (.idx (.var 5) (.var 10))), (.b1 .tuple (.comp false (.call 156 [(.var 11), (.var 9)]) (.v 9) (.seq (.idx (.var 6) (.var 10))) none))])) [(.ret (.con (.bl false)))] [])])]),
  (.ret (.con (.bl true)))]⟩
/-- 158 _wall : 0=k -/
def d__wall : FDef := ⟨1, 1, false, [
  .stop]⟩
/-- 159 Jar.change : 0=self 1=rules -/
def d_Jar_change_2 : FDef := ⟨2, 2, true, [
  (.expr (.call 158 [(.con (.int 0))]))]⟩
/-- 160 Jar.undo : 0=self -/
def d_Jar_undo_2 : FDef := ⟨1, 1, true, [
  (.expr (.call 158 [(.con (.int 1))]))]⟩
/-- 161 Jar.log : 0=self -/
def d_Jar_log_2 : FDef := ⟨1, 1, true, [
  (.expr (.call 158 [(.con (.int 2))]))]⟩
/-- 162 _law_take : 0=_law_jar 1=_law_note 2=_law_host 3=e -/
def d__law_take_2 : FDef := ⟨3, 4, true, [
  (.tryy [(.ret (.meth 0 118 (.var 0) [(.var 1), (.var 2)]))] 0 (some 3) none (.call 63 [(.var 3)]) [0, 1, 2, 3, 4, 5, 6])]⟩
/-- 163 _law_is_first : 0=_law_rules_here 1=_law_note 2=_law_asks 3=_law_ask -/
def d__law_is_first : FDef := ⟨1, 4, false, [
  (.asg (.v 1) (.tup [(.con (.str [110])), (.con (.str [])), (.con (.str [97, 46, 98])), (.con (.bl false)), (.con (.str [47, 97])), (.con (.int 5)), (.con (.bl true)), (.con (.str [111, 119, 110]))])),
  (.asg (.v 2) (.lst [(.tup [(.con (.str [99, 46, 99])), (.con (.str [47, 98])), (.con (.int 9)), (.con (.bl false)), (.con (.str [113, 46, 113])), (.con (.bl false))]), (.tup [(.con (.str [97, 46, 98])), (.con (.str [47, 98])), (.con (.int 9)), (.con (.bl false)), (.con (.str [113, 46, 113])), (.con (.bl false))])])),
  (.asg (.v 2) (.bin .add (.var 2) (.lst [(.tup [(.con (.str [97, 46, 98])), (.con (.str [47, 97])), (.con (.int 9)), (.con (.bl false)), (.con (.str [113, 46, 113])), (.con (.bl false))])]))),
  (.asg (.v 2) (.bin .add (.var 2) (.lst [(.tup [(.con (.str [97, 46, 98])), (.con (.str [47, 97])), (.con (.int 3)), (.con (.bl false)), (.con (.str [113, 46, 113])), (.con (.bl false))]), (.tup [(.con (.str [97, 46, 98])), (.con (.str [47, 97])), (.con (.int 3)), (.con (.bl true)), (.con (.str [113, 46, 113])), (.con (.bl false))])]))),
  (.asg (.v 2) (.bin .add (.var 2) (.lst [(.tup [(.con (.str [97, 46, 98])), (.con (.str [47, 97])), (.con (.int 3)), (.con (.bl true)), (.con (.str [97, 46, 98])), (.con (.bl false))])]))),
  (.ite (.cmp .ne (.comp false (.call 44 [(.var 0), (.var 1), (.var 3)]) (.v 3) (.seq (.var 2)) none) (.comp false (.call 51 [(.var 0), (.var 1), (.var 3)]) (.v 3) (.seq (.var 2)) none)) [(.ret (.con (.bl false)))] []),
  (.ite (.cmp .ne (.comp false (.call 44 [(.var 0), (.var 1), (.var 3)]) (.v 3) (.seq (.sl (.var 2) none (some (.con (.int 3))))) none) (.lst [(.con (.str [104, 111, 115, 116])), (.con (.str [112, 97, 116, 104])), (.con (.str [101, 110, 100]))])) [(.ret (.con (.bl false)))] []),
  (.ret (.con (.bl true)))]⟩
/-- 164 law : 0=_law_script 1=_law_k 2=_law_rules_here 3=_law_jar 4=_law_n 5=_law_full 6=_law_fresh_one 7=_law_spot_now 8=_law_host 9=_law_other -/
def d_law_k20 : FDef := ⟨1, 10, false, [
  (.forr (.v 1) (.rng1 (.con (.int 8))) [(.asg (.v 2) (.call 16 [(.bin .add (.call 9 [(.var 0), (.var 1)]) (.bin .mul (.con (.int 3)) (.var 1)))])), (.asg (.v 3) (.new 0 [(.var 2)])), (.forr (.v 4) (.rng1 (.con (.int 6))) [(.expr (.meth 0 118 (.var 3) [(.tup [(.con (.str [110])), (.con (.str [])), (.con (.str [97, 46, 98])), (.con (.bl true)), (.bin .add (.con (.str [47])) (.idx (.con (.str [97, 98, 99, 100, 101, 102])) (.var 4))), (.con .non), (.con (.bl false)), (.con (.str [111, 119, 110]))]), (.con (.str [120, 46, 97, 46, 98]))]))]), (.expr (.meth 0 120 (.var 3) [(.con (.int 20))])), (.asg (.v 5) (.meth 0 121 (.var 3) [])), (.asg (.v 6) (.tup [(.con (.str [110])), (.con (.str [119])), (.con (.str [97, 46, 98])), (.con (.bl true)), (.con (.str [47, 122, 122])), (.con .non), (.con (.bl false)), (.con (.str [97, 110, 121]))])), (.asg (.v 7) (.call 10 [(.bin .add (.call 9 [(.var 0), (.con (.int 9))]) (.var 1)), (.con (.int 9479)), (.con (.int 6))])), (.ite (.cmp .ne (.comp false (.call 162 [(.var 3), (.var 6), (.var 8)]) (.v 8) (.seq (.tup [(.con (.str [98])), (.con (.str [99, 46, 98])), (.con (.str [97, 46, 98, 46, 99])), (.con (.str [98, 97, 46, 98]))])) none) (.bin .mul (.lst [(.con (.str [110, 111, 116, 32, 116, 104, 101, 105, 114, 115]))]) (.con (.int 4)))) [(.ret (.con (.bl false)))] []), (.ite (.cmp .ne (.call 162 [(.var 3), (.bin .add (.bin .add (.sl (.var 6) none (some (.con (.int 2)))) (.tup [(.con (.str [98]))])) (.sl (.var 6) (some (.con (.int 3))) none)), (.con (.str [98]))]) (.con (.str [110, 111, 116, 32, 116, 104, 101, 105, 114, 115]))) [(.ret (.con (.bl false)))] []), (.ite (.cmp .ne (.call 162 [(.var 3), (.var 6), (.con (.str [97, 46, 98]))]) (.con (.str [102, 117, 108, 108]))) [(.ret (.con (.bl false)))] []), (.ite (.or (.cmp .ne (.meth 0 121 (.var 3) []) (.var 5)) (.cmp .isn (.call 162 [(.var 3), (.bin .add (.bin .add (.sl (.var 6) none (some (.con (.int 5)))) (.tup [(.con (.int 3))])) (.sl (.var 6) (some (.con (.int 6))) none)), (.con (.str [97, 46, 98]))]) (.con .non))) [(.ret (.con (.bl false)))] []), (.ite (.cmp .ne (.meth 0 121 (.var 3) []) (.var 5)) [(.ret (.con (.bl false)))] []), (.asg (.v 9) (.bin .add (.bin .add (.tup [(.con (.str [110])), (.con (.str [119]))]) (.sl (.idx (.var 5) (.var 7)) (some (.con (.int 2))) (some (.con (.int 5))))) (.tup [(.con .non), (.con (.bl true)), (.con (.str [97, 110, 121]))]))), (.ite (.or (.cmp .isn (.call 162 [(.var 3), (.var 9), (.con (.str [97, 46, 98]))]) (.con .non)) (.cmp .ne (.meth 0 121 (.var 3) []) (.bin .add (.bin .add (.sl (.var 5) none (some (.var 7))) (.tup [(.var 9)])) (.sl (.var 5) (some (.bin .add (.var 7) (.con (.int 1)))) none)))) [(.ret (.con (.bl false)))] []), (.ite (.cmp .isn (.call 162 [(.var 3), (.bin .add (.bin .add (.sl (.var 9) none (some (.con (.int 5)))) (.tup [(.con (.int 19))])) (.sl (.var 9) (some (.con (.int 6))) none)), (.con (.str [120, 46, 97, 46, 98]))]) (.con .non)) [(.ret (.con (.bl false)))] []), (.ite (.cmp .ne (.meth 0 121 (.var 3) []) (.bin .add (.sl (.var 5) none (some (.var 7))) (.sl (.var 5) (some (.bin .add (.var 7) (.con (.int 1)))) none))) [(.ret (.con (.bl false)))] []), (.ite (.or (.cmp .isn (.call 162 [(.var 3), (.var 6), (.con (.str [97, 46, 98]))]) (.con .non)) (.cmp .ne (.idx (.meth 0 121 (.var 3) []) (.b1 .neg (.con (.int 1)))) (.var 6))) [(.ret (.con (.bl false)))] []), (.ite (.cmp .ne (.call 162 [(.var 3), (.var 9), (.con (.str [97, 46, 98]))]) (.con (.str [102, 117, 108, 108]))) [(.ret (.con (.bl false)))] []), (.ite (.not (.call 163 [(.var 2)])) [(.ret (.con (.bl false)))] [])]),
  (.ret (.con (.bl true)))]⟩
/-- 165 _law_filled : 0=_law_rules_here 1=_law_notes_here 2=_law_time 3=_law_jar 4=_law_note_here -/
def d__law_filled : FDef := ⟨3, 5, false, [
  (.asg (.v 3) (.new 0 [(.var 0)])),
  (.forr (.v 4) (.seq (.var 1)) [(.expr (.meth 0 118 (.var 3) [(.call 143 [(.call 136 [(.var 4)])]), (.idx (.var 4) (.con (.int 2)))]))]),
  (.expr (.meth 0 120 (.var 3) [(.var 2)])),
  (.ret (.var 3))]⟩
/-- 166 law : 0=_law_script 1=_law_k 2=_law_drawn 3=_law_notes_here 4=_law_note_here 5=_law_one 6=_law_other 7=_law_jar 8=_law_j 9=_law_ask_here 10=_law_log 11=_law_near 12=_law_some 13=_law_jars 14=_law_rules_here 15=_law_said 16=_law_each 17=_law_due -/
def d_law_k21 : FDef := ⟨1, 18, false, [
  (.forr (.v 1) (.rng1 (.con (.int 4))) [(.asg (.v 2) (.call 15 [(.bin .add (.call 9 [(.var 0), (.var 1)]) (.bin .mul (.con (.int 31)) (.var 1))), (.con (.int 2))])), (.asg (.v 3) (.b1 .tuple (.comp false (.bin .add (.bin .add (.sl (.var 4) none (some (.con (.int 3)))) (.tup [(.and (.idx (.var 4) (.con (.int 3))) (.cmp .in_ (.con (.str [46])) (.idx (.var 4) (.con (.int 2))))), (.idx (.var 4) (.con (.int 4))), (.con .non)])) (.sl (.var 4) (some (.con (.int 6))) none)) (.v 4) (.seq (.var 2)) none))), (.asg (.t [(.v 5), (.v 6)]) (.tup [(.call 16 [(.bin .add (.call 9 [(.var 0), (.con (.int 9))]) (.bin .mul (.con (.int 7)) (.var 1)))]), (.call 16 [(.bin .add (.call 9 [(.var 0), (.con (.int 8))]) (.bin .mul (.con (.int 5)) (.var 1)))])])), (.asg (.v 7) (.call 165 [(.var 5), (.var 3), (.con (.int 7))])), (.ite (.or (.cmp .ne (.meth 0 121 (.var 7) []) (.var 3)) (.cmp .ne (.meth 0 122 (.var 7) []) (.con (.int 7)))) [(.ret (.con (.bl false)))] []), (.forr (.v 8) (.rng1 (.con (.int 8))) [(.asg (.v 9) (.call 17 [(.bin .add (.bin .add (.call 9 [(.var 0), (.con (.int 7))]) (.bin .mul (.con (.int 17)) (.var 8))) (.var 1)), (.var 3)])), (.expr (.meth 0 119 (.var 7) [(.idx (.var 9) (.con (.int 0))), (.idx (.var 9) (.con (.int 1))), (.idx (.var 9) (.con (.int 3))), (.idx (.var 9) (.con (.int 4))), (.idx (.var 9) (.con (.int 5)))]))]), (.asg (.v 10) (.meth 0 126 (.var 7) [])), (.ite (.or (.not (.call 106 [(.var 5), (.var 3), (.var 10)])) (.or (.cmp .isn (.call 105 [(.var 5), (.var 3), (.var 10)]) (.con .non)) (.cmp .ne (.call 148 [(.call 139 [(.var 10)])]) (.var 10)))) [(.ret (.con (.bl false)))] []), (.asg (.v 11) (.call 98 [(.var 5), (.var 6), (.call 100 [(.var 5), (.var 6), (.var 3)])])), (.ite (.or (.not (.call 89 [(.var 11), (.var 6), (.var 3)])) (.cmp .ne (.call 106 [(.var 11), (.var 3), (.var 10)]) (.call 106 [(.var 6), (.var 3), (.var 10)]))) [(.ret (.con (.bl false)))] []), (.forr (.t [(.v 9), (.v 12)]) (.seq (.var 10)) [(.ite (.or (.cmp .ne (.call 57 [(.var 11), (.var 3), (.var 9)]) (.call 57 [(.var 6), (.var 3), (.var 9)])) (.cmp .ne (.call 57 [(.var 5), (.var 3), (.var 9)]) (.var 12))) [(.ret (.con (.bl false)))] [])]), (.asg (.v 9) (.call 88 [(.var 5), (.var 6), (.var 3)])), (.ite (.cmp .isn (.var 9) (.con .non)) [(.asg (.v 13) (.comp false (.call 165 [(.var 14), (.var 3), (.idx (.var 9) (.con (.int 2)))]) (.v 14) (.seq (.tup [(.var 5), (.var 6)])) none)), (.asg (.v 15) (.comp false (.meth 0 119 (.var 16) [(.idx (.var 9) (.con (.int 0))), (.idx (.var 9) (.con (.int 1))), (.idx (.var 9) (.con (.int 3))), (.idx (.var 9) (.con (.int 4))), (.idx (.var 9) (.con (.int 5)))]) (.v 16) (.seq (.var 13)) none)), (.asg (.v 17) (.lst [(.call 57 [(.var 5), (.var 3), (.var 9)]), (.call 57 [(.var 6), (.var 3), (.var 9)])])), (.ite (.or (.cmp .eq (.idx (.var 15) (.con (.int 0))) (.idx (.var 15) (.con (.int 1)))) (.cmp .ne (.var 15) (.var 17))) [(.ret (.con (.bl false)))] [])] [])]),
  (.ret (.con (.bl true)))]⟩
/-- 167 do : 0=jar 1=deed 2=found -/
def d_do : FDef := ⟨2, 3, true, [
  (.ite (.cmp .eq (.idx (.var 1) (.con (.int 0))) (.con (.str [97, 115, 107]))) [(.ret (.meth 0 119 (.var 0) [(.idx (.var 1) (.con (.int 1))), (.idx (.var 1) (.con (.int 2))), (.idx (.var 1) (.con (.int 3))), (.idx (.var 1) (.con (.int 4))), (.idx (.var 1) (.con (.int 5)))]))] []),
  (.ite (.cmp .eq (.idx (.var 1) (.con (.int 0))) (.con (.str [112, 97, 115, 115, 95, 111, 110]))) [(.expr (.meth 0 120 (.var 0) [(.idx (.var 1) (.con (.int 1)))])), (.ret (.con .non))] []),
  (.asg (.v 2) (.con (.str [107, 101, 112, 116]))),
  .stop,
  (.ret (.var 2))]⟩
/-- 168 run : 0=rules 1=deeds 2=jar 3=deed -/
def d_run : FDef := ⟨2, 4, false, [
  (.asg (.v 2) (.new 0 [(.var 0)])),
  (.ret (.b1 .tuple (.comp false (.call 167 [(.var 2), (.var 3)]) (.v 3) (.seq (.var 1)) none)))]⟩
/-- 169 parts_at : 0=one 1=other 2=deeds 3=mine 4=yours 5=k -/
def d_parts_at : FDef := ⟨3, 6, false, [
  (.asg (.t [(.v 3), (.v 4)]) (.tup [(.call 168 [(.var 0), (.var 2)]), (.call 168 [(.var 1), (.var 2)])])),
  (.forr (.v 5) (.rng1 (.b1 .len (.var 2))) [(.ite (.cmp .ne (.idx (.var 3) (.var 5)) (.idx (.var 4) (.var 5))) [(.ret (.var 5))] [])]),
  (.ret (.con .non))]⟩
/-- 170 _law_row_deed : 0=_law_cell_here 1=_law_notes_here 2=_law_way 3=_law_note_here 4=_law_ask_here -/
def d__law_row_deed : FDef := ⟨2, 5, false, [
  (.asg (.v 2) (.call 10 [(.var 0), (.con (.int 9587)), (.con (.int 8))])),
  (.ite (.cmp .lt (.var 2) (.con (.int 4))) [(.asg (.v 3) (.ite (.and (.cmp .ne (.var 1) (.tup [])) (.cmp .lt (.var 2) (.con (.int 3)))) (.idx (.var 1) (.call 10 [(.var 0), (.con (.int 9551)), (.b1 .len (.var 1))])) (.call 13 [(.bin .add (.var 0) (.con (.int 1)))]))), (.ret (.tup [(.con (.str [116, 97, 107, 101])), (.var 3), (.idx (.tup [(.idx (.var 3) (.con (.int 2))), (.idx (.var 3) (.con (.int 2))), (.bin .add (.con (.str [120, 46])) (.idx (.var 3) (.con (.int 2)))), (.con (.str [97]))]) (.call 10 [(.var 0), (.con (.int 9547)), (.con (.int 4))]))]))] []),
  (.ite (.cmp .lt (.var 2) (.con (.int 7))) [(.asg (.v 4) (.call 17 [(.bin .add (.var 0) (.con (.int 1))), (.var 1)])), (.ret (.bin .add (.bin .add (.tup [(.con (.str [97, 115, 107]))]) (.sl (.var 4) none (some (.con (.int 2))))) (.sl (.var 4) (some (.con (.int 3))) none)))] []),
  (.ret (.tup [(.con (.str [112, 97, 115, 115, 95, 111, 110])), (.idx (.tup [(.con (.int 0)), (.con (.int 1)), (.con (.int 5)), (.con (.int 40))]) (.call 10 [(.var 0), (.con (.int 9539)), (.con (.int 4))]))]))]⟩
/-- 171 _law_run : 0=_law_rules_here 1=_law_deeds 2=_law_state 3=_law_told 4=_law_deed 5=_law_time 6=_law_one 7=_law_new -/
def d__law_run : FDef := ⟨2, 8, false, [
  (.asg (.t [(.v 2), (.v 3)]) (.tup [(.tup [(.var 0), (.tup []), (.con (.int 0))]), (.newl [])])),
  (.forr (.v 4) (.seq (.var 1)) [(.ite (.cmp .eq (.idx (.var 4) (.con (.int 0))) (.con (.str [97, 115, 107]))) [(.expr (.m .append (.var 3) [(.call 62 [(.var 0), (.idx (.var 2) (.con (.int 1))), (.bin .add (.tup [(.idx (.var 4) (.con (.int 1))), (.idx (.var 4) (.con (.int 2))), (.idx (.var 2) (.con (.int 2)))]) (.sl (.var 4) (some (.con (.int 3))) none))])]))] [(.ite (.cmp .eq (.idx (.var 4) (.con (.int 0))) (.con (.str [112, 97, 115, 115, 95, 111, 110]))) [(.asg (.v 5) (.b2 .min (.con (.int 99)) (.bin .add (.idx (.var 2) (.con (.int 2))) (.idx (.var 4) (.con (.int 1)))))), (.asg (.v 2) (.tup [(.var 0), (.b1 .tuple (.comp false (.var 6) (.v 6) (.seq (.idx (.var 2) (.con (.int 1)))) (some (.not (.call 48 [(.var 0), (.var 6), (.var 5)]))))), (.var 5)])), (.expr (.m .append (.var 3) [(.con .non)]))] [(.asg (.v 7) (.call 129 [(.var 2), (.idx (.var 4) (.con (.int 1))), (.idx (.var 4) (.con (.int 2)))])), (.expr (.m .append (.var 3) [(.ite (.isi (.var 7) [0]) (.var 7) (.con (.str [107, 101, 112, 116])))])), (.asg (.v 2) (.ite (.isi (.var 7) [0]) (.var 2) (.var 7)))])])]),
  (.ret (.tup [(.b1 .tuple (.var 3)), (.idx (.var 2) (.con (.int 1)))]))]⟩
/-- 172 _law_by_jar : 0=_law_rules_here 1=_law_deeds 2=_law_jar 3=_law_told 4=_law_deed 5=e -/
def d__law_by_jar : FDef := ⟨2, 6, false, [
  (.asg (.t [(.v 2), (.v 3)]) (.tup [(.new 0 [(.var 0)]), (.newl [])])),
  .stop,
  (.ret (.b1 .tuple (.var 3)))]⟩
/-- 173 law : 0=_law_script 1=_law_k 2=_law_cell_here 3=_law_notes_here 4=_law_deeds 5=_law_n 6=_law_one 7=_law_other 8=_law_mine 9=_law_yours 10=_law_others 11=_law_cut -/
def d_law_k22 : FDef := ⟨1, 12, false, [
  (.forr (.v 1) (.rng1 (.con (.int 10))) [(.asg (.v 2) (.bin .add (.call 9 [(.var 0), (.bin .mod (.var 1) (.con (.int 9)))]) (.bin .mul (.con (.int 31)) (.var 1)))), (.asg (.v 3) (.call 15 [(.var 2), (.con (.int 4))])), (.asg (.v 4) (.b1 .tuple (.comp false (.call 170 [(.bin .add (.var 2) (.bin .mul (.con (.int 37)) (.var 5))), (.var 3)]) (.v 5) (.rng1 (.call 10 [(.var 2), (.con (.int 9533)), (.con (.int 10))])) none))), (.asg (.t [(.v 6), (.v 7)]) (.tup [(.call 16 [(.bin .add (.var 2) (.con (.int 3)))]), (.call 16 [(.bin .add (.var 2) (.con (.int 7)))])])), (.asg (.t [(.v 8), (.v 9)]) (.tup [(.idx (.call 171 [(.var 6), (.var 4)]) (.con (.int 0))), (.idx (.call 171 [(.var 7), (.var 4)]) (.con (.int 0)))])), (.ite (.or (.cmp .ne (.call 168 [(.var 6), (.var 4)]) (.var 8)) (.or (.cmp .ne (.call 168 [(.var 7), (.var 4)]) (.var 9)) (.cmp .ne (.call 172 [(.var 6), (.var 4)]) (.var 8)))) [(.ret (.con (.bl false)))] []), (.asg (.v 10) (.comp false (.var 5) (.v 5) (.rng1 (.b1 .len (.var 4))) (some (.cmp .ne (.idx (.var 8) (.var 5)) (.idx (.var 9) (.var 5)))))), (.ite (.or (.cmp .ne (.call 169 [(.var 6), (.var 7), (.var 4)]) (.idx (.bin .add (.var 10) (.lst [(.con .non)])) (.con (.int 0)))) (.cmp .ne (.call 169 [(.var 7), (.var 6), (.var 4)]) (.idx (.bin .add (.var 10) (.lst [(.con .non)])) (.con (.int 0))))) [(.ret (.con (.bl false)))] []), (.ite (.or (.cmp .isn (.call 169 [(.var 6), (.var 6), (.var 4)]) (.con .non)) (.cmp .ne (.call 168 [(.var 6), (.tup [])]) (.tup []))) [(.ret (.con (.bl false)))] []), (.asg (.v 11) (.call 10 [(.var 2), (.con (.int 9521)), (.bin .add (.b1 .len (.var 4)) (.con (.int 1)))])), (.ite (.cmp .ne (.call 168 [(.var 6), (.sl (.var 4) none (some (.var 11)))]) (.sl (.var 8) none (some (.var 11)))) [(.ret (.con (.bl false)))] [])]),
  (.ret (.con (.bl true)))]⟩
/-- 174 chosen : 0=first 1=last 2=many 3=found 4=number 5=rest -/
def d_chosen : FDef := ⟨3, 6, false, [
  (.ite (.cmp .eq (.var 2) (.con (.int 0))) [(.ret (.lst [(.tup [])]))] []),
  (.asg (.v 3) (.newl [])),
  (.forr (.v 4) (.rng2 (.var 0) (.var 1)) [(.expr (.m .extend (.var 3) [(.comp false (.bin .add (.tup [(.var 4)]) (.var 5)) (.v 5) (.seq (.call 174 [(.bin .add (.var 4) (.con (.int 1))), (.var 1), (.bin .sub (.var 2) (.con (.int 1)))])) none)]))]),
  (.ret (.var 3))]⟩
/-- 175 shortened : 0=one 1=other 2=deeds 3=many 4=numbers 5=k -/
def d_shortened : FDef := ⟨3, 6, false, [
  (.ite (.cmp .is (.call 169 [(.var 0), (.var 1), (.var 2)]) (.con .non)) [(.ret (.con .non))] []),
  (.forr (.v 3) (.rng2 (.con (.int 1)) (.bin .add (.b1 .len (.var 2)) (.con (.int 1)))) [(.forr (.v 4) (.seq (.call 174 [(.con (.int 0)), (.b1 .len (.var 2)), (.var 3)])) [(.ite (.cmp .isn (.call 169 [(.var 0), (.var 1), (.b1 .tuple (.comp false (.idx (.var 2) (.var 5)) (.v 5) (.seq (.var 4)) none))]) (.con .non)) [(.ret (.var 4))] [])])]),
  (.ret (.con .non))]⟩
/-- 176 all_parted : 0=deeds 1=some 2=found 3=rules 4=group -/
def d_all_parted : FDef := ⟨2, 5, false, [
  (.asg (.v 2) (.newd [] [])),
  (.forr (.v 3) (.seq (.var 1)) [(.expr (.m .append (.m .setdefault (.var 2) [(.call 168 [(.var 3), (.var 0)]), (.lst [])]) [(.var 3)]))]),
  (.ret (.b1 .tuple (.b1 .sorted (.comp false (.b1 .tuple (.var 4)) (.v 4) (.seq (.m .values (.var 2) [])) none))))]⟩
/-- 177 _law_choices : 0=_law_many 1=_law_found 2=_law_n 3=_law_some -/
def d__law_choices : FDef := ⟨1, 4, false, [
  (.asg (.v 1) (.lst [(.tup [])])),
  (.forr (.v 2) (.rng1 (.var 0)) [(.asg (.v 1) (.bin .add (.var 1) (.comp false (.bin .add (.var 3) (.tup [(.var 2)])) (.v 3) (.seq (.var 1)) none)))]),
  (.ret (.sortk (.var 1) 3 (.tup [(.b1 .len (.var 3)), (.var 3)])))]⟩
/-- 178 _law_do_part : 0=_law_one 1=_law_other 2=_law_deeds -/
def d__law_do_part : FDef := ⟨3, 3, false, [
  (.ret (.cmp .ne (.idx (.call 171 [(.var 0), (.var 2)]) (.con (.int 0))) (.idx (.call 171 [(.var 1), (.var 2)]) (.con (.int 0)))))]⟩
/-- 179 law : 0=_law_script 1=_law_k 2=_law_cell_here 3=_law_notes_here 4=_law_deeds 5=_law_n 6=_law_one 7=_law_other 8=_law_good 9=_law_does_part 10=_law_some 11=_law_told 12=_law_few 13=_law_gathered 14=_law_group 15=_law_rules_here 16=_law_due 17=_law_more -/
def d_law_k23 : FDef := ⟨1, 18, false, [
  .stop,
  (.ret (.con (.bl true)))]⟩
/-- 180 run : 0=rules 1=deeds 2=jar 3=deed -/
def d_run_2 : FDef := ⟨2, 4, false, [
  (.asg (.v 2) (.new 0 [(.var 0)])),
  .stop]⟩
/-- 181 Sides.__init__ : 0=self 1=one 2=other -/
def d_Sides___init__ : FDef := ⟨3, 3, true, [
  (.sfld (.var 0) 5 (.tup [(.var 1), (.var 2)])),
  (.sfld (.var 0) 6 (.tup [])),
  (.sfld (.var 0) 7 (.tup []))]⟩
/-- 182 Sides.do : 0=self 1=deed 2=rules -/
def d_Sides_do : FDef := ⟨2, 3, true, [
  (.sfld (.var 0) 6 (.bin .add (.fld (.var 0) 6) (.tup [(.var 1)]))),
  (.sfld (.var 0) 7 (.tup [])),
  (.ret (.b1 .tuple (.comp false (.idx (.call 180 [(.var 2), (.fld (.var 0) 6)]) (.b1 .neg (.con (.int 1)))) (.v 2) (.seq (.fld (.var 0) 5)) none)))]⟩
/-- 183 Sides.deeds : 0=self -/
def d_Sides_deeds : FDef := ⟨1, 1, true, [
  (.ret (.fld (.var 0) 6))]⟩
/-- 184 Sides.unlike : 0=self 1=mine 2=yours 3=rules 4=k -/
def d_Sides_unlike : FDef := ⟨1, 5, true, [
  (.asg (.t [(.v 1), (.v 2)]) (.comp false (.call 180 [(.var 3), (.fld (.var 0) 6)]) (.v 3) (.seq (.fld (.var 0) 5)) none)),
  (.ret (.b1 .tuple (.comp false (.var 4) (.v 4) (.rng1 (.b1 .len (.fld (.var 0) 6))) (some (.cmp .ne (.idx (.var 1) (.var 4)) (.idx (.var 2) (.var 4)))))))]⟩
/-- 185 Sides.notes : 0=self 1=found 2=rules 3=jar 4=deed -/
def d_Sides_notes : FDef := ⟨1, 5, true, [
  (.asg (.v 1) (.newl [])),
  .stop,
  (.ret (.b1 .tuple (.var 1)))]⟩
/-- 186 Sides.back : 0=self -/
def d_Sides_back : FDef := ⟨1, 1, true, [
  (.ite (.not (.fld (.var 0) 6)) [(.raise 5)] []),
  (.sfld (.var 0) 7 (.bin .add (.fld (.var 0) 7) (.sl (.fld (.var 0) 6) (some (.b1 .neg (.con (.int 1)))) none))),
  (.sfld (.var 0) 6 (.sl (.fld (.var 0) 6) none (some (.b1 .neg (.con (.int 1))))))]⟩
/-- 187 Sides.forth : 0=self -/
def d_Sides_forth : FDef := ⟨1, 1, true, [
  (.ite (.not (.fld (.var 0) 7)) [(.raise 5)] []),
  (.sfld (.var 0) 6 (.bin .add (.fld (.var 0) 6) (.sl (.fld (.var 0) 7) (some (.b1 .neg (.con (.int 1)))) none))),
  (.sfld (.var 0) 7 (.sl (.fld (.var 0) 7) none (some (.b1 .neg (.con (.int 1))))))]⟩
/-- 188 Sides.steps : 0=self -/
def d_Sides_steps : FDef := ⟨1, 1, true, [
  (.ret (.tup [(.b1 .len (.fld (.var 0) 6)), (.b1 .len (.fld (.var 0) 7))]))]⟩
/-- 189 Sides.twin : 0=self -/
def d_Sides_twin : FDef := ⟨1, 1, true, [
  (.expr (.call 158 [(.con (.int 3))]))]⟩
/-- 190 _law_sided : 0=_law_sides 1=_law_deed 2=_law_told 3=e -/
def d__law_sided : FDef := ⟨2, 4, true, [
  (.asg (.v 2) (.con .non)),
  (.tryy [(.ite (.cmp .eq (.var 1) (.tup [(.con (.str [98, 97, 99, 107]))])) [(.asg (.v 2) (.meth 1 186 (.var 0) []))] [(.ite (.cmp .eq (.var 1) (.tup [(.con (.str [102, 111, 114, 116, 104]))])) [(.asg (.v 2) (.meth 1 187 (.var 0) []))] [(.asg (.v 2) (.meth 1 182 (.var 0) [(.var 1)]))])])] 0 (some 3) none (.ite (.and (.isx (.var 3) 5) (.isx (.var 3) 99)) (.con (.str [110, 111, 32, 100, 101, 101, 100])) (.con (.str [119, 114, 111, 110, 103]))) [0, 2, 4, 5]),
  (.ret (.var 2))]⟩
/-- 191 _law_side_deed : 0=_law_cell_here 1=_law_notes_here 2=_law_way -/
def d__law_side_deed : FDef := ⟨2, 3, false, [
  (.asg (.v 2) (.call 10 [(.var 0), (.con (.int 9479)), (.con (.int 10))])),
  (.ite (.cmp .lt (.var 2) (.con (.int 2))) [(.ret (.tup [(.con (.str [98, 97, 99, 107]))]))] []),
  (.ret (.ite (.cmp .eq (.var 2) (.con (.int 2))) (.tup [(.con (.str [102, 111, 114, 116, 104]))]) (.call 170 [(.var 0), (.var 1)])))]⟩
/-- 192 _law_is_as : 0=_law_sides 1=_law_one 2=_law_other 3=_law_past 4=_law_later 5=_law_mine 6=_law_yours 7=_law_n -/
def d__law_is_as : FDef := ⟨5, 8, true, [
  (.asg (.t [(.v 5), (.v 6)]) (.tup [(.call 171 [(.var 1), (.var 3)]), (.call 171 [(.var 2), (.var 3)])])),
  .stop,
  (.ret (.cmp .eq (.meth 1 184 (.var 0) []) (.b1 .tuple (.comp false (.var 7) (.v 7) (.rng1 (.b1 .len (.var 3))) (some (.cmp .ne (.idx (.idx (.var 5) (.con (.int 0))) (.var 7)) (.idx (.idx (.var 6) (.con (.int 0))) (.var 7))))))))]⟩
/-- 193 law : 0=_law_script 1=_law_k 2=_law_cell_here 3=_law_notes_here 4=_law_one 5=_law_other 6=_law_sides 7=_law_past 8=_law_later 9=_law_turn 10=_law_deed 11=_law_told 12=_law_due 13=_law_source 14=_law_goal -/
def d_law_k24 : FDef := ⟨1, 15, false, [
  (.forr (.v 1) (.rng1 (.con (.int 6))) [(.asg (.v 2) (.bin .add (.call 9 [(.var 0), (.var 1)]) (.bin .mul (.con (.int 43)) (.var 1)))), (.asg (.t [(.v 3), (.v 4), (.v 5)]) (.tup [(.call 15 [(.var 2), (.con (.int 4))]), (.call 16 [(.bin .add (.var 2) (.con (.int 3)))]), (.call 16 [(.bin .add (.var 2) (.con (.int 7)))])])), (.asg (.t [(.v 6), (.v 7), (.v 8)]) (.tup [(.new 1 [(.var 4), (.var 5)]), (.newl []), (.lst [])])), (.forr (.v 9) (.rng1 (.con (.int 20))) [(.asg (.v 10) (.call 191 [(.bin .add (.bin .add (.call 9 [(.var 0), (.bin .mod (.var 9) (.con (.int 9)))]) (.bin .mul (.con (.int 47)) (.var 9))) (.var 1)), (.var 3)])), (.asg (.t [(.v 11), (.v 12)]) (.tup [(.call 190 [(.var 6), (.var 10)]), (.con .non)])), (.ite (.cmp .in_ (.idx (.var 10) (.con (.int 0))) (.tup [(.con (.str [98, 97, 99, 107])), (.con (.str [102, 111, 114, 116, 104]))])) [(.asg (.t [(.v 13), (.v 14)]) (.ite (.cmp .eq (.idx (.var 10) (.con (.int 0))) (.con (.str [98, 97, 99, 107]))) (.tup [(.var 7), (.var 8)]) (.tup [(.var 8), (.var 7)]))), (.asg (.v 12) (.ite (.cmp .eq (.var 13) (.lst [])) (.con (.str [110, 111, 32, 100, 101, 101, 100])) (.con .non))), (.ite (.cmp .ne (.var 13) (.lst [])) [(.expr (.m .append (.var 14) [(.m .pop (.var 13) [])]))] [])] [(.expr (.m .append (.var 7) [(.var 10)])), (.asg (.t [(.v 8), (.v 12)]) (.tup [(.lst []), (.tup [(.idx (.idx (.call 171 [(.var 4), (.var 7)]) (.con (.int 0))) (.b1 .neg (.con (.int 1)))), (.idx (.idx (.call 171 [(.var 5), (.var 7)]) (.con (.int 0))) (.b1 .neg (.con (.int 1))))])]))]), (.ite (.or (.cmp .ne (.var 11) (.var 12)) (.not (.call 192 [(.var 6), (.var 4), (.var 5), (.var 7), (.var 8)]))) [(.ret (.con (.bl false)))] [])])]),
  (.ret (.con (.bl true)))]⟩
/-- 194 parts_at : 0=one 1=other 2=deeds 3=mine 4=yours 5=k -/
def d_parts_at_2 : FDef := ⟨3, 6, false, [
  (.asg (.t [(.v 3), (.v 4)]) (.tup [(.call 180 [(.var 0), (.var 2)]), (.call 180 [(.var 1), (.var 2)])])),
  (.forr (.v 5) (.rng1 (.b1 .len (.var 2))) [(.ite (.cmp .ne (.idx (.var 3) (.var 5)) (.idx (.var 4) (.var 5))) [(.ret (.var 5))] [])]),
  (.ret (.con .non))]⟩
/-- 195 Sides.twin : 0=self 1=found -/
def d_Sides_twin_2 : FDef := ⟨1, 2, true, [
  (.asg (.v 1) (.new 1 [(.idx (.fld (.var 0) 5) (.con (.int 0))), (.idx (.fld (.var 0) 5) (.con (.int 1)))])),
  (.sfld (.var 1) 6 (.fld (.var 0) 6)),
  (.sfld (.var 1) 7 (.fld (.var 0) 7)),
  (.ret (.var 1))]⟩
/-- 196 _law_seen : 0=_law_sides -/
def d__law_seen : FDef := ⟨1, 1, true, [
  .stop]⟩
/-- 197 _law_led : 0=_law_sides 1=_law_cell_here 2=_law_notes_here 3=_law_many 4=_law_told 5=_law_turn -/
def d__law_led : FDef := ⟨4, 6, true, [
  (.asg (.v 4) (.newl [])),
  (.forr (.v 5) (.rng1 (.var 3)) [(.expr (.m .append (.var 4) [(.tup [(.call 190 [(.var 0), (.call 191 [(.bin .add (.var 1) (.bin .mul (.con (.int 53)) (.var 5))), (.var 2)])]), (.call 196 [(.var 0)])])]))]),
  (.ret (.var 4))]⟩
def PR : Prog := ⟨[d_are_letters, d_is_host, d_is_path, d_is_time, d_is_note, d_mark, d_are_notes, d_is_ask, d_are_rules, d__law_cell, d__law_mix, d__law_host, d__law_path, d__law_note, d__law_mark, d__law_notes, d__law_rules, d__law_ask, d__law_odd, d__law_letters, d__law_is_host, d__law_is_path, d__law_is_time, d__law_is_note, d__law_are_notes, d__law_is_ask, d__law_are_rules, d__law_is_told, d_law_k01, d_is_below, d_site, d_steps, d_all_rules, d_may_put, d_by_site, d__law_same, d__law_site, d__law_steps, d_law_k02, d_host_fits, d_path_fits, d_has_ended, d_safe_fits, d_side_fits, d_why_not, d_goes, d__law_host_fits, d__law_path_fits, d__law_ended, d__law_safe_fits, d__law_side_fits, d__law_why, d_law_k03, d__law_is_narrow, d__law_once, d_law_k04, d_place, d_sent, d_reasons, d_head_of, d_head, d_named, d__law_sent, d__law_word, d__law_said, d_law_k05, d__law_is_part, d__law_is_ordered, d_law_k06, d_put, d_without, d_dropped, d_fresh, d__law_said_2, d__law_put, d_law_k07, d__law_are_fresh, d__law_are_put, d_law_k08, d_word, d_words, d_ask_text, d_hosts_for, d_paths_for, d_times_for, d_ways_for, d_near_asks, d_do_part, d_parting, d_are_one, d__law_text, d__law_near, d_law_k09, d_groups, d__law_changed, d__law_are_groups, d_law_k10, d_unlike, d_changed, d_parts_of, d_fewest, d_idle, d__law_are_one, d_law_k11, d_law_k12, d_first_wrong, d_explains, d_learned, d_splits, d_settled, d__law_said_3, d__law_are_settled, d__law_are_splits, d_law_k13, d_settling, d_law_k14, d_Jar___init__, d_Jar_become, d_Jar_take, d_Jar_ask, d_Jar_pass_on, d_Jar_notes, d_Jar_time, d_Jar_rules, d_Jar_change, d_Jar_undo, d_Jar_log, d__law_told, d__law_deed, d__law_take, d__law_after, d_law_k15, d__law_do, d__law_now, d__law_are_ticks, d_law_k16, d_note_text, d_rules_text, d_sent_text, d_log_text, d_must, d_truth_in, d_time_in, d_read_note, d_read_ask, d_read_rules, d_pair_in, d_line_in, d_read_log, d__law_read, d_law_k17, d__law_said_4, d__law_is_pair, d__law_is_right, d__law_are_refused, d_law_k18, d__law_lives, d_law_k19, d__wall, d_Jar_change_2, d_Jar_undo_2, d_Jar_log_2, d__law_take_2, d__law_is_first, d_law_k20, d__law_filled, d_law_k21, d_do, d_run, d_parts_at, d__law_row_deed, d__law_run, d__law_by_jar, d_law_k22, d_chosen, d_shortened, d_all_parted, d__law_choices, d__law_do_part, d_law_k23, d_run_2, d_Sides___init__, d_Sides_do, d_Sides_deeds, d_Sides_unlike, d_Sides_notes, d_Sides_back, d_Sides_forth, d_Sides_steps, d_Sides_twin, d__law_sided, d__law_side_deed, d__law_is_as, d_law_k24, d_parts_at_2, d_Sides_twin_2, d__law_seen, d__law_led], [(.str [97, 98, 99, 100, 101, 102, 103, 104, 105, 106, 107, 108, 109, 110, 111, 112, 113, 114, 115, 116, 117, 118, 119, 120, 121, 122]), (.int 99), (.int 6), (.int 4), (.int 4), (.tup [(.str [111, 119, 110]), (.str [110, 101, 97, 114]), (.str [97, 110, 121])]), (.tup [(.tup [(.str [115, 105, 103, 110, 115]), (.str [115, 116, 101, 112, 115])]), (.tup [(.str [97, 108, 119, 97, 121, 115]), (.str [110, 101, 118, 101, 114]), (.str [116, 111, 108, 100])]), (.tup [(.str [117, 110, 116, 105, 108]), (.str [119, 105, 116, 104])])]), (.tup [(.tup [(.str [102, 114, 101, 101]), (.str [109, 117, 115, 116])]), (.tup [(.str [107, 101, 101, 112]), (.str [108, 111, 111, 115, 101]), (.str [110, 111, 110, 101])]), (.tup [(.str [108, 111, 110, 103]), (.str [110, 97, 109, 101, 115]), (.str [111, 108, 100])])]), (.str [113]), (.str [113, 46, 113]), (.str [48, 49, 50, 51, 52, 53, 54, 55, 56, 57])], [⟨116⟩, ⟨181⟩], fun c d => match c with | 0 => [0, 99].contains d | 1 => [0, 1, 99].contains d | 2 => [0, 2, 99].contains d | 3 => [0, 3, 99].contains d | 4 => [0, 4, 99].contains d | 5 => [0, 5, 99].contains d | 6 => [0, 6, 99].contains d | _ => false⟩
end NR

/-! M2: what the laws' own helpers answer. -/
namespace NR
theorem SL_big {n : Nat} (h : n ≤ 10000) : n ≤ SL := by unfold SL; omega
def mixI (c p m : Int) : Int := (c * 48271 % p) * (c * 48271 % p + 7) % p % m
theorem mixI_nn {c p m : Int} (h : 0 < m) : 0 ≤ mixI c p m := Int.emod_nonneg _ (by omega)
theorem mixI_lt {c p m : Int} (h : 0 < m) : mixI c p m < m := Int.emod_lt_of_pos _ h
/-! ### labels -/
abbrev Lab := List Nat
def LabOk (l : Lab) : Prop := l ≠ [] ∧ l.length ≤ 20 ∧ ∀ c ∈ l, 97 ≤ c ∧ c ≤ 122
def LabsOk (ls : List Lab) : Prop := ls.length ≤ 20 ∧ ∀ l ∈ ls, LabOk l
def HostOk (ls : List Lab) : Prop := ls ≠ [] ∧ LabsOk ls
abbrev dot (ls : List Lab) : List Nat := TL.joinL [46] ls
abbrev sla (ls : List Lab) : List Nat := 47 :: TL.joinL [47] ls
theorem totalLen_le {ls : List Lab} {k : Nat} (h : ∀ l ∈ ls, l.length ≤ k) : totalLen ls ≤ k * ls.length := by
  induction ls with
  | nil => simp [totalLen]
  | cons l ls ih =>
    have h1 := h l List.mem_cons_self
    have h2 := ih fun m hm => h m (List.mem_cons_of_mem _ hm)
    unfold totalLen at *
    simp only [List.map_cons, List.sum_cons, List.length_cons, Nat.mul_add, Nat.mul_one]
    omega
theorem joinL_len (S : List Nat) : ∀ ls : List Lab, (TL.joinL S ls).length ≤ totalLen ls + ls.length * S.length
  | [] => by simp [TL.joinL]
  | [l] => by simp [TL.joinL, totalLen]
  | l :: m :: r => by
    have h := joinL_len S (m :: r)
    unfold TL.joinL
    unfold totalLen at *
    simp only [List.length_append, List.map_cons, List.sum_cons, List.length_cons, Nat.add_mul, Nat.one_mul] at *
    omega
theorem labs_total {ls : List Lab} (h : LabsOk ls) (k : Nat) (hk : k ≤ 10) : totalLen ls + ls.length * k ≤ 600 := by
  have h1 := totalLen_le fun l hl => (h.2 l hl).2.1
  have h2 := h.1
  have h3 : ls.length * k ≤ 20 * 10 := Nat.mul_le_mul h2 hk
  omega
theorem dot_len {ls : List Lab} (h : LabsOk ls) : (dot ls).length ≤ 600 := Nat.le_trans (joinL_len _ _) (labs_total h 1 (by omega))
theorem sla_len {ls : List Lab} (h : LabsOk ls) : (sla ls).length ≤ 601 := by
  show (TL.joinL [47] ls).length + 1 ≤ 601
  have := Nat.le_trans (joinL_len [47] ls) (labs_total h 1 (by omega))
  omega
theorem lab_no {l : Lab} (h : LabOk l) {c : Nat} (hc : c < 97) : c ∉ l := fun hm => by have := (h.2.2 c hm).1; omega
theorem spl_dot {ls : List Lab} (h : HostOk ls) : TL.spl [46] 0 [] (dot ls) = ls := TL.spl_join h.1 fun p hp => lab_no (h.2.2 p hp) (by omega)
theorem spl_sla {ls : List Lab} (hn : ls ≠ []) (h : LabsOk ls) : TL.spl [47] 0 [] (TL.joinL [47] ls) = ls := TL.spl_join hn fun p hp => lab_no (h.2 p hp) (by omega)
theorem LabsOk.sub {ls ms : List Lab} (h : LabsOk ls) (hl : ms.length ≤ ls.length) (hm : ∀ l ∈ ms, l ∈ ls) : LabsOk ms := ⟨Nat.le_trans hl h.1, fun l hl => h.2 l (hm l hl)⟩
/-- of single letters -/
def okL (l : Lab) : Bool := !l.isEmpty && decide (l.length ≤ 20) && l.all fun c => decide (97 ≤ c ∧ c ≤ 122)
theorem okL_of {l : Lab} (h : okL l = true) : LabOk l := by
  unfold okL at h
  simp only [Bool.and_eq_true, Bool.not_eq_true', decide_eq_true_eq, List.all_eq_true] at h
  exact ⟨fun e => by rw [e] at h; simp at h, h.1.2, h.2⟩
theorem getD_mem {α : Type} {xs : List α} {i : Nat} {d : α} (h : i < xs.length) : xs.getD i d ∈ xs := by
  rw [List.getD_eq_getElem?_getD, List.getElem?_eq_getElem h]
  exact List.getElem_mem h
section
variable {P : Prog} {n : Nat} {μ : Sto}
theorem s_mix (h : P.funs[10]? = some d__law_mix) {c p m : Int} (hp : 0 < p) (hp2 : p ≤ 10000) (hm : 0 < m) : callF P (n + 1) 10 [.int c, .int p, .int m] μ = .ok (.int (mixI c p m)) μ := by
  have b0 : 0 ≤ c * 48271 % p := Int.emod_nonneg _ (by omega)
  have b1 : c * 48271 % p < p := Int.emod_lt_of_pos _ hp
  have s1 : small64 48271 = true := by decide
  have s2 : small64 (c * 48271 % p) = true := by unfold small64; simp; omega
  refine callF_pure h rfl rfl rfl (μ' := []) ?_ rfl
  simp [d__law_mix, startE, hp, hm, s1, s2]
  rfl
/-- a drawn place in a written tuple -/
theorem pick {xs : List PV} {c p m : Int} (h : xs.length = m) (hm : 0 < m) : opIdx (.tup xs) (.int (mixI c p m)) μ = .ok (xs.getD (mixI c p m).toNat .non) μ := by
  have h0 := mixI_nn (c := c) (p := p) hm
  have h1 := mixI_lt (c := c) (p := p) hm
  refine i_tup h0 ?_
  have : (mixI c p m).toNat < xs.length := by omega
  rw [List.getD_eq_getElem?_getD, List.getElem?_eq_getElem this]
  rfl
theorem pickS {ss : List (List Nat)} {c p m : Int} (h : ss.length = m) (hm : 0 < m) : opIdx (.tup (ss.map PV.str)) (.int (mixI c p m)) μ = .ok (.str (ss.getD (mixI c p m).toNat [])) μ := by
  have h0 := mixI_nn (c := c) (p := p) hm
  have h1 := mixI_lt (c := c) (p := p) hm
  refine i_tup h0 ?_
  have : (mixI c p m).toNat < ss.length := by omega
  rw [List.getElem?_map, List.getD_eq_getElem?_getD, List.getElem?_eq_getElem this]
  rfl
theorem small_mul (k : Nat) (h : k < 2 ^ 63) (c : Int) : (small64 c || small64 (k : Int)) = true := by
  have : small64 (k : Int) = true := by unfold small64; simp; omega
  rw [this, Bool.or_true]
def labsH : List Lab := [[97], [98], [97, 98], [120], [99]]
def hostL (c : Int) : List Lab := (List.range (1 + mixI c 9967 3).toNat).map fun (k : Nat) => labsH.getD (mixI (c + 7 * k) 9973 5).toNat []
theorem hostL_ok (c : Int) : HostOk (hostL c) := by
  have h0 := mixI_nn (c := c) (p := 9967) (m := 3) (by omega)
  have h1 := mixI_lt (c := c) (p := 9967) (m := 3) (by omega)
  refine ⟨fun e => ?_, by unfold hostL; simp; omega, fun l hl => ?_⟩
  · have : (hostL c).length = 0 := by rw [e]; rfl
    unfold hostL at this
    simp at this
    omega
  · unfold hostL at hl
    obtain ⟨k, _, rfl⟩ := List.mem_map.mp hl
    have h2 := mixI_nn (c := c + 7 * k) (p := 9973) (m := 5) (by omega)
    have h3 := mixI_lt (c := c + 7 * k) (p := 9973) (m := 5) (by omega)
    have hm : labsH.getD (mixI (c + 7 * k) 9973 5).toNat [] ∈ labsH := getD_mem (by show _ < 5; omega)
    have : labsH.all okL = true := by decide
    rw [List.all_eq_true] at this
    exact okL_of (this _ hm)
theorem s_host (h10 : P.funs[10]? = some d__law_mix) (h : P.funs[11]? = some d__law_host) {c : Int} : callF P (n + 2) 11 [.int c] μ = .ok (.str (dot (hostL c))) μ := by
  have h0 := mixI_nn (c := c) (p := 9967) (m := 3) (by omega)
  have h1 := mixI_lt (c := c) (p := 9967) (m := 3) (by omega)
  refine callF_pure h rfl rfl rfl (μ' := []) ?_ rfl
  simp only [d__law_host, startE, y_cons, y_asg]
  rw [comp_map (xs := (List.range (1 + mixI c 9967 3).toNat).map fun (k : Nat) => PV.int k) (g := fun x => match x with | .int k => .str (labsH.getD (mixI (c + 7 * k) 9973 5).toNat []) | _ => .non) ?_ ?_ ?_]
  · have e : (List.map (fun x => match x with | .int k => PV.str (labsH.getD (mixI (c + 7 * k) 9973 5).toNat []) | _ => .non) ((List.range (1 + mixI c 9967 3).toNat).map fun (k : Nat) => PV.int k)) = (hostL c).map PV.str := by
      unfold hostL
      rw [List.map_map, List.map_map]
      rfl
    rw [e]
    have := labs_total (hostL_ok c).2 1 (by omega)
    simp [m_joinL' (z := [46]) (ts := hostL c) (SL_big (by simp; omega))]
  · simp [s_mix h10, srcRng1]
    unfold small62
    simp
    omega
  · rw [List.length_map, List.length_range]; exact SL_big (by omega)
  · intro x hx
    obtain ⟨k, hk, rfl⟩ := List.mem_map.mp hx
    have hk : k < (1 + mixI c 9967 3).toNat := by simpa using hk
    refine ⟨_, by rw [pat_v], ?_⟩
    simp [patSlots, wipeE, small_mul k (by omega), s_mix h10]
    exact pickS (ss := labsH) rfl (by omega)
def labsP : List Lab := [[97], [98], [97, 98], [98, 97]]
def pathL (c : Int) : List Lab := (List.range (mixI c 9941 4).toNat).map fun (k : Nat) => labsP.getD (mixI (c + 11 * k) 9949 4).toNat []
theorem pathL_ok (c : Int) : LabsOk (pathL c) := by
  have h0 := mixI_nn (c := c) (p := 9941) (m := 4) (by omega)
  have h1 := mixI_lt (c := c) (p := 9941) (m := 4) (by omega)
  refine ⟨by unfold pathL; simp; omega, fun l hl => ?_⟩
  unfold pathL at hl
  obtain ⟨k, _, rfl⟩ := List.mem_map.mp hl
  have h2 := mixI_nn (c := c + 11 * k) (p := 9949) (m := 4) (by omega)
  have h3 := mixI_lt (c := c + 11 * k) (p := 9949) (m := 4) (by omega)
  have hm : labsP.getD (mixI (c + 11 * k) 9949 4).toNat [] ∈ labsP := getD_mem (by show _ < 4; omega)
  have : labsP.all okL = true := by decide
  rw [List.all_eq_true] at this
  exact okL_of (this _ hm)
theorem s_path (h10 : P.funs[10]? = some d__law_mix) (h : P.funs[12]? = some d__law_path) {c : Int} : callF P (n + 2) 12 [.int c] μ = .ok (.str (sla (pathL c))) μ := by
  have h0 := mixI_nn (c := c) (p := 9941) (m := 4) (by omega)
  have h1 := mixI_lt (c := c) (p := 9941) (m := 4) (by omega)
  refine callF_pure h rfl rfl rfl (μ' := []) ?_ rfl
  simp only [d__law_path, startE, y_cons, y_asg]
  rw [comp_map (xs := (List.range (mixI c 9941 4).toNat).map fun (k : Nat) => PV.int k) (g := fun x => match x with | .int k => .str (labsP.getD (mixI (c + 11 * k) 9949 4).toNat []) | _ => .non) ?_ ?_ ?_]
  · have e : (List.map (fun x => match x with | .int k => PV.str (labsP.getD (mixI (c + 11 * k) 9949 4).toNat []) | _ => .non) ((List.range (mixI c 9941 4).toNat).map fun (k : Nat) => PV.int k)) = (pathL c).map PV.str := by
      unfold pathL
      rw [List.map_map, List.map_map]
      rfl
    rw [e]
    have := labs_total (pathL_ok c) 1 (by omega)
    have h2 := sla_len (pathL_ok c)
    have h3 : (TL.joinL [47] (pathL c)).length + 1 ≤ SL := SL_big (by simp at h2; omega)
    have h4 : 1 + (TL.joinL [47] (pathL c)).length ≤ SL := by omega
    simp [m_joinL' (z := [47]) (ts := pathL c) (SL_big (by simp; omega)), h4]
  · simp [s_mix h10, srcRng1]
    unfold small62
    simp
    omega
  · rw [List.length_map, List.length_range]; exact SL_big (by omega)
  · intro x hx
    obtain ⟨k, hk, rfl⟩ := List.mem_map.mp hx
    have hk : k < (mixI c 9941 4).toNat := by simpa using hk
    refine ⟨_, by rw [pat_v], ?_⟩
    simp [patSlots, wipeE, small_mul k (by omega), s_mix h10]
    exact pickS (ss := labsP) rfl (by omega)
/-! ### notes, rules, asks -/
def optI : Option Int → PV
  | none => .non
  | some i => .int i
structure Note where
  name : List Nat
  worth : List Nat
  host : List Lab
  wide : Bool
  path : List Lab
  fin : Option Int
  safe : Bool
  side : List Nat
def Note.pv (x : Note) : PV := .tup [.str x.name, .str x.worth, .str (dot x.host), .bl x.wide, .str (sla x.path), optI x.fin, .bl x.safe, .str x.side]
abbrev wOwn : List Nat := [111, 119, 110]
abbrev wNear : List Nat := [110, 101, 97, 114]
abbrev wAny : List Nat := [97, 110, 121]
theorem Note.pure (x : Note) : pure? x.pv = true := by
  obtain ⟨n, w, h, b, p, f, s, d⟩ := x
  cases f <;> rfl
theorem Note.okArg (x : Note) : okArg x.pv = true := x.pure
structure Note.Ok (x : Note) : Prop where
  name : x.name.length ≤ 10
  worth : x.worth.length ≤ 10
  host : HostOk x.host
  path : LabsOk x.path
  fin : ∀ i, x.fin = some i → 0 ≤ i ∧ i ≤ 99
  side : x.side ∈ [wOwn, wNear, wAny]
  hs : x.host.length ≤ 10
  ps : x.path.length ≤ 10
  pl : ∀ l ∈ x.path, l.length ≤ 10
theorem pickI {ss : List Int} {c p m : Int} (h : ss.length = m) (hm : 0 < m) : opIdx (.tup (ss.map PV.int)) (.int (mixI c p m)) μ = .ok (.int (ss.getD (mixI c p m).toNat 0)) μ := by
  have h0 := mixI_nn (c := c) (p := p) hm
  have h1 := mixI_lt (c := c) (p := p) hm
  refine i_tup h0 ?_
  have : (mixI c p m).toNat < ss.length := by omega
  rw [List.getElem?_map, List.getD_eq_getElem?_getD, List.getElem?_eq_getElem this]
  rfl
theorem pick_mem {α : Type} {ss : List α} {c p m : Int} {d : α} (h : ss.length = m) (hm : 0 < m) : ss.getD (mixI c p m).toNat d ∈ ss := by
  have h0 := mixI_nn (c := c) (p := p) hm
  have h1 := mixI_lt (c := c) (p := p) hm
  exact getD_mem (by omega)
def noteD (c : Int) : Note where
  name := [[110], [107], [109]].getD (mixI c 9923 3).toNat []
  worth := [[], [97], [98]].getD (mixI c 9907 3).toNat []
  host := hostL (c + 1)
  wide := mixI c 9901 2 == 0
  path := pathL (c + 2)
  fin := if mixI c 9931 3 = 0 then none else some ([0, 1, 5, 9, 10, 98, 99].getD (mixI c 9929 7).toNat 0)
  safe := mixI c 9887 3 == 0
  side := [wOwn, wNear, wAny].getD (mixI c 9883 3).toNat []
theorem hostL_len (c : Int) : (hostL c).length ≤ 3 := by
  have h0 := mixI_nn (c := c) (p := 9967) (m := 3) (by omega)
  have h1 := mixI_lt (c := c) (p := 9967) (m := 3) (by omega)
  unfold hostL; simp; omega
theorem pathL_len (c : Int) : (pathL c).length ≤ 3 := by
  have h0 := mixI_nn (c := c) (p := 9941) (m := 4) (by omega)
  have h1 := mixI_lt (c := c) (p := 9941) (m := 4) (by omega)
  unfold pathL; simp; omega
theorem pathL_lab (c : Int) : ∀ l ∈ pathL c, l.length ≤ 2 := fun l hl => by
  unfold pathL at hl
  obtain ⟨k, _, rfl⟩ := List.mem_map.mp hl
  have hm : labsP.getD (mixI (c + 11 * k) 9949 4).toNat [] ∈ labsP := pick_mem rfl (by omega)
  have : (labsP.all fun l => decide (l.length ≤ 2)) = true := by decide
  rw [List.all_eq_true] at this
  simpa using this _ hm
theorem pick_len {ss : List (List Nat)} {c p m : Int} (hl : ss.length = m) (hm : 0 < m) (h : (ss.all fun s => decide (s.length ≤ 10)) = true) : (ss.getD (mixI c p m).toNat []).length ≤ 10 := by
  rw [List.all_eq_true] at h
  simpa using h _ (pick_mem hl hm)
theorem noteD_ok (c : Int) : (noteD c).Ok := by
  refine ⟨pick_len rfl (by omega) (by decide), pick_len rfl (by omega) (by decide), hostL_ok _, pathL_ok _, fun i h => ?_, pick_mem rfl (by omega), Nat.le_trans (hostL_len _) (by omega), Nat.le_trans (pathL_len _) (by omega), fun l hl => Nat.le_trans (pathL_lab _ l hl) (by omega)⟩
  unfold noteD at h
  simp only at h
  split at h
  · cases h
  · cases h
    have : [0, 1, 5, 9, 10, 98, 99].getD (mixI c 9929 7).toNat 0 ∈ ([0, 1, 5, 9, 10, 98, 99] : List Int) := pick_mem rfl (by omega)
    revert this
    generalize [0, 1, 5, 9, 10, 98, 99].getD (mixI c 9929 7).toNat (0 : Int) = z
    intro this
    simp at this
    omega
theorem s_note (h10 : P.funs[10]? = some d__law_mix) (h11 : P.funs[11]? = some d__law_host) (h12 : P.funs[12]? = some d__law_path) (h : P.funs[13]? = some d__law_note) {c : Int} : callF P (n + 3) 13 [.int c] μ = .ok (noteD c).pv μ := by
  refine callF_pure h rfl rfl rfl (μ' := []) ?_ (Note.pure _)
  have e1 : opIdx (.tup [.str [110], .str [107], .str [109]]) (.int (mixI c 9923 3)) [] = .ok (.str ([[110], [107], [109]].getD (mixI c 9923 3).toNat [])) [] := pickS (ss := [[110], [107], [109]]) rfl (by omega)
  have e2 : opIdx (.tup [.str [], .str [97], .str [98]]) (.int (mixI c 9907 3)) [] = .ok (.str ([[], [97], [98]].getD (mixI c 9907 3).toNat [])) [] := pickS (ss := [[], [97], [98]]) rfl (by omega)
  have e3 : opIdx (.tup [.str wOwn, .str wNear, .str wAny]) (.int (mixI c 9883 3)) [] = .ok (.str ([wOwn, wNear, wAny].getD (mixI c 9883 3).toNat [])) [] := pickS (ss := [wOwn, wNear, wAny]) rfl (by omega)
  have e4 : opIdx (.tup [.int 0, .int 1, .int 5, .int 9, .int 10, .int 98, .int 99]) (.int (mixI c 9929 7)) [] = .ok (.int ([0, 1, 5, 9, 10, 98, 99].getD (mixI c 9929 7).toNat 0)) [] := pickI (ss := [0, 1, 5, 9, 10, 98, 99]) rfl (by omega)
  by_cases hz : mixI c 9931 3 = 0
  · simp [d__law_note, startE, s_mix h10, s_host h10 h11, s_path h10 h12, e1, e2, e3, hz, SL, noteD, Note.pv, optI]
  · have hz' : (mixI c 9931 3 == 0) = false := by simpa using hz
    simp [d__law_note, startE, s_mix h10, s_host h10 h11, s_path h10 h12, e1, e2, e3, e4, hz, hz', SL, noteD, Note.pv, optI]
end
end NR

/-! M3: drawn rules and asks; sameness. -/
namespace NR
section
variable {P : Prog} {n : Nat} {μ : Sto}
structure Rul where
  w0 : List Nat
  w1 : List Nat
  w2 : List Nat
  w3 : List Nat
  w4 : List Nat
  w5 : List Nat
def Rul.pv (r : Rul) : PV := .tup [.str r.w0, .str r.w1, .str r.w2, .str r.w3, .str r.w4, .str r.w5]
abbrev wSigns : List Nat := [115, 105, 103, 110, 115]
abbrev wSteps : List Nat := [115, 116, 101, 112, 115]
abbrev wAlways : List Nat := [97, 108, 119, 97, 121, 115]
abbrev wNever : List Nat := [110, 101, 118, 101, 114]
abbrev wTold : List Nat := [116, 111, 108, 100]
abbrev wUntil : List Nat := [117, 110, 116, 105, 108]
abbrev wWith : List Nat := [119, 105, 116, 104]
abbrev wFree : List Nat := [102, 114, 101, 101]
abbrev wMust : List Nat := [109, 117, 115, 116]
abbrev wKeep : List Nat := [107, 101, 101, 112]
abbrev wLoose : List Nat := [108, 111, 111, 115, 101]
abbrev wNone : List Nat := [110, 111, 110, 101]
abbrev wLong : List Nat := [108, 111, 110, 103]
abbrev wNames : List Nat := [110, 97, 109, 101, 115]
abbrev wOld : List Nat := [111, 108, 100]
structure Rul.Ok (r : Rul) : Prop where
  w0 : r.w0 ∈ [wSigns, wSteps]
  w1 : r.w1 ∈ [wAlways, wNever, wTold]
  w2 : r.w2 ∈ [wUntil, wWith]
  w3 : r.w3 ∈ [wFree, wMust]
  w4 : r.w4 ∈ [wKeep, wLoose, wNone]
  w5 : r.w5 ∈ [wLong, wNames, wOld]
def rulD (c : Int) : Rul where
  w0 := [wSigns, wSteps].getD (mixI c 9851 2).toNat []
  w1 := [wAlways, wNever, wTold].getD (mixI (c + 13) 9851 3).toNat []
  w2 := [wUntil, wWith].getD (mixI (c + 26) 9851 2).toNat []
  w3 := [wFree, wMust].getD (mixI (c + 39) 9851 2).toNat []
  w4 := [wKeep, wLoose, wNone].getD (mixI (c + 52) 9851 3).toNat []
  w5 := [wLong, wNames, wOld].getD (mixI c 9839 3).toNat []
theorem rulD_ok (c : Int) : (rulD c).Ok := ⟨pick_mem rfl (by omega), pick_mem rfl (by omega), pick_mem rfl (by omega), pick_mem rfl (by omega), pick_mem rfl (by omega), pick_mem rfl (by omega)⟩
theorem s_rules (h10 : P.funs[10]? = some d__law_mix) (h : P.funs[16]? = some d__law_rules) {c : Int} : callF P (n + 2) 16 [.int c] μ = .ok (rulD c).pv μ := by
  refine callF_pure h rfl rfl rfl (μ' := []) ?_ rfl
  have e0 : opIdx (.tup [.str wSigns, .str wSteps]) (.int (mixI c 9851 2)) [] = .ok (.str ([wSigns, wSteps].getD (mixI c 9851 2).toNat [])) [] := pickS (ss := [wSigns, wSteps]) rfl (by omega)
  have e1 : opIdx (.tup [.str wAlways, .str wNever, .str wTold]) (.int (mixI (c + 13) 9851 3)) [] = .ok (.str ([wAlways, wNever, wTold].getD (mixI (c + 13) 9851 3).toNat [])) [] := pickS (ss := [wAlways, wNever, wTold]) rfl (by omega)
  have e2 : opIdx (.tup [.str wUntil, .str wWith]) (.int (mixI (c + 26) 9851 2)) [] = .ok (.str ([wUntil, wWith].getD (mixI (c + 26) 9851 2).toNat [])) [] := pickS (ss := [wUntil, wWith]) rfl (by omega)
  have e3 : opIdx (.tup [.str wFree, .str wMust]) (.int (mixI (c + 39) 9851 2)) [] = .ok (.str ([wFree, wMust].getD (mixI (c + 39) 9851 2).toNat [])) [] := pickS (ss := [wFree, wMust]) rfl (by omega)
  have e4 : opIdx (.tup [.str wKeep, .str wLoose, .str wNone]) (.int (mixI (c + 52) 9851 3)) [] = .ok (.str ([wKeep, wLoose, wNone].getD (mixI (c + 52) 9851 3).toNat [])) [] := pickS (ss := [wKeep, wLoose, wNone]) rfl (by omega)
  have e5 : opIdx (.tup [.str wLong, .str wNames, .str wOld]) (.int (mixI c 9839 3)) [] = .ok (.str ([wLong, wNames, wOld].getD (mixI c 9839 3).toNat [])) [] := pickS (ss := [wLong, wNames, wOld]) rfl (by omega)
  have sm : small64 13 = true := by decide
  simp [d__law_rules, startE, s_mix h10, e0, e1, e2, e3, e4, e5, SL, Rul.pv, rulD, ev_comp, compLoop, turnOf, Src.at, Src.most, enumL, srcEnum, patSlots, patsSlots, wipeE, List.range, List.range.loop, sm, mkLst, calm]
/-! ### asks -/
abbrev lQ : Lab := [113]
def siteL (ls : List Lab) : List Lab := ls.drop (ls.length - 2)
def addQ (ss : List Lab) : List Lab := match ss.getLast? with
  | none => [lQ]
  | some l => ss.dropLast ++ [l ++ lQ]
theorem dot_cons (l : Lab) {ls : List Lab} (h : ls ≠ []) : dot (l :: ls) = l ++ 46 :: dot ls := by
  cases ls with
  | nil => exact absurd rfl h
  | cons a r => rfl
theorem slaj_cons (l : Lab) {ls : List Lab} (h : ls ≠ []) : TL.joinL [47] (l :: ls) = l ++ 47 :: TL.joinL [47] ls := by
  cases ls with
  | nil => exact absurd rfl h
  | cons a r => rfl
theorem slaj_snoc (l : Lab) : ∀ {ls : List Lab}, ls ≠ [] → TL.joinL [47] (ls ++ [l]) = TL.joinL [47] ls ++ 47 :: l
  | [], h => absurd rfl h
  | [a], _ => rfl
  | a :: b :: r, _ => by
    rw [List.cons_append, slaj_cons a (by simp), slaj_snoc l (ls := b :: r) (by simp), slaj_cons a (by simp)]
    simp
theorem slaj_ext (l : Lab) : ∀ {ls : List Lab} {a : Lab}, TL.joinL [47] (ls ++ [a ++ l]) = TL.joinL [47] (ls ++ [a]) ++ l
  | [], a => rfl
  | b :: r, a => by
    rw [List.cons_append, List.cons_append, slaj_cons b (by simp), slaj_cons b (by simp), slaj_ext l]
    simp
theorem sla_addQ (ss : List Lab) : sla (addQ ss) = sla ss ++ lQ := by
  unfold addQ
  cases e : ss.getLast? with
  | none =>
    rw [List.getLast?_eq_none_iff] at e
    subst e; rfl
  | some l =>
    have : ss = ss.dropLast ++ [l] := by
      rw [List.getLast?_eq_some_iff] at e
      obtain ⟨ys, rfl⟩ := e
      simp
    show 47 :: TL.joinL [47] (ss.dropLast ++ [l ++ lQ]) = 47 :: TL.joinL [47] ss ++ lQ
    rw [slaj_ext]
    conv => rhs; rw [this]
    rfl
theorem sla_snocQ (ss : List Lab) (l : Lab) : sla (ss ++ [l]) = (if ss = [] then [] else sla ss) ++ 47 :: l := by
  cases ss with
  | nil => rfl
  | cons a r =>
    show 47 :: TL.joinL [47] ((a :: r) ++ [l]) = _
    rw [slaj_snoc l (by simp)]
    rfl
theorem sla_root {ss : List Lab} (h : LabsOk ss) : sla ss = [47] ↔ ss = [] := by
  constructor
  · intro e
    cases ss with
    | nil => rfl
    | cons a r =>
      have ha := (h.2 a List.mem_cons_self).1
      have e : TL.joinL [47] (a :: r) = [] := by simpa using e
      cases r with
      | nil => exact absurd e ha
      | cons b r =>
        rw [slaj_cons a (by simp)] at e
        simp at e
  · rintro rfl; rfl
structure Ask where
  host : List Lab
  path : List Lab
  time : Int
  safe : Bool
  origin : Option (List Lab)
  home : Bool
def optS : Option (List Lab) → PV
  | none => .non
  | some ls => .str (dot ls)
def Ask.pv (x : Ask) : PV := .tup [.str (dot x.host), .str (sla x.path), .int x.time, .bl x.safe, optS x.origin, .bl x.home]
theorem Ask.pure (x : Ask) : pure? x.pv = true := by
  obtain ⟨a, b, c, d, e, f⟩ := x
  cases e <;> rfl
structure Ask.Ok (x : Ask) : Prop where
  host : HostOk x.host
  path : LabsOk x.path
  origin : ∀ ls, x.origin = some ls → HostOk ls
  time : 0 ≤ x.time ∧ x.time ≤ 99
def askHost (c : Int) (notes : List Note) : List Lab :=
  match notes with
  | [] => hostL (c + 3)
  | z :: r => if 0 < mixI c 9829 5 then
      let nt := (z :: r).getD (mixI c 9817 (z :: r).length).toNat z
      [nt.host, nt.host, lQ :: nt.host, hostL (c + 3)].getD (mixI c 9803 4).toNat []
    else hostL (c + 3)
def askPath (c : Int) (notes : List Note) : List Lab :=
  match notes with
  | [] => pathL (c + 4)
  | z :: r => if 0 < mixI c 9829 5 then
      let ot := (z :: r).getD (mixI c 9811 (z :: r).length).toNat z
      [ot.path, ot.path ++ [lQ], addQ ot.path, pathL (c + 4)].getD (mixI c 9791 4).toNat []
    else pathL (c + 4)
def clamp (i : Int) : Int := (fun j => if j > 0 then j else 0) (if i < 99 then i else 99)
def askTime (c : Int) (notes : List Note) : Int :=
  match notes with
  | [] => mixI c 9833 100
  | z :: r => if 0 < mixI c 9829 5 then
      match ((z :: r).getD (mixI c 9817 (z :: r).length).toNat z).fin with
      | none => mixI c 9833 100
      | some f => clamp (f + mixI c 9787 3 - 1)
    else mixI c 9833 100
def askD (c : Int) (notes : List Note) : Ask where
  host := askHost c notes
  path := askPath c notes
  time := askTime c notes
  safe := mixI c 9769 2 == 0
  origin := [none, some [lQ, lQ], some (askHost c notes), some (lQ :: siteL (askHost c notes)), some [[97]]].getD (mixI c 9781 5).toNat none
  home := mixI c 9767 2 == 0
theorem lQ_ok : LabOk lQ := okL_of rfl
theorem HostOk.q {ls : List Lab} (h : HostOk ls) (hl : ls.length ≤ 19) : HostOk (lQ :: ls) := ⟨by simp, by simp; omega, fun l hm => (List.mem_cons.mp hm).elim (fun e => e ▸ lQ_ok) (h.2.2 l)⟩
theorem siteL_ok {ls : List Lab} (h : HostOk ls) : HostOk (siteL ls) ∧ (siteL ls).length ≤ 2 := by
  unfold siteL
  have hl : 0 < ls.length := List.length_pos_iff.mpr h.1
  refine ⟨⟨fun e => ?_, LabsOk.sub h.2 (by simp) fun l hm => List.mem_of_mem_drop hm⟩, by simp; omega⟩
  have := congrArg List.length e
  simp at this
  omega
theorem addQ_ok {ss : List Lab} (h : LabsOk ss) (h1 : ss.length ≤ 10) (h2 : ∀ l ∈ ss, l.length ≤ 10) : LabsOk (addQ ss) := by
  unfold addQ
  cases e : ss.getLast? with
  | none => exact ⟨by simp, fun l hl => by rw [List.mem_singleton.mp hl]; exact lQ_ok⟩
  | some l =>
    have hl : l ∈ ss := List.mem_of_getLast? e
    refine ⟨by simp; omega, fun m hm => ?_⟩
    rcases List.mem_append.mp hm with hm | hm
    · exact h.2 m (List.dropLast_subset ss hm)
    · rw [List.mem_singleton.mp hm]
      obtain ⟨a1, a2, a3⟩ := h.2 l hl
      refine ⟨by simp, by have := h2 l hl; simp; omega, fun c hc => ?_⟩
      rcases List.mem_append.mp hc with hc | hc
      · exact a3 c hc
      · rw [List.mem_singleton.mp hc]; omega
theorem all_getD {α : Type} {xs : List α} {Q : α → Prop} (h : ∀ x ∈ xs, Q x) {c p m : Int} {d : α} (hl : xs.length = m) (hm : 0 < m) : Q (xs.getD (mixI c p m).toNat d) := h _ (pick_mem hl hm)
theorem all4 {α : Type} {a b c d : α} {Q : α → Prop} (h1 : Q a) (h2 : Q b) (h3 : Q c) (h4 : Q d) : ∀ x ∈ [a, b, c, d], Q x := fun x hx => by
  simp only [List.mem_cons, List.not_mem_nil, or_false] at hx
  rcases hx with rfl | rfl | rfl | rfl <;> assumption
theorem askHost_ok (c : Int) {notes : List Note} (hn : ∀ x ∈ notes, x.Ok) : HostOk (askHost c notes) ∧ (askHost c notes).length ≤ 11 := by
  unfold askHost
  have hb : HostOk (hostL (c + 3)) ∧ (hostL (c + 3)).length ≤ 11 := ⟨hostL_ok _, Nat.le_trans (hostL_len _) (by omega)⟩
  split
  · exact hb
  · split
    · have hx := hn _ (pick_mem (ss := ‹Note› :: ‹List Note›) (c := c) (p := 9817) (d := ‹Note›) rfl (by rw [List.length_cons]; omega))
      exact all_getD (Q := fun ls => HostOk ls ∧ ls.length ≤ 11) (all4 ⟨hx.host, Nat.le_trans hx.hs (by omega)⟩ ⟨hx.host, Nat.le_trans hx.hs (by omega)⟩ ⟨hx.host.q (Nat.le_trans hx.hs (by omega)), by rw [List.length_cons]; have := hx.hs; omega⟩ hb) rfl (by omega)
    · exact hb
theorem askPath_ok (c : Int) {notes : List Note} (hn : ∀ x ∈ notes, x.Ok) : LabsOk (askPath c notes) := by
  unfold askPath
  split
  · exact pathL_ok _
  · split
    · have hx := hn _ (pick_mem (ss := ‹Note› :: ‹List Note›) (c := c) (p := 9811) (d := ‹Note›) rfl (by rw [List.length_cons]; omega))
      refine all_getD (Q := LabsOk) (all4 hx.path ⟨by rw [List.length_append]; have := hx.ps; show _ + 1 ≤ 20; omega, fun l hl => ?_⟩ (addQ_ok hx.path hx.ps hx.pl) (pathL_ok _)) rfl (by omega)
      rcases List.mem_append.mp hl with hl | hl
      · exact hx.path.2 l hl
      · rw [List.mem_singleton.mp hl]; exact lQ_ok
    · exact pathL_ok _
theorem clamp_ok (i : Int) : 0 ≤ clamp i ∧ clamp i ≤ 99 := by
  unfold clamp
  dsimp only
  split <;> split <;> omega
theorem askD_ok (c : Int) {notes : List Note} (hn : ∀ x ∈ notes, x.Ok) : (askD c notes).Ok := by
  have ha := askHost_ok c hn
  refine ⟨ha.1, askPath_ok c hn, fun ls e => ?_, ?_⟩
  · have : [none, some [lQ, lQ], some (askHost c notes), some (lQ :: siteL (askHost c notes)), some [[97]]].getD (mixI c 9781 5).toNat none ∈ [none, some [lQ, lQ], some (askHost c notes), some (lQ :: siteL (askHost c notes)), some [[97]]] := pick_mem rfl (by omega)
    have e : [none, some [lQ, lQ], some (askHost c notes), some (lQ :: siteL (askHost c notes)), some [[97]]].getD (mixI c 9781 5).toNat none = some ls := e
    rw [e] at this
    simp only [List.mem_cons, List.not_mem_nil, or_false, Option.some.injEq, reduceCtorEq, false_or] at this
    rcases this with rfl | rfl | rfl | rfl
    · exact ⟨by simp, by simp, fun l hl => by simp at hl; subst hl; exact lQ_ok⟩
    · exact ha.1
    · obtain ⟨h1, h2⟩ := siteL_ok ha.1
      exact h1.q (by omega)
    · exact ⟨by simp, by simp, fun l hl => by simp at hl; subst hl; exact okL_of rfl⟩
  · have hb : 0 ≤ mixI c 9833 100 ∧ mixI c 9833 100 ≤ 99 := by
      have h0 := mixI_nn (c := c) (p := 9833) (m := 100) (by omega)
      have h1 := mixI_lt (c := c) (p := 9833) (m := 100) (by omega)
      omega
    show 0 ≤ askTime c notes ∧ askTime c notes ≤ 99
    unfold askTime
    split
    · exact hb
    · split
      · split
        · exact hb
        · exact clamp_ok _
      · exact hb
@[simp] theorem note_i0 (x : Note) : opIdx x.pv (.int 0) μ = .ok (.str x.name) μ := rfl
@[simp] theorem note_i1 (x : Note) : opIdx x.pv (.int 1) μ = .ok (.str x.worth) μ := rfl
@[simp] theorem note_i2 (x : Note) : opIdx x.pv (.int 2) μ = .ok (.str (dot x.host)) μ := rfl
@[simp] theorem note_i3 (x : Note) : opIdx x.pv (.int 3) μ = .ok (.bl x.wide) μ := rfl
@[simp] theorem note_i4 (x : Note) : opIdx x.pv (.int 4) μ = .ok (.str (sla x.path)) μ := rfl
@[simp] theorem note_i5 (x : Note) : opIdx x.pv (.int 5) μ = .ok (optI x.fin) μ := rfl
@[simp] theorem note_i6 (x : Note) : opIdx x.pv (.int 6) μ = .ok (.bl x.safe) μ := rfl
@[simp] theorem note_i7 (x : Note) : opIdx x.pv (.int 7) μ = .ok (.str x.side) μ := rfl
@[simp] theorem rul_i0 (x : Rul) : opIdx x.pv (.int 0) μ = .ok (.str x.w0) μ := rfl
@[simp] theorem rul_i1 (x : Rul) : opIdx x.pv (.int 1) μ = .ok (.str x.w1) μ := rfl
@[simp] theorem rul_i2 (x : Rul) : opIdx x.pv (.int 2) μ = .ok (.str x.w2) μ := rfl
@[simp] theorem rul_i3 (x : Rul) : opIdx x.pv (.int 3) μ = .ok (.str x.w3) μ := rfl
@[simp] theorem rul_i4 (x : Rul) : opIdx x.pv (.int 4) μ = .ok (.str x.w4) μ := rfl
@[simp] theorem rul_i5 (x : Rul) : opIdx x.pv (.int 5) μ = .ok (.str x.w5) μ := rfl
@[simp] theorem ask_i0 (x : Ask) : opIdx x.pv (.int 0) μ = .ok (.str (dot x.host)) μ := rfl
@[simp] theorem ask_i1 (x : Ask) : opIdx x.pv (.int 1) μ = .ok (.str (sla x.path)) μ := rfl
@[simp] theorem ask_i2 (x : Ask) : opIdx x.pv (.int 2) μ = .ok (.int x.time) μ := rfl
@[simp] theorem ask_i3 (x : Ask) : opIdx x.pv (.int 3) μ = .ok (.bl x.safe) μ := rfl
@[simp] theorem ask_i4 (x : Ask) : opIdx x.pv (.int 4) μ = .ok (optS x.origin) μ := rfl
@[simp] theorem ask_i5 (x : Ask) : opIdx x.pv (.int 5) μ = .ok (.bl x.home) μ := rfl
end
end NR

/-! M4: drawn asks, told by the evaluator; sameness. -/
namespace NR
section
variable {P : Prog} {n : Nat} {μ : Sto}
@[simp] theorem sl_lst' (xs : List PV) (lo hi : Option Int) : opSl (.lst xs) lo hi μ = .ok (.lst (cutL xs lo hi)) μ := rfl
@[simp] theorem sl_tup' (xs : List PV) (lo hi : Option Int) : opSl (.tup xs) lo hi μ = .ok (.tup (cutL xs lo hi)) μ := rfl
@[simp] theorem sl_str' (xs : List Nat) (lo hi : Option Int) : opSl (.str xs) lo hi μ = if xs.length ≤ SL then .ok (.str (cutL xs lo hi)) μ else .bad := rfl
theorem cut_last2 {α : Type} (xs : List α) : cutL xs (some (-2)) none = xs.drop (xs.length - 2) := by
  unfold cutL
  have e : HT.sIx xs.length 0 (some (-2)) = xs.length - 2 := by
    show (if (-2 : Int) < 0 then ((-2 : Int) + (xs.length : Int)).toNat else min (-2 : Int).toNat xs.length) = _
    rw [if_pos (by decide)]
    omega
  simp only [e]
  show List.take (xs.length - (xs.length - 2)) (List.drop (xs.length - 2) xs) = _
  rw [List.take_of_length_le (by simp)]
theorem cut_to {α : Type} (xs : List α) (k : Nat) : cutL xs none (some (k : Int)) = xs.take k := by
  unfold cutL
  show List.take (HT.sIx xs.length xs.length (some (k : Int)) - 0) (xs.drop 0) = _
  rw [HT.sIx_nat, Nat.sub_zero, List.drop_zero]
  by_cases h : k ≤ xs.length
  · rw [Nat.min_eq_left h]
  · rw [Nat.min_eq_right (by omega), List.take_of_length_le (Nat.le_refl _), List.take_of_length_le (by omega)]
theorem cut_from {α : Type} (xs : List α) (k : Nat) : cutL xs (some (k : Int)) none = xs.drop k := by
  unfold cutL
  show List.take (xs.length - HT.sIx xs.length 0 (some (k : Int))) (xs.drop (HT.sIx xs.length 0 (some (k : Int)))) = _
  rw [HT.sIx_nat]
  by_cases h : k ≤ xs.length
  · rw [Nat.min_eq_left h, List.take_of_length_le (by simp)]
  · rw [Nat.min_eq_right (by omega), Nat.sub_self, List.take_zero, List.drop_eq_nil_of_le (by omega)]
theorem pickM {α : Type} {f : α → PV} {xs : List α} {d : α} {c p m : Int} (h : xs.length = m) (hm : 0 < m) : opIdx (.tup (xs.map f)) (.int (mixI c p m)) μ = .ok (f (xs.getD (mixI c p m).toNat d)) μ := by
  have h0 := mixI_nn (c := c) (p := p) hm
  have h1 := mixI_lt (c := c) (p := p) hm
  refine i_tup h0 ?_
  have : (mixI c p m).toNat < xs.length := by omega
  rw [List.getElem?_map, List.getD_eq_getElem?_getD, List.getElem?_eq_getElem this]
  rfl
theorem pures_map {α : Type} {f : α → PV} (h : ∀ x, pure? (f x) = true) : ∀ xs : List α, pures (xs.map f) = true
  | [] => rfl
  | x :: xs => by show (pure? (f x) && pures (xs.map f)) = true; rw [h x, pures_map h xs]; rfl
theorem deps_map {α : Type} {f : α → PV} {k : Nat} (h : ∀ x, dep (f x) ≤ k) : ∀ xs : List α, deps (xs.map f) ≤ k
  | [] => Nat.zero_le _
  | x :: xs => by show max (dep (f x)) (deps (xs.map f)) ≤ k; exact Nat.max_le.mpr ⟨h x, deps_map h xs⟩
theorem Note.dep1 (x : Note) : dep x.pv ≤ 1 := by
  obtain ⟨a, b, c, d, e, f, g, h⟩ := x
  cases f <;> simp [Note.pv, optI, dep, deps]
theorem dataT_map {α : Type} {f : α → PV} {k : Nat} (h1 : ∀ x, pure? (f x) = true) (h2 : ∀ x, dep (f x) ≤ k) (hk : k < 64) (xs : List α) : data? (.tup (xs.map f)) = true := by
  unfold data?
  rw [Bool.and_eq_true, decide_eq_true_eq]
  exact ⟨pures_map h1 xs, by show deps (xs.map f) + 1 ≤ 64; have := deps_map h2 xs; omega⟩
theorem dataL_map {α : Type} {f : α → PV} {k : Nat} (h1 : ∀ x, pure? (f x) = true) (h2 : ∀ x, dep (f x) ≤ k) (hk : k < 64) (xs : List α) : data? (.lst (xs.map f)) = true := by
  unfold data?
  rw [Bool.and_eq_true, decide_eq_true_eq]
  exact ⟨pures_map h1 xs, by show deps (xs.map f) + 1 ≤ 64; have := deps_map h2 xs; omega⟩
theorem ne_nil {α : Type} {f : α → PV} {k : Nat} (h1 : ∀ x, pure? (f x) = true) (h2 : ∀ x, dep (f x) ≤ k) (hk : k < 64) (xs : List α) : opCmp .ne (.tup (xs.map f)) (.tup []) μ = .ok (.bl (!xs.isEmpty)) μ := by
  rw [o_ne (p := .tup (xs.map f)) (q := .tup []) (dataT_map h1 h2 hk xs) (by rfl)]
  cases xs <;> rfl
theorem q1 {ls : List Lab} (h : LabsOk ls) (k : Nat) (hk : k ≤ 5) : k + (dot ls).length ≤ SL := SL_big (by have := dot_len h; omega)
theorem q2 {ls : List Lab} (h : LabsOk ls) (k : Nat) (hk : k ≤ 5) : (dot ls).length + k ≤ SL := SL_big (by have := dot_len h; omega)
theorem q3 {ls : List Lab} (h : LabsOk ls) (k : Nat) (hk : k ≤ 5) : (TL.joinL [47] ls).length + k ≤ SL := SL_big (by have := sla_len h; simp at this; omega)
/-- the last part of an ask: its origin -/
theorem s_ask_org {cs : CallS} {c : Int} {H : List Lab} (hH : HostOk H) {e0 e1 e3 e4 e5 e6 e7 : Option PV} (hc : cs 10 [.int c, .int 9781, .int 5] [] = .ok (.int (mixI c 9781 5)) []) (he : e0 = some (.int c)) :
    ev P cs (.idx (.tup [(.con .non), (.con (.str [113, 46, 113])), (.var 2), (.bin .add (.con (.str [113, 46])) (.m .join (.con (.str [46])) [(.sl (.m .split (.var 2) [(.con (.str [46]))]) (some (.b1 .neg (.con (.int 2)))) none)])), (.con (.str [97]))]) (.call 10 [(.var 0), (.con (.int 9781)), (.con (.int 5))]))
      [e0, e1, some (.str (dot H)), e3, e4, e5, e6, e7, none] [] = .ok (optS ([none, some [lQ, lQ], some H, some (lQ :: siteL H), some [[97]]].getD (mixI c 9781 5).toNat none)) [] := by
  subst he
  obtain ⟨hs, _⟩ := siteL_ok hH
  have f1 := q2 hH.2 2 (by omega)
  have f2 := q1 hs.2 2 (by omega)
  have f3 : (cutL (H.map PV.str) (some (-2)) none) = (siteL H).map PV.str := by rw [cut_last2, List.length_map, ← List.map_drop]; rfl
  have f4 := m_joinL' (μ := ([] : Sto)) (z := [46]) (ts := siteL H) (SL_big (by have := labs_total hs.2 1 (by omega); simp; omega))
  have f5 : opIdx (.tup [.non, .str [113, 46, 113], .str (dot H), .str (113 :: 46 :: dot (siteL H)), .str [97]]) (.int (mixI c 9781 5)) [] = .ok (optS ([none, some [lQ, lQ], some H, some (lQ :: siteL H), some [[97]]].getD (mixI c 9781 5).toNat none)) [] := by
    have := pickM (μ := ([] : Sto)) (f := optS) (xs := [none, some [lQ, lQ], some H, some (lQ :: siteL H), some [[97]]]) (d := none) (c := c) (p := 9781) (m := 5) rfl (by omega)
    rw [← this]
    have e : dot (lQ :: siteL H) = 113 :: 46 :: dot (siteL H) := dot_cons lQ hs.1
    simp only [List.map, optS, e]
    rfl
  simp [hc, f1, f2, f3, f4, f5, spl_dot hH]
theorem ex_step {P : Prog} {cs : CallS} {st : CS} {ss : List CS} {env env1 : EnvP} {μ μ1 : Sto} (h : exec P cs st env μ = .nx env1 μ1) : execs P cs (st :: ss) env μ = execs P cs ss env1 μ1 := by rw [y_cons, h, then_nx]
theorem s_ask (h10 : P.funs[10]? = some d__law_mix) (h11 : P.funs[11]? = some d__law_host) (h12 : P.funs[12]? = some d__law_path) (h : P.funs[17]? = some d__law_ask) {c : Int} {notes : List Note} (hn : ∀ x ∈ notes, x.Ok) (hl : notes.length ≤ 20) :
    callF P (n + 3) 17 [.int c, .tup (notes.map Note.pv)] μ = .ok (askD c notes).pv μ := by
  have hok := askHost_ok c hn
  refine callF_pure h rfl rfl ?_ (μ' := []) ?_ (Ask.pure _)
  · have : pures (notes.map Note.pv) = true := pures_map Note.pure notes
    simp [okArg, passes, pure?, this]
  have hne := ne_nil (μ := ([] : Sto)) Note.pure Note.dep1 (by omega) notes
  have hm : callF P (n + 2) 10 [.int c, .int 9781, .int 5] [] = .ok (.int (mixI c 9781 5)) [] := s_mix h10 (by omega) (by omega) (by omega)
  show endOf (execs P (callF P (n + 2)) d__law_ask.body [some (.int c), some (.tup (notes.map Note.pv)), none, none, none, none, none, none, none] []) = _
  unfold d__law_ask
  dsimp only
  rw [ex_step (env1 := [some (.int c), some (.tup (notes.map Note.pv)), some (.str (dot (hostL (c + 3)))), some (.str (sla (pathL (c + 4)))), none, none, none, none, none]) (μ1 := []) (by simp [s_host h10 h11, s_path h10 h12])]
  rw [ex_step (env1 := [some (.int c), some (.tup (notes.map Note.pv)), some (.str (dot (hostL (c + 3)))), some (.str (sla (pathL (c + 4)))), some (.int (mixI c 9833 100)), none, none, none, none]) (μ1 := []) (by simp [s_mix h10])]
  have key : ∃ e5 e6 e7, execs P (callF P (n + 2)) (d__law_ask.body.drop 2) [some (.int c), some (.tup (notes.map Note.pv)), some (.str (dot (hostL (c + 3)))), some (.str (sla (pathL (c + 4)))), some (.int (mixI c 9833 100)), none, none, none, none] [] =
      execs P (callF P (n + 2)) (d__law_ask.body.drop 3) [some (.int c), some (.tup (notes.map Note.pv)), some (.str (dot (askHost c notes))), some (.str (sla (askPath c notes))), some (.int (askTime c notes)), e5, e6, e7, none] [] := by
    show ∃ e5 e6 e7, execs P (callF P (n + 2)) (_ :: (d__law_ask.body.drop 3)) _ [] = _
    cases notes with
    | nil =>
      refine ⟨none, none, none, ex_step ?_⟩
      simp at hne
      simp [-x_idx, hne, askHost, askPath, askTime]
    | cons z r =>
      by_cases hp : 0 < mixI c 9829 5
      · have hpos : (0 : Int) < (r.length : Int) + 1 := by omega
        have hlen : (((z :: r).length : Nat) : Int) = (r.length : Int) + 1 := by simp
        have h1 : callF P (n + 2) 10 [.int c, .int 9817, .int ((r.length : Int) + 1)] [] = .ok (.int (mixI c 9817 ((r.length : Int) + 1))) [] := s_mix h10 (by omega) (by omega) hpos
        have h2 : callF P (n + 2) 10 [.int c, .int 9811, .int ((r.length : Int) + 1)] [] = .ok (.int (mixI c 9811 ((r.length : Int) + 1))) [] := s_mix h10 (by omega) (by omega) hpos
        have hN : opIdx (.tup (z.pv :: r.map Note.pv)) (.int (mixI c 9817 ((r.length : Int) + 1))) [] = .ok ((z :: r).getD (mixI c 9817 ((r.length : Int) + 1)).toNat z).pv [] := pickM (f := Note.pv) (xs := z :: r) hlen hpos
        have hO : opIdx (.tup (z.pv :: r.map Note.pv)) (.int (mixI c 9811 ((r.length : Int) + 1))) [] = .ok ((z :: r).getD (mixI c 9811 ((r.length : Int) + 1)).toNat z).pv [] := pickM (f := Note.pv) (xs := z :: r) hlen hpos
        have hx := hn _ (pick_mem (ss := z :: r) (c := c) (p := 9817) (d := z) hlen hpos)
        have hy := hn _ (pick_mem (ss := z :: r) (c := c) (p := 9811) (d := z) hlen hpos)
        have eH : askHost c (z :: r) = [((z :: r).getD (mixI c 9817 ((r.length : Int) + 1)).toNat z).host, ((z :: r).getD (mixI c 9817 ((r.length : Int) + 1)).toNat z).host, lQ :: ((z :: r).getD (mixI c 9817 ((r.length : Int) + 1)).toNat z).host, hostL (c + 3)].getD (mixI c 9803 4).toNat [] := by
          unfold askHost; simp only [if_pos hp, hlen]
        have eP : askPath c (z :: r) = [((z :: r).getD (mixI c 9811 ((r.length : Int) + 1)).toNat z).path, ((z :: r).getD (mixI c 9811 ((r.length : Int) + 1)).toNat z).path ++ [lQ], addQ ((z :: r).getD (mixI c 9811 ((r.length : Int) + 1)).toNat z).path, pathL (c + 4)].getD (mixI c 9791 4).toNat [] := by
          unfold askPath; simp only [if_pos hp, hlen]
        have eT : askTime c (z :: r) = match ((z :: r).getD (mixI c 9817 ((r.length : Int) + 1)).toNat z).fin with | none => mixI c 9833 100 | some f => clamp (f + mixI c 9787 3 - 1) := by
          unfold askTime; simp only [if_pos hp, hlen] <;> rfl
        rw [eH, eP, eT]
        generalize (z :: r).getD (mixI c 9817 ((r.length : Int) + 1)).toNat z = nt at hN hx ⊢
        generalize (z :: r).getD (mixI c 9811 ((r.length : Int) + 1)).toNat z = ot at hO hy ⊢
        have qh : opIdx (.tup [.str (dot nt.host), .str (dot nt.host), .str (113 :: 46 :: dot nt.host), .str (dot (hostL (c + 3)))]) (.int (mixI c 9803 4)) [] = .ok (.str (dot ([nt.host, nt.host, lQ :: nt.host, hostL (c + 3)].getD (mixI c 9803 4).toNat []))) [] := by
          have e : dot (lQ :: nt.host) = 113 :: 46 :: dot nt.host := dot_cons lQ hx.host.1
          rw [← e]
          exact pickM (f := fun ls => PV.str (dot ls)) (xs := [nt.host, nt.host, lQ :: nt.host, hostL (c + 3)]) rfl (by omega)
        have f1 := q1 hx.host.2 2 (by omega)
        have f2 : (TL.joinL [47] ot.path).length + 1 + 2 ≤ SL := q3 hy.path 3 (by omega)
        have f3 : (TL.joinL [47] ot.path).length + 1 + 1 ≤ SL := q3 hy.path 2 (by omega)
        have mk : ∀ more : List Nat, more = (if ot.path = [] then [] else sla ot.path) → opIdx (.tup [.str (sla ot.path), .str (more ++ [47, 113]), .str (sla ot.path ++ [113]), .str (sla (pathL (c + 4)))]) (.int (mixI c 9791 4)) [] = .ok (.str (sla ([ot.path, ot.path ++ [lQ], addQ ot.path, pathL (c + 4)].getD (mixI c 9791 4).toNat []))) [] := by
          intro more hm
          have e1 : sla (ot.path ++ [lQ]) = more ++ [47, 113] := by rw [sla_snocQ, hm]
          have e2 : sla (addQ ot.path) = sla ot.path ++ [113] := sla_addQ _
          rw [← e1, ← e2]
          exact pickM (f := fun ls => PV.str (sla ls)) (xs := [ot.path, ot.path ++ [lQ], addQ ot.path, pathL (c + 4)]) rfl (by omega)
        have clampE : ∀ i : Int, (if (if i < 99 then i else 99) > 0 then (if i < 99 then i else 99) else 0) = clamp i := fun i => rfl
        have hroot : (sla ot.path == [47]) = decide (ot.path = []) := by
          rw [Bool.eq_iff_iff, beq_iff_eq, decide_eq_true_eq]
          exact sla_root hy.path
        obtain ⟨more, hmore⟩ : ∃ more : List Nat, more = (if ot.path = [] then [] else sla ot.path) := ⟨_, rfl⟩
        have hml : more.length + 2 ≤ SL := by
          rw [hmore]
          split
          · exact lit2
          · exact f2
        have mk := mk more hmore
        simp at hne
        refine ⟨some nt.pv, some ot.pv, some (.str more), ex_step ?_⟩
        have hc : ev P (callF P (n + 2)) (.and (.cmp .ne (.var 1) (.tup [])) (.cmp .gt (.call 10 [(.var 0), (.con (.int 9829)), (.con (.int 5))]) (.con (.int 0)))) [some (.int c), some (.tup ((z :: r).map Note.pv)), some (.str (dot (hostL (c + 3)))), some (.str (sla (pathL (c + 4)))), some (.int (mixI c 9833 100)), none, none, none, none] [] = .ok (.bl true) [] := by
          simp [hne, s_mix h10, hp]
        rw [y_ite, hc, of_ok]
        show execs P (callF P (n + 2)) (_ :: _ :: _ :: _ :: _ :: []) _ [] = _
        rw [ex_step (env1 := [some (.int c), some (.tup ((z :: r).map Note.pv)), some (.str (dot (hostL (c + 3)))), some (.str (sla (pathL (c + 4)))), some (.int (mixI c 9833 100)), some nt.pv, some ot.pv, none, none]) (μ1 := []) (by simp [h1, h2, hN, hO])]
        rw [ex_step (env1 := [some (.int c), some (.tup ((z :: r).map Note.pv)), some (.str (dot ([nt.host, nt.host, lQ :: nt.host, hostL (c + 3)].getD (mixI c 9803 4).toNat []))), some (.str (sla (pathL (c + 4)))), some (.int (mixI c 9833 100)), some nt.pv, some ot.pv, none, none]) (μ1 := []) (by simp [s_mix h10, f1, qh])]
        rw [ex_step (env1 := [some (.int c), some (.tup ((z :: r).map Note.pv)), some (.str (dot ([nt.host, nt.host, lQ :: nt.host, hostL (c + 3)].getD (mixI c 9803 4).toNat []))), some (.str (sla (pathL (c + 4)))), some (.int (mixI c 9833 100)), some nt.pv, some ot.pv, some (.str more), none]) (μ1 := []) (by
          have hj : (TL.joinL [47] ot.path).isEmpty = decide (ot.path = []) := by simpa using hroot
          by_cases hr : ot.path = []
          · rw [if_pos hr] at hmore
            subst hmore
            simp [hj, hr, TL.joinL]
          · rw [if_neg hr] at hmore
            subst hmore
            simp [hj, hr])]
        rw [ex_step (env1 := [some (.int c), some (.tup ((z :: r).map Note.pv)), some (.str (dot ([nt.host, nt.host, lQ :: nt.host, hostL (c + 3)].getD (mixI c 9803 4).toNat []))), some (.str (sla ([ot.path, ot.path ++ [lQ], addQ ot.path, pathL (c + 4)].getD (mixI c 9791 4).toNat []))), some (.int (mixI c 9833 100)), some nt.pv, some ot.pv, some (.str more), none]) (μ1 := []) (by
          simp at mk
          simp [s_mix h10, f3, hml, mk])]
        cases hf : nt.fin with
        | none =>
          rw [ex_step (env1 := [some (.int c), some (.tup ((z :: r).map Note.pv)), some (.str (dot ([nt.host, nt.host, lQ :: nt.host, hostL (c + 3)].getD (mixI c 9803 4).toNat []))), some (.str (sla ([ot.path, ot.path ++ [lQ], addQ ot.path, pathL (c + 4)].getD (mixI c 9791 4).toNat []))), some (.int (mixI c 9833 100)), some nt.pv, some ot.pv, some (.str more), none]) (μ1 := []) (by simp [hf, optI])]
          rfl
        | some f =>
          rw [ex_step (env1 := [some (.int c), some (.tup ((z :: r).map Note.pv)), some (.str (dot ([nt.host, nt.host, lQ :: nt.host, hostL (c + 3)].getD (mixI c 9803 4).toNat []))), some (.str (sla ([ot.path, ot.path ++ [lQ], addQ ot.path, pathL (c + 4)].getD (mixI c 9791 4).toNat []))), some (.int (clamp (f + mixI c 9787 3 - 1))), some nt.pv, some ot.pv, some (.str more), none]) (μ1 := []) (by simp [hf, optI, s_mix h10, clamp])]
          rfl
      · refine ⟨none, none, none, ex_step ?_⟩
        simp at hne
        simp [-x_idx, hne, s_mix h10, askHost, askPath, askTime, hp]
  obtain ⟨e5, e6, e7, key⟩ := key
  refine (congrArg endOf key).trans ?_
  show endOf (execs P (callF P (n + 2)) (_ :: _ :: []) _ []) = _
  rw [ex_step (env1 := [some (.int c), some (.tup (notes.map Note.pv)), some (.str (dot (askHost c notes))), some (.str (sla (askPath c notes))), some (.int (askTime c notes)), e5, e6, e7, some (optS (askD c notes).origin)]) (μ1 := []) (by
    rw [y_asg, s_ask_org hok.1 hm rfl]
    rfl)]
  simp [s_mix h10, Ask.pv, askD]
end
end NR

/-! M5: sameness, cells; hosts and paths compared. -/
namespace NR
section
variable {P : Prog} {n : Nat} {μ : Sto}
def cellI (ns : List Int) (k : Int) : Int := if k < ns.length then ns.getD k.toNat 0 else 0
theorem s_cell (h : P.funs[9]? = some d__law_cell) {ns : List Int} {k : Int} (hk : 0 ≤ k) : callF P (n + 1) 9 [.scr ns, .int k] μ = .ok (.int (cellI ns k)) μ := by
  refine callF_pure h rfl rfl rfl (μ' := []) ?_ rfl
  by_cases hl : k < ns.length
  · have e : opIdx (.scr ns) (.int k) [] = .ok (.int (ns.getD k.toNat 0)) [] := by
      refine i_scr hk ?_
      have : k.toNat < ns.length := by omega
      rw [List.getD_eq_getElem?_getD, List.getElem?_eq_getElem this]
      rfl
    simp [d__law_cell, startE, hl, e, cellI]
  · simp [d__law_cell, startE, hl, cellI]
mutual
/-- what sameness is asked of: nothing, truths, numbers, texts, tuples of such -/
def sameV : PV → Bool
  | .non => true | .bl _ => true | .int _ => true | .str _ => true
  | .tup xs => sameVs xs && decide (xs.length ≤ 1000)
  | _ => false
def sameVs : List PV → Bool
  | [] => true
  | x :: xs => sameV x && sameVs xs
end
mutual
theorem sameV_pure : ∀ v : PV, sameV v = true → pure? v = true
  | .non, _ => rfl
  | .bl _, _ => rfl
  | .int _, _ => rfl
  | .str _, _ => rfl
  | .tup xs, h => by
    simp only [sameV, Bool.and_eq_true] at h
    exact sameVs_pure xs h.1
  | .lst _, h => by simp [sameV] at h
  | .loc _, h => by simp [sameV] at h
  | .exc _, h => by simp [sameV] at h
  | .scr _, h => by simp [sameV] at h
theorem sameVs_pure : ∀ vs : List PV, sameVs vs = true → pures vs = true
  | [], _ => rfl
  | v :: vs, h => by
    simp only [sameVs, Bool.and_eq_true] at h
    show (pure? v && pures vs) = true
    rw [sameV_pure v h.1, sameVs_pure vs h.2]; rfl
end
theorem okArg_pure {v : PV} (h : pure? v = true) : okArg v = true := by
  cases v <;> first | exact h | (cases h; done)
theorem sameVs_mem : ∀ {vs : List PV}, sameVs vs = true → ∀ v ∈ vs, sameV v = true
  | [], _, v, h => by cases h
  | w :: vs, h, v, hv => by
    simp only [sameVs, Bool.and_eq_true] at h
    rcases List.mem_cons.mp hv with rfl | hv
    · exact h.1
    · exact sameVs_mem h.2 v hv
theorem deps_mem : ∀ {vs : List PV} {v : PV}, v ∈ vs → dep v ≤ deps vs
  | w :: vs, v, hv => by
    show dep v ≤ max (dep w) (deps vs)
    rcases List.mem_cons.mp hv with rfl | hv
    · exact Nat.le_max_left _ _
    · exact Nat.le_trans (deps_mem hv) (Nat.le_max_right _ _)
theorem allBl_true : ∀ xs : List PV, allBl (xs.map fun _ => PV.bl true) = some (xs.map fun _ => true)
  | [] => rfl
  | x :: xs => by show (allBl (xs.map fun _ => PV.bl true)).map (true :: ·) = _; rw [allBl_true xs]; rfl
theorem all_true (xs : List PV) : opB1 .all (.lst (xs.map fun _ => PV.bl true)) μ = .ok (.bl true) μ := by
  show (match allBl (xs.map fun _ => PV.bl true) with | some bs => R.ok (PV.bl (bs.all id)) μ | none => .bad) = _
  rw [allBl_true]
  simp
theorem s_same (h : P.funs[35]? = some d__law_same) : ∀ (m : Nat) (v : PV) (μ : Sto), sameV v = true → dep v < m → callF P m 35 [v, v] μ = .ok (.bl true) μ
  | 0, v, μ, hv, hd => by omega
  | m + 1, v, μ, hv, hd => by
    have hp := okArg_pure (sameV_pure v hv)
    refine callF_pure h rfl rfl (by simp [hp]) (μ' := []) ?_ rfl
    cases v with
    | non => simp [d__law_same, startE, hasKind, isKind]
    | bl b => simp [d__law_same, startE, hasKind, isKind]
    | int i => simp [d__law_same, startE, hasKind, isKind]
    | str s => simp [d__law_same, startE, hasKind, isKind]
    | tup xs =>
      simp only [sameV, Bool.and_eq_true, decide_eq_true_eq] at hv
      have hc : ev P (callF P m) (.comp false (.call 35 [(.var 2), (.var 3)]) (.t [(.v 2), (.v 3)]) (.zip (.var 0) (.var 1)) none) [some (.tup xs), some (.tup xs), none, none] [] = .ok (.lst ((xs.map fun x => PV.tup [x, x]).map fun _ => PV.bl true)) [] := by
        refine comp_map ?_ (by rw [List.length_map]; exact SL_big (by omega)) fun x hx => ?_
        · simp [srcZip, List.zipWith_self]
        · obtain ⟨y, hy, rfl⟩ := List.mem_map.mp hx
          refine ⟨[some (.tup xs), some (.tup xs), some y, some y], by simp [patSlots, patsSlots, wipeE], ?_⟩
          have hd' : dep y < m := by
            have h1 := deps_mem hy
            have h2 : deps xs + 1 < m + 1 := hd
            omega
          simp
          exact s_same h m y [] (sameVs_mem hv.1 y hy) hd'
      have ha := all_true (μ := ([] : Sto)) (xs.map fun x => PV.tup [x, x])
      simp [d__law_same, startE, hasKind, isKind]
      simp at hc ha
      simp [hc, ha]
    | lst _ => simp [sameV] at hv
    | loc _ => simp [sameV] at hv
    | exc _ => simp [sameV] at hv
    | scr _ => simp [sameV] at hv
end
end NR

/-! M6: hosts, paths: sites, steps, what lies below. -/
namespace NR
theorem dot_inj {as bs : List Lab} (h : HostOk as) (k : HostOk bs) (e : dot as = dot bs) : as = bs := by
  rw [← spl_dot h, ← spl_dot k, e]
theorem sla_inj {as bs : List Lab} (h : LabsOk as) (k : LabsOk bs) (e : sla as = sla bs) : as = bs := by
  have e : TL.joinL [47] as = TL.joinL [47] bs := by simpa using e
  by_cases ha : as = []
  · subst ha
    exact (((sla_root k).mp (by show 47 :: TL.joinL [47] bs = [47]; rw [← e]; rfl))).symm
  · by_cases hb : bs = []
    · subst hb
      exact (sla_root h).mp (by show 47 :: TL.joinL [47] as = [47]; rw [e]; rfl)
    · rw [← spl_sla ha h, ← spl_sla hb k, e]
theorem dot_beq {as bs : List Lab} (h : HostOk as) (k : HostOk bs) : (dot as == dot bs) = (as == bs) := by
  rw [Bool.eq_iff_iff, beq_iff_eq, beq_iff_eq]
  exact ⟨dot_inj h k, fun e => by rw [e]⟩
/-- split at one sign, in two parts -/
theorem spl_app (s : Nat) (q : List Nat) : ∀ (p acc : List Nat), TL.spl [s] 0 acc (p ++ s :: q) = TL.spl [s] 0 acc p ++ TL.spl [s] 0 [] q
  | [], acc => by
    rw [List.nil_append, TL.spl_hit (by simp [TL.pre]), TL.spl_nil]
    rfl
  | c :: p, acc => by
    by_cases hc : c = s
    · subst hc
      rw [List.cons_append, TL.spl_hit (by simp [TL.pre]), TL.spl_hit (by simp [TL.pre])]
      show acc :: TL.spl [c] 0 [] (p ++ c :: q) = acc :: TL.spl [c] 0 [] p ++ _
      rw [spl_app c q p []]
      rfl
    · rw [List.cons_append, TL.spl_miss (TL.pre_of_head [] _ hc), TL.spl_miss (TL.pre_of_head [] _ hc)]
      exact spl_app s q p _
theorem spl_ne (S : List Nat) : ∀ (l : List Nat) (k : Nat) (acc : List Nat), TL.spl S k acc l ≠ []
  | [], k, acc => by rw [TL.spl_nil]; simp
  | c :: r, 0, acc => by
    cases hp : TL.pre S (c :: r) with
    | true => rw [TL.spl_hit hp]; simp
    | false => rw [TL.spl_miss hp]; exact spl_ne S r 0 _
  | c :: r, k + 1, acc => spl_ne S r k acc
theorem dot_append {as bs : List Lab} (ha : as ≠ []) (hb : bs ≠ []) : dot (as ++ bs) = dot as ++ 46 :: dot bs := by
  induction as with
  | nil => exact absurd rfl ha
  | cons a r ih =>
    by_cases hr : r = []
    · subst hr
      exact dot_cons a hb
    · rw [List.cons_append, dot_cons a (by simp [hr]), dot_cons a hr, ih hr]
      simp
/-- bs behind a dot ends as -/
def belowB (as bs : List Lab) : Bool := decide (bs.length < as.length) && (as.drop (as.length - bs.length) == bs)
theorem below_eq {as bs : List Lab} (h : HostOk as) (k : HostOk bs) : ends (dot as) (46 :: dot bs) = belowB as bs := by
  unfold ends belowB
  rw [Bool.eq_iff_iff]
  simp only [List.isSuffixOf_iff_suffix, Bool.and_eq_true, decide_eq_true_eq, beq_iff_eq]
  constructor
  · rintro ⟨p, e⟩
    have e2 := spl_app 46 (dot bs) p []
    rw [e, spl_dot h, spl_dot k] at e2
    have hn := spl_ne [46] p 0 []
    rw [e2]
    have hl : 0 < (TL.spl [46] 0 [] p).length := List.length_pos_iff.mpr hn
    refine ⟨by rw [List.length_append]; omega, ?_⟩
    rw [List.length_append, Nat.add_sub_cancel, List.drop_left]
  · rintro ⟨hl, e⟩
    have e2 : as = as.take (as.length - bs.length) ++ bs := by
      conv => lhs; rw [← List.take_append_drop (as.length - bs.length) as, e]
    have hn : as.take (as.length - bs.length) ≠ [] := fun z => by
      have z := congrArg List.length z
      rw [List.length_take, List.length_nil] at z
      have := List.length_pos_iff.mpr h.1
      omega
    refine ⟨dot (as.take (as.length - bs.length)), ?_⟩
    conv => rhs; rw [e2]
    exact (dot_append hn k.1).symm
theorem siteL_dot {as bs : List Lab} (h : HostOk as) (k : HostOk bs) : (dot (siteL as) == dot (siteL bs)) = (siteL as == siteL bs) := dot_beq (siteL_ok h).1 (siteL_ok k).1
theorem peqs_str : ∀ xs ys : List (List Nat), peqs (xs.map PV.str) (ys.map PV.str) = (xs == ys)
  | [], [] => rfl
  | [], _ :: _ => rfl
  | _ :: _, [] => rfl
  | x :: xs, y :: ys => by
    show ((x == y) && peqs (xs.map PV.str) (ys.map PV.str)) = ((x == y) && (xs == ys))
    rw [peqs_str xs ys]
section
variable {P : Prog} {n : Nat} {μ : Sto}
theorem eq_strsT (xs ys : List (List Nat)) : opCmp .eq (.tup (xs.map PV.str)) (.tup (ys.map PV.str)) μ = .ok (.bl (xs == ys)) μ := by
  rw [o_eq (p := .tup (xs.map PV.str)) (q := .tup (ys.map PV.str)) (dataT_map (k := 0) (fun _ => rfl) (fun _ => Nat.le_refl _) (by omega) xs) (dataT_map (k := 0) (fun _ => rfl) (fun _ => Nat.le_refl _) (by omega) ys)]
  show R.ok (PV.bl (peqs (xs.map PV.str) (ys.map PV.str))) μ = _
  rw [peqs_str]
theorem eq_strsL (xs ys : List (List Nat)) : opCmp .eq (.lst (xs.map PV.str)) (.lst (ys.map PV.str)) μ = .ok (.bl (xs == ys)) μ := by
  rw [o_eq (p := .lst (xs.map PV.str)) (q := .lst (ys.map PV.str)) (dataL_map (k := 0) (fun _ => rfl) (fun _ => Nat.le_refl _) (by omega) xs) (dataL_map (k := 0) (fun _ => rfl) (fun _ => Nat.le_refl _) (by omega) ys)]
  show R.ok (PV.bl (peqs (xs.map PV.str) (ys.map PV.str))) μ = _
  rw [peqs_str]
theorem pures_strs (xs : List (List Nat)) : pures (xs.map PV.str) = true := pures_map (fun _ => rfl) xs
theorem s_below (h : P.funs[29]? = some d_is_below) {as bs : List Lab} (ha : HostOk as) (hb : HostOk bs) : callF P (n + 1) 29 [.str (dot as), .str (dot bs)] μ = .ok (.bl (belowB as bs)) μ := by
  refine callF_pure h rfl rfl rfl (μ' := []) ?_ rfl
  have f1 := q1 hb.2 1 (by omega)
  simp [d_is_below, startE, f1, below_eq ha hb]
theorem s_site (h : P.funs[30]? = some d_site) {as : List Lab} (ha : HostOk as) : callF P (n + 1) 30 [.str (dot as)] μ = .ok (.str (dot (siteL as))) μ := by
  refine callF_pure h rfl rfl rfl (μ' := []) ?_ rfl
  have f1 := q2 ha.2 2 (by omega)
  obtain ⟨hs, _⟩ := siteL_ok ha
  have f3 : (cutL (as.map PV.str) (some (-2)) none) = (siteL as).map PV.str := by rw [cut_last2, List.length_map, ← List.map_drop]; rfl
  have f4 := m_joinL' (μ := ([] : Sto)) (z := [46]) (ts := siteL as) (SL_big (by have := labs_total hs.2 1 (by omega); simp; omega))
  simp [d_site, startE, f1, f3, f4, spl_dot ha]
theorem s_lsite (h : P.funs[36]? = some d__law_site) {as : List Lab} (ha : HostOk as) : callF P (n + 1) 36 [.str (dot as)] μ = .ok (.tup ((siteL as).map PV.str)) μ := by
  refine callF_pure h rfl rfl rfl (μ' := []) ?_ (pures_strs _)
  have f1 := q2 ha.2 2 (by omega)
  have f3 : cutL (as.map PV.str) (some (if (as.length : Int) - 2 > 0 then (as.length : Int) - 2 else 0)) none = (siteL as).map PV.str := by
    have e : (if (as.length : Int) - 2 > 0 then (as.length : Int) - 2 else 0) = ((as.length - 2 : Nat) : Int) := by split <;> omega
    rw [e, cut_from, ← List.map_drop]; rfl
  simp at f3
  simp [d__law_site, startE, f1, f3, spl_dot ha]
theorem s_steps (h : P.funs[31]? = some d_steps) {ss : List Lab} (hs : LabsOk ss) : callF P (n + 1) 31 [.str (sla ss)] μ = .ok (.tup (ss.map PV.str)) μ := by
  refine callF_pure h rfl rfl rfl (μ' := []) ?_ (pures_strs _)
  by_cases he : ss = []
  · subst he
    simp [d_steps, startE, TL.joinL]
  · have hj : TL.joinL [47] ss ≠ [] := fun e => he ((sla_root hs).mp (by show 47 :: TL.joinL [47] ss = [47]; rw [e]))
    have f1 : (TL.joinL [47] ss).length + 1 ≤ SL := q3 hs 1 (by omega)
    have f2 : (TL.joinL [47] ss).length + 2 ≤ SL := q3 hs 2 (by omega)
    have f3 : cutL (sla ss) (some 1) none = TL.joinL [47] ss := cut_from (sla ss) 1
    have hj' : (TL.joinL [47] ss).isEmpty = false := by cases e : TL.joinL [47] ss with | nil => exact absurd e hj | cons _ _ => rfl
    simp [d_steps, startE, hj', f1, f2, f3, spl_sla he hs]
theorem s_lsteps (h : P.funs[37]? = some d__law_steps) {ss : List Lab} (hs : LabsOk ss) : callF P (n + 1) 37 [.str (sla ss)] μ = .ok (.lst (ss.map PV.str)) μ := by
  refine callF_pure h rfl rfl rfl (μ' := []) ?_ (pures_strs _)
  have e1 : TL.spl [47] 0 [] (sla ss) = [] :: TL.spl [47] 0 [] (TL.joinL [47] ss) := TL.spl_hit (by simp [TL.pre])
  have e2 : (TL.spl [47] 0 [] (sla ss)).filter (fun l => !l.isEmpty) = ss := by
    rw [e1]
    by_cases he : ss = []
    · subst he; rfl
    · rw [spl_sla he hs]
      show List.filter _ ss = ss
      rw [List.filter_eq_self]
      intro l hl
      have := (hs.2 l hl).1
      cases l with
      | nil => exact absurd rfl this
      | cons _ _ => rfl
  have f2 : (TL.joinL [47] ss).length + 1 + 2 ≤ SL := q3 hs 3 (by omega)
  have hlen : (TL.spl [47] 0 [] (sla ss)).length ≤ SL := by
    rw [e1]
    by_cases he : ss = []
    · subst he; exact SL_big (by show 2 ≤ 10000; omega)
    · rw [spl_sla he hs]; exact SL_big (by have := hs.1; simp; omega)
  have hc : ev P (callF P n) (.comp false (.var 1) (.v 1) (.seq (.m .split (.var 0) [(.con (.str [47]))])) (some (.cmp .ne (.var 1) (.con (.str []))))) [some (.str (sla ss)), none] [] = .ok (.lst (ss.map PV.str)) [] := by
    have hf := comp_filter (P := P) (cs := callF P n) (μ := ([] : Sto)) (env := [some (.str (sla ss)), none]) (elt := .var 1) (c := .cmp .ne (.var 1) (.con (.str []))) (p := .v 1) (it := .seq (.m .split (.var 0) [(.con (.str [47]))]))
      (xs := (TL.spl [47] 0 [] (sla ss)).map PV.str) (g := id) (t := fun x => match x with | .str l => !l.isEmpty | _ => false) (by simp [f2, srcSeq]) (by rw [List.length_map]; exact hlen) (fun x hx => by
        obtain ⟨l, _, rfl⟩ := List.mem_map.mp hx
        refine ⟨[some (.str (sla ss)), some (.str l)], rfl, ⟨.bl (!(l == [])), by simp, ?_⟩, by simp⟩
        cases l <;> rfl)
    rw [hf, List.map_id, List.filter_map]
    congr 2
    conv => rhs; rw [← e2]
    congr 1
  simp [d__law_steps, startE, hc]
end
end NR

/-! M7: what fits. -/
namespace NR
def hostF (r : Rul) (x : Note) (h : List Lab) : Bool := (h == x.host) || ((r.w1 == wAlways || (r.w1 == wTold && x.wide)) && belowB h x.host)
def pathF (r : Rul) (x : Note) (p : List Lab) : Bool := if r.w0 == wSigns then (sla x.path).isPrefixOf (sla p) else (p.take x.path.length == x.path)
def endF (r : Rul) (x : Note) (t : Int) : Bool := match x.fin with
  | none => false
  | some f => if r.w2 == wUntil then decide (f ≤ t) else decide (f < t)
def safeF (r : Rul) (x : Note) (a : Ask) : Bool := !x.safe || (a.safe || r.w3 == wFree)
def sideF (r : Rul) (x : Note) (a : Ask) : Bool := match a.origin with
  | none => true
  | some o => (siteL o == siteL a.host) || ((r.w4 == wNone || x.side == wAny) || (a.home && (x.side == wNear || r.w4 == wLoose)))
abbrev wHost : List Nat := [104, 111, 115, 116]
abbrev wPath : List Nat := [112, 97, 116, 104]
abbrev wEnd : List Nat := [101, 110, 100]
abbrev wSafe : List Nat := [115, 97, 102, 101]
abbrev wSide : List Nat := [115, 105, 100, 101]
def whyF (r : Rul) (x : Note) (a : Ask) : Option (List Nat) :=
  if hostF r x a.host = false then some wHost else if pathF r x a.path = false then some wPath else if endF r x a.time = true then some wEnd else if safeF r x a = false then some wSafe else if sideF r x a = false then some wSide else none
def optT : Option (List Nat) → PV
  | none => .non
  | some s => .str s
theorem optT_pure (o : Option (List Nat)) : pure? (optT o) = true := by cases o <;> rfl
theorem Rul.okArg (r : Rul) : okArg r.pv = true := rfl
theorem Ask.okArg (a : Ask) : okArg a.pv = true := a.pure
section
variable {P : Prog} {n : Nat} {μ : Sto} {r : Rul} {x : Note} {a : Ask}
theorem s_host_fits (h29 : P.funs[29]? = some d_is_below) (h39 : P.funs[39]? = some d_host_fits) (hx : x.Ok) {h : List Lab} (hh : HostOk h) : callF P (n + 2) 39 [r.pv, x.pv, .str (dot h)] μ = .ok (.bl (hostF r x h)) μ := by
  refine callF_pure h39 rfl rfl (by simp [x.okArg, r.okArg]; rfl) (μ' := []) ?_ rfl
  have e1 := dot_beq hh hx.host
  have e2 := s_below (n := n) (μ := []) h29 hh hx.host
  cases b4 : (h == x.host) <;> cases b1 : (r.w1 == wAlways) <;> cases b2 : (r.w1 == wTold) <;> cases b3 : x.wide <;> simp [d_host_fits, startE, e1, e2, hostF, b1, b2, b3, b4]
theorem s_lhost_fits (h46 : P.funs[46]? = some d__law_host_fits) (hr : r.Ok) (hx : x.Ok) {h : List Lab} (hh : HostOk h) : callF P (n + 2) 46 [r.pv, x.pv, .str (dot h)] μ = .ok (.bl (hostF r x h)) μ := by
  refine callF_pure h46 rfl rfl (by simp [x.okArg, r.okArg]; rfl) (μ' := []) ?_ rfl
  have f1 := q2 hh.2 2 (by omega)
  have f2 := q2 hx.host.2 2 (by omega)
  have hw := hr.w1
  simp only [List.mem_cons, List.not_mem_nil, or_false] at hw
  have c1 : opCmp .eq (.lst (cutL (h.map PV.str) (some ((h.length : Int) - (x.host.length : Int))) none)) (.lst (x.host.map PV.str)) [] = .ok (.bl (cutL h (some ((h.length : Int) - (x.host.length : Int))) none == x.host)) [] := by
    have e : cutL (h.map PV.str) (some ((h.length : Int) - (x.host.length : Int))) none = (cutL h (some ((h.length : Int) - (x.host.length : Int))) none).map PV.str := by
      unfold cutL
      rw [List.length_map, List.map_take, List.map_drop]
    rw [e]
    exact eq_strsL _ _
  have c2 : (decide (x.host.length < h.length) && (cutL h (some ((h.length : Int) - (x.host.length : Int))) none == x.host)) = belowB h x.host := by
    unfold belowB
    by_cases hl : x.host.length < h.length
    · have e : ((h.length : Int) - (x.host.length : Int)) = ((h.length - x.host.length : Nat) : Int) := by omega
      rw [e, cut_from]
    · simp [hl]
  have e1 := dot_beq hh hx.host
  have e2 := spl_dot hh
  have e3 := spl_dot hx.host
  rcases hw with hw | hw | hw <;> cases b4 : (h == x.host) <;> cases b3 : x.wide <;> cases b5 : decide (x.host.length < h.length) <;>
    simp only [b5, Bool.true_and, Bool.false_and] at c2 <;> simp [d__law_host_fits, startE, e1, hostF, f1, f2, e2, e3, c1, ← c2, hw, b3, b4, b5]
theorem eq_pre (p q : List Lab) (hp : LabsOk p) (hq : LabsOk q) : ((sla p).take (sla q).length == sla q) = (sla q).isPrefixOf (sla p) := by
  rw [Bool.eq_iff_iff, beq_iff_eq, List.isPrefixOf_iff_prefix]
  constructor
  · intro e
    rw [← e]
    exact List.take_prefix _ _
  · intro h
    exact (List.prefix_iff_eq_take.mp h).symm
theorem s_path_fits (h31 : P.funs[31]? = some d_steps) (h40 : P.funs[40]? = some d_path_fits) (hx : x.Ok) {p : List Lab} (hp : LabsOk p) : callF P (n + 2) 40 [r.pv, x.pv, .str (sla p)] μ = .ok (.bl (pathF r x p)) μ := by
  refine callF_pure h40 rfl rfl (by simp [x.okArg, r.okArg]; rfl) (μ' := []) ?_ rfl
  have e1 := s_steps (n := n) (μ := []) h31 hp
  have e2 := s_steps (n := n) (μ := []) h31 hx.path
  have e3 : cutL (p.map PV.str) none (some (x.path.length : Int)) = (p.take x.path.length).map PV.str := by rw [cut_to, List.map_take]
  have e4 := eq_strsT (μ := []) (p.take x.path.length) x.path
  cases b1 : (r.w0 == wSigns)
  · have b1' : r.w0 ≠ wSigns := by simpa using b1
    simp [-List.map_take, d_path_fits, startE, e1, e2, e3, e4, pathF, b1, b1']
  · have b1' : r.w0 = wSigns := by simpa using b1
    simp [d_path_fits, startE, pathF, b1', starts]
theorem s_lpath_fits (h37 : P.funs[37]? = some d__law_steps) (h47 : P.funs[47]? = some d__law_path_fits) (hx : x.Ok) {p : List Lab} (hp : LabsOk p) : callF P (n + 2) 47 [r.pv, x.pv, .str (sla p)] μ = .ok (.bl (pathF r x p)) μ := by
  refine callF_pure h47 rfl rfl (by simp [x.okArg, r.okArg]; rfl) (μ' := []) ?_ rfl
  have e1 := s_lsteps (n := n) (μ := []) h37 hp
  have e2 := s_lsteps (n := n) (μ := []) h37 hx.path
  have e3 : cutL (p.map PV.str) none (some (x.path.length : Int)) = (p.take x.path.length).map PV.str := by rw [cut_to, List.map_take]
  have e4 := eq_strsL (μ := []) (p.take x.path.length) x.path
  have f1 : (TL.joinL [47] x.path).length + 1 ≤ SL := q3 hx.path 1 (by omega)
  have f2 : (TL.joinL [47] p).length + 1 ≤ SL := q3 hp 1 (by omega)
  have e5 : cutL (sla p) none (some ((TL.joinL [47] x.path).length + 1 : Int)) = (sla p).take (sla x.path).length := cut_to (sla p) (sla x.path).length
  have e6 := eq_pre p x.path hp hx.path
  cases b1 : (r.w0 == wSigns)
  · have b1' : r.w0 ≠ wSigns := by simpa using b1
    simp [-List.map_take, d__law_path_fits, startE, e1, e2, e3, e4, pathF, b1, b1']
  · have b1' : r.w0 = wSigns := by simpa using b1
    simp only [d__law_path_fits, startE]
    simp [pathF, b1', f1, f2, e5]
    exact e6
theorem s_ended (h41 : P.funs[41]? = some d_has_ended) {t : Int} : callF P (n + 1) 41 [r.pv, x.pv, .int t] μ = .ok (.bl (endF r x t)) μ := by
  refine callF_pure h41 rfl rfl (by simp [x.okArg, r.okArg]; rfl) (μ' := []) ?_ rfl
  cases hf : x.fin with
  | none => simp [d_has_ended, startE, hf, optI, endF]
  | some f => cases b1 : (r.w2 == wUntil) <;> simp [d_has_ended, startE, hf, optI, endF, b1]
theorem s_lended (h48 : P.funs[48]? = some d__law_ended) {t : Int} : callF P (n + 1) 48 [r.pv, x.pv, .int t] μ = .ok (.bl (endF r x t)) μ := by
  refine callF_pure h48 rfl rfl (by simp [x.okArg, r.okArg]; rfl) (μ' := []) ?_ rfl
  cases hf : x.fin with
  | none => simp [d__law_ended, startE, hf, optI, endF]
  | some f =>
    rcases Int.lt_trichotomy f t with h | h | h
    · have h1 : ¬ t = f := by omega
      have h2 : f ≤ t := by omega
      cases b1 : (r.w2 == wUntil) <;> simp [d__law_ended, startE, hf, optI, endF, b1, h, h1, h2]
    · subst h
      cases b1 : (r.w2 == wUntil) <;> simp [d__law_ended, startE, hf, optI, endF, b1]
    · have h1 : ¬ t = f := by omega
      have h2 : ¬ f ≤ t := by omega
      have h3 : ¬ f < t := by omega
      have h4 : (t == f) = false := by simpa using h1
      cases b1 : (r.w2 == wUntil) <;> simp [d__law_ended, startE, hf, optI, endF, b1, h1, h2, h3, h4]
theorem s_safe_fits (h42 : P.funs[42]? = some d_safe_fits) : callF P (n + 1) 42 [r.pv, x.pv, a.pv] μ = .ok (.bl (safeF r x a)) μ := by
  refine callF_pure h42 rfl rfl (by simp [x.okArg, r.okArg, a.okArg]) (μ' := []) ?_ rfl
  cases b1 : x.safe <;> cases b2 : a.safe <;> simp [d_safe_fits, startE, safeF, b1, b2]
theorem s_lsafe_fits (h49 : P.funs[49]? = some d__law_safe_fits) : callF P (n + 1) 49 [r.pv, x.pv, a.pv] μ = .ok (.bl (safeF r x a)) μ := by
  refine callF_pure h49 rfl rfl (by simp [x.okArg, r.okArg, a.okArg]) (μ' := []) ?_ rfl
  cases b1 : x.safe <;> cases b2 : a.safe <;> simp [d__law_safe_fits, startE, safeF, b1, b2]
theorem s_side_fits (h30 : P.funs[30]? = some d_site) (h43 : P.funs[43]? = some d_side_fits) (ha : a.Ok) : callF P (n + 2) 43 [r.pv, x.pv, a.pv] μ = .ok (.bl (sideF r x a)) μ := by
  refine callF_pure h43 rfl rfl (by simp [x.okArg, r.okArg, a.okArg]) (μ' := []) ?_ rfl
  have e1 := s_site (n := n) (μ := []) h30 ha.host
  cases hf : a.origin with
  | none => simp [d_side_fits, startE, hf, optS, sideF]
  | some o =>
    have ho := ha.origin o hf
    have e2 := s_site (n := n) (μ := []) h30 ho
    have e3 := siteL_dot ho ha.host
    cases b0 : (siteL o == siteL a.host) <;> cases b1 : (r.w4 == wNone) <;> cases b2 : (x.side == wAny) <;> cases b3 : a.home <;> cases b4 : (x.side == wNear) <;> simp [d_side_fits, startE, hf, optS, sideF, e1, e2, e3, b0, b1, b2, b3, b4]
theorem s_lside_fits (h36 : P.funs[36]? = some d__law_site) (h50 : P.funs[50]? = some d__law_side_fits) (ha : a.Ok) : callF P (n + 2) 50 [r.pv, x.pv, a.pv] μ = .ok (.bl (sideF r x a)) μ := by
  refine callF_pure h50 rfl rfl (by simp [x.okArg, r.okArg, a.okArg]) (μ' := []) ?_ rfl
  have e1 := s_lsite (n := n) (μ := []) h36 ha.host
  cases hf : a.origin with
  | none => simp [d__law_side_fits, startE, hf, optS, sideF]
  | some o =>
    have ho := ha.origin o hf
    have e2 := s_lsite (n := n) (μ := []) h36 ho
    have e3 := eq_strsT (μ := []) (siteL o) (siteL a.host)
    cases b0 : (siteL o == siteL a.host) <;> cases b1 : (r.w4 == wNone) <;> cases b2 : (x.side == wAny) <;> cases b3 : a.home <;> cases b4 : (x.side == wNear) <;> simp [d__law_side_fits, startE, hf, optS, sideF, e1, e2, e3, b0, b1, b2, b3, b4]
end
end NR

/-! M8: why an ask goes without a note. -/
namespace NR
section
variable {P : Prog} {n : Nat} {μ : Sto} {r : Rul} {x : Note} {a : Ask}
/-- the defs of fitting -/
structure HasFit (P : Prog) : Prop where
  h29 : P.funs[29]? = some d_is_below
  h30 : P.funs[30]? = some d_site
  h31 : P.funs[31]? = some d_steps
  h39 : P.funs[39]? = some d_host_fits
  h40 : P.funs[40]? = some d_path_fits
  h41 : P.funs[41]? = some d_has_ended
  h42 : P.funs[42]? = some d_safe_fits
  h43 : P.funs[43]? = some d_side_fits
  h44 : P.funs[44]? = some d_why_not
  h45 : P.funs[45]? = some d_goes
/-- the laws' own -/
structure HasLFit (P : Prog) : Prop where
  h36 : P.funs[36]? = some d__law_site
  h37 : P.funs[37]? = some d__law_steps
  h46 : P.funs[46]? = some d__law_host_fits
  h47 : P.funs[47]? = some d__law_path_fits
  h48 : P.funs[48]? = some d__law_ended
  h49 : P.funs[49]? = some d__law_safe_fits
  h50 : P.funs[50]? = some d__law_side_fits
  h51 : P.funs[51]? = some d__law_why
structure HasDraw (P : Prog) : Prop where
  h9 : P.funs[9]? = some d__law_cell
  h10 : P.funs[10]? = some d__law_mix
  h11 : P.funs[11]? = some d__law_host
  h12 : P.funs[12]? = some d__law_path
  h13 : P.funs[13]? = some d__law_note
  h16 : P.funs[16]? = some d__law_rules
  h17 : P.funs[17]? = some d__law_ask
theorem s_why (F : HasFit P) (hx : x.Ok) (ha : a.Ok) : callF P (n + 3) 44 [r.pv, x.pv, a.pv] μ = .ok (optT (whyF r x a)) μ := by
  refine callF_pure F.h44 rfl rfl (by simp [x.okArg, r.okArg, a.okArg]) (μ' := []) ?_ (optT_pure _)
  have e1 := s_host_fits (n := n) (μ := []) (r := r) F.h29 F.h39 hx ha.host
  have e2 := s_path_fits (n := n) (μ := []) (r := r) F.h31 F.h40 hx ha.path
  have e3 := s_ended (n := n + 1) (μ := []) (r := r) (x := x) (t := a.time) F.h41
  have e4 := s_safe_fits (n := n + 1) (μ := []) (r := r) (x := x) (a := a) F.h42
  have e5 := s_side_fits (n := n) (μ := []) (r := r) (x := x) F.h30 F.h43 ha
  cases b1 : hostF r x a.host with
  | false => simp [d_why_not, startE, whyF, optT, e1, b1]
  | true =>
    cases b2 : pathF r x a.path with
    | false => simp [d_why_not, startE, whyF, optT, e1, e2, b1, b2]
    | true =>
      cases b3 : endF r x a.time with
      | true => simp [d_why_not, startE, whyF, optT, e1, e2, e3, b1, b2, b3]
      | false =>
        cases b4 : safeF r x a with
        | false => simp [d_why_not, startE, whyF, optT, e1, e2, e3, e4, b1, b2, b3, b4]
        | true => cases b5 : sideF r x a <;> simp [d_why_not, startE, whyF, optT, e1, e2, e3, e4, e5, b1, b2, b3, b4, b5]
theorem s_goes (F : HasFit P) (hx : x.Ok) (ha : a.Ok) : callF P (n + 4) 45 [r.pv, x.pv, a.pv] μ = .ok (.bl (whyF r x a).isNone) μ := by
  refine callF_pure F.h45 rfl rfl (by simp [x.okArg, r.okArg, a.okArg]) (μ' := []) ?_ rfl
  have e1 := s_why (n := n) (μ := []) (r := r) F hx ha
  cases b : whyF r x a <;> simp [d_goes, startE, e1, b, optT]
theorem s_lwhy (L : HasLFit P) (hr : r.Ok) (hx : x.Ok) (ha : a.Ok) : callF P (n + 3) 51 [r.pv, x.pv, a.pv] μ = .ok (optT (whyF r x a)) μ := by
  refine callF_pure L.h51 rfl rfl (by simp [x.okArg, r.okArg, a.okArg]) (μ' := []) ?_ (optT_pure _)
  have e1 := s_lhost_fits (n := n) (μ := []) L.h46 hr hx ha.host
  have e2 := s_lpath_fits (n := n) (μ := []) (r := r) L.h37 L.h47 hx ha.path
  have e3 := s_lended (n := n + 1) (μ := []) (r := r) (x := x) (t := a.time) L.h48
  have e4 := s_lsafe_fits (n := n + 1) (μ := []) (r := r) (x := x) (a := a) L.h49
  have e5 := s_lside_fits (n := n) (μ := []) (r := r) (x := x) L.h36 L.h50 ha
  cases b1 : hostF r x a.host with
  | false => simp [d__law_why, startE, whyF, optT, e1, b1]
  | true =>
    cases b2 : pathF r x a.path with
    | false => simp [d__law_why, startE, whyF, optT, e1, e2, b1, b2]
    | true =>
      cases b3 : endF r x a.time with
      | true => simp [d__law_why, startE, whyF, optT, e1, e2, e3, b1, b2, b3]
      | false =>
        cases b4 : safeF r x a with
        | false => simp [d__law_why, startE, whyF, optT, e1, e2, e3, e4, b1, b2, b3, b4]
        | true => cases b5 : sideF r x a <;> simp [d__law_why, startE, whyF, optT, e1, e2, e3, e4, e5, b1, b2, b3, b4, b5]
end
end NR

/-! M9: the script as a value, all rules. -/
namespace NR
section
variable {P : Prog} {n : Nat} {μ : Sto}
@[simp] theorem x_rev (a : CE) {cs : CallS} {env : EnvP} : ev P cs (.rev a) env μ = (ev P cs a env μ).bind fun p μ => opRev p μ := by rw [ev] <;> rfl
@[simp] theorem x_rng3 (a b c : CE) {cs : CallS} {env : EnvP} : evi P cs (.rng3 a b c) env μ = (ev P cs a env μ).bind fun p μ => (ev P cs b env μ).bind fun q μ => (ev P cs c env μ).bind fun r μ => srcRng3 p q r μ := by rw [evi] <;> rfl
theorem y_sub (d i v : CE) {cs : CallS} {env : EnvP} : exec P cs (.sub d i v) env μ = RS.of env (ev P cs v env μ) fun x μ => RS.of env (ev P cs d env μ) fun y μ => RS.of env (ev P cs i env μ) fun z μ => match setSub y z x μ with | some μ => .nx env μ | none => .bad := by rw [exec] <;> rfl
/-- the script, or a list of numbers -/
def ScrV (v : PV) (ns : List Int) : Prop := v = .scr ns ∨ v = .lst (ns.map .int)
theorem ScrV.okArg {v : PV} {ns : List Int} (h : ScrV v ns) : okArg v = true := by
  rcases h with rfl | rfl
  · rfl
  · show pures (ns.map PV.int) = true
    exact pures_map (fun _ => rfl) ns
theorem s_cellV (h : P.funs[9]? = some d__law_cell) {v : PV} {ns : List Int} (hv : ScrV v ns) {k : Int} (hk : 0 ≤ k) : callF P (n + 1) 9 [v, .int k] μ = .ok (.int (cellI ns k)) μ := by
  rcases hv with rfl | rfl
  · exact s_cell h hk
  · refine callF_pure h rfl rfl ?_ (μ' := []) ?_ rfl
    · have := ScrV.okArg (v := .lst (ns.map .int)) (ns := ns) (.inr rfl)
      simp only [List.all_cons, this, List.all_nil]
      rfl
    · by_cases hl : k < ns.length
      · have e : opIdx (.lst (ns.map .int)) (.int k) [] = .ok (.int (ns.getD k.toNat 0)) [] := by
          refine i_lst hk ?_
          have : k.toNat < ns.length := by omega
          rw [List.getElem?_map, List.getD_eq_getElem?_getD, List.getElem?_eq_getElem this]
          rfl
        simp [d__law_cell, startE, hl, e, cellI]
      · simp [d__law_cell, startE, hl, cellI]
/-! ### all rules -/
def Wd0 : List (List Nat) := [wSigns, wSteps]
def W1 : List (List Nat) := [wAlways, wNever, wTold]
def W2 : List (List Nat) := [wUntil, wWith]
def W3 : List (List Nat) := [wFree, wMust]
def W4 : List (List Nat) := [wKeep, wLoose, wNone]
def W5 : List (List Nat) := [wLong, wNames, wOld]
def txts (xs : List (List Nat)) : PV := .tup (xs.map .str)
def WORDS : PV := .tup [txts Wd0, txts W1, txts W2]
def MOREW : PV := .tup [txts W3, txts W4, txts W5]
def ext (ts : List (List PV)) (ws : List (List Nat)) : List (List PV) := ts.flatMap fun t => ws.map fun w => t ++ [.str w]
def R1 := ext [[]] Wd0
def R2 := ext R1 W1
def R3 := ext R2 W2
def R4 := ext R3 W3
def R5 := ext R4 W4
def R6 := ext R5 W5
def allR : List Rul := Wd0.flatMap fun a => W1.flatMap fun b => W2.flatMap fun c => W3.flatMap fun d => W4.flatMap fun e => W5.map fun f => ⟨a, b, c, d, e, f⟩
theorem allR_pv : R6.map PV.tup = allR.map Rul.pv := by kernel_rfl
theorem allR_len : allR.length = 216 := by kernel_rfl
theorem allR_ok : ∀ r ∈ allR, r.Ok := by
  intro r hr
  simp only [allR, List.mem_flatMap, List.mem_map] at hr
  obtain ⟨a, ha, b, hb, c, hc, d, hd, e, he, f, hf, rfl⟩ := hr
  exact ⟨ha, hb, hc, hd, he, hf⟩
def rulLe (r s : Rul) : Bool := PySem.W.dataLe false toD r.pv s.pv
def ALLR : List Rul := allR.mergeSort rulLe
theorem ALLR_len : ALLR.length = 216 := by unfold ALLR; rw [List.length_mergeSort, allR_len]
theorem ALLR_ok : ∀ r ∈ ALLR, r.Ok := fun r hr => allR_ok r (List.mem_mergeSort.mp hr)
theorem sortP_rul (rs : List Rul) : sortP (rs.map Rul.pv) = (rs.mergeSort rulLe).map Rul.pv := by
  unfold sortP
  exact (PySem.W.sort_maps (r := rulLe) (s := PySem.W.dataLe false toD) Rul.pv (l := rs) (fun a _ b _ => rfl)).symm
theorem alike_rul (r s : Rul) : PySem.W.alike (toD r.pv) (toD s.pv) = true := rfl
theorem sortable_rul (rs : List Rul) : sortable (rs.map Rul.pv) = true := by
  unfold sortable
  simp only [Bool.and_eq_true, Bool.or_eq_true, List.all_eq_true, List.mem_map, forall_exists_index, and_imp, forall_apply_eq_imp_iff₂]
  refine ⟨⟨fun r _ => ⟨rfl, rfl⟩, fun r _ s _ => alike_rul r s⟩, .inl fun r _ => rfl⟩
abbrev allBody : List CS := match d_all_rules.body with | _ :: .forr _ _ b :: _ => b | _ => []
theorem all_loop {cs : CallS} : forLoop (.items [txts Wd0, txts W1, txts W2, txts W3, txts W4, txts W5]) (fun x env μ => match setPat (.v 1) x env with | some env' => execs P cs allBody env' μ | none => .bad) 6 0 [some (.lst [.tup []]), none, none, none, none] [] =
    .nx [some (.loc 5), some (txts W5), some (.loc 5), some (.tup [.str wSteps, .str wTold, .str wWith, .str wMust, .str wNone]), none] [.list (R1.map .tup), .list (R2.map .tup), .list (R3.map .tup), .list (R4.map .tup), .list (R5.map .tup), .list (R6.map .tup)] := by kernel_rfl
abbrev allMu : Sto := [.list (R1.map .tup), .list (R2.map .tup), .list (R3.map .tup), .list (R4.map .tup), .list (R5.map .tup), .list (R6.map .tup)]
theorem all_for (c6 : P.consts[6]? = some WORDS) (c7 : P.consts[7]? = some MOREW) {cs : CallS} : exec P cs (.forr (.v 1) (.seq (.bin .add (.glo 6) (.glo 7))) allBody) [some (.lst [.tup []]), none, none, none, none] [] =
    .nx [some (.loc 5), some (txts W5), some (.loc 5), some (.tup [.str wSteps, .str wTold, .str wWith, .str wMust, .str wNone]), none] allMu := by
  have e : evi P cs (.seq (.bin .add (.glo 6) (.glo 7))) [some (.lst [.tup []]), none, none, none, none] [] = .ok (.items [txts Wd0, txts W1, txts W2, txts W3, txts W4, txts W5]) [] := by
    simp [c6, c7, WORDS, MOREW, srcSeq]
  have e2 : (Src.items [txts Wd0, txts W1, txts W2, txts W3, txts W4, txts W5]).most [] = 6 := rfl
  rw [y_for, e, of_ok, e2]
  exact all_loop
theorem all_sorted : opB1 .sorted (.loc 5) allMu = .ok (.lst (ALLR.map Rul.pv)) allMu := by
  have h : opB1 .sorted (.loc 5) allMu = opSorted (.lst (R6.map .tup)) allMu := rfl
  rw [h, allR_pv]
  unfold opSorted
  rw [see_lst']
  show (if sortable (allR.map Rul.pv) = true then R.ok (PV.lst (sortP (allR.map Rul.pv))) _ else .bad) = _
  rw [if_pos (sortable_rul _), sortP_rul]
  rfl
theorem s_all_rules (h32 : P.funs[32]? = some d_all_rules) (c6 : P.consts[6]? = some WORDS) (c7 : P.consts[7]? = some MOREW) : callF P (n + 1) 32 [] μ = .ok (.tup (ALLR.map Rul.pv)) μ := by
  refine callF_pure h32 rfl rfl rfl (μ' := allMu) ?_ (pures_map (fun _ => rfl) _)
  show endOf (execs P (callF P n) (.asg (.v 0) (.lst [.tup []]) :: .forr (.v 1) (.seq (.bin .add (.glo 6) (.glo 7))) allBody :: .ret (.b1 .tuple (.b1 .sorted (.var 0))) :: []) [none, none, none, none, none] []) = _
  rw [ex_step (env1 := [some (.lst [.tup []]), none, none, none, none]) (μ1 := []) (by simp)]
  rw [ex_step (all_for c6 c7)]
  generalize hm : allMu = M
  have e2 := all_sorted
  rw [hm] at e2
  simp [-List.map_map, e2]
end
end NR

/-! M10: how what fits changes with rules and asks. -/
namespace NR
theorem slaj_append {as bs : List Lab} (ha : as ≠ []) (hb : bs ≠ []) : TL.joinL [47] (as ++ bs) = TL.joinL [47] as ++ 47 :: TL.joinL [47] bs := by
  induction as with
  | nil => exact absurd rfl ha
  | cons a r ih =>
    by_cases hr : r = []
    · subst hr
      exact slaj_cons a hb
    · rw [List.cons_append, slaj_cons a (by simp [hr]), slaj_cons a hr, ih hr]
      simp
theorem sla_prefix {as bs : List Lab} (h : as <+: bs) : sla as <+: sla bs := by
  obtain ⟨t, rfl⟩ := h
  by_cases ha : as = []
  · subst ha
    exact ⟨TL.joinL [47] ([] ++ t), rfl⟩
  · by_cases ht : t = []
    · subst ht
      rw [List.append_nil]
      exact List.prefix_refl _
    · refine ⟨47 :: TL.joinL [47] t, ?_⟩
      show 47 :: TL.joinL [47] as ++ 47 :: TL.joinL [47] t = 47 :: TL.joinL [47] (as ++ t)
      rw [slaj_append ha ht]
      rfl
section
variable {r : Rul} {x : Note} {a : Ask}
theorem why_iff : (whyF r x a).isNone = (hostF r x a.host && (pathF r x a.path && (!endF r x a.time && (safeF r x a && sideF r x a)))) := by
  unfold whyF
  cases hostF r x a.host <;> cases pathF r x a.path <;> cases endF r x a.time <;> cases safeF r x a <;> cases sideF r x a <;> rfl
theorem goes_iff : (whyF r x a).isNone = true ↔ hostF r x a.host = true ∧ pathF r x a.path = true ∧ endF r x a.time = false ∧ safeF r x a = true ∧ sideF r x a = true := by
  rw [why_iff]
  simp only [Bool.and_eq_true, Bool.not_eq_true']
theorem path_signs {p : List Lab} (h : r.w0 = wSteps) (g : pathF r x p = true) {w : List Nat} (hw : w = wSigns) : pathF { r with w0 := w } x p = true := by
  subst hw
  unfold pathF at *
  rw [h] at g
  have e1 : (wSteps == wSigns) = false := by decide
  have e2 : (wSigns == wSigns) = true := by decide
  rw [e1] at g
  rw [e2]
  simp only [Bool.false_eq_true, if_false, beq_iff_eq] at g
  simp only [if_true, List.isPrefixOf_iff_prefix]
  refine sla_prefix ?_
  rw [← g]
  exact List.take_prefix _ _
theorem mono0 (h : r.w0 = wSteps) (g : (whyF r x a).isNone = true) : (whyF { r with w0 := wSigns } x a).isNone = true := by
  rw [goes_iff] at *
  exact ⟨g.1, path_signs h g.2.1 rfl, g.2.2⟩
theorem mono1a (h : r.w1 = wNever) (g : (whyF r x a).isNone = true) : (whyF { r with w1 := wTold } x a).isNone = true := by
  rw [goes_iff] at *
  refine ⟨?_, g.2⟩
  have g := g.1
  unfold hostF at *
  rw [h] at g
  simp only [Bool.or_eq_true, Bool.and_eq_true] at *
  rcases g with g | g
  · exact .inl g
  · rcases g.1 with z | z
    · exact absurd z (by decide)
    · exact absurd z.1 (by decide)
theorem mono1b (h : r.w1 = wTold) (g : (whyF r x a).isNone = true) : (whyF { r with w1 := wAlways } x a).isNone = true := by
  rw [goes_iff] at *
  refine ⟨?_, g.2⟩
  have g := g.1
  unfold hostF at *
  rw [h] at g
  simp only [Bool.or_eq_true, Bool.and_eq_true] at *
  rcases g with g | g
  · exact .inl g
  · exact .inr ⟨.inl (by decide), g.2⟩
theorem mono2 (h : r.w2 = wUntil) (g : (whyF r x a).isNone = true) : (whyF { r with w2 := wWith } x a).isNone = true := by
  rw [goes_iff] at *
  refine ⟨g.1, g.2.1, ?_, g.2.2.2⟩
  have g := g.2.2.1
  unfold endF at *
  cases hf : x.fin with
  | none => rfl
  | some f =>
    rw [hf] at g
    rw [h] at g
    have e1 : (wUntil == wUntil) = true := by decide
    have e2 : (wWith == wUntil) = false := by decide
    simp only [e1, if_true, decide_eq_false_iff_not] at g
    simp only [e2, Bool.false_eq_true, if_false, decide_eq_false_iff_not]
    omega
theorem mono3 (h : r.w3 = wMust) (g : (whyF r x a).isNone = true) : (whyF { r with w3 := wFree } x a).isNone = true := by
  rw [goes_iff] at *
  refine ⟨g.1, g.2.1, g.2.2.1, ?_, g.2.2.2.2⟩
  unfold safeF
  have : (wFree == wFree) = true := by decide
  simp [this]
theorem mono4a (h : r.w4 = wKeep) (g : (whyF r x a).isNone = true) : (whyF { r with w4 := wLoose } x a).isNone = true := by
  rw [goes_iff] at *
  refine ⟨g.1, g.2.1, g.2.2.1, g.2.2.2.1, ?_⟩
  have g := g.2.2.2.2
  unfold sideF at *
  cases ho : a.origin with
  | none => rfl
  | some o =>
    rw [ho] at g
    rw [h] at g
    have e1 : (wKeep == wNone) = false := by decide
    have e2 : (wKeep == wLoose) = false := by decide
    have e3 : (wLoose == wLoose) = true := by decide
    simp only [e1, e2, Bool.false_or, Bool.or_false] at g
    simp only [e3, Bool.or_true, Bool.and_true]
    cases h1 : (siteL o == siteL a.host) <;> cases h2 : (x.side == wAny) <;> cases h3 : a.home <;> simp_all
theorem mono4b (h : r.w4 = wLoose) (g : (whyF r x a).isNone = true) : (whyF { r with w4 := wNone } x a).isNone = true := by
  rw [goes_iff] at *
  refine ⟨g.1, g.2.1, g.2.2.1, g.2.2.2.1, ?_⟩
  unfold sideF
  cases ho : a.origin with
  | none => rfl
  | some o =>
    have e3 : (wNone == wNone) = true := by decide
    simp [e3]
/-- the ask of the note's own home, safe, from nowhere -/
def homeA (x : Note) (a : Ask) : Ask := ⟨x.host, x.path, a.time, true, none, a.home⟩
def openA (a : Ask) : Ask := { a with safe := true, origin := none }
def bareN (x : Note) : Note := { x with fin := none, safe := false, side := wAny }
def atA (x : Note) (a : Ask) : Ask := { a with host := x.host, path := x.path }
theorem homeA_ok (hx : x.Ok) (ha : a.Ok) : (homeA x a).Ok := ⟨hx.host, hx.path, fun ls e => (by cases e), ha.time⟩
theorem openA_ok (ha : a.Ok) : (openA a).Ok := ⟨ha.host, ha.path, fun ls e => (by cases e), ha.time⟩
theorem bareN_ok (hx : x.Ok) : (bareN x).Ok := ⟨hx.name, hx.worth, hx.host, hx.path, fun i e => (by cases e), by show wAny ∈ [wOwn, wNear, wAny]; decide, hx.hs, hx.ps, hx.pl⟩
theorem atA_ok (hx : x.Ok) (ha : a.Ok) : (atA x a).Ok := ⟨hx.host, hx.path, ha.origin, ha.time⟩
theorem path_own : pathF r x x.path = true := by
  unfold pathF
  split
  · rw [List.isPrefixOf_iff_prefix]; exact List.prefix_refl _
  · rw [List.take_length]; simp
theorem host_own : hostF r x x.host = true := by simp [hostF]
theorem goes_home (g : (whyF r x a).isNone = true) : (whyF r x (homeA x a)).isNone = true := by
  rw [goes_iff] at *
  exact ⟨host_own, path_own, g.2.2.1, by simp [safeF, homeA], rfl⟩
theorem goes_open (g : (whyF r x a).isNone = true) : (whyF r x (openA a)).isNone = true := by
  rw [goes_iff] at *
  exact ⟨g.1, g.2.1, g.2.2.1, by simp [safeF, openA], rfl⟩
theorem side_bare : sideF r (bareN x) a = true := by
  unfold sideF
  split
  · rfl
  · have e : ((bareN x).side == wAny) = true := by show (wAny == wAny) = true; decide
    simp [e]
theorem goes_at : (whyF r (bareN x) (atA x a)).isNone = true := by
  rw [goes_iff]
  exact ⟨host_own (x := bareN x), path_own (x := bareN x), rfl, rfl, side_bare⟩
theorem goes_bare (g : (whyF r x a).isNone = true) : (whyF r (bareN x) a).isNone = true := by
  rw [goes_iff] at *
  exact ⟨g.1, g.2.1, rfl, rfl, side_bare⟩
theorem why_old {w : List Nat} : whyF { r with w5 := w } x a = whyF r x a := rfl
theorem end_mono {t u : Int} (h : t ≤ u) (e : endF r x t = true) : endF r x u = true := by
  unfold endF at *
  cases hf : x.fin with
  | none => rw [hf] at e; cases e
  | some f =>
    rw [hf] at e
    revert e
    dsimp only
    split <;> simp only [decide_eq_true_eq] <;> omega
end
end NR

/-! N1: straight-line evaluation, loops that change the store. -/
namespace NR
theorem le_SL {m : Nat} (h : m ≤ 10000) : (m ≤ SL) ↔ True := ⟨fun _ => trivial, fun _ => SL_big h⟩
section
variable {P : Prog} {cs : CallS} {env : EnvP} {μ : Sto}
@[simp] theorem x_newd0 : ev P cs (.newd [] []) env μ = .ok (.loc μ.length) (μ ++ [.dict []]) := by rw [ev, evs]; rfl
@[simp] theorem x_isx (e : CE) (k : Nat) : ev P cs (.isx e k) env μ = (ev P cs e env μ).bind fun p μ => match p with | .exc c => .ok (.bl (P.sup c k)) μ | _ => .bad := by rw [ev] <;> rfl
@[simp] theorem y_raise (k : Nat) : exec P cs (.raise k) env μ = .exn k env μ := by rw [exec] <;> rfl
@[simp] theorem y_try (body : List CS) (c : Nat) (slot goal : Option Nat) (e : CE) (ds : List Nat) : exec P cs (.tryy body c slot goal e ds) env μ = match execs P cs body env μ with
    | .exn d env' μ' => if ds.contains d then (if P.sup d c then suiteEnd slot goal (ev P cs e (suiteEnv slot d env') []) env' μ' else .exn d env' μ') else .bad
    | r => r := by rw [exec] <;> rfl
/-! ### loops -/
theorem for_i {xs : List PV} {turn : PV → EnvP → Sto → RS} {I : Nat → EnvP → Sto → Prop} : ∀ (n i : Nat) (env : EnvP) (μ : Sto), n = xs.length - i → i ≤ xs.length → I i env μ → (∀ j (hj : j < xs.length) env μ, I j env μ → ∃ env' μ', turn xs[j] env μ = .nx env' μ' ∧ I (j + 1) env' μ') → ∃ env' μ', forLoop (.items xs) turn n i env μ = .nx env' μ' ∧ I xs.length env' μ'
  | 0, i, env, μ, hn, hi, h0, ht => by
    rw [forLoop]
    have h : xs.length = i := by omega
    have e : (Src.items xs).at μ i = some none := by show some xs[i]? = _; rw [List.getElem?_eq_none_iff.mpr (by omega)]
    rw [e, h]
    exact ⟨env, μ, rfl, h0⟩
  | n + 1, i, env, μ, hn, hi, h0, ht => by
    rw [forLoop]
    have h : i < xs.length := by omega
    have e : (Src.items xs).at μ i = some (some xs[i]) := by show some xs[i]? = _; rw [List.getElem?_eq_getElem h]
    rw [e]
    obtain ⟨env1, μ1, e1, h1⟩ := ht i h env μ h0
    obtain ⟨env2, μ2, e2, h2⟩ := for_i n (i + 1) env1 μ1 (by omega) h h1 ht
    refine ⟨env2, μ2, ?_, h2⟩
    show (turn xs[i] env μ).andThen _ = _
    rw [e1]
    exact e2
/-- a loop over things that are there, turn by turn -/
theorem y_for_i {p : Pat} {it : CI} {body : List CS} {xs : List PV} {I : Nat → EnvP → Sto → Prop} (hi : evi P cs it env μ = .ok (.items xs) μ) (h0 : I 0 env μ)
    (ht : ∀ j (hj : j < xs.length) env μ, I j env μ → ∃ env1 env' μ', setPat p xs[j] env = some env1 ∧ execs P cs body env1 μ = .nx env' μ' ∧ I (j + 1) env' μ') : ∃ env' μ', exec P cs (.forr p it body) env μ = .nx env' μ' ∧ I xs.length env' μ' := by
  rw [y_for, hi, of_ok]
  refine for_i (I := I) _ 0 env μ (by show xs.length = _; omega) (Nat.zero_le _) h0 fun j hj env μ h => ?_
  obtain ⟨env1, env', μ', e1, e2, h2⟩ := ht j hj env μ h
  refine ⟨env', μ', ?_, h2⟩
  show (match setPat p xs[j] env with | some env' => execs P cs body env' μ | none => .bad) = _
  rw [e1]
  exact e2
theorem i_rng {m : Int} (h : small62 m = true) {e : CE} (he : ev P cs e env μ = .ok (.int m) μ) : evi P cs (.rng1 e) env μ = .ok (.items ((List.range m.toNat).map fun (k : Nat) => PV.int k)) μ := by
  rw [x_rng1, he, R.ok_bind]
  show (if small62 m = true then R.ok (Src.items ((List.range m.toNat).map fun (k : Nat) => PV.int k)) μ else .bad) = _
  rw [if_pos h]
/-- over a range -/
theorem y_rng {i : Nat} {e : CE} {body : List CS} {m : Int} {I : Nat → EnvP → Sto → Prop} (hs : small62 m = true) (he : ev P cs e env μ = .ok (.int m) μ) (h0 : I 0 env μ)
    (ht : ∀ (j : Nat), (j : Int) < m → ∀ env μ, I j env μ → ∃ env' μ', execs P cs body (env.set i (some (.int j))) μ = .nx env' μ' ∧ I (j + 1) env' μ') : ∃ env' μ', exec P cs (.forr (.v i) (.rng1 e) body) env μ = .nx env' μ' ∧ I m.toNat env' μ' := by
  have h := y_for_i (P := P) (cs := cs) (p := .v i) (body := body) (I := I) (i_rng hs he) h0 fun j hj env μ hI => by
    have hj' : (j : Int) < m := by rw [List.length_map, List.length_range] at hj; omega
    obtain ⟨env', μ', e1, e2⟩ := ht j hj' env μ hI
    refine ⟨_, env', μ', pat_v _ _, ?_, e2⟩
    simpa using e1
  simpa using h
/-! ### comprehensions over cells -/
def SrcIs (src : Src) (xs : List PV) (μ : Sto) : Prop := src.most μ = xs.length ∧ ∀ i, src.at μ i = some xs[i]?
theorem src_items (xs : List PV) : SrcIs (.items xs) xs μ := ⟨rfl, fun _ => rfl⟩
theorem src_live {k : Nat} {xs : List PV} (h : μ[k]? = some (.list xs)) : SrcIs (.live k) xs μ := by
  refine ⟨?_, fun i => ?_⟩
  · show (match μ[k]? with | some (.list xs) => xs.length | _ => 0) = _
    rw [h]
  · show (match μ[k]? with | some (.list xs) => some xs[i]? | _ => none) = _
    rw [h]
theorem loop_src {src : Src} {xs : List PV} {turn : PV → Sto → R (Option PV)} (hs : SrcIs src xs μ) (ht : ∀ x ∈ xs, ∃ o, turn x μ = .ok o μ) : ∀ (n i : Nat) (acc : List PV), compLoop src turn n i acc μ = compLoop (.items xs) turn n i acc μ
  | 0, i, acc => by
    rw [compLoop, compLoop, hs.2 i]
    rfl
  | n + 1, i, acc => by
    rw [compLoop, compLoop, hs.2 i]
    show (match some xs[i]? with | some none => _ | some (some x) => _ | none => _) = (match some xs[i]? with | some none => _ | some (some x) => _ | none => _)
    cases e : xs[i]? with
    | none => rfl
    | some x =>
      obtain ⟨o, ho⟩ := ht x (List.mem_of_getElem? e)
      show (turn x μ).bind _ = (turn x μ).bind _
      rw [ho, R.ok_bind, R.ok_bind]
      cases o with
      | none => exact loop_src hs ht n (i + 1) acc
      | some y =>
        show (if _ then _ else _) = (if _ then _ else _)
        rw [loop_src hs ht n (i + 1) (acc ++ [y])]
theorem comp_pureS {elt : CE} {p : Pat} {it : CI} {cond : Option CE} {src : Src} {xs : List PV} {g : PV → Option PV} (hi : evi P cs it env μ = .ok src μ) (hs : SrcIs src xs μ) (hl : xs.length ≤ SL)
    (ht : ∀ x ∈ xs, turnOf P cs elt p cond env x μ = .ok (g x) μ) : ev P cs (.comp false elt p it cond) env μ = .ok (.lst (xs.filterMap g)) μ := by
  rw [ev_comp, hi, R.ok_bind, hs.1, loop_src hs fun x hx => ⟨_, ht x hx⟩, compLoop_pure xs.length 0 [] (by omega) ht (by simpa using hl)]
  rfl
theorem comp_mapS {elt : CE} {p : Pat} {it : CI} {src : Src} {xs : List PV} {g : PV → PV} (hi : evi P cs it env μ = .ok src μ) (hs : SrcIs src xs μ) (hl : xs.length ≤ SL)
    (ht : ∀ x ∈ xs, ∃ env', setPat p x (wipeE env (patSlots p)) = some env' ∧ ev P cs elt env' μ = .ok (g x) μ) : ev P cs (.comp false elt p it none) env μ = .ok (.lst (xs.map g)) μ := by
  rw [comp_pureS (g := fun x => some (g x)) hi hs hl]
  · rw [List.filterMap_eq_map']
  · intro x hx
    obtain ⟨env', e1, e2⟩ := ht x hx
    unfold turnOf
    rw [e1]
    show ((ev P cs elt env' μ).bind fun y μ => R.ok (some y) μ) = _
    rw [e2]
    rfl
theorem fm_filter {α β : Type} (g : α → β) (t : α → Bool) : ∀ xs : List α, xs.filterMap (fun x => if t x then some (g x) else none) = (xs.filter t).map g
  | [] => rfl
  | x :: xs => by
    rw [List.filterMap_cons, List.filter_cons, fm_filter g t xs]
    cases t x <;> simp
theorem comp_filterS {elt c : CE} {p : Pat} {it : CI} {src : Src} {xs : List PV} {g : PV → PV} {t : PV → Bool} (hi : evi P cs it env μ = .ok src μ) (hs : SrcIs src xs μ) (hl : xs.length ≤ SL)
    (ht : ∀ x ∈ xs, ∃ env', setPat p x (wipeE env (patSlots p)) = some env' ∧ (∃ q, ev P cs c env' μ = .ok q μ ∧ truth μ q = some (t x)) ∧ (t x = true → ev P cs elt env' μ = .ok (g x) μ)) : ev P cs (.comp false elt p it (some c)) env μ = .ok (.lst ((xs.filter t).map g)) μ := by
  rw [comp_pureS (g := fun x => if t x then some (g x) else none) hi hs hl, fm_filter]
  intro x hx
  obtain ⟨env', e1, ⟨q, e2, e3⟩, e4⟩ := ht x hx
  unfold turnOf
  rw [e1]
  show ((ev P cs c env' μ).bind _) = _
  rw [e2, R.ok_bind, e3]
  cases hb : t x with
  | true =>
    show ((ev P cs elt env' μ).bind fun y μ => R.ok (some y) μ) = _
    rw [e4 hb]; rfl
  | false => rfl
theorem y_cons' {s : CS} {ss : List CS} {env1 : EnvP} {μ1 : Sto} (h : exec P cs s env μ = .nx env1 μ1) : execs P cs (s :: ss) env μ = execs P cs ss env1 μ1 := by rw [y_cons, h]; rfl
end
/-- the statements go on, and then Q -/
def Ends (P : Prog) (cs : CallS) (ss : List CS) (env : EnvP) (μ : Sto) (Q : EnvP → Sto → Prop) : Prop := ∃ env' μ', execs P cs ss env μ = .nx env' μ' ∧ Q env' μ'
theorem Ends.step {P : Prog} {cs : CallS} {s : CS} {ss : List CS} {env : EnvP} {μ : Sto} {Q : EnvP → Sto → Prop} (env1 : EnvP) (μ1 : Sto) (h : exec P cs s env μ = .nx env1 μ1) (k : Ends P cs ss env1 μ1 Q) : Ends P cs (s :: ss) env μ Q := by
  obtain ⟨env', μ', e, q⟩ := k
  exact ⟨env', μ', (y_cons' h).trans e, q⟩
theorem Ends.nil {P : Prog} {cs : CallS} {env : EnvP} {μ : Sto} {Q : EnvP → Sto → Prop} (h : Q env μ) : Ends P cs [] env μ Q := ⟨env, μ, y_nil, h⟩
/-! ### cells -/
@[simp] theorem cell_last (μ : Sto) (c : Cell) : (μ ++ [c])[μ.length]? = some c := by simp
@[simp] theorem cell_set (μ : Sto) (c d : Cell) : (μ ++ [c]).set μ.length d = μ ++ [d] := by simp
theorem see_last (μ : Sto) (xs : List PV) : see (μ ++ [.list xs]) (.loc μ.length) = .lst xs := by unfold see; simp
section
variable {μ : Sto}
@[simp] theorem i_t0 (a : PV) (r : List PV) : opIdx (.tup (a :: r)) (.int 0) μ = .ok a μ := i_tup (by omega) rfl
@[simp] theorem i_l0 (a : PV) (r : List PV) : opIdx (.lst (a :: r)) (.int 0) μ = .ok a μ := i_lst (by omega) rfl
@[simp] theorem i_t1 (a b : PV) (r : List PV) : opIdx (.tup (a :: b :: r)) (.int 1) μ = .ok b μ := i_tup (by omega) rfl
@[simp] theorem i_l1 (a b : PV) (r : List PV) : opIdx (.lst (a :: b :: r)) (.int 1) μ = .ok b μ := i_lst (by omega) rfl
@[simp] theorem i_t2 (a b c : PV) (r : List PV) : opIdx (.tup (a :: b :: c :: r)) (.int 2) μ = .ok c μ := i_tup (by omega) rfl
@[simp] theorem i_l2 (a b c : PV) (r : List PV) : opIdx (.lst (a :: b :: c :: r)) (.int 2) μ = .ok c μ := i_lst (by omega) rfl
@[simp] theorem i_t3 (a b c d : PV) (r : List PV) : opIdx (.tup (a :: b :: c :: d :: r)) (.int 3) μ = .ok d μ := i_tup (by omega) rfl
@[simp] theorem i_l3 (a b c d : PV) (r : List PV) : opIdx (.lst (a :: b :: c :: d :: r)) (.int 3) μ = .ok d μ := i_lst (by omega) rfl
@[simp] theorem i_t4 (a b c d e : PV) (r : List PV) : opIdx (.tup (a :: b :: c :: d :: e :: r)) (.int 4) μ = .ok e μ := i_tup (by omega) rfl
@[simp] theorem i_l4 (a b c d e : PV) (r : List PV) : opIdx (.lst (a :: b :: c :: d :: e :: r)) (.int 4) μ = .ok e μ := i_lst (by omega) rfl
@[simp] theorem i_t5 (a b c d e f : PV) (r : List PV) : opIdx (.tup (a :: b :: c :: d :: e :: f :: r)) (.int 5) μ = .ok f μ := i_tup (by omega) rfl
@[simp] theorem i_l5 (a b c d e f : PV) (r : List PV) : opIdx (.lst (a :: b :: c :: d :: e :: f :: r)) (.int 5) μ = .ok f μ := i_lst (by omega) rfl
@[simp] theorem i_t6 (a b c d e f g : PV) (r : List PV) : opIdx (.tup (a :: b :: c :: d :: e :: f :: g :: r)) (.int 6) μ = .ok g μ := i_tup (by omega) rfl
@[simp] theorem i_l6 (a b c d e f g : PV) (r : List PV) : opIdx (.lst (a :: b :: c :: d :: e :: f :: g :: r)) (.int 6) μ = .ok g μ := i_lst (by omega) rfl
@[simp] theorem i_t7 (a b c d e f g h : PV) (r : List PV) : opIdx (.tup (a :: b :: c :: d :: e :: f :: g :: h :: r)) (.int 7) μ = .ok h μ := i_tup (by omega) rfl
@[simp] theorem i_l7 (a b c d e f g h : PV) (r : List PV) : opIdx (.lst (a :: b :: c :: d :: e :: f :: g :: h :: r)) (.int 7) μ = .ok h μ := i_lst (by omega) rfl
@[simp] theorem cut6_to1 (a b c d e f : PV) : cutL [a, b, c, d, e, f] none (some 1) = [a] := rfl
@[simp] theorem cut6_from1 (a b c d e f : PV) : cutL [a, b, c, d, e, f] (some 1) none = [b, c, d, e, f] := rfl
@[simp] theorem cut6_to2 (a b c d e f : PV) : cutL [a, b, c, d, e, f] none (some 2) = [a, b] := rfl
@[simp] theorem cut6_from2 (a b c d e f : PV) : cutL [a, b, c, d, e, f] (some 2) none = [c, d, e, f] := rfl
@[simp] theorem cut6_to3 (a b c d e f : PV) : cutL [a, b, c, d, e, f] none (some 3) = [a, b, c] := rfl
@[simp] theorem cut6_from3 (a b c d e f : PV) : cutL [a, b, c, d, e, f] (some 3) none = [d, e, f] := rfl
@[simp] theorem cut6_to4 (a b c d e f : PV) : cutL [a, b, c, d, e, f] none (some 4) = [a, b, c, d] := rfl
@[simp] theorem cut6_from4 (a b c d e f : PV) : cutL [a, b, c, d, e, f] (some 4) none = [e, f] := rfl
@[simp] theorem cut6_to5 (a b c d e f : PV) : cutL [a, b, c, d, e, f] none (some 5) = [a, b, c, d, e] := rfl
@[simp] theorem cut6_from5 (a b c d e f : PV) : cutL [a, b, c, d, e, f] (some 5) none = [f] := rfl
@[simp] theorem cut8_to1 (a b c d e f g h : PV) : cutL [a, b, c, d, e, f, g, h] none (some 1) = [a] := rfl
@[simp] theorem cut8_from1 (a b c d e f g h : PV) : cutL [a, b, c, d, e, f, g, h] (some 1) none = [b, c, d, e, f, g, h] := rfl
@[simp] theorem cut8_to2 (a b c d e f g h : PV) : cutL [a, b, c, d, e, f, g, h] none (some 2) = [a, b] := rfl
@[simp] theorem cut8_from2 (a b c d e f g h : PV) : cutL [a, b, c, d, e, f, g, h] (some 2) none = [c, d, e, f, g, h] := rfl
@[simp] theorem cut8_to3 (a b c d e f g h : PV) : cutL [a, b, c, d, e, f, g, h] none (some 3) = [a, b, c] := rfl
@[simp] theorem cut8_from3 (a b c d e f g h : PV) : cutL [a, b, c, d, e, f, g, h] (some 3) none = [d, e, f, g, h] := rfl
@[simp] theorem cut8_to4 (a b c d e f g h : PV) : cutL [a, b, c, d, e, f, g, h] none (some 4) = [a, b, c, d] := rfl
@[simp] theorem cut8_from4 (a b c d e f g h : PV) : cutL [a, b, c, d, e, f, g, h] (some 4) none = [e, f, g, h] := rfl
@[simp] theorem cut8_to5 (a b c d e f g h : PV) : cutL [a, b, c, d, e, f, g, h] none (some 5) = [a, b, c, d, e] := rfl
@[simp] theorem cut8_from5 (a b c d e f g h : PV) : cutL [a, b, c, d, e, f, g, h] (some 5) none = [f, g, h] := rfl
@[simp] theorem cut8_to6 (a b c d e f g h : PV) : cutL [a, b, c, d, e, f, g, h] none (some 6) = [a, b, c, d, e, f] := rfl
@[simp] theorem cut8_from6 (a b c d e f g h : PV) : cutL [a, b, c, d, e, f, g, h] (some 6) none = [g, h] := rfl
@[simp] theorem cut8_to7 (a b c d e f g h : PV) : cutL [a, b, c, d, e, f, g, h] none (some 7) = [a, b, c, d, e, f, g] := rfl
@[simp] theorem cut8_from7 (a b c d e f g h : PV) : cutL [a, b, c, d, e, f, g, h] (some 7) none = [h] := rfl
end
section
variable {P : Prog} {n : Nat} {μ : Sto}
/-- a def that runs on a store of its own -/
theorem callF_pureS {i : Nat} {d : FDef} {args : List PV} {v : PV} {p : PV} {μ' : Sto} (h1 : P.funs[i]? = some d) (h2 : d.eff = false) (hl : args.length = d.np) (ha : args.all okArg = true)
    (h : endOf (execs P (callF P n) d.body (startE d args) []) = .ok p μ') (hs : see μ' p = v) (hv : pure? v = true) : callF P (n + 1) i args μ = .ok v μ := by
  have hm : args.map (see μ) = args := by
    have : ∀ l : List PV, l.all okArg = true → l.map (see μ) = l := by
      intro l
      induction l with
      | nil => intro _; rfl
      | cons a l ih =>
        intro h
        simp only [List.all_cons, Bool.and_eq_true] at h
        rw [List.map_cons, see_arg h.1, ih h.2]
    exact this args ha
  have hp : (args.all fun a => passes (see μ a)) = true := by
    rw [List.all_eq_true] at ha ⊢
    intro a hm
    have := ha a hm
    rw [see_arg this]
    cases a <;> first | exact this | (cases this; done)
  have hn : (args.all fun a => match a with | .loc _ => false | _ => true) = true := by
    rw [List.all_eq_true] at ha ⊢
    intro a hm
    have := ha a hm
    cases a <;> first | rfl | (cases this; done)
  rw [callF, h1]
  show (if args.length = d.np then _ else _) = _
  rw [if_pos hl, h2]
  show (if (args.all fun a => passes (see μ a)) = true then _ else _) = _
  rw [if_pos hp, hm, h]
  show (if _ then _ else _) = _
  have hs' : settle p μ' = v := hs
  rw [hs', hv]
  exact if_pos (by rw [Bool.true_and, Bool.or_eq_true]; exact Or.inl hn)
/-- .. that raises -/
theorem callF_exn {i c : Nat} {d : FDef} {args : List PV} {μ' : Sto} (h1 : P.funs[i]? = some d) (h2 : d.eff = false) (hl : args.length = d.np) (ha : args.all okArg = true)
    (h : endOf (execs P (callF P n) d.body (startE d args) []) = .exn c μ') : callF P (n + 1) i args μ = .exn c μ := by
  have hm : args.map (see μ) = args := by
    have : ∀ l : List PV, l.all okArg = true → l.map (see μ) = l := by
      intro l
      induction l with
      | nil => intro _; rfl
      | cons a l ih =>
        intro h
        simp only [List.all_cons, Bool.and_eq_true] at h
        rw [List.map_cons, see_arg h.1, ih h.2]
    exact this args ha
  have hp : (args.all fun a => passes (see μ a)) = true := by
    rw [List.all_eq_true] at ha ⊢
    intro a hm
    have := ha a hm
    rw [see_arg this]
    cases a <;> first | exact this | (cases this; done)
  rw [callF, h1]
  show (if args.length = d.np then _ else _) = _
  rw [if_pos hl, h2]
  show (if (args.all fun a => passes (see μ a)) = true then _ else _) = _
  rw [if_pos hp, hm, h]
end
end NR

/-! N2: drawn notes, several. -/
namespace NR
def markV (x : Note) : PV := .tup [.str x.name, .str (dot x.host), .str (sla x.path)]
theorem markV_pure (x : Note) : pure? (markV x) = true := rfl
theorem markV_dep (x : Note) : dep (markV x) ≤ 1 := by simp [markV, dep, deps]
/-- the path one step longer, the root where that is too long -/
def onward (p : List Lab) : List Lab := if p = [] then [] else if p.length < 3 then p ++ [[97]] else []
def noteN1 (c : Int) (n : Nat) (rows : List Note) : Note := match rows with
  | [] => noteD (c + 97 * n)
  | y :: _ => if mixI (c + n) 9859 2 = 0 then { noteD (c + 97 * n) with host := y.host } else noteD (c + 97 * n)
def noteP (c : Int) (n : Nat) (rows : List Note) (x : Note) : Note := match rows with
  | [] => x
  | y :: _ => if mixI (c + n) 9857 3 = 0 then { x with path := onward y.path } else x
def noteN (c : Int) (n : Nat) (rows : List Note) : Note := noteP c n rows (noteN1 c n rows)
def addN (rows : List Note) (x : Note) : List Note := if rows.any fun y => peq (markV y) (markV x) then rows else rows ++ [x]
def notesL (c : Int) : Nat → List Note
  | 0 => []
  | n + 1 => addN (notesL c n) (noteN c n (notesL c n))
def notesD (c : Int) (most : Int) : List Note := notesL c (mixI c 9871 (most + 1)).toNat
/-- a note as it is drawn -/
structure Drawn (x : Note) : Prop where
  ok : x.Ok
  hl : x.host.length ≤ 3
  pl : x.path.length ≤ 3
  ll : ∀ l ∈ x.path, l.length ≤ 2
theorem noteD_drawn (c : Int) : Drawn (noteD c) := ⟨noteD_ok c, hostL_len _, pathL_len _, pathL_lab _⟩
theorem Drawn.host {x y : Note} (h : Drawn x) (k : Drawn y) : Drawn { x with host := y.host } :=
  ⟨⟨h.ok.name, h.ok.worth, k.ok.host, h.ok.path, h.ok.fin, h.ok.side, k.ok.hs, h.ok.ps, h.ok.pl⟩, k.hl, h.pl, h.ll⟩
theorem onward_ok {p : List Lab} (h : LabsOk p) (h1 : p.length ≤ 3) (h2 : ∀ l ∈ p, l.length ≤ 2) : LabsOk (onward p) ∧ (onward p).length ≤ 3 ∧ ∀ l ∈ onward p, l.length ≤ 2 := by
  unfold onward
  split
  · exact ⟨⟨by simp, by simp⟩, by simp, by simp⟩
  · split
    · refine ⟨⟨by simp; omega, fun l hl => ?_⟩, by simp; omega, fun l hl => ?_⟩
      · rcases List.mem_append.mp hl with z | z
        · exact h.2 l z
        · rw [List.mem_singleton.mp z]; exact okL_of rfl
      · rcases List.mem_append.mp hl with z | z
        · exact h2 l z
        · rw [List.mem_singleton.mp z]; decide
    · exact ⟨⟨by simp, by simp⟩, by simp, by simp⟩
theorem Drawn.path {x : Note} {p : List Lab} (h : Drawn x) (k : LabsOk p ∧ p.length ≤ 3 ∧ ∀ l ∈ p, l.length ≤ 2) : Drawn { x with path := p } :=
  ⟨⟨h.ok.name, h.ok.worth, h.ok.host, k.1, h.ok.fin, h.ok.side, h.ok.hs, Nat.le_trans k.2.1 (by omega), fun l hl => Nat.le_trans (k.2.2 l hl) (by omega)⟩, h.hl, k.2.1, k.2.2⟩
theorem noteN_drawn {c : Int} {n : Nat} {rows : List Note} (h : ∀ x ∈ rows, Drawn x) : Drawn (noteN c n rows) := by
  have h1 : Drawn (noteN1 c n rows) := by
    cases rows with
    | nil => exact noteD_drawn _
    | cons y r =>
      show Drawn (if _ then _ else _)
      split
      · exact (noteD_drawn _).host (h y List.mem_cons_self)
      · exact noteD_drawn _
  unfold noteN
  generalize noteN1 c n rows = x1 at h1
  cases rows with
  | nil => exact h1
  | cons y r =>
    show Drawn (if _ then _ else _)
    split
    · have hy := h y List.mem_cons_self
      exact h1.path (onward_ok hy.ok.path hy.pl hy.ll)
    · exact h1
theorem notesL_drawn (c : Int) : ∀ n, ∀ x ∈ notesL c n, Drawn x
  | 0, x, h => by cases h
  | n + 1, x, h => by
    have ih := notesL_drawn c n
    unfold notesL addN at h
    split at h
    · exact ih x h
    · rcases List.mem_append.mp h with z | z
      · exact ih x z
      · rw [List.mem_singleton.mp z]; exact noteN_drawn ih
theorem notesL_len (c : Int) : ∀ n, (notesL c n).length ≤ n
  | 0 => Nat.le_refl _
  | n + 1 => by
    have ih := notesL_len c n
    unfold notesL addN
    split
    · omega
    · rw [List.length_append]; simp; omega
theorem notesD_ok {c m : Int} : ∀ x ∈ notesD c m, x.Ok := fun x h => (notesL_drawn c _ x h).ok
theorem notesD_len {c m : Int} (h : 0 ≤ m) : ((notesD c m).length : Int) ≤ m := by
  have h1 := notesL_len c (mixI c 9871 (m + 1)).toNat
  have h2 := mixI_lt (c := c) (p := 9871) (m := m + 1) (by omega)
  have h3 := mixI_nn (c := c) (p := 9871) (m := m + 1) (by omega)
  unfold notesD
  omega
section
variable {P : Prog} {n : Nat} {μ : Sto}
@[simp] theorem note_to1 (x : Note) : opSl x.pv none (some 1) μ = .ok (.tup [.str x.name]) μ := rfl
@[simp] theorem note_from1 (x : Note) : opSl x.pv (some 1) none μ = .ok (.tup [.str x.worth, .str (dot x.host), .bl x.wide, .str (sla x.path), optI x.fin, .bl x.safe, .str x.side]) μ := rfl
@[simp] theorem note_to2 (x : Note) : opSl x.pv none (some 2) μ = .ok (.tup [.str x.name, .str x.worth]) μ := rfl
@[simp] theorem note_from2 (x : Note) : opSl x.pv (some 2) none μ = .ok (.tup [.str (dot x.host), .bl x.wide, .str (sla x.path), optI x.fin, .bl x.safe, .str x.side]) μ := rfl
@[simp] theorem note_to3 (x : Note) : opSl x.pv none (some 3) μ = .ok (.tup [.str x.name, .str x.worth, .str (dot x.host)]) μ := rfl
@[simp] theorem note_from3 (x : Note) : opSl x.pv (some 3) none μ = .ok (.tup [.bl x.wide, .str (sla x.path), optI x.fin, .bl x.safe, .str x.side]) μ := rfl
@[simp] theorem note_to4 (x : Note) : opSl x.pv none (some 4) μ = .ok (.tup [.str x.name, .str x.worth, .str (dot x.host), .bl x.wide]) μ := rfl
@[simp] theorem note_from4 (x : Note) : opSl x.pv (some 4) none μ = .ok (.tup [.str (sla x.path), optI x.fin, .bl x.safe, .str x.side]) μ := rfl
@[simp] theorem note_to5 (x : Note) : opSl x.pv none (some 5) μ = .ok (.tup [.str x.name, .str x.worth, .str (dot x.host), .bl x.wide, .str (sla x.path)]) μ := rfl
@[simp] theorem note_from5 (x : Note) : opSl x.pv (some 5) none μ = .ok (.tup [optI x.fin, .bl x.safe, .str x.side]) μ := rfl
@[simp] theorem note_to6 (x : Note) : opSl x.pv none (some 6) μ = .ok (.tup [.str x.name, .str x.worth, .str (dot x.host), .bl x.wide, .str (sla x.path), optI x.fin]) μ := rfl
@[simp] theorem note_from6 (x : Note) : opSl x.pv (some 6) none μ = .ok (.tup [.bl x.safe, .str x.side]) μ := rfl
@[simp] theorem note_to7 (x : Note) : opSl x.pv none (some 7) μ = .ok (.tup [.str x.name, .str x.worth, .str (dot x.host), .bl x.wide, .str (sla x.path), optI x.fin, .bl x.safe]) μ := rfl
@[simp] theorem note_from7 (x : Note) : opSl x.pv (some 7) none μ = .ok (.tup [.str x.side]) μ := rfl
@[simp] theorem note_mid12 (x : Note) : opSl x.pv (some 1) (some 2) μ = .ok (.tup [.str x.worth]) μ := rfl
@[simp] theorem note_mid25 (x : Note) : opSl x.pv (some 2) (some 5) μ = .ok (.tup [.str (dot x.host), .bl x.wide, .str (sla x.path)]) μ := rfl
theorem s_lmark (h : P.funs[14]? = some d__law_mark) (x : Note) : callF P (n + 1) 14 [x.pv] μ = .ok (markV x) μ := by
  refine callF_pure h rfl rfl ?_ (μ' := []) ?_ rfl
  · simp [Note.okArg]
  · simp [d__law_mark, startE]; rfl
theorem s_mark (h : P.funs[5]? = some d_mark) (x : Note) : callF P (n + 1) 5 [x.pv] μ = .ok (markV x) μ := by
  refine callF_pure h rfl rfl ?_ (μ' := []) ?_ rfl
  · simp [Note.okArg]
  · simp [d_mark, startE]; rfl
theorem marks_data (rows : List Note) : data? (.lst (rows.map markV)) = true := dataL_map (k := 1) markV_pure markV_dep (by omega) rows
theorem map_map_pv {rows : List Note} {β : Type} (f : Note → β) (g : PV → β) (h : ∀ x, g x.pv = f x) : (rows.map Note.pv).map g = rows.map f := by
  rw [List.map_map]; exact List.map_congr_left fun x _ => h x
/-- the marks of rows -/
theorem ev_marks {cs : CallS} {env : EnvP} {f j : Nat} {it : CI} {src : Src} {rows : List Note} (hc : ∀ x ∈ rows, cs f [x.pv] μ = .ok (markV x) μ) (hl : rows.length ≤ 100) (hv : evi P cs it env μ = .ok src μ) (hs : SrcIs src (rows.map Note.pv) μ) (hj : j < env.length) :
    ev P cs (.comp false (.call f [(.var j)]) (.v j) it none) env μ = .ok (.lst (rows.map markV)) μ := by
  rw [comp_mapS (g := fun p => match p with | .tup [a, _, b, _, d, _, _, _] => .tup [a, b, d] | _ => .non) hv hs (SL_big (by rw [List.length_map]; omega))]
  · rw [map_map_pv markV]
    intro x; rfl
  · intro p hp
    obtain ⟨x, hx, rfl⟩ := List.mem_map.mp hp
    refine ⟨_, by rw [pat_v], ?_⟩
    have e : ((wipeE env (patSlots (.v j))).set j (some x.pv))[j]? = some (some x.pv) := by
      rw [List.getElem?_set_self]
      simp [patSlots, wipeE, hj]
    rw [x_call, x_cons, x_var, e]
    simp only [R.ok_bind, x_nil]
    exact hc x hx
theorem any_marks (rows : List Note) (x : Note) : (rows.map markV).any (fun y => peq y (markV x)) = rows.any fun y => peq (markV y) (markV x) := by rw [List.any_map]; rfl
theorem nin_marks (rows : List Note) (x : Note) : opCmp .nin (markV x) (.lst (rows.map markV)) μ = .ok (.bl (!rows.any fun y => peq (markV y) (markV x))) μ := by
  show opIn _ _ _ _ = _
  unfold opIn
  rw [see_lst']
  have h1 : data? (markV x) = true := rfl
  have h2 := marks_data rows
  show (match (if data? (markV x) && data? (.lst (rows.map markV)) then some ((rows.map markV).any fun y => peq y (markV x)) else none) with | some b => R.ok (PV.bl (b != true)) μ | none => .bad) = _
  rw [h1, h2, any_marks]
  simp
theorem in_marks (rows : List Note) (x : Note) : opCmp .in_ (markV x) (.lst (rows.map markV)) μ = .ok (.bl (rows.any fun y => peq (markV y) (markV x))) μ := by
  show opIn _ _ _ _ = _
  unfold opIn
  rw [see_lst']
  have h1 : data? (markV x) = true := rfl
  have h2 := marks_data rows
  show (match (if data? (markV x) && data? (.lst (rows.map markV)) then some ((rows.map markV).any fun y => peq y (markV x)) else none) with | some b => R.ok (PV.bl (b != false)) μ | none => .bad) = _
  rw [h1, h2, any_marks]
  simp
abbrev notesBody : List CS := match d__law_notes.body with | _ :: .forr _ _ b :: _ => b | _ => []
theorem ne_cell (xs : List Note) : opCmp .ne (.loc 0) (.lst []) [.list (xs.map Note.pv)] = .ok (.bl (!xs.isEmpty)) [.list (xs.map Note.pv)] := by
  have h : data? (.lst (xs.map Note.pv)) = true := dataL_map (k := 1) Note.pure Note.dep1 (by omega) xs
  show (if data? (.lst (xs.map Note.pv)) && data? (.lst []) then R.ok (PV.bl (peq (.lst (xs.map Note.pv)) (.lst []) != true)) _ else .bad) = _
  rw [h]
  cases xs <;> rfl
theorem ix_cell (x : Note) (xs : List Note) : opIdx (.loc 0) (.int 0) [.list (x.pv :: xs.map Note.pv)] = .ok x.pv [.list (x.pv :: xs.map Note.pv)] := by
  have h := i_lst (μ := [.list (x.pv :: xs.map Note.pv)]) (xs := x.pv :: xs.map Note.pv) (j := 0) (x := x.pv) (by omega) rfl
  exact h
theorem spl_len {p : List Lab} (hp : LabsOk p) : (TL.spl [47] 0 [] (sla p)).length = (if p = [] then 2 else p.length + 1) := by
  have e : TL.spl [47] 0 [] (sla p) = [] :: TL.spl [47] 0 [] (TL.joinL [47] p) := by
    show TL.spl [47] 0 [] (47 :: TL.joinL [47] p) = _
    rw [TL.spl_hit (by simp [TL.pre])]
    rfl
  rw [e]
  split
  · rename_i h; subst h; rfl
  · rename_i h; rw [spl_sla h hp]; simp
section
variable {cs : CallS} {c : Int} {k : Nat} {rows : List Note} {e0 e1 e3 e5 : Option PV}
theorem notes_s2 (hc : cs 10 [.int (c + k), .int 9859, .int 2] [.list (rows.map Note.pv)] = .ok (.int (mixI (c + k) 9859 2)) [.list (rows.map Note.pv)]) (he : e0 = some (.int c)) (h3 : e3 = some (.int k)) :
    exec P cs (match notesBody with | _ :: s :: _ => s | _ => .stop) [e0, e1, some (.loc 0), e3, some (noteD (c + 97 * k)).pv, e5] [.list (rows.map Note.pv)] = .nx [e0, e1, some (.loc 0), e3, some (noteN1 c k rows).pv, e5] [.list (rows.map Note.pv)] := by
  subst he h3
  have hn := ne_cell rows
  cases rows with
  | nil => simp at hn; simp [notesBody, d__law_notes, hn, noteN1]
  | cons y r =>
    have hi := ix_cell y r
    simp at hn hc
    by_cases hz : mixI (c + k) 9859 2 = 0
    · simp [notesBody, d__law_notes, hn, hc, hz, hi, noteN1]
      rfl
    · have hz' : (mixI (c + k) 9859 2 == 0) = false := by simpa using hz
      simp [notesBody, d__law_notes, hn, hc, hz', hz, noteN1]
/-- the path put anew -/
def longP (y : Note) : List Nat := if (sla y.path == [47]) = true then sla y.path else sla y.path ++ [47, 97]
theorem long_spl {y : Note} (hy : Drawn y) : (decide (((TL.spl [47] 0 [] (longP y)).length : Int) < 5)) = (if y.path = [] then true else decide (y.path.length < 3)) ∧ (if ((TL.spl [47] 0 [] (longP y)).length : Int) < 5 then longP y else [47]) = sla (onward y.path) ∧ (longP y).length ≤ 700 := by
  have hp := hy.ok.path
  have hs := sla_len hp
  by_cases h : y.path = []
  · have e : longP y = [47] := by unfold longP; rw [h]; rfl
    rw [e, h]
    refine ⟨by decide, by decide, by decide⟩
  · have e : longP y = sla (y.path ++ [[97]]) := by
      have hne : (sla y.path == [47]) = false := by
        rw [beq_eq_false_iff_ne]
        exact fun z => h ((sla_root hp).mp z)
      unfold longP
      rw [hne, if_neg (by decide)]
      show 47 :: TL.joinL [47] y.path ++ [47, 97] = 47 :: TL.joinL [47] (y.path ++ [[97]])
      rw [slaj_snoc [97] h]
      simp
    have hq : LabsOk (y.path ++ [[97]]) := ⟨by have := hy.pl; simp; omega, fun l hl => by
      rcases List.mem_append.mp hl with z | z
      · exact hp.2 l z
      · rw [List.mem_singleton.mp z]; exact okL_of rfl⟩
    have hlen : (TL.spl [47] 0 [] (longP y)).length = y.path.length + 2 := by
      rw [e, spl_len hq, if_neg (by simp)]
      simp
    rw [hlen, if_neg h]
    refine ⟨?_, ?_, ?_⟩
    · rw [decide_eq_decide]; omega
    · unfold onward
      rw [if_neg h]
      by_cases hk : y.path.length < 3
      · rw [if_pos hk, if_pos (by omega), e]
      · rw [if_neg hk, if_neg (by omega)]; rfl
    · have := sla_len hq
      rw [e]; omega
theorem notes_s3 (hd : ∀ x ∈ rows, Drawn x) (hc : cs 10 [.int (c + k), .int 9857, .int 3] [.list (rows.map Note.pv)] = .ok (.int (mixI (c + k) 9857 3)) [.list (rows.map Note.pv)]) (he : e0 = some (.int c)) (h3 : e3 = some (.int k)) :
    exec P cs (match notesBody with | _ :: _ :: s :: _ => s | _ => .stop) [e0, e1, some (.loc 0), e3, some (noteN1 c k rows).pv, e5] [.list (rows.map Note.pv)] = .nx [e0, e1, some (.loc 0), e3, some (noteN c k rows).pv, e5] [.list (rows.map Note.pv)] := by
  subst he h3
  have hn := ne_cell rows
  unfold noteN
  generalize noteN1 c k rows = x1
  cases rows with
  | nil => simp at hn; simp [notesBody, d__law_notes, hn, noteP]
  | cons y r =>
    have hi := ix_cell y r
    obtain ⟨l1, l2, l3⟩ := long_spl (hd y List.mem_cons_self)
    simp at hn hc
    by_cases hz : mixI (c + k) 9857 3 = 0
    · have hl2 : (longP y).length + 2 ≤ SL := SL_big (by omega)
      have hl4 : (sla y.path).length + 2 ≤ SL := SL_big (by have := sla_len (hd y List.mem_cons_self).ok.path; omega)
      obtain ⟨s, hs⟩ : ∃ s, sla y.path = s := ⟨_, rfl⟩
      have e : longP y = if (s == [47]) = true then s else s ++ [47, 97] := by unfold longP; rw [hs]
      rw [hs] at hl4
      obtain ⟨g, hg⟩ : ∃ g, longP y = g := ⟨_, rfl⟩
      rw [hg] at l2 hl2 e
      by_cases hp : (s == [47]) = true
      · rw [if_pos hp] at e
        subst e
        by_cases h5 : ((TL.spl [47] 0 [] g).length : Int) < 5
        · rw [if_pos h5] at l2
          simp [notesBody, d__law_notes, hn, hc, hz, hi, noteP, hs, hp, h5, hl2, hl4]
          rw [Note.pv, ← l2]
        · rw [if_neg h5] at l2
          simp [notesBody, d__law_notes, hn, hc, hz, hi, noteP, hs, hp, h5, hl2, hl4]
          rw [Note.pv, ← l2]
      · rw [if_neg hp] at e
        have hp : (s == [47]) = false := by simpa using hp
        by_cases h5 : ((TL.spl [47] 0 [] g).length : Int) < 5
        · rw [if_pos h5] at l2
          simp [notesBody, d__law_notes, hn, hc, hz, hi, noteP, hs, hp, ← e, h5, hl2, hl4]
          rw [Note.pv, ← l2]
        · rw [if_neg h5] at l2
          simp [notesBody, d__law_notes, hn, hc, hz, hi, noteP, hs, hp, ← e, h5, hl2, hl4]
          rw [Note.pv, ← l2]
    · have hz' : (mixI (c + k) 9857 3 == 0) = false := by simpa using hz
      simp [notesBody, d__law_notes, hn, hc, hz', hz, noteP]
end
/-- one more -/
theorem notes_turn (h10 : P.funs[10]? = some d__law_mix) (h11 : P.funs[11]? = some d__law_host) (h12 : P.funs[12]? = some d__law_path) (h13 : P.funs[13]? = some d__law_note) (h14 : P.funs[14]? = some d__law_mark) {c m : Int} {k : Nat} (hk : k ≤ 100) {rows : List Note} (hl : rows.length ≤ k) (hd : ∀ x ∈ rows, Drawn x) {e4 e5 : Option PV} :
    ∃ f4 f5, execs P (callF P (n + 3)) notesBody [some (.int c), some (.int m), some (.loc 0), some (.int k), e4, e5] [.list (rows.map Note.pv)] = .nx [some (.int c), some (.int m), some (.loc 0), some (.int k), f4, f5] [.list ((addN rows (noteN c k rows)).map Note.pv)] := by
  have k1 : callF P (n + 3) 13 [.int (c + 97 * k)] [.list (rows.map Note.pv)] = .ok (noteD (c + 97 * k)).pv [.list (rows.map Note.pv)] := s_note (n := n) h10 h11 h12 h13
  have k2 : callF P (n + 3) 10 [.int (c + k), .int 9859, .int 2] [.list (rows.map Note.pv)] = .ok (.int (mixI (c + k) 9859 2)) [.list (rows.map Note.pv)] := s_mix (n := n + 2) h10 (by omega) (by omega) (by omega)
  have k3 : callF P (n + 3) 10 [.int (c + k), .int 9857, .int 3] [.list (rows.map Note.pv)] = .ok (.int (mixI (c + k) 9857 3)) [.list (rows.map Note.pv)] := s_mix (n := n + 2) h10 (by omega) (by omega) (by omega)
  have k4 : ∀ x : Note, callF P (n + 3) 14 [x.pv] [.list (rows.map Note.pv)] = .ok (markV x) [.list (rows.map Note.pv)] := fun x => s_lmark (n := n + 2) h14 x
  have sm : small64 97 = true := by decide
  show ∃ f4 f5, execs P (callF P (n + 3)) (_ :: _ :: _ :: _ :: []) _ _ = _
  rw [y_cons' (env1 := [some (.int c), some (.int m), some (.loc 0), some (.int k), some (noteD (c + 97 * k)).pv, e5]) (μ1 := [.list (rows.map Note.pv)]) (by simp [k1, sm])]
  refine ⟨some (noteN c k rows).pv, e5, (y_cons' (notes_s2 (rows := rows) (c := c) (k := k) k2 rfl rfl)).trans ((y_cons' (notes_s3 (rows := rows) (c := c) (k := k) hd k3 rfl rfl)).trans ?_)⟩
  generalize noteN c k rows = x
  have hm := ev_marks (P := P) (cs := callF P (n + 3)) (env := [some (.int c), some (.int m), some (.loc 0), some (.int k), some x.pv, e5]) (f := 14) (j := 5) (it := .seq (.var 2)) (src := .live 0) (μ := [.list (rows.map Note.pv)]) (rows := rows) (fun x _ => k4 x) (by omega) (by simp [srcSeq]) (src_live rfl) (by simp)
  have hn := nin_marks (μ := [.list (rows.map Note.pv)]) rows x
  unfold addN
  cases hb : rows.any fun y => peq (markV y) (markV x) with
  | true =>
    rw [hb] at hn
    simp [k4, hm, hn]
  | false =>
    rw [hb] at hn
    have ha : opM .append (.loc 0) [x.pv] [.list (rows.map Note.pv)] = .ok .non [.list (rows.map Note.pv ++ [x.pv])] := by
      have hs : (rows.map Note.pv).length < SL := by rw [List.length_map]; unfold SL; omega
      show (if (rows.map Note.pv).length < SL then R.ok PV.non _ else .bad) = _
      rw [if_pos hs]; rfl
    have hr : recv .append (.loc 0) [.list (rows.map Note.pv)] = true := rfl
    simp [k4, hm, hn, ha, hr]
theorem pures_notes (rows : List Note) : pures (rows.map Note.pv) = true := pures_map Note.pure rows
theorem s_notes (h10 : P.funs[10]? = some d__law_mix) (h11 : P.funs[11]? = some d__law_host) (h12 : P.funs[12]? = some d__law_path) (h13 : P.funs[13]? = some d__law_note) (h14 : P.funs[14]? = some d__law_mark) (h15 : P.funs[15]? = some d__law_notes) {c m : Int} (h0 : 0 ≤ m) (hm : m ≤ 50) :
    callF P (n + 4) 15 [.int c, .int m] μ = .ok (.tup ((notesD c m).map Note.pv)) μ := by
  have b0 := mixI_nn (c := c) (p := 9871) (m := m + 1) (by omega)
  have b1 := mixI_lt (c := c) (p := 9871) (m := m + 1) (by omega)
  have k1 : callF P (n + 3) 10 [.int c, .int 9871, .int (m + 1)] [.list []] = .ok (.int (mixI c 9871 (m + 1))) [.list []] := s_mix (n := n + 2) h10 (by omega) (by omega) (by omega)
  obtain ⟨env', μ', hf, f3, f4, f5, rfl, rfl⟩ := y_rng (P := P) (cs := callF P (n + 3)) (i := 3) (e := .call 10 [.var 0, .con (.int 9871), .bin .add (.var 1) (.con (.int 1))]) (body := notesBody) (m := mixI c 9871 (m + 1)) (env := [some (.int c), some (.int m), some (.loc 0), none, none, none]) (μ := [.list []])
    (I := fun k env μ => ∃ f3 f4 f5, env = [some (.int c), some (.int m), some (.loc 0), f3, f4, f5] ∧ μ = [.list ((notesL c k).map Note.pv)]) (by unfold small62; simp; omega) (by simp [k1]) ⟨none, none, none, rfl, rfl⟩ fun k hk env μ hI => by
      obtain ⟨f3, f4, f5, rfl, rfl⟩ := hI
      obtain ⟨g4, g5, hg⟩ := notes_turn (n := n) h10 h11 h12 h13 h14 (c := c) (m := m) (k := k) (by omega) (rows := notesL c k) (notesL_len c k) (notesL_drawn c k) (e4 := f4) (e5 := f5)
      exact ⟨_, _, hg, _, _, _, rfl, rfl⟩
  refine callF_pureS h15 rfl rfl rfl (p := .tup ((notesD c m).map Note.pv)) (μ' := [.list ((notesD c m).map Note.pv)]) ?_ rfl (pures_notes _)
  show endOf (execs P (callF P (n + 3)) (_ :: _ :: _ :: []) [some (.int c), some (.int m), none, none, none, none] []) = _
  rw [y_cons' (env1 := [some (.int c), some (.int m), some (.loc 0), none, none, none]) (μ1 := [.list []]) (by simp [mkLst])]
  refine (congrArg endOf (y_cons' hf)).trans ?_
  have hb : opB1 .tuple (.loc 0) [.list ((notesD c m).map Note.pv)] = .ok (.tup ((notesD c m).map Note.pv)) [.list ((notesD c m).map Note.pv)] := rfl
  unfold notesD at hb ⊢
  simp [hb]
end
end NR

/-! N3: what lies below, whatever the text; houses; sites counted. -/
namespace NR
theorem join_spl : ∀ (z acc : List Nat), TL.joinL [46] (TL.spl [46] 0 acc z) = acc ++ z
  | [], acc => by rw [TL.spl_nil]; simp [TL.joinL]
  | c :: r, acc => by
    by_cases hc : c = 46
    · subst hc
      rw [TL.spl_hit (by simp [TL.pre])]
      show dot (acc :: TL.spl [46] 0 [] r) = _
      rw [dot_cons acc (spl_ne [46] r 0 [])]
      show acc ++ 46 :: TL.joinL [46] (TL.spl [46] 0 [] r) = _
      rw [join_spl r []]
      rfl
    · rw [TL.spl_miss (TL.pre_of_head [] _ hc), join_spl r]
      simp
abbrev labsOf (z : List Nat) : List Lab := TL.spl [46] 0 [] z
theorem dot_labs (z : List Nat) : dot (labsOf z) = z := by
  show TL.joinL [46] (TL.spl [46] 0 [] z) = z
  rw [join_spl]; rfl
def belowZ (z : List Nat) (bs : List Lab) : Bool := decide (bs.length < (labsOf z).length) && ((labsOf z).drop ((labsOf z).length - bs.length) == bs)
theorem belowZ_eq {z : List Nat} {bs : List Lab} (k : HostOk bs) : ends z (46 :: dot bs) = belowZ z bs := by
  unfold ends belowZ
  rw [Bool.eq_iff_iff]
  simp only [List.isSuffixOf_iff_suffix, Bool.and_eq_true, decide_eq_true_eq, beq_iff_eq]
  constructor
  · rintro ⟨p, e⟩
    have e2 : labsOf z = TL.spl [46] 0 [] p ++ bs := by
      show TL.spl [46] 0 [] z = _
      rw [← e, spl_app 46 (dot bs) p [], spl_dot k]
    have hl : 0 < (TL.spl [46] 0 [] p).length := List.length_pos_iff.mpr (spl_ne [46] p 0 [])
    rw [e2]
    refine ⟨by rw [List.length_append]; omega, ?_⟩
    rw [List.length_append, Nat.add_sub_cancel, List.drop_left]
  · rintro ⟨hl, e⟩
    have e2 : labsOf z = (labsOf z).take ((labsOf z).length - bs.length) ++ bs := by
      conv => lhs; rw [← List.take_append_drop ((labsOf z).length - bs.length) (labsOf z), e]
    have hn : (labsOf z).take ((labsOf z).length - bs.length) ≠ [] := fun q => by
      have q := congrArg List.length q
      rw [List.length_take, List.length_nil] at q
      have := List.length_pos_iff.mpr k.1
      omega
    refine ⟨dot ((labsOf z).take ((labsOf z).length - bs.length)), ?_⟩
    conv => rhs; rw [← dot_labs z, e2]
    exact (dot_append hn k.1).symm
/-- at it, or below -/
theorem atZ_eq {z : List Nat} {bs : List Lab} (k : HostOk bs) : (z == dot bs || ends z (46 :: dot bs)) = ((labsOf z).drop ((labsOf z).length - bs.length) == bs) := by
  rw [belowZ_eq k]
  unfold belowZ
  rw [Bool.eq_iff_iff]
  simp only [Bool.or_eq_true, Bool.and_eq_true, decide_eq_true_eq, beq_iff_eq]
  constructor
  · rintro (h | h)
    · have : labsOf z = bs := by rw [h]; exact spl_dot k
      rw [this]; simp
    · exact h.2
  · intro h
    by_cases hl : bs.length < (labsOf z).length
    · exact .inr ⟨hl, h⟩
    · left
      have : (labsOf z).length - bs.length = 0 := by omega
      rw [this, List.drop_zero] at h
      rw [← h, dot_labs]
theorem one_label {bs : List Lab} (k : HostOk bs) : (46 ∈ dot bs) ↔ bs.length ≠ 1 := by
  have hd : ∀ l : Lab, LabOk l → (46 ∉ l) := fun l h => lab_no h (by omega)
  rcases bs with _ | ⟨a, _ | ⟨b, r⟩⟩
  · exact absurd rfl k.1
  · have : dot [a] = a := by simp [TL.joinL]
    rw [this]
    simp
    exact hd a (k.2.2 a (by simp))
  · rw [dot_cons a (by simp)]
    simp
section
variable {P : Prog} {n : Nat} {μ : Sto}
theorem s_belowZ (h : P.funs[29]? = some d_is_below) {z : List Nat} {bs : List Lab} (hb : HostOk bs) : callF P (n + 1) 29 [.str z, .str (dot bs)] μ = .ok (.bl (belowZ z bs)) μ := by
  refine callF_pure h rfl rfl rfl (μ' := []) ?_ rfl
  have f1 := q1 hb.2 1 (by omega)
  simp [d_is_below, startE, f1, belowZ_eq hb]
def mayF (x : Note) (z : List Nat) : Bool := !(x.wide && decide (x.host.length = 1)) && ((labsOf z).drop ((labsOf z).length - x.host.length) == x.host)
theorem s_may_put (h29 : P.funs[29]? = some d_is_below) (h : P.funs[33]? = some d_may_put) {x : Note} (hx : x.Ok) {z : List Nat} : callF P (n + 2) 33 [x.pv, .str z] μ = .ok (.bl (mayF x z)) μ := by
  refine callF_pure h rfl rfl (by simp [Note.okArg]; rfl) (μ' := []) ?_ rfl
  have h1 : callF P (n + 1) 29 [.str z, .str (dot x.host)] [] = .ok (.bl (belowZ z x.host)) [] := s_belowZ h29 hx.host
  have h2 : opCmp .nin (.str [46]) (.str (dot x.host)) [] = .ok (.bl (decide (x.host.length = 1))) [] := by
    show R.ok (PV.bl (decide (46 ∈ dot x.host) != true)) [] = _
    have := one_label hx.host
    by_cases hc : x.host.length = 1
    · rw [decide_eq_false (fun z => this.mp z hc), decide_eq_true hc]; rfl
    · rw [decide_eq_true (this.mpr hc), decide_eq_false hc]; rfl
  have h3 := atZ_eq (z := z) hx.host
  rw [belowZ_eq hx.host] at h3
  unfold mayF
  rw [← h3]
  cases hw : x.wide with
  | false => cases hz : (z == dot x.host) <;> simp [d_may_put, startE, hw, h1, h2, hz]
  | true =>
    cases ho : decide (x.host.length = 1) with
    | true => rw [ho] at h2; simp [d_may_put, startE, hw, h1, h2]
    | false => rw [ho] at h2; cases hz : (z == dot x.host) <;> simp [d_may_put, startE, hw, h1, h2, hz]
end
/-! ### counted -/
abbrev Cnt := List (List Nat × Int)
def kvP (m : Cnt) : List (PV × PV) := m.map fun q => (.str q.1, .int q.2)
def lookC (k : List Nat) : Cnt → Int
  | [] => 0
  | (j, v) :: r => if j == k then v else lookC k r
def bump (k : List Nat) (m : Cnt) : Cnt := if m.any (fun q => q.1 == k) then m.map (fun q => if q.1 == k then (q.1, lookC k m + 1) else q) else m ++ [(k, 1)]
theorem lookC_get (k : List Nat) : ∀ m : Cnt, (lookD (.str k) (kvP m)).getD (.int 0) = .int (lookC k m)
  | [] => rfl
  | (j, v) :: r => by
    show (if (j == k) = true then some (PV.int v) else lookD (.str k) (kvP r)).getD (.int 0) = .int (if (j == k) = true then v else lookC k r)
    split
    · rfl
    · exact lookC_get k r
theorem lookC_some (k : List Nat) : ∀ m : Cnt, k ∈ m.map (·.1) → lookD (.str k) (kvP m) = some (.int (lookC k m))
  | [], h => by cases h
  | (j, v) :: r, h => by
    show (if (j == k) = true then some (PV.int v) else lookD (.str k) (kvP r)) = some (.int (if (j == k) = true then v else lookC k r))
    split
    · rfl
    · rename_i hj
      rcases List.mem_cons.mp h with z | z
      · exact absurd (by simpa using z.symm) hj
      · exact lookC_some k r z
theorem bump_put (k : List Nat) (m : Cnt) : putD (.str k) (.int (lookC k m + 1)) (kvP m) = kvP (bump k m) := by
  have h0 : (kvP m).any (fun kv => peq kv.1 (.str k)) = m.any fun q => q.1 == k := by
    unfold kvP
    rw [List.any_map]; rfl
  unfold putD bump
  rw [h0]
  by_cases hb : m.any (fun q => q.1 == k) = true
  · rw [if_pos hb, if_pos hb]
    unfold kvP
    rw [List.map_map, List.map_map]
    refine List.map_congr_left fun q _ => ?_
    show (if (q.1 == k) = true then (PV.str q.1, PV.int (lookC k m + 1)) else (PV.str q.1, PV.int q.2)) = _
    show _ = (PV.str (if (q.1 == k) = true then (q.1, lookC k m + 1) else q).1, PV.int (if (q.1 == k) = true then (q.1, lookC k m + 1) else q).2)
    split <;> rfl
  · rw [if_neg hb, if_neg hb]
    have hz : lookC k m = 0 := by
      clear h0
      induction m with
      | nil => rfl
      | cons q r ih =>
        simp only [List.any_cons, Bool.or_eq_true, not_or] at hb
        show (if (q.1 == k) = true then q.2 else lookC k r) = 0
        rw [if_neg hb.1, ih hb.2]
    rw [hz]
    unfold kvP
    rw [List.map_append]; rfl
theorem bump_len (k : List Nat) (m : Cnt) : (bump k m).length ≤ m.length + 1 := by
  unfold bump
  split <;> simp
def cntS (xs : List Note) : Cnt := xs.foldl (fun m x => bump (dot (siteL x.host)) m) []
theorem cnt_len (xs : List Note) : ∀ m : Cnt, (xs.foldl (fun m x => bump (dot (siteL x.host)) m) m).length ≤ m.length + xs.length := by
  induction xs with
  | nil => intro m; simp
  | cons x xs ih =>
    intro m
    have h := ih (bump (dot (siteL x.host)) m)
    have h2 := bump_len (dot (siteL x.host)) m
    simp only [List.foldl_cons, List.length_cons]
    omega
theorem cntS_len (xs : List Note) : (cntS xs).length ≤ xs.length := by
  have h := cnt_len xs []
  unfold cntS
  simpa using h
def siteRows (m : Cnt) : List PV := (sortP (m.map fun q => .str q.1)).map fun p => .tup [p, (lookD p (kvP m)).getD .non]
theorem siteRows_same (m : Cnt) : sameVs (siteRows m) = true ∧ deps (siteRows m) ≤ 1 := by
  unfold siteRows
  have hm : ∀ p ∈ sortP (m.map fun q => PV.str q.1), ∃ k, p = .str k ∧ k ∈ m.map (·.1) := fun p hp => by
    unfold sortP at hp
    rw [List.mem_mergeSort] at hp
    obtain ⟨q, hq, rfl⟩ := List.mem_map.mp hp
    exact ⟨q.1, rfl, List.mem_map_of_mem hq⟩
  generalize sortP (m.map fun q => PV.str q.1) = l at hm
  induction l with
  | nil => exact ⟨rfl, by simp [deps]⟩
  | cons p l ih =>
    obtain ⟨k, rfl, hk⟩ := hm p List.mem_cons_self
    obtain ⟨h1, h2⟩ := ih fun q hq => hm q (List.mem_cons_of_mem _ hq)
    rw [List.map_cons]
    refine ⟨?_, ?_⟩
    · show (sameV (PV.tup [.str k, (lookD (.str k) (kvP m)).getD .non]) && sameVs _) = true
      rw [h1, lookC_some k m hk]
      rfl
    · show max (dep (PV.tup [.str k, (lookD (.str k) (kvP m)).getD .non])) (deps _) ≤ 1
      rw [lookC_some k m hk]
      have : dep (PV.tup [.str k, (some (PV.int (lookC k m))).getD .non]) = 1 := rfl
      omega
section
variable {P : Prog} {n : Nat} {μ : Sto}
theorem get_cnt (k : List Nat) (m : Cnt) : opM .get (.loc μ.length) [.str k, .int 0] (μ ++ [.dict (kvP m)]) = .ok (.int (lookC k m)) (μ ++ [.dict (kvP m)]) := by
  simp [opM, mGet, key?, lookC_get]
theorem recv_cnt (m : Cnt) : recv .get (.loc μ.length) (μ ++ [.dict (kvP m)]) = true := by
  simp [recv, isDictP]
theorem sub_cnt (k : List Nat) {m : Cnt} (h : m.length < 100000) : setSub (.loc μ.length) (.str k) (.int (lookC k m + 1)) (μ ++ [.dict (kvP m)]) = some (μ ++ [.dict (kvP (bump k m))]) := by
  have hl : (kvP m).length < 100000 := by unfold kvP; simpa using h
  simp [setSub, key?, hl, bump_put]
theorem sorted_cnt {m : Cnt} (h : m.length < 64) : opB1 .sorted (.loc μ.length) (μ ++ [.dict (kvP m)]) = .ok (.lst (sortP (m.map fun q => .str q.1))) (μ ++ [.dict (kvP m)]) := by
  have e1 : see (μ ++ [.dict (kvP m)]) (.loc μ.length) = .loc μ.length := by unfold see; simp
  have e2 : (kvP m).map (·.1) = (m.map (·.1)).map PV.str := by unfold kvP; rw [List.map_map, List.map_map]; rfl
  have e3 : dictKeys (μ ++ [.dict (kvP m)]) (.loc μ.length) = some (m.map (·.1)) := by
    unfold dictKeys
    simp only [cell_last]
    rw [e2, allStr_map]
  show opSorted (.loc μ.length) _ = _
  unfold opSorted
  rw [e1]
  show opSortedD _ _ = _
  unfold opSortedD
  rw [e3]
  show (if (m.map (·.1)).length < 64 then R.ok (PV.lst (sortP ((m.map (·.1)).map .str))) _ else .bad) = _
  rw [if_pos (by simpa using h), List.map_map]
  rfl
theorem idx_cnt {k : List Nat} {m : Cnt} (h : k ∈ m.map (·.1)) : opIdx (.loc μ.length) (.str k) (μ ++ [.dict (kvP m)]) = .ok ((lookD (.str k) (kvP m)).getD .non) (μ ++ [.dict (kvP m)]) := by
  rw [lookC_some k m h]
  simp [opIdx, key?, lookC_some k m h]
/-- the rows of what is counted -/
theorem rows_cnt {cs : CallS} {env : EnvP} {i j : Nat} {m : Cnt} (h : m.length < 64) (hi : env[i]? = some (some (.loc μ.length))) (hij : i ≠ j) (hj : j < env.length) :
    ev P cs (.comp false (.tup [.var j, .idx (.var i) (.var j)]) (.v j) (.seq (.b1 .sorted (.var i))) none) env (μ ++ [.dict (kvP m)]) = .ok (.lst (siteRows m)) (μ ++ [.dict (kvP m)]) := by
  have hm : ∀ p ∈ sortP (m.map fun q => PV.str q.1), ∃ k, p = .str k ∧ k ∈ m.map (·.1) := fun p hp => by
    unfold sortP at hp
    rw [List.mem_mergeSort] at hp
    obtain ⟨q, hq, rfl⟩ := List.mem_map.mp hp
    exact ⟨q.1, rfl, List.mem_map_of_mem hq⟩
  refine comp_map (xs := sortP (m.map fun q => PV.str q.1)) (g := fun p => .tup [p, (lookD p (kvP m)).getD .non]) ?_ ?_ fun p hp => ?_
  · rw [x_seq, x_b1, x_var, hi]
    simp only [R.ok_bind]
    rw [sorted_cnt h]
    rfl
  · unfold sortP
    rw [List.length_mergeSort, List.length_map]
    exact SL_big (by omega)
  · obtain ⟨k, rfl, hk⟩ := hm p hp
    refine ⟨_, by rw [pat_v], ?_⟩
    have e1 : ((wipeE env (patSlots (.v j))).set j (some (.str k)))[j]? = some (some (.str k)) := by
      rw [List.getElem?_set_self]
      simp [patSlots, wipeE, hj]
    have e2 : ((wipeE env (patSlots (.v j))).set j (some (.str k)))[i]? = some (some (.loc μ.length)) := by
      rw [List.getElem?_set_ne (fun e => hij e.symm)]
      show (env.set j none)[i]? = _
      rw [List.getElem?_set_ne (fun e => hij e.symm)]
      exact hi
    simp [e1, e2, idx_cnt hk]
/-- one note more -/
theorem s_by_site (h30 : P.funs[30]? = some d_site) (h : P.funs[34]? = some d_by_site) {xs : List Note} (hx : ∀ x ∈ xs, x.Ok) (hl : xs.length < 50) : callF P (n + 2) 34 [.tup (xs.map Note.pv)] μ = .ok (.tup (siteRows (cntS xs))) μ := by
  have hc : ∀ k, k ≤ xs.length → (cntS (xs.take k)).length ≤ k := fun k hk => by
    have := cntS_len (xs.take k)
    rw [List.length_take] at this
    omega
  obtain ⟨env', μ', hf, f2, f3, rfl, rfl⟩ := y_for_i (P := P) (cs := callF P (n + 1)) (p := .v 2) (it := .seq (.var 0)) (body := match d_by_site.body with | _ :: .forr _ _ b :: _ => b | _ => []) (xs := xs.map Note.pv) (env := [some (.tup (xs.map Note.pv)), some (.loc 0), none, none]) (μ := [.dict (kvP [])])
    (I := fun k env μ => ∃ f2 f3, env = [some (.tup (xs.map Note.pv)), some (.loc 0), f2, f3] ∧ μ = [.dict (kvP (cntS (xs.take k)))]) (by simp [srcSeq]) ⟨_, _, rfl, by rw [List.take_zero]; rfl⟩ fun j hj env μ hI => by
      obtain ⟨f2, f3, rfl, rfl⟩ := hI
      rw [List.length_map] at hj
      have ht : cntS (xs.take (j + 1)) = bump (dot (siteL xs[j].host)) (cntS (xs.take j)) := by
        unfold cntS
        rw [List.take_succ_eq_append_getElem hj, List.foldl_append]; rfl
      have hs : callF P (n + 1) 30 [.str (dot xs[j].host)] [.dict (kvP (cntS (xs.take j)))] = .ok (.str (dot (siteL xs[j].host))) [.dict (kvP (cntS (xs.take j)))] := s_site (n := n) h30 (hx _ (List.getElem_mem hj)).host
      have g1 := get_cnt (μ := []) (dot (siteL xs[j].host)) (cntS (xs.take j))
      have g2 := recv_cnt (μ := []) (cntS (xs.take j))
      have g3 := sub_cnt (μ := []) (dot (siteL xs[j].host)) (m := cntS (xs.take j)) (by have := hc j (by omega); omega)
      simp only [List.length_nil, List.nil_append] at g1 g2 g3
      refine ⟨_, _, _, pat_v _ _, ?_, some xs[j].pv, f3, rfl, rfl⟩
      rw [ht]
      simp [d_by_site, y_sub, hs, g1, g2, g3]
  have hm : sameVs (siteRows (cntS xs)) = true ∧ deps (siteRows (cntS xs)) ≤ 1 := siteRows_same _
  refine callF_pure h rfl rfl ?_ (μ' := [.dict (kvP (cntS xs))]) ?_ (sameVs_pure _ hm.1)
  · have : okArg (.tup (xs.map Note.pv)) = true := pures_notes xs
    simp [this]
  · show endOf (execs P (callF P (n + 1)) (_ :: _ :: _ :: []) [some (.tup (xs.map Note.pv)), none, none, none] []) = _
    rw [y_cons' (env1 := [some (.tup (xs.map Note.pv)), some (.loc 0), none, none]) (μ1 := [.dict (kvP [])]) (by simp; rfl)]
    refine (congrArg endOf (y_cons' hf)).trans ?_
    rw [List.length_map, List.take_length]
    have hr := rows_cnt (P := P) (cs := callF P (n + 1)) (μ := []) (env := [some (.tup (xs.map Note.pv)), some (.loc 0), f2, f3]) (i := 1) (j := 3) (m := cntS xs) (by have := cntS_len xs; omega) rfl (by omega) (by simp)
    simp only [List.nil_append] at hr
    simp [hr]
end
end NR

/-! N5: sorted by a key, what is sent. -/
namespace NR
/-! ### sorting -/
/-- places that rise: sorted by the key and then by the place is sorted by the key -/
theorem sort_zip {α : Type} {le : α → α → Bool} {l : List (α × Nat)} (h : (l.map (·.2)).Pairwise (· < ·)) : (l.mergeSort (List.zipIdxLE le)).map (·.1) = (l.map (·.1)).mergeSort le := by
  let ix : Nat → Nat := fun i => (l.map (·.2)).getD i 0
  have hix : ∀ i (hi : i < l.length), ix i = l[i].2 := fun i hi => by
    show (l.map (·.2)).getD i 0 = _
    rw [List.getD_eq_getElem?_getD, List.getElem?_map, List.getElem?_eq_getElem hi]
    rfl
  have hlt : ∀ i j, i < j → j < l.length → ix i < ix j := fun i j hij hj => by
    rw [hix i (by omega), hix j hj]
    have := List.pairwise_iff_getElem.mp h i j (by simpa using Nat.lt_trans hij hj) (by simpa using hj) hij
    simpa using this
  have e : l = ((l.map (·.1)).zipIdx).map fun q => (q.1, ix q.2) := by
    refine List.ext_getElem (by simp) fun i h1 h2 => ?_
    rw [List.getElem_map, List.getElem_zipIdx]
    simp only [Nat.zero_add, List.getElem_map]
    rw [hix i h1]
  have hs : ∀ a ∈ (l.map (·.1)).zipIdx, ∀ b ∈ (l.map (·.1)).zipIdx, List.zipIdxLE le a b = List.zipIdxLE le (a.1, ix a.2) (b.1, ix b.2) := fun a ha b hb => by
    have la : a.2 < l.length := by
      have := (List.mem_zipIdx_iff_getElem?.mp ha)
      have := (List.getElem?_eq_some_iff.mp this).1
      simpa using this
    have lb : b.2 < l.length := by
      have := (List.mem_zipIdx_iff_getElem?.mp hb)
      have := (List.getElem?_eq_some_iff.mp this).1
      simpa using this
    have hle : decide (a.2 ≤ b.2) = decide (ix a.2 ≤ ix b.2) := by
      rw [decide_eq_decide]
      constructor
      · intro z
        rcases Nat.lt_or_eq_of_le z with z | z
        · exact Nat.le_of_lt (hlt _ _ z lb)
        · rw [z]; exact Nat.le_refl _
      · intro z
        rcases Nat.lt_or_ge b.2 a.2 with w | w
        · have := hlt _ _ w la; omega
        · exact w
    unfold List.zipIdxLE
    simp only [hle]
  have e2 := PySem.W.sort_maps (r := List.zipIdxLE le) (s := List.zipIdxLE le) (fun q : α × Nat => (q.1, ix q.2)) (l := (l.map (·.1)).zipIdx) hs
  conv => lhs; rw [e]
  rw [← e2, List.map_map]
  have : ((·.1) ∘ fun q : α × Nat => (q.1, ix q.2)) = (·.1) := rfl
  rw [this, List.mergeSort_zipIdx]
/-- nothing to sort by -/
theorem sort_any {α : Type} (l : List α) : l.mergeSort (fun _ _ => true) = l := List.mergeSort_of_pairwise (List.pairwise_of_forall fun _ _ => rfl)
theorem dle_is (a b : Int) (s t : List Nat) : (!PySem.W.dataLt (toD (.tup [.int b, .str t])) (toD (.tup [.int a, .str s]))) = (decide (a < b) || (decide (a = b) && decide (s ≤ t))) := by
  show (!PySem.W.dataLt (.tuple [.int b, .str ⟨t.toArray⟩]) (.tuple [.int a, .str ⟨s.toArray⟩])) = _
  rw [PySem.W.dataLt_pair (by simp [PySem.W.alike]) (by simp [PySem.W.alike]), PySem.W.dataLt_int, PySem.W.dataLt_str]
  simp only [PySem.PyData.eqv, beq_iff_eq]
  by_cases h1 : b = a
  · subst h1
    have hq : ((⟨t.toArray⟩ : PySem.Str) = ⟨s.toArray⟩) ↔ t = s := ⟨fun z => by simpa using congrArg (fun q : PySem.Str => q.cps.toList) z, fun z => by rw [z]⟩
    by_cases h2 : t = s
    · subst h2
      simp
    · have : ¬ ((⟨t.toArray⟩ : PySem.Str) = ⟨s.toArray⟩) := fun z => h2 (hq.mp z)
      simp [this, PySem.W.not_lt_str]
  · have h3 : ¬ a = b := fun z => h1 z.symm
    rw [if_neg h1]
    simp only [h3, decide_false, Bool.false_and, Bool.or_false]
    rw [PySem.W.not_lt_int, decide_eq_decide]
    omega
theorem dle_ii (a b i j : Int) : (!PySem.W.dataLt (toD (.tup [.int b, .int j])) (toD (.tup [.int a, .int i]))) = (decide (a < b) || (decide (a = b) && decide (i ≤ j))) := by
  show (!PySem.W.dataLt (.tuple [.int b, .int j]) (.tuple [.int a, .int i])) = _
  rw [PySem.W.dataLt_ii]
  by_cases h : b < a ∨ (b = a ∧ j < i)
  · have h' : ¬ (a < b ∨ (a = b ∧ i ≤ j)) := by omega
    simp [h]; omega
  · have h' : (a < b ∨ (a = b ∧ i ≤ j)) := by omega
    simp [h]; omega
theorem dle_si (s t : List Nat) (i j : Int) : (!PySem.W.dataLt (toD (.tup [.str t, .int j])) (toD (.tup [.str s, .int i]))) = (if s = t then decide (i ≤ j) else decide (s ≤ t)) := by
  show (!PySem.W.dataLt (.tuple [.str ⟨t.toArray⟩, .int j]) (.tuple [.str ⟨s.toArray⟩, .int i])) = _
  rw [PySem.W.dataLt_pair (by simp [PySem.W.alike]) (by simp [PySem.W.alike]), PySem.W.dataLt_int, PySem.W.dataLt_str]
  simp only [PySem.PyData.eqv, beq_iff_eq]
  have hq : ((⟨t.toArray⟩ : PySem.Str) = ⟨s.toArray⟩) ↔ t = s := ⟨fun z => by simpa using congrArg (fun q : PySem.Str => q.cps.toList) z, fun z => by rw [z]⟩
  by_cases h2 : t = s
  · subst h2
    by_cases h3 : j = i
    · subst h3; simp
    · simp [h3, PySem.W.not_lt_int]
  · have h4 : ¬ ((⟨t.toArray⟩ : PySem.Str) = ⟨s.toArray⟩) := fun z => h2 (hq.mp z)
    have h5 : ¬ s = t := fun z => h2 z.symm
    rw [if_neg h4, if_neg h5]
    exact PySem.W.not_lt_str _ _
end NR

/-! N6: comprehensions by what their things are, sorted by a key. -/
namespace NR
section
variable {P : Prog} {cs : CallS} {env : EnvP} {μ : Sto}
theorem loop_A {α : Type} {f : α → PV} {l : List α} {src : Src} {turn : PV → Sto → R (Option PV)} {g : α → Option PV} (hs : SrcIs src (l.map f) μ) : ∀ (n i : Nat) (acc : List PV), n = l.length - i → (∀ a ∈ l, turn (f a) μ = .ok (g a) μ) → acc.length + n ≤ SL →
    compLoop src turn n i acc μ = .ok (acc ++ (l.drop i).filterMap g) μ
  | 0, i, acc, hn, ht, hl => by
    rw [compLoop, hs.2 i]
    have h : l.length ≤ i := by omega
    rw [List.getElem?_eq_none_iff.mpr (by simpa using h), List.drop_eq_nil_of_le h]
    simp
  | n + 1, i, acc, hn, ht, hl => by
    rw [compLoop, hs.2 i]
    have h : i < l.length := by omega
    rw [List.getElem?_map, List.getElem?_eq_getElem h]
    show (turn (f l[i]) μ).bind _ = _
    rw [ht _ (List.getElem_mem h), R.ok_bind, List.drop_eq_getElem_cons h, List.filterMap_cons]
    cases e2 : g l[i] with
    | none =>
      show compLoop src turn n (i + 1) acc μ = _
      exact loop_A hs n (i + 1) acc (by omega) ht (by omega)
    | some y =>
      show (if acc.length < SL then compLoop src turn n (i + 1) (acc ++ [y]) μ else .bad) = _
      rw [if_pos (by omega), loop_A hs n (i + 1) (acc ++ [y]) (by omega) ht (by simp; omega)]
      simp
theorem comp_A {α : Type} {f : α → PV} {l : List α} {src : Src} {g : α → Option PV} {elt : CE} {p : Pat} {it : CI} {cond : Option CE} (hi : evi P cs it env μ = .ok src μ) (hs : SrcIs src (l.map f) μ) (hl : l.length ≤ SL)
    (ht : ∀ a ∈ l, turnOf P cs elt p cond env (f a) μ = .ok (g a) μ) : ev P cs (.comp false elt p it cond) env μ = .ok (.lst (l.filterMap g)) μ := by
  rw [ev_comp, hi, R.ok_bind, hs.1, List.length_map, loop_A hs l.length 0 [] (by omega) ht (by simpa using hl)]
  rfl
theorem comp_mapA {α : Type} {f : α → PV} {l : List α} {src : Src} {g : α → PV} {elt : CE} {p : Pat} {it : CI} (hi : evi P cs it env μ = .ok src μ) (hs : SrcIs src (l.map f) μ) (hl : l.length ≤ SL)
    (ht : ∀ a ∈ l, ∃ env', setPat p (f a) (wipeE env (patSlots p)) = some env' ∧ ev P cs elt env' μ = .ok (g a) μ) : ev P cs (.comp false elt p it none) env μ = .ok (.lst (l.map g)) μ := by
  rw [comp_A (g := fun a => some (g a)) hi hs hl, List.filterMap_eq_map']
  intro a ha
  obtain ⟨env', e1, e2⟩ := ht a ha
  unfold turnOf
  rw [e1]
  show ((ev P cs elt env' μ).bind fun y μ => R.ok (some y) μ) = _
  rw [e2]
  rfl
theorem comp_filterA {α : Type} {f : α → PV} {l : List α} {src : Src} {g : α → PV} {t : α → Bool} {elt c : CE} {p : Pat} {it : CI} (hi : evi P cs it env μ = .ok src μ) (hs : SrcIs src (l.map f) μ) (hl : l.length ≤ SL)
    (ht : ∀ a ∈ l, ∃ env', setPat p (f a) (wipeE env (patSlots p)) = some env' ∧ ev P cs c env' μ = .ok (.bl (t a)) μ ∧ (t a = true → ev P cs elt env' μ = .ok (g a) μ)) : ev P cs (.comp false elt p it (some c)) env μ = .ok (.lst ((l.filter t).map g)) μ := by
  rw [comp_A (g := fun a => if t a then some (g a) else none) hi hs hl, fm_filter]
  intro a ha
  obtain ⟨env', e1, e2, e4⟩ := ht a ha
  unfold turnOf
  rw [e1]
  show ((ev P cs c env' μ).bind _) = _
  rw [e2, R.ok_bind, tr_bl]
  cases hb : t a with
  | true =>
    show ((ev P cs elt env' μ).bind fun y μ => R.ok (some y) μ) = _
    rw [e4 hb]; rfl
  | false => rfl
theorem enum_zip {α : Type} (f : α → PV) (l : List α) : enumL (l.map f) = l.zipIdx.map fun q => .tup [.int (q.2 : Nat), f q.1] := by
  unfold enumL
  refine List.ext_getElem (by simp) fun i h1 h2 => ?_
  simp
/-! ### sorted by a key -/
theorem x_sortk (a key : CE) (i : Nat) : ev P cs (.sortk a i key) env μ = (ev P cs a env μ).bind fun p μ => listOf p μ fun xs => (keysBy (fun x μ => ev P cs key (env.set i (some x)) μ) xs μ).bind fun ks μ => sortBy xs ks μ := by rw [ev] <;> rfl
theorem keys_map {α : Type} {f k : α → PV} {key : PV → Sto → R PV} : ∀ l : List α, (∀ a ∈ l, key (f a) μ = .ok (k a) μ) → keysBy key (l.map f) μ = .ok (l.map k) μ
  | [], _ => rfl
  | a :: l, h => by
    show ((calm (key (f a) μ)).bind fun q μ => (keysBy key (l.map f) μ).bind fun ks μ => R.ok (q :: ks) μ) = _
    rw [h a List.mem_cons_self]
    show ((keysBy key (l.map f) μ).bind fun ks μ => R.ok (k a :: ks) μ) = _
    rw [keys_map l fun b hb => h b (List.mem_cons_of_mem _ hb)]
    rfl
theorem sort_keys {α : Type} {f k : α → PV} {le : α → α → Bool} {l : List α} (hs : sortable (l.map k) = true) (hle : ∀ a ∈ l, ∀ b ∈ l, (!PySem.W.dataLt (toD (k b)) (toD (k a))) = le a b) : sortBy (l.map f) (l.map k) μ = .ok (.lst ((l.mergeSort le).map f)) μ := by
  unfold sortBy
  rw [if_pos (by rw [hs]; simp)]
  have e1 : (l.map k).zip (l.map f) = l.map fun a => (k a, f a) := by rw [List.zip_map']
  have e2 := PySem.W.sort_maps (r := le) (s := PySem.W.dataLe false fun q : PV × PV => toD q.1) (fun a => (k a, f a)) (l := l) (fun a ha b hb => (hle a ha b hb).symm)
  rw [e1, ← e2, List.map_map]
  rfl
theorem sortable_map {α : Type} {k : α → PV} (h1 : ∀ a, pure? (k a) = true ∧ dep (k a) ≤ 64) (h2 : ∀ a b, PySem.W.alike (toD (k a)) (toD (k b)) = true) (h3 : ∀ a, (match k a with | .tup (_ :: _) => true | _ => false) = true) (l : List α) : sortable (l.map k) = true := by
  unfold sortable
  simp only [Bool.and_eq_true, Bool.or_eq_true, List.all_eq_true, List.mem_map, forall_exists_index, and_imp, forall_apply_eq_imp_iff₂]
  refine ⟨⟨fun a _ => ⟨(h1 a).1, by simpa using (h1 a).2⟩, fun a _ b _ => h2 a b⟩, .inl fun a _ => h3 a⟩
/-- sorted(xs, key=lambda x: ..) -/
theorem ev_sortk {α : Type} {f k : α → PV} {le : α → α → Bool} {l : List α} {a key : CE} {i : Nat} (ha : ev P cs a env μ = .ok (.lst (l.map f)) μ) (hk : ∀ x ∈ l, ev P cs key (env.set i (some (f x))) μ = .ok (k x) μ) (hs : sortable (l.map k) = true)
    (hle : ∀ a ∈ l, ∀ b ∈ l, (!PySem.W.dataLt (toD (k b)) (toD (k a))) = le a b) : ev P cs (.sortk a i key) env μ = .ok (.lst ((l.mergeSort le).map f)) μ := by
  rw [x_sortk, ha, R.ok_bind]
  show ((keysBy (fun x μ => ev P cs key (env.set i (some x)) μ) (l.map f) μ).bind fun ks μ => sortBy (l.map f) ks μ) = _
  rw [keys_map (k := k) l hk, R.ok_bind, sort_keys hs hle]
theorem execs_append (ts : List CS) : ∀ (ss : List CS) (env : EnvP) (μ : Sto), execs P cs (ss ++ ts) env μ = (execs P cs ss env μ).andThen fun env μ => execs P cs ts env μ
  | [], env, μ => by rw [List.nil_append, y_nil]; rfl
  | s :: ss, env, μ => by
    rw [List.cons_append, y_cons, y_cons]
    cases exec P cs s env μ with
    | nx env μ => exact execs_append ts ss env μ
    | rt p μ => rfl
    | exn c env μ => rfl
    | bad => rfl
/-! ### loops that hand back -/
theorem for_first {α : Type} {f : α → PV} {t : α → Bool} {v : α → PV} {turn : PV → EnvP → Sto → RS} {I : EnvP → Prop} {l : List α} : ∀ (n i : Nat) (env : EnvP), n = l.length - i → I env →
    (∀ a ∈ l, ∀ env, I env → if t a then turn (f a) env μ = .rt (v a) μ else ∃ env', turn (f a) env μ = .nx env' μ ∧ I env') →
    match (l.drop i).find? t with
    | some a => forLoop (.items (l.map f)) turn n i env μ = .rt (v a) μ
    | none => ∃ env', forLoop (.items (l.map f)) turn n i env μ = .nx env' μ ∧ I env'
  | 0, i, env, hn, h0, ht => by
    have h : l.length ≤ i := by omega
    rw [List.drop_eq_nil_of_le h, forLoop]
    have e : (Src.items (l.map f)).at μ i = some none := by show some (l.map f)[i]? = _; rw [List.getElem?_eq_none_iff.mpr (by simpa using h)]
    rw [e]
    exact ⟨env, rfl, h0⟩
  | n + 1, i, env, hn, h0, ht => by
    have h : i < l.length := by omega
    have e : (Src.items (l.map f)).at μ i = some (some (f l[i])) := by show some (l.map f)[i]? = _; rw [List.getElem?_map, List.getElem?_eq_getElem h]; rfl
    rw [List.drop_eq_getElem_cons h, List.find?_cons]
    have hh := ht _ (List.getElem_mem h) env h0
    cases hb : t l[i] with
    | true =>
      rw [hb, if_pos rfl] at hh
      rw [forLoop, e]
      show (turn (f l[i]) env μ).andThen _ = _
      rw [hh]; rfl
    | false =>
      rw [hb, if_neg (by decide)] at hh
      obtain ⟨env1, e1, h1⟩ := hh
      have ih := for_first (t := t) (v := v) (turn := turn) (I := I) n (i + 1) env1 (by omega) h1 ht
      have es : forLoop (.items (l.map f)) turn (n + 1) i env μ = forLoop (.items (l.map f)) turn n (i + 1) env1 μ := by
        rw [forLoop, e]
        show (turn (f l[i]) env μ).andThen _ = _
        rw [e1]; rfl
      rw [es]
      exact ih
theorem y_for_first {α : Type} {f : α → PV} {t : α → Bool} {v : α → PV} {I : EnvP → Prop} {l : List α} {p : Pat} {it : CI} {body : List CS} (hi : evi P cs it env μ = .ok (.items (l.map f)) μ) (h0 : I env)
    (ht : ∀ a ∈ l, ∀ env, I env → ∃ env1, setPat p (f a) env = some env1 ∧ if t a then execs P cs body env1 μ = .rt (v a) μ else ∃ env', execs P cs body env1 μ = .nx env' μ ∧ I env') :
    match l.find? t with
    | some a => exec P cs (.forr p it body) env μ = .rt (v a) μ
    | none => ∃ env', exec P cs (.forr p it body) env μ = .nx env' μ ∧ I env' := by
  rw [y_for, hi, of_ok]
  have h := for_first (μ := μ) (f := f) (t := t) (v := v) (turn := fun x env μ => match setPat p x env with | some env' => execs P cs body env' μ | none => .bad) (I := I) (l := l) l.length 0 env (by omega) h0 fun a ha env hI => by
    obtain ⟨env1, e1, h1⟩ := ht a ha env hI
    rw [e1]
    exact h1
  have e : (Src.items (l.map f)).most μ = l.length := by show (l.map f).length = _; simp
  rw [e]
  exact h
end
end NR

/-! N7: what is sent. -/
namespace NR
def wKey (r : Rul) (x : Note) : PV := if r.w5 == wLong then .tup [.int (0 - ((sla x.path).length : Nat)), .str []] else if r.w5 == wNames then .tup [.int 0, .str x.name] else .tup [.int 0, .str []]
def sentLe (r : Rul) (x y : Note) : Bool := if r.w5 == wLong then decide ((0 - ((sla x.path).length : Nat) : Int) ≤ 0 - ((sla y.path).length : Nat)) else if r.w5 == wNames then decide (x.name ≤ y.name) else true
theorem wKey_le (r : Rul) (x y : Note) : (!PySem.W.dataLt (toD (wKey r y)) (toD (wKey r x))) = sentLe r x y := by
  unfold wKey sentLe
  by_cases h1 : (r.w5 == wLong) = true
  · simp only [if_pos h1]
    rw [dle_is]
    have : decide (([] : List Nat) ≤ []) = true := by decide
    rw [this, Bool.and_true, ← Bool.decide_or, decide_eq_decide]
    omega
  · simp only [if_neg h1]
    by_cases h2 : (r.w5 == wNames) = true
    · simp only [if_pos h2]
      rw [dle_is]
      simp
    · simp only [if_neg h2]
      rw [dle_is]
      simp
theorem wKey_ok (r : Rul) : (∀ x, pure? (wKey r x) = true ∧ dep (wKey r x) ≤ 64) ∧ (∀ x y, PySem.W.alike (toD (wKey r x)) (toD (wKey r y)) = true) ∧ ∀ x, (match wKey r x with | .tup (_ :: _) => true | _ => false) = true := by
  unfold wKey
  by_cases h1 : (r.w5 == wLong) = true
  · simp only [if_pos h1]
    exact ⟨fun x => ⟨rfl, by simp [dep, deps]⟩, fun x y => rfl, fun x => by first | trivial | rfl⟩
  · simp only [if_neg h1]
    by_cases h2 : (r.w5 == wNames) = true
    · simp only [if_pos h2]
      exact ⟨fun x => ⟨rfl, by simp [dep, deps]⟩, fun x y => rfl, fun x => by first | trivial | rfl⟩
    · simp only [if_neg h2]
      exact ⟨fun x => ⟨rfl, by simp [dep, deps]⟩, fun x y => rfl, fun x => by first | trivial | rfl⟩
def goL (r : Rul) (a : Ask) (xs : List Note) : List Note := xs.filter fun x => (whyF r x a).isNone
def sentL (r : Rul) (a : Ask) (xs : List Note) : List Note := (goL r a xs).mergeSort (sentLe r)
def pairV (x : Note) : PV := .tup [.str x.name, .str x.worth]
theorem sentL_mem {r : Rul} {a : Ask} {xs : List Note} {x : Note} (h : x ∈ sentL r a xs) : x ∈ xs := by
  unfold sentL goL at h
  rw [List.mem_mergeSort] at h
  exact (List.mem_filter.mp h).1
theorem sentL_len {r : Rul} {a : Ask} {xs : List Note} : (sentL r a xs).length ≤ xs.length := by
  unfold sentL goL
  rw [List.length_mergeSort]
  exact List.length_filter_le _ _
theorem pures_pairs (ys : List Note) : pures (ys.map pairV) = true := pures_map (fun _ => rfl) ys
theorem pairs_dep (ys : List Note) : deps (ys.map pairV) ≤ 1 := deps_map (k := 1) (fun x => by simp [pairV, dep, deps]) ys
theorem pairs_same : ∀ ys : List Note, sameVs (ys.map pairV) = true
  | [] => rfl
  | y :: ys => by
    show (sameV (pairV y) && sameVs (ys.map pairV)) = true
    rw [pairs_same ys]; rfl
structure HasSent (P : Prog) : Prop where
  fit : HasFit P
  h56 : P.funs[56]? = some d_place
  h57 : P.funs[57]? = some d_sent
  h58 : P.funs[58]? = some d_reasons
  h59 : P.funs[59]? = some d_head_of
  h60 : P.funs[60]? = some d_head
  h61 : P.funs[61]? = some d_named
section
variable {P : Prog} {n : Nat} {μ : Sto} {r : Rul} {x : Note} {a : Ask} {xs : List Note}
theorem s_place (S : HasSent P) (hx : x.Ok) : callF P (n + 1) 56 [r.pv, x.pv] μ = .ok (wKey r x) μ := by
  refine callF_pure S.h56 rfl rfl (by simp [Note.okArg, Rul.okArg]) (μ' := []) ?_ ((wKey_ok r).1 x).1
  have hl : (TL.joinL [47] x.path).length + 1 ≤ SL := SL_big (by have := sla_len hx.path; simp at this; omega)
  unfold wKey
  cases h1 : (r.w5 == wLong) with
  | true => simp [d_place, startE, h1, hl]
  | false =>
    cases h2 : (r.w5 == wNames) with
    | true => simp [d_place, startE, h1, h2]
    | false => simp [d_place, startE, h1, h2]
theorem s_sent (S : HasSent P) (hx : ∀ x ∈ xs, x.Ok) (ha : a.Ok) (hl : xs.length ≤ 1000) : callF P (n + 5) 57 [r.pv, .tup (xs.map Note.pv), a.pv] μ = .ok (.tup ((sentL r a xs).map pairV)) μ := by
  refine callF_pure S.h57 rfl rfl ?_ (μ' := []) ?_ (pures_pairs _)
  · have : okArg (.tup (xs.map Note.pv)) = true := pures_notes xs
    simp [Rul.okArg, Ask.okArg, this]
  have c1 := comp_filterA (P := P) (cs := callF P (n + 4)) (env := [some r.pv, some (.tup (xs.map Note.pv)), some a.pv, none, none]) (μ := []) (f := Note.pv) (l := xs) (g := Note.pv) (t := fun x => (whyF r x a).isNone) (elt := .var 4) (c := .call 45 [(.var 0), (.var 4), (.var 2)]) (p := .v 4) (it := .seq (.var 1)) (src := .items (xs.map Note.pv)) (by simp [srcSeq]) (src_items _) (SL_big (by omega)) fun x hxm => by
    have k := s_goes (n := n) (μ := []) (r := r) S.fit (hx x hxm) ha
    exact ⟨_, pat_v _ _, by simp [patSlots, wipeE, k], fun _ => by simp [patSlots, wipeE]⟩
  have hgo : ∀ x ∈ goL r a xs, x.Ok := fun x hm => hx x (List.mem_filter.mp hm).1
  have c2 := ev_sortk (P := P) (cs := callF P (n + 4)) (env := [some r.pv, some (.tup (xs.map Note.pv)), some a.pv, some (.lst ((goL r a xs).map Note.pv)), none]) (μ := []) (f := Note.pv) (k := wKey r) (le := sentLe r) (l := goL r a xs) (a := .var 3) (key := .call 56 [(.var 0), (.var 4)]) (i := 4) (by simp) (fun x hm => by simp [s_place (n := n + 3) S (hgo x hm)])
    (sortable_map (wKey_ok r).1 (wKey_ok r).2.1 (wKey_ok r).2.2 _) (fun x _ y _ => wKey_le r x y)
  have c3 := comp_mapA (P := P) (cs := callF P (n + 4)) (env := [some r.pv, some (.tup (xs.map Note.pv)), some a.pv, some (.lst ((goL r a xs).map Note.pv)), none]) (μ := []) (f := Note.pv) (l := sentL r a xs) (g := pairV) (elt := .sl (.var 4) none (some (.con (.int 2)))) (p := .v 4) (it := .seq (.sortk (.var 3) 4 (.call 56 [(.var 0), (.var 4)]))) (src := .items ((sentL r a xs).map Note.pv)) (by rw [x_seq, c2]; rfl) (src_items _) (SL_big (by have := sentL_len (r := r) (a := a) (xs := xs); omega)) fun x hxm =>
    ⟨_, pat_v _ _, by simp [patSlots, wipeE]; rfl⟩
  show endOf (execs P (callF P (n + 4)) (_ :: _ :: []) [some r.pv, some (.tup (xs.map Note.pv)), some a.pv, none, none] []) = _
  rw [y_cons' (env1 := [some r.pv, some (.tup (xs.map Note.pv)), some a.pv, some (.lst ((goL r a xs).map Note.pv)), none]) (μ1 := []) (by rw [y_asg, c1]; rfl)]
  rw [y_cons, y_ret, x_b1, c3]
  rfl
theorem s_reasons (S : HasSent P) (hx : ∀ x ∈ xs, x.Ok) (ha : a.Ok) (hl : xs.length ≤ 1000) : callF P (n + 4) 58 [r.pv, .tup (xs.map Note.pv), a.pv] μ = .ok (.tup (xs.map fun x => optT (whyF r x a))) μ := by
  refine callF_pure S.h58 rfl rfl ?_ (μ' := []) ?_ (pures_map (fun x => optT_pure _) _)
  · have : okArg (.tup (xs.map Note.pv)) = true := pures_notes xs
    simp [Rul.okArg, Ask.okArg, this]
  have c1 := comp_mapA (P := P) (cs := callF P (n + 3)) (env := [some r.pv, some (.tup (xs.map Note.pv)), some a.pv, none]) (μ := []) (f := Note.pv) (l := xs) (g := fun x => optT (whyF r x a)) (elt := .call 44 [(.var 0), (.var 3), (.var 2)]) (p := .v 3) (it := .seq (.var 1)) (src := .items (xs.map Note.pv)) (by simp [srcSeq]) (src_items _) (SL_big (by omega)) fun x hxm => by
    have k := s_why (n := n) (μ := []) (r := r) S.fit (hx x hxm) ha
    exact ⟨_, pat_v _ _, by simp [patSlots, wipeE, k]⟩
  show endOf (execs P (callF P (n + 3)) (_ :: []) [some r.pv, some (.tup (xs.map Note.pv)), some a.pv, none] []) = _
  rw [y_cons, y_ret, x_b1, c1]
  rfl
/-! ### as a text -/
def pairT (x : Note) : List Nat := (x.name ++ [61]) ++ x.worth
def headT (ys : List Note) : List Nat := TL.joinL [59, 32] (ys.map pairT)
theorem pairT_len (hx : x.Ok) : (pairT x).length ≤ 21 := by
  have h1 := hx.name
  have h2 := hx.worth
  unfold pairT
  simp; omega
theorem pairs_total {ys : List Note} (hy : ∀ x ∈ ys, x.Ok) (hl : ys.length ≤ 100) : totalLen (ys.map pairT) + (ys.map pairT).length * 2 ≤ 2400 := by
  have h1 := totalLen_le (ls := ys.map pairT) (k := 21) fun l hl => by
    obtain ⟨x, hx, rfl⟩ := List.mem_map.mp hl
    exact pairT_len (hy x hx)
  rw [List.length_map] at h1 ⊢
  omega
theorem headT_len {ys : List Note} (hy : ∀ x ∈ ys, x.Ok) (hl : ys.length ≤ 100) : (headT ys).length ≤ 2400 := Nat.le_trans (joinL_len _ _) (pairs_total hy hl)
theorem s_head_of (S : HasSent P) {ys : List Note} (hy : ∀ x ∈ ys, x.Ok) (hl : ys.length ≤ 100) : callF P (n + 1) 59 [.tup (ys.map pairV)] μ = .ok (.str (headT ys)) μ := by
  refine callF_pure S.h59 rfl rfl ?_ (μ' := []) ?_ rfl
  · have : okArg (.tup (ys.map pairV)) = true := pures_pairs ys
    simp [this]
  have c1 := comp_mapA (P := P) (cs := callF P n) (env := [some (.tup (ys.map pairV)), none, none]) (μ := []) (f := pairV) (l := ys) (g := fun x => .str (pairT x)) (elt := .bin .add (.bin .add (.var 1) (.con (.str [61]))) (.var 2)) (p := .t [.v 1, .v 2]) (it := .seq (.var 0)) (src := .items (ys.map pairV)) (by simp [srcSeq]) (src_items _) (SL_big (by omega)) fun x hxm => by
    have h1 := (hy x hxm).name
    have h2 := (hy x hxm).worth
    have l1 : x.name.length + 1 ≤ SL := SL_big (by omega)
    have l2 : x.name.length + 1 + x.worth.length ≤ SL := SL_big (by omega)
    exact ⟨[some (.tup (ys.map pairV)), some (.str x.name), some (.str x.worth)], by simp [pairV, patSlots, patsSlots, wipeE], by simp [l1, l2, pairT]⟩
  have c2 := m_joinL' (μ := ([] : Sto)) (z := [59, 32]) (ts := ys.map pairT) (SL_big (Nat.le_trans (pairs_total hy hl) (by omega)))
  rw [List.map_map] at c2
  have c3 : (ys.map fun x => PV.str (pairT x)) = ys.map (PV.str ∘ pairT) := rfl
  rw [c3] at c1
  show endOf (execs P (callF P n) (_ :: []) [some (.tup (ys.map pairV)), none, none] []) = _
  simp [c1, c2]
  rfl
theorem s_head (S : HasSent P) (hx : ∀ x ∈ xs, x.Ok) (ha : a.Ok) (hl : xs.length ≤ 100) : callF P (n + 6) 60 [r.pv, .tup (xs.map Note.pv), a.pv] μ = .ok (.str (headT (sentL r a xs))) μ := by
  refine callF_pure S.h60 rfl rfl ?_ (μ' := []) ?_ rfl
  · have : okArg (.tup (xs.map Note.pv)) = true := pures_notes xs
    simp [Rul.okArg, Ask.okArg, this]
  have k1 := s_sent (n := n) (μ := []) (r := r) S hx ha (by omega)
  have k2 := s_head_of (n := n + 4) (μ := []) S (ys := sentL r a xs) (fun x hm => hx x (sentL_mem hm)) (by have := sentL_len (r := r) (a := a) (xs := xs); omega)
  simp [d_head, startE, k1, k2]
/-- the worth of the first of a name -/
def firstOf (nm : List Nat) (ys : List Note) : Option Note := ys.find? fun x => x.name == nm
theorem s_named (S : HasSent P) (hx : ∀ x ∈ xs, x.Ok) (ha : a.Ok) (hl : xs.length ≤ 1000) {nm : List Nat} : callF P (n + 6) 61 [r.pv, .tup (xs.map Note.pv), a.pv, .str nm] μ = match firstOf nm (sentL r a xs) with | some x => .ok (.str x.worth) μ | none => .exn 1 μ := by
  have k1 := s_sent (n := n) (μ := []) (r := r) S hx ha hl
  have hok : ([r.pv, PV.tup (xs.map Note.pv), a.pv, .str nm]).all okArg = true := by
    have : okArg (.tup (xs.map Note.pv)) = true := pures_notes xs
    have h2 : okArg (.str nm) = true := rfl
    simp [Rul.okArg, Ask.okArg, this, h2]
  have hf := y_for_first (P := P) (cs := callF P (n + 5)) (μ := []) (env := [some r.pv, some (.tup (xs.map Note.pv)), some a.pv, some (.str nm), none, none]) (f := pairV) (t := fun x => x.name == nm) (v := fun x => .str x.worth) (l := sentL r a xs) (p := .t [.v 4, .v 5]) (it := .seq (.call 57 [(.var 0), (.var 1), (.var 2)])) (body := [(.ite (.cmp .eq (.var 4) (.var 3)) [(.ret (.var 5))] [])])
    (I := fun env => ∃ e4 e5, env = [some r.pv, some (.tup (xs.map Note.pv)), some a.pv, some (.str nm), e4, e5]) (by simp [k1, srcSeq]) ⟨_, _, rfl⟩ fun x hm env hI => by
      obtain ⟨e4, e5, rfl⟩ := hI
      refine ⟨[some r.pv, some (.tup (xs.map Note.pv)), some a.pv, some (.str nm), some (.str x.name), some (.str x.worth)], by simp [pairV], ?_⟩
      cases hb : (x.name == nm) with
      | true => simp [hb]
      | false => simp [hb]
  unfold firstOf
  cases hc : (sentL r a xs).find? fun x => x.name == nm with
  | some x =>
    rw [hc] at hf
    refine callF_pure S.h61 rfl rfl hok (μ' := []) ?_ rfl
    show endOf (execs P (callF P (n + 5)) (_ :: _ :: []) [some r.pv, some (.tup (xs.map Note.pv)), some a.pv, some (.str nm), none, none] []) = _
    rw [y_cons, hf]
    rfl
  | none =>
    rw [hc] at hf
    obtain ⟨env', hf, _⟩ := hf
    refine callF_exn S.h61 rfl rfl hok (μ' := []) ?_
    show endOf (execs P (callF P (n + 5)) (_ :: _ :: []) [some r.pv, some (.tup (xs.map Note.pv)), some a.pv, some (.str nm), none, none] []) = _
    rw [y_cons, hf, then_nx, y_cons, y_raise]
    rfl
end
end NR

/-! N8: what the law tells of what is sent. -/
namespace NR
def rowV (q : Note × Nat) : PV := .tup [q.1.pv, .int (q.2 : Nat)]
def rowsL (r : Rul) (a : Ask) (xs : List Note) : List (Note × Nat) := xs.zipIdx.filter fun q => (whyF r q.1 a).isNone
theorem rows_fst (r : Rul) (a : Ask) (xs : List Note) : (rowsL r a xs).map (·.1) = goL r a xs := by
  unfold rowsL goL
  have h := List.filter_map (f := fun q : Note × Nat => q.1) (p := fun x => (whyF r x a).isNone) (l := xs.zipIdx)
  rw [List.zipIdx_map_fst] at h
  rw [h]
  rfl
theorem rows_rise (r : Rul) (a : Ask) (xs : List Note) : ((rowsL r a xs).map (·.2)).Pairwise (· < ·) := by
  unfold rowsL
  refine List.Pairwise.sublist (List.Sublist.map _ List.filter_sublist) ?_
  rw [List.zipIdx_map_snd]
  exact List.pairwise_lt_range'
def keyLong (q : Note × Nat) : PV := .tup [.int (0 - ((sla q.1.path).length : Nat)), .int (q.2 : Nat)]
def keyName (q : Note × Nat) : PV := .tup [.str q.1.name, .int (q.2 : Nat)]
def leLong (x y : Note) : Bool := decide ((0 - ((sla x.path).length : Nat) : Int) ≤ 0 - ((sla y.path).length : Nat))
def leName (x y : Note) : Bool := decide (x.name ≤ y.name)
theorem keyLong_le (p q : Note × Nat) : (!PySem.W.dataLt (toD (keyLong q)) (toD (keyLong p))) = List.zipIdxLE leLong p q := by
  unfold keyLong List.zipIdxLE leLong
  rw [dle_ii]
  by_cases h1 : (0 - ((sla p.1.path).length : Nat) : Int) ≤ 0 - ((sla q.1.path).length : Nat)
  · by_cases h2 : (0 - ((sla q.1.path).length : Nat) : Int) ≤ 0 - ((sla p.1.path).length : Nat)
    · have e1 : ¬ (0 - ((sla p.1.path).length : Nat) : Int) < 0 - ((sla q.1.path).length : Nat) := by omega
      have e2 : (0 - ((sla p.1.path).length : Nat) : Int) = 0 - ((sla q.1.path).length : Nat) := by omega
      rw [decide_eq_true h1, if_pos rfl, decide_eq_true h2, if_pos rfl, decide_eq_false e1, decide_eq_true e2, Bool.false_or, Bool.true_and, decide_eq_decide]
      omega
    · have e1 : (0 - ((sla p.1.path).length : Nat) : Int) < 0 - ((sla q.1.path).length : Nat) := by omega
      rw [decide_eq_true h1, if_pos rfl, decide_eq_false h2, if_neg (by decide), decide_eq_true e1, Bool.true_or]
  · have e1 : ¬ (0 - ((sla p.1.path).length : Nat) : Int) < 0 - ((sla q.1.path).length : Nat) := by omega
    have e2 : ¬ (0 - ((sla p.1.path).length : Nat) : Int) = 0 - ((sla q.1.path).length : Nat) := by omega
    rw [decide_eq_false h1, if_neg (by decide), decide_eq_false e1, decide_eq_false e2]
    rfl
theorem keyName_le (p q : Note × Nat) : (!PySem.W.dataLt (toD (keyName q)) (toD (keyName p))) = List.zipIdxLE leName p q := by
  unfold keyName List.zipIdxLE leName
  rw [dle_si]
  by_cases h : p.1.name = q.1.name
  · rw [if_pos h, h, decide_eq_true (List.le_refl _), if_pos rfl, if_pos rfl, decide_eq_decide]
    omega
  · rw [if_neg h]
    by_cases h1 : p.1.name ≤ q.1.name
    · have h2 : ¬ q.1.name ≤ p.1.name := fun z => h (List.le_antisymm h1 z)
      rw [decide_eq_true h1, if_pos rfl, decide_eq_false h2, if_neg (by decide)]
    · rw [decide_eq_false h1, if_neg (by decide)]
/-- the rows in the order in which they go out -/
def rowsS (r : Rul) (a : Ask) (xs : List Note) : List (Note × Nat) := if r.w5 == wLong then (rowsL r a xs).mergeSort (List.zipIdxLE leLong) else if r.w5 == wNames then (rowsL r a xs).mergeSort (List.zipIdxLE leName) else rowsL r a xs
theorem rowsS_fst (r : Rul) (a : Ask) (xs : List Note) : (rowsS r a xs).map (·.1) = sentL r a xs := by
  unfold rowsS sentL
  by_cases h1 : (r.w5 == wLong) = true
  · have e : sentLe r = leLong := by
      funext x y
      unfold sentLe
      rw [if_pos h1]; rfl
    rw [if_pos h1, sort_zip (rows_rise r a xs), rows_fst, e]
  · rw [if_neg h1]
    by_cases h2 : (r.w5 == wNames) = true
    · have e : sentLe r = leName := by
        funext x y
        unfold sentLe
        rw [if_neg h1, if_pos h2]; rfl
      rw [if_pos h2, sort_zip (rows_rise r a xs), rows_fst, e]
    · have e : sentLe r = fun _ _ => true := by
        funext x y
        unfold sentLe
        rw [if_neg h1, if_neg h2]
      rw [if_neg h2, rows_fst, e, sort_any]
theorem rowsS_mem {r : Rul} {a : Ask} {xs : List Note} {q : Note × Nat} (h : q ∈ rowsS r a xs) : q.1 ∈ xs := by
  have : q.1 ∈ sentL r a xs := by rw [← rowsS_fst]; exact List.mem_map_of_mem h
  exact sentL_mem this
theorem rowsS_len (r : Rul) (a : Ask) (xs : List Note) : (rowsS r a xs).length ≤ xs.length := by
  have h : ((rowsS r a xs).map (·.1)).length ≤ xs.length := by rw [rowsS_fst]; exact sentL_len
  simpa using h
section
variable {P : Prog} {n : Nat} {μ : Sto} {r : Rul} {x : Note} {a : Ask} {xs : List Note}
theorem s_lsent (L : HasLFit P) (h62 : P.funs[62]? = some d__law_sent) (hr : r.Ok) (hx : ∀ x ∈ xs, x.Ok) (ha : a.Ok) (hl : xs.length ≤ 1000) : callF P (n + 4) 62 [r.pv, .tup (xs.map Note.pv), a.pv] μ = .ok (.tup ((sentL r a xs).map pairV)) μ := by
  refine callF_pure h62 rfl rfl ?_ (μ' := []) ?_ (pures_pairs _)
  · have : okArg (.tup (xs.map Note.pv)) = true := pures_notes xs
    simp [Rul.okArg, Ask.okArg, this]
  have c1 := comp_filterA (P := P) (cs := callF P (n + 3)) (env := [some r.pv, some (.tup (xs.map Note.pv)), some a.pv, none, none, none, none]) (μ := []) (f := fun q : Note × Nat => .tup [.int (q.2 : Nat), q.1.pv]) (l := xs.zipIdx) (g := rowV) (t := fun q => (whyF r q.1 a).isNone) (elt := .tup [(.var 5), (.var 4)]) (c := .cmp .is (.call 51 [(.var 0), (.var 5), (.var 2)]) (.con .non)) (p := .t [.v 4, .v 5]) (it := .enum (.var 1)) (src := .items (xs.zipIdx.map fun q => .tup [.int (q.2 : Nat), q.1.pv])) (by simp [srcEnum, enum_zip Note.pv xs]) (src_items _) (SL_big (by simp; omega)) fun q hq => by
    have hm : q.1 ∈ xs := by
      have := List.mem_zipIdx_iff_getElem?.mp hq
      exact List.mem_of_getElem? this
    have k := s_lwhy (n := n) (μ := []) (r := r) L hr (hx _ hm) ha
    refine ⟨[some r.pv, some (.tup (xs.map Note.pv)), some a.pv, none, some (.int (q.2 : Nat)), some q.1.pv, none], by simp [patSlots, patsSlots, wipeE], ?_, fun _ => by simp [rowV]⟩
    have hn : opCmp .is (optT (whyF r q.1 a)) .non [] = .ok (.bl (whyF r q.1 a).isNone) [] := by cases whyF r q.1 a <;> rfl
    simp [-o_isN, k, hn]
  have hz : xs.zipIdx.filter (fun q => (whyF r q.1 a).isNone) = rowsL r a xs := rfl
  rw [hz] at c1
  have fin : ∀ (ys : List (Note × Nat)) (e4 e5 e6 : Option PV), (∀ q ∈ ys, q.1 ∈ xs) → ys.length ≤ xs.length → ev P (callF P (n + 3)) (.comp false (.tup [(.idx (.var 5) (.con (.int 0))), (.idx (.var 5) (.con (.int 1)))]) (.t [(.v 5), (.v 4)]) (.seq (.var 3)) none) [some r.pv, some (.tup (xs.map Note.pv)), some a.pv, some (.lst (ys.map rowV)), e4, e5, e6] [] = .ok (.lst ((ys.map (·.1)).map pairV)) [] := by
    intro ys e4 e5 e6 hy hyl
    rw [comp_mapA (f := rowV) (l := ys) (g := fun q => pairV q.1) (src := .items (ys.map rowV)) (by simp [srcSeq]) (src_items _) (SL_big (by omega)) fun q hq =>
      ⟨[some r.pv, some (.tup (xs.map Note.pv)), some a.pv, some (.lst (ys.map rowV)), some (.int (q.2 : Nat)), some q.1.pv, e6], by simp [rowV, patSlots, patsSlots, wipeE], by simp [pairV]⟩]
    rw [List.map_map]; rfl
  have so : ∀ (k : Note × Nat → PV) (key : CE) (le : Note → Note → Bool) (e4 e5 e6 : Option PV), (∀ q ∈ rowsL r a xs, ev P (callF P (n + 3)) key [some r.pv, some (.tup (xs.map Note.pv)), some a.pv, some (.lst ((rowsL r a xs).map rowV)), e4, e5, some (rowV q)] [] = .ok (k q) []) →
      sortable ((rowsL r a xs).map k) = true → (∀ p q, (!PySem.W.dataLt (toD (k q)) (toD (k p))) = List.zipIdxLE le p q) →
      ev P (callF P (n + 3)) (.sortk (.var 3) 6 key) [some r.pv, some (.tup (xs.map Note.pv)), some a.pv, some (.lst ((rowsL r a xs).map rowV)), e4, e5, e6] [] = .ok (.lst (((rowsL r a xs).mergeSort (List.zipIdxLE le)).map rowV)) [] := by
    intro k key le e4 e5 e6 h1 h2 h3
    exact ev_sortk (f := rowV) (by simp) (fun q hq => h1 q hq) h2 fun p _ q _ => h3 p q
  have e1 := rowsS_fst r a xs
  have l1 := rowsS_len r a xs
  have m1 : ∀ q ∈ rowsS r a xs, q.1 ∈ xs := fun q => rowsS_mem
  rw [← e1]
  show endOf (execs P (callF P (n + 3)) (_ :: _ :: _ :: _ :: []) [some r.pv, some (.tup (xs.map Note.pv)), some a.pv, none, none, none, none] []) = _
  rw [y_cons' (env1 := [some r.pv, some (.tup (xs.map Note.pv)), some a.pv, some (.lst ((rowsL r a xs).map rowV)), none, none, none]) (μ1 := []) (by rw [y_asg, c1]; rfl)]
  have hw : ∀ q : Note × Nat, q ∈ rowsL r a xs → (TL.joinL [47] q.1.path).length + 1 ≤ SL := fun q hq => by
    have hm : q.1 ∈ xs := by
      have : q.1 ∈ goL r a xs := by rw [← rows_fst]; exact List.mem_map_of_mem hq
      exact (List.mem_filter.mp this).1
    have := sla_len (hx _ hm).path
    exact SL_big (by simp at this; omega)
  have hex : ∃ f4 f5 f6, execs P (callF P (n + 3)) [(.ite (.cmp .eq (.idx (.var 0) (.con (.int 5))) (.con (.str [108, 111, 110, 103]))) [(.asg (.v 3) (.sortk (.var 3) 6 (.tup [(.bin .sub (.con (.int 0)) (.b1 .len (.idx (.idx (.var 6) (.con (.int 0))) (.con (.int 4))))), (.idx (.var 6) (.con (.int 1)))])))] []),
      (.ite (.cmp .eq (.idx (.var 0) (.con (.int 5))) (.con (.str [110, 97, 109, 101, 115]))) [(.asg (.v 3) (.sortk (.var 3) 6 (.tup [(.idx (.idx (.var 6) (.con (.int 0))) (.con (.int 0))), (.idx (.var 6) (.con (.int 1)))])))] [])] [some r.pv, some (.tup (xs.map Note.pv)), some a.pv, some (.lst ((rowsL r a xs).map rowV)), none, none, none] [] = .nx [some r.pv, some (.tup (xs.map Note.pv)), some a.pv, some (.lst ((rowsS r a xs).map rowV)), f4, f5, f6] [] := by
    refine ⟨none, none, none, ?_⟩
    unfold rowsS
    by_cases h1 : (r.w5 == wLong) = true
    · have h2 : (r.w5 == wNames) = false := by
        have : r.w5 = wLong := by simpa using h1
        rw [this]; rfl
      have s1 := so keyLong _ leLong none none none (fun q hq => by
        have := hw q hq
        show ev P (callF P (n + 3)) (.tup [(.bin .sub (.con (.int 0)) (.b1 .len (.idx (.idx (.var 6) (.con (.int 0))) (.con (.int 4))))), (.idx (.var 6) (.con (.int 1)))]) _ _ = _
        simp [rowV, keyLong, this]) (sortable_map (fun q => ⟨rfl, by simp [keyLong, dep, deps]⟩) (fun p q => rfl) (fun q => by first | trivial | rfl) _) keyLong_le
      rw [if_pos h1]
      simp [h1, h2, s1]
    · have h1' : (r.w5 == wLong) = false := by simpa using h1
      rw [if_neg h1]
      by_cases h2 : (r.w5 == wNames) = true
      · have s1 := so keyName _ leName none none none (fun q hq => by
          show ev P (callF P (n + 3)) (.tup [(.idx (.idx (.var 6) (.con (.int 0))) (.con (.int 0))), (.idx (.var 6) (.con (.int 1)))]) _ _ = _
          simp [rowV, keyName]) (sortable_map (fun q => ⟨rfl, by simp [keyName, dep, deps]⟩) (fun p q => rfl) (fun q => by first | trivial | rfl) _) keyName_le
        rw [if_pos h2]
        simp [h1', h2, s1]
      · have h2' : (r.w5 == wNames) = false := by simpa using h2
        rw [if_neg h2]
        simp [h1', h2']
  obtain ⟨f4, f5, f6, hex⟩ := hex
  have f := fin (rowsS r a xs) f4 f5 f6 m1 l1
  show endOf (execs P (callF P (n + 3)) ([_, _] ++ [_]) _ _) = _
  rw [execs_append, hex, then_nx, y_cons, y_ret, x_b1, f]
  rfl
end
end NR

/-! N9: refusals by their words. -/
namespace NR
abbrev qNoNote : List Nat := [110, 111, 32, 110, 111, 116, 101]
abbrev qFull : List Nat := [102, 117, 108, 108]
abbrev qNoRules : List Nat := [110, 111, 32, 114, 117, 108, 101, 115]
abbrev qNotTheirs : List Nat := [110, 111, 116, 32, 116, 104, 101, 105, 114, 115]
abbrev qNoDeed : List Nat := [110, 111, 32, 100, 101, 101, 100]
abbrev qNoText : List Nat := [110, 111, 32, 116, 101, 120, 116]
abbrev excWords : List (List Nat) := [qNoNote, qFull, qNoRules, qNotTheirs, qNoDeed, qNoText]
structure HasWord (P : Prog) : Prop where
  h63 : P.funs[63]? = some d__law_word
  sup : P.sup = PR.sup
section
variable {P : Prog} {n : Nat} {μ : Sto}
theorem s_word (H : HasWord P) {c : Nat} (h1 : 1 ≤ c) (h6 : c ≤ 6) : callF P (n + 1) 63 [.exc c] μ = .ok (.str (excWords.getD (c - 1) [])) μ := by
  have hs := H.sup
  have key : ∀ c, 1 ≤ c → c ≤ 6 → endOf (execs P (callF P n) d__law_word.body [some (.exc c), none] μ) = .ok (.str (excWords.getD (c - 1) [])) μ := by
    intro c h1 h6
    have hc : c = 1 ∨ c = 2 ∨ c = 3 ∨ c = 4 ∨ c = 5 ∨ c = 6 := by omega
    have t : ∀ i j, P.sup i j = PR.sup i j := fun i j => by rw [hs]
    rcases hc with rfl | rfl | rfl | rfl | rfl | rfl
    · have e1 := t 1 1; have e2 := t 1 2; have e3 := t 1 3; have e4 := t 1 4; have e5 := t 1 5; have e6 := t 1 6; have e9 := t 1 99
      change P.sup 1 1 = true at e1; change P.sup 1 2 = false at e2; change P.sup 1 3 = false at e3; change P.sup 1 4 = false at e4; change P.sup 1 5 = false at e5; change P.sup 1 6 = false at e6; change P.sup 1 99 = true at e9
      have c1 : opM .count (.lst [.bl true, .bl false, .bl false, .bl false, .bl false, .bl false]) [.bl true] μ = .ok (.int 1) μ := rfl
      have c2 : opM .index (.lst [.bl true, .bl false, .bl false, .bl false, .bl false, .bl false]) [.bl true] μ = .ok (.int 0) μ := rfl
      have c3 : recv .count (.lst [.bl true, .bl false, .bl false, .bl false, .bl false, .bl false]) μ = true := rfl
      have c4 : recv .index (.lst [.bl true, .bl false, .bl false, .bl false, .bl false, .bl false]) μ = true := rfl
      simp [d__law_word, e1, e2, e3, e4, e5, e6, e9, c1, c2, c3, c4]
    · have e1 := t 2 1; have e2 := t 2 2; have e3 := t 2 3; have e4 := t 2 4; have e5 := t 2 5; have e6 := t 2 6; have e9 := t 2 99
      change P.sup 2 1 = false at e1; change P.sup 2 2 = true at e2; change P.sup 2 3 = false at e3; change P.sup 2 4 = false at e4; change P.sup 2 5 = false at e5; change P.sup 2 6 = false at e6; change P.sup 2 99 = true at e9
      have c1 : opM .count (.lst [.bl false, .bl true, .bl false, .bl false, .bl false, .bl false]) [.bl true] μ = .ok (.int 1) μ := rfl
      have c2 : opM .index (.lst [.bl false, .bl true, .bl false, .bl false, .bl false, .bl false]) [.bl true] μ = .ok (.int 1) μ := rfl
      have c3 : recv .count (.lst [.bl false, .bl true, .bl false, .bl false, .bl false, .bl false]) μ = true := rfl
      have c4 : recv .index (.lst [.bl false, .bl true, .bl false, .bl false, .bl false, .bl false]) μ = true := rfl
      simp [d__law_word, e1, e2, e3, e4, e5, e6, e9, c1, c2, c3, c4]
    · have e1 := t 3 1; have e2 := t 3 2; have e3 := t 3 3; have e4 := t 3 4; have e5 := t 3 5; have e6 := t 3 6; have e9 := t 3 99
      change P.sup 3 1 = false at e1; change P.sup 3 2 = false at e2; change P.sup 3 3 = true at e3; change P.sup 3 4 = false at e4; change P.sup 3 5 = false at e5; change P.sup 3 6 = false at e6; change P.sup 3 99 = true at e9
      have c1 : opM .count (.lst [.bl false, .bl false, .bl true, .bl false, .bl false, .bl false]) [.bl true] μ = .ok (.int 1) μ := rfl
      have c2 : opM .index (.lst [.bl false, .bl false, .bl true, .bl false, .bl false, .bl false]) [.bl true] μ = .ok (.int 2) μ := rfl
      have c3 : recv .count (.lst [.bl false, .bl false, .bl true, .bl false, .bl false, .bl false]) μ = true := rfl
      have c4 : recv .index (.lst [.bl false, .bl false, .bl true, .bl false, .bl false, .bl false]) μ = true := rfl
      simp [d__law_word, e1, e2, e3, e4, e5, e6, e9, c1, c2, c3, c4]
    · have e1 := t 4 1; have e2 := t 4 2; have e3 := t 4 3; have e4 := t 4 4; have e5 := t 4 5; have e6 := t 4 6; have e9 := t 4 99
      change P.sup 4 1 = false at e1; change P.sup 4 2 = false at e2; change P.sup 4 3 = false at e3; change P.sup 4 4 = true at e4; change P.sup 4 5 = false at e5; change P.sup 4 6 = false at e6; change P.sup 4 99 = true at e9
      have c1 : opM .count (.lst [.bl false, .bl false, .bl false, .bl true, .bl false, .bl false]) [.bl true] μ = .ok (.int 1) μ := rfl
      have c2 : opM .index (.lst [.bl false, .bl false, .bl false, .bl true, .bl false, .bl false]) [.bl true] μ = .ok (.int 3) μ := rfl
      have c3 : recv .count (.lst [.bl false, .bl false, .bl false, .bl true, .bl false, .bl false]) μ = true := rfl
      have c4 : recv .index (.lst [.bl false, .bl false, .bl false, .bl true, .bl false, .bl false]) μ = true := rfl
      simp [d__law_word, e1, e2, e3, e4, e5, e6, e9, c1, c2, c3, c4]
    · have e1 := t 5 1; have e2 := t 5 2; have e3 := t 5 3; have e4 := t 5 4; have e5 := t 5 5; have e6 := t 5 6; have e9 := t 5 99
      change P.sup 5 1 = false at e1; change P.sup 5 2 = false at e2; change P.sup 5 3 = false at e3; change P.sup 5 4 = false at e4; change P.sup 5 5 = true at e5; change P.sup 5 6 = false at e6; change P.sup 5 99 = true at e9
      have c1 : opM .count (.lst [.bl false, .bl false, .bl false, .bl false, .bl true, .bl false]) [.bl true] μ = .ok (.int 1) μ := rfl
      have c2 : opM .index (.lst [.bl false, .bl false, .bl false, .bl false, .bl true, .bl false]) [.bl true] μ = .ok (.int 4) μ := rfl
      have c3 : recv .count (.lst [.bl false, .bl false, .bl false, .bl false, .bl true, .bl false]) μ = true := rfl
      have c4 : recv .index (.lst [.bl false, .bl false, .bl false, .bl false, .bl true, .bl false]) μ = true := rfl
      simp [d__law_word, e1, e2, e3, e4, e5, e6, e9, c1, c2, c3, c4]
    · have e1 := t 6 1; have e2 := t 6 2; have e3 := t 6 3; have e4 := t 6 4; have e5 := t 6 5; have e6 := t 6 6; have e9 := t 6 99
      change P.sup 6 1 = false at e1; change P.sup 6 2 = false at e2; change P.sup 6 3 = false at e3; change P.sup 6 4 = false at e4; change P.sup 6 5 = false at e5; change P.sup 6 6 = true at e6; change P.sup 6 99 = true at e9
      have c1 : opM .count (.lst [.bl false, .bl false, .bl false, .bl false, .bl false, .bl true]) [.bl true] μ = .ok (.int 1) μ := rfl
      have c2 : opM .index (.lst [.bl false, .bl false, .bl false, .bl false, .bl false, .bl true]) [.bl true] μ = .ok (.int 5) μ := rfl
      have c3 : recv .count (.lst [.bl false, .bl false, .bl false, .bl false, .bl false, .bl true]) μ = true := rfl
      have c4 : recv .index (.lst [.bl false, .bl false, .bl false, .bl false, .bl false, .bl true]) μ = true := rfl
      simp [d__law_word, e1, e2, e3, e4, e5, e6, e9, c1, c2, c3, c4]
  rw [callF, H.h63]
  show (if ([PV.exc c] : List PV).length = 1 then endOf (execs P (callF P n) d__law_word.body [some (.exc c), none] μ) else R.bad) = _
  rw [if_pos (by rfl), key c h1 h6]
def saidT (r : Rul) (a : Ask) (xs : List Note) (nm : List Nat) : List Nat := match firstOf nm (sentL r a xs) with | some x => x.worth | none => qNoNote
theorem s_lsaid (S : HasSent P) (H : HasWord P) (h64 : P.funs[64]? = some d__law_said) {r : Rul} {a : Ask} {xs : List Note} (hx : ∀ x ∈ xs, x.Ok) (ha : a.Ok) (hl : xs.length ≤ 1000) {nm : List Nat} :
    callF P (n + 7) 64 [r.pv, .tup (xs.map Note.pv), a.pv, .str nm] μ = .ok (.str (saidT r a xs nm)) μ := by
  have hok : ([r.pv, PV.tup (xs.map Note.pv), a.pv, .str nm]).all okArg = true := by
    have : okArg (.tup (xs.map Note.pv)) = true := pures_notes xs
    have h2 : okArg (.str nm) = true := rfl
    simp [Rul.okArg, Ask.okArg, this, h2]
  have k1 := s_named (n := n) (μ := []) (r := r) S hx ha hl (nm := nm)
  have hs : P.sup 1 0 = true := by rw [H.sup]; rfl
  refine callF_pure h64 rfl rfl hok (μ' := []) ?_ rfl
  unfold saidT
  cases hf : firstOf nm (sentL r a xs) with
  | some x =>
    rw [hf] at k1
    simp [d__law_said, startE, k1]
  | none =>
    rw [hf] at k1
    have k2 : callF P (n + 6) 63 [.exc 1] [] = .ok (.str qNoNote) [] := s_word (n := n + 5) H (by omega) (by omega)
    simp [d__law_said, startE, k1, hs, suiteEnd, suiteEnv, k2, pure?]
end
end NR

/-! N10: notes kept. -/
namespace NR
def placeL (xs : List Note) (x : Note) : Option Nat := xs.findIdx? fun y => peq (markV y) (markV x)
def putL (xs : List Note) (x : Note) : Option (List Note) := match placeL xs x with
  | some j => some (xs.take j ++ [x] ++ xs.drop (j + 1))
  | none => if xs.length = 6 then none else some (xs ++ [x])
def restL (xs : List Note) (m : PV) : List Note := xs.filter fun y => !peq (markV y) m
def freshL (r : Rul) (xs : List Note) (t : Int) : List Note := xs.filter fun x => !endF r x t
theorem any_place (xs : List Note) (x : Note) : (xs.any fun y => peq (markV y) (markV x)) = (placeL xs x).isSome := by
  unfold placeL
  rw [List.findIdx?_isSome]
theorem placeL_lt {xs : List Note} {x : Note} {j : Nat} (h : placeL xs x = some j) : j < xs.length := by
  unfold placeL at h
  exact (List.findIdx?_eq_some_iff_getElem.mp h).1
theorem putL_mem {xs ys : List Note} {x : Note} (h : putL xs x = some ys) : ∀ y ∈ ys, y = x ∨ y ∈ xs := by
  unfold putL at h
  intro y hy
  split at h
  · cases h
    simp only [List.mem_append, List.mem_singleton] at hy
    rcases hy with (z | z) | z
    · exact .inr (List.mem_of_mem_take z)
    · exact .inl z
    · exact .inr (List.mem_of_mem_drop z)
  · split at h
    · cases h
    · cases h
      simp only [List.mem_append, List.mem_singleton] at hy
      rcases hy with z | z
      · exact .inr z
      · exact .inl z
theorem putL_len {xs ys : List Note} {x : Note} (h : putL xs x = some ys) (hl : xs.length ≤ 6) : ys.length ≤ 6 ∧ 0 < ys.length := by
  unfold putL at h
  split at h
  · rename_i j hj
    have := placeL_lt hj
    cases h
    simp
    omega
  · split at h
    · cases h
    · cases h
      simp
      omega
theorem restL_mem {xs : List Note} {m : PV} {y : Note} (h : y ∈ restL xs m) : y ∈ xs := (List.mem_filter.mp h).1
theorem restL_len {xs : List Note} {m : PV} : (restL xs m).length ≤ xs.length := List.length_filter_le _ _
theorem freshL_mem {r : Rul} {xs : List Note} {t : Int} {y : Note} (h : y ∈ freshL r xs t) : y ∈ xs := (List.mem_filter.mp h).1
theorem freshL_len {r : Rul} {xs : List Note} {t : Int} : (freshL r xs t).length ≤ xs.length := List.length_filter_le _ _
theorem note_same (x : Note) : sameV x.pv = true := by
  obtain ⟨a, b, c, d, e, f, g, h⟩ := x
  cases f <;> rfl
theorem notes_same : ∀ xs : List Note, sameVs (xs.map Note.pv) = true
  | [] => rfl
  | x :: xs => by
    show (sameV x.pv && sameVs (xs.map Note.pv)) = true
    rw [note_same, notes_same xs]; rfl
theorem notes_dep (xs : List Note) : deps (xs.map Note.pv) ≤ 1 := deps_map (k := 1) Note.dep1 xs
theorem notesV_same {xs : List Note} (h : xs.length ≤ 1000) : sameV (.tup (xs.map Note.pv)) = true := by
  show (sameVs (xs.map Note.pv) && decide ((xs.map Note.pv).length ≤ 1000)) = true
  rw [notes_same, List.length_map, decide_eq_true h]; rfl
theorem notesV_dep (xs : List Note) : dep (.tup (xs.map Note.pv)) ≤ 5 := by
  have := notes_dep xs
  show deps (xs.map Note.pv) + 1 ≤ 5
  omega
theorem notesV_arg (xs : List Note) : okArg (.tup (xs.map Note.pv)) = true := pures_notes xs
structure HasKeep (P : Prog) : Prop where
  h5 : P.funs[5]? = some d_mark
  h41 : P.funs[41]? = some d_has_ended
  h69 : P.funs[69]? = some d_put
  h70 : P.funs[70]? = some d_without
  h71 : P.funs[71]? = some d_dropped
  h72 : P.funs[72]? = some d_fresh
  c2 : P.consts[2]? = some (.int 6)
section
variable {P : Prog} {n : Nat} {μ : Sto} {r : Rul} {x : Note} {xs : List Note}
theorem ix_marks {j : Nat} (h : placeL xs x = some j) : opM .index (.lst (xs.map markV)) [markV x] μ = .ok (.int j) μ := by
  have h1 : data? (markV x) = true := rfl
  have h2 := marks_data xs
  have h3 : (xs.map markV).findIdx? (fun y => peq y (markV x)) = some j := by
    rw [List.findIdx?_map]; exact h
  show indexOf (markV x) (xs.map markV) (.lst (xs.map markV)) μ = _
  unfold indexOf
  rw [h1, h2, h3]
  rfl
theorem len_notes : opB1 .len (.tup (xs.map Note.pv)) μ = .ok (.int xs.length) μ := by
  rw [b_lenT, List.length_map]
theorem put_at {j : Nat} {cs : CallS} {env : EnvP} {i : Nat} {m a : CE} (hi : env[i]? = some (some (.tup (xs.map Note.pv)))) (hm : ev P cs m env μ = .ok (.int j) μ) (ha : ev P cs a env μ = .ok x.pv μ) (hj : j < xs.length) (hl : xs.length ≤ 1000) :
    ev P cs (.bin .add (.bin .add (.sl (.var i) none (some m)) (.tup [a])) (.sl (.var i) (some (.bin .add m (.con (.int 1)))) none)) env μ = .ok (.tup ((xs.take j ++ [x] ++ xs.drop (j + 1)).map Note.pv)) μ := by
  have e1 : cutL (xs.map Note.pv) none (some (j : Int)) = (xs.take j).map Note.pv := by rw [cut_to, List.map_take]
  have e2 : cutL (xs.map Note.pv) (some ((j : Int) + 1)) none = (xs.drop (j + 1)).map Note.pv := by
    have : (j : Int) + 1 = ((j + 1 : Nat) : Int) := by omega
    rw [this, cut_from, List.map_drop]
  have l1 : ((xs.take j).map Note.pv).length + 1 ≤ SL := SL_big (by rw [List.length_map, List.length_take]; omega)
  have l2 : ((xs.take j).map Note.pv).length + 1 + ((xs.drop (j + 1)).map Note.pv).length ≤ SL := SL_big (by rw [List.length_map, List.length_map, List.length_take, List.length_drop]; omega)
  generalize hp : (xs.take j).map Note.pv = p at e1 l1 l2
  generalize hq : (xs.drop (j + 1)).map Note.pv = q at e2 l2
  have e3 : (xs.take j ++ [x] ++ xs.drop (j + 1)).map Note.pv = p ++ [x.pv] ++ q := by rw [List.map_append, List.map_append, hp, hq]; rfl
  rw [e3]
  simp [hi, hm, ha, e1, e2, l1, l2]
theorem add_at {cs : CallS} {env : EnvP} {i : Nat} {a : CE} (hi : env[i]? = some (some (.tup (xs.map Note.pv)))) (ha : ev P cs a env μ = .ok x.pv μ) (hl : xs.length ≤ 1000) :
    ev P cs (.bin .add (.var i) (.tup [a])) env μ = .ok (.tup ((xs ++ [x]).map Note.pv)) μ := by
  have l1 : xs.length + 1 ≤ SL := SL_big (by omega)
  simp [hi, ha, l1]
theorem s_put (K : HasKeep P) (hl : xs.length ≤ 100) : callF P (n + 2) 69 [.tup (xs.map Note.pv), x.pv] μ = match putL xs x with | some ys => .ok (.tup (ys.map Note.pv)) μ | none => .exn 2 μ := by
  have hok : ([PV.tup (xs.map Note.pv), x.pv]).all okArg = true := by simp [notesV_arg, Note.okArg]
  have k1 := s_mark (n := n) (μ := []) K.h5 x
  have c1 := ev_marks (P := P) (cs := callF P (n + 1)) (env := [some (.tup (xs.map Note.pv)), some x.pv, none, none, none]) (f := 5) (j := 3) (it := .seq (.var 0)) (src := .items (xs.map Note.pv)) (μ := []) (rows := xs) (fun x _ => s_mark (n := n) K.h5 x) (by omega) (by simp [srcSeq]) (src_items _) (by simp)
  have hi := in_marks (μ := []) xs x
  rw [any_place] at hi
  have s1 : exec P (callF P (n + 1)) (.asg (.v 2) (.comp false (.call 5 [(.var 3)]) (.v 3) (.seq (.var 0)) none)) [some (.tup (xs.map Note.pv)), some x.pv, none, none, none] [] = .nx [some (.tup (xs.map Note.pv)), some x.pv, some (.lst (xs.map markV)), none, none] [] := by rw [y_asg, c1]; rfl
  unfold putL
  cases hp : placeL xs x with
  | some j =>
    rw [hp] at hi
    have hx := ix_marks (μ := []) hp
    have hr : recv .index (.lst (xs.map markV)) [] = true := rfl
    have hb := put_at (P := P) (μ := []) (x := x) (xs := xs) (cs := callF P (n + 1)) (env := [some (.tup (xs.map Note.pv)), some x.pv, some (.lst (xs.map markV)), none, some (.int j)]) (i := 0) (m := .var 4) (a := .var 1) (j := j) rfl (by simp) (by simp) (placeL_lt hp) (by omega)
    refine callF_pure K.h69 rfl rfl hok (μ' := []) ?_ (pures_notes _)
    show endOf (execs P (callF P (n + 1)) (_ :: .ite _ [.asg (.v 4) _, .ret _] [] :: _ :: _ :: []) [some (.tup (xs.map Note.pv)), some x.pv, none, none, none] []) = _
    rw [y_cons' s1, y_cons, y_ite]
    have hc : ev P (callF P (n + 1)) (.cmp .in_ (.call 5 [(.var 1)]) (.var 2)) [some (.tup (xs.map Note.pv)), some x.pv, some (.lst (xs.map markV)), none, none] [] = .ok (.bl true) [] := by simp [k1, hi]
    rw [hc, of_ok, tr_bl]
    show endOf ((execs P (callF P (n + 1)) (_ :: _ :: []) _ _).andThen _) = _
    rw [y_cons' (env1 := [some (.tup (xs.map Note.pv)), some x.pv, some (.lst (xs.map markV)), none, some (.int j)]) (μ1 := []) (by simp [k1, hx, hr]), y_cons, y_ret, hb]
    rfl
  | none =>
    rw [hp] at hi
    have hb := add_at (P := P) (μ := []) (x := x) (xs := xs) (cs := callF P (n + 1)) (env := [some (.tup (xs.map Note.pv)), some x.pv, some (.lst (xs.map markV)), none, none]) (i := 0) (a := .var 1) rfl (by simp) (by omega)
    have hc : exec P (callF P (n + 1)) (.ite (.cmp .in_ (.call 5 [(.var 1)]) (.var 2)) [(.asg (.v 4) (.m .index (.var 2) [(.call 5 [(.var 1)])])), (.ret (.bin .add (.bin .add (.sl (.var 0) none (some (.var 4))) (.tup [(.var 1)])) (.sl (.var 0) (some (.bin .add (.var 4) (.con (.int 1)))) none)))] []) [some (.tup (xs.map Note.pv)), some x.pv, some (.lst (xs.map markV)), none, none] [] = .nx [some (.tup (xs.map Note.pv)), some x.pv, some (.lst (xs.map markV)), none, none] [] := by simp [k1, hi]
    by_cases h6 : xs.length = 6
    · have h6' : ((xs.length : Int) == 6) = true := by simp; omega
      simp only [if_pos h6]
      refine callF_exn K.h69 rfl rfl hok (μ' := []) ?_
      show endOf (execs P (callF P (n + 1)) (_ :: _ :: _ :: _ :: []) [some (.tup (xs.map Note.pv)), some x.pv, none, none, none] []) = _
      rw [y_cons' s1, y_cons' hc]
      simp [K.c2, h6']
    · have h6' : ((xs.length : Int) == 6) = false := by simp; omega
      simp only [if_neg h6]
      refine callF_pure K.h69 rfl rfl hok (μ' := []) ?_ (pures_notes _)
      show endOf (execs P (callF P (n + 1)) (_ :: _ :: _ :: _ :: []) [some (.tup (xs.map Note.pv)), some x.pv, none, none, none] []) = _
      rw [y_cons' s1, y_cons' hc, y_cons' (env1 := [some (.tup (xs.map Note.pv)), some x.pv, some (.lst (xs.map markV)), none, none]) (μ1 := []) (by simp [K.c2, h6']), y_cons, y_ret, hb]
      rfl
theorem s_lput (h14 : P.funs[14]? = some d__law_mark) (h74 : P.funs[74]? = some d__law_put) (hl : xs.length ≤ 6) : callF P (n + 2) 74 [.tup (xs.map Note.pv), x.pv] μ = .ok (match putL xs x with | some ys => .tup (ys.map Note.pv) | none => .str qFull) μ := by
  have hok : ([PV.tup (xs.map Note.pv), x.pv]).all okArg = true := by simp [notesV_arg, Note.okArg]
  have k1 := s_lmark (n := n) (μ := []) h14 x
  have c1 := ev_marks (P := P) (cs := callF P (n + 1)) (env := [some (.tup (xs.map Note.pv)), some x.pv, none, none, none]) (f := 14) (j := 3) (it := .seq (.var 0)) (src := .items (xs.map Note.pv)) (μ := []) (rows := xs) (fun x _ => s_lmark (n := n) h14 x) (by omega) (by simp [srcSeq]) (src_items _) (by simp)
  have hi := in_marks (μ := []) xs x
  rw [any_place] at hi
  have s1 : exec P (callF P (n + 1)) (.asg (.v 2) (.comp false (.call 14 [(.var 3)]) (.v 3) (.seq (.var 0)) none)) [some (.tup (xs.map Note.pv)), some x.pv, none, none, none] [] = .nx [some (.tup (xs.map Note.pv)), some x.pv, some (.lst (xs.map markV)), none, none] [] := by rw [y_asg, c1]; rfl
  unfold putL
  cases hp : placeL xs x with
  | some j =>
    rw [hp] at hi
    have hx := ix_marks (μ := []) hp
    have hr : recv .index (.lst (xs.map markV)) [] = true := rfl
    have hb := put_at (P := P) (μ := []) (x := x) (xs := xs) (cs := callF P (n + 1)) (env := [some (.tup (xs.map Note.pv)), some x.pv, some (.lst (xs.map markV)), none, some (.int j)]) (i := 0) (m := .var 4) (a := .var 1) (j := j) rfl (by simp) (by simp) (placeL_lt hp) (by omega)
    refine callF_pure h74 rfl rfl hok (μ' := []) ?_ (pures_notes _)
    show endOf (execs P (callF P (n + 1)) (_ :: .ite _ [.asg (.v 4) _, .ret _] [] :: _ :: []) [some (.tup (xs.map Note.pv)), some x.pv, none, none, none] []) = _
    rw [y_cons' s1, y_cons, y_ite]
    have hc : ev P (callF P (n + 1)) (.cmp .in_ (.call 14 [(.var 1)]) (.var 2)) [some (.tup (xs.map Note.pv)), some x.pv, some (.lst (xs.map markV)), none, none] [] = .ok (.bl true) [] := by simp [k1, hi]
    rw [hc, of_ok, tr_bl]
    show endOf ((execs P (callF P (n + 1)) (_ :: _ :: []) _ _).andThen _) = _
    rw [y_cons' (env1 := [some (.tup (xs.map Note.pv)), some x.pv, some (.lst (xs.map markV)), none, some (.int j)]) (μ1 := []) (by simp [k1, hx, hr]), y_cons, y_ret, hb]
    rfl
  | none =>
    rw [hp] at hi
    have hb := add_at (P := P) (μ := []) (x := x) (xs := xs) (cs := callF P (n + 1)) (env := [some (.tup (xs.map Note.pv)), some x.pv, some (.lst (xs.map markV)), none, none]) (i := 0) (a := .var 1) rfl (by simp) (by omega)
    have hc : exec P (callF P (n + 1)) (.ite (.cmp .in_ (.call 14 [(.var 1)]) (.var 2)) [(.asg (.v 4) (.m .index (.var 2) [(.call 14 [(.var 1)])])), (.ret (.bin .add (.bin .add (.sl (.var 0) none (some (.var 4))) (.tup [(.var 1)])) (.sl (.var 0) (some (.bin .add (.var 4) (.con (.int 1)))) none)))] []) [some (.tup (xs.map Note.pv)), some x.pv, some (.lst (xs.map markV)), none, none] [] = .nx [some (.tup (xs.map Note.pv)), some x.pv, some (.lst (xs.map markV)), none, none] [] := by simp [k1, hi]
    refine callF_pure h74 rfl rfl hok (μ' := []) ?_ (by split <;> first | exact pures_notes _ | rfl)
    show endOf (execs P (callF P (n + 1)) (_ :: _ :: _ :: []) [some (.tup (xs.map Note.pv)), some x.pv, none, none, none] []) = _
    rw [y_cons' s1, y_cons' hc, y_cons, y_ret, x_ite]
    by_cases h6 : xs.length = 6
    · have h6' : (5 : Int) < xs.length := by omega
      simp [h6, h6']
    · have h6' : ¬ (5 : Int) < xs.length := by omega
      simp only [x_cmp, x_b1, x_var, x_con, List.getElem?_cons_zero, R.ok_bind, len_notes, o_gtI, decide_eq_false h6', tr_bl, if_neg h6]
      rw [hb]
      rfl
theorem s_without (K : HasKeep P) {m : PV} (hm : data? m = true) (hs : ∀ μ, see μ m = m) (hmo : okArg m = true) (hl : xs.length ≤ 1000) : callF P (n + 2) 70 [.tup (xs.map Note.pv), m] μ = .ok (.tup ((restL xs m).map Note.pv)) μ := by
  have hok : ([PV.tup (xs.map Note.pv), m]).all okArg = true := by simp [notesV_arg, hmo]
  have c1 := comp_filterA (P := P) (cs := callF P (n + 1)) (env := [some (.tup (xs.map Note.pv)), some m, none]) (μ := []) (f := Note.pv) (l := xs) (g := Note.pv) (t := fun y => !peq (markV y) m) (elt := .var 2) (c := .cmp .ne (.call 5 [(.var 2)]) (.var 1)) (p := .v 2) (it := .seq (.var 0)) (src := .items (xs.map Note.pv)) (by simp [srcSeq]) (src_items _) (SL_big (by omega)) fun x hxm => by
    have k := s_mark (n := n) (μ := []) K.h5 x
    have q : opCmp .ne (markV x) m [] = .ok (.bl (!peq (markV x) m)) [] := by
      have e := o_ne (μ := []) (p := markV x) (q := m) rfl (by rw [hs]; exact hm)
      rw [hs] at e
      exact e
    exact ⟨_, pat_v _ _, by simp [patSlots, wipeE, k, q], fun _ => by simp [patSlots, wipeE]⟩
  refine callF_pure K.h70 rfl rfl hok (μ' := []) ?_ (pures_notes _)
  show endOf (execs P (callF P (n + 1)) (_ :: []) [some (.tup (xs.map Note.pv)), some m, none] []) = _
  rw [y_cons, y_ret, x_b1, c1]
  rfl
theorem s_dropped (K : HasKeep P) (hl : xs.length ≤ 1000) : callF P (n + 3) 71 [.tup (xs.map Note.pv), .str x.name, .str (dot x.host), .str (sla x.path)] μ = if (restL xs (markV x)).length = xs.length then .exn 1 μ else .ok (.tup ((restL xs (markV x)).map Note.pv)) μ := by
  have hok : ([PV.tup (xs.map Note.pv), .str x.name, .str (dot x.host), .str (sla x.path)]).all okArg = true := by
    have h2 : ∀ s, okArg (.str s) = true := fun _ => rfl
    simp [notesV_arg, h2]
  have k1 := s_without (n := n) (μ := []) (xs := xs) K (m := markV x) rfl (fun _ => rfl) rfl hl
  have k2 : callF P (n + 2) 70 [.tup (xs.map Note.pv), .tup [.str x.name, .str (dot x.host), .str (sla x.path)]] [] = .ok (.tup ((restL xs (markV x)).map Note.pv)) [] := k1
  generalize restL xs (markV x) = ys at k2
  by_cases h : ys.length = xs.length
  · rw [if_pos h]
    refine callF_exn K.h71 rfl rfl hok (μ' := []) ?_
    have h' : ((ys.length : Int) == xs.length) = true := by simp; omega
    simp [d_dropped, startE, k2, h']
  · rw [if_neg h]
    refine callF_pure K.h71 rfl rfl hok (μ' := []) ?_ (pures_notes _)
    have h' : ((ys.length : Int) == xs.length) = false := by simp; omega
    simp [d_dropped, startE, k2, h']
theorem s_fresh (K : HasKeep P) {t : Int} (hl : xs.length ≤ 1000) : callF P (n + 2) 72 [r.pv, .tup (xs.map Note.pv), .int t] μ = .ok (.tup ((freshL r xs t).map Note.pv)) μ := by
  have hok : ([r.pv, PV.tup (xs.map Note.pv), .int t]).all okArg = true := by
    have h2 : okArg (.int t) = true := rfl
    simp [notesV_arg, Rul.okArg, h2]
  have c1 := comp_filterA (P := P) (cs := callF P (n + 1)) (env := [some r.pv, some (.tup (xs.map Note.pv)), some (.int t), none]) (μ := []) (f := Note.pv) (l := xs) (g := Note.pv) (t := fun x => !endF r x t) (elt := .var 3) (c := .not (.call 41 [(.var 0), (.var 3), (.var 2)])) (p := .v 3) (it := .seq (.var 1)) (src := .items (xs.map Note.pv)) (by simp [srcSeq]) (src_items _) (SL_big (by omega)) fun x hxm => by
    have k := s_ended (n := n) (μ := []) (r := r) (x := x) (t := t) K.h41
    exact ⟨_, pat_v _ _, by simp [patSlots, wipeE, k], fun _ => by simp [patSlots, wipeE]⟩
  refine callF_pure K.h72 rfl rfl hok (μ' := []) ?_ (pures_notes _)
  show endOf (execs P (callF P (n + 1)) (_ :: []) [some r.pv, some (.tup (xs.map Note.pv)), some (.int t), none] []) = _
  rw [y_cons, y_ret, x_b1, c1]
  rfl
/-- put, or dropped, with what is refused as its word -/
def putV (xs : List Note) (x : Note) : PV := match putL xs x with | some ys => .tup (ys.map Note.pv) | none => .str qFull
def dropV (xs : List Note) (x : Note) : PV := if (restL xs (markV x)).length = xs.length then .str qNoNote else .tup ((restL xs (markV x)).map Note.pv)
theorem s_said_put (K : HasKeep P) (H : HasWord P) (h73 : P.funs[73]? = some d__law_said_2) (hl : xs.length ≤ 100) : callF P (n + 4) 73 [.int 0, .tup (xs.map Note.pv), x.pv] μ = .ok (putV xs x) μ := by
  have hok : ([PV.int 0, PV.tup (xs.map Note.pv), x.pv]).all okArg = true := by
    have h2 : okArg (.int 0) = true := rfl
    simp [notesV_arg, Note.okArg, h2]
  have k1 := s_put (n := n + 1) (μ := []) (xs := xs) (x := x) K hl
  have hs : P.sup 2 0 = true := by rw [H.sup]; rfl
  unfold putV
  cases hf : putL xs x with
  | some ys =>
    rw [hf] at k1
    refine callF_pure h73 rfl rfl hok (μ' := []) ?_ (pures_notes _)
    simp [d__law_said_2, startE, k1]
  | none =>
    rw [hf] at k1
    have k2 : callF P (n + 3) 63 [.exc 2] [] = .ok (.str qFull) [] := s_word (n := n + 2) H (by omega) (by omega)
    refine callF_pure h73 rfl rfl hok (μ' := []) ?_ rfl
    simp [d__law_said_2, startE, k1, hs, suiteEnd, suiteEnv, k2, pure?]
theorem s_said_drop (K : HasKeep P) (H : HasWord P) (h73 : P.funs[73]? = some d__law_said_2) (hl : xs.length ≤ 100) : callF P (n + 4) 73 [.int 1, .tup (xs.map Note.pv), x.pv] μ = .ok (dropV xs x) μ := by
  have hok : ([PV.int 1, PV.tup (xs.map Note.pv), x.pv]).all okArg = true := by
    have h2 : okArg (.int 1) = true := rfl
    simp [notesV_arg, Note.okArg, h2]
  have k1 := s_dropped (n := n) (μ := []) (xs := xs) (x := x) K (by omega)
  have hs : P.sup 1 0 = true := by rw [H.sup]; rfl
  unfold dropV
  by_cases hf : (restL xs (markV x)).length = xs.length
  · rw [if_pos hf] at k1 ⊢
    have k2 : callF P (n + 3) 63 [.exc 1] [] = .ok (.str qNoNote) [] := s_word (n := n + 2) H (by omega) (by omega)
    refine callF_pure h73 rfl rfl hok (μ' := []) ?_ rfl
    simp [d__law_said_2, startE, k1, hs, suiteEnd, suiteEnv, k2, pure?]
  · rw [if_neg hf] at k1 ⊢
    refine callF_pure h73 rfl rfl hok (μ' := []) ?_ (pures_notes _)
    simp [d__law_said_2, startE, k1]
end
end NR

/-! J1: objects in the store; a jar's methods. -/
namespace NR
/-- the n-th cell is an object of the class c, the m-th a list of its own -/
def jst (μ : Sto) (n m c : Nat) (fs : List (Nat × PV)) (p : List PV) : Sto := (μ.set n (.inst c fs)).set m (.list p)
structure Jn (μ : Sto) (n m : Nat) : Prop where
  ne : n ≠ m
  ln : n < μ.length
  lm : m < μ.length
theorem jst_len (μ : Sto) (n m c : Nat) (fs : List (Nat × PV)) (p : List PV) : (jst μ n m c fs p).length = μ.length := by unfold jst; simp
theorem jst_n {μ : Sto} {n m : Nat} (J : Jn μ n m) (c : Nat) (fs : List (Nat × PV)) (p : List PV) : (jst μ n m c fs p)[n]? = some (.inst c fs) := by
  unfold jst
  rw [List.getElem?_set_ne (Ne.symm J.ne), List.getElem?_set_self J.ln]
theorem jst_m {μ : Sto} {n m : Nat} (J : Jn μ n m) (c : Nat) (fs : List (Nat × PV)) (p : List PV) : (jst μ n m c fs p)[m]? = some (.list p) := by
  unfold jst
  rw [List.getElem?_set_self (by simp [J.lm])]
theorem jst_o {μ : Sto} {n m k : Nat} (h1 : k ≠ n) (h2 : k ≠ m) (c : Nat) (fs : List (Nat × PV)) (p : List PV) : (jst μ n m c fs p)[k]? = μ[k]? := by
  unfold jst
  rw [List.getElem?_set_ne (Ne.symm h2), List.getElem?_set_ne (Ne.symm h1)]
theorem jst_setn {μ : Sto} {n m : Nat} (J : Jn μ n m) (c d : Nat) (fs gs : List (Nat × PV)) (p : List PV) : (jst μ n m c fs p).set n (.inst d gs) = jst μ n m d gs p := by
  unfold jst
  rw [List.set_comm _ _ (Ne.symm J.ne), List.set_set]
theorem jst_setm {μ : Sto} {n m : Nat} (c : Nat) (fs : List (Nat × PV)) (p q : List PV) : (jst μ n m c fs p).set m (.list q) = jst μ n m c fs q := by
  unfold jst
  rw [List.set_set]
theorem jst_self {μ : Sto} {n m c : Nat} {fs : List (Nat × PV)} {p : List PV} (h1 : μ[n]? = some (.inst c fs)) (h2 : μ[m]? = some (.list p)) : jst μ n m c fs p = μ := by
  unfold jst
  have : μ.set n (.inst c fs) = μ := by
    obtain ⟨h, e⟩ := List.getElem?_eq_some_iff.mp h1
    rw [← e]; exact List.set_getElem_self h
  rw [this]
  obtain ⟨h, e⟩ := List.getElem?_eq_some_iff.mp h2
  rw [← e]; exact List.set_getElem_self h
theorem Jn.of {μ : Sto} {n m c : Nat} {fs : List (Nat × PV)} {p : List PV} (h1 : μ[n]? = some (.inst c fs)) (h2 : μ[m]? = some (.list p)) : Jn μ n m :=
  ⟨fun e => (by have h := h1; rw [e, h2] at h; cases h), (List.getElem?_eq_some_iff.mp h1).1, (List.getElem?_eq_some_iff.mp h2).1⟩
section
variable {P : Prog} {cs : CallS} {env : EnvP} {μ : Sto}
@[simp] theorem x_fld (o : CE) (f : Nat) : ev P cs (.fld o f) env μ = (ev P cs o env μ).bind fun p μ => fldOf p f μ := by rw [ev] <;> rfl
@[simp] theorem x_meth (c f : Nat) (o : CE) (args : List CE) : ev P cs (.meth c f o args) env μ = (ev P cs o env μ).bind fun p μ => if isInst c p μ then (evs P cs args env μ).bind fun ps μ => cs f (p :: ps) μ else .bad := by rw [ev] <;> rfl
theorem x_new (c : Nat) (args : List CE) : ev P cs (.new c args) env μ = (evs P cs args env μ).bind fun ps μ => match P.classes[c]? with
    | some cd => (cs cd.init (.loc μ.length :: ps) (μ ++ [.inst c []])).bind fun r μ' => match r with | .non => .ok (.loc μ.length) μ' | _ => .bad
    | none => .bad := by rw [ev] <;> rfl
@[simp] theorem y_sfld (o : CE) (f : Nat) (v : CE) : exec P cs (.sfld o f v) env μ = RS.of env (ev P cs v env μ) fun x μ => RS.of env (ev P cs o env μ) fun y μ => match setFld y f x μ with | some μ => .nx env μ | none => .bad := by rw [exec] <;> rfl
@[simp] theorem y_tfld (o : CE) (fs : List Nat) (e : CE) : exec P cs (.tfld o fs e) env μ = RS.of env (ev P cs e env μ) fun x μ => match x with | .tup vs => if vs.length = fs.length then tFlds (fun env μ => ev P cs o env μ) fs vs env μ else .bad | _ => .bad := by rw [exec] <;> rfl
/-- a method runs on its caller's store -/
theorem callF_eff {n i : Nat} {d : FDef} {args : List PV} (h1 : P.funs[i]? = some d) (h2 : d.eff = true) (hl : args.length = d.np) : callF P (n + 1) i args μ = endOf (execs P (callF P n) d.body (startE d args) μ) := by
  rw [callF, h1]
  show (if args.length = d.np then (if d.eff = true then _ else _) else _) = _
  rw [if_pos hl, if_pos h2]
end
section
variable {μ : Sto} {n m : Nat} (J : Jn μ n m) (c : Nat) (fs : List (Nat × PV)) (p : List PV)
include J
theorem j_fld (f : Nat) : fldOf (.loc n) f (jst μ n m c fs p) = match fs.lookup f with | some v => .ok v (jst μ n m c fs p) | none => .bad := by
  unfold fldOf
  simp only [jst_n J]
  all_goals (cases fs.lookup f <;> rfl)
theorem j_inst (d : Nat) : isInst d (.loc n) (jst μ n m c fs p) = (c == d) := by
  show (match (jst μ n m c fs p)[n]? with | some (.inst d' _) => d' == d | _ => false) = _
  rw [jst_n J]
theorem j_set (f : Nat) (v : PV) (h : fs.length < 900) : setFld (.loc n) f v (jst μ n m c fs p) = some (jst μ n m c (putField f v fs) p) := by
  show (match (jst μ n m c fs p)[n]? with | some (.inst c fs) => (if fs.length < 900 then some ((jst μ n m _ _ p).set n (.inst c (putField f v fs))) else none) | _ => none) = _
  rw [jst_n J]
  show (if fs.length < 900 then some ((jst μ n m c fs p).set n (.inst c (putField f v fs))) else none) = _
  rw [if_pos h, jst_setn J]
theorem j_see : see (jst μ n m c fs p) (.loc m) = .lst p := by
  show (match (jst μ n m c fs p)[m]? with | some (.list xs) => PV.lst xs | _ => .loc m) = _
  rw [jst_m J]
theorem j_recvA : recv .append (.loc m) (jst μ n m c fs p) = true := by
  show isLstP (see _ _) = true
  rw [j_see J]; rfl
theorem j_recvP : recv .pop (.loc m) (jst μ n m c fs p) = true := by
  show isLstP (see _ _) = true
  rw [j_see J]; rfl
theorem j_append (x : PV) (h : p.length < SL) : opM .append (.loc m) [x] (jst μ n m c fs p) = .ok .non (jst μ n m c fs (p ++ [x])) := by
  show (match (jst μ n m c fs p)[m]? with | some (.list xs) => (if xs.length < SL then R.ok PV.non ((jst μ n m c fs p).set m (.list (xs ++ [x]))) else .bad) | _ => .bad) = _
  rw [jst_m J]
  show (if p.length < SL then R.ok PV.non ((jst μ n m c fs p).set m (.list (p ++ [x]))) else .bad) = _
  rw [if_pos h, jst_setm]
theorem j_pop (x : PV) : opM .pop (.loc m) [] (jst μ n m c fs (p ++ [x])) = .ok x (jst μ n m c fs p) := by
  show mPop (.loc m) [] (jst μ n m c fs (p ++ [x])) = _
  unfold mPop
  simp only [jst_m J]
  simp [jst_setm]
theorem j_truth : truth (jst μ n m c fs p) (.loc m) = some (!p.isEmpty) := by
  unfold truth
  rw [j_see J]
end
@[simp] theorem lk0 (a : PV) (r : List (Nat × PV)) : List.lookup 0 ((0, a) :: r) = some a := rfl
@[simp] theorem lk1 (a b : PV) (r : List (Nat × PV)) : List.lookup 1 ((0, a) :: (1, b) :: r) = some b := rfl
@[simp] theorem lk2 (a b c : PV) (r : List (Nat × PV)) : List.lookup 2 ((0, a) :: (1, b) :: (2, c) :: r) = some c := rfl
@[simp] theorem lk3 (a b c d : PV) (r : List (Nat × PV)) : List.lookup 3 ((0, a) :: (1, b) :: (2, c) :: (3, d) :: r) = some d := rfl
@[simp] theorem lk4 (a b c d e : PV) (r : List (Nat × PV)) : List.lookup 4 ((0, a) :: (1, b) :: (2, c) :: (3, d) :: (4, e) :: r) = some e := rfl
/-! ### jars -/
abbrev jarF (r : Rul) (xs : List Note) (t : Int) (m : Nat) (asked : PV) : List (Nat × PV) := [(0, r.pv), (1, .tup (xs.map Note.pv)), (2, .int t), (3, .loc m), (4, asked)]
/-- a jar at n with its past at m -/
abbrev jarS (μ : Sto) (n m : Nat) (r : Rul) (xs : List Note) (t : Int) (p : List PV) (asked : PV) : Sto := jst μ n m 0 (jarF r xs t m asked) p
def snapV (r : Rul) (xs : List Note) (t : Int) : PV := .tup [r.pv, .tup (xs.map Note.pv), .int t]
structure HasJar (P : Prog) : Prop where
  keep : HasKeep P
  sent : HasSent P
  h29 : P.funs[29]? = some d_is_below
  h33 : P.funs[33]? = some d_may_put
  h116 : P.funs[116]? = some d_Jar___init__
  h117 : P.funs[117]? = some d_Jar_become
  h118 : P.funs[118]? = some d_Jar_take
  h119 : P.funs[119]? = some d_Jar_ask
  h120 : P.funs[120]? = some d_Jar_pass_on
  h121 : P.funs[121]? = some d_Jar_notes
  h122 : P.funs[122]? = some d_Jar_time
  h123 : P.funs[123]? = some d_Jar_rules
  h124 : P.funs[124]? = some d_Jar_change
  h125 : P.funs[125]? = some d_Jar_undo
  h126 : P.funs[126]? = some d_Jar_log
  c1 : P.consts[1]? = some (.int 99)
  cl : P.classes[0]? = some ⟨116⟩
section
variable {P : Prog} {k : Nat} {μ : Sto} {n m : Nat} {r : Rul} {xs : List Note} {t : Int} {p : List PV} {asked : PV}
theorem s_jnotes (H : HasJar P) (J : Jn μ n m) : callF P (k + 1) 121 [.loc n] (jarS μ n m r xs t p asked) = .ok (.tup (xs.map Note.pv)) (jarS μ n m r xs t p asked) := by
  rw [callF_eff H.h121 rfl rfl]
  simp [d_Jar_notes, startE, j_fld J]
theorem s_jtime (H : HasJar P) (J : Jn μ n m) : callF P (k + 1) 122 [.loc n] (jarS μ n m r xs t p asked) = .ok (.int t) (jarS μ n m r xs t p asked) := by
  rw [callF_eff H.h122 rfl rfl]
  simp [d_Jar_time, startE, j_fld J]
theorem s_jrules (H : HasJar P) (J : Jn μ n m) : callF P (k + 1) 123 [.loc n] (jarS μ n m r xs t p asked) = .ok r.pv (jarS μ n m r xs t p asked) := by
  rw [callF_eff H.h123 rfl rfl]
  simp [d_Jar_rules, startE, j_fld J]
theorem s_jlog (H : HasJar P) (J : Jn μ n m) : callF P (k + 1) 126 [.loc n] (jarS μ n m r xs t p asked) = .ok asked (jarS μ n m r xs t p asked) := by
  rw [callF_eff H.h126 rfl rfl]
  simp [d_Jar_log, startE, j_fld J]
theorem s_become (H : HasJar P) (J : Jn μ n m) (hp : p.length < 10000) {r' : Rul} {ys : List Note} {t' : Int} : callF P (k + 1) 117 [.loc n, r'.pv, .tup (ys.map Note.pv), .int t'] (jarS μ n m r xs t p asked) = .ok .non (jarS μ n m r' ys t' (p ++ [snapV r xs t]) asked) := by
  rw [callF_eff H.h117 rfl rfl]
  have hs : p.length < SL := by unfold SL; omega
  simp [d_Jar_become, startE, j_fld J, j_recvA J, j_append J _ _ _ _ hs, j_set J, putField, snapV]
/-- what becomes of a note that is put: the notes behind it, or why not -/
def takeL (r : Rul) (xs : List Note) (t : Int) (x : Note) (z : List Nat) : Except Nat (List Note) :=
  if mayF x z then (if endF r x t then .ok (restL xs (markV x)) else match putL xs x with | some ys => .ok ys | none => .error 2) else .error 4
theorem s_jtake (H : HasJar P) (J : Jn μ n m) (hp : p.length < 10000) (hl : xs.length ≤ 100) {x : Note} {z : List Nat} (hx : x.Ok) : callF P (k + 3) 118 [.loc n, x.pv, .str z] (jarS μ n m r xs t p asked) = match takeL r xs t x z with
    | .ok ys => .ok .non (jarS μ n m r ys t (p ++ [snapV r xs t]) asked)
    | .error c => .exn c (jarS μ n m r xs t p asked) := by
  rw [callF_eff H.h118 rfl rfl]
  have k1 := s_may_put (P := P) (n := k) (μ := jarS μ n m r xs t p asked) H.h29 H.h33 hx (z := z)
  have k2 := s_ended (P := P) (n := k + 1) (μ := jarS μ n m r xs t p asked) (r := r) (x := x) (t := t) H.keep.h41
  have k3 := s_without (P := P) (n := k) (μ := jarS μ n m r xs t p asked) (xs := xs) H.keep (m := markV x) rfl (fun _ => rfl) rfl (by omega)
  have k4 := s_put (P := P) (n := k) (μ := jarS μ n m r xs t p asked) (xs := xs) (x := x) H.keep hl
  have k5 := s_mark (P := P) (n := k + 1) (μ := jarS μ n m r xs t p asked) H.keep.h5 x
  have k6 := fun ys => s_become (k := k + 1) (μ := μ) (n := n) (m := m) (r := r) (xs := xs) (t := t) (asked := asked) H J hp (r' := r) (ys := ys) (t' := t)
  unfold takeL
  cases hm : mayF x z with
  | false => rw [hm] at k1; simp [d_Jar_take, startE, k1]
  | true =>
    rw [hm] at k1
    cases he : endF r x t with
    | true =>
      rw [he] at k2
      generalize restL xs (markV x) = ys at k3
      simp [d_Jar_take, startE, k1, k2, k3, k5, k6, j_fld J, j_inst J]
    | false =>
      rw [he] at k2
      cases hq : putL xs x with
      | none => rw [hq] at k4; simp [d_Jar_take, startE, k1, k2, k4, j_fld J, j_inst J]
      | some ys => rw [hq] at k4; simp [d_Jar_take, startE, k1, k2, k4, k6, j_fld J, j_inst J]
theorem s_jpass (H : HasJar P) (J : Jn μ n m) (hp : p.length < 10000) (hl : xs.length ≤ 100) {i : Int} : callF P (k + 3) 120 [.loc n, .int i] (jarS μ n m r xs t p asked) = .ok .non (jarS μ n m r (freshL r xs (min 99 (t + i))) (min 99 (t + i)) (p ++ [snapV r xs t]) asked) := by
  rw [callF_eff H.h120 rfl rfl]
  have hm : (if t + i < 99 then t + i else (99 : Int)) = min 99 (t + i) := by omega
  have k3 := s_fresh (P := P) (n := k) (μ := jarS μ n m r xs t p asked) (r := r) (xs := xs) (t := min 99 (t + i)) H.keep (by omega)
  have k6 := fun ys => s_become (k := k + 1) (μ := μ) (n := n) (m := m) (r := r) (xs := xs) (t := t) (asked := asked) H J hp (r' := r) (ys := ys) (t' := min 99 (t + i))
  generalize freshL r xs (min 99 (t + i)) = ys at k3
  simp [d_Jar_pass_on, startE, H.c1, hm, j_fld J, j_inst J, k3, k6]
theorem s_jchange (H : HasJar P) (J : Jn μ n m) (hp : p.length < 10000) (hl : xs.length ≤ 100) {r' : Rul} : callF P (k + 3) 124 [.loc n, r'.pv] (jarS μ n m r xs t p asked) = .ok .non (jarS μ n m r' (freshL r' xs t) t (p ++ [snapV r xs t]) asked) := by
  rw [callF_eff H.h124 rfl rfl]
  have k3 := s_fresh (P := P) (n := k) (μ := jarS μ n m r xs t p asked) (r := r') (xs := xs) (t := t) H.keep (by omega)
  have k6 := fun ys => s_become (k := k + 1) (μ := μ) (n := n) (m := m) (r := r) (xs := xs) (t := t) (asked := asked) H J hp (r' := r') (ys := ys) (t' := t)
  generalize freshL r' xs t = ys at k3
  simp [d_Jar_change, startE, j_fld J, j_inst J, k3, k6]
theorem s_jundo0 (H : HasJar P) (J : Jn μ n m) : callF P (k + 1) 125 [.loc n] (jarS μ n m r xs t [] asked) = .exn 5 (jarS μ n m r xs t [] asked) := by
  rw [callF_eff H.h125 rfl rfl]
  simp [d_Jar_undo, startE, j_fld J, j_truth J]
theorem s_jundo (H : HasJar P) (J : Jn μ n m) {r' : Rul} {ys : List Note} {t' : Int} : callF P (k + 1) 125 [.loc n] (jarS μ n m r xs t (p ++ [snapV r' ys t']) asked) = .ok .non (jarS μ n m r' ys t' p asked) := by
  rw [callF_eff H.h125 rfl rfl]
  have hp : (p ++ [snapV r' ys t']).isEmpty = false := by cases p <;> rfl
  have hq : snapV r' ys t' = .tup [r'.pv, .tup (ys.map Note.pv), .int t'] := rfl
  generalize snapV r' ys t' = w at hp hq
  simp [d_Jar_undo, startE, j_fld J, j_truth J, hp, j_recvP J, j_pop J]
  simp [hq, tFlds, j_set J, putField]
/-- an ask at a time -/
def askAt (a : Ask) (t : Int) : Ask := ⟨a.host, a.path, t, a.safe, a.origin, a.home⟩
theorem askAt_ok {a : Ask} (h : a.Ok) {t : Int} (ht : 0 ≤ t ∧ t ≤ 99) : (askAt a t).Ok := ⟨h.host, h.path, h.origin, ht⟩
theorem s_jask (H : HasJar P) (J : Jn μ n m) {es : List PV} (he : es.length < 10000) (hx : ∀ x ∈ xs, x.Ok) {a : Ask} (ha : a.Ok) (ht : 0 ≤ t ∧ t ≤ 99) (hl : xs.length ≤ 1000) :
    callF P (k + 6) 119 [.loc n, .str (dot a.host), .str (sla a.path), .bl a.safe, optS a.origin, .bl a.home] (jarS μ n m r xs t p (.tup es)) = .ok (.tup ((sentL r (askAt a t) xs).map pairV)) (jarS μ n m r xs t p (.tup (es ++ [.tup [(askAt a t).pv, .tup ((sentL r (askAt a t) xs).map pairV)]]))) := by
  rw [callF_eff H.h119 rfl rfl]
  have k1 : ∀ μ, callF P (k + 5) 57 [r.pv, .tup (xs.map Note.pv), .tup [.str (dot a.host), .str (sla a.path), .int t, .bl a.safe, optS a.origin, .bl a.home]] μ = .ok (.tup ((sentL r (askAt a t) xs).map pairV)) μ := fun μ => s_sent (P := P) (n := k) (μ := μ) (r := r) (xs := xs) H.sent hx (askAt_ok ha ht) hl
  have hs : es.length + 1 ≤ SL := by unfold SL; omega
  generalize (sentL r (askAt a t) xs).map pairV = w at k1
  have hq : (askAt a t).pv = .tup [.str (dot a.host), .str (sla a.path), .int t, .bl a.safe, optS a.origin, .bl a.home] := rfl
  rw [hq]
  simp [d_Jar_ask, startE, j_fld J, k1, hs, j_set J, putField]
theorem setFld_last (ν : Sto) (c f : Nat) (fs : List (Nat × PV)) (v : PV) (rest : Sto) (h : fs.length < 900) : setFld (.loc ν.length) f v (ν ++ .inst c fs :: rest) = some (ν ++ .inst c (putField f v fs) :: rest) := by
  unfold setFld
  have : (ν ++ .inst c fs :: rest)[ν.length]? = some (.inst c fs) := by simp
  simp only [this, if_pos h]
  simp
/-- a new jar -/
theorem s_newjar (H : HasJar P) {env : EnvP} {e : CE} {ν : Sto} (he : ev P (callF P (k + 1)) e env ν = .ok r.pv ν) :
    ev P (callF P (k + 1)) (.new 0 [e]) env ν = .ok (.loc ν.length) (ν ++ [.inst 0 (jarF r [] 0 (ν.length + 1) (.tup [])), .list []]) := by
  rw [x_new]
  simp only [x_cons, x_nil, he, R.ok_bind, H.cl]
  have : callF P (k + 1) 116 [.loc ν.length, r.pv] (ν ++ [.inst 0 []]) = .ok .non (ν ++ [.inst 0 (jarF r [] 0 (ν.length + 1) (.tup [])), .list []]) := by
    rw [callF_eff H.h116 rfl rfl]
    simp [d_Jar___init__, startE, setFld_last, putField, mkLst]
  rw [this]
  rfl
end
end NR

/-! J2: a jar's states and deeds, as the laws draw and follow them. -/
namespace NR
structure St where
  r : Rul
  xs : List Note
  t : Int
def St.pv (S : St) : PV := snapV S.r S.xs S.t
structure St.Ok (S : St) : Prop where
  r : S.r.Ok
  xs : ∀ x ∈ S.xs, x.Ok
  len : S.xs.length ≤ 6
  t : 0 ≤ S.t ∧ S.t ≤ 99
abbrev dTake : List Nat := [116, 97, 107, 101]
abbrev dAsk : List Nat := [97, 115, 107]
abbrev dPass : List Nat := [112, 97, 115, 115]
abbrev dChange : List Nat := [99, 104, 97, 110, 103, 101]
abbrev dUndo : List Nat := [117, 110, 100, 111]
inductive Deed where
  | take (x : Note) (zs : List Lab) | ask (a : Ask) | pass (i : Int) | change (r : Rul) | undo (i : Int)
def Deed.pv : Deed → PV
  | .take x zs => .tup [.str dTake, x.pv, .str (dot zs)]
  | .ask a => .tup [.str dAsk, a.pv]
  | .pass i => .tup [.str dPass, .int i]
  | .change r => .tup [.str dChange, r.pv]
  | .undo i => .tup [.str dUndo, .int i]
def Deed.Ok : Deed → Prop
  | .take x zs => x.Ok ∧ HostOk zs
  | .ask a => a.Ok
  | .pass i => 0 ≤ i ∧ i ≤ 100
  | .change r => r.Ok
  | .undo _ => True
theorem Deed.pure (d : Deed) : pure? d.pv = true := by
  cases d with
  | take x zs => show (true && (pure? x.pv && (true && true))) = true; rw [x.pure]; rfl
  | ask a => show (true && (pure? a.pv && true)) = true; rw [a.pure]; rfl
  | pass i => rfl
  | change r => rfl
  | undo i => rfl
theorem St.pure (S : St) : pure? S.pv = true := by
  show (pure? S.r.pv && (pures (S.xs.map Note.pv) && (true && true))) = true
  rw [pures_notes]; rfl
theorem St.dep (S : St) : dep S.pv ≤ 3 := by
  have h := notes_dep S.xs
  have h2 : NR.dep S.r.pv = 1 := rfl
  show max (NR.dep S.r.pv) (max (deps (S.xs.map Note.pv) + 1) (max 0 0)) + 1 ≤ 3
  omega
theorem restL_all {xs : List Note} {m : PV} (h : ∀ x ∈ xs, x.Ok) : ∀ x ∈ restL xs m, x.Ok := fun x hx => h x (restL_mem hx)
theorem freshL_all {r : Rul} {xs : List Note} {t : Int} (h : ∀ x ∈ xs, x.Ok) : ∀ x ∈ freshL r xs t, x.Ok := fun x hx => h x (freshL_mem hx)
theorem putL_all {xs ys : List Note} {x : Note} (e : putL xs x = some ys) (h : ∀ x ∈ xs, x.Ok) (hx : x.Ok) : ∀ y ∈ ys, y.Ok := fun y hy => (putL_mem e y hy).elim (fun z => z ▸ hx) (h y)
theorem takeL_ok {S : St} {x : Note} {z : List Nat} {ys : List Note} (h : takeL S.r S.xs S.t x z = .ok ys) (hS : S.Ok) (hx : x.Ok) : (⟨S.r, ys, S.t⟩ : St).Ok := by
  unfold takeL at h
  split at h
  · split at h
    · cases h
      exact ⟨hS.r, restL_all hS.xs, Nat.le_trans restL_len hS.len, hS.t⟩
    · split at h
      · rename_i zs hp
        cases h
        exact ⟨hS.r, putL_all hp hS.xs hx, (putL_len hp hS.len).1, hS.t⟩
      · cases h
  · cases h
theorem takeL_err {r : Rul} {xs : List Note} {t : Int} {x : Note} {z : List Nat} {c : Nat} (h : takeL r xs t x z = .error c) : c = 2 ∨ c = 4 := by
  unfold takeL at h
  split at h
  · split at h
    · cases h
    · split at h
      · cases h
      · cases h; exact .inl rfl
  · cases h; exact .inr rfl
/-- the word of a refusal -/
def errT (c : Nat) : List Nat := excWords.getD (c - 1) []
def takeV (S : St) (x : Note) (zs : List Lab) : PV := match takeL S.r S.xs S.t x (dot zs) with
  | .ok ys => St.pv ⟨S.r, ys, S.t⟩
  | .error c => .str (errT c)
structure HasLJar (P : Prog) : Prop where
  draw : HasDraw P
  lfit : HasLFit P
  word : HasWord P
  jar : HasJar P
  h14 : P.funs[14]? = some d__law_mark
  h35 : P.funs[35]? = some d__law_same
  h48 : P.funs[48]? = some d__law_ended
  h62 : P.funs[62]? = some d__law_sent
section
variable {P : Prog} {n : Nat} {μ : Sto}
/-- the note again, wide as it was -/
def again2 (o x : Note) : Note := ⟨o.name, x.worth, o.host, o.wide, o.path, x.fin, x.safe, x.side⟩
theorem again2_ok {o x : Note} (ho : o.Ok) (hx : x.Ok) : (again2 o x).Ok := ⟨ho.name, hx.worth, ho.host, ho.path, hx.fin, hx.side, ho.hs, ho.ps, ho.pl⟩
theorem s_deed (H : HasLJar P) (h128 : P.funs[128]? = some d__law_deed) {c : Int} {xs : List Note} (hx : ∀ x ∈ xs, x.Ok) (hl : xs.length ≤ 20) : ∃ d : Deed, d.Ok ∧ callF P (n + 4) 128 [.int c, .tup (xs.map Note.pv)] μ = .ok d.pv μ := by
  have hok : ([PV.int c, PV.tup (xs.map Note.pv)]).all okArg = true := by
    have h2 : okArg (.int c) = true := rfl
    simp [notesV_arg, h2]
  have mx : ∀ (p m : Int), 0 < p → p ≤ 10000 → 0 < m → callF P (n + 3) 10 [.int c, .int p, .int m] [] = .ok (.int (mixI c p m)) [] := fun p m h1 h2 h3 => s_mix (n := n + 2) H.draw.h10 h1 h2 h3
  have m1 := mx 9619 9 (by omega) (by omega) (by omega)
  have m2 := mx 9613 4 (by omega) (by omega) (by omega)
  have m3 := mx 9601 4 (by omega) (by omega) (by omega)
  have m4 := mx 9587 4 (by omega) (by omega) (by omega)
  have kn : callF P (n + 3) 13 [.int (c + 1)] [] = .ok (noteD (c + 1)).pv [] := s_note (n := n) H.draw.h10 H.draw.h11 H.draw.h12 H.draw.h13
  have kr : callF P (n + 3) 16 [.int c] [] = .ok (rulD c).pv [] := s_rules (n := n + 1) H.draw.h10 H.draw.h16
  have ka : callF P (n + 3) 17 [.int (c + 1), .tup (xs.map Note.pv)] [] = .ok (askD (c + 1) xs).pv [] := s_ask (n := n) H.draw.h10 H.draw.h11 H.draw.h12 H.draw.h17 hx hl
  have hno := noteD_ok (c + 1)
  have hro := rulD_ok c
  have hao := askD_ok (c + 1) hx
  generalize noteD (c + 1) = x0 at kn hno
  generalize rulD c = r at kr hro
  generalize askD (c + 1) xs = a at ka hao
  have e1 : opIdx (.tup [.str dTake, .str dTake, .str dTake, .str dTake, .str dAsk, .str dAsk, .str dPass, .str dChange, .str dUndo]) (.int (mixI c 9619 9)) [] = .ok (.str ([dTake, dTake, dTake, dTake, dAsk, dAsk, dPass, dChange, dUndo].getD (mixI c 9619 9).toNat [])) [] := pickS (ss := [dTake, dTake, dTake, dTake, dAsk, dAsk, dPass, dChange, dUndo]) rfl (by omega)
  have e2 : opIdx (.tup [.int 0, .int 1, .int 40, .int 70]) (.int (mixI c 9587 4)) [] = .ok (.int ([0, 1, 40, 70].getD (mixI c 9587 4).toNat 0)) [] := pickI (ss := [0, 1, 40, 70]) rfl (by omega)
  have hw : [dTake, dTake, dTake, dTake, dAsk, dAsk, dPass, dChange, dUndo].getD (mixI c 9619 9).toNat [] ∈ [dTake, dTake, dTake, dTake, dAsk, dAsk, dPass, dChange, dUndo] := pick_mem rfl (by omega)
  have hi : [0, 1, 40, 70].getD (mixI c 9587 4).toNat 0 ∈ ([0, 1, 40, 70] : List Int) := pick_mem rfl (by omega)
  generalize [dTake, dTake, dTake, dTake, dAsk, dAsk, dPass, dChange, dUndo].getD (mixI c 9619 9).toNat [] = w at e1 hw
  generalize [0, 1, 40, 70].getD (mixI c 9587 4).toNat (0 : Int) = i at e2 hi
  have hw' : w = dTake ∨ w = dAsk ∨ w = dPass ∨ w = dChange ∨ w = dUndo := by simpa using hw
  have hi' : 0 ≤ i ∧ i ≤ 100 := by simp at hi; omega
  rcases hw' with rfl | rfl | rfl | rfl | rfl
  · have key : ∃ x : Note, x.Ok ∧ exec P (callF P (n + 3)) (.ite (.and (.cmp .ne (.var 1) (.tup [])) (.cmp .eq (.call 10 [(.var 0), (.con (.int 9613)), (.con (.int 4))]) (.con (.int 0)))) [(.asg (.v 3) (.bin .add (.bin .add (.bin .add (.sl (.idx (.var 1) (.con (.int 0))) none (some (.con (.int 1)))) (.sl (.var 3) (some (.con (.int 1))) (some (.con (.int 2))))) (.sl (.idx (.var 1) (.con (.int 0))) (some (.con (.int 2))) (some (.con (.int 5))))) (.sl (.var 3) (some (.con (.int 5))) none)))] []) [some (.int c), some (.tup (xs.map Note.pv)), some (.str dTake), some x0.pv] [] = .nx [some (.int c), some (.tup (xs.map Note.pv)), some (.str dTake), some x.pv] [] := by
      have hn := ne_nil (μ := ([] : Sto)) (k := 1) Note.pure Note.dep1 (by omega) xs
      cases xs with
      | nil =>
        refine ⟨x0, hno, ?_⟩
        simp at hn
        simp [hn]
      | cons o xs =>
        have hn : opCmp .ne (.tup (o.pv :: xs.map Note.pv)) (.tup []) ([] : Sto) = .ok (.bl true) [] := hn
        by_cases hz : mixI c 9613 4 = 0
        · refine ⟨again2 o x0, again2_ok (hx o List.mem_cons_self) hno, ?_⟩
          simp [hn, m2, hz]
          rfl
        · have hz' : (mixI c 9613 4 == 0) = false := by simpa using hz
          refine ⟨x0, hno, ?_⟩
          simp [hn, m2, hz']
    obtain ⟨x, hxo, s2⟩ := key
    have hh := hxo.host
    have e5 : opIdx (.tup [.str (dot x.host), .str (dot x.host), .str (120 :: 46 :: dot x.host), .str [97]]) (.int (mixI c 9601 4)) [] = .ok (.str (dot ([x.host, x.host, [120] :: x.host, [[97]]].getD (mixI c 9601 4).toNat []))) [] := by
      have e := pickM (μ := ([] : Sto)) (f := fun zs : List Lab => PV.str (dot zs)) (xs := [x.host, x.host, [120] :: x.host, [[97]]]) (d := []) (c := c) (p := 9601) (m := 4) rfl (by omega)
      have d1 : dot ([120] :: x.host) = 120 :: 46 :: dot x.host := dot_cons [120] hh.1
      have d2 : dot [[97]] = [97] := rfl
      rw [← e, List.map_cons, List.map_cons, List.map_cons, List.map_cons, d1, d2]
      rfl
    have hzm : [x.host, x.host, [120] :: x.host, [[97]]].getD (mixI c 9601 4).toNat [] ∈ [x.host, x.host, [120] :: x.host, [[97]]] := pick_mem rfl (by omega)
    generalize [x.host, x.host, [120] :: x.host, [[97]]].getD (mixI c 9601 4).toNat [] = zs at e5 hzm
    have hzo : HostOk zs := by
      simp only [List.mem_cons, List.not_mem_nil, or_false] at hzm
      rcases hzm with rfl | rfl | rfl | rfl
      · exact hh
      · exact hh
      · have h1 : LabOk [120] := okL_of rfl
        exact ⟨by simp, by have := hxo.hs; simp; omega, fun l hl => (List.mem_cons.mp hl).elim (fun e => e ▸ h1) (hh.2.2 l)⟩
      · exact ⟨by simp, by simp, fun l hl => by simp at hl; subst hl; exact okL_of rfl⟩
    refine ⟨.take x zs, ⟨hxo, hzo⟩, ?_⟩
    refine callF_pure h128 rfl rfl hok (μ' := []) ?_ (Deed.pure (.take x zs))
    have f1 := q1 hh.2 2 (by omega)
    have f1' : (dot x.host).length + 1 + 1 ≤ SL := by have := q2 hh.2 2 (by omega); omega
    show endOf (execs P (callF P (n + 3)) (_ :: .ite _ [_, _, _] [] :: _ :: _ :: []) [some (.int c), some (.tup (xs.map Note.pv)), none, none] []) = _
    rw [y_cons' (env1 := [some (.int c), some (.tup (xs.map Note.pv)), some (.str dTake), none]) (μ1 := []) (by simp [m1, e1])]
    rw [y_cons, y_ite]
    have ht : ev P (callF P (n + 3)) (.cmp .eq (.var 2) (.con (.str dTake))) [some (.int c), some (.tup (xs.map Note.pv)), some (.str dTake), none] [] = .ok (.bl true) [] := by simp
    rw [ht, of_ok, tr_bl]
    show endOf ((execs P (callF P (n + 3)) (_ :: _ :: _ :: []) _ _).andThen _) = _
    rw [y_cons' (env1 := [some (.int c), some (.tup (xs.map Note.pv)), some (.str dTake), some x0.pv]) (μ1 := []) (by simp [kn]), y_cons' s2]
    have hx8 : x.pv = .tup [.str x.name, .str x.worth, .str (dot x.host), .bl x.wide, .str (sla x.path), optI x.fin, .bl x.safe, .str x.side] := rfl
    simp [Deed.pv, hx8, m3, e5, f1, f1']
  · refine ⟨.ask a, hao, callF_pure h128 rfl rfl hok (μ' := []) ?_ (Deed.pure (.ask a))⟩
    simp [d__law_deed, startE, m1, e1, ka, Deed.pv]
  · refine ⟨.pass i, hi', callF_pure h128 rfl rfl hok (μ' := []) ?_ (Deed.pure (.pass i))⟩
    simp [d__law_deed, startE, m1, e1, m4, e2, Deed.pv]
  · refine ⟨.change r, hro, callF_pure h128 rfl rfl hok (μ' := []) ?_ (Deed.pure (.change r))⟩
    simp [d__law_deed, startE, m1, e1, kr, Deed.pv]
  · refine ⟨.undo i, trivial, callF_pure h128 rfl rfl hok (μ' := []) ?_ (Deed.pure (.undo i))⟩
    simp [d__law_deed, startE, m1, e1, m4, e2, Deed.pv]
end
end NR

/-! J3: what a jar does, by plain walks; what it tells. -/
namespace NR
section
variable {P : Prog} {n : Nat} {μ : Sto}
theorem ev_tup3 {cs : CallS} {env : EnvP} {a b c : CE} {p q r : PV} (ha : ev P cs a env μ = .ok p μ) (hb : ev P cs b env μ = .ok q μ) (hc : ev P cs c env μ = .ok r μ) : ev P cs (.tup [a, b, c]) env μ = .ok (.tup [p, q, r]) μ := by
  simp [ha, hb, hc]
theorem ev_var {cs : CallS} {env : EnvP} {i : Nat} {p : PV} (h : env[i]? = some (some p)) : ev P cs (.var i) env μ = .ok p μ := by rw [x_var, h]
theorem takeV_pure (S : St) (x : Note) (zs : List Lab) : pure? (takeV S x zs) = true := by
  unfold takeV
  split
  · exact St.pure _
  · rfl
theorem s_ltake (H : HasLJar P) (h129 : P.funs[129]? = some d__law_take) {S : St} (hS : S.Ok) {x : Note} (hx : x.Ok) {zs : List Lab} (hz : HostOk zs) : callF P (n + 2) 129 [S.pv, x.pv, .str (dot zs)] μ = .ok (takeV S x zs) μ := by
  obtain ⟨r, xs, t⟩ := S
  have hl : xs.length ≤ 6 := hS.len
  have hok : ([(⟨r, xs, t⟩ : St).pv, x.pv, PV.str (dot zs)]).all okArg = true := by
    have h1 : okArg (⟨r, xs, t⟩ : St).pv = true := okArg_pure (St.pure _)
    have h2 : okArg (.str (dot zs)) = true := rfl
    simp [h1, Note.okArg, h2]
  have f1 := q2 hz.2 2 (by omega)
  have f2 := q2 hx.host.2 2 (by omega)
  have e2 := spl_dot hz
  have e3 := spl_dot hx.host
  have hm0 : mayF x (dot zs) = (!(x.wide && decide (x.host.length = 1)) && (zs.drop (zs.length - x.host.length) == x.host)) := by
    unfold mayF labsOf
    rw [e2]
  refine callF_pure h129 rfl rfl hok (μ' := []) ?_ (takeV_pure _ _ _)
  show endOf (execs P (callF P (n + 1)) (_ :: _ :: _ :: _ :: _ :: _ :: _ :: []) [some (snapV r xs t), some x.pv, some (.str (dot zs)), none, none, none, none, none, none, none, none] []) = _
  rw [y_cons' (env1 := [some (snapV r xs t), some x.pv, some (.str (dot zs)), some r.pv, some (.tup (xs.map Note.pv)), some (.int t), none, none, none, none, none]) (μ1 := []) (by simp [snapV])]
  have hx2 : opIdx x.pv (.int 2) [] = .ok (.str (dot x.host)) [] := i_t2 _ _ _ _
  have hx3 : opIdx x.pv (.int 3) [] = .ok (.bl x.wide) [] := i_t3 _ _ _ _ _
  rw [y_cons' (env1 := [some (snapV r xs t), some x.pv, some (.str (dot zs)), some r.pv, some (.tup (xs.map Note.pv)), some (.int t), some (.lst (x.host.map PV.str)), some (.lst (zs.map PV.str)), none, none, none]) (μ1 := []) (by simp [hx2, f1, f2, e2, e3])]
  have hm : (if x.host.length < zs.length then (zs.length : Int) - x.host.length else 0) = ((zs.length - x.host.length : Nat) : Int) := by split <;> omega
  have c1 : opCmp .ne (.lst (cutL (zs.map PV.str) (some ((zs.length - x.host.length : Nat) : Int)) none)) (.lst (x.host.map PV.str)) [] = .ok (.bl (!(zs.drop (zs.length - x.host.length) == x.host))) [] := by
    rw [cut_from, ← List.map_drop]
    have h := o_ne (μ := []) (p := .lst ((zs.drop (zs.length - x.host.length)).map PV.str)) (q := .lst (x.host.map PV.str)) (dataL_map (k := 0) (fun _ => rfl) (fun _ => Nat.le_refl _) (by omega) _) (dataL_map (k := 0) (fun _ => rfl) (fun _ => Nat.le_refl _) (by omega) _)
    rw [h]
    show R.ok (PV.bl (!peqs _ _)) [] = _
    rw [peqs_str]
  have ht : ev P (callF P (n + 1)) (.or (.and (.idx (.var 1) (.con (.int 3))) (.cmp .eq (.b1 .len (.var 6)) (.con (.int 1)))) (.cmp .ne (.sl (.var 7) (some (.b2 .max (.con (.int 0)) (.bin .sub (.b1 .len (.var 7)) (.b1 .len (.var 6))))) none) (.var 6))) [some (snapV r xs t), some x.pv, some (.str (dot zs)), some r.pv, some (.tup (xs.map Note.pv)), some (.int t), some (.lst (x.host.map PV.str)), some (.lst (zs.map PV.str)), none, none, none] [] = .ok (.bl (!mayF x (dot zs))) [] := by
    rw [hm0]
    generalize hd : (zs.drop (zs.length - x.host.length) == x.host) = b at c1
    have h1 : ((x.host.length : Int) == 1) = decide (x.host.length = 1) := by rw [Bool.eq_iff_iff]; simp; omega
    cases hw : x.wide <;> cases ho : decide (x.host.length = 1) <;> rw [ho] at h1 <;> simp [hx3, hw, h1, hm, c1]
  unfold takeV takeL
  cases hmay : mayF x (dot zs) with
  | false =>
    rw [hmay] at ht
    rw [y_cons, y_ite, ht, of_ok]
    simp
    rfl
  | true =>
    rw [hmay] at ht
    rw [y_cons' (env1 := [some (snapV r xs t), some x.pv, some (.str (dot zs)), some r.pv, some (.tup (xs.map Note.pv)), some (.int t), some (.lst (x.host.map PV.str)), some (.lst (zs.map PV.str)), none, none, none]) (μ1 := []) (by rw [y_ite, ht, of_ok]; simp)]
    have k1 := s_lmark (n := n) (μ := []) H.h14 x
    have c1 := ev_marks (P := P) (cs := callF P (n + 1)) (env := [some (snapV r xs t), some x.pv, some (.str (dot zs)), some r.pv, some (.tup (xs.map Note.pv)), some (.int t), some (.lst (x.host.map PV.str)), some (.lst (zs.map PV.str)), none, none, none]) (f := 14) (j := 9) (it := .seq (.var 4)) (src := .items (xs.map Note.pv)) (μ := []) (rows := xs) (fun x _ => s_lmark (n := n) H.h14 x) (by omega) (by simp [srcSeq]) (src_items _) (by simp)
    have hi := in_marks (μ := []) xs x
    rw [any_place] at hi
    have ke := s_lended (P := P) (n := n) (μ := []) (r := r) (x := x) (t := t) H.h48
    rw [y_cons' (env1 := [some (snapV r xs t), some x.pv, some (.str (dot zs)), some r.pv, some (.tup (xs.map Note.pv)), some (.int t), some (.lst (x.host.map PV.str)), some (.lst (zs.map PV.str)), some (.lst (xs.map markV)), none, none]) (μ1 := []) (by rw [y_asg, c1]; rfl)]
    cases he : endF r x t with
    | true =>
      rw [he] at ke
      have c2 := comp_filterA (P := P) (cs := callF P (n + 1)) (env := [some (snapV r xs t), some x.pv, some (.str (dot zs)), some r.pv, some (.tup (xs.map Note.pv)), some (.int t), some (.lst (x.host.map PV.str)), some (.lst (zs.map PV.str)), some (.lst (xs.map markV)), none, none]) (μ := []) (f := Note.pv) (l := xs) (g := Note.pv) (t := fun y => !peq (markV y) (markV x)) (elt := .var 9) (c := .cmp .ne (.call 14 [(.var 9)]) (.call 14 [(.var 1)])) (p := .v 9) (it := .seq (.var 4)) (src := .items (xs.map Note.pv)) (by simp [srcSeq]) (src_items _) (SL_big (by omega)) fun y hym => by
        have q1 := s_lmark (n := n) (μ := []) H.h14 y
        have q : opCmp .ne (markV y) (markV x) [] = .ok (.bl (!peq (markV y) (markV x))) [] := o_ne (p := markV y) (q := markV x) rfl rfl
        exact ⟨_, pat_v _ _, by simp [patSlots, wipeE, q1, k1, q], fun _ => by simp [patSlots, wipeE]⟩
      have hq : xs.filter (fun y => !peq (markV y) (markV x)) = restL xs (markV x) := rfl
      rw [hq] at c2
      have hc : ev P (callF P (n + 1)) (.call 48 [(.var 3), (.var 1), (.var 5)]) [some (snapV r xs t), some x.pv, some (.str (dot zs)), some r.pv, some (.tup (xs.map Note.pv)), some (.int t), some (.lst (x.host.map PV.str)), some (.lst (zs.map PV.str)), some (.lst (xs.map markV)), none, none] [] = .ok (.bl true) [] := by simp [ke]
      rw [y_cons, y_ite, hc, of_ok, tr_bl]
      show endOf ((execs P (callF P (n + 1)) (_ :: []) _ _).andThen _) = _
      rw [y_cons, y_ret, ev_tup3 (ev_var rfl) (q := .tup ((restL xs (markV x)).map Note.pv)) (by rw [x_b1, c2]; rfl) (ev_var rfl)]
      simp
      rfl
    | false =>
      rw [he] at ke
      rw [y_cons' (env1 := [some (snapV r xs t), some x.pv, some (.str (dot zs)), some r.pv, some (.tup (xs.map Note.pv)), some (.int t), some (.lst (x.host.map PV.str)), some (.lst (zs.map PV.str)), some (.lst (xs.map markV)), none, none]) (μ1 := []) (by simp [ke])]
      unfold putL
      cases hp : placeL xs x with
      | some j =>
        rw [hp] at hi
        have hx := ix_marks (μ := []) hp
        have hr : recv .index (.lst (xs.map markV)) [] = true := rfl
        have hb := put_at (P := P) (μ := []) (x := x) (xs := xs) (cs := callF P (n + 1)) (env := [some (snapV r xs t), some x.pv, some (.str (dot zs)), some r.pv, some (.tup (xs.map Note.pv)), some (.int t), some (.lst (x.host.map PV.str)), some (.lst (zs.map PV.str)), some (.lst (xs.map markV)), none, some (.int j)]) (i := 4) (m := .var 10) (a := .var 1) (j := j) rfl (by simp) (by simp) (placeL_lt hp) (by omega)
        have hc : ev P (callF P (n + 1)) (.cmp .in_ (.call 14 [(.var 1)]) (.var 8)) [some (snapV r xs t), some x.pv, some (.str (dot zs)), some r.pv, some (.tup (xs.map Note.pv)), some (.int t), some (.lst (x.host.map PV.str)), some (.lst (zs.map PV.str)), some (.lst (xs.map markV)), none, none] [] = .ok (.bl true) [] := by simp [k1, hi]
        rw [y_cons, y_ite, hc, of_ok, tr_bl]
        show endOf ((execs P (callF P (n + 1)) (_ :: _ :: []) _ _).andThen _) = _
        rw [y_cons' (env1 := [some (snapV r xs t), some x.pv, some (.str (dot zs)), some r.pv, some (.tup (xs.map Note.pv)), some (.int t), some (.lst (x.host.map PV.str)), some (.lst (zs.map PV.str)), some (.lst (xs.map markV)), none, some (.int j)]) (μ1 := []) (by simp [k1, hx, hr]), y_cons, y_ret, ev_tup3 (ev_var rfl) hb (ev_var rfl)]
        simp [St.pv, snapV]
      | none =>
        rw [hp] at hi
        have hb := add_at (P := P) (μ := []) (x := x) (xs := xs) (cs := callF P (n + 1)) (env := [some (snapV r xs t), some x.pv, some (.str (dot zs)), some r.pv, some (.tup (xs.map Note.pv)), some (.int t), some (.lst (x.host.map PV.str)), some (.lst (zs.map PV.str)), some (.lst (xs.map markV)), none, none]) (i := 4) (a := .var 1) rfl (by simp) (by omega)
        rw [y_cons' (env1 := [some (snapV r xs t), some x.pv, some (.str (dot zs)), some r.pv, some (.tup (xs.map Note.pv)), some (.int t), some (.lst (x.host.map PV.str)), some (.lst (zs.map PV.str)), some (.lst (xs.map markV)), none, none]) (μ1 := []) (by simp [k1, hi]), y_cons, y_ret, x_ite]
        by_cases h6 : xs.length = 6
        · have h6' : (5 : Int) < xs.length := by omega
          simp [h6, h6']
          rfl
        · have h6' : ¬ (5 : Int) < xs.length := by omega
          simp only [x_cmp, x_b1, x_var, x_con, List.getElem?_cons_zero, List.getElem?_cons_succ, R.ok_bind, len_notes, o_gtI, decide_eq_false h6', tr_bl, if_neg h6]
          rw [ev_tup3 (ev_var rfl) hb (ev_var rfl)]
          simp [St.pv, snapV]
/-- what becomes of a state, or why not -/
def nextD (S : St) : Deed → Except Nat St
  | .take x zs => match takeL S.r S.xs S.t x (dot zs) with
    | .ok ys => .ok ⟨S.r, ys, S.t⟩
    | .error c => .error c
  | .pass i => .ok ⟨S.r, freshL S.r S.xs (min 99 (S.t + i)), min 99 (S.t + i)⟩
  | .change r => .ok ⟨r, freshL r S.xs S.t, S.t⟩
  | _ => .error 0
def nextV (S : St) (d : Deed) : PV := match nextD S d with
  | .ok S' => S'.pv
  | .error c => .str (errT c)
theorem nextD_ok {S S' : St} {d : Deed} (h : nextD S d = .ok S') (hS : S.Ok) (hd : d.Ok) : S'.Ok := by
  cases d with
  | take x zs =>
    simp only [nextD] at h
    split at h
    · rename_i ys hy
      cases h
      exact takeL_ok hy hS hd.1
    · cases h
  | ask a => cases h
  | pass i =>
    cases h
    have h1 := hS.t
    have h2 : 0 ≤ i ∧ i ≤ 100 := hd
    exact ⟨hS.r, freshL_all hS.xs, Nat.le_trans freshL_len hS.len, by show 0 ≤ min 99 (S.t + i) ∧ min 99 (S.t + i) ≤ 99; omega⟩
  | change r =>
    cases h
    exact ⟨hd, freshL_all hS.xs, Nat.le_trans freshL_len hS.len, hS.t⟩
  | undo i => cases h
def isMove : Deed → Bool
  | .take _ _ => true | .pass _ => true | .change _ => true
  | _ => false
theorem s_lafter (H : HasLJar P) (h129 : P.funs[129]? = some d__law_take) (h130 : P.funs[130]? = some d__law_after) {S : St} (hS : S.Ok) {d : Deed} (hd : d.Ok) (hm : isMove d = true) : callF P (n + 3) 130 [S.pv, d.pv] μ = .ok (nextV S d) μ := by
  have hok : ([S.pv, d.pv]).all okArg = true := by
    have h1 : okArg S.pv = true := okArg_pure (St.pure _)
    have h2 : okArg d.pv = true := okArg_pure (Deed.pure _)
    simp [h1, h2]
  have hp : pure? (nextV S d) = true := by
    unfold nextV
    split
    · exact St.pure _
    · rfl
  refine callF_pure h130 rfl rfl hok (μ' := []) ?_ hp
  have hsv : S.pv = .tup [S.r.pv, .tup (S.xs.map Note.pv), .int S.t] := rfl
  have fr : ∀ (r : Rul) (t : Int) (e1 : Option PV), ev P (callF P (n + 2)) (.b1 .tuple (.comp false (.var 5) (.v 5) (.seq (.var 3)) (some (.not (.call 48 [(.var 2), (.var 5), (.var 4)]))))) [some S.pv, e1, some r.pv, some (.tup (S.xs.map Note.pv)), some (.int t), none] [] = .ok (.tup ((freshL r S.xs t).map Note.pv)) [] := fun r t e1 => by
    rw [x_b1, comp_filterA (f := Note.pv) (l := S.xs) (g := Note.pv) (t := fun x => !endF r x t) (src := .items (S.xs.map Note.pv)) (by simp [srcSeq]) (src_items _) (SL_big (by have := hS.len; omega)) fun y hym => by
      have q1 := s_lended (P := P) (n := n + 1) (μ := []) (r := r) (x := y) (t := t) H.h48
      exact ⟨_, pat_v _ _, by simp [patSlots, wipeE, q1], fun _ => by simp [patSlots, wipeE]⟩]
    rfl
  cases d with
  | take x zs =>
    have k := s_ltake (P := P) (n := n) (μ := []) H h129 hS hd.1 hd.2
    have e : nextV S (.take x zs) = takeV S x zs := by
      cases h : takeL S.r S.xs S.t x (dot zs) <;> simp [nextV, nextD, takeV, h]
    rw [e]
    simp [d__law_after, startE, Deed.pv, k]
  | ask a => cases hm
  | undo i => cases hm
  | pass i =>
    have hmin : (if S.t + i < 99 then S.t + i else (99 : Int)) = min 99 (S.t + i) := by omega
    show endOf (execs P (callF P (n + 2)) (_ :: _ :: _ :: _ :: []) [some S.pv, some (Deed.pass i).pv, none, none, none, none] []) = _
    rw [y_cons' (env1 := [some S.pv, some (Deed.pass i).pv, none, none, none, none]) (μ1 := []) (by simp [Deed.pv])]
    rw [y_cons' (env1 := [some S.pv, some (Deed.pass i).pv, some S.r.pv, some (.tup (S.xs.map Note.pv)), some (.int S.t), none]) (μ1 := []) (by simp [hsv])]
    rw [y_cons' (env1 := [some S.pv, some (Deed.pass i).pv, some S.r.pv, some (.tup (S.xs.map Note.pv)), some (.int (min 99 (S.t + i))), none]) (μ1 := []) (by simp [Deed.pv, hmin])]
    rw [y_cons, y_ret, ev_tup3 (ev_var rfl) (fr _ _ _) (ev_var rfl)]
    simp
    rfl
  | change r =>
    show endOf (execs P (callF P (n + 2)) (_ :: _ :: _ :: _ :: []) [some S.pv, some (Deed.change r).pv, none, none, none, none] []) = _
    rw [y_cons' (env1 := [some S.pv, some (Deed.change r).pv, none, none, none, none]) (μ1 := []) (by simp [Deed.pv])]
    rw [y_cons' (env1 := [some S.pv, some (Deed.change r).pv, some S.r.pv, some (.tup (S.xs.map Note.pv)), some (.int S.t), none]) (μ1 := []) (by simp [hsv])]
    rw [y_cons' (env1 := [some S.pv, some (Deed.change r).pv, some r.pv, some (.tup (S.xs.map Note.pv)), some (.int S.t), none]) (μ1 := []) (by simp [Deed.pv])]
    rw [y_cons, y_ret, ev_tup3 (ev_var rfl) (fr _ _ _) (ev_var rfl)]
    simp
    rfl
end
end NR

/-! J4: what a jar tells of a deed; a law's list beside a jar. -/
namespace NR
/-- what is told of a deed, and what is so behind it -/
def entryV (S : St) (a : Ask) : PV := .tup [(askAt a S.t).pv, .tup ((sentL S.r (askAt a S.t) S.xs).map pairV)]
def tellD (S : St) (p : List St) (es : List PV) : Deed → PV × St × List St × List PV
  | .undo _ => match p.getLast? with
    | none => (.str qNoDeed, S, p, es)
    | some S' => (.non, S', p.dropLast, es)
  | .ask a => (.tup ((sentL S.r (askAt a S.t) S.xs).map pairV), S, p, es ++ [entryV S a])
  | d => match nextD S d with
    | .ok S' => (.non, S', p ++ [S], es)
    | .error c => (.str (errT c), S, p, es)
abbrev jarSt (μ : Sto) (n m : Nat) (S : St) (p : List St) (es : List PV) : Sto := jarS μ n m S.r S.xs S.t (p.map St.pv) (.tup es)
theorem ask_same (a : Ask) : sameV a.pv = true := by
  obtain ⟨h, p, t, s, o, l⟩ := a
  cases o <;> rfl
theorem ask_dep (a : Ask) : dep a.pv ≤ 1 := by
  obtain ⟨h, p, t, s, o, l⟩ := a
  cases o <;> simp [Ask.pv, optS, dep, deps]
theorem sent_same {r : Rul} {a : Ask} {xs : List Note} (hl : xs.length ≤ 1000) : sameV (.tup ((sentL r a xs).map pairV)) = true := by
  have h : (sentL r a xs).length ≤ xs.length := sentL_len
  show (sameVs ((sentL r a xs).map pairV) && decide (((sentL r a xs).map pairV).length ≤ 1000)) = true
  rw [pairs_same, List.length_map, decide_eq_true (by omega)]; rfl
theorem sent_dep (r : Rul) (a : Ask) (xs : List Note) : dep (.tup ((sentL r a xs).map pairV)) ≤ 2 := by
  have := pairs_dep (sentL r a xs)
  show deps _ + 1 ≤ 2
  omega
theorem entry_same {S : St} (hS : S.Ok) (a : Ask) : sameV (entryV S a) = true := by
  have h1 := ask_same (askAt a S.t)
  have h2 := sent_same (r := S.r) (a := askAt a S.t) (xs := S.xs) (by have := hS.len; omega)
  show ((sameV _ && (sameV _ && true)) && true) = true
  rw [h1, h2]; rfl
theorem entry_dep (S : St) (a : Ask) : dep (entryV S a) ≤ 3 := by
  have h1 := ask_dep (askAt a S.t)
  have h2 := sent_dep S.r (askAt a S.t) S.xs
  show max (dep _) (max (dep _) 0) + 1 ≤ 3
  omega
theorem sameVs_append : ∀ {xs ys : List PV}, sameVs xs = true → sameVs ys = true → sameVs (xs ++ ys) = true
  | [], _, _, h => h
  | x :: xs, ys, h, k => by
    simp only [sameVs, Bool.and_eq_true] at h
    show (sameV x && sameVs (xs ++ ys)) = true
    rw [h.1, sameVs_append h.2 k]; rfl
theorem deps_append : ∀ (xs ys : List PV), deps (xs ++ ys) = max (deps xs) (deps ys)
  | [], ys => by show deps ys = max 0 _; omega
  | x :: xs, ys => by show max (dep x) (deps (xs ++ ys)) = max (max (dep x) (deps xs)) (deps ys); rw [deps_append xs ys]; omega
/-- the log's rows are fine -/
structure LogOk (es : List PV) (n : Nat) : Prop where
  same : sameVs es = true
  dep : deps es ≤ 3
  len : es.length ≤ n
theorem LogOk.more {es : List PV} {n m : Nat} (h : LogOk es n) (hm : n ≤ m) : LogOk es m := ⟨h.same, h.dep, Nat.le_trans h.len hm⟩
theorem LogOk.add {es : List PV} {n : Nat} (h : LogOk es n) {S : St} (hS : S.Ok) (a : Ask) : LogOk (es ++ [entryV S a]) (n + 1) := by
  refine ⟨sameVs_append h.same ?_, ?_, ?_⟩
  · show (sameV _ && true) = true
    rw [entry_same hS a]; rfl
  · rw [deps_append]
    have h1 := h.dep
    have h2 := entry_dep S a
    show max _ (max (NR.dep _) 0) ≤ 3
    omega
  · have := h.len
    rw [List.length_append]; simp; omega
/-- all that is so behind a deed is fine -/
theorem tell_ok {S : St} {p : List St} {es : List PV} {d : Deed} {k : Nat} (hS : S.Ok) (hp : ∀ q ∈ p, q.Ok) (hd : d.Ok) (hl : p.length ≤ k) (he : LogOk es k) :
    sameV (tellD S p es d).1 = true ∧ dep (tellD S p es d).1 ≤ 2 ∧ (tellD S p es d).2.1.Ok ∧ (∀ q ∈ (tellD S p es d).2.2.1, q.Ok) ∧ (tellD S p es d).2.2.1.length ≤ k + 1 ∧ LogOk (tellD S p es d).2.2.2 (k + 1) := by
  have move : ∀ d : Deed, d.Ok → (let T := (match nextD S d with | .ok S' => ((.non, S', p ++ [S], es) : PV × St × List St × List PV) | .error c => (.str (errT c), S, p, es)); sameV T.1 = true ∧ dep T.1 ≤ 2 ∧ T.2.1.Ok ∧ (∀ q ∈ T.2.2.1, q.Ok) ∧ T.2.2.1.length ≤ k + 1 ∧ LogOk T.2.2.2 (k + 1)) := by
    intro d hd
    cases h : nextD S d with
    | ok S' =>
      refine ⟨rfl, by simp [dep], nextD_ok h hS hd, fun q hq => ?_, by simp; omega, he.more (by omega)⟩
      rcases List.mem_append.mp hq with hq | hq
      · exact hp q hq
      · rw [List.mem_singleton.mp hq]; exact hS
    | error c => exact ⟨rfl, by simp [dep], hS, hp, by show p.length ≤ k + 1; omega, he.more (by omega)⟩
  cases d with
  | undo i =>
    unfold tellD
    cases h : p.getLast? with
    | none => exact ⟨rfl, by simp [dep], hS, hp, by show p.length ≤ k + 1; omega, he.more (by omega)⟩
    | some S' => exact ⟨rfl, by simp [dep], hp _ (List.mem_of_getLast? h), fun q hq => hp q (List.dropLast_subset _ hq), by simp; omega, he.more (by omega)⟩
  | ask a => exact ⟨sent_same (by have := hS.len; omega), sent_dep _ _ _, hS, hp, by show p.length ≤ k + 1; omega, he.add hS a⟩
  | take x zs => exact move (.take x zs) hd
  | pass i => exact move (.pass i) hd
  | change r => exact move (.change r) hd
section
variable {P : Prog} {k : Nat} {μ : Sto} {n m : Nat}
theorem s_told (H : HasLJar P) (h127 : P.funs[127]? = some d__law_told) (J : Jn μ n m) {S : St} (hS : S.Ok) {d : Deed} (hd : d.Ok) {p : List St} (hp : p.length < 5000) {es : List PV} (he : es.length < 5000) :
    callF P (k + 7) 127 [.loc n, d.pv] (jarSt μ n m S p es) = .ok (tellD S p es d).1 (jarSt μ n m (tellD S p es d).2.1 (tellD S p es d).2.2.1 (tellD S p es d).2.2.2) := by
  rw [callF_eff h127 rfl rfl]
  have hs : ∀ c, P.sup c 0 = PR.sup c 0 := fun c => by rw [H.word.sup]
  have pw : ∀ s, pure? (.str s) = true := fun _ => rfl
  have w : ∀ c, 1 ≤ c → c ≤ 6 → callF P (k + 6) 63 [.exc c] [] = .ok (.str (excWords.getD (c - 1) [])) [] := fun c h1 h6 => s_word (n := k + 5) H.word h1 h6
  cases d with
  | take x zs =>
    have kt := s_jtake (P := P) (k := k + 3) (μ := μ) (n := n) (m := m) (r := S.r) (xs := S.xs) (t := S.t) (p := p.map St.pv) (asked := .tup es) H.jar J (by simp; omega) (by have := hS.len; omega) hd.1 (z := dot zs)
    cases h : takeL S.r S.xs S.t x (dot zs) with
    | ok ys =>
      rw [h] at kt
      have hq : tellD S p es (.take x zs) = (.non, ⟨S.r, ys, S.t⟩, p ++ [S], es) := by simp [tellD, nextD, h]
      rw [hq]
      have hpm : (p ++ [S]).map St.pv = p.map St.pv ++ [snapV S.r S.xs S.t] := by rw [List.map_append]; rfl
      show _ = R.ok PV.non (jarS μ n m S.r ys S.t ((p ++ [S]).map St.pv) (.tup es))
      rw [hpm]
      simp [d__law_told, startE, Deed.pv, j_inst J, kt]
    | error c =>
      rw [h] at kt
      have hq : tellD S p es (.take x zs) = (.str (errT c), S, p, es) := by simp [tellD, nextD, h]
      rw [hq]
      rcases takeL_err h with rfl | rfl
      · have s1 : P.sup 2 0 = true := by rw [hs]; rfl
        have w1 := w 2 (by omega) (by omega)
        simp [d__law_told, startE, Deed.pv, j_inst J, kt, s1, suiteEnd, suiteEnv, w1, pw, errT]
      · have s1 : P.sup 4 0 = true := by rw [hs]; rfl
        have w1 := w 4 (by omega) (by omega)
        simp [d__law_told, startE, Deed.pv, j_inst J, kt, s1, suiteEnd, suiteEnv, w1, pw, errT]
  | ask a =>
    have ka := s_jask (P := P) (k := k) (μ := μ) (n := n) (m := m) (r := S.r) (xs := S.xs) (t := S.t) (p := p.map St.pv) H.jar J (es := es) (by omega) hS.xs hd hS.t (by have := hS.len; omega)
    have hq : tellD S p es (.ask a) = (.tup ((sentL S.r (askAt a S.t) S.xs).map pairV), S, p, es ++ [entryV S a]) := rfl
    rw [hq]
    have ha : a.pv = .tup [.str (dot a.host), .str (sla a.path), .int a.time, .bl a.safe, optS a.origin, .bl a.home] := rfl
    have hen : entryV S a = .tup [(askAt a S.t).pv, .tup ((sentL S.r (askAt a S.t) S.xs).map pairV)] := rfl
    rw [hen]
    generalize (sentL S.r (askAt a S.t) S.xs).map pairV = v at ka
    generalize (askAt a S.t).pv = q at ka
    simp [d__law_told, startE, Deed.pv, ha, j_inst J, ka]
  | pass i =>
    have kt := s_jpass (P := P) (k := k + 3) (μ := μ) (n := n) (m := m) (r := S.r) (xs := S.xs) (t := S.t) (p := p.map St.pv) (asked := .tup es) H.jar J (by simp; omega) (by have := hS.len; omega) (i := i)
    have hq : tellD S p es (.pass i) = (.non, ⟨S.r, freshL S.r S.xs (min 99 (S.t + i)), min 99 (S.t + i)⟩, p ++ [S], es) := rfl
    rw [hq]
    have hpm : (p ++ [S]).map St.pv = p.map St.pv ++ [snapV S.r S.xs S.t] := by rw [List.map_append]; rfl
    show _ = R.ok PV.non (jarS μ n m S.r (freshL S.r S.xs (min 99 (S.t + i))) (min 99 (S.t + i)) ((p ++ [S]).map St.pv) (.tup es))
    rw [hpm]
    simp [d__law_told, startE, Deed.pv, j_inst J, kt]
  | change r =>
    have kt := s_jchange (P := P) (k := k + 3) (μ := μ) (n := n) (m := m) (r := S.r) (xs := S.xs) (t := S.t) (p := p.map St.pv) (asked := .tup es) H.jar J (by simp; omega) (by have := hS.len; omega) (r' := r)
    have hq : tellD S p es (.change r) = (.non, ⟨r, freshL r S.xs S.t, S.t⟩, p ++ [S], es) := rfl
    rw [hq]
    have hpm : (p ++ [S]).map St.pv = p.map St.pv ++ [snapV S.r S.xs S.t] := by rw [List.map_append]; rfl
    show _ = R.ok PV.non (jarS μ n m r (freshL r S.xs S.t) S.t ((p ++ [S]).map St.pv) (.tup es))
    rw [hpm]
    simp [d__law_told, startE, Deed.pv, j_inst J, kt]
  | undo i =>
    cases h : p.getLast? with
    | none =>
      have hn : p = [] := List.getLast?_eq_none_iff.mp h
      subst hn
      have kt := s_jundo0 (P := P) (k := k + 5) (μ := μ) (n := n) (m := m) (r := S.r) (xs := S.xs) (t := S.t) (asked := .tup es) H.jar J
      have hq : tellD S [] es (.undo i) = (.str qNoDeed, S, [], es) := rfl
      rw [hq]
      have s1 : P.sup 5 0 = true := by rw [hs]; rfl
      have w1 := w 5 (by omega) (by omega)
      show endOf (execs P (callF P (k + 6)) d__law_told.body (startE d__law_told [.loc n, (Deed.undo i).pv]) (jarS μ n m S.r S.xs S.t [] (.tup es))) = R.ok _ (jarS μ n m S.r S.xs S.t [] (.tup es))
      simp [d__law_told, startE, Deed.pv, j_inst J, kt, s1, suiteEnd, suiteEnv, w1, pw]
    | some S' =>
      obtain ⟨q, rfl⟩ := List.getLast?_eq_some_iff.mp h
      have hq : tellD S (q ++ [S']) es (.undo i) = (.non, S', q, es) := by simp [tellD]
      rw [hq]
      have kt := s_jundo (P := P) (k := k + 5) (μ := μ) (n := n) (m := m) (r := S.r) (xs := S.xs) (t := S.t) (p := q.map St.pv) (asked := .tup es) H.jar J (r' := S'.r) (ys := S'.xs) (t' := S'.t)
      have hpm : (q ++ [S']).map St.pv = q.map St.pv ++ [snapV S'.r S'.xs S'.t] := by rw [List.map_append]; rfl
      show endOf (execs P (callF P (k + 6)) d__law_told.body (startE d__law_told [.loc n, (Deed.undo i).pv]) (jarS μ n m S.r S.xs S.t ((q ++ [S']).map St.pv) (.tup es))) = _
      rw [hpm]
      simp [d__law_told, startE, Deed.pv, j_inst J, kt]
end
/-! ### a law's own list beside a jar -/
def lawS (ν : Sto) (lp : List PV) (fs : List (Nat × PV)) (jp : List PV) : Sto := ν ++ [.list lp, .inst 0 fs, .list jp]
section
variable (ν : Sto) (lp : List PV) (fs : List (Nat × PV)) (jp : List PV)
theorem lawS_0 : (lawS ν lp fs jp)[ν.length]? = some (.list lp) := by unfold lawS; simp
theorem lawS_jn : Jn (lawS ν lp [] []) (ν.length + 1) (ν.length + 2) := ⟨by omega, by unfold lawS; simp, by unfold lawS; simp⟩
theorem lawS_jst : jst (lawS ν lp [] []) (ν.length + 1) (ν.length + 2) 0 fs jp = lawS ν lp fs jp := by
  unfold jst lawS
  rw [List.set_append_right _ _ (by omega), List.set_append_right _ _ (by omega)]
  have h1 : ν.length + 1 - ν.length = 1 := by omega
  have h2 : ν.length + 2 - ν.length = 2 := by omega
  rw [h1, h2]
  rfl
theorem lawS_set (q : List PV) : (lawS ν lp fs jp).set ν.length (.list q) = lawS ν q fs jp := by
  unfold lawS
  rw [List.set_append_right _ _ (by omega), Nat.sub_self]
  rfl
theorem lawS_see : see (lawS ν lp fs jp) (.loc ν.length) = .lst lp := by
  unfold see
  simp only [lawS_0]
theorem lawS_recvA : recv .append (.loc ν.length) (lawS ν lp fs jp) = true := by
  show isLstP (see _ _) = true
  rw [lawS_see]; rfl
theorem lawS_recvP : recv .pop (.loc ν.length) (lawS ν lp fs jp) = true := by
  show isLstP (see _ _) = true
  rw [lawS_see]; rfl
theorem lawS_append (x : PV) (h : lp.length < SL) : opM .append (.loc ν.length) [x] (lawS ν lp fs jp) = .ok .non (lawS ν (lp ++ [x]) fs jp) := by
  show mAppend (.loc ν.length) [x] (lawS ν lp fs jp) = _
  unfold mAppend
  simp only [lawS_0, if_pos h, lawS_set]
theorem lawS_pop (x : PV) : opM .pop (.loc ν.length) [] (lawS ν (lp ++ [x]) fs jp) = .ok x (lawS ν lp fs jp) := by
  show mPop (.loc ν.length) [] (lawS ν (lp ++ [x]) fs jp) = _
  unfold mPop
  simp only [lawS_0]
  simp [lawS_set]
end
theorem sts_data (p : List St) : data? (.lst (p.map St.pv)) = true := dataL_map (k := 3) St.pure St.dep (by omega) p
theorem lawS_ne (ν : Sto) (p : List St) (fs : List (Nat × PV)) (jp : List PV) : opCmp .ne (.loc ν.length) (.lst []) (lawS ν (p.map St.pv) fs jp) = .ok (.bl (!p.isEmpty)) (lawS ν (p.map St.pv) fs jp) := by
  have h := o_ne (μ := lawS ν (p.map St.pv) fs jp) (p := .loc ν.length) (q := .lst []) (by rw [lawS_see]; exact sts_data p) rfl
  rw [h, lawS_see]
  cases p <;> rfl
end NR
namespace NR
theorem newjar_jst (ν : Sto) (fs : List (Nat × PV)) : ν ++ [.inst 0 fs, .list []] = jst (ν ++ [.inst 0 [], .list []]) ν.length (ν.length + 1) 0 fs [] ∧ Jn (ν ++ [.inst 0 [], .list []]) ν.length (ν.length + 1) := by
  refine ⟨?_, ⟨by omega, by simp, by simp⟩⟩
  unfold jst
  rw [List.set_append_right _ _ (by omega), Nat.sub_self, List.set_append_right _ _ (by omega)]
  have h1 : ν.length + 1 - ν.length = 1 := by omega
  rw [h1]
  rfl
section
variable {P : Prog} {n : Nat}
/-- a def that runs on a store of its own answers alike on any store -/
theorem callF_any {i : Nat} {d : FDef} {args : List PV} {v : PV} {μ μ' : Sto} (h1 : P.funs[i]? = some d) (h2 : d.eff = false) (h : callF P n i args μ = .ok v μ) (ha : args.all okArg = true) (hv : pure? v = true) : callF P n i args μ' = .ok v μ' := by
  have hm : ∀ μ : Sto, args.map (see μ) = args := by
    intro μ
    have : ∀ l : List PV, l.all okArg = true → l.map (see μ) = l := by
      intro l
      induction l with
      | nil => intro _; rfl
      | cons a l ih =>
        intro h
        simp only [List.all_cons, Bool.and_eq_true] at h
        rw [List.map_cons, see_arg h.1, ih h.2]
    exact this args ha
  have hp : ∀ μ : Sto, (args.all fun a => passes (see μ a)) = true := by
    intro μ
    have ha := ha
    rw [List.all_eq_true] at ha ⊢
    intro a hm
    have := ha a hm
    rw [see_arg this]
    cases a <;> first | exact this | (cases this; done)
  cases n with
  | zero => cases h
  | succ n =>
    rw [callF, h1] at h ⊢
    change (if args.length = d.np then (if d.eff = true then _ else if (args.all fun a => passes (see μ a)) = true then _ else _) else _) = _ at h
    show (if args.length = d.np then (if d.eff = true then _ else if (args.all fun a => passes (see μ' a)) = true then _ else _) else _) = _
    by_cases hl : args.length = d.np
    · rw [if_pos hl, h2, hp, hm] at h ⊢
      simp only [Bool.false_eq_true, if_false, if_true] at h ⊢
      cases hr : endOf (execs P (callF P n) d.body (startE d args) []) with
      | ok p μ1 =>
        rw [hr] at h
        simp only at h ⊢
        split at h
        · rename_i hc
          rw [if_pos hc]
          cases h
          rfl
        · cases h
      | exn c μ1 => rw [hr] at h; cases h
      | bad => rw [hr] at h; cases h
    · rw [if_neg hl] at h
      cases h
end
end NR

/-! PF: the program of all defs has what the specs ask. -/
namespace NR
theorem pf_draw : HasDraw PR := by constructor <;> rfl
theorem pf_fit : HasFit PR := by constructor <;> rfl
theorem pf_lfit : HasLFit PR := by constructor <;> rfl
theorem pf_sent : HasSent PR := ⟨pf_fit, rfl, rfl, rfl, rfl, rfl, rfl⟩
theorem pf_keep : HasKeep PR := by constructor <;> rfl
theorem pf_word : HasWord PR := by constructor <;> rfl
theorem pf_jar : HasJar PR := ⟨pf_keep, pf_sent, rfl, rfl, rfl, rfl, rfl, rfl, rfl, rfl, rfl, rfl, rfl, rfl, rfl, rfl, rfl⟩
theorem pf_ljar : HasLJar PR := ⟨pf_draw, pf_lfit, pf_word, pf_jar, rfl, rfl, rfl, rfl⟩
end NR

/-! J5: a thing is as itself; a note handed to a jar, with what is refused as its word. -/
namespace NR
mutual
theorem peq_refl : ∀ v : PV, pure? v = true → peq v v = true
  | .non, _ => rfl
  | .bl b, _ => by simp [peq]
  | .int i, _ => by simp [peq]
  | .str s, _ => by simp [peq]
  | .tup xs, h => peqs_refl xs h
  | .lst xs, h => peqs_refl xs h
  | .loc _, h => by cases h
  | .exc _, h => by cases h
  | .scr _, h => by cases h
theorem peqs_refl : ∀ vs : List PV, pures vs = true → peqs vs vs = true
  | [], _ => rfl
  | v :: vs, h => by
    have h : (pure? v && pures vs) = true := h
    rw [Bool.and_eq_true] at h
    show (peq v v && peqs vs vs) = true
    rw [peq_refl v h.1, peqs_refl vs h.2]; rfl
end
theorem see_pv {μ : Sto} {v : PV} (h : pure? v = true) : see μ v = v := by
  cases v <;> first | rfl | (cases h; done)
theorem data_pure {v : PV} (h : data? v = true) : pure? v = true := by
  unfold data? at h
  rw [Bool.and_eq_true] at h
  exact h.1
theorem eq_self {μ : Sto} {v : PV} (h : data? v = true) : opCmp .eq v v μ = .ok (.bl true) μ := by
  have hp := data_pure h
  rw [o_eq (by rw [see_pv hp]; exact h) (by rw [see_pv hp]; exact h), see_pv hp, peq_refl v hp]
theorem ne_self {μ : Sto} {v : PV} (h : data? v = true) : opCmp .ne v v μ = .ok (.bl false) μ := by
  have hp := data_pure h
  rw [o_ne (by rw [see_pv hp]; exact h) (by rw [see_pv hp]; exact h), see_pv hp, peq_refl v hp]
  rfl
theorem notes_data (xs : List Note) : data? (.tup (xs.map Note.pv)) = true := dataT_map (k := 1) Note.pure Note.dep1 (by omega) xs
section
variable {P : Prog} {k : Nat} {μ : Sto} {n m : Nat} {r : Rul} {xs : List Note} {t : Int} {p : List PV} {asked : PV}
theorem s_take2 (H : HasJar P) (W : HasWord P) (h162 : P.funs[162]? = some d__law_take_2) (J : Jn μ n m) (hp : p.length < 10000) (hl : xs.length ≤ 100) {x : Note} {z : List Nat} (hx : x.Ok) : callF P (k + 4) 162 [.loc n, x.pv, .str z] (jarS μ n m r xs t p asked) = match takeL r xs t x z with
    | .ok ys => .ok .non (jarS μ n m r ys t (p ++ [snapV r xs t]) asked)
    | .error c => .ok (.str (errT c)) (jarS μ n m r xs t p asked) := by
  rw [callF_eff h162 rfl rfl]
  have hs : ∀ c, P.sup c 0 = PR.sup c 0 := fun c => by rw [W.sup]
  have pw : ∀ s, pure? (.str s) = true := fun _ => rfl
  have w : ∀ c, 1 ≤ c → c ≤ 6 → callF P (k + 3) 63 [.exc c] [] = .ok (.str (excWords.getD (c - 1) [])) [] := fun c h1 h6 => s_word (n := k + 2) W h1 h6
  have kt := s_jtake (P := P) (k := k) (μ := μ) (n := n) (m := m) (r := r) (xs := xs) (t := t) (p := p) (asked := asked) H J hp hl hx (z := z)
  cases h : takeL r xs t x z with
  | ok ys =>
    rw [h] at kt
    simp [d__law_take_2, startE, j_inst J, kt]
  | error c =>
    rw [h] at kt
    rcases takeL_err h with rfl | rfl
    · have s1 : P.sup 2 0 = true := by rw [hs]; rfl
      have w1 := w 2 (by omega) (by omega)
      simp [d__law_take_2, startE, j_inst J, kt, s1, suiteEnd, suiteEnv, w1, pw, errT]
    · have s1 : P.sup 4 0 = true := by rw [hs]; rfl
      have w1 := w 4 (by omega) (by omega)
      simp [d__law_take_2, startE, j_inst J, kt, s1, suiteEnd, suiteEnv, w1, pw, errT]
end
end NR

/-! L20a: law k20: its notes. -/
namespace NR
def hAB : List Lab := [[97], [98]]
def xN (i : Nat) : Note := ⟨[110], [], hAB, true, [[97 + i]], none, false, wOwn⟩
def six : List Note := [xN 0, xN 1, xN 2, xN 3, xN 4, xN 5]
def fN (f : Option Int) (h : List Lab) : Note := ⟨[110], [119], h, true, [[122, 122]], f, false, wAny⟩
def oN (i : Nat) (f : Option Int) : Note := ⟨[110], [119], hAB, true, [[97 + i]], f, true, wAny⟩
abbrev zAB : List Nat := [97, 46, 98]
abbrev zXAB : List Nat := [120, 46, 97, 46, 98]
theorem takeL_none {r : Rul} {xs : List Note} {t : Int} {x : Note} {z : List Nat} (hm : mayF x z = true) (hf : x.fin = none) : takeL r xs t x z = match putL xs x with | some ys => .ok ys | none => .error 2 := by
  unfold takeL
  have : endF r x t = false := by unfold endF; rw [hf]
  rw [hm, this]
  rfl
theorem takeL_old {r : Rul} {xs : List Note} {t f : Int} {x : Note} {z : List Nat} (hm : mayF x z = true) (hf : x.fin = some f) (ht : f < t) : takeL r xs t x z = .ok (restL xs (markV x)) := by
  unfold takeL
  have : endF r x t = true := by
    unfold endF
    rw [hf]
    show (if _ then decide (f ≤ t) else decide (f < t)) = true
    split
    · rw [decide_eq_true_eq]; omega
    · rw [decide_eq_true_eq]; omega
  rw [hm, this]
  rfl
theorem takeL_not {r : Rul} {xs : List Note} {t : Int} {x : Note} {z : List Nat} (hm : mayF x z = false) : takeL r xs t x z = .error 4 := by
  unfold takeL
  rw [hm]
  rfl
section
variable (r : Rul)
theorem k_six {j : Nat} (h : j < 6) : takeL r (six.take j) 0 (xN j) zXAB = .ok (six.take (j + 1)) := by
  rw [takeL_none (by rcases (by omega : j = 0 ∨ j = 1 ∨ j = 2 ∨ j = 3 ∨ j = 4 ∨ j = 5) with rfl | rfl | rfl | rfl | rfl | rfl <;> rfl) rfl]
  rcases (by omega : j = 0 ∨ j = 1 ∨ j = 2 ∨ j = 3 ∨ j = 4 ∨ j = 5) with rfl | rfl | rfl | rfl | rfl | rfl <;> rfl
theorem k_fresh6 : freshL r six 20 = six := rfl
theorem k_notF {z : List Nat} (h : z ∈ [[98], [99, 46, 98], [97, 46, 98, 46, 99], [98, 97, 46, 98]]) : takeL r six 20 (fN none hAB) z = .error 4 := by
  refine takeL_not ?_
  simp only [List.mem_cons, List.not_mem_nil, or_false] at h
  rcases h with rfl | rfl | rfl | rfl <;> rfl
theorem k_notB : takeL r six 20 (fN none [[98]]) [98] = .error 4 := takeL_not rfl
theorem k_full : takeL r six 20 (fN none hAB) zAB = .error 2 := (takeL_none rfl rfl).trans rfl
theorem k_old3 : takeL r six 20 (fN (some 3) hAB) zAB = .ok six := (takeL_old (f := 3) rfl rfl (by omega)).trans rfl
def sixO (i : Nat) : List Note := six.set i (oN i none)
def five (i : Nat) : List Note := six.eraseIdx i
theorem k_o {i : Nat} (h : i < 6) : takeL r six 20 (oN i none) zAB = .ok (sixO i) := by
  rw [takeL_none rfl rfl]
  rcases (by omega : i = 0 ∨ i = 1 ∨ i = 2 ∨ i = 3 ∨ i = 4 ∨ i = 5) with rfl | rfl | rfl | rfl | rfl | rfl <;> rfl
theorem k_o19 {i : Nat} (h : i < 6) : takeL r (sixO i) 20 (oN i (some 19)) zXAB = .ok (five i) := by
  rw [takeL_old (f := 19) rfl rfl (by omega)]
  rcases (by omega : i = 0 ∨ i = 1 ∨ i = 2 ∨ i = 3 ∨ i = 4 ∨ i = 5) with rfl | rfl | rfl | rfl | rfl | rfl <;> rfl
theorem k_f5 {i : Nat} (h : i < 6) : takeL r (five i) 20 (fN none hAB) zAB = .ok (five i ++ [fN none hAB]) := by
  rw [takeL_none rfl rfl]
  rcases (by omega : i = 0 ∨ i = 1 ∨ i = 2 ∨ i = 3 ∨ i = 4 ∨ i = 5) with rfl | rfl | rfl | rfl | rfl | rfl <;> rfl
theorem k_o6 {i : Nat} (h : i < 6) : takeL r (five i ++ [fN none hAB]) 20 (oN i none) zAB = .error 2 := by
  rw [takeL_none rfl rfl]
  rcases (by omega : i = 0 ∨ i = 1 ∨ i = 2 ∨ i = 3 ∨ i = 4 ∨ i = 5) with rfl | rfl | rfl | rfl | rfl | rfl <;> rfl
end
theorem hAB_ok : HostOk hAB := ⟨by simp [hAB], by decide, fun l hl => by
  have : hAB.all okL = true := by decide
  rw [List.all_eq_true] at this
  exact okL_of (this l hl)⟩
theorem hB_ok : HostOk [[98]] := ⟨by simp, by decide, fun l hl => by
  have : ([[98]] : List Lab).all okL = true := by decide
  rw [List.all_eq_true] at this
  exact okL_of (this l hl)⟩
theorem xN_ok {i : Nat} (h : i < 6) : (xN i).Ok := by
  refine ⟨by simp [xN], by simp [xN], hAB_ok, ⟨by simp [xN], fun l hl => ?_⟩, fun f hf => (by cases hf), by simp [xN], by simp [xN, hAB], by simp [xN], fun l hl => ?_⟩
  · simp [xN] at hl
    subst hl
    exact ⟨by simp, by simp, fun c hc => by simp at hc; omega⟩
  · simp [xN] at hl
    subst hl
    simp
theorem oN_ok {i : Nat} (h : i < 6) {f : Option Int} (hf : ∀ j, f = some j → 0 ≤ j ∧ j ≤ 99) : (oN i f).Ok := by
  refine ⟨by simp [oN], by simp [oN], hAB_ok, ⟨by simp [oN], fun l hl => ?_⟩, hf, by simp [oN], by simp [oN, hAB], by simp [oN], fun l hl => ?_⟩
  · simp [oN] at hl
    subst hl
    exact ⟨by simp, by simp, fun c hc => by simp at hc; omega⟩
  · simp [oN] at hl
    subst hl
    simp
theorem fN_ok {h : List Lab} (hh : HostOk h) (hl : h.length ≤ 10) {f : Option Int} (hf : ∀ j, f = some j → 0 ≤ j ∧ j ≤ 99) : (fN f h).Ok := by
  refine ⟨by simp [fN], by simp [fN], hh, ⟨by simp [fN], fun l hl => ?_⟩, hf, by simp [fN], hl, by simp [fN], fun l hl => ?_⟩
  · simp [fN] at hl
    subst hl
    exact okL_of rfl
  · simp [fN] at hl
    subst hl
    simp
end NR

/-! L20: law k20. -/
namespace NR
structure Has20 (P : Prog) : Prop where
  lj : HasLJar P
  fit : HasFit P
  h162 : P.funs[162]? = some d__law_take_2
  h163 : P.funs[163]? = some d__law_is_first
section
variable {P : Prog} {n : Nat} {μ : Sto} {r : Rul}
/-! the asks -/
def aN (i : Nat) : Ask := match i with
  | 0 => ⟨[[99], [99]], [[98]], 9, false, some [[113], [113]], false⟩
  | 1 => ⟨hAB, [[98]], 9, false, some [[113], [113]], false⟩
  | 2 => ⟨hAB, [[97]], 9, false, some [[113], [113]], false⟩
  | 3 => ⟨hAB, [[97]], 3, false, some [[113], [113]], false⟩
  | 4 => ⟨hAB, [[97]], 3, true, some [[113], [113]], false⟩
  | _ => ⟨hAB, [[97]], 3, true, some hAB, false⟩
def okH (h : List Lab) : Bool := !h.isEmpty && decide (h.length ≤ 20) && h.all okL
theorem okH_of {h : List Lab} (e : okH h = true) : HostOk h := by
  unfold okH at e
  simp only [Bool.and_eq_true, Bool.not_eq_true', decide_eq_true_eq, List.all_eq_true] at e
  exact ⟨fun z => by rw [z] at e; simp at e, e.1.2, fun l hl => okL_of (e.2 l hl)⟩
def okP (h : List Lab) : Bool := decide (h.length ≤ 20) && h.all okL
theorem okP_of {h : List Lab} (e : okP h = true) : LabsOk h := by
  unfold okP at e
  simp only [Bool.and_eq_true, decide_eq_true_eq, List.all_eq_true] at e
  exact ⟨e.1, fun l hl => okL_of (e.2 l hl)⟩
theorem aN_ok (i : Nat) : (aN i).Ok := by
  unfold aN
  split <;> exact ⟨okH_of rfl, okP_of rfl, fun ls h => (by cases h; exact okH_of rfl), by first | (show (0 : Int) ≤ 9 ∧ (9 : Int) ≤ 99; omega) | (show (0 : Int) ≤ 3 ∧ (3 : Int) ≤ 99; omega)⟩
def yN : Note := ⟨[110], [], hAB, false, [[97]], some 5, true, wOwn⟩
theorem yN_ok : yN.Ok := by
  refine ⟨by simp [yN], by simp [yN], hAB_ok, okP_of rfl, fun f hf => ?_, by simp [yN], by simp [yN, hAB], by simp [yN], fun l hl => by simp [yN] at hl; subst hl; simp⟩
  have : f = 5 := by cases hf; rfl
  omega
def asks20 : List Ask := [aN 0, aN 1, aN 2, aN 3, aN 4, aN 5]
theorem why0 : whyF r yN (aN 0) = some wHost := by
  have : hostF r yN (aN 0).host = false := by
    show (false || ((r.w1 == wAlways || (r.w1 == wTold && false)) && false)) = false
    simp
  unfold whyF
  rw [this]; rfl
theorem why1 : whyF r yN (aN 1) = some wPath := by
  have h1 : hostF r yN (aN 1).host = true := by
    show (true || _) = true
    rfl
  have h2 : pathF r yN (aN 1).path = false := by
    show (if _ then false else false) = false
    split <;> rfl
  unfold whyF
  rw [h1, h2]; rfl
theorem why2 : whyF r yN (aN 2) = some wEnd := by
  have h1 : hostF r yN (aN 2).host = true := by
    show (true || _) = true
    rfl
  have h2 : pathF r yN (aN 2).path = true := by
    show (if _ then true else true) = true
    split <;> rfl
  have h3 : endF r yN (aN 2).time = true := by
    show (if _ then true else true) = true
    split <;> rfl
  unfold whyF
  rw [h1, h2, h3]; rfl
theorem s_first (H : Has20 P) (hr : r.Ok) : callF P (n + 4) 163 [r.pv] μ = .ok (.bl true) μ := by
  refine callF_pure H.h163 rfl rfl rfl (μ' := []) ?_ rfl
  show endOf (execs P (callF P (n + 3)) (_ :: _ :: _ :: _ :: _ :: _ :: _ :: _ :: []) [some r.pv, none, none, none] []) = _
  rw [y_cons' (env1 := [some r.pv, some yN.pv, none, none]) (μ1 := []) (by simp; rfl)]
  rw [y_cons' (env1 := [some r.pv, some yN.pv, some (.lst [(aN 0).pv, (aN 1).pv]), none]) (μ1 := []) (by simp; exact ⟨rfl, rfl⟩)]
  rw [y_cons' (env1 := [some r.pv, some yN.pv, some (.lst [(aN 0).pv, (aN 1).pv, (aN 2).pv]), none]) (μ1 := []) (by simp; rfl)]
  rw [y_cons' (env1 := [some r.pv, some yN.pv, some (.lst [(aN 0).pv, (aN 1).pv, (aN 2).pv, (aN 3).pv, (aN 4).pv]), none]) (μ1 := []) (by simp; exact ⟨rfl, rfl⟩)]
  rw [y_cons' (env1 := [some r.pv, some yN.pv, some (.lst (asks20.map Ask.pv)), none]) (μ1 := []) (by simp; rfl)]
  have w1 : ∀ (l : List Ask) (it : CI) (src : Src), evi P (callF P (n + 3)) it [some r.pv, some yN.pv, some (.lst (asks20.map Ask.pv)), none] [] = .ok src [] → SrcIs src (l.map Ask.pv) [] → l.length ≤ 100 → (∀ a ∈ l, a.Ok) → ev P (callF P (n + 3)) (.comp false (.call 44 [(.var 0), (.var 1), (.var 3)]) (.v 3) it none) [some r.pv, some yN.pv, some (.lst (asks20.map Ask.pv)), none] [] = .ok (.lst (l.map fun a => optT (whyF r yN a))) [] := by
    intro l it src hi hs hl ha
    refine comp_mapA (f := Ask.pv) (l := l) (g := fun a => optT (whyF r yN a)) (src := src) hi hs (SL_big (by omega)) fun a ham => ?_
    have k := s_why (P := P) (n := n) (μ := []) (r := r) H.fit yN_ok (ha a ham)
    exact ⟨_, pat_v _ _, by simp [patSlots, wipeE, k]⟩
  have w2 : ev P (callF P (n + 3)) (.comp false (.call 51 [(.var 0), (.var 1), (.var 3)]) (.v 3) (.seq (.var 2)) none) [some r.pv, some yN.pv, some (.lst (asks20.map Ask.pv)), none] [] = .ok (.lst (asks20.map fun a => optT (whyF r yN a))) [] := by
    refine comp_mapA (f := Ask.pv) (l := asks20) (g := fun a => optT (whyF r yN a)) (src := .items (asks20.map Ask.pv)) (by simp [srcSeq]) (src_items _) (SL_big (by decide)) fun a ham => ?_
    have hao : a.Ok := by
      simp only [asks20, List.mem_cons, List.not_mem_nil, or_false] at ham
      rcases ham with rfl | rfl | rfl | rfl | rfl | rfl <;> exact aN_ok _
    have k := s_lwhy (P := P) (n := n) (μ := []) (r := r) H.lj.lfit hr yN_ok hao
    exact ⟨_, pat_v _ _, by simp [patSlots, wipeE, k]⟩
  have hall : ∀ a ∈ asks20, a.Ok := fun a ham => by
    simp only [asks20, List.mem_cons, List.not_mem_nil, or_false] at ham
    rcases ham with rfl | rfl | rfl | rfl | rfl | rfl <;> exact aN_ok _
  have w3 := w1 asks20 (.seq (.var 2)) (.items (asks20.map Ask.pv)) (by simp [srcSeq]) (src_items _) (by decide) hall
  have w4 := w1 (asks20.take 3) (.seq (.sl (.var 2) none (some (.con (.int 3))))) (.items ((asks20.take 3).map Ask.pv)) (by simp; rfl) (src_items _) (by decide) fun a ha => hall a (List.mem_of_mem_take ha)
  have hd : data? (.lst (asks20.map fun a => optT (whyF r yN a))) = true := dataL_map (k := 0) (fun a => optT_pure _) (fun a => by cases whyF r yN a <;> simp [optT, dep]) (by omega) _
  have hn := ne_self (μ := []) hd
  rw [y_cons' (env1 := [some r.pv, some yN.pv, some (.lst (asks20.map Ask.pv)), none]) (μ1 := []) (by rw [y_ite, x_cmp, w3, R.ok_bind, w2, R.ok_bind, hn]; simp)]
  have h3 : (asks20.take 3).map (fun a => optT (whyF r yN a)) = [.str wHost, .str wPath, .str wEnd] := by
    show [optT (whyF r yN (aN 0)), optT (whyF r yN (aN 1)), optT (whyF r yN (aN 2))] = _
    rw [why0, why1, why2]; rfl
  rw [h3] at w4
  have hn2 : opCmp .ne (.lst [.str wHost, .str wPath, .str wEnd]) (.lst [.str wHost, .str wPath, .str wEnd]) [] = .ok (.bl false) [] := ne_self rfl
  rw [y_cons' (env1 := [some r.pv, some yN.pv, some (.lst (asks20.map Ask.pv)), none]) (μ1 := []) (by rw [y_ite, x_cmp, w4, R.ok_bind]; simp [hn2])]
  simp
theorem cut25 (a b c d e f g h : PV) : cutL [a, b, c, d, e, f, g, h] (some 2) (some 5) = [c, d, e] := rfl
abbrev B20 : List CS := match d_law_k20.body with | .forr _ _ b :: _ => b | _ => []
abbrev J20 (ν : Sto) (r : Rul) (xs : List Note) (t : Int) (p : List PV) : Sto := jarS (ν ++ [.inst 0 [], .list []]) ν.length (ν.length + 1) r xs t p (.tup [])
theorem turn20 (H : Has20 P) {ns : List Int} {k : Nat} {ν : Sto} {e2 e3 e4 e5 e6 e7 e8 e9 : Option PV} :
    Ends P (callF P (n + 12)) B20 [some (.scr ns), some (.int k), e2, e3, e4, e5, e6, e7, e8, e9] ν
      fun env' μ' => ∃ f1 f2 f3 f4 f5 f6 f7 f8 f9, env' = [some (.scr ns), f1, f2, f3, f4, f5, f6, f7, f8, f9] := by
  have sm : small64 3 = true := by decide
  have kc : ∀ μ, callF P (n + 12) 9 [.scr ns, .int k] μ = .ok (.int (cellI ns k)) μ := fun μ => s_cell (n := n + 11) H.lj.draw.h9 (by omega)
  have k9 : ∀ μ, callF P (n + 12) 9 [.scr ns, .int 9] μ = .ok (.int (cellI ns 9)) μ := fun μ => s_cell (n := n + 11) H.lj.draw.h9 (by omega)
  have kr : ∀ μ, callF P (n + 12) 16 [.int (cellI ns k + 3 * k)] μ = .ok (rulD (cellI ns k + 3 * k)).pv μ := fun μ => s_rules (n := n + 10) H.lj.draw.h10 H.lj.draw.h16
  have hr := rulD_ok (cellI ns k + 3 * k)
  generalize rulD (cellI ns k + 3 * k) = r at kr hr
  refine Ends.step [some (.scr ns), some (.int k), some r.pv, e3, e4, e5, e6, e7, e8, e9] ν (by simp [kc, sm, kr]) ?_
  have hnew := s_newjar (P := P) (k := n + 11) (r := r) H.lj.jar (env := [some (.scr ns), some (.int k), some r.pv, e3, e4, e5, e6, e7, e8, e9]) (e := .var 2) (ν := ν) (by simp)
  obtain ⟨q1, J⟩ := newjar_jst ν (jarF r [] 0 (ν.length + 1) (.tup []))
  rw [q1] at hnew
  refine Ends.step [some (.scr ns), some (.int k), some r.pv, some (.loc ν.length), e4, e5, e6, e7, e8, e9] (J20 ν r [] 0 []) (by rw [y_asg, hnew]; rfl) ?_
  have gi : ∀ xs t p, isInst 0 (.loc ν.length) (J20 ν r xs t p) = true := fun xs t p => (j_inst J _ _ _ _).trans rfl
  have gn : ∀ xs t p, callF P (n + 12) 121 [.loc ν.length] (J20 ν r xs t p) = .ok (.tup (xs.map Note.pv)) (J20 ν r xs t p) := fun xs t p => s_jnotes (P := P) (k := n + 11) H.lj.jar J
  -- six notes
  obtain ⟨env2, μ2, h2, f4, p, hp, rfl, rfl⟩ := y_rng (P := P) (cs := callF P (n + 12)) (i := 4) (e := .con (.int 6)) (body := match B20 with | _ :: _ :: .forr _ _ b :: _ => b | _ => []) (m := 6) (env := [some (.scr ns), some (.int k), some r.pv, some (.loc ν.length), e4, e5, e6, e7, e8, e9]) (μ := J20 ν r [] 0 [])
    (I := fun j env μ' => ∃ (f4 : Option PV) (p : List PV), p.length ≤ j ∧ env = [some (.scr ns), some (.int k), some r.pv, some (.loc ν.length), f4, e5, e6, e7, e8, e9] ∧ μ' = J20 ν r (six.take j) 0 p) (by decide) (by simp) ⟨_, [], by simp, rfl, rfl⟩ fun j hj env μ' hI => by
      obtain ⟨f4, p, hp, rfl, rfl⟩ := hI
      have hj : j < 6 := by omega
      have kt := s_jtake (P := P) (k := n + 9) (μ := ν ++ [.inst 0 [], .list []]) (n := ν.length) (m := ν.length + 1) (r := r) (xs := six.take j) (t := 0) (p := p) (asked := .tup []) H.lj.jar J (by omega) (by simp [six]; omega) (x := xN j) (z := zXAB) (xN_ok hj)
      rw [k_six r hj] at kt
      refine ⟨[some (.scr ns), some (.int k), some r.pv, some (.loc ν.length), some (.int j), e5, e6, e7, e8, e9], J20 ν r (six.take (j + 1)) 0 (p ++ [snapV r (six.take j) 0]), ?_, _, _, by simp; omega, rfl, rfl⟩
      have kt : callF P (n + 12) 118 [.loc ν.length, .tup [.str [110], .str [], .str [97, 46, 98], .bl true, .str [47, 97 + j], .non, .bl false, .str wOwn], .str zXAB] (J20 ν r (six.take j) 0 p) = .ok .non (J20 ν r (six.take (j + 1)) 0 (p ++ [snapV r (six.take j) 0])) := kt
      have g := gi (six.take j) 0 p
      have hx : ∀ μ, opIdx (.str [97, 98, 99, 100, 101, 102]) (.int j) μ = .ok (.str [97 + j]) μ := fun μ => by
        rcases (by omega : j = 0 ∨ j = 1 ∨ j = 2 ∨ j = 3 ∨ j = 4 ∨ j = 5) with rfl | rfl | rfl | rfl | rfl | rfl <;> rfl
      generalize J20 ν r (six.take j) 0 p = M at kt g
      generalize J20 ν r (six.take (j + 1)) 0 (p ++ [snapV r (six.take j) 0]) = M' at kt
      show execs P (callF P (n + 12)) (.expr _ :: []) _ _ = _
      simp [kt, g, hx]
  refine Ends.step _ _ h2 ?_
  have hp6 : p.length ≤ 6 := hp
  have h6 : six.take (6 : Int).toNat = six := rfl
  rw [h6]
  -- twenty ticks
  have kp := s_jpass (P := P) (k := n + 9) (μ := ν ++ [.inst 0 [], .list []]) (n := ν.length) (m := ν.length + 1) (r := r) (xs := six) (t := 0) (p := p) (asked := .tup []) H.lj.jar J (by omega) (by decide) (i := 20)
  have hmin : min 99 ((0 : Int) + 20) = 20 := by omega
  rw [hmin, k_fresh6] at kp
  generalize hp1 : p ++ [snapV r six 0] = p1 at kp
  have hl1 : p1.length ≤ 7 := by rw [← hp1]; simp; omega
  have g0 := gi six 0 p
  have g1 := gi six 20 p1
  refine Ends.step [some (.scr ns), some (.int k), some r.pv, some (.loc ν.length), f4, e5, e6, e7, e8, e9] (J20 ν r six 20 p1) (by simp [g0, kp]) ?_
  have n1 := gn six 20 p1
  refine Ends.step [some (.scr ns), some (.int k), some r.pv, some (.loc ν.length), f4, some (.tup (six.map Note.pv)), e6, e7, e8, e9] (J20 ν r six 20 p1) (by generalize six.map Note.pv = w at n1; simp [g1, n1]) ?_
  refine Ends.step [some (.scr ns), some (.int k), some r.pv, some (.loc ν.length), f4, some (.tup (six.map Note.pv)), some (fN none hAB).pv, e7, e8, e9] (J20 ν r six 20 p1) (by simp; rfl) ?_
  have km : ∀ μ, callF P (n + 12) 10 [.int (cellI ns 9 + k), .int 9479, .int 6] μ = .ok (.int (mixI (cellI ns 9 + k) 9479 6)) μ := fun μ => s_mix (n := n + 11) H.lj.draw.h10 (by omega) (by omega) (by omega)
  have hi0 := mixI_nn (c := cellI ns 9 + k) (p := 9479) (m := 6) (by omega)
  have hi1 := mixI_lt (c := cellI ns 9 + k) (p := 9479) (m := 6) (by omega)
  obtain ⟨i, hi⟩ : ∃ i : Nat, mixI (cellI ns 9 + k) 9479 6 = i := ⟨_, (Int.toNat_of_nonneg hi0).symm⟩
  have hi6 : i < 6 := by omega
  rw [hi] at km
  refine Ends.step [some (.scr ns), some (.int k), some r.pv, some (.loc ν.length), f4, some (.tup (six.map Note.pv)), some (fN none hAB).pv, some (.int i), e8, e9] (J20 ν r six 20 p1) (by simp [k9, km]) ?_
  -- a note handed on
  have tk : ∀ (xs : List Note) (p : List PV) (x : Note) (z : List Nat), p.length ≤ 100 → xs.length ≤ 100 → x.Ok → callF P (n + 12) 162 [.loc ν.length, x.pv, .str z] (J20 ν r xs 20 p) = match takeL r xs 20 x z with
      | .ok ys => .ok .non (J20 ν r ys 20 (p ++ [snapV r xs 20]))
      | .error c => .ok (.str (errT c)) (J20 ν r xs 20 p) := fun xs p x z h1 h2 hx => s_take2 (P := P) (k := n + 8) H.lj.jar H.lj.word H.h162 J (by omega) (by omega) hx
  have fok : ∀ f : Option Int, (∀ j, f = some j → 0 ≤ j ∧ j ≤ 99) → (fN f hAB).Ok := fun f h => fN_ok hAB_ok (by decide) h
  have f0 := fok none (fun j h => by cases h)
  have f3 := fok (some 3) (fun j h => by cases h; omega)
  have fb : (fN none [[98]]).Ok := fN_ok hB_ok (by decide) (fun j h => by cases h)
  have o0 := oN_ok hi6 (f := none) (fun j h => by cases h)
  have o19 := oN_ok hi6 (f := some 19) (fun j h => by cases h; omega)
  have t1 : ∀ z ∈ ([[98], [99, 46, 98], [97, 46, 98, 46, 99], [98, 97, 46, 98]] : List (List Nat)), callF P (n + 12) 162 [.loc ν.length, (fN none hAB).pv, .str z] (J20 ν r six 20 p1) = .ok (.str qNotTheirs) (J20 ν r six 20 p1) := fun z hz => by
    have h := tk six p1 (fN none hAB) z (by omega) (by decide) f0
    rw [k_notF r hz] at h
    exact h
  have t2 := tk six p1 (fN none [[98]]) [98] (by omega) (by decide) fb
  rw [k_notB] at t2
  have t3 := tk six p1 (fN none hAB) zAB (by omega) (by decide) f0
  rw [k_full] at t3
  have t4 := tk six p1 (fN (some 3) hAB) zAB (by omega) (by decide) f3
  rw [k_old3] at t4
  generalize hp2 : p1 ++ [snapV r six 20] = p2 at t4
  have hl2 : p2.length ≤ 8 := by rw [← hp2]; simp; omega
  have t5 := tk six p2 (oN i none) zAB (by omega) (by decide) o0
  rw [k_o r hi6] at t5
  generalize hp3 : p2 ++ [snapV r six 20] = p3 at t5
  have hl3 : p3.length ≤ 9 := by rw [← hp3]; simp; omega
  have t6 := tk (sixO i) p3 (oN i (some 19)) zXAB (by omega) (by simp [sixO, six]) o19
  rw [k_o19 r hi6] at t6
  generalize hp4 : p3 ++ [snapV r (sixO i) 20] = p4 at t6
  have hl4 : p4.length ≤ 10 := by rw [← hp4]; simp; omega
  have l5 : (five i).length ≤ 100 := by
    have := List.length_eraseIdx_le six i
    have h6 : six.length = 6 := rfl
    show (six.eraseIdx i).length ≤ 100
    omega
  have t7 := tk (five i) p4 (fN none hAB) zAB (by omega) l5 f0
  rw [k_f5 r hi6] at t7
  generalize hp5 : p4 ++ [snapV r (five i) 20] = p5 at t7
  have hl5 : p5.length ≤ 11 := by rw [← hp5]; simp; omega
  have t8 := tk (five i ++ [fN none hAB]) p5 (oN i none) zAB (by omega) (by have : (six.eraseIdx i).length ≤ 6 := List.length_eraseIdx_le six i; rw [List.length_append]; show (six.eraseIdx i).length + 1 ≤ 100; omega) o0
  rw [k_o6 r hi6] at t8
  have ns6 := notes_data six
  have n2 := gn six 20 p2
  have n3 := gn (sixO i) 20 p3
  have n4 := gn (five i) 20 p4
  have n5 := gn (five i ++ [fN none hAB]) 20 p5
  have g2 := gi six 20 p2
  have g3 := gi (sixO i) 20 p3
  have g4 := gi (five i) 20 p4
  have g5 := gi (five i ++ [fN none hAB]) 20 p5
  have c7 := comp_mapA (P := P) (cs := callF P (n + 12)) (env := [some (.scr ns), some (.int k), some r.pv, some (.loc ν.length), f4, some (.tup (six.map Note.pv)), some (fN none hAB).pv, some (.int i), e8, e9]) (μ := J20 ν r six 20 p1) (f := PV.str) (l := [[98], [99, 46, 98], [97, 46, 98, 46, 99], [98, 97, 46, 98]]) (g := fun _ => .str qNotTheirs) (elt := .call 162 [(.var 3), (.var 6), (.var 8)]) (p := .v 8) (it := .seq (.tup [(.con (.str [98])), (.con (.str [99, 46, 98])), (.con (.str [97, 46, 98, 46, 99])), (.con (.str [98, 97, 46, 98]))])) (src := .items [.str [98], .str [99, 46, 98], .str [97, 46, 98, 46, 99], .str [98, 97, 46, 98]]) (by simp [srcSeq]) (src_items _) (SL_big (by decide)) fun z hz => by
    have h := t1 z hz
    generalize J20 ν r six 20 p1 = M at h
    exact ⟨_, pat_v _ _, by simp [patSlots, wipeE, h]⟩
  have m7 : ∀ μ, opBin .mul (.lst [.str qNotTheirs]) (.int 4) μ = .ok (.lst [.str qNotTheirs, .str qNotTheirs, .str qNotTheirs, .str qNotTheirs]) μ := fun _ => rfl
  have e7' : ∀ μ, opCmp .ne (.lst [.str qNotTheirs, .str qNotTheirs, .str qNotTheirs, .str qNotTheirs]) (.lst [.str qNotTheirs, .str qNotTheirs, .str qNotTheirs, .str qNotTheirs]) μ = .ok (.bl false) μ := fun _ => ne_self rfl
  have hx9 : ∀ μ, opIdx (.tup (six.map Note.pv)) (.int i) μ = .ok (xN i).pv μ := fun μ => by
    refine i_tup (by omega) ?_
    rw [Int.toNat_natCast]
    rcases (by omega : i = 0 ∨ i = 1 ∨ i = 2 ∨ i = 3 ∨ i = 4 ∨ i = 5) with rfl | rfl | rfl | rfl | rfl | rfl <;> rfl
  have hxp : (xN i).pv = .tup [.str [110], .str [], .str [97, 46, 98], .bl true, .str [47, 97 + i], .non, .bl false, .str wOwn] := rfl
  have hop : ∀ f, (oN i f).pv = .tup [.str [110], .str [119], .str [97, 46, 98], .bl true, .str [47, 97 + i], optI f, .bl true, .str wAny] := fun _ => rfl
  have hfp : ∀ f, (fN f hAB).pv = .tup [.str [110], .str [119], .str [97, 46, 98], .bl true, .str [47, 122, 122], optI f, .bl false, .str wAny] := fun _ => rfl
  have hbp : (fN none [[98]]).pv = .tup [.str [110], .str [119], .str [98], .bl true, .str [47, 122, 122], .non, .bl false, .str wAny] := rfl
  have i1 : (i : Int) + 1 = ((i + 1 : Nat) : Int) := by omega
  have so : (six.map Note.pv).take i ++ (oN i none).pv :: (six.map Note.pv).drop (i + 1) = (sixO i).map Note.pv := by
    rcases (by omega : i = 0 ∨ i = 1 ∨ i = 2 ∨ i = 3 ∨ i = 4 ∨ i = 5) with rfl | rfl | rfl | rfl | rfl | rfl <;> rfl
  have s5 : (six.map Note.pv).take i ++ (six.map Note.pv).drop (i + 1) = (five i).map Note.pv := by
    rcases (by omega : i = 0 ∨ i = 1 ∨ i = 2 ∨ i = 3 ∨ i = 4 ∨ i = 5) with rfl | rfl | rfl | rfl | rfl | rfl <;> rfl
  have hlast : ∀ μ, opIdx (.tup ((five i ++ [fN none hAB]).map Note.pv)) (.int (-1)) μ = .ok (fN none hAB).pv μ := fun μ => by
    rcases (by omega : i = 0 ∨ i = 1 ∨ i = 2 ∨ i = 3 ∨ i = 4 ∨ i = 5) with rfl | rfl | rfl | rfl | rfl | rfl <;> rfl
  have q6 : ∀ μ, opCmp .ne (.tup (six.map Note.pv)) (.tup (six.map Note.pv)) μ = .ok (.bl false) μ := fun _ => ne_self (notes_data _)
  have qo : ∀ μ, opCmp .ne (.tup ((sixO i).map Note.pv)) (.tup ((sixO i).map Note.pv)) μ = .ok (.bl false) μ := fun _ => ne_self (notes_data _)
  have q5 : ∀ μ, opCmp .ne (.tup ((five i).map Note.pv)) (.tup ((five i).map Note.pv)) μ = .ok (.bl false) μ := fun _ => ne_self (notes_data _)
  have qf : ∀ μ, opCmp .ne (fN none hAB).pv (fN none hAB).pv μ = .ok (.bl false) μ := fun _ => ne_self rfl
  have ll : (List.take i (six.map Note.pv)).length + 1 ≤ SL := SL_big (by simp [six]; omega)
  have ll2 : (List.take i (six.map Note.pv)).length + 1 + (List.drop (i + 1) (six.map Note.pv)).length ≤ SL := SL_big (by simp [six]; omega)
  have ll3 : (List.take i (six.map Note.pv)).length + (List.drop (i + 1) (six.map Note.pv)).length ≤ SL := SL_big (by simp [six]; omega)
  have cto : cutL (six.map Note.pv) none (some (i : Int)) = (six.map Note.pv).take i := cut_to _ _
  have cfr : cutL (six.map Note.pv) (some ((i : Int) + 1)) none = (six.map Note.pv).drop (i + 1) := by rw [i1]; exact cut_from _ _
  have kf := fun μ => s_first (P := P) (n := n + 8) (μ := μ) (r := r) H hr
  rw [hfp] at t1
  rw [hbp] at t2
  simp only [hfp, hop] at t3 t4 t5 t6 t7 t8 hlast qf so
  rw [hxp] at hx9
  have oi3 : optI (some 3) = .int 3 := rfl
  have oi19 : optI (some 19) = .int 19 := rfl
  have oin : optI none = .non := rfl
  rw [oi3] at t4
  rw [oi19] at t6
  rw [oin] at t1 t3 t5 t7 t8 hlast qf so
  have hfp0 := hfp none
  rw [oin] at hfp0
  rw [hfp0] at c7 ⊢
  generalize hs : six.map Note.pv = full at *
  generalize hso : (sixO i).map Note.pv = fullO at *
  generalize hs5 : (five i).map Note.pv = full5 at *
  generalize hs6 : (five i ++ [fN none hAB]).map Note.pv = full6 at *
  simp at ll ll2 ll3
  generalize J20 ν r six 20 p1 = M1 at *
  generalize J20 ν r six 20 p2 = M2 at *
  generalize J20 ν r (sixO i) 20 p3 = M3 at *
  generalize J20 ν r (five i) 20 p4 = M4 at *
  generalize J20 ν r (five i ++ [fN none hAB]) 20 p5 = M5 at *
  refine Ends.step [some (.scr ns), some (.int k), some r.pv, some (.loc ν.length), f4, some (.tup full), some (.tup [.str [110], .str [119], .str [97, 46, 98], .bl true, .str [47, 122, 122], .non, .bl false, .str wAny]), some (.int i), e8, e9] M1 (by rw [y_ite, x_cmp, c7, R.ok_bind]; simp [m7, e7']) ?_
  refine Ends.step [some (.scr ns), some (.int k), some r.pv, some (.loc ν.length), f4, some (.tup full), some (.tup [.str [110], .str [119], .str [97, 46, 98], .bl true, .str [47, 122, 122], .non, .bl false, .str wAny]), some (.int i), e8, e9] M1 (by simp [t2, errT]) ?_
  refine Ends.step [some (.scr ns), some (.int k), some r.pv, some (.loc ν.length), f4, some (.tup full), some (.tup [.str [110], .str [119], .str [97, 46, 98], .bl true, .str [47, 122, 122], .non, .bl false, .str wAny]), some (.int i), e8, e9] M1 (by simp [t3, errT]) ?_
  refine Ends.step [some (.scr ns), some (.int k), some r.pv, some (.loc ν.length), f4, some (.tup full), some (.tup [.str [110], .str [119], .str [97, 46, 98], .bl true, .str [47, 122, 122], .non, .bl false, .str wAny]), some (.int i), e8, e9] M2 (by simp [g1, n1, q6, t4]) ?_
  refine Ends.step [some (.scr ns), some (.int k), some r.pv, some (.loc ν.length), f4, some (.tup full), some (.tup [.str [110], .str [119], .str [97, 46, 98], .bl true, .str [47, 122, 122], .non, .bl false, .str wAny]), some (.int i), e8, e9] M2 (by simp [g2, n2, q6]) ?_
  refine Ends.step [some (.scr ns), some (.int k), some r.pv, some (.loc ν.length), f4, some (.tup full), some (.tup [.str [110], .str [119], .str [97, 46, 98], .bl true, .str [47, 122, 122], .non, .bl false, .str wAny]), some (.int i), e8, some (.tup [.str [110], .str [119], .str [97, 46, 98], .bl true, .str [47, 97 + i], .non, .bl true, .str wAny])] M2 (by simp [hx9, cut25]) ?_
  refine Ends.step [some (.scr ns), some (.int k), some r.pv, some (.loc ν.length), f4, some (.tup full), some (.tup [.str [110], .str [119], .str [97, 46, 98], .bl true, .str [47, 122, 122], .non, .bl false, .str wAny]), some (.int i), e8, some (.tup [.str [110], .str [119], .str [97, 46, 98], .bl true, .str [47, 97 + i], .non, .bl true, .str wAny])] M3 (by simp [t5, g3, n3, cto, cfr, ll, ll2, so, qo]) ?_
  refine Ends.step [some (.scr ns), some (.int k), some r.pv, some (.loc ν.length), f4, some (.tup full), some (.tup [.str [110], .str [119], .str [97, 46, 98], .bl true, .str [47, 122, 122], .non, .bl false, .str wAny]), some (.int i), e8, some (.tup [.str [110], .str [119], .str [97, 46, 98], .bl true, .str [47, 97 + i], .non, .bl true, .str wAny])] M4 (by simp [t6]) ?_
  refine Ends.step [some (.scr ns), some (.int k), some r.pv, some (.loc ν.length), f4, some (.tup full), some (.tup [.str [110], .str [119], .str [97, 46, 98], .bl true, .str [47, 122, 122], .non, .bl false, .str wAny]), some (.int i), e8, some (.tup [.str [110], .str [119], .str [97, 46, 98], .bl true, .str [47, 97 + i], .non, .bl true, .str wAny])] M4 (by simp [g4, n4, cto, cfr, ll3, s5, q5]) ?_
  refine Ends.step [some (.scr ns), some (.int k), some r.pv, some (.loc ν.length), f4, some (.tup full), some (.tup [.str [110], .str [119], .str [97, 46, 98], .bl true, .str [47, 122, 122], .non, .bl false, .str wAny]), some (.int i), e8, some (.tup [.str [110], .str [119], .str [97, 46, 98], .bl true, .str [47, 97 + i], .non, .bl true, .str wAny])] M5 (by simp [t7, g5, n5, hlast, qf]) ?_
  refine Ends.step [some (.scr ns), some (.int k), some r.pv, some (.loc ν.length), f4, some (.tup full), some (.tup [.str [110], .str [119], .str [97, 46, 98], .bl true, .str [47, 122, 122], .non, .bl false, .str wAny]), some (.int i), e8, some (.tup [.str [110], .str [119], .str [97, 46, 98], .bl true, .str [47, 97 + i], .non, .bl true, .str wAny])] M5 (by simp [t8, errT]) ?_
  refine Ends.step [some (.scr ns), some (.int k), some r.pv, some (.loc ν.length), f4, some (.tup full), some (.tup [.str [110], .str [119], .str [97, 46, 98], .bl true, .str [47, 122, 122], .non, .bl false, .str wAny]), some (.int i), e8, some (.tup [.str [110], .str [119], .str [97, 46, 98], .bl true, .str [47, 97 + i], .non, .bl true, .str wAny])] M5 (by simp [kf]) ?_
  exact .nil ⟨_, _, _, _, _, _, _, _, _, rfl⟩
theorem law20 (H : Has20 P) (h164 : P.funs[164]? = some d_law_k20) (ns : List Int) {μ : Sto} : callF P (n + 13) 164 [.scr ns] μ = .ok (.bl true) μ := by
  obtain ⟨env', μ', he, e1, e2, e3, e4, e5, e6, e7, e8, e9, rfl⟩ := y_rng (P := P) (cs := callF P (n + 12)) (i := 1) (e := .con (.int 8)) (body := B20) (m := 8) (env := startE d_law_k20 [.scr ns]) (μ := [])
    (I := fun k env μ1 => ∃ e1 e2 e3 e4 e5 e6 e7 e8 e9, env = [some (.scr ns), e1, e2, e3, e4, e5, e6, e7, e8, e9]) (by decide) (by simp) ⟨_, _, _, _, _, _, _, _, _, rfl⟩ fun k hk env μ1 hI => by
      obtain ⟨e1, e2, e3, e4, e5, e6, e7, e8, e9, rfl⟩ := hI
      exact turn20 (n := n) H (ns := ns) (k := k) (ν := μ1)
  refine callF_pure h164 rfl rfl rfl (μ' := μ') ?_ rfl
  have hend : execs P (callF P (n + 12)) (d_law_k20.body.drop 1) [some (.scr ns), e1, e2, e3, e4, e5, e6, e7, e8, e9] μ' = .rt (.bl true) μ' := by
    show execs P (callF P (n + 12)) (.ret (.con (.bl true)) :: []) _ _ = _
    simp
  exact (congrArg endOf ((y_cons' he).trans hend)).trans rfl
end
end NR

namespace NRk20
open NR PySem
abbrev PR : Prog := NR.PR
abbrev prog : Program := PySem.Challenge.pw_noterules_k20_two_at_once
def ds : List DText := [dno, dno, dno, dno, dno, mkD prog 12 [("note" : Str)] false false, dno, dno, dno, mkD prog 35 [("_law_script" : Str), ("_law_k" : Str)] false false, mkD prog 36 [("_law_cell_here" : Str), ("_law_prime" : Str), ("_law_many" : Str), ("_law_blend" : Str)] false false, dno, dno, dno, dno, dno, mkD prog 37 [("_law_cell_here" : Str), ("_law_some" : Str), ("_law_found" : Str), ("_law_n" : Str), ("_law_tokens" : Str)] false false, dno, dno, dno, dno, dno, dno, dno, dno, dno, dno, dno, dno, mkD prog 13 [("one" : Str), ("other" : Str)] false false, mkD prog 14 [("host" : Str)] false false, mkD prog 15 [("path" : Str)] false false, dno, mkD prog 28 [("note" : Str), ("host" : Str)] false false, dno, dno, mkD prog 38 [("_law_host" : Str), ("_law_labels" : Str)] false false, mkD prog 39 [("_law_path" : Str), ("_law_step" : Str)] false false, dno, mkD prog 17 [("rules" : Str), ("note" : Str), ("host" : Str), ("is_wide" : Str)] false false, mkD prog 18 [("rules" : Str), ("note" : Str), ("path" : Str), ("some" : Str)] false false, mkD prog 19 [("rules" : Str), ("note" : Str), ("time" : Str)] false false, mkD prog 20 [("rules" : Str), ("note" : Str), ("ask" : Str)] false false, mkD prog 21 [("rules" : Str), ("note" : Str), ("ask" : Str)] false false, mkD prog 22 [("rules" : Str), ("note" : Str), ("ask" : Str)] false false, mkD prog 23 [("rules" : Str), ("note" : Str), ("ask" : Str)] false false, mkD prog 40 [("_law_rules_here" : Str), ("_law_note" : Str), ("_law_host" : Str), ("_law_mine" : Str), ("_law_yours" : Str)] false false, mkD prog 41 [("_law_rules_here" : Str), ("_law_note" : Str), ("_law_path" : Str), ("_law_mine" : Str), ("_law_yours" : Str)] false false, mkD prog 42 [("_law_rules_here" : Str), ("_law_note" : Str), ("_law_time" : Str)] false false, mkD prog 43 [("_law_rules_here" : Str), ("_law_note" : Str), ("_law_ask" : Str)] false false, mkD prog 44 [("_law_rules_here" : Str), ("_law_note" : Str), ("_law_ask" : Str)] false false, mkD prog 45 [("_law_rules_here" : Str), ("_law_note" : Str), ("_law_ask" : Str)] false false, dno, dno, dno, dno, mkD prog 30 [("rules" : Str), ("note" : Str)] false false, mkD prog 31 [("rules" : Str), ("notes" : Str), ("ask" : Str), ("some" : Str), ("note" : Str)] true false, dno, dno, dno, dno, dno, mkD prog 46 [("_law_what" : Str), ("_law_kinds" : Str)] false true, dno, dno, dno, dno, dno, mkD prog 25 [("notes" : Str), ("note" : Str), ("marks" : Str), ("one" : Str), ("where" : Str)] false false, mkD prog 26 [("notes" : Str), ("one" : Str), ("note" : Str)] false false, dno, mkD prog 27 [("rules" : Str), ("notes" : Str), ("time" : Str), ("note" : Str)] false false, dno, dno, dno, dno, dno, dno, dno, dno, dno, dno, dno, dno, dno, dno, dno, dno, dno, dno, dno, dno, dno, dno, dno, dno, dno, dno, dno, dno, dno, dno, dno, dno, dno, dno, dno, dno, dno, dno, dno, dno, dno, dno, dno, mkM prog 33 0 0 [("self" : Str), ("rules" : Str)], mkM prog 33 1 0 [("self" : Str), ("rules" : Str), ("notes" : Str), ("time" : Str)], mkM prog 33 2 0 [("self" : Str), ("note" : Str), ("host" : Str), ("notes" : Str)], mkM prog 33 3 0 [("self" : Str), ("host" : Str), ("path" : Str), ("is_safe" : Str), ("origin" : Str), ("is_led" : Str), ("ask" : Str), ("found" : Str)], mkM prog 33 4 0 [("self" : Str), ("many" : Str), ("time" : Str)], mkM prog 33 5 0 [("self" : Str)], mkM prog 33 6 0 [("self" : Str)], mkM prog 33 7 0 [("self" : Str)], dno, dno, dno, dno, dno, dno, dno, dno, dno, dno, dno, dno, dno, dno, dno, dno, dno, dno, dno, dno, dno, dno, dno, dno, dno, dno, dno, dno, dno, dno, dno, dno, dno, dno, mkD prog 0 [("k" : Str)] false false, mkM prog 33 8 0 [("self" : Str), ("rules" : Str)], mkM prog 33 9 0 [("self" : Str)], mkM prog 33 10 0 [("self" : Str)], mkD prog 47 [("_law_jar" : Str), ("_law_note" : Str), ("_law_host" : Str), ("e" : Str)] false false, mkD prog 48 [("_law_rules_here" : Str), ("_law_note" : Str), ("_law_asks" : Str), ("_law_ask" : Str)] false false, mkD prog 49 [("_law_script" : Str), ("_law_k" : Str), ("_law_rules_here" : Str), ("_law_jar" : Str), ("_law_n" : Str), ("_law_full" : Str), ("_law_fresh_one" : Str), ("_law_spot_now" : Str), ("_law_host" : Str), ("_law_other" : Str)] false false, dno, dno, dno, dno, dno, dno, dno, dno, dno, dno, dno, dno, dno, dno, dno, dno, dno, dno, dno, dno, dno, dno, dno, dno, dno, dno, dno, dno, dno, dno, dno, dno, dno]
def con : List Str := [("" : Str), ("LAST_TIME" : Str), ("MOST_NOTES" : Str), ("" : Str), ("" : Str), ("" : Str), ("" : Str), ("" : Str), ("" : Str), ("" : Str), ("" : Str)]
def exn : List Str := [("NoteError" : Str), ("NoNote" : Str), ("Full" : Str), ("NoRules" : Str), ("NotTheirs" : Str), ("NoDeed" : Str), ("NoText" : Str)]
def cls : List Str := [("Jar" : Str), ("" : Str)]
def fld : List Str := [("manner" : Str), ("some" : Str), ("now" : Str), ("past" : Str), ("asked" : Str), ("" : Str), ("" : Str), ("" : Str)]
end NRk20

namespace NRk20
open NR
theorem pure_law (ns : List Int) (hl : ns.length ≤ 63) : callF PR 14 164 [.scr ns] [] = .ok (.bl true) [] :=
  law20 (n := 1) ⟨pf_ljar, pf_fit, rfl, rfl⟩ rfl ns
end NRk20

namespace NRk20
open NR PySem PySem.Spec PyProof.Rows L2
theorem checked : ((PR.funs.zip ds).all fun q => q.2.name == ("" : Str) || chkD con exn cls fld ds q.1 q.2) = true := by kernel_rfl
abbrev R0 : PySem.W.OpenRow := PySem.W.OpenLaw.row PySem.Challenge.rw_noterules_k20_two_at_once
abbrev hk : PySem.W.Hook := hookN 6 PR.sup PR.classes exn cls fld (con.zip PR.consts) ds
def ob (s : PySem.W.SharedT) : He.AlX := He.obsX 6 (faL ds) (fnL cls ds) [] (lamL ds) (exL PR.sup PR.classes exn cls fld (con.zip PR.consts) ds) (HandSHeadRun.getT s)
theorem ob_eq (s : PySem.W.SharedT) : ob s = hk.obs s.abs := He.obsX_eq (HandSHeadRun.getT_eq s)
def loose : List Str := [("_wall" : Str), ("mark" : Str), ("is_below" : Str), ("site" : Str), ("steps" : Str), ("host_fits" : Str), ("path_fits" : Str), ("has_ended" : Str), ("safe_fits" : Str), ("side_fits" : Str), ("why_not" : Str), ("goes" : Str), ("put" : Str), ("without" : Str), ("fresh" : Str), ("may_put" : Str), ("place" : Str), ("sent" : Str), ("_law_cell" : Str), ("_law_mix" : Str), ("_law_rules" : Str), ("_law_site" : Str), ("_law_steps" : Str), ("_law_host_fits" : Str), ("_law_path_fits" : Str), ("_law_ended" : Str), ("_law_safe_fits" : Str), ("_law_side_fits" : Str), ("_law_why" : Str), ("_law_word" : Str), ("_law_take" : Str), ("_law_is_first" : Str), ("Jar" : Str), ("NoteError" : Str), ("NoNote" : Str), ("Full" : Str), ("NoRules" : Str), ("NotTheirs" : Str), ("NoDeed" : Str), ("NoText" : Str), ("LAST_TIME" : Str), ("MOST_NOTES" : Str)]
theorem run (w : World) : HandSHeadRun.RunEq R0 (PySem.W.view R0.prog [49]) hk ob 30000 loose w := by
  intro os
  kernel_rfl
end NRk20
open PySem PySem.W PySem.Calls PyProof.Rows
theorem PySem.Challenge.cw_noterules_k20_two_at_once_holds : PySem.Challenge.rw_noterules_k20_two_at_once.Holds := by
  w_on; o_law
  refine HandSHeadRun.head_any (r := OpenLaw.row PySem.Challenge.rw_noterules_k20_two_at_once) (q := view (OpenLaw.row PySem.Challenge.rw_noterules_k20_two_at_once).prog [49]) (H := NRk20.hk) (ob := NRk20.ob) (M := 30000) (loose := NRk20.loose) (d := HandSHeadRun.topDef (OpenLaw.row PySem.Challenge.rw_noterules_k20_two_at_once).prog 49) (kwd := []) NRk20.ob_eq
    (by kernel_rfl) (fun s => by kernel_rfl) NRk20.run (by kernel_rfl) (by kernel_rfl) (by kernel_rfl) (by rfl) (by first | assumption | decide +kernel) (by decide +kernel) ⟨rfl, rfl, rfl, rfl, rfl, by decide +kernel⟩ ?hw ?hc
  case hw => w_witness2
  case hc =>
    refine LamX.walk_ofTsE (l := PySem.Challenge.rw_noterules_k20_two_at_once) (n := 63) (k := 8 * 14) (x := "_law_script") (CX := fun w => L2.CX (PySem.Challenge.rw_noterules_k20_two_at_once).prog w) rfl (by decide) (by kernel_rfl) ⟨rfl, by decide, by decide⟩ ?F (fun w H s e s' z => NR.cx_noE z)
    intro w mg fa h Y G hmg0
    obtain ⟨K, KX, cx⟩ := Y
    have hmg : mg ("law" : PySem.Str) = some (.ref fa) := by
      have e : (HandSHeadRun.topDef (OpenLaw.row PySem.Challenge.rw_noterules_k20_two_at_once).prog 49).name = ("law" : PySem.Str) := by kernel_rfl
      rw [← e]
      exact hmg0
    exact ⟨K, KX, NR.law_at (PR := NR.PR) (con := NRk20.con) (exn := NRk20.exn) (cls := NRk20.cls) (fld := NRk20.fld) (n := 14) (li := 164) (Nat.le_refl _) KX G cx (by kernel_rfl) NRk20.checked (by kernel_rfl) rfl (d := NR.d_law_k20) (t := NR.mkD NRk20.prog 49 [("_law_script" : Str), ("_law_k" : Str), ("_law_rules_here" : Str), ("_law_jar" : Str), ("_law_n" : Str), ("_law_full" : Str), ("_law_fresh_one" : Str), ("_law_spot_now" : Str), ("_law_host" : Str), ("_law_other" : Str)] false false) rfl rfl rfl (by decide) rfl rfl hmg NRk20.pure_law⟩

