import PyProof.Rows.All
import Wide.All
import OpenK.AllK
import Wide.FinOn
import HandS.ForMost
import HandS.EndBits
import HandS.Wide
import HandS.Sort
import KE.KeyNested
import KE.SortData
import KE.KDictSum
import KE.KDictCopyH
import KE.KDictPairs
import KE.KDictKeyed
import HandS.Style
import HandS.Conv
import HandS.HeadHook1
import HandS.ExcIs
import HandS.ExcOwn
import PyProof.Rows.SeqMore
import HandS.TupSets
import HandS.TupAny
import HandS.Deep
import HandS.IsInst
import HandS.WordsDict
import PyProof.Rows.TupTab
import HandS.More
import HandS.TupLen
import PyProof.ReprRoads
import PyProof.Rows.StrBoot
import HandS.SetFor
import HandS.Ends
import HandS.WordsExc
import PyProof.Rows.TupDisplay
import HandS.Dict
import HandS.Walk
import HandS.Zip
import KE.GoesEnum
import HandS.TryOnly
import HandS.Small
import PyProof.ExcBaseAll.ValueError
import HandS.Codes
import HandS.HeadEnd
import HandS.HeadHook2
import KE.KStateDown
import Lean
import HandS.Head0
import HandS.Head1
import HandS.Head2
import KE.KBits
import KE.OsArith
import PyProof.ReprLen
import PySem.Challenge.RW_anywide_k66_rows_that_dont_go_together
set_option Elab.async false
set_option linter.all false
set_option maxRecDepth 100000
set_option maxHeartbeats 4000000
/-! AWBase: plain data, the small language, its meaning. No heap here. -/
namespace AW
open PySem

/-- plain data; the Bool of a list or dict tells that it is owned (held by nobody else, so it may be changed) -/
inductive D where
  | non | bl (b : Bool) | int (i : Int) | str (s : List Nat)
  | tup (ds : List D) | lst (o : Bool) (ds : List D) | dic (o : Bool) (ks vs : List D)
  /-- a dict whose keys are tuples -/
  | dtp (o : Bool) (ks vs : List D)
  | ins (c : Nat) (fs : List D) | fn (f : Nat)

mutual
/-- nothing owned within -/
def noOwn : D → Bool
  | .tup ds => noOwns ds
  | .lst o ds => !o && noOwns ds
  | .dic o ks vs => !o && (noOwns ks && noOwns vs)
  | .dtp o ks vs => !o && (noOwns ks && noOwns vs)
  | .ins _ _ => false
  | _ => true
def noOwns : List D → Bool
  | [] => true
  | d :: ds => noOwn d && noOwns ds
end
mutual
/-- given up: nothing within is owned any more -/
def frz : D → D
  | .tup ds => .tup (frzs ds)
  | .lst _ ds => .lst false (frzs ds)
  | .dic _ ks vs => .dic false (frzs ks) (frzs vs)
  | .dtp _ ks vs => .dtp false (frzs ks) (frzs vs)
  | d => d
def frzs : List D → List D
  | [] => []
  | d :: ds => frz d :: frzs ds
end
mutual
/-- may be given up (no object, no hole within) -/
def okF : D → Bool
  | .tup ds => okFs ds
  | .lst _ ds => okFs ds
  | .dic _ ks vs => okFs ks && okFs vs
  | .dtp _ ks vs => okFs ks && okFs vs
  | .ins _ _ => false
  | _ => true
def okFs : List D → Bool
  | [] => true
  | d :: ds => okF d && okFs ds
end

abbrev Env := List (Option D)
inductive R (α : Type) where
  | ok (a : α) (env : Env)
  | exc (c : Nat) (env : Env)
  | no
def R.bind {α β : Type} (r : R α) (f : α → Env → R β) : R β :=
  match r with
  | .ok a env => f a env
  | .exc c env => .exc c env
  | .no => .no
def R.map {α β : Type} (r : R α) (f : α → β) : R β :=
  match r with
  | .ok a env => .ok (f a) env
  | .exc c env => .exc c env
  | .no => .no
/-- no error is let out -/
def R.nx {α : Type} (r : R α) : R α :=
  match r with
  | .ok a env => .ok a env
  | _ => .no
@[simp] theorem R.nx_ok {α : Type} (a : α) (env : Env) : (R.ok a env).nx = .ok a env := rfl
@[simp] theorem R.nx_exc {α : Type} (c : Nat) (env : Env) : (R.exc c env : R α).nx = .no := rfl
@[simp] theorem R.nx_no {α : Type} : (R.no : R α).nx = .no := rfl
@[simp] theorem R.bind_ok {α β : Type} (a : α) (env : Env) (f : α → Env → R β) : (R.ok a env).bind f = f a env := rfl
@[simp] theorem R.bind_exc {α β : Type} (c : Nat) (env : Env) (f : α → Env → R β) : (R.exc c env : R α).bind f = .exc c env := rfl
@[simp] theorem R.bind_no {α β : Type} (f : α → Env → R β) : (R.no : R α).bind f = .no := rfl
@[simp] theorem R.map_ok {α β : Type} (a : α) (env : Env) (f : α → β) : (R.ok a env).map f = .ok (f a) env := rfl
@[simp] theorem R.map_exc {α β : Type} (c : Nat) (env : Env) (f : α → β) : (R.exc c env : R α).map f = .exc c env := rfl
@[simp] theorem R.map_no {α β : Type} (f : α → β) : (R.no : R α).map f = .no := rfl
/-- an answer by values alone -/
def lift {α : Type} (o : Option α) (env : Env) : R α :=
  match o with
  | some a => .ok a env
  | none => .no
@[simp] theorem lift_some {α : Type} (a : α) (env : Env) : lift (some a) env = .ok a env := rfl
@[simp] theorem lift_none {α : Type} (env : Env) : (lift none env : R α) = .no := rfl

/-! ### the language -/
inductive BO where
  | add | sub | mul | fdiv | mod | pow | shl | band | bor | bxor
inductive CO where
  | lt | le | gt | ge | eq | ne | isN | notN | inn | nin
/-- built-in functions -/
inductive BF where
  | len | abs | int1 | list1 | tuple1 | sum1 | max1 | min1 | max2 | min2 | all1 | any1 | sorted1 | repr1 | str1 | dict1 | bool1 | isInt | isBool | isStr | isTup | isLst | isX
/-- words of more than one part: {}, x[::-1], list(range(n)), list(range(a, b)), sum(d.values()) -/
inductive SK where
  | edt | rev | lrng1 | lrng2 | sumv
/-- methods -/
inductive MF where
  | append | pop0 | pop1 | get1 | get2 | index1 | count1 | join1 | clear0 | extend1
mutual
inductive E where
  | var (i : Nat) | mv (i : Nat) | fz (i : Nat) | pth (i k : Nat)
  | cst (d : D) | glo (g : Nat)
  | bin (o : BO) (a b : E) | neg (a : E)
  | cmp (o : CO) (a b : E) | chn (o1 o2 : CO) (a b c : E)
  | and_ (es : Es) | or_ (es : Es) | not_ (a : E) | ite (c a b : E)
  | tup (es : Es) | lst (es : Es) | dct (es : Es) | tdc (a b : E)
  | idx (a b : E) | slc (a lo hi : E) | non
  | call (f : Nat) (es : Es) | blt (b : BF) (es : Es) | sp (k : SK) (es : Es) | met (m : MF) (a : E) (es : Es)
  | lc (own : List Nat) (t : List Nat) (tt : Bool) (it : It) (c : E) (e : E)
inductive Es where
  | nil | cons (e : E) (es : Es)
inductive It where
  | seq (e : E) | rng1 (e : E) | rng2 (a b : E) | enum (e : E) | zip2 (a b : E)
end

inductive S where
  | asg (t : List Nat) (tt : Bool) (e : E)
  | stk (i : Nat) (k e : E)
  | exp (e : E)
  | iff (c : E) (a b : List S)
  | for_ (t : List Nat) (tt : Bool) (it : It) (b : List S)
  | whl (c : E) (b : List S)
  | ret (e : E) | retN | brk | cnt | pss
  | par (i j : Nat) (a b : E) | bad
  /-- raise G('..'); try: b except G as n: i = n -/
  | rse (g : Nat) | tr (b : List S) (g n i : Nat)

/-! ### the operations by values -/
abbrev SZ : Nat := 16777216
def gt : Env → Nat → Option D
  | [], _ => none
  | d :: _, 0 => d
  | _ :: r, i + 1 => gt r i
@[simp] theorem gt_zero (d : Option D) (r : Env) : gt (d :: r) 0 = d := rfl
@[simp] theorem gt_succ (d : Option D) (r : Env) (i : Nat) : gt (d :: r) (i + 1) = gt r i := rfl
@[simp] theorem gt_nil (i : Nat) : gt [] i = none := rfl

inductive Op where
  | val (d : D) | ref (i : Nat) | refp (i k : Nat)
def part (d : Option D) (k : Nat) : Option D :=
  match d with
  | some (.lst true ds) => ds[k]?
  | _ => none
def Op.get (env : Env) : Op → Option D
  | .val d => some d
  | .ref i => gt env i
  | .refp i k => part (gt env i) k

def mulOk (i j : Int) : Bool := decide ((-(2 ^ 64) < i ∧ i < 2 ^ 64) ∨ (-(2 ^ 64) < j ∧ j < 2 ^ 64))
def divOk (j : Int) : Bool := decide (0 < j ∧ j.natAbs.log2 < 9000)
def powOk (i j : Int) : Bool := decide (0 ≤ j ∧ (Builtin.Int.intBits i : Int) * j ≤ 2 ^ 27)
def shlOk (i j : Int) : Bool := decide (0 ≤ j ∧ j ≤ 1000000 ∧ i.natAbs < 2 ^ 64)
def int2 (f : Int → Int → Option D) (a b : D) : Option D :=
  match a with
  | .int i => (match b with | .int j => f i j | _ => none)
  | _ => none
theorem int2_inv {f : Int → Int → Option D} {a b d : D} (h : int2 f a b = some d) : ∃ i j, a = .int i ∧ b = .int j ∧ f i j = some d := by
  unfold int2 at h
  split at h
  · split at h
    · exact ⟨_, _, rfl, rfl, h⟩
    · cases h
  · cases h
@[simp] theorem int2_int (f : Int → Int → Option D) (i j : Int) : int2 f (.int i) (.int j) = f i j := rfl
def dAdd (a b : D) : Option D :=
  match a with
  | .int i => (match b with | .int j => some (.int (i + j)) | _ => none)
  | .str x => (match b with | .str y => if x.length + y.length ≤ SZ then some (.str (x ++ y)) else none | _ => none)
  | .lst _ xs => (match b with | .lst _ ys => if noOwns xs && noOwns ys && decide (xs.length + ys.length ≤ SZ) then some (.lst true (xs ++ ys)) else none | _ => none)
  | .tup xs => (match b with | .tup ys => if noOwns xs && noOwns ys && decide (xs.length + ys.length ≤ SZ) then some (.tup (xs ++ ys)) else none | _ => none)
  | _ => none
def dMul (a b : D) : Option D :=
  match a with
  | .int i => (match b with | .int j => if mulOk i j then some (.int (i * j)) else none | _ => none)
  | .lst _ xs => (match b with | .int k => if noOwns xs && decide (-(2 ^ 63) ≤ k ∧ k < 2 ^ 63 ∧ xs.length * k.toNat ≤ SZ) then some (.lst true (List.replicate k.toNat xs).flatten) else none | _ => none)
  | _ => none
def dBin (o : BO) : D → D → Option D :=
  match o with
  | .add => dAdd
  | .sub => int2 fun i j => some (.int (i - j))
  | .mul => dMul
  | .fdiv => int2 fun i j => if divOk j then some (.int (i / j)) else none
  | .mod => int2 fun i j => if 0 < j then some (.int (i % j)) else none
  | .pow => int2 fun i j => if powOk i j then some (.int (i ^ j.toNat)) else none
  | .shl => int2 fun i j => if shlOk i j then some (.int (i * 2 ^ j.toNat)) else none
  | .band => int2 fun i j => some (.int (Builtin.bitAnd i j))
  | .bor => int2 fun i j => some (.int (Builtin.bitOr i j))
  | .bxor => int2 fun i j => some (.int (Builtin.bitXor i j))
mutual
def isP : D → Bool
  | .non | .bl _ | .int _ | .str _ => true
  | .tup ds => isPs ds
  | .lst _ ds => isPs ds
  | _ => false
def isPs : List D → Bool
  | [] => true
  | d :: ds => isP d && isPs ds
end
abbrev tx (cs : List Nat) : Str := ⟨cs.toArray⟩
mutual
def toP : D → PyData
  | .non => .none
  | .bl b => .bool b
  | .int i => .int i
  | .str cs => .str (tx cs)
  | .tup ds => .tuple (toPs ds)
  | .lst _ ds => .list (toPs ds)
  | _ => .none
def toPs : List D → List PyData
  | [] => []
  | d :: ds => toP d :: toPs ds
end
/-- may be compared -/
def shp (d : D) : Bool := isP d && SeqAt.shaped (toP d)
def deq (x y : D) : Bool := PyData.eqv (toP x) (toP y)
/-- a key: an int or a text -/
def keyOf : D → Option L2.Key
  | .int i => some (.inl i)
  | .str cs => some (.inr (tx cs))
  | _ => none
/-- a dict's value at a key -/
def dGet (ks vs : List D) (k : D) : Option D :=
  match ks, vs with
  | a :: ks, v :: vs => if keyOf a = keyOf k then some v else dGet ks vs k
  | _, _ => none
def dRep (ks vs : List D) (k v : D) : List D :=
  match ks, vs with
  | a :: ks, u :: vs => (if keyOf a = keyOf k then v else u) :: dRep ks vs k v
  | _, _ => []
def dHas (ks : List D) (k : D) : Bool := ks.any fun a => decide (keyOf a = keyOf k)
def dPut (ks vs : List D) (k v : D) : List D × List D :=
  if dHas ks k = true then (ks, dRep ks vs k v) else (ks ++ [k], vs ++ [v])
mutual
/-- a key of any depth: ints, and tuples of keys -/
def nkOf : D → Option NestedKey
  | .int i => some (.num i)
  | .tup ds => (nksOf ds).map .tup
  | _ => none
def nksOf : List D → Option (List NestedKey)
  | [] => some []
  | d :: ds => (nkOf d).bind fun k => (nksOf ds).map (k :: ·)
end
/-- a key that is a tuple -/
def isTK (d : D) : Bool := match nkOf d with | some (.tup ks) => decide (NestedKey.depth (.tup ks) ≤ 8) | _ => false
/-- the same for keys that are tuples -/
def tGet (ks vs : List D) (k : D) : Option D :=
  match ks, vs with
  | a :: ks, v :: vs => if nkOf a = nkOf k then some v else tGet ks vs k
  | _, _ => none
def tRep (ks vs : List D) (k v : D) : List D :=
  match ks, vs with
  | a :: ks, u :: vs => (if nkOf a = nkOf k then v else u) :: tRep ks vs k v
  | _, _ => []
def tHas (ks : List D) (k : D) : Bool := ks.any fun a => decide (nkOf a = nkOf k)
def tPut (ks vs : List D) (k v : D) : List D × List D :=
  if tHas ks k = true then (ks, tRep ks vs k v) else (ks ++ [k], vs ++ [v])
def isFlat : D → Bool
  | .non | .bl _ | .int _ | .str _ => true
  | _ => false
def dIn (x y : D) : Option Bool :=
  match y with
  | .lst _ ds => if shp x && shp y then some (ds.any fun z => deq z x) else none
  | .tup ds => if isFlat x && ds.all isFlat then some (ds.any fun z => deq z x) else none
  | .dic _ ks vs => if (keyOf x).isSome then some (dGet ks vs x).isSome else if isTK x && ks.isEmpty then some false else none
  | .dtp _ ks vs => if isTK x then some (tGet ks vs x).isSome else none
  | .str cs =>
    match x with
    | .str as => some (!(Builtin.Str.occurrences (tx cs) (tx as) 0 (tx cs).length 1).isEmpty)
    | _ => none
  | _ => none
def isNon : D → Bool
  | .non => true
  | _ => false
def dIs (x y : D) : Option Bool :=
  match y with
  | .non => some (isNon x)
  | .bl b => (match x with | .bl a => some (decide (a = b)) | _ => none)
  | _ => none
def int2b (f : Int → Int → Bool) (a b : D) : Option Bool :=
  match a with
  | .int i => (match b with | .int j => some (f i j) | _ => none)
  | _ => none
theorem int2b_inv {f : Int → Int → Bool} {a b : D} {d : Bool} (h : int2b f a b = some d) : ∃ i j, a = .int i ∧ b = .int j ∧ f i j = d := by
  unfold int2b at h
  split at h
  · split at h
    · exact ⟨_, _, rfl, rfl, Option.some.inj h⟩
    · cases h
  · cases h
@[simp] theorem int2b_int (f : Int → Int → Bool) (i j : Int) : int2b f (.int i) (.int j) = some (f i j) := rfl
def isSt : D → Bool
  | .str _ => true
  | _ => false
def dEq (x y : D) : Option Bool := if isSt x && isSt y then some (deq x y) else if shp x && shp y then some (deq x y) else none
def dCmp (o : CO) : D → D → Option Bool :=
  match o with
  | .lt => int2b fun i j => decide (i < j)
  | .le => int2b fun i j => decide (i ≤ j)
  | .gt => int2b fun i j => decide (j < i)
  | .ge => int2b fun i j => decide (j ≤ i)
  | .eq => dEq
  | .ne => fun x y => (dEq x y).map not
  | .isN => dIs
  | .notN => fun x y => (dIs x y).map not
  | .inn => dIn
  | .nin => fun x y => (dIn x y).map not
def own1 (d : D) : Option D := if noOwn d then some d else none
def dIdx (a i : D) : Option D :=
  match a with
  | .lst _ ds => (match i with | .int i => (L2.atI ds i).bind own1 | _ => none)
  | .tup ds => (match i with | .int i => (L2.atI ds i).bind own1 | _ => none)
  | .str cs => (match i with | .int i => if cs.length ≤ SZ then (L2.atI cs i).map fun c => .str [c] else none | _ => none)
  | .dic _ ks vs => if (keyOf i).isSome then (dGet ks vs i).bind own1 else none
  | .dtp _ ks vs => if isTK i then (tGet ks vs i).bind own1 else none
  | _ => none
def cutD {α : Type} (xs : List α) (lo hi : Option Int) : List α := (xs.drop (HT.sIx xs.length 0 lo)).take (HT.sIx xs.length xs.length hi - HT.sIx xs.length 0 lo)
def sPart (e : E) (d : D) : Option (Option Int) :=
  match e with
  | .non => some none
  | _ => match d with
    | .int i => some (some i)
    | _ => none
def dCut (a : D) (lo hi : Option Int) : Option D :=
  match a with
  | .lst _ ds => if noOwns ds then some (.lst true (cutD ds lo hi)) else none
  | .tup ds => if noOwns ds then some (.tup (cutD ds lo hi)) else none
  | .str cs => if cs.length ≤ SZ then some (.str (cutD cs lo hi)) else none
  | _ => none
def dSlc (a : D) (lo hi : Option (Option Int)) : Option D := lo.bind fun l => hi.bind fun h => dCut a l h
def allInts : List D → Option (List Int)
  | [] => some []
  | .int i :: ds => (allInts ds).map (i :: ·)
  | _ => none
def allBls : List D → Option (List Bool)
  | [] => some []
  | .bl i :: ds => (allBls ds).map (i :: ·)
  | _ => none
def allStrs : List D → Option (List (List Nat))
  | [] => some []
  | .str i :: ds => (allStrs ds).map (i :: ·)
  | _ => none
def joinN (S : List Nat) : List (List Nat) → List Nat
  | [] => []
  | [p] => p
  | p :: q :: r => p ++ (S ++ joinN S (q :: r))
/-- tuples of bits, sorted -/
def tupInts : D → Option (List Int)
  | .tup ds => allInts ds
  | _ => none
def allTups : List D → Option (List (List Int))
  | [] => some []
  | d :: ds => (tupInts d).bind fun t => (allTups ds).map (t :: ·)
def tcode : List Int → Int := TS.code 2
def insT (x : List Int) : List (List Int) → List (List Int)
  | [] => [x]
  | y :: r => if tcode x ≤ tcode y then x :: y :: r else y :: insT x r
def sortT : List (List Int) → List (List Int)
  | [] => []
  | x :: r => insT x (sortT r)
def bitsOf (n : Nat) (t : List Int) : Bool := decide (t.length = n) && t.all fun i => decide (0 ≤ i ∧ i < 2)
def lenOf : List (List Int) → Nat
  | [] => 1
  | t :: _ => t.length
/-- the order of data -/
def dle : D → D → Bool := PySem.W.dataLe false toP
def neTup : D → Bool
  | .tup (_ :: _) => true
  | _ => false
def flatS : D → Bool
  | .tup _ => false
  | .non => false
  | _ => true
def notNon : D → Bool
  | .non => false
  | _ => true
def srtOk (ds : List D) : Bool := isPs ds && (noOwns ds && ((ds.all fun a => ds.all fun b => PySem.W.alike (toP a) (toP b)) && ((ds.all fun a => decide ((toP a).depth ≤ 60)) && ((ds.all neTup || ds.all flatS) || (decide (ds.length ≤ 1) && ds.all notNon)))))
def dSrt (ds : List D) : Option D := if srtOk ds then some (.lst true (ds.mergeSort dle)) else none
def dSorted : D → Option D
  | .lst _ ds => dSrt ds
  | .dic _ ks _ => dSrt ks
  | .dtp _ ks _ => dSrt ks
  | _ => none
def pairsD : List D → Option (List (D × D))
  | [] => some []
  | .tup [k, v] :: r => (pairsD r).map ((k, v) :: ·)
  | _ => none
def tPuts (ps : List (D × D)) : List D × List D := ps.foldl (fun a p => tPut a.1 a.2 p.1 p.2) ([], [])
def dDict1 : D → Option D
  | .lst _ ds => (pairsD ds).bind fun ps => if noOwns ds && ps.all (fun p => isTK p.1) then some (.dtp true (tPuts ps).1 (tPuts ps).2) else none
  | _ => none
def imax : List Int → Option Int
  | [] => none
  | a :: r => some (r.foldl max a)
def imin : List Int → Option Int
  | [] => none
  | a :: r => some (r.foldl min a)
def idxI (k : Int) : List Int → Option Nat
  | [] => none
  | a :: r => if a = k then some 0 else (idxI k r).map (· + 1)
def digits (i : Int) : List Nat := (Str.ofString (toString i)).cps.toList
def dLen : D → Option D
  | .lst _ ds => some (.int ds.length)
  | .tup ds => some (.int ds.length)
  | .dic _ ks _ => some (.int ks.length)
  | .dtp _ ks _ => some (.int ks.length)
  | .str cs => if cs.length ≤ SZ then some (.int cs.length) else none
  | _ => none
def dInt : D → Option D
  | .int i => some (.int i)
  | .bl b => some (.int (if b then 1 else 0))
  | _ => none
def dBool : D → Option D
  | .bl b => some (.bl b)
  | .int i => some (.bl (decide (i ≠ 0)))
  | _ => none
def dAbs : D → Option D
  | .int i => some (.int (if i < 0 then -i else i))
  | _ => none
def dList : D → Option D
  | .lst _ ds => if noOwns ds then some (.lst true ds) else none
  | .tup ds => if noOwns ds then some (.lst true ds) else none
  | .dic _ ks _ => if noOwns ks then some (.lst true ks) else none
  | .dtp _ ks _ => if noOwns ks then some (.lst true ks) else none
  | _ => none
def dTuple : D → Option D
  | .lst _ ds => if noOwns ds then some (.tup ds) else none
  | .tup ds => if noOwns ds then some (.tup ds) else none
  | _ => none
def onInts (f : List Int → Option D) : D → Option D
  | .lst _ ds => (allInts ds).bind f
  | _ => none
def onBls (f : List Bool → D) : D → Option D
  | .lst _ ds => (allBls ds).map f
  | _ => none
def dStr : D → Option D
  | .int i => if i.natAbs.log2 < 1920 then some (.str (digits i)) else none
  | _ => none
def dRepr (d : D) : Option D := if isP d && (toP d).showable && decide ((toP d).shown.length ≤ SZ) && decide ((toP d).depth ≤ 64) then some (.str (toP d).shown.cps.toList) else none
/-- of which built-in class -/
inductive Kd where
  | non | bl | int | str | tup | lst | dic
  deriving DecidableEq
def kd : D → Option Kd
  | .non => some .non
  | .bl _ => some .bl
  | .int _ => some .int
  | .str _ => some .str
  | .tup _ => some .tup
  | .lst _ _ => some .lst
  | .dic _ _ _ => some .dic
  | _ => none
/-- the same, of a method's object -/
def kd2 : D → Option Kd
  | .dtp _ _ _ => some .dic
  | d => kd d
def dIsi (ks : List Kd) (d : D) : Option D := (kd d).map fun k => .bl (ks.contains k)
/-- the errors' classes: 0 the module's own, under it 1 to 7, over it the built-in 8 -/
def isSub (c d : Nat) : Bool := c == d || (d == 8 || (d == 0 && decide (c < 8)))
def clsN : D → Option Nat
  | .fn m => if m % 2 = 0 then some (m / 2) else none
  | _ => none
def clsNs : List D → Option (List Nat)
  | [] => some []
  | d :: ds => (clsN d).bind fun c => (clsNs ds).map (c :: ·)
def asksX : D → Option (List Nat)
  | .tup ds => clsNs ds
  | d => (clsN d).map fun c => [c]
def dIsX (x c : D) : Option D :=
  (asksX c).bind fun cs => match x with
    | .non => some (.bl false)
    | .fn n => if n % 2 = 1 then some (.bl (cs.any fun k => isSub (n / 2) k)) else none
    | _ => none
def dBlt (b : BF) (ds : List D) : Option D :=
  match ds with
  | [d] => (match b with
    | .len => dLen d
    | .abs => dAbs d
    | .int1 => dInt d
    | .list1 => dList d
    | .tuple1 => dTuple d
    | .sum1 => onInts (fun ns => some (.int ns.sum)) d
    | .all1 => onBls (fun ns => .bl (ns.all id)) d
    | .any1 => onBls (fun ns => .bl (ns.any id)) d
    | .str1 => dStr d
    | .sorted1 => dSorted d
    | .max1 => onInts (fun ns => (imax ns).map .int) d
    | .min1 => onInts (fun ns => (imin ns).map .int) d
    | .repr1 => dRepr d
    | .dict1 => dDict1 d
    | .bool1 => dBool d
    | .isInt => dIsi [.int, .bl] d
    | .isBool => dIsi [.bl] d
    | .isStr => dIsi [.str] d
    | .isTup => dIsi [.tup] d
    | .isLst => dIsi [.lst] d
    | _ => none)
  | [a, c] => (match b with
    | .max2 => int2 (fun i j => some (.int (if j > i then j else i))) a c
    | .min2 => int2 (fun i j => some (.int (if j < i then j else i))) a c
    | .isX => dIsX a c
    | _ => none)
  | _ => none
def rngD (lo : Int) (n : Nat) : List D := (List.range n).map fun (k : Nat) => .int (lo + (k : Int))
def lrngD (lo hi : Int) : Option D := if hi < 2 ^ 62 ∧ -(2 ^ 62) < hi ∧ lo < 2 ^ 62 ∧ -(2 ^ 62) < lo ∧ hi - lo ≤ SZ then some (.lst true (rngD lo (hi - lo).toNat)) else none
def dRev : D → Option D
  | .lst _ ds => if noOwns ds then some (.lst true ds.reverse) else none
  | _ => none
def dSumV : D → Option D
  | .dtp _ _ vs => (allInts vs).map fun ns => .int ns.sum
  | _ => none
def dSp (k : SK) (ds : List D) : Option D :=
  match k, ds with
  | .edt, [] => some (.dtp true [] [])
  | .rev, [d] => dRev d
  | .lrng1, [.int n] => lrngD 0 n
  | .lrng2, [.int a, .int b] => lrngD a b
  | .sumv, [d] => dSumV d
  | _, _ => none
/-- a method: what it tells, what becomes of its object -/
def dMet (m : MF) (a : D) (ds : List D) : Option (D × D) :=
  match m, ds with
  | .append, [d] => (match a with | .lst true xs => if xs.length < SZ then some (.non, .lst true (xs ++ [d])) else none | _ => none)
  | .pop0, [] => (match a with | .lst true xs => (xs[xs.length - 1]?).map fun d => (d, .lst true xs.dropLast) | _ => none)
  | .pop1, [.int i] => (match a with | .lst true xs => if -(2 ^ 63) ≤ i ∧ i < 2 ^ 63 then (seqIndex? i xs.length).bind fun k => (xs[k]?).map fun d => (d, .lst true (xs.eraseIdx k)) else none | _ => none)
  | .clear0, [] => (match a with | .lst true _ => some (.non, .lst true []) | _ => none)
  | .extend1, [d] => (match a with | .lst true xs => (match d with | .lst _ ys => if noOwns ys && decide (xs.length + ys.length ≤ SZ) then some (.non, .lst true (xs ++ ys)) else none | _ => none) | _ => none)
  | .join1, [d] => (match a with | .str cs => (match d with | .lst _ ys => (allStrs ys).bind fun ss => if (ss.map (·.length)).sum + ss.length * cs.length ≤ SZ then some (.str (joinN cs ss), .str cs) else none | _ => none) | _ => none)
  | .index1, [.int k] => (match a with | .lst o xs => (allInts xs).bind fun ns => (idxI k ns).map fun (j : Nat) => (.int (j : Int), .lst o xs) | _ => none)
  | .count1, [.int k] => (match a with | .lst o xs => (allInts xs).map fun ns => (.int (ns.count k : Nat), .lst o xs) | _ => none)
  | .get1, [k] => (match a with | .dtp o ks vs => if isTK k then (match tGet ks vs k with | none => some (.non, .dtp o ks vs) | some d => (own1 d).map fun d => (d, .dtp o ks vs)) else none | .dic o ks vs => if (keyOf k).isSome then (match dGet ks vs k with | none => some (.non, .dic o ks vs) | some d => (own1 d).map fun d => (d, .dic o ks vs)) else none | _ => none)
  | .get2, [k, x] => (match a with | .dtp o ks vs => if isTK k then (match tGet ks vs k with | none => some (x, .dtp o ks vs) | some d => (own1 d).map fun d => (d, .dtp o ks vs)) else none | .dic o ks vs => if (keyOf k).isSome then (match dGet ks vs k with | none => some (x, .dic o ks vs) | some d => (own1 d).map fun d => (d, .dic o ks vs)) else none | _ => none)
  | _, _ => none
/-- the class that has the method -/
def kdM : MF → Kd
  | .append => .lst | .pop0 => .lst | .pop1 => .lst | .get1 => .dic | .get2 => .dic | .index1 => .lst | .count1 => .lst | .join1 => .str | .clear0 => .lst | .extend1 => .lst
def kdo (m : MF) (d : Option D) : Bool := match d with | some d => kd2 d == some (kdM m) | none => false
/-- d[k] = v, xs[i] = v -/
def dSet (a k v : D) : Option D :=
  match a with
  | .lst true ds => (match k with | .int i => (L2.ixN ds.length i).map fun j => .lst true (ds.set j v) | _ => none)
  | .dic true ks vs => if (keyOf k).isSome && decide (ks.length < SZ) then some (.dic true (dPut ks vs k v).1 (dPut ks vs k v).2) else if isTK k && ks.isEmpty then some (.dtp true [k] [v]) else none
  | .dtp true ks vs => if isTK k && decide (ks.length < SZ) then some (.dtp true (tPut ks vs k v).1 (tPut ks vs k v).2) else none
  | _ => none
/-- what a walk goes through -/
def itemsOf : D → Option (List D)
  | .lst _ ds => if noOwns ds then some ds else none
  | .tup ds => if noOwns ds then some ds else none
  | .str cs => some (cs.map fun c => .str [c])
  | .dtp o ks _ => if !o && noOwns ks then some ks else none
  | _ => none
def wipeE (env : Env) : List Nat → Env
  | [] => env
  | v :: vs => (wipeE env vs).set v none
/-- of a list or a tuple -/
def seqOf : D → Option (List D)
  | .lst _ ds => if noOwns ds then some ds else none
  | .tup ds => if noOwns ds then some ds else none
  | _ => none
def isTp : D → Bool
  | .tup _ => true
  | _ => false
def zip2D (a b : D) : Option (List D × List D) := if isTp a == isTp b then (seqOf a).bind fun x => (seqOf b).map fun y => (x, y) else none
/-- own names back to what they held -/
def backE (old env : Env) : List Nat → Env
  | [] => env
  | v :: vs => (backE old env vs).set v (match gt old v with | some d => if noOwn d then some d else none | none => none)
def setAll : List Nat → List D → Env → Option Env
  | [], [], env => some env
  | i :: is, d :: ds, env => setAll is ds (env.set i (some d))
  | _, _, _ => none
def bindT (t : List Nat) (tt : Bool) (d : D) (env : Env) : Option Env :=
  if tt then (match d with | .tup ds => setAll t ds env | .lst _ ds => setAll t ds env | _ => none)
  else (match t with | [i] => some (env.set i (some d)) | _ => none)

/-! ### what the language means -/
noncomputable section
inductive Fl where
  | next | ret (d : D) | brk | cnt
/-- an operand: a name is looked at where it stands, anything else is given up -/
def opd (a : E) (r : Env → R D) (env : Env) : R Op :=
  match a with
  | .var i => if (gt env i).isSome then .ok (.ref i) env else .no
  | .pth i k => if (part (gt env i) k).isSome then .ok (.refp i k) env else .no
  | _ => (r env).bind fun d e => if okF d then .ok (.val (frz d)) e else .no
/-- an argument of a def: a name is handed on as it is held, and comes back -/
def arg (a : E) (r : Env → R D) (env : Env) : R Op :=
  match a with
  | .var i => if (gt env i).isSome then .ok (.ref i) env else .no
  | _ => (r env).map .val
def putBack : List Op → Env → Env → Env
  | .ref i :: os, d :: ds, env => (putBack os ds env).set i d
  | _ :: os, _ :: ds, env => putBack os ds env
  | _, _, env => env
def hasRef (i : Nat) : List Op → Bool
  | [] => false
  | .ref j :: os => j == i || hasRef i os
  | _ :: os => hasRef i os
/-- no owned thing is handed in twice -/
def apart : List Op → Env → Bool
  | [], _ => true
  | .ref i :: os, env => ((match gt env i with | some d => noOwn d | none => true) || !hasRef i os) && apart os env
  | _ :: os, env => apart os env
/-- the walk of a comprehension: the tests, the element -/
def lcL (own : List Nat) (t : List Nat) (tt : Bool) (chk : Env → Prop) (c : Env → R D) (e : Env → R D) : List D → List D → Env → R (List D)
  | [], acc, env => open Classical in
    if chk env then .ok acc env else .no
  | d :: ds, acc, env => open Classical in
    if chk env then
      match bindT t tt d env with
      | none => .no
      | some e1 => (c e1).nx.bind fun b e2 =>
        match b with
        | .bl true => (e e2).nx.bind fun x e3 => if okF x then lcL own t tt chk c e ds (acc ++ [frz x]) (wipeE e3 own) else .no
        | .bl false => lcL own t tt chk c e ds acc (wipeE e2 own)
        | _ => .no
    else .no
/-- what is walked, and what must stay meanwhile -/
structure Src where
  items : List D
  chk : Env → Prop
def opChk (o : Op) (env : Env) : Env → Prop :=
  match o with
  | .ref i => fun e => gt e i = gt env i
  | _ => fun _ => True
def enumD : Nat → List D → List D
  | _, [] => []
  | k, d :: ds => .tup [.int k, d] :: enumD (k + 1) ds
def zipD : List D → List D → List D
  | a :: as, b :: bs => .tup [a, b] :: zipD as bs
  | _, _ => []
def opRef (o : Op) : Bool := match o with | .refp _ _ => false | _ => true
/-- the operands' values -/
def gets (env : Env) : List Op → Option (List D)
  | [] => some []
  | o :: os => match o.get env, gets env os with
    | some d, some ds => some (d :: ds)
    | _, _ => none
/-- an operation on operands -/
def on1 (f : D → Option D) (x : Op) (env : Env) : R D := match x.get env with | some a => lift (f a) env | none => .no
def on2 (f : D → D → Option D) (x y : Op) (env : Env) : R D := match x.get env, y.get env with | some a, some b => lift (f a b) env | _, _ => .no
def on3 (f : D → D → D → Option D) (x y z : Op) (env : Env) : R D := match x.get env, y.get env, z.get env with | some a, some b, some c => lift (f a b c) env | _, _, _ => .no
def dNeg : D → Option D
  | .int i => some (.int (-i))
  | _ => none

variable (Q : Nat → List D → R D) (G : Nat → D)
mutual
def eval : E → Env → R D
  | .var i, env => match gt env i with
    | some d => if noOwn d then .ok d env else if okF d then .ok (frz d) (env.set i (some (frz d))) else .no
    | none => .no
  | .fz i, env => match gt env i with
    | some d => if noOwn d then .ok d env else if okF d then .ok (frz d) (env.set i (some (frz d))) else .no
    | none => .no
  | .mv i, env => match gt env i with
    | some d => .ok d (env.set i none)
    | none => .no
  | .pth i k, env => match part (gt env i) k with
    | some d => if noOwn d then .ok d env else .no
    | none => .no
  | .cst d, env => .ok d env
  | .glo g, env => .ok (G g) env
  | .bin o a b, env => (opd a (eval a) env).bind fun x e1 => (opd b (eval b) e1).bind fun y e2 => on2 (dBin o) x y e2
  | .neg a, env => (opd a (eval a) env).bind fun x e1 => on1 dNeg x e1
  | .cmp o a b, env => (opd a (eval a) env).bind fun x e1 => (opd b (eval b) e1).bind fun y e2 => on2 (fun p q => (dCmp o p q).map .bl) x y e2
  | .chn o1 o2 a b c, env => (opd a (eval a) env).bind fun x e1 => (opd b (eval b) e1).bind fun y e2 => (on2 (fun p q => (dCmp o1 p q).map .bl) x y e2).bind fun d e3 =>
    match d with
    | .bl true => (opd c (eval c) e3).bind fun z e4 => on2 (fun p q => (dCmp o2 p q).map .bl) y z e4
    | .bl false => .ok (.bl false) e3
    | _ => .no
  | .and_ es, env => evalAnd es env
  | .or_ es, env => evalOr es env
  | .not_ a, env => (eval a env).bind fun d e1 => match d with | .bl b => .ok (.bl (!b)) e1 | _ => .no
  | .ite c a b, env => (eval c env).bind fun d e1 => match d with | .bl true => eval a e1 | .bl false => eval b e1 | _ => .no
  | .tup es, env => (evals es env).bind fun ds e1 => .ok (.tup ds) e1
  | .lst es, env => (evals es env).bind fun ds e1 => .ok (.lst true ds) e1
  | .dct es, env => evalDct es [] [] env
  | .tdc a b, env => (eval a env).bind fun k e1 => (eval b e1).bind fun v e2 => if isTK k && okF v then .ok (.dtp true [k] [frz v]) e2 else .no
  | .idx a b, env => (opd a (eval a) env).bind fun x e1 => (opd b (eval b) e1).bind fun y e2 => on2 dIdx x y e2
  | .slc a lo hi, env => (opd a (eval a) env).bind fun x e1 => (eval lo e1).bind fun y e2 => if (sPart lo y).isSome then (eval hi e2).bind fun z e3 => (if (sPart hi z).isSome then on1 (fun p => dSlc p (sPart lo y) (sPart hi z)) x e3 else .no) else .no
  | .non, env => .ok .non env
  | .call f es, env => (evalArgs es env).bind fun os e1 =>
    if apart os e1 then
      match gets e1 os with
      | some ds =>
        match Q f ds with
        | .ok d outs => .ok d (putBack os outs e1)
        | .exc c outs => .exc c (putBack os outs e1)
        | .no => .no
      | none => .no
    else .no
  | .sp k es, env => (evalOps es env).bind fun os e1 => match gets e1 os with | some ds => lift (dSp k ds) e1 | none => .no
  | .blt b es, env => (evalOps es env).bind fun os e1 => match gets e1 os with | some ds => lift (dBlt b ds) e1 | none => .no
  | .met m a es, env =>
    match a with
    | .var i => if kdo m (gt env i) then (evalFs es env).bind fun ds e1 =>
        match gt e1 i with
        | some o => match dMet m o ds with | some (d, x) => .ok d (e1.set i (some x)) | none => .no
        | none => .no
      else .no
    | .pth i k => if kdo m (part (gt env i) k) then (evalFs es env).bind fun ds e1 =>
        match gt e1 i with
        | some (.lst true xs) =>
          match xs[k]? with
          | some o => match dMet m o ds with | some (d, x) => .ok d (e1.set i (some (.lst true (xs.set k x)))) | none => .no
          | none => .no
        | _ => .no
      else .no
    | _ => (eval a env).bind fun p e1 => if kdo m (some p) && okF p then (evalFs es e1).bind fun ds e2 =>
        match dMet m (frz p) ds with | some (d, _) => .ok d e2 | none => .no
      else .no
  | .lc own t tt it c e, env => (evalIt it env).bind fun s e1 =>
    if s.items.length ≤ SZ then (lcL own t tt s.chk (eval c) (eval e) s.items [] (wipeE e1 own)).bind fun ds e2 => .ok (.lst true ds) (backE e1 e2 own) else .no
def evals : Es → Env → R (List D)
  | .nil, env => .ok [] env
  | .cons e es, env => (eval e env).bind fun d e1 => (evals es e1).bind fun ds e2 => .ok (d :: ds) e2
def evalFs : Es → Env → R (List D)
  | .nil, env => .ok [] env
  | .cons e es, env => (eval e env).bind fun d e1 => if okF d then (evalFs es e1).bind fun ds e2 => .ok (frz d :: ds) e2 else .no
def evalArgs : Es → Env → R (List Op)
  | .nil, env => .ok [] env
  | .cons e es, env => (arg e (eval e) env).bind fun d e1 => (evalArgs es e1).bind fun ds e2 => .ok (d :: ds) e2
def evalOps : Es → Env → R (List Op)
  | .nil, env => .ok [] env
  | .cons e es, env => (opd e (eval e) env).bind fun d e1 => (evalOps es e1).bind fun ds e2 => .ok (d :: ds) e2
def evalAnd : Es → Env → R D
  | .nil, _ => .no
  | .cons e .nil, env => eval e env
  | .cons e es, env => (eval e env).bind fun d e1 => match d with | .bl true => evalAnd es e1 | .bl false => .ok (.bl false) e1 | _ => .no
def evalOr : Es → Env → R D
  | .nil, _ => .no
  | .cons e .nil, env => eval e env
  | .cons e es, env => (eval e env).bind fun d e1 => match d with | .bl false => evalOr es e1 | .bl true => .ok (.bl true) e1 | _ => .no
def evalDct : Es → List D → List D → Env → R D
  | .nil, ks, vs, env => .ok (.dic true ks vs) env
  | .cons k (.cons v es), ks, vs, env => (eval k env).bind fun a e1 => (eval v e1).bind fun b e2 =>
    if (keyOf a).isSome && okF b then evalDct es (dPut ks vs a (frz b)).1 (dPut ks vs a (frz b)).2 e2 else .no
  | .cons _ .nil, _, _, _ => .no
def evalIt : It → Env → R Src
  | .seq e, env => (opd e (eval e) env).bind fun o e1 => lift (((o.get e1).bind itemsOf).map fun ds => ⟨ds, opChk o e1⟩) e1
  | .rng1 e, env => (eval e env).bind fun d e1 => match d with | .int n => if n < 2 ^ 62 ∧ -(2 ^ 62) < n then .ok ⟨rngD 0 n.toNat, fun _ => True⟩ e1 else .no | _ => .no
  | .rng2 a b, env => (eval a env).bind fun x e1 => (eval b e1).bind fun y e2 => match x, y with
    | .int lo, .int hi => if hi < 2 ^ 62 ∧ -(2 ^ 62) < hi ∧ lo < 2 ^ 62 ∧ -(2 ^ 62) < lo then .ok ⟨rngD lo (hi - lo).toNat, fun _ => True⟩ e2 else .no
    | _, _ => .no
  | .enum e, env => (opd e (eval e) env).bind fun o e1 => lift (((o.get e1).bind seqOf).map fun ds => ⟨enumD 0 ds, opChk o e1⟩) e1
  | .zip2 a b, env => (opd a (eval a) env).bind fun x e1 => (opd b (eval b) e1).bind fun y e2 =>
    lift (((x.get e2).bind fun a => (y.get e2).bind fun b => zip2D a b).map fun p => ⟨zipD p.1 p.2, fun e => opChk x e2 e ∧ opChk y e2 e⟩) e2
end
def forL (t : List Nat) (tt : Bool) (chk : Env → Prop) (b : Env → R Fl) : List D → Env → R Fl
  | [], env => open Classical in
    if chk env then .ok .next env else .no
  | d :: ds, env => open Classical in
    if chk env then
      match bindT t tt d env with
      | none => .no
      | some e1 => (b e1).bind fun f e2 =>
        match f with
        | .next => forL t tt chk b ds e2
        | .cnt => forL t tt chk b ds e2
        | .brk => .ok .next e2
        | .ret d => .ok (.ret d) e2
    else .no
def whlL (c : Env → R D) (b : Env → R Fl) : Nat → Env → R Fl
  | 0, _ => .no
  | n + 1, env => (c env).bind fun d e1 =>
    match d with
    | .bl true => (b e1).bind fun f e2 =>
      match f with
      | .next => whlL c b n e2
      | .cnt => whlL c b n e2
      | .brk => .ok .next e2
      | .ret d => .ok (.ret d) e2
    | .bl false => .ok .next e1
    | _ => .no
/-- an error let out -/
def rseR (d : D) (env : Env) : R Fl := match d with
  | .fn m => if m % 2 = 0 ∧ m / 2 < 8 then .exc (m / 2) env else .no
  | _ => .no
/-- an error caught: it is kept at i, its own name n is gone -/
def tryR (d : D) (n i : Nat) (r : R Fl) : R Fl := match r with
  | .ok f e => .ok f e
  | .exc c e => (match d with
    | .fn m => if m = 0 ∧ c < 8 ∧ i < e.length ∧ n < e.length then .ok .next ((e.set i (some (.fn (2 * c + 1)))).set n none) else .no
    | _ => .no)
  | .no => .no
variable (fu : Nat)
mutual
def exec : S → Env → R Fl
  | .asg t tt e, env => (eval Q G e env).bind fun d e1 => match bindT t tt d e1 with | some e2 => .ok .next e2 | none => .no
  | .stk i k e, env => (eval Q G e env).bind fun d e1 => if okF d && (gt e1 i).isSome then (eval Q G k e1).bind fun o e2 =>
      match gt e2 i with
      | some a => match dSet a o (frz d) with | some x => .ok .next (e2.set i (some x)) | none => .no
      | none => .no
    else .no
  | .exp e, env => (eval Q G e env).bind fun _ e1 => .ok .next e1
  | .iff c a b, env => (eval Q G c env).bind fun d e1 => match d with | .bl true => execs a e1 | .bl false => execs b e1 | _ => .no
  | .for_ t tt it b, env => (evalIt Q G it env).bind fun s e1 => forL t tt s.chk (fun e => execs b e) s.items e1
  | .whl c b, env => whlL (eval Q G c) (fun e => execs b e) fu env
  | .ret e, env => (eval Q G e env).bind fun d e1 => .ok (.ret d) e1
  | .retN, env => .ok (.ret .non) env
  | .brk, env => .ok .brk env
  | .cnt, env => .ok .cnt env
  | .pss, env => .ok .next env
  | .par i j a b, env => (evals Q G (.cons a (.cons b .nil)) env).bind fun ds e1 => match ds with | [x, y] => .ok .next ((e1.set i (some x)).set j (some y)) | _ => .no
  | .bad, _ => .no
  | .rse g, env => rseR (G g) env
  | .tr b g n i, env => tryR (G g) n i (execs b env)
def execs : List S → Env → R Fl
  | [], env => .ok .next env
  | s :: ss, env => (exec s env).bind fun f e1 => match f with | .next => execs ss e1 | f => .ok f e1
end
end
end AW

/-! AWExc: the errors' classes, by number; what the module must say of them. An even .fn is a class, an odd one an error of it. -/
namespace AW
open PySem L2 PyProof.Rows

/-- the classes by number; the eighth is the built-in one -/
def exN (c : Nat) : Str := (["WideError", "NoPair", "NoRow", "NoRule", "NoName", "TooMany", "Nothing", "NoText"] : List Str).getD c "WideError"
def exA (K : PySem.W.Frag) (c : Nat) : Addr := He.ga K (exN c)
/-- the class is one of the module's -/
def KN (K : PySem.W.Frag) (c : Nat) : Prop := (c < 8 ∧ PySem.W.nsIn K mainGlobals (exN c) = some (some (.ref (exA K c)))) ∨ c = 8
def clsU (K : PySem.W.Frag) (c : Nat) : Value := if c < 8 then .ref (exA K c) else .type "ValueError"
def clsV (K : PySem.W.Frag) (c : Nat) : V := if c < 8 then .ref (exA K c) else .ty "ValueError"
structure EX1 (K : PySem.W.Frag) (C : Addr) : Prop where
  exc : PySem.W.excIn K C He.veBase "ValueError.__new__" = true
  keep : PySem.W.keepIn K (.ref C) = true
  sub : PySem.W.subIn K (.ref C) (.type "BaseException") = some true
  typ : PySem.W.typeIn K (.ref C) = some (.type "type")
  is : ExcC K C
structure EX (K : PySem.W.Frag) : Prop where
  one : ∀ c, c < 8 → KN K c → EX1 K (exA K c)
  two : ∀ c d, c < 8 → KN K c → KN K d → PySem.W.kitOne K (.ref (exA K c)) (clsU K d) = some (isSub c d)
  non : ∀ d, KN K d → PySem.W.kitOne K (.type "NoneType") (clsU K d) = some false
  top : ∀ c, c < 8 → KN K c → PySem.W.exmOne K (.ref (exA K c)) (.ref (exA K 0)) = some true
theorem clsUV {K : PySem.W.Frag} {c : Nat} {u : Value} (h : RelV (clsV K c) u) : u = clsU K c := by
  unfold clsV at h
  unfold clsU
  by_cases e : c < 8
  · rw [if_pos e] at h ⊢
    exact h
  · rw [if_neg e] at h ⊢
    exact h
/-- an error that was caught -/
def exV (cls : Value) (a : Addr) : HO := .ext fun h => ∃ (oe : Obj) (vs : Array Value), h.get? a = some oe ∧ Zc cls none oe ∧ oe.data = .fields vs
theorem exV_ok {P : Program} {w : World} {H : Hp} {h : Heap} {a : Addr} {cls : Value} {oe : Obj} {vs : Array Value} (e : h.get? a = some oe) (z : Zc cls none oe) (d : oe.data = .fields vs) : ObjOk P w H h a (exV cls a) :=
  ⟨⟨oe, vs, e, z, d⟩, ⟨oe, e⟩, fun _ _ ⟨o, v, q, r⟩ k => ⟨o, v, k o q, r⟩⟩
/-- what an .fn stands for -/
def FnR (K : PySem.W.Frag) (F : Hp) (n : Nat) (v : V) : Prop := EX K ∧ KN K (n / 2) ∧ (n % 2 = 0 → v = clsV K (n / 2)) ∧ (n % 2 = 1 → ∃ p, v = .ref p ∧ F p = some (exV (.ref (exA K (n / 2))) p) ∧ n / 2 < 8)
theorem FnR.mono {K : PySem.W.Frag} {F F' : Hp} {n : Nat} {v : V} (h : FnR K F n v) (e : ∀ a o, F a = some o → F' a = some o) : FnR K F' n v :=
  ⟨h.1, h.2.1, h.2.2.1, fun z => by
    obtain ⟨p, e1, e2, e3⟩ := h.2.2.2 z
    exact ⟨p, e1, e _ _ e2, e3⟩⟩
theorem FnR.ne {K : PySem.W.Frag} {F : Hp} {n : Nat} {v : V} (h : FnR K F n v) : v ≠ .non := by
  obtain ⟨_, _, h1, h2⟩ := h
  rcases Nat.mod_two_eq_zero_or_one n with e | e
  · rw [h1 e]
    unfold clsV
    split <;> exact fun z => by cases z
  · obtain ⟨p, e2, _⟩ := h2 e
    rw [e2]
    exact fun z => by cases z
/-- what a name of the module holds; the built-in class, where the module does not name it -/
def GlV (mg : Str → Option Value) (x : Str) (d : D) (u : Value) : Prop := mg x = some u ∨ (d = .fn 16 ∧ mg x = none ∧ bootBuiltins x = some u ∧ x ≠ "__name__")
end AW

/-! AWRel: what a value stands for, over the abstract heap. F: what is given up (never changed any more), S: the addresses of what is owned. -/
namespace AW
open PySem L2

abbrev AS := Addr → Prop
def Sub (S T : AS) : Prop := ∀ a, S a → T a
def Dj (S T : AS) : Prop := ∀ a, S a → T a → False
def Un2 (S T : AS) : AS := fun a => S a ∨ T a
abbrev No : AS := fun _ => False
def Ex (H H' : Hp) : Prop := ∀ a o, H a = some o → H' a = some o
theorem Ex.refl (H : Hp) : Ex H H := fun _ _ h => h
theorem Ex.trans {H H1 H2 : Hp} (a : Ex H H1) (b : Ex H1 H2) : Ex H H2 := fun x o h => b x o (a x o h)
theorem Ex.new {H : Hp} {p : Addr} {o : HO} (h : H p = none) : Ex H (upd H p o) := fun a u e => by
  rw [upd_ne (ne_of_none e h)]
  exact e
theorem ex_rd {H H' : Hp} {a : Addr} {u : HO} (e : Ex H H') (h : Rd H a u) : Rd H' a u := by
  rcases h with h | ⟨o, h⟩
  · exact Or.inl (e a _ h)
  · exact Or.inr ⟨o, e a _ h⟩
theorem ex_l {K : PySem.W.Frag} {H H' : Hp} {a : Addr} {xs : List V} (e : Ex H H') (h : SqL K H a xs) : SqL K H' a xs := by
  rcases h with h | h
  · exact Or.inl (ex_rd e h)
  · exact Or.inr h
/-- tuples stand -/
def Tu (H H' : Hp) : Prop := ∀ a xs, Rd H a (.tup xs) → Rd H' a (.tup xs)
theorem Tu.refl (H : Hp) : Tu H H := fun _ _ h => h
theorem Tu.trans {H H1 H2 : Hp} (a : Tu H H1) (b : Tu H1 H2) : Tu H H2 := fun x o h => b x o (a x o h)
theorem Ex.tu {H H' : Hp} (e : Ex H H') : Tu H H' := fun _ _ h => ex_rd e h
theorem tu_t {K : PySem.W.Frag} {H H' : Hp} {a : Addr} {xs : List V} (e : Tu H H') (h : SqT K H a xs) : SqT K H' a xs := by
  rcases h with h | h
  · exact Or.inl (e _ _ h)
  · exact Or.inr h
/-- a list or dict changed: tuples stand -/
theorem Tu.upd {H : Hp} {p : Addr} {o u : HO} (h : H p = some u) (hu : ∀ xs, u ≠ .tup xs) (hf : ∀ ob xs, u ≠ .frz ob xs) : Tu H (upd H p o) := fun a xs r => by
  rcases r with r | ⟨ob, r⟩
  · have n : a ≠ p := fun e => by rw [e, h] at r; exact hu _ (Option.some.inj r)
    exact Or.inl (by rw [upd_ne n]; exact r)
  · have n : a ≠ p := fun e => by rw [e, h] at r; exact hf _ _ (Option.some.inj r)
    exact Or.inr ⟨ob, by rw [upd_ne n]; exact r⟩

/-- an entry of a table whose keys are tuples of whole numbers -/
def entryN (w : World) (x : NestedKey × Addr × Value) : DictEntry := ⟨x.1.hash w, .ref x.2.1, x.2.2⟩
/-- a dict whose keys are tuples, by its own object alone -/
def tab (p : Addr) (ep : Nat) (xs : List (NestedKey × Addr × Value)) : HO := .ext fun h => ∃ o es, h.get? p = some o ∧ o.ExactDict ∧ o.data = .dict es ep ∧ ∀ w : World, es.toList = xs.map (entryN w)
def kref (x : NestedKey × Addr × Value) : V := .ref x.2.1
structure KtOk (p : Addr) (ks : List D) (xs : List (NestedKey × Addr × Value)) : Prop where
  ns : ks.map nkOf = xs.map fun x => some x.1
  nd : (xs.map (·.1)).Nodup
  sz : xs.length ≤ sizeLine
  sm : (p == sysModules) = false
  dp : ∀ x ∈ xs, x.1.depth ≤ 8
def KsOk (ks : List D) (kk : List Key) : Prop := ks.map keyOf = kk.map some
section
variable (K : PySem.W.Frag) (F H : Hp)
mutual
def Rp : D → V → AS → Prop
  | .non, v, _ => v = .non
  | .bl b, v, _ => v = .bl b
  | .int i, v, _ => v = .int i
  | .str cs, v, _ => v = .str (tx cs)
  | .tup ds, v, S => ∃ p vs, v = .ref p ∧ SqT K H p vs ∧ RpL ds vs S
  | .lst o ds, v, S => ∃ p vs, v = .ref p ∧ (if o = true then S p ∧ H p = some (.lst vs) else SqL K F p vs) ∧ RpL ds vs (fun a => S a ∧ (o = true → a ≠ p))
  | .dic o ks ds, v, S => ∃ p kvs, v = .ref p ∧ (if o = true then S p ∧ H p = some (.dK kvs) else F p = some (.dK kvs)) ∧ KsOk ks (kvs.map (·.1)) ∧ RpL ds (kvs.map (·.2)) (fun a => S a ∧ (o = true → a ≠ p))
  | .dtp o ks ds, v, S => ∃ p ep xs us, v = .ref p ∧ (if o = true then S p ∧ H p = some (tab p ep xs) else F p = some (tab p ep xs)) ∧ KtOk p ks xs ∧ Vals us (xs.map (·.2.2)) ∧ RpL ks (xs.map kref) No ∧ RpL ds us (fun a => S a ∧ (o = true → a ≠ p))
  | .ins _ _, _, _ => False
  | .fn n, v, _ => FnR K F n v
def RpL : List D → List V → AS → Prop
  | [], vs, _ => vs = []
  | d :: ds, vs, S => ∃ v r S1 S2, vs = v :: r ∧ Sub S1 S ∧ Sub S2 S ∧ Dj S1 S2 ∧ Rp d v S1 ∧ RpL ds r S2
end
end

section
variable {K : PySem.W.Frag} {F F' H H' : Hp}
mutual
theorem Rp.mono (eF : Ex F F') (tu : Tu H H') : ∀ (d : D) (v : V) (S S' : AS), Sub S S' → (∀ a o, S a → H a = some o → H' a = some o) → Rp K F H d v S → Rp K F' H' d v S'
  | .non, _, _, _, _, _, h => h
  | .bl _, _, _, _, _, _, h => h
  | .int _, _, _, _, _, _, h => h
  | .str _, _, _, _, _, _, h => h
  | .ins _ _, _, _, _, _, _, h => h
  | .fn _, _, _, _, _, _, h => FnR.mono h eF
  | .tup ds, v, S, S', hs, k, h => by
    obtain ⟨p, vs, e, ht, hl⟩ := h
    exact ⟨p, vs, e, tu_t tu ht, RpL.mono eF tu ds vs S S' hs k hl⟩
  | .lst o ds, v, S, S', hs, k, h => by
    obtain ⟨p, vs, e, ht, hl⟩ := h
    refine ⟨p, vs, e, ?_, RpL.mono eF tu ds vs _ _ (fun a q => ⟨hs a q.1, q.2⟩) (fun a o q => k a o q.1) hl⟩
    cases o with
    | true =>
      rw [if_pos rfl] at ht ⊢
      exact ⟨hs _ ht.1, k _ _ ht.1 ht.2⟩
    | false =>
      rw [if_neg (by decide)] at ht ⊢
      exact ex_l eF ht
  | .dic o ks ds, v, S, S', hs, k, h => by
    obtain ⟨p, kvs, e, ht, hk, hl⟩ := h
    refine ⟨p, kvs, e, ?_, hk, RpL.mono eF tu ds _ _ _ (fun a q => ⟨hs a q.1, q.2⟩) (fun a o q => k a o q.1) hl⟩
    cases o with
    | true =>
      rw [if_pos rfl] at ht ⊢
      exact ⟨hs _ ht.1, k _ _ ht.1 ht.2⟩
    | false =>
      rw [if_neg (by decide)] at ht ⊢
      exact eF _ _ ht
  | .dtp o ks ds, v, S, S', hs, k, h => by
    obtain ⟨p, ep, xs, us, e, ht, hk, hu, hkl, hl⟩ := h
    refine ⟨p, ep, xs, us, e, ?_, hk, hu, RpL.mono eF tu ks _ _ _ (fun _ q => q) (fun _ _ q => q.elim) hkl, RpL.mono eF tu ds _ _ _ (fun a q => ⟨hs a q.1, q.2⟩) (fun a o q => k a o q.1) hl⟩
    cases o with
    | true =>
      rw [if_pos rfl] at ht ⊢
      exact ⟨hs _ ht.1, k _ _ ht.1 ht.2⟩
    | false =>
      rw [if_neg (by decide)] at ht ⊢
      exact eF _ _ ht
theorem RpL.mono (eF : Ex F F') (tu : Tu H H') : ∀ (ds : List D) (vs : List V) (S S' : AS), Sub S S' → (∀ a o, S a → H a = some o → H' a = some o) → RpL K F H ds vs S → RpL K F' H' ds vs S'
  | [], _, _, _, _, _, h => h
  | d :: ds, vs, S, S', hs, k, h => by
    obtain ⟨v, r, S1, S2, e, s1, s2, dj, h1, h2⟩ := h
    exact ⟨v, r, S1, S2, e, fun a q => hs a (s1 a q), fun a q => hs a (s2 a q), dj, Rp.mono eF tu d v S1 S1 (fun _ q => q) (fun a o q => k a o (s1 a q)) h1, RpL.mono eF tu ds r S2 S2 (fun _ q => q) (fun a o q => k a o (s2 a q)) h2⟩
end
mutual
/-- nothing owned: no addresses needed -/
theorem Rp.free : ∀ (d : D) (v : V) (S : AS), noOwn d = true → Rp K F H d v S → Rp K F H d v No
  | .non, _, _, _, h => h
  | .bl _, _, _, _, h => h
  | .int _, _, _, _, h => h
  | .str _, _, _, _, h => h
  | .ins _ _, _, _, _, h => h
  | .fn _, _, _, _, h => h
  | .tup ds, v, S, n, h => by
    obtain ⟨p, vs, e, ht, hl⟩ := h
    exact ⟨p, vs, e, ht, RpL.free ds vs S n hl⟩
  | .lst o ds, v, S, n, h => by
    obtain ⟨p, vs, e, ht, hl⟩ := h
    rw [noOwn, Bool.and_eq_true] at n
    obtain ⟨n1, n2⟩ := n
    cases o with
    | true => cases n1
    | false =>
      rw [if_neg (by decide)] at ht
      refine ⟨p, vs, e, by rw [if_neg (by decide)]; exact ht, ?_⟩
      exact RpL.mono (Ex.refl F) (Tu.refl H) ds vs No _ (fun _ q => q.elim) (fun _ _ q => q.elim) (RpL.free ds vs _ n2 hl)
  | .dic o ks ds, v, S, n, h => by
    obtain ⟨p, vs, e, ht, hk, hl⟩ := h
    rw [noOwn, Bool.and_eq_true, Bool.and_eq_true] at n
    obtain ⟨n1, n2, n3⟩ := n
    cases o with
    | true => cases n1
    | false =>
      rw [if_neg (by decide)] at ht
      refine ⟨p, vs, e, by rw [if_neg (by decide)]; exact ht, hk, ?_⟩
      exact RpL.mono (Ex.refl F) (Tu.refl H) ds _ No _ (fun _ q => q.elim) (fun _ _ q => q.elim) (RpL.free ds _ _ n3 hl)
  | .dtp o ks ds, v, S, n, h => by
    obtain ⟨p, ep, xs, us, e, ht, hk, hu, hkl, hl⟩ := h
    rw [noOwn, Bool.and_eq_true, Bool.and_eq_true] at n
    obtain ⟨n1, n2, n3⟩ := n
    cases o with
    | true => cases n1
    | false =>
      rw [if_neg (by decide)] at ht
      refine ⟨p, ep, xs, us, e, by rw [if_neg (by decide)]; exact ht, hk, hu, hkl, ?_⟩
      exact RpL.mono (Ex.refl F) (Tu.refl H) ds _ No _ (fun _ q => q.elim) (fun _ _ q => q.elim) (RpL.free ds _ _ n3 hl)
theorem RpL.free : ∀ (ds : List D) (vs : List V) (S : AS), noOwns ds = true → RpL K F H ds vs S → RpL K F H ds vs No
  | [], _, _, _, h => h
  | d :: ds, vs, S, n, h => by
    obtain ⟨v, r, S1, S2, e, s1, s2, dj, h1, h2⟩ := h
    rw [noOwns, Bool.and_eq_true] at n
    exact ⟨v, r, No, No, e, fun _ q => q, fun _ q => q, fun _ q _ => q, Rp.free d v S1 n.1 h1, RpL.free ds r S2 n.2 h2⟩
end
/-- given up: what is owned within goes to F -/
noncomputable def addF (F H : Hp) (S : AS) : Hp := fun a => open Classical in if S a then H a else F a
theorem addF_ex (e : Ex F H) (S : AS) : Ex F (addF F H S) := fun a o h => by
  unfold addF
  split
  · exact e a o h
  · exact h
theorem addF_sub (e : Ex F H) (S : AS) : Ex (addF F H S) H := fun a o h => by
  unfold addF at h
  split at h
  · exact h
  · exact e a o h
theorem addF_at {S : AS} {a : Addr} (h : S a) : addF F H S a = H a := by
  unfold addF
  exact if_pos h
theorem addF_none {S : AS} {a : Addr} (h : ¬ S a) : addF F H S a = F a := by
  unfold addF
  exact if_neg h
mutual
theorem frz_noOwn : ∀ d : D, okF d = true → noOwn (frz d) = true
  | .non, _ => rfl
  | .bl _, _ => rfl
  | .int _, _ => rfl
  | .str _, _ => rfl
  | .ins _ _, h => h
  | .fn _, _ => rfl
  | .tup ds, h => frzs_noOwn ds h
  | .lst o ds, h => by
    show (!false && noOwns (frzs ds)) = true
    rw [frzs_noOwn ds h]
    rfl
  | .dic o ks vs, h => by
    rw [okF, Bool.and_eq_true] at h
    show (!false && (noOwns (frzs ks) && noOwns (frzs vs))) = true
    rw [frzs_noOwn ks h.1, frzs_noOwn vs h.2]
    rfl
  | .dtp o ks vs, h => by
    rw [okF, Bool.and_eq_true] at h
    show (!false && (noOwns (frzs ks) && noOwns (frzs vs))) = true
    rw [frzs_noOwn ks h.1, frzs_noOwn vs h.2]
    rfl
theorem frzs_noOwn : ∀ ds : List D, okFs ds = true → noOwns (frzs ds) = true
  | [], _ => rfl
  | d :: ds, h => by
    rw [okFs, Bool.and_eq_true] at h
    show (noOwn (frz d) && noOwns (frzs ds)) = true
    rw [frz_noOwn d h.1, frzs_noOwn ds h.2]
    rfl
end
theorem keyOf_frz : ∀ d : D, keyOf (frz d) = keyOf d
  | .non => rfl
  | .bl _ => rfl
  | .int _ => rfl
  | .str _ => rfl
  | .ins _ _ => rfl
  | .fn _ => rfl
  | .tup ds => rfl
  | .lst o ds => rfl
  | .dic o ks vs => rfl
  | .dtp o ks vs => rfl
mutual
theorem nkOf_frz : ∀ d : D, nkOf (frz d) = nkOf d
  | .non => rfl
  | .bl _ => rfl
  | .int _ => rfl
  | .str _ => rfl
  | .ins _ _ => rfl
  | .fn _ => rfl
  | .tup ds => by
    show (nksOf (frzs ds)).map NestedKey.tup = (nksOf ds).map .tup
    rw [nksOf_frz ds]
  | .lst o ds => rfl
  | .dic o ks vs => rfl
  | .dtp o ks vs => rfl
theorem nksOf_frz : ∀ ds : List D, nksOf (frzs ds) = nksOf ds
  | [] => rfl
  | d :: ds => by
    show (nkOf (frz d)).bind (fun k => (nksOf (frzs ds)).map (k :: ·)) = (nkOf d).bind fun k => (nksOf ds).map (k :: ·)
    rw [nkOf_frz d, nksOf_frz ds]
end
theorem nks_frz : ∀ ds : List D, (frzs ds).map nkOf = ds.map nkOf
  | [] => rfl
  | d :: ds => by
    show nkOf (frz d) :: (frzs ds).map nkOf = nkOf d :: ds.map nkOf
    rw [nkOf_frz, nks_frz ds]
theorem keys_frz : ∀ ds : List D, (frzs ds).map keyOf = ds.map keyOf
  | [] => rfl
  | d :: ds => by
    show keyOf (frz d) :: (frzs ds).map keyOf = keyOf d :: ds.map keyOf
    rw [keyOf_frz, keys_frz ds]
mutual
theorem Rp.frz (T : AS) (eF : Ex F H) : ∀ (d : D) (v : V) (S : AS), Sub S T → okF d = true → Rp K F H d v S → Rp K (addF F H T) H (frz d) v No
  | .non, _, _, _, _, h => h
  | .bl _, _, _, _, _, h => h
  | .int _, _, _, _, _, h => h
  | .str _, _, _, _, _, h => h
  | .ins _ _, _, _, _, _, h => h
  | .fn _, _, _, _, _, h => FnR.mono h (addF_ex eF T)
  | .tup ds, v, S, hs, n, h => by
    obtain ⟨p, vs, e, ht, hl⟩ := h
    exact ⟨p, vs, e, ht, RpL.frz T eF ds vs S hs n hl⟩
  | .lst o ds, v, S, hs, n, h => by
    obtain ⟨p, vs, e, ht, hl⟩ := h
    refine ⟨p, vs, e, ?_, ?_⟩
    · rw [if_neg (by decide)]
      cases o with
      | true =>
        rw [if_pos rfl] at ht
        exact SqL.of (by rw [addF_at (hs _ ht.1)]; exact ht.2)
      | false =>
        rw [if_neg (by decide)] at ht
        exact ex_l (addF_ex eF T) ht
    · exact RpL.mono (Ex.refl _) (Tu.refl H) _ vs No _ (fun _ q => q.elim) (fun _ _ q => q.elim) (RpL.frz T eF ds vs _ (fun a q => hs a q.1) n hl)
  | .dic o ks ds, v, S, hs, n, h => by
    obtain ⟨p, kvs, e, ht, hk, hl⟩ := h
    rw [okF, Bool.and_eq_true] at n
    refine ⟨p, kvs, e, ?_, ?_, ?_⟩
    · rw [if_neg (by decide)]
      cases o with
      | true =>
        rw [if_pos rfl] at ht
        rw [addF_at (hs _ ht.1)]
        exact ht.2
      | false =>
        rw [if_neg (by decide)] at ht
        exact addF_ex eF T _ _ ht
    · unfold KsOk
      rw [keys_frz]
      exact hk
    · exact RpL.mono (Ex.refl _) (Tu.refl H) _ _ No _ (fun _ q => q.elim) (fun _ _ q => q.elim) (RpL.frz T eF ds _ _ (fun a q => hs a q.1) n.2 hl)
  | .dtp o ks ds, v, S, hs, n, h => by
    obtain ⟨p, ep, xs, us, e, ht, hk, hu, hkl, hl⟩ := h
    rw [okF, Bool.and_eq_true] at n
    refine ⟨p, ep, xs, us, e, ?_, ?_, hu, RpL.frz T eF ks _ No (fun _ q => q.elim) n.1 hkl, ?_⟩
    · rw [if_neg (by decide)]
      cases o with
      | true =>
        rw [if_pos rfl] at ht
        rw [addF_at (hs _ ht.1)]
        exact ht.2
      | false =>
        rw [if_neg (by decide)] at ht
        exact addF_ex eF T _ _ ht
    · obtain ⟨a, b, c, d, g⟩ := hk
      exact ⟨by rw [nks_frz]; exact a, b, c, d, g⟩
    · exact RpL.mono (Ex.refl _) (Tu.refl H) _ _ No _ (fun _ q => q.elim) (fun _ _ q => q.elim) (RpL.frz T eF ds _ _ (fun a q => hs a q.1) n.2 hl)
theorem RpL.frz (T : AS) (eF : Ex F H) : ∀ (ds : List D) (vs : List V) (S : AS), Sub S T → okFs ds = true → RpL K F H ds vs S → RpL K (addF F H T) H (frzs ds) vs No
  | [], _, _, _, _, h => h
  | d :: ds, vs, S, hs, n, h => by
    obtain ⟨v, r, S1, S2, e, s1, s2, dj, h1, h2⟩ := h
    rw [okFs, Bool.and_eq_true] at n
    exact ⟨v, r, No, No, e, fun _ q => q, fun _ q => q, fun _ q _ => q, Rp.frz T eF d v S1 (fun a q => hs a (s1 a q)) n.1 h1, RpL.frz T eF ds r S2 (fun a q => hs a (s2 a q)) n.2 h2⟩
end
/-- nothing that is given up anew where nothing is owned -/
theorem addF_no (F H : Hp) : addF F H No = F := by
  funext a
  exact addF_none (fun q => q)

/-! ### lists -/
theorem RpL.len : ∀ {ds : List D} {vs : List V} {S : AS}, RpL K F H ds vs S → ds.length = vs.length
  | [], _, _, h => by
    cases h
    rfl
  | d :: ds, vs, S, h => by
    obtain ⟨v, r, S1, S2, e, s1, s2, dj, h1, h2⟩ := h
    subst e
    rw [List.length_cons, List.length_cons, RpL.len h2]
theorem RpL.get : ∀ {ds : List D} {vs : List V} {S : AS} {k : Nat} {d : D}, RpL K F H ds vs S → ds[k]? = some d → ∃ v S1, vs[k]? = some v ∧ Sub S1 S ∧ Rp K F H d v S1
  | [], _, _, _, _, _, e => by simp at e
  | d :: ds, vs, S, 0, c, h, q => by
    obtain ⟨v, r, S1, S2, e, s1, s2, dj, h1, h2⟩ := h
    subst e
    simp at q
    subst q
    exact ⟨v, S1, rfl, s1, h1⟩
  | d :: ds, vs, S, k + 1, c, h, q => by
    obtain ⟨v, r, S1, S2, e, s1, s2, dj, h1, h2⟩ := h
    subst e
    obtain ⟨u, T, g1, g2, g3⟩ := RpL.get (k := k) h2 (by simpa using q)
    exact ⟨u, T, by simpa using g1, fun a x => s2 a (g2 a x), g3⟩
theorem RpL.append : ∀ {ds es : List D} {vs ws : List V} {S T U : AS}, RpL K F H ds vs S → RpL K F H es ws T → Dj S T → Sub S U → Sub T U → RpL K F H (ds ++ es) (vs ++ ws) U
  | [], es, vs, ws, S, T, U, h, h', _, _, hu => by
    cases h
    exact RpL.mono (Ex.refl F) (Tu.refl H) _ _ _ _ hu (fun _ _ _ q => q) h'
  | d :: ds, es, vs, ws, S, T, U, h, h', dj, hs, hu => by
    obtain ⟨v, r, S1, S2, e, s1, s2, d12, h1, h2⟩ := h
    subst e
    refine ⟨v, r ++ ws, S1, Un2 S2 T, rfl, fun a q => hs a (s1 a q), fun a q => q.elim (fun q => hs a (s2 a q)) (hu a), ?_, h1, ?_⟩
    · rintro a q (q2 | q2)
      · exact d12 a q q2
      · exact dj a (s1 a q) q2
    · exact RpL.append h2 h' (fun a q q2 => dj a (s2 a q) q2) (fun a q => Or.inl q) (fun a q => Or.inr q)
/-- an item taken out -/
theorem RpL.erase : ∀ {ds : List D} {vs : List V} {S : AS} {k : Nat} {d : D}, RpL K F H ds vs S → ds[k]? = some d → ∃ v S1 S2, vs[k]? = some v ∧ Sub S1 S ∧ Sub S2 S ∧ Dj S1 S2 ∧ Rp K F H d v S1 ∧ RpL K F H (ds.eraseIdx k) (vs.eraseIdx k) S2
  | [], _, _, _, _, _, e => by simp at e
  | d :: ds, vs, S, 0, c, h, q => by
    obtain ⟨v, r, S1, S2, e, s1, s2, dj, h1, h2⟩ := h
    subst e
    simp at q
    subst q
    exact ⟨v, S1, S2, rfl, s1, s2, dj, h1, h2⟩
  | d :: ds, vs, S, k + 1, c, h, q => by
    obtain ⟨v, r, S1, S2, e, s1, s2, dj, h1, h2⟩ := h
    subst e
    obtain ⟨u, T1, T2, g1, g2, g3, g4, g5, g6⟩ := RpL.erase (k := k) h2 (by simpa using q)
    refine ⟨u, T1, Un2 S1 T2, by simpa using g1, fun a x => s2 a (g2 a x), fun a x => x.elim (s1 a) fun x => s2 a (g3 a x), ?_, g5, ?_⟩
    · rintro a x (y | y)
      · exact dj a y (g2 a x)
      · exact g4 a x y
    · exact ⟨v, r.eraseIdx k, S1, T2, rfl, fun a x => Or.inl x, fun a x => Or.inr x, fun a x y => dj a x (g3 a y), h1, g6⟩
/-- an item put in another's place; f: the place -/
theorem RpL.set : ∀ {ds : List D} {vs : List V} {S T U : AS} {k : Nat} {d : D} {v : V}, RpL K F H ds vs S → Rp K F H d v T → Dj S T → Sub S U → Sub T U → RpL K F H (ds.set k d) (vs.set k v) U
  | [], vs, S, T, U, k, d, v, h, _, _, _, _ => by
    cases h
    rfl
  | c :: ds, vs, S, T, U, 0, d, v, h, h', dj, hs, hu => by
    obtain ⟨w, r, S1, S2, e, s1, s2, d12, h1, h2⟩ := h
    subst e
    exact ⟨v, r, T, S2, rfl, hu, fun a q => hs a (s2 a q), fun a q q2 => dj a (s2 a q2) q, h', h2⟩
  | c :: ds, vs, S, T, U, k + 1, d, v, h, h', dj, hs, hu => by
    obtain ⟨w, r, S1, S2, e, s1, s2, d12, h1, h2⟩ := h
    subst e
    refine ⟨w, r.set k v, S1, Un2 S2 T, rfl, fun a q => hs a (s1 a q), fun a q => q.elim (fun q => hs a (s2 a q)) (hu a), ?_, h1, ?_⟩
    · rintro a q (q2 | q2)
      · exact d12 a q q2
      · exact dj a (s1 a q) q2
    · exact RpL.set h2 h' (fun a q q2 => dj a (s2 a q) q2) (fun a q => Or.inl q) (fun a q => Or.inr q)
/-- an item taken in hand, then put back changed -/
theorem RpL.hold : ∀ {ds : List D} {vs : List V} {S : AS} {k : Nat} {d : D}, RpL K F H ds vs S → ds[k]? = some d → ∃ v S1 S2, vs[k]? = some v ∧ Sub S1 S ∧ Sub S2 S ∧ Dj S1 S2 ∧ Rp K F H d v S1 ∧
    ∀ (F' H' : Hp) (d' : D) (T U : AS), Ex F F' → Tu H H' → (∀ a o, S2 a → H a = some o → H' a = some o) → Dj T S2 → Sub T U → Sub S2 U → Rp K F' H' d' v T → RpL K F' H' (ds.set k d') vs U
  | [], _, _, _, _, _, e => by simp at e
  | d :: ds, vs, S, 0, c, h, q => by
    obtain ⟨v, r, S1, S2, e, s1, s2, dj, h1, h2⟩ := h
    subst e
    simp at q
    subst q
    refine ⟨v, S1, S2, rfl, s1, s2, dj, h1, fun F' H' d' T U eF tu k hd hT hS hp => ?_⟩
    exact ⟨v, r, T, S2, rfl, hT, hS, hd, hp, RpL.mono eF tu ds r S2 S2 (fun _ q => q) k h2⟩
  | d :: ds, vs, S, k + 1, c, h, q => by
    obtain ⟨v, r, S1, S2, e, s1, s2, dj, h1, h2⟩ := h
    subst e
    obtain ⟨u, T1, T2, g1, g2, g3, g4, g5, g6⟩ := RpL.hold (k := k) h2 (by simpa using q)
    refine ⟨u, T1, Un2 S1 T2, by simpa using g1, fun a x => s2 a (g2 a x), fun a x => x.elim (s1 a) fun x => s2 a (g3 a x), ?_, g5, fun F' H' d' T U eF tu kp hd hT hS hp => ?_⟩
    · rintro a x (y | y)
      · exact dj a y (g2 a x)
      · exact g4 a x y
    · refine ⟨v, r, S1, Un2 T T2, rfl, fun a x => hS a (Or.inl x), fun a x => x.elim (hT a) fun x => hS a (Or.inr x), ?_, ?_, ?_⟩
      · rintro a x (y | y)
        · exact hd a y (Or.inl x)
        · exact dj a x (g3 a y)
      · exact Rp.mono eF tu d v S1 S1 (fun _ q => q) (fun a o q => kp a o (Or.inl q)) h1
      · exact g6 F' H' d' T _ eF tu (fun a o q => kp a o (Or.inr q)) (fun a x y => hd a x (Or.inr y)) (fun a x => Or.inl x) (fun a x => Or.inr x) hp
end
end AW

/-! AWState: the slots' meaning, a step of the state, the readings. -/
namespace AW
open PySem L2

section
variable (K : PySem.W.Frag) (F H : Hp)
/-- a slot: nothing known, or a value for the data -/
def SloR : Option D → Option V → AS → Prop
  | none, _, _ => True
  | some d, o, S => ∃ v, o = some v ∧ Rp K F H d v S
def EnvR : Env → L2.St → AS → Prop
  | [], σ, _ => σ = []
  | d :: ds, σ, S => ∃ o r S1 S2, σ = o :: r ∧ Sub S1 S ∧ Sub S2 S ∧ Dj S1 S2 ∧ SloR K F H d o S1 ∧ EnvR ds r S2
end
section
variable {K : PySem.W.Frag} {F F' H H' : Hp}
theorem SloR.mono (eF : Ex F F') (tu : Tu H H') {d : Option D} {o : Option V} {S S' : AS} (hs : Sub S S') (k : ∀ a o, S a → H a = some o → H' a = some o) (h : SloR K F H d o S) : SloR K F' H' d o S' := by
  cases d with
  | none => trivial
  | some d =>
    obtain ⟨v, h1, h3⟩ := h
    exact ⟨v, h1, Rp.mono eF tu d v S S' hs k h3⟩
theorem EnvR.mono (eF : Ex F F') (tu : Tu H H') : ∀ (ds : Env) (σ : L2.St) (S S' : AS), Sub S S' → (∀ a o, S a → H a = some o → H' a = some o) → EnvR K F H ds σ S → EnvR K F' H' ds σ S'
  | [], _, _, _, _, _, h => h
  | d :: ds, σ, S, S', hs, k, h => by
    obtain ⟨o, r, S1, S2, e, s1, s2, dj, h1, h2⟩ := h
    exact ⟨o, r, S1, S2, e, fun a q => hs a (s1 a q), fun a q => hs a (s2 a q), dj, h1.mono eF tu (fun _ q => q) (fun a o q => k a o (s1 a q)), EnvR.mono eF tu ds r S2 S2 (fun _ q => q) (fun a o q => k a o (s2 a q)) h2⟩
theorem EnvR.len : ∀ {ds : Env} {σ : L2.St} {S : AS}, EnvR K F H ds σ S → ds.length = σ.length
  | [], _, _, h => by
    cases h
    rfl
  | d :: ds, σ, S, h => by
    obtain ⟨o, r, S1, S2, e, s1, s2, dj, h1, h2⟩ := h
    subst e
    rw [List.length_cons, List.length_cons, EnvR.len h2]
/-- a slot taken in hand, then put back changed -/
theorem EnvR.hold : ∀ {ds : Env} {σ : L2.St} {S : AS} {i : Nat}, EnvR K F H ds σ S → i < ds.length → ∃ o S1 S2, σ[i]? = some o ∧ Sub S1 S ∧ Sub S2 S ∧ Dj S1 S2 ∧ SloR K F H (gt ds i) o S1 ∧
    ∀ (F' H' : Hp) (d' : Option D) (o' : Option V) (T U : AS), Ex F F' → Tu H H' → (∀ a o, S2 a → H a = some o → H' a = some o) → Dj T S2 → Sub T U → Sub S2 U → SloR K F' H' d' o' T → EnvR K F' H' (ds.set i d') (σ.set i o') U
  | [], _, _, _, _, e => by simp at e
  | d :: ds, σ, S, 0, h, q => by
    obtain ⟨o, r, S1, S2, e, s1, s2, dj, h1, h2⟩ := h
    subst e
    refine ⟨o, S1, S2, rfl, s1, s2, dj, h1, fun F' H' d' o' T U eF tu k hd hT hS hp => ?_⟩
    exact ⟨o', r, T, S2, rfl, hT, hS, hd, hp, EnvR.mono eF tu ds r S2 S2 (fun _ q => q) k h2⟩
  | d :: ds, σ, S, i + 1, h, q => by
    obtain ⟨o, r, S1, S2, e, s1, s2, dj, h1, h2⟩ := h
    subst e
    obtain ⟨u, T1, T2, g1, g2, g3, g4, g5, g6⟩ := EnvR.hold (i := i) h2 (Nat.lt_of_succ_lt_succ q)
    refine ⟨u, T1, Un2 S1 T2, by simpa using g1, fun a x => s2 a (g2 a x), fun a x => x.elim (s1 a) fun x => s2 a (g3 a x), ?_, g5, fun F' H' d' o' T U eF tu kp hd hT hS hp => ?_⟩
    · rintro a x (y | y)
      · exact dj a y (g2 a x)
      · exact g4 a x y
    · refine ⟨o, r.set i o', S1, Un2 T T2, rfl, fun a x => hS a (Or.inl x), fun a x => x.elim (hT a) fun x => hS a (Or.inr x), ?_, ?_, ?_⟩
      · rintro a x (y | y)
        · exact hd a y (Or.inl x)
        · exact dj a x (g3 a y)
      · exact h1.mono eF tu (fun _ q => q) (fun a o q => kp a o (Or.inl q))
      · exact g6 F' H' d' o' T _ eF tu (fun a o q => kp a o (Or.inr q)) (fun a x y => hd a x (Or.inr y)) (fun a x => Or.inl x) (fun a x => Or.inr x) hp
end
theorem gt_lt : ∀ {env : Env} {i : Nat} {d : D}, gt env i = some d → i < env.length
  | [], _, _, h => by cases h
  | _ :: _, 0, _, _ => Nat.succ_pos _
  | _ :: r, i + 1, _, h => Nat.succ_lt_succ (gt_lt (env := r) h)
theorem gt_get : ∀ {env : Env} {i : Nat}, i < env.length → env[i]? = some (gt env i)
  | [], _, h => absurd h (Nat.not_lt_zero _)
  | _ :: _, 0, _ => rfl
  | _ :: r, i + 1, h => by simpa using gt_get (env := r) (Nat.lt_of_succ_lt_succ h)
theorem gt_set_self : ∀ {env : Env} {i : Nat} {d : Option D}, i < env.length → gt (env.set i d) i = d
  | [], _, _, h => absurd h (Nat.not_lt_zero _)
  | _ :: _, 0, _, _ => rfl
  | _ :: r, i + 1, d, h => gt_set_self (env := r) (Nat.lt_of_succ_lt_succ h)
theorem gt_set_ne : ∀ {env : Env} {i j : Nat} {d : Option D}, j ≠ i → gt (env.set i d) j = gt env j
  | [], _, _, _, _ => rfl
  | _ :: _, 0, 0, _, h => absurd rfl h
  | _ :: _, 0, j + 1, _, _ => rfl
  | _ :: _, i + 1, 0, _, _ => rfl
  | _ :: r, i + 1, j + 1, d, h => gt_set_ne (env := r) (fun e => h (by rw [e]))
theorem set_gt_self : ∀ {env : Env} {i : Nat}, env.set i (gt env i) = env
  | [], _ => rfl
  | _ :: _, 0 => rfl
  | d :: r, i + 1 => by
    show d :: r.set i (gt r i) = d :: r
    rw [set_gt_self]

structure Rel (K : PySem.W.Frag) (F H : Hp) (env : Env) (σ : L2.St) (S : AS) : Prop where
  ex : Ex F H
  nf : ∀ a, S a → F a = none
  al : ∀ a, S a → H a ≠ none
  en : EnvR K F H env σ S
structure Stp (F H : Hp) (S : AS) (F' H' : Hp) (S' : AS) : Prop where
  kp : ∀ a o, ¬ S a → H a = some o → H' a = some o
  fx : Ex F F'
  fr : ∀ a, S' a → S a ∨ H a = none
  ff : ∀ a, F' a ≠ none → F a ≠ none ∨ S a ∨ H a = none
  tu : Tu H H'
/-- a value in hand: what is owned in it is held by nobody else -/
structure Tmp (K : PySem.W.Frag) (F H : Hp) (S : AS) (d : D) (v : V) (T : AS) : Prop where
  rp : Rp K F H d v T
  ok : ∀ a, T a → F a = none ∧ H a ≠ none ∧ ¬ S a
section
variable {K : PySem.W.Frag} {F F' F2 H H' H2 : Hp} {S S' S2 T : AS} {env env' : Env} {σ : L2.St} {d : D} {v : V}
theorem Stp.refl : Stp F H S F H S := ⟨fun _ _ _ h => h, Ex.refl F, fun _ h => Or.inl h, fun _ h => Or.inl h, Tu.refl H⟩
theorem Stp.back (a : Stp F H S F' H' S') {x : Addr} (h : H' x = none) : S x ∨ H x = none := by
  open Classical in
  by_cases hs : S x
  · exact Or.inl hs
  · refine Or.inr ?_
    cases e : H x with
    | none => rfl
    | some o =>
      rw [a.kp x o hs e] at h
      cases h
theorem Stp.trans (a : Stp F H S F' H' S') (b : Stp F' H' S' F2 H2 S2) : Stp F H S F2 H2 S2 where
  kp := fun x o n e => b.kp x o (fun q => by
    rcases a.fr x q with q | q
    · exact n q
    · rw [e] at q
      cases q) (a.kp x o n e)
  fx := a.fx.trans b.fx
  fr := fun x q => by
    rcases b.fr x q with q | q
    · exact a.fr x q
    · exact a.back q
  ff := fun x q => by
    rcases b.ff x q with q | q | q
    · exact a.ff x q
    · exact Or.inr (a.fr x q)
    · exact Or.inr (a.back q)
  tu := a.tu.trans b.tu
theorem Stp.sub (a : Stp F H S F' H' S') (h : Sub S2 S') : Stp F H S F' H' S2 := ⟨a.kp, a.fx, fun x q => a.fr x (h x q), a.ff, a.tu⟩
/-- the heap grows -/
theorem Stp.grow (e : Ex H H') : Stp F H S F H' S := ⟨fun _ _ _ h => e _ _ h, Ex.refl F, fun _ h => Or.inl h, fun _ h => Or.inl h, e.tu⟩
theorem Stp.grown (e : Ex H H') (hT : ∀ a, T a → H a = none) : Stp F H S F H' (Un2 S T) :=
  ⟨fun _ _ _ h => e _ _ h, Ex.refl F, fun a h => h.elim Or.inl fun h => Or.inr (hT a h), fun _ h => Or.inl h, e.tu⟩
theorem Rel.grow (r : Rel K F H env σ S) (e : Ex H H') : Rel K F H' env σ S := by
  refine ⟨r.ex.trans e, r.nf, fun a h q => ?_, EnvR.mono (Ex.refl F) e.tu _ _ _ _ (fun _ q => q) (fun a o _ q => e a o q) r.en⟩
  cases z : H a with
  | none => exact r.al a h z
  | some o =>
    rw [e a o z] at q
    cases q
theorem Tmp.keep (t : Tmp K F H S d v T) (s : Stp F H S F' H' S') : Tmp K F' H' S' d v T := by
  have keep : ∀ a o, T a → H a = some o → H' a = some o := fun a o h e => s.kp a o (t.ok a h).2.2 e
  refine ⟨Rp.mono s.fx s.tu _ _ _ _ (fun _ q => q) keep t.rp, fun a h => ?_⟩
  obtain ⟨h1, h2, h3⟩ := t.ok a h
  refine ⟨?_, fun q => ?_, fun q => ?_⟩
  · cases e : F' a with
    | none => rfl
    | some o =>
      rcases s.ff a (by rw [e]; intro z; cases z) with q | q | q
      · exact absurd h1 q
      · exact absurd q h3
      · exact absurd q h2
  · cases e : H a with
    | none => exact h2 e
    | some o =>
      rw [keep a o h e] at q
      cases q
  · rcases s.fr a q with q | q
    · exact h3 q
    · exact h2 q
theorem Tmp.sub (t : Tmp K F H S d v T) (h : Sub S' S) : Tmp K F H S' d v T := ⟨t.rp, fun a q => ⟨(t.ok a q).1, (t.ok a q).2.1, fun z => (t.ok a q).2.2 (h a z)⟩⟩
theorem Tmp.free (t : Tmp K F H S d v T) (n : noOwn d = true) : Tmp K F H S d v No := ⟨t.rp.free _ _ _ n, fun _ q => q.elim⟩
/-- given up -/
theorem Tmp.frz (r : Rel K F H env σ S) (t : Tmp K F H S d v T) (n : okF d = true) : Rel K (addF F H T) H env σ S ∧ Tmp K (addF F H T) H S (frz d) v No ∧ Stp F H (Un2 S T) (addF F H T) H S := by
  have e1 := addF_ex r.ex T
  refine ⟨⟨addF_sub r.ex T, fun a h => ?_, r.al, EnvR.mono e1 (Tu.refl H) _ _ _ _ (fun _ q => q) (fun _ _ _ q => q) r.en⟩, ⟨Rp.frz T r.ex _ _ _ (fun _ q => q) n t.rp, fun _ q => q.elim⟩, ⟨fun _ _ _ h => h, e1, fun a h => Or.inl (Or.inl h), fun a h => ?_, Tu.refl H⟩⟩
  · rw [addF_none (fun q => (t.ok a q).2.2 h)]
    exact r.nf a h
  · open Classical in
    by_cases q : T a
    · exact Or.inr (Or.inl (Or.inr q))
    · rw [addF_none q] at h
      exact Or.inl h
/-- a name's value is given up where it stands -/
theorem Rel.frzAt (r : Rel K F H env σ S) {i : Nat} (hd : gt env i = some d) (n : okF d = true) : ∃ F' S' v, σ[i]? = some (some v) ∧ Rel K F' H (env.set i (some (AW.frz d))) σ S' ∧ Rp K F' H (AW.frz d) v No ∧ Stp F H S F' H S' := by
  obtain ⟨o, S1, S2, g1, g2, g3, g4, g5, g6⟩ := r.en.hold (gt_lt hd)
  rw [hd] at g5
  obtain ⟨v, rfl, g5⟩ := g5
  have e1 := addF_ex r.ex S1
  have h1 := Rp.frz S1 r.ex _ _ _ (fun _ q => q) n g5
  have e2 : σ.set i (some v) = σ := by
    obtain ⟨hl, he⟩ := List.getElem?_eq_some_iff.mp g1
    rw [← he]
    exact List.set_getElem_self hl
  have h2 := g6 (addF F H S1) H (some (AW.frz d)) (some v) No S2 e1 (Tu.refl H) (fun _ _ _ q => q) (fun _ q => q.elim) (fun _ q => q.elim) (fun _ q => q) ⟨v, rfl, h1⟩
  rw [e2] at h2
  refine ⟨addF F H S1, S2, v, g1, ⟨addF_sub r.ex S1, fun a h => ?_, fun a h => r.al a (g3 a h), h2⟩, h1, ⟨fun _ _ _ h => h, e1, fun a h => Or.inl (g3 a h), fun a h => ?_, Tu.refl H⟩⟩
  · rw [addF_none (fun q => g4 a q h)]
    exact r.nf a (g3 a h)
  · open Classical in
    by_cases q : S1 a
    · exact Or.inr (Or.inl (g2 a q))
    · rw [addF_none q] at h
      exact Or.inl h
/-- what a name holds, looked at -/
theorem Rel.at (r : Rel K F H env σ S) {i : Nat} (hd : gt env i = some d) : ∃ v S1, σ[i]? = some (some v) ∧ Sub S1 S ∧ Rp K F H d v S1 := by
  obtain ⟨o, S1, S2, g1, g2, g3, g4, g5, g6⟩ := r.en.hold (gt_lt hd)
  rw [hd] at g5
  obtain ⟨v, rfl, g5⟩ := g5
  exact ⟨v, S1, g1, g2, g5⟩
/-- a name's value taken -/
theorem Rel.take (r : Rel K F H env σ S) {i : Nat} (hd : gt env i = some d) : ∃ v S1 S2, σ[i]? = some (some v) ∧ Sub S1 S ∧ Rel K F H (env.set i none) σ S2 ∧ Tmp K F H S2 d v S1 ∧ Sub S2 S := by
  obtain ⟨o, S1, S2, g1, g2, g3, g4, g5, g6⟩ := r.en.hold (gt_lt hd)
  rw [hd] at g5
  obtain ⟨v, rfl, g5⟩ := g5
  have e2 : σ.set i (some v) = σ := by
    obtain ⟨hl, he⟩ := List.getElem?_eq_some_iff.mp g1
    rw [← he]
    exact List.set_getElem_self hl
  have h2 := g6 F H none (some v) No S2 (Ex.refl F) (Tu.refl H) (fun _ _ _ q => q) (fun _ q => q.elim) (fun _ q => q.elim) (fun _ q => q) trivial
  rw [e2] at h2
  exact ⟨v, S1, S2, g1, g2, ⟨r.ex, fun a h => r.nf a (g3 a h), fun a h => r.al a (g3 a h), h2⟩, ⟨g5, fun a h => ⟨r.nf a (g2 a h), r.al a (g2 a h), fun q => g4 a h q⟩⟩, g3⟩
/-- a value put in a slot; the slot's value becomes o' -/
theorem Rel.put (r : Rel K F H env σ S) {i : Nat} (hi : i < env.length) (t : Tmp K F H S d v T) : ∃ S', Rel K F H (env.set i (some d)) (σ.set i (some v)) S' ∧ Sub S' (Un2 S T) := by
  obtain ⟨o, S1, S2, g1, g2, g3, g4, g5, g6⟩ := r.en.hold hi
  refine ⟨Un2 S2 T, ⟨r.ex, fun a h => ?_, fun a h => ?_, ?_⟩, fun a h => h.elim (fun h => Or.inl (g3 a h)) Or.inr⟩
  · rcases h with h | h
    · exact r.nf a (g3 a h)
    · exact (t.ok a h).1
  · rcases h with h | h
    · exact r.al a (g3 a h)
    · exact (t.ok a h).2.1
  · exact g6 F H (some d) (some v) T _ (Ex.refl F) (Tu.refl H) (fun _ _ _ q => q) (fun a q h => (t.ok a q).2.2 (g3 a h)) (fun a h => Or.inr h) (fun a h => Or.inl h) ⟨v, rfl, t.rp⟩
end

/-! ### the readings -/
/-- from F, H, S on: what is wanted of what comes, or of an error -/
def Post {α : Type} (K : PySem.W.Frag) (Wx : L2.St → Nat → Hp → Prop) (σ : L2.St) (F H : Hp) (S : AS) (r : R α) (P : α → Env → Prop) : Prop :=
  match r with
  | .ok a env' => P a env'
  | .exc c env' => ∀ F' H' S', Rel K F' H' env' σ S' → Stp F H S F' H' S' → Wx σ c H'
  | .no => False
section
variable {α β : Type} {K : PySem.W.Frag} {Wx : L2.St → Nat → Hp → Prop} {σ : L2.St} {F H F' H' : Hp} {S S' : AS} {r : R α} {P P' : α → Env → Prop}
theorem Post.imp (h : Post K Wx σ F H S r P) (k : ∀ a env, P a env → P' a env) : Post K Wx σ F H S r P' := by
  cases r with
  | ok a env => exact k a env h
  | exc c env => exact h
  | no => exact h
theorem Post.at (h : Post K Wx σ F H S r P) (s : Stp F H S F' H' S') : Post K Wx σ F' H' S' r P := by
  cases r with
  | ok a env => exact h
  | exc c env => exact fun F2 H2 S2 r2 s2 => h F2 H2 S2 r2 (s.trans s2)
  | no => exact h
theorem Post.bind {f : α → Env → R β} {P : β → Env → Prop} (h : Post K Wx σ F H S (r.bind f) P) : Post K Wx σ F H S r fun a env => Post K Wx σ F H S (f a env) P := by
  cases r with
  | ok a env => exact h
  | exc c env => exact h
  | no => exact h
theorem Post.map {f : α → β} {P : β → Env → Prop} (h : Post K Wx σ F H S (r.map f) P) : Post K Wx σ F H S r fun a env => P (f a) env := by
  cases r with
  | ok a env => exact h
  | exc c env => exact h
  | no => exact h
theorem Post.lift {o : Option α} {env : Env} (h : Post K Wx σ F H S (lift o env) P) : ∃ a, o = some a ∧ P a env := by
  cases o with
  | none => exact h.elim
  | some a => exact ⟨a, rfl, h⟩
theorem Post.ite {c : Prop} [Decidable c] {a b : R α} (h : Post K Wx σ F H S (if c then a else b) P) : (c ∧ Post K Wx σ F H S a P) ∨ (¬ c ∧ Post K Wx σ F H S b P) := by
  by_cases hc : c
  · rw [if_pos hc] at h
    exact Or.inl ⟨hc, h⟩
  · rw [if_neg hc] at h
    exact Or.inr ⟨hc, h⟩
theorem Post.iff {c : Prop} [Decidable c] {a : R α} (h : Post K Wx σ F H S (if c then a else .no) P) : c ∧ Post K Wx σ F H S a P := by
  rcases h.ite with h | h
  · exact h
  · exact h.2.elim
end
section
variable (K : PySem.W.Frag) (Wx : L2.St → Nat → Hp → Prop)
/-- what an expression's value means; st: nothing that stands is changed meanwhile -/
def rdE (st : Bool) (r : Env → R D) : TE := fun σ H Qk => ∃ F env S, Rel K F H env σ S ∧
  Post K Wx σ F H S (r env) fun d env' => ∀ F' H' S' T v, Rel K F' H' env' σ S' → Tmp K F' H' S' d v T → Stp F H S F' H' (Un2 S' T) → (st = true → Ex H H') → Qk v H'
/-- an operand's -/
def OpV (F H : Hp) (σ : L2.St) : Op → V → Prop
  | .val d, v => noOwn d = true ∧ Rp K F H d v No
  | .ref i, v => σ[i]? = some (some v)
  | .refp i k, v => ∃ p vs, σ[i]? = some (some (.ref p)) ∧ H p = some (.lst vs) ∧ vs[k]? = some v
def rdO (st : Bool) (r : Env → R Op) : TE := fun σ H Qk => ∃ F env S, Rel K F H env σ S ∧
  Post K Wx σ F H S (r env) fun o env' => ∀ F' H' S' v, Rel K F' H' env' σ S' → OpV K F' H' σ o v → Stp F H S F' H' S' → (st = true → Ex H H') → Qk v H'
/-- a test's -/
def rdT (r : Env → R D) : TT := fun σ H Qk => ∃ F env S, Rel K F H env σ S ∧
  Post K Wx σ F H S (r env) fun d env' => ∃ b, d = .bl b ∧ ∀ F' H' S', Rel K F' H' env' σ S' → Stp F H S F' H' S' → Qk b H'
end
theorem PE.weak {X : Cx} {e : Expr} {t t' : TE} (h : PE X e t) (k : ∀ σ H Q, t' σ H Q → t σ H Q) : PE X e t' := ⟨fun pins s σ H Q I q => h.run pins s σ H Q I (k σ H Q q)⟩
theorem PT.weak {X : Cx} {e : Expr} {t t' : TT} (h : PT X e t) (k : ∀ σ H Q, t' σ H Q → t σ H Q) : PT X e t' := ⟨fun pins s σ H Q I q => h.run pins s σ H Q I (k σ H Q q)⟩
theorem PA.weak {X : Cx} {e : List Expr} {t t' : TA} (h : PA X e t) (k : ∀ σ H Q, t' σ H Q → t σ H Q) : PA X e t' := ⟨fun pos pins s σ H Q I q => h.run pos pins s σ H Q I (k σ H Q q)⟩
theorem PS.weak {X : Cx} {e : Stmt} {t t' : TS} (h : PS X e t) (k : ∀ D σ H, t' D σ H → t D σ H) : PS X e t' := ⟨fun pins s σ H D I q => h.run pins s σ H D I (k D σ H q)⟩
theorem PSs.weak {X : Cx} {e : List Stmt} {t t' : TS} (h : PSs X e t) (k : ∀ D σ H, t' D σ H → t D σ H) : PSs X e t' := ⟨fun pins s σ H D I q => h.run pins s σ H D I (k D σ H q)⟩
theorem PI.weak {X : Cx} {tg e : Expr} {t t' : TI} (h : PI X tg e t) (k : ∀ σ H R, t' σ H R → t σ H R) : PI X tg e t' := ⟨fun pins s σ H R I q => h.run pins s σ H R I (k σ H R q)⟩
theorem OpR.weak {X : Cx} {f : Value → Value → Sem Value} {r r' : R2} (h : OpR X f r) (k : ∀ x y H Q, r' x y H Q → r x y H Q) : OpR X f r' := fun pins s σ H x y u v Q I a b q => h pins s σ H x y u v Q I a b (k x y H Q q)
section
variable {K : PySem.W.Frag} {F F' H H' : Hp} {S S' T : AS} {env env' : Env} {σ : L2.St} {d : D} {v : V} {o : Op} {Wx : L2.St → Nat → Hp → Prop}
theorem OpV.keep (h : OpV K F H σ o v) (s : Stp F H S F' H' S') (st : opRef o = true ∨ Ex H H') : OpV K F' H' σ o v := by
  cases o with
  | val d => exact ⟨h.1, Rp.mono s.fx s.tu _ _ _ _ (fun _ q => q) (fun _ _ q => q.elim) h.2⟩
  | ref i => exact h
  | refp i k =>
    obtain ⟨p, vs, h1, h2, h3⟩ := h
    rcases st with st | st
    · cases st
    · exact ⟨p, vs, h1, st _ _ h2, h3⟩
/-- an operand, looked at -/
theorem OpV.view (h : OpV K F H σ o v) (r : Rel K F H env σ S) (hd : o.get env = some d) : ∃ S1, Sub S1 S ∧ Rp K F H d v S1 := by
  cases o with
  | val c =>
    cases hd
    exact ⟨No, fun _ q => q.elim, h.2⟩
  | ref i =>
    obtain ⟨w, S1, g1, g2, g3⟩ := r.at (i := i) hd
    have h' : σ[i]? = some (some v) := h
    rw [h'] at g1
    cases g1
    exact ⟨S1, g2, g3⟩
  | refp i k =>
    obtain ⟨p, vs, h1, h2, h3⟩ := h
    have hd' : part (gt env i) k = some d := hd
    unfold part at hd'
    split at hd'
    · rename_i ds e
      obtain ⟨w, S1, g1, g2, g3⟩ := r.at e
      rw [h1] at g1
      cases g1
      obtain ⟨q, ws, e, ht, hl⟩ := g3
      cases e
      rw [if_pos rfl, h2] at ht
      obtain ⟨_, e2⟩ := ht
      cases e2
      obtain ⟨u, S3, u1, u2, u3⟩ := hl.get hd'
      rw [h3] at u1
      cases u1
      exact ⟨S3, fun a q => g2 a (u2 a q).1, u3⟩
    · cases hd'
end
end AW

/-! AWMatch: which text of the program a term of the small language stands for. -/
namespace AW
open PySem L2

def vis (sc : Scope) (x : Str) : Bool := (sc.names.lookup x == some .local || (sc.names.lookup x == some .cell || sc.names.lookup x == some .free)) && (!(x == ("__debug__" : Str)) && !(x == ("__classdict__" : Str)))
def glb (sc : Scope) (x : Str) : Bool := sc.names.lookup x == some .globalImplicit && (!(x == ("__debug__" : Str)))
def opB : BO → Operator
  | .add => .Add | .sub => .Sub | .mul => .Mult | .fdiv => .FloorDiv | .mod => .Mod | .pow => .Pow | .shl => .LShift | .band => .BitAnd | .bor => .BitOr | .bxor => .BitXor
def opC : CO → CmpOp
  | .lt => .Lt | .le => .LtE | .gt => .Gt | .ge => .GtE | .eq => .Eq | .ne => .NotEq | .isN => .Is | .notN => .IsNot | .inn => .In | .nin => .NotIn
def nmF : BF → Str
  | .len => "len" | .abs => "abs" | .int1 => "int" | .list1 => "list" | .tuple1 => "tuple" | .sum1 => "sum" | .max1 => "max" | .min1 => "min" | .max2 => "max" | .min2 => "min"
  | .all1 => "all" | .any1 => "any" | .sorted1 => "sorted" | .repr1 => "repr" | .str1 => "str" | .dict1 => "dict" | .bool1 => "bool" | .isInt => "isinstance" | .isBool => "isinstance" | .isStr => "isinstance" | .isTup => "isinstance" | .isLst => "isinstance" | .isX => "isinstance"
/-- the class that isinstance asks for -/
def isiT : BF → Option Str
  | .isInt => some "int" | .isBool => some "bool" | .isStr => some "str" | .isTup => some "tuple" | .isLst => some "list" | _ => none
def nmM : MF → Str
  | .append => "append" | .pop0 => "pop" | .pop1 => "pop" | .get1 => "get" | .get2 => "get" | .index1 => "index" | .count1 => "count" | .join1 => "join" | .clear0 => "clear" | .extend1 => "extend"
def mC : D → Const → Bool
  | .non, .none => true
  | .bl b, .bool c => b == c
  | .int i, .int j => i == j
  | .str cs, .str x => tx cs == x
  | _, _ => false
/-- what a table of the text tells: the defs that may be called, the module's constants -/
structure Tb where
  fns : List Str
  gls : List Str
  bls : List Str
mutual
/-- nothing that stands is changed by it -/
def still : E → Bool
  | .var _ => true
  | .mv _ => true
  | .fz _ => true
  | .pth _ _ => true
  | .cst _ => true
  | .non => true
  | .glo _ => true
  | .tup es => stills es
  | .lst es => stills es
  | _ => false
def stills : Es → Bool
  | .nil => true
  | .cons e es => still e && stills es
end
def isPth : E → Bool
  | .pth _ _ => true
  | _ => false
def recvOk (o : Expr) : Bool := match o with | .Call (.Name _ _) [] [] _ => false | _ => true
/-- the left operand stays where it is -/
def ord (a b : E) : Bool := !isPth a || still b
def optM (a : E) (f : Expr → Bool) (x : Option Expr) : Bool :=
  match x with
  | none => (match a with | .non => true | _ => false)
  | some x => f x
def refE : E → List Nat
  | .var i => [i]
  | _ => []
/-- the names whose lists are walked where they stand -/
def refsI : It → List Nat
  | .seq e => refE e
  | .enum e => refE e
  | .zip2 a b => refE a ++ refE b
  | _ => []
def itOk (it : It) (tt : Bool) : Bool := match it with | .enum _ => tt | .zip2 _ _ => tt | _ => true
mutual
/-- may stand as a test -/
def okT : E → Bool
  | .ite _ _ _ => false
  | .not_ a => okT a
  | .and_ es => okTs es
  | .or_ es => okTs es
  | _ => true
def okTs : Es → Bool
  | .nil => true
  | .cons e es => okT e && okTs es
end
def neNil : Es → Bool
  | .nil => false
  | _ => true
def opsOk : Es → Bool
  | .cons _ .nil => true
  | .cons a (.cons _ .nil) => !isPth a
  | _ => false
def one1 : Es → Bool
  | .cons a .nil => !isPth a
  | _ => false
def cTrue : E → Bool
  | .cst (.bl true) => true
  | _ => false
section
variable (T : Tb) (N : List Str)
def mNm (sc : Scope) (i : Nat) (x : Str) : Bool := N[i]? == some x && vis sc x
def mSto (sc : Scope) (fn : Str → Bool) (i : Nat) (x : Str) : Bool := N[i]? == some x && (sc.names.lookup x == some .local || (sc.names.lookup x == some .cell && fn x))
def mStos (sc : Scope) (fn : Str → Bool) : List Nat → List Expr → Bool
  | [], [] => true
  | i :: is, .Name x _ :: es => mSto N sc fn i x && mStos sc fn is es
  | _, _ => false
def mTg (sc : Scope) (fn : Str → Bool) (t : List Nat) (tt : Bool) (e : Expr) : Bool :=
  match e with
  | .Name x _ => !tt && (match t with | [i] => mSto N sc fn i x | _ => false)
  | .Tuple es _ _ => tt && mStos N sc fn t es
  | _ => false
def spA (sc : Scope) (k : SK) (e : Expr) : Option (List Expr) :=
  match e with
  | .Dict [] [] _ => (match k with | .edt => some [] | _ => none)
  | .Subscript x (.Slice none none (some (.UnaryOp .USub (.Constant (.int i) _ _) _)) _) _ => (match k with | .rev => if i = 1 then some [x] else none | _ => none)
  | .Call (.Name l _) [.Call (.Name r _) xs [] _] [] _ => if (l == ("list" : Str) && (r == ("range" : Str) && (T.bls.contains l && (T.bls.contains r && (glb sc l && glb sc r))))) = true then (match k with | .lrng1 => some xs | .lrng2 => some xs | _ => none) else none
  | .Call (.Name l _) [.Call (.Attribute o x ap) [] [] cp] [] _ => if (l == ("sum" : Str) && (x == ("values" : Str) && (T.bls.contains l && (glb sc l && ((ap.endLine == cp.line) && recvOk o))))) = true then (match k with | .sumv => some [o] | _ => none) else none
  | _ => none
def two2 : Es → Bool
  | .cons a (.cons _ .nil) => !isPth a
  | _ => false
def spOk (k : SK) (es : Es) : Bool := match k with | .edt => true | .lrng2 => two2 es | _ => one1 es
def relSc (scope sc : Scope) : Scope := relS scope sc
def ownN (own : List Nat) : List (Str × Nat) := own.map fun i => ((N[i]?).getD (Str.ofString ""), i)
mutual
def mE (sc : Scope) (fn : Str → Bool) : E → Expr → Bool
  | .var i, e => match e with | .Name x _ => mNm N sc i x | _ => false
  | .mv i, e => match e with | .Name x _ => mNm N sc i x | _ => false
  | .fz i, e => match e with | .Name x _ => mNm N sc i x | _ => false
  | .pth i k, e => match e with | .Subscript (.Name x _) (.Constant (.int j) _ _) _ => mNm N sc i x && j == (k : Int) | _ => false
  | .cst d, e => match e with | .Constant c _ _ => mC d c | _ => false
  | .non, e => false
  | .glo g, e => match e with | .Name x _ => T.gls[g]? == some x && glb sc x | _ => false
  | .bin o a b, e => match e with | .BinOp x op y _ => decide (op = opB o) && (mE sc fn a x && (mE sc fn b y && ord a b)) | _ => false
  | .neg a, e => match e with | .UnaryOp .USub x _ => mE sc fn a x | _ => false
  | .cmp o a b, e => match e with | .Compare x [op] [y] _ => decide (op = opC o) && (mE sc fn a x && (mE sc fn b y && ord a b)) | _ => false
  | .chn o1 o2 a b c, e => match e with | .Compare x [op1, op2] [y, z] _ => decide (op1 = opC o1) && (decide (op2 = opC o2) && (mE sc fn a x && (mE sc fn b y && (mE sc fn c z && (ord a b && ord b c))))) | _ => false
  | .and_ es, e => match e with | .BoolOp .And xs _ => mEs sc fn es xs && neNil es | _ => false
  | .or_ es, e => match e with | .BoolOp .Or xs _ => mEs sc fn es xs && neNil es | _ => false
  | .not_ a, e => match e with | .UnaryOp .Not x _ => mE sc fn a x | _ => false
  | .ite c a b, e => match e with | .IfExp x y z _ => mE sc fn c x && (mE sc fn a y && (mE sc fn b z && okT c)) | _ => false
  | .tup es, e => match e with | .Tuple xs _ _ => mEs sc fn es xs && decide (xs.length ≤ 1000) | _ => false
  | .lst es, e => match e with | .List xs _ => mEs sc fn es xs && decide (xs.length ≤ 1000) | _ => false
  | .dct es, e => match e with | .Dict ks vs _ => mDct sc fn es ks vs && decide (ks.length ≤ 15) | _ => false
  | .tdc a b, e => match e with | .Dict [some x] [y] _ => mE sc fn a x && mE sc fn b y | _ => false
  | .idx a b, e => match e with | .Subscript x y _ => mE sc fn a x && (mE sc fn b y && ord a b) | _ => false
  | .slc a lo hi, e => match e with | .Subscript x (.Slice l h none _) _ => mE sc fn a x && (optM lo (mE sc fn lo) l && (optM hi (mE sc fn hi) h && !isPth a)) | _ => false
  | .call f es, e => match e with | .Call (.Name x _) xs [] _ => T.fns[f]? == some x && (glb sc x && mEs sc fn es xs) | _ => false
  | .blt b es, e => match e with
    | .Call (.Name x _) xs [] _ => x == nmF b && (T.bls.contains x && (glb sc x && (match isiT b with
      | none => mEs sc fn es xs && opsOk es
      | some t => match xs with | [y, .Name z _] => z == t && (T.bls.contains z && (glb sc z && (mEs sc fn es [y] && one1 es))) | _ => false)))
    | _ => false
  | .sp k es, e => match spA T sc k e with | some xs => mEs sc fn es xs && spOk k es | none => false
  | .met m a es, e => match e with | .Call (.Attribute o x ap) xs [] cp => x == nmM m && (mE sc fn a o && (mEs sc fn es xs && ((!isPth a || stills es) && ((ap.endLine == cp.line) && (recvOk o && decide (xs.length ≤ 20)))))) | _ => false
  | .lc own t tt it c e, x => match x with
    | .ListComp el [⟨tg, iter, ifs, 0⟩] scope _ =>
      mIt sc fn it iter && (blkC N sc scope (ownN N own) && (mTg N (relSc scope sc) (fun y => scope.names.lookup y == some .cell) t tt tg && (mE (relSc scope sc) (fun y => scope.names.lookup y == some .cell) e el &&
        ((match ifs with
        | [] => cTrue c
        | [f] => mE (relSc scope sc) (fun y => scope.names.lookup y == some .cell) c f && okT c
        | _ => false) && ((t.all fun i => own.contains i) && (((refsI it).all fun i => !own.contains i) && itOk it tt))))))
    | _ => false
def mEs (sc : Scope) (fn : Str → Bool) : Es → List Expr → Bool
  | .nil, xs => match xs with | [] => true | _ => false
  | .cons e es, xs => match xs with | x :: r => mE sc fn e x && mEs sc fn es r | _ => false
def mDct (sc : Scope) (fn : Str → Bool) : Es → List (Option Expr) → List Expr → Bool
  | .nil, ks, vs => match ks, vs with | [], [] => true | _, _ => false
  | .cons k (.cons v es), ks, vs => match ks, vs with | some x :: ks, y :: vs => mE sc fn k x && (mE sc fn v y && mDct sc fn es ks vs) | _, _ => false
  | .cons _ .nil, _, _ => false
def mIt (sc : Scope) (fn : Str → Bool) : It → Expr → Bool
  | .seq a, e => mE sc fn a e && !isPth a
  | .rng1 a, e => match e with | .Call (.Name x _) [y] [] _ => x == ("range" : Str) && (T.bls.contains x && glb sc x && mE sc fn a y) | _ => false
  | .rng2 a b, e => match e with | .Call (.Name x _) [y, z] [] _ => x == ("range" : Str) && (T.bls.contains x && glb sc x && (mE sc fn a y && mE sc fn b z)) | _ => false
  | .enum a, e => match e with | .Call (.Name x _) [y] [] _ => x == ("enumerate" : Str) && (T.bls.contains x && glb sc x && (mE sc fn a y && !isPth a)) | _ => false
  | .zip2 a b, e => match e with | .Call (.Name x _) [y, z] [] _ => x == ("zip" : Str) && (T.bls.contains x && glb sc x && (mE sc fn a y && (mE sc fn b z && (!isPth a && !isPth b)))) | _ => false
end
end
end AW

/-! AWSeq: extend and * over any list that is read. -/
namespace AW
open PySem L2 PyProof.Rows
theorem extW (l b : Addr) (xs ys : Array Value) (n m : Nat) (dd : Option Addr) (sl : Array (Option Value)) (h0 : ¬(!xs.isEmpty && Builtin.List.listTooLong (xs.size + ys.size)) = true) (h1 : xs.size ≤ sizeLine) (h2 : xs.size + ys.size ≤ sizeLine + 1) :
    Meets (Builtin.«list.extend» ⟨[.ref l, .ref b], []⟩) (fun _ R s => (s.heap.get? l = some { cls := .type "list", data := .seq xs n } ∧ s.heap.get? b = some { cls := .type "list", dict := dd, data := .seq ys m, slots := sl }) ∧ R (.ok (.ret Value.none)) { s with heap := s.heap.update l (Obj.mapSeq fun x => x ++ ys), toks := s.toks }) := by
  refine .of_wp fun prog w A R s h => ?_
  obtain ⟨hp, g, d, tk, os⟩ := s
  obtain ⟨⟨hl, hb⟩, h⟩ := h
  have i1 := AutoSeq1.idx_int
  have i2 := AutoSeq1.sub_tuple_tuple
  have i3 := AutoSeq1.sub_list_list
  have i4 := AutoSeq1.sub_tuple_list
  have i5 := AutoSeq1.sub_list_tuple
  have hz' : (xs ++ ys).size ≤ sizeLine + 1 := by
    rw [Array.size_append]
    exact h2
  wp_walk using (wpAny_updateSeq hl rfl (hz := h1) (_hz' := hz')), AutoSeq1.wpAny_loadPart' hl, AutoSeq1.wpAny_loadPart' hb
  exact ⟨_, rfl, h⟩
section
variable {X : Cx}
def rExtL (K : PySem.W.Frag) : V → List V → Hp → VK → Prop := fun x vs H Q => ∃ l b xs zs, x = .ref l ∧ vs = [.ref b] ∧ H l = some (.lst xs) ∧ SqL K H b zs ∧ xs.length + zs.length ≤ sizeLine ∧ Q .non (upd H l (.lst (xs ++ zs)))
theorem mt_extL : MtM X "list.extend" (rExtL X.K) := by
  intro pins s σ H x vs v us Q I rx rv h
  obtain ⟨l, b, xs, zs, rfl, rfl, hH, hB, hz, q⟩ := h
  cases rx
  obtain ⟨u, rfl, ru⟩ := rv.one
  cases ru
  obtain ⟨z, its, n, r, hl, e⟩ := I.lstM hH
  obtain ⟨its2, r2, pl2, hl2⟩ := I.list hB
  obtain ⟨⟨cls2, dd2, data2, sl2⟩, ho2, hc2, n2, hd2⟩ := pl2.isList
  simp only at hc2 hd2
  subst hc2 hd2
  have len2 := r2.length
  have hsz : its.toArray.size + its2.toArray.size ≤ sizeLine := by
    rw [List.size_toArray, List.size_toArray]
    omega
  have hlong : ¬(!its.toArray.isEmpty && Builtin.List.listTooLong (its.toArray.size + its2.toArray.size)) = true := by
    rw [notLongL hsz, Bool.and_false]
    exact Bool.false_ne_true
  refine call_meets PySem.F.slot_list_extend ⟨_, e, rfl⟩ PySem.F.entry_list_extend (PySem.F.args_list_extend_2 _ _) (extW l b its.toArray its2.toArray n n2 dd2 sl2 hlong (by rw [List.size_toArray]; omega) (by omega)) ⟨⟨e, ho2⟩, ?_⟩
  refine ⟨.non, _, I.lset (its' := its ++ its2) hH e (by simp) (r.append r2) ?_, rfl, q⟩
  rw [List.length_append]
  omega
end
/-! ### a list times an int -/
theorem rmulW (k : Int) (t : Tok) (l : Addr) (xs : Array Value) (n : Nat) (dd : Option Addr) (sl : Array (Option Value)) :
    Meets (Builtin.«int.__rmul__» ⟨[.int k t, .ref l], []⟩) (fun _ R s => s.heap.get? l = some { cls := .type "list", dict := dd, data := .seq xs n, slots := sl } ∧ R (.ok (.ret Value.notImplemented)) s) := by
  refine .of_wp fun prog w A R s h => ?_
  obtain ⟨hp, g, d, tk, os⟩ := s
  obtain ⟨hl, h⟩ := h
  wp_walk
  exact ⟨_, rfl, h⟩
theorem mulW (l : Addr) (xs : Array Value) (n : Nat) (dd : Option Addr) (sl : Array (Option Value)) (k : Int) (t : Tok) (h0 : ¬(!Builtin.List.listFitsIndex k) = true) (h1 : ¬xs.size * k.toNat > (2 ^ 63 - 1) / 8) (h2 : ¬Builtin.List.listTooLong (xs.size * k.toNat) = true) :
    Meets (Builtin.«list.__mul__» ⟨[.ref l, .int k t], []⟩) (fun _ R s => s.heap.get? l = some { cls := .type "list", dict := dd, data := .seq xs n, slots := sl } ∧ R (.ok (.ret (Value.ref s.heap.objs.size))) { s with heap := s.heap.push { cls := .type "list", data := .seq (List.foldl (fun x1 x2 => x1 ++ x2) #[] (List.replicate (if xs.isEmpty = true then 0 else k.toNat) xs)) }, toks := s.toks }) := by
  refine .of_wp fun prog w A R s h => ?_
  obtain ⟨hp, g, d, tk, os⟩ := s
  obtain ⟨hl, h⟩ := h
  have hsz := AutoListH.joined_fits h2
  wp_walk
  refine wpAny_ite_false (decide_eq_false (Nat.not_lt.mpr hsz)) ?_
  wp_walk
  exact ⟨_, rfl, h⟩
section
variable {X : Cx}
def rRepL (K : PySem.W.Frag) : R2 := fun x y H Q => ∃ l k xs, x = .ref l ∧ y = .int k ∧ SqL K H l xs ∧ -(2 ^ 63) ≤ k ∧ k < 2 ^ 63 ∧ xs.length * k.toNat ≤ sizeLine ∧ ∀ p, H p = none → Q (.ref p) (upd H p (.lst (List.replicate k.toNat xs).flatten))
theorem op_repL : OpR X (binaryOp .Mult) (rRepL X.K) := by
  intro pins s σ H x y v u Q I rx ry h
  obtain ⟨l, k, xs, rfl, rfl, hH, h1, h2, hz, q⟩ := h
  cases rx
  obtain ⟨t, rfl⟩ := ry
  obtain ⟨its, r, pl, hl2⟩ := I.list hH
  obtain ⟨⟨cls, dd, data, sl⟩, e, hc, n, hd⟩ := pl.isList
  simp only at hc hd
  subst hc hd
  have hl := r.length
  have hlen : its.toArray.size * k.toNat ≤ sizeLine := by
    rw [List.size_toArray, ← hl]
    exact hz
  have hcap : ¬its.toArray.size * k.toNat > (2 ^ 63 - 1) / 8 := by
    have z : (sizeLine : Nat) ≤ (2 ^ 63 - 1) / 8 := by decide
    omega
  have hfit : ¬(!Builtin.List.listFitsIndex k) = true := by
    rw [fitsIndex_both h1 h2]
    exact Bool.false_ne_true
  have hlong : ¬Builtin.List.listTooLong (its.toArray.size * k.toNat) = true := by
    rw [notLongL hlen]
    exact Bool.false_ne_true
  have f0 : ∀ m : Nat, List.foldl (fun x1 x2 => x1 ++ x2) #[] (List.replicate m its.toArray) = (List.replicate m its).flatten.toArray := fun m => by
    have z := foldl_rep its m []
    rw [List.nil_append] at z
    exact z
  have hnew : List.foldl (fun x1 x2 => x1 ++ x2) #[] (List.replicate (if its.toArray.isEmpty = true then 0 else k.toNat) its.toArray) = (List.replicate k.toNat its).flatten.toArray := by
    rw [f0]
    cases its with
    | nil => simp
    | cons a r' => rw [if_neg (by simp)]
  refine wpAny_binaryOp_repeat_ref (T := "list") (U := "int") (by decide) ⟨_, e, rfl⟩ (fun s' => typeIs_int s' k t) noFill_list_mul PySem.F.fills_int_mul PySem.F.slot_int_rmul repeat_list PySem.F.slot_int_index.lookup
    (call_meets PySem.F.slot_int_rmul (typeIs_int s k t) PySem.F.entry_int_rmul (PySem.F.args_int_rmul_2 _ _) (rmulW k t l its.toArray n dd sl) ⟨e, rfl, ⟨_, e, rfl⟩, call_meets PySem.F.slot_list_mul ⟨_, e, rfl⟩ PySem.F.entry_list_mul (PySem.F.args_list_mul_2 _ _) (mulW l its.toArray n dd sl k t hfit hcap hlong) ⟨e, ?_⟩⟩)
  rw [hnew]
  exact ⟨.ref _, _, I.lnew (t' := s.toks) (r.rep k.toNat) (by rw [PyProof.Rows.lm_len_rep_flat, Nat.mul_comm]; exact hz), rfl, q _ I.fresh⟩
end
end AW

/-! AWOps: the operators by values. -/
namespace AW
open PySem L2 PyProof.Rows

/-- an answer d: a value for it, the heap only grown, what is owned in it new -/
def Res (K : PySem.W.Frag) (F H : Hp) (d : D) (Qk : VK) : Prop := ∀ v H' T, Ex H H' → Rp K F H' d v T → (∀ a, T a → H a = none ∧ H' a ≠ none) → Qk v H'
section
variable {K : PySem.W.Frag} {F H : Hp} {d : D} {v : V} {Qk : VK}
theorem Res.flat (r : Res K F H d Qk) (h : Rp K F H d v No) : Qk v H := r v H No (Ex.refl H) h fun _ q => q.elim
theorem Res.flat' (r : Res K F H d Qk) {S : AS} (n : noOwn d = true) (h : Rp K F H d v S) : Qk v H := r.flat (Rp.free _ _ _ n h)
theorem Res.list {ds : List D} {vs : List V} (r : Res K F H (.lst true ds) Qk) {S : AS} (n : noOwns ds = true) (h : RpL K F H ds vs S) : ∀ p, H p = none → Qk (.ref p) (upd H p (.lst vs)) := fun p hp => by
  refine r (.ref p) _ (fun a => a = p) (Ex.new hp) ⟨p, vs, rfl, ?_, ?_⟩ (fun a e => ?_)
  · rw [if_pos rfl]
    exact ⟨rfl, upd_same⟩
  · exact RpL.mono (Ex.refl F) (Ex.new hp).tu _ _ No _ (fun _ q => q.elim) (fun _ _ q => q.elim) (RpL.free _ _ _ n h)
  · subst e
    exact ⟨hp, by rw [upd_same]; intro z; cases z⟩
theorem Res.tup {ds : List D} {vs : List V} (r : Res K F H (.tup ds) Qk) {S : AS} (n : noOwns ds = true) (h : RpL K F H ds vs S) : ∀ p, H p = none → Qk (.ref p) (upd H p (.tup vs)) := fun p hp => by
  refine r (.ref p) _ No (Ex.new hp) ⟨p, vs, rfl, SqT.of upd_same, ?_⟩ (fun a e => e.elim)
  exact RpL.mono (Ex.refl F) (Ex.new hp).tu _ _ No _ (fun _ q => q.elim) (fun _ _ q => q.elim) (RpL.free _ _ _ n h)
theorem Rp.lstL {o : Bool} {ds : List D} {S : AS} (eF : Ex F H) (h : Rp K F H (.lst o ds) v S) : ∃ p vs, v = .ref p ∧ SqL K H p vs ∧ RpL K F H ds vs S := by
  obtain ⟨p, vs, e, ht, hl⟩ := h
  refine ⟨p, vs, e, ?_, RpL.mono (Ex.refl F) (Tu.refl H) _ _ _ _ (fun a q => q.1) (fun _ _ _ q => q) hl⟩
  cases o with
  | true =>
    rw [if_pos rfl] at ht
    exact SqL.of ht.2
  | false =>
    rw [if_neg (by decide)] at ht
    exact ex_l eF ht
mutual
theorem Rp.dp (eF : Ex F H) : ∀ (d : D) (v : V) (S : AS), isP d = true → Rp K F H d v S → Dp K H v (toP d)
  | .non, _, _, _, h => by
    cases h
    exact .non
  | .bl b, _, _, _, h => by
    cases h
    exact .bl b
  | .int i, _, _, _, h => by
    cases h
    exact .int i
  | .str cs, _, _, _, h => by
    cases h
    exact .str _
  | .tup ds, v, S, n, h => by
    obtain ⟨p, vs, e, ht, hl⟩ := h
    subst e
    exact .tup ht (RpL.dp eF ds vs S n hl)
  | .lst o ds, v, S, n, h => by
    obtain ⟨p, vs, e, ht, hl⟩ := Rp.lstL eF h
    subst e
    have h' := h
    obtain ⟨q, ws, e, _, hl'⟩ := h'
    exact .lst ht (RpL.dp eF ds vs S n hl)
  | .dic o ks ds, _, _, n, _ => by cases n
  | .ins _ _, _, _, n, _ => by cases n
  | .fn _, _, _, n, _ => by cases n
theorem RpL.dp (eF : Ex F H) : ∀ (ds : List D) (vs : List V) (S : AS), isPs ds = true → RpL K F H ds vs S → DpAll K H vs (toPs ds)
  | [], _, _, _, h => by
    cases h
    exact .nil
  | d :: ds, vs, S, n, h => by
    obtain ⟨v, r, S1, S2, e, s1, s2, dj, h1, h2⟩ := h
    subst e
    rw [isPs, Bool.and_eq_true] at n
    exact .cons (Rp.dp eF d v S1 n.1 h1) (RpL.dp eF ds r S2 n.2 h2)
end
theorem tx_len (cs : List Nat) : (tx cs).length = cs.length := by
  show (cs.toArray).size = cs.length
  exact List.size_toArray
theorem tx_app (a b : List Nat) : tx a ++ tx b = tx (a ++ b) := by
  show Str.append _ _ = _
  first
    | rfl
    | (unfold Str.append; simp [tx])
    | simp [Str.append, tx]
end

section
variable {X : Cx} {F H : Hp} {d : D} {v : V} {Qk : VK}
def rCatL (K : PySem.W.Frag) : R2 := fun x y H Q => ∃ l b xs zs, x = .ref l ∧ y = .ref b ∧ SqL K H l xs ∧ SqL K H b zs ∧ xs.length + zs.length ≤ sizeLine ∧ ∀ p, H p = none → Q (.ref p) (upd H p (.lst (xs ++ zs)))
theorem op_catL : OpR X (binaryOp .Add) (rCatL X.K) := by
  intro pins s σ H x y v u Q I rx ry h
  obtain ⟨l, b, xs, zs, rfl, rfl, hH, hB, hz, q⟩ := h
  cases rx
  cases ry
  obtain ⟨its, r, pl, hl⟩ := I.list hH
  obtain ⟨its2, r2, pl2, hl2⟩ := I.list hB
  obtain ⟨⟨cls, dd, data, sl⟩, ho, hc, n, hd⟩ := pl.isList
  obtain ⟨⟨cls2, dd2, data2, sl2⟩, ho2, hc2, n2, hd2⟩ := pl2.isList
  simp only at hc hd hc2 hd2
  subst hc hd hc2 hd2
  have e : its.toArray ++ its2.toArray = (its ++ its2).toArray := by simp
  have l1 := r.length
  have l2 := r2.length
  refine concat_meets ⟨_, ho, rfl⟩ ⟨_, ho2, rfl⟩ noFill_list_add seq_list_add PySem.F.slot_list_add PySem.F.entry_list_add (PySem.F.args_list_add_2 _ _) (list_addW l b its.toArray its2.toArray n n2 dd dd2 sl sl2 (by simp; omega)) ⟨ho, ho2, ?_⟩
  rw [e]
  exact ⟨.ref _, _, I.lnew (t' := s.toks) (r.append r2) (by rw [List.length_append]; omega), rfl, q _ I.fresh⟩
theorem op_powB : OpR X (binaryOp .Pow) (rI (fun i j => 0 ≤ j ∧ (Builtin.Int.intBits i : Int) * j ≤ 2 ^ 27) fun i j => .int (i ^ j.toNat)) := opI fun _ _ _ _ _ _ _ hc q => pow_int hc.1 hc.2 q

theorem mulOk_ok {i j : Int} (h : mulOk i j = true) : CMul i j := by
  unfold mulOk at h
  have z := of_decide_eq_true h
  exact z
theorem divOk_ok {i j : Int} (h : divOk j = true) : CDivW i j := by
  unfold divOk at h
  have z := of_decide_eq_true h
  exact z
theorem shlOk_ok {i j : Int} (h : shlOk i j = true) : CPow i j := by
  unfold shlOk at h
  have z := of_decide_eq_true h
  exact z
theorem powOk_ok {i j : Int} (h : powOk i j = true) : 0 ≤ j ∧ (Builtin.Int.intBits i : Int) * j ≤ 2 ^ 27 := by
  unfold powOk at h
  have z := of_decide_eq_true h
  exact z
/-- the answers of an operation on two data -/
def rBin (K : PySem.W.Frag) (f : D → D → Option D) : R2 := fun x y H Qk => ∃ F d1 d2 d S1 S2, Ex F H ∧ Rp K F H d1 x S1 ∧ Rp K F H d2 y S2 ∧ f d1 d2 = some d ∧ Res K F H d Qk
theorem noOwns_app {xs ys : List D} (h1 : noOwns xs = true) (h2 : noOwns ys = true) : noOwns (xs ++ ys) = true := by
  induction xs with
  | nil => exact h2
  | cons a r ih =>
    rw [noOwns, Bool.and_eq_true] at h1
    show (noOwn a && noOwns (r ++ ys)) = true
    rw [h1.1, ih h1.2]
    rfl
theorem noOwns_rep {xs : List D} (n : Nat) (h : noOwns xs = true) : noOwns (List.replicate n xs).flatten = true := by
  induction n with
  | zero => rfl
  | succ n ih =>
    rw [List.replicate_succ, List.flatten_cons]
    exact noOwns_app h ih
theorem RpL.rep {K : PySem.W.Frag} {xs : List D} {vs : List V} (n : Nat) (h : RpL K F H xs vs No) : RpL K F H (List.replicate n xs).flatten (List.replicate n vs).flatten No := by
  induction n with
  | zero => exact rfl
  | succ n ih =>
    rw [List.replicate_succ, List.flatten_cons, List.replicate_succ, List.flatten_cons]
    exact RpL.append h ih (fun _ q => q.elim) (fun _ q => q) (fun _ q => q)
theorem op_bin (o : BO) : OpR X (binaryOp (opB o)) (rBin X.K (dBin o)) := by
  intro pins s σ H x y v u Q I rx ry h
  obtain ⟨F, d1, d2, d, S1, S2, eF, h1, h2, hf, res⟩ := h
  have go : ∀ {r : R2}, OpR X (binaryOp (opB o)) r → r x y H Q → wpAny (model X.prog X.w) X.A (binaryOp (opB o) v u) (EP X pins σ Q) X.xe s := fun hr q => hr pins s σ H x y v u Q I rx ry q
  cases o with
  | add =>
    have hf : dAdd d1 d2 = some d := hf
    unfold dAdd at hf
    split at hf
    · split at hf
      · cases h1; cases h2; cases hf
        exact go op_add ⟨_, _, rfl, rfl, res.flat rfl⟩
      · cases hf
    · split at hf
      · split at hf
        · rename_i hz
          cases h1; cases h2; cases hf
          refine go op_add_str ⟨_, _, rfl, rfl, ?_, res.flat ?_⟩
          · rw [tx_len, tx_len]
            exact hz
          · rw [tx_app]
            rfl
        · cases hf
      · cases hf
    · split at hf
      · split at hf
        · rename_i hz
          cases hf
          simp only [Bool.and_eq_true, decide_eq_true_eq] at hz
          obtain ⟨p, vs, e1, l1, r1⟩ := Rp.lstL eF h1
          obtain ⟨q, ws, e2, l2, r2⟩ := Rp.lstL eF h2
          subst e1; subst e2
          refine go op_catL ⟨_, _, _, _, rfl, rfl, l1, l2, ?_, res.list (noOwns_app hz.1.1 hz.1.2) (RpL.append (U := No) (RpL.free _ _ _ hz.1.1 r1) (RpL.free _ _ _ hz.1.2 r2) (fun _ q => q.elim) (fun _ q => q.elim) (fun _ q => q.elim))⟩
          rw [← r1.len, ← r2.len]
          exact hz.2
        · cases hf
      · cases hf
    · split at hf
      · split at hf
        · rename_i hz
          cases hf
          simp only [Bool.and_eq_true, decide_eq_true_eq] at hz
          obtain ⟨p, vs, e1, l1, r1⟩ := id h1
          obtain ⟨q, ws, e2, l2, r2⟩ := id h2
          subst e1; subst e2
          refine go op_catA ⟨_, _, _, _, rfl, rfl, l1, l2, ?_, fun hx => ?_, fun hx hy => ?_, fun _ _ => res.tup (noOwns_app hz.1.1 hz.1.2) (RpL.append (U := No) (RpL.free _ _ _ hz.1.1 r1) (RpL.free _ _ _ hz.1.2 r2) (fun _ q => q.elim) (fun _ q => q.elim) (fun _ q => q.elim))⟩
          · rw [← r1.len, ← r2.len]
            exact hz.2
          · subst hx
            have e := r1.len
            have e3 := List.length_eq_zero_iff.mp e
            subst e3
            exact res.flat ⟨_, _, rfl, l2, RpL.free _ _ _ hz.1.2 r2⟩
          · subst hy
            have e := r2.len
            have e3 := List.length_eq_zero_iff.mp e
            subst e3
            refine res.flat ⟨_, _, rfl, l1, ?_⟩
            rw [List.append_nil]
            exact RpL.free _ _ _ hz.1.1 r1
        · cases hf
      · cases hf
    · cases hf
  | sub =>
    obtain ⟨i, j, rfl, rfl, hg⟩ := int2_inv hf
    cases h1; cases h2; cases hg
    exact go op_sub ⟨i, j, rfl, rfl, res.flat rfl⟩
  | mul =>
    have hf : dMul d1 d2 = some d := hf
    unfold dMul at hf
    split at hf
    · split at hf
      · split at hf
        · rename_i hz
          cases h1; cases h2; cases hf
          exact go op_mul ⟨_, _, rfl, rfl, mulOk_ok hz, res.flat rfl⟩
        · cases hf
      · cases hf
    · split at hf
      · split at hf
        · rename_i hz
          cases hf
          simp only [Bool.and_eq_true, decide_eq_true_eq] at hz
          obtain ⟨p, vs, e1, l1, r1⟩ := Rp.lstL eF h1
          subst e1
          cases h2
          have r0 := RpL.free _ _ _ hz.1 r1
          refine go op_repL ⟨_, _, _, rfl, rfl, l1, hz.2.1, hz.2.2.1, ?_, res.list (noOwns_rep _ hz.1) (RpL.rep _ r0)⟩
          rw [← r1.len]
          exact hz.2.2.2
        · cases hf
      · cases hf
    · cases hf
  | fdiv =>
    obtain ⟨i, j, rfl, rfl, hg⟩ := int2_inv hf
    cases h1; cases h2
    split at hg
    · rename_i hz
      cases hg
      exact go op_fdivW ⟨i, j, rfl, rfl, divOk_ok hz, res.flat rfl⟩
    · cases hg
  | mod =>
    obtain ⟨i, j, rfl, rfl, hg⟩ := int2_inv hf
    cases h1; cases h2
    split at hg
    · rename_i hz
      cases hg
      exact go op_mod ⟨i, j, rfl, rfl, hz, res.flat rfl⟩
    · cases hg
  | pow =>
    obtain ⟨i, j, rfl, rfl, hg⟩ := int2_inv hf
    cases h1; cases h2
    split at hg
    · rename_i hz
      cases hg
      exact go op_powB ⟨i, j, rfl, rfl, powOk_ok hz, res.flat rfl⟩
    · cases hg
  | shl =>
    obtain ⟨i, j, rfl, rfl, hg⟩ := int2_inv hf
    cases h1; cases h2
    split at hg
    · rename_i hz
      cases hg
      exact go op_shl ⟨i, j, rfl, rfl, shlOk_ok hz, res.flat rfl⟩
    · cases hg
  | band =>
    obtain ⟨i, j, rfl, rfl, hg⟩ := int2_inv hf
    cases h1; cases h2; cases hg
    exact go op_and ⟨i, j, rfl, rfl, res.flat rfl⟩
  | bor =>
    obtain ⟨i, j, rfl, rfl, hg⟩ := int2_inv hf
    cases h1; cases h2; cases hg
    exact go op_or ⟨i, j, rfl, rfl, res.flat rfl⟩
  | bxor =>
    obtain ⟨i, j, rfl, rfl, hg⟩ := int2_inv hf
    cases h1; cases h2; cases hg
    exact go op_xor ⟨i, j, rfl, rfl, res.flat rfl⟩
end
end AW

/-! AWTab: dicts whose keys are tuples of whole numbers (of any depth up to eight), by the kit's nested keys. -/
namespace AW
open PySem L2 PyProof.Rows
mutual
theorem hash_num : ∀ (d : D) (k : NestedKey), nkOf d = some k → ∀ w w' : World, k.hash w = k.hash w'
  | .int i, k, h, w, w' => by
    cases h
    rfl
  | .tup ds, k, h, w, w' => by
    obtain ⟨ks, h1, h2⟩ := Option.map_eq_some_iff.mp (show (nksOf ds).map NestedKey.tup = some k from h)
    subst h2
    show reduceHash (Builtin.Tuple.tupleHashOf (NestedKey.hashes w ks)) = reduceHash (Builtin.Tuple.tupleHashOf (NestedKey.hashes w' ks))
    rw [hashes_num ds ks h1 w w']
  | .non, k, h, _, _ => by cases h
  | .bl _, k, h, _, _ => by cases h
  | .str _, k, h, _, _ => by cases h
  | .lst _ _, k, h, _, _ => by cases h
  | .dic _ _ _, k, h, _, _ => by cases h
  | .dtp _ _ _, k, h, _, _ => by cases h
  | .ins _ _, k, h, _, _ => by cases h
  | .fn _, k, h, _, _ => by cases h
theorem hashes_num : ∀ (ds : List D) (ks : List NestedKey), nksOf ds = some ks → ∀ w w' : World, NestedKey.hashes w ks = NestedKey.hashes w' ks
  | [], ks, h, w, w' => by
    cases h
    rfl
  | d :: ds, ks, h, w, w' => by
    obtain ⟨k, h1, h2⟩ := Option.bind_eq_some_iff.mp (show (nkOf d).bind (fun k => (nksOf ds).map (k :: ·)) = some ks from h)
    obtain ⟨r, h3, h4⟩ := Option.map_eq_some_iff.mp h2
    subst h4
    show k.hash w :: NestedKey.hashes w r = k.hash w' :: NestedKey.hashes w' r
    rw [hash_num d k h1 w w', hashes_num ds r h3 w w']
end
section
variable {X : Cx} {pins : List (Addr × Obj)} {σ : L2.St} {F H : Hp} {s : Shared}
mutual
theorem nk_is (I : Inv X pins σ H s) : ∀ (d : D) (k : NestedKey) (v : V) (S : AS) (u : Value), nkOf d = some k → Rp X.K F H d v S → RelV v u → NestedIs s.heap k u
  | .int i, k, v, S, u, h, r, q => by
    cases h
    cases r
    obtain ⟨t, rfl⟩ := (show ∃ t, u = Value.int i t from q)
    exact .int i t
  | .tup ds, k, v, S, u, h, r, q => by
    obtain ⟨ks, h1, h2⟩ := Option.map_eq_some_iff.mp (show (nksOf ds).map NestedKey.tup = some k from h)
    subst h2
    obtain ⟨p, vs, e, ht, hl⟩ := r
    subst e
    obtain rfl : u = Value.ref p := q
    obtain ⟨its, rv, ⟨o, ho, hc, n, hd⟩, _⟩ := I.tuple ht
    exact .tup ho hc hd (by simpa using nks_is I ds ks vs S its h1 hl rv)
  | .non, k, _, _, _, h, _, _ => by cases h
  | .bl _, k, _, _, _, h, _, _ => by cases h
  | .str _, k, _, _, _, h, _, _ => by cases h
  | .lst _ _, k, _, _, _, h, _, _ => by cases h
  | .dic _ _ _, k, _, _, _, h, _, _ => by cases h
  | .dtp _ _ _, k, _, _, _, h, _, _ => by cases h
  | .ins _ _, k, _, _, _, h, _, _ => by cases h
  | .fn _, k, _, _, _, h, _, _ => by cases h
theorem nks_is (I : Inv X pins σ H s) : ∀ (ds : List D) (ks : List NestedKey) (vs : List V) (S : AS) (us : List Value), nksOf ds = some ks → RpL X.K F H ds vs S → Vals vs us → NestedAll s.heap ks us
  | [], ks, vs, S, us, h, r, q => by
    cases h
    cases r
    cases q
    exact .nil
  | d :: ds, ks, vs, S, us, h, r, q => by
    obtain ⟨k, h1, h2⟩ := Option.bind_eq_some_iff.mp (show (nkOf d).bind (fun k => (nksOf ds).map (k :: ·)) = some ks from h)
    obtain ⟨r', h3, h4⟩ := Option.map_eq_some_iff.mp h2
    subst h4
    obtain ⟨v, rr, S1, S2, e, s1, s2, dj, g1, g2⟩ := r
    subst e
    cases q with
    | cons q1 q2 => exact .cons (nk_is I d k v S1 _ h1 g1 q1) (nks_is I ds r' rr S2 _ h3 g2 q2)
end
/-- what a tracked table is in the heap -/
theorem tab_rd {p : Addr} {ep : Nat} {ks : List D} {xs : List (NestedKey × Addr × Value)} (I : Inv X pins σ H s) (hp : H p = some (tab p ep xs)) (hk : KtOk p ks xs) (hl : RpL X.K F H ks (xs.map kref) No) : s.heap.DictOfH (nestedKind X.prog X.w) p xs := by
  obtain ⟨⟨o, es, h1, h2, h3, h4⟩, _, _⟩ := (show ObjOk X.prog X.w H s.heap p (tab p ep xs) from I.hok p _ hp)
  refine ⟨o, es, ep, h1, h2, h3, h4 X.w, fun x hx => ⟨?_, hk.dp x hx⟩, hk.nd⟩
  obtain ⟨i, hi⟩ := List.getElem?_of_mem hx
  have hn := congrArg (·[i]?) hk.ns
  simp only [List.getElem?_map, hi, Option.map_some] at hn
  obtain ⟨d, hd, hn2⟩ := Option.map_eq_some_iff.mp hn
  obtain ⟨v, S1, g1, g2, g3⟩ := RpL.get hl hd
  rw [List.getElem?_map, hi] at g1
  cases g1
  exact nk_is I d x.1 _ S1 _ hn2 g3 rfl
/-- an empty dict is a table of any kind -/
theorem emp_rd {p : Addr} (I : Inv X pins σ H s) (hp : Rd H p (.dK [])) : (p == sysModules) = false ∧ s.heap.DictOfH (nestedKind X.prog X.w) p [] := by
  obtain ⟨_, hs, vs, kv, o, es, ep, h1, h2, h3, _, h5, _⟩ := dk_rd I.hok hp
  cases kv
  have e : es.toList = [] := by
    generalize es.toList = l at h5
    cases h5
    rfl
  exact ⟨hs, o, es, ep, h1, h2, h3, by rw [e]; rfl, fun x hx => (by cases hx), by simp⟩
end
section
variable {K : PySem.W.Frag} {F H : Hp} {v : V}
theorem Rp.dtpL {o : Bool} {ks ds : List D} {S : AS} (eF : Ex F H) (h : Rp K F H (.dtp o ks ds) v S) : ∃ p ep xs us, v = .ref p ∧ H p = some (tab p ep xs) ∧ KtOk p ks xs ∧ Vals us (xs.map (·.2.2)) ∧ RpL K F H ks (xs.map kref) No ∧ RpL K F H ds us S := by
  obtain ⟨p, ep, xs, us, e, ht, hk, hu, hkl, hl⟩ := h
  refine ⟨p, ep, xs, us, e, ?_, hk, hu, hkl, RpL.mono (Ex.refl F) (Tu.refl H) _ _ _ _ (fun a q => q.1) (fun _ _ _ q => q) hl⟩
  cases o with
  | true =>
    rw [if_pos rfl] at ht
    exact ht.2
  | false =>
    rw [if_neg (by decide)] at ht
    exact eF _ _ ht
theorem isTK_inv {x : D} (h : isTK x = true) : ∃ k, nkOf x = some k ∧ k.depth ≤ 8 ∧ ∃ ds, x = .tup ds := by
  unfold isTK at h
  split at h
  · rename_i ks e
    refine ⟨_, e, of_decide_eq_true h, ?_⟩
    cases x with
    | tup ds => exact ⟨ds, rfl⟩
    | int i => cases e
    | _ => cases e
  · cases h
theorem atKey_pos {x : NestedKey × Addr × Value} {xs : List (NestedKey × Addr × Value)} {k : NestedKey} (e : x.1 = k) : atKey (x :: xs) k = some x.2 := by
  unfold atKey
  rw [List.find?_cons_of_pos (by simpa using e)]
  rfl
theorem atKey_neg {x : NestedKey × Addr × Value} {xs : List (NestedKey × Addr × Value)} {k : NestedKey} (e : ¬ x.1 = k) : atKey (x :: xs) k = atKey xs k := by
  unfold atKey
  rw [List.find?_cons_of_neg (by simpa using e)]
theorem tGet_val {x : D} {k : NestedKey} (hk : nkOf x = some k) : ∀ {ks vs : List D} {xs : List (NestedKey × Addr × Value)} {us : List V} {S : AS}, ks.map nkOf = xs.map (fun x => some x.1) → Vals us (xs.map (·.2.2)) → RpL K F H vs us S →
    (tGet ks vs x = none → atKey xs k = none) ∧ (∀ d, tGet ks vs x = some d → ∃ b w u S1, atKey xs k = some (b, u) ∧ RelV w u ∧ Sub S1 S ∧ Rp K F H d w S1)
  | [], vs, [], us, S, h1, h2, h3 => by
    cases h2
    cases vs with
    | nil => exact ⟨fun _ => rfl, fun d e => by cases e⟩
    | cons u vs => obtain ⟨v, r, S1, S2, e, _⟩ := h3; cases e
  | [], vs, p :: xs, us, S, h1, h2, h3 => by cases h1
  | a :: ks, vs, [], us, S, h1, h2, h3 => by cases h1
  | a :: ks, [], p :: xs, us, S, h1, h2, h3 => by
    cases h3
    cases h2
  | a :: ks, u :: vs, p :: xs, us, S, h1, h2, h3 => by
    obtain ⟨v, r, S1, S2, e, s1, s2, dj, g1, g2⟩ := h3
    subst e
    cases h2 with
    | cons q1 q2 =>
      have e1 : nkOf a = some p.1 := (List.cons.inj h1).1
      have ih := tGet_val hk (List.cons.inj h1).2 q2 g2
      show ((if nkOf a = nkOf x then some u else tGet ks vs x) = none → _) ∧ (∀ d, (if nkOf a = nkOf x then some u else tGet ks vs x) = some d → _)
      by_cases hh : nkOf a = nkOf x
      · rw [if_pos hh]
        have hp : p.1 = k := by
          rw [e1, hk] at hh
          exact Option.some.inj hh
        rw [atKey_pos hp]
        exact ⟨fun z => (by cases z), fun d z => ⟨p.2.1, v, p.2.2, S1, rfl, q1, s1, by cases z; exact g1⟩⟩
      · rw [if_neg hh]
        have hp : ¬ p.1 = k := fun z => hh (by rw [e1, hk, z])
        rw [atKey_neg hp]
        exact ⟨ih.1, fun d z => by
          obtain ⟨b, w, y, T, q1, q2, q3, q4⟩ := ih.2 d z
          exact ⟨b, w, y, T, q1, q2, fun a q => s2 a (q3 a q), q4⟩⟩
theorem tGet_isSome {x : D} {k : NestedKey} (hk : nkOf x = some k) {ks vs : List D} {xs : List (NestedKey × Addr × Value)} {us : List V} {S : AS} (h1 : ks.map nkOf = xs.map (fun x => some x.1)) (h2 : Vals us (xs.map (·.2.2))) (h3 : RpL K F H vs us S) : (tGet ks vs x).isSome = (atKey xs k).isSome := by
  have h := tGet_val hk h1 h2 h3
  cases e : tGet ks vs x with
  | none =>
    rw [h.1 e]
    rfl
  | some d =>
    obtain ⟨b, w, u, T, q1, _⟩ := h.2 d e
    rw [q1]
    rfl
theorem tHas_any {x : D} {k : NestedKey} (hk : nkOf x = some k) : ∀ {ks : List D} {xs : List (NestedKey × Addr × Value)}, ks.map nkOf = xs.map (fun x => some x.1) → tHas ks x = (atKey xs k).isSome
  | [], [], _ => rfl
  | [], p :: xs, h => by cases h
  | a :: ks, [], h => by cases h
  | a :: ks, p :: xs, h => by
    have e1 : nkOf a = some p.1 := (List.cons.inj h).1
    have ih := tHas_any hk (List.cons.inj h).2
    show (decide (nkOf a = nkOf x) || tHas ks x) = _
    rw [ih]
    by_cases hh : nkOf a = nkOf x
    · have hp : p.1 = k := by
        rw [e1, hk] at hh
        exact Option.some.inj hh
      rw [atKey_pos hp, decide_eq_true hh]
      rfl
    · have hp : ¬ p.1 = k := fun z => hh (by rw [e1, hk, z])
      rw [atKey_neg hp, decide_eq_false hh]
      rfl
theorem tRep_ok {x y : D} {k : NestedKey} {w : V} {u : Value} (hk : nkOf x = some k) (ry : RelV w u) (hy : Rp K F H y w No) : ∀ {ks vs : List D} {xs : List (NestedKey × Addr × Value)} {us : List V} {S : AS}, ks.map nkOf = xs.map (fun x => some x.1) → Vals us (xs.map (·.2.2)) → RpL K F H vs us S →
    ∃ us', Vals us' ((xs.map (putAt k u)).map (·.2.2)) ∧ RpL K F H (tRep ks vs x y) us' S
  | [], vs, [], us, S, h1, h2, h3 => ⟨[], .nil, by cases vs <;> rfl⟩
  | [], vs, p :: xs, us, S, h1, h2, h3 => by cases h1
  | a :: ks, vs, [], us, S, h1, h2, h3 => by cases h1
  | a :: ks, [], p :: xs, us, S, h1, h2, h3 => by
    cases h3
    cases h2
  | a :: ks, c :: vs, p :: xs, us, S, h1, h2, h3 => by
    obtain ⟨v, r, S1, S2, e, s1, s2, dj, g1, g2⟩ := h3
    subst e
    cases h2 with
    | cons q1 q2 =>
      have e1 : nkOf a = some p.1 := (List.cons.inj h1).1
      obtain ⟨us', i1, i2⟩ := tRep_ok hk ry hy (List.cons.inj h1).2 q2 g2
      by_cases hh : nkOf a = nkOf x
      · have hp : p.1 = k := by
          rw [e1, hk] at hh
          exact Option.some.inj hh
        refine ⟨w :: us', ?_, ?_⟩
        · refine .cons ?_ i1
          show RelV w (putAt k u p).2.2
          unfold putAt
          rw [if_pos hp]
          exact ry
        · show ∃ v' r' S1' S2', w :: us' = v' :: r' ∧ Sub S1' S ∧ Sub S2' S ∧ Dj S1' S2' ∧ Rp K F H (if nkOf a = nkOf x then y else c) v' S1' ∧ RpL K F H (tRep ks vs x y) r' S2'
          rw [if_pos hh]
          exact ⟨_, _, No, S2, rfl, fun _ z => z.elim, s2, fun _ z _ => z, hy, i2⟩
      · have hp : ¬ p.1 = k := fun z => hh (by rw [e1, hk, z])
        refine ⟨v :: us', ?_, ?_⟩
        · refine .cons ?_ i1
          show RelV v (putAt k u p).2.2
          unfold putAt
          rw [if_neg hp]
          exact q1
        · show ∃ v' r' S1' S2', v :: us' = v' :: r' ∧ Sub S1' S ∧ Sub S2' S ∧ Dj S1' S2' ∧ Rp K F H (if nkOf a = nkOf x then y else c) v' S1' ∧ RpL K F H (tRep ks vs x y) r' S2'
          rw [if_neg hh]
          exact ⟨_, _, S1, S2, rfl, s1, s2, dj, g1, i2⟩
end
section
variable {X : Cx} {pins : List (Addr × Obj)} {σ : L2.St} {F H : Hp} {s : Shared} {p b : Addr} {xs : List (NestedKey × Addr × Value)} {k : NestedKey} {A : Around} {E : Value → Shared → Prop}
theorem tk_is {x : D} {v : V} {S : AS} {u : Value} (I : Inv X pins σ H s) (hx : isTK x = true) (r : Rp X.K F H x v S) (q : RelV v u) : ∃ k b, nkOf x = some k ∧ v = .ref b ∧ u = .ref b ∧ (nestedKind X.prog X.w).is s.heap k b := by
  obtain ⟨k, hk, hd, ds, rfl⟩ := isTK_inv hx
  have z := nk_is I _ k v S u hk r q
  obtain ⟨b, vs, e, _⟩ := r
  subst e
  obtain rfl : u = Value.ref b := q
  exact ⟨k, b, hk, rfl, rfl, z, hd⟩
theorem t_in {Q : Value → Shared → Prop} (hu : A.units + 9 < cLine) (I : Inv X pins σ H s) (hp : (p == sysModules) = false) (dd : s.heap.DictOfH (nestedKind X.prog X.w) p xs) (hk : (nestedKind X.prog X.w).is s.heap k b) (h : ∀ s', Inv X pins σ H s' → Q (.bool (atKey xs k).isSome) s') :
    wpAny (model X.prog X.w) A (compareOp .In (.ref b) (.ref p)) Q E s :=
  wpAny_in_heap (knd := nestedKind X.prog X.w) (show A.units + 1 + 8 < cLine by omega) hk hp dd (h _ (I.tok _))
theorem t_notIn {Q : Value → Shared → Prop} (hu : A.units + 9 < cLine) (I : Inv X pins σ H s) (hp : (p == sysModules) = false) (dd : s.heap.DictOfH (nestedKind X.prog X.w) p xs) (hk : (nestedKind X.prog X.w).is s.heap k b) (h : ∀ s', Inv X pins σ H s' → Q (.bool (!(atKey xs k).isSome)) s') :
    wpAny (model X.prog X.w) A (compareOp .NotIn (.ref b) (.ref p)) Q E s :=
  wpAny_notIn_heap (knd := nestedKind X.prog X.w) (show A.units + 1 + 8 < cLine by omega) hk hp dd (h _ (I.tok _))
theorem t_getItem {c : Addr} {u : Value} {Q : Value → Shared → Prop} (hu : A.units + 9 < cLine) (I : Inv X pins σ H s) (dd : s.heap.DictOfH (nestedKind X.prog X.w) p xs) (hk : (nestedKind X.prog X.w).is s.heap k b) (e : atKey xs k = some (c, u)) (h : ∀ s', Inv X pins σ H s' → Q u s') :
    wpAny (model X.prog X.w) A (getItem (.ref p) (.ref b)) Q E s :=
  wpAny_getItem_heap (knd := nestedKind X.prog X.w) (show A.units + 1 + 8 < cLine by omega) hk dd e (h _ (I.tok _))
end
/-! ### stores -/
theorem keys_num {ks : List D} {xs : List (NestedKey × Addr × Value)} (h : ks.map nkOf = xs.map fun x => some x.1) : ∀ x ∈ xs, ∀ w w' : World, x.1.hash w = x.1.hash w' := by
  intro x hx
  obtain ⟨i, hi⟩ := List.getElem?_of_mem hx
  have hn := congrArg (·[i]?) h
  simp only [List.getElem?_map, hi, Option.map_some] at hn
  obtain ⟨d, hd, hn2⟩ := Option.map_eq_some_iff.mp hn
  exact hash_num d x.1 hn2
theorem entries_any {xs : List (NestedKey × Addr × Value)} (h : ∀ x ∈ xs, ∀ w w' : World, x.1.hash w = x.1.hash w') (w w' : World) : xs.map (entryN w) = xs.map (entryN w') := by
  refine List.map_congr_left fun x hx => ?_
  unfold entryN
  rw [h x hx w w']
/-- a table, told anew by its object -/
theorem tab_new {P : Program} {w : World} {h' : Heap} {p : Addr} {xs : List (NestedKey × Addr × Value)} (hn : ∀ x ∈ xs, ∀ w w' : World, x.1.hash w = x.1.hash w') (dd : h'.DictOfH (nestedKind P w) p xs) : ∃ ep, ∀ H' : Hp, ObjOk P w H' h' p (tab p ep xs) := by
  obtain ⟨o, es, ep, h1, h2, h3, h4, _, _⟩ := dd
  refine ⟨ep, fun H' => ⟨⟨o, es, h1, h2, h3, fun w' => ?_⟩, ⟨o, h1⟩, ?_⟩⟩
  · have h4 : es.toList = xs.map (entryN w) := h4
    rw [h4]
    exact entries_any hn w w'
  · rintro g1 g2 ⟨o, es, k1, k2, k3, k4⟩ hk
    exact ⟨o, es, hk _ k1, k2, k3, k4⟩
theorem putAt_keys {xs : List (NestedKey × Addr × Value)} {k : NestedKey} {u : Value} {β : Type} (f : NestedKey → Addr → β) : (xs.map (putAt k u)).map (fun x => f x.1 x.2.1) = xs.map fun x => f x.1 x.2.1 := by
  rw [List.map_map]
  refine List.map_congr_left fun x _ => ?_
  show f (putAt k u x).1 (putAt k u x).2.1 = _
  unfold putAt
  split <;> rfl
section
variable {K : PySem.W.Frag} {F H : Hp}
theorem atKey_mem {xs : List (NestedKey × Addr × Value)} {k : NestedKey} (h : (atKey xs k).isSome = false) : k ∉ xs.map (·.1) := by
  intro hk
  obtain ⟨x, hx, e⟩ := List.mem_map.mp hk
  unfold atKey at h
  rw [Option.isSome_map, Option.isSome_eq_false_iff, Option.isNone_iff_eq_none, List.find?_eq_none] at h
  exact h x hx (by simpa using e)
theorem tPut_ok {p b : Addr} {x y : D} {k : NestedKey} {w : V} {u : Value} {ks vs : List D} {xs : List (NestedKey × Addr × Value)} {us : List V} {S : AS} (hk : nkOf x = some k) (hd : k.depth ≤ 8) (hkt : KtOk p ks xs) (hsz : xs.length < sizeLine) (hkl : RpL K F H ks (xs.map kref) No) (hx : Rp K F H x (.ref b) No)
    (hvl : Vals us (xs.map (·.2.2))) (hl : RpL K F H vs us S) (ry : RelV w u) (hy : Rp K F H y w No) :
    ∃ us', KtOk p (tPut ks vs x y).1 (storedH xs k b u) ∧ RpL K F H (tPut ks vs x y).1 ((storedH xs k b u).map kref) No ∧ Vals us' ((storedH xs k b u).map (·.2.2)) ∧ RpL K F H (tPut ks vs x y).2 us' S := by
  unfold tPut storedH
  rw [tHas_any hk hkt.ns]
  by_cases hh : (atKey xs k).isSome = true
  · rw [if_pos hh, if_pos hh]
    obtain ⟨us', i1, i2⟩ := tRep_ok hk ry hy hkt.ns hvl hl
    have e1 := putAt_keys (xs := xs) (k := k) (u := u) fun a _ => a
    have e2 := putAt_keys (xs := xs) (k := k) (u := u) fun a _ => some a
    have e3 := putAt_keys (xs := xs) (k := k) (u := u) fun _ b => V.ref b
    refine ⟨us', ⟨hkt.ns.trans e2.symm, ?_, by rw [List.length_map]; exact hkt.sz, hkt.sm, ?_⟩, ?_, i1, i2⟩
    · have e1 : (xs.map (putAt k u)).map (·.1) = xs.map (·.1) := e1
      rw [e1]
      exact hkt.nd
    · intro z hz
      obtain ⟨z0, hz0, e⟩ := List.mem_map.mp hz
      have : z.1 = z0.1 := by
        rw [← e]
        unfold putAt
        split <;> rfl
      rw [this]
      exact hkt.dp z0 hz0
    · have e3 : (xs.map (putAt k u)).map kref = xs.map kref := e3
      show RpL K F H ks ((xs.map (putAt k u)).map kref) No
      rw [e3]
      exact hkl
  · rw [if_neg hh, if_neg hh]
    have hn := atKey_mem (by simpa using hh)
    refine ⟨us ++ [w], ⟨?_, ?_, ?_, hkt.sm, ?_⟩, ?_, ?_, ?_⟩
    · rw [List.map_append, List.map_append, hkt.ns]
      show _ ++ [nkOf x] = _
      rw [hk]
      rfl
    · rw [List.map_append]
      refine List.nodup_append.mpr ⟨hkt.nd, by simp, ?_⟩
      intro a ha c hc e
      rw [List.mem_singleton.mp hc] at e
      rw [e] at ha
      exact hn ha
    · rw [List.length_append]
      show xs.length + 1 ≤ sizeLine
      omega
    · intro z hz
      rcases List.mem_append.mp hz with hz | hz
      · exact hkt.dp z hz
      · rw [List.mem_singleton.mp hz]
        exact hd
    · rw [List.map_append]
      exact RpL.append hkl (show RpL K F H [x] [V.ref b] No from ⟨.ref b, [], No, No, rfl, fun _ q => q, fun _ q => q, fun _ q _ => q, hx, rfl⟩) (fun _ q _ => q) (fun _ q => q) (fun _ q => q)
    · rw [List.map_append]
      exact Vals.append hvl (.cons ry .nil)
    · exact RpL.append hl (show RpL K F H [y] [w] No from ⟨w, [], No, No, rfl, fun _ q => q, fun _ q => q, fun _ q _ => q, hy, rfl⟩) (fun _ _ q => q) (fun _ q => q) (fun _ q => q.elim)
end
/-- what stands ahead of a store: a table, or an empty dict -/
def TbAt (K : PySem.W.Frag) (F H : Hp) (p : Addr) (ks : List D) (xs : List (NestedKey × Addr × Value)) : Prop :=
  ((∃ ep, H p = some (tab p ep xs)) ∧ KtOk p ks xs ∧ RpL K F H ks (xs.map kref) No) ∨ (H p = some (.dK []) ∧ xs = [] ∧ ks = [])
section
variable {X : Cx} {pins : List (Addr × Obj)} {σ : L2.St} {F H : Hp} {s : Shared} {p b : Addr} {xs : List (NestedKey × Addr × Value)} {ks : List D} {k : NestedKey} {A : Around} {E : Value → Shared → Prop}
theorem TbAt.rd (I : Inv X pins σ H s) (h : TbAt X.K F H p ks xs) : KtOk p ks xs ∧ s.heap.DictOfH (nestedKind X.prog X.w) p xs ∧ Mut (H p) := by
  rcases h with ⟨⟨ep, h1⟩, h2, h3⟩ | ⟨h1, h2, h3⟩
  · exact ⟨h2, tab_rd I h1 h2 h3, by rw [h1]; exact True.intro⟩
  · subst h2; subst h3
    obtain ⟨hs, dd⟩ := emp_rd I (Or.inl h1)
    exact ⟨⟨rfl, by simp, Nat.zero_le _, hs, fun x hx => (by cases hx)⟩, dd, by rw [h1]; exact True.intro⟩
/-- d[x] = v -/
theorem t_setItem {x : D} {u : Value} {Q : Unit → Shared → Prop} (hu : A.units + 9 < cLine) (I : Inv X pins σ H s) (hT : TbAt X.K F H p ks xs) (hsz : xs.length < sizeLine) (hx : isTK x = true) (hk : nkOf x = some k) (rx : Rp X.K F H x (.ref b) No)
    (h : ∀ ep s', Inv X pins σ (upd H p (tab p ep (storedH xs k b u))) s' → Q () s') :
    wpAny (model X.prog X.w) A (setItem (.ref p) (.ref b) u) Q E s := by
  obtain ⟨k1, b1, e1, e2, e3, his⟩ := tk_is I hx rx (u := .ref b) rfl
  cases e2
  rw [hk] at e1
  cases e1
  obtain ⟨kt, dd, mu⟩ := hT.rd I
  have hn := keys_num kt.ns
  have hnk := hash_num x k hk
  have hns : ∀ z ∈ storedH xs k b u, ∀ w w' : World, z.1.hash w = z.1.hash w' := by
    intro z hz
    unfold storedH at hz
    split at hz
    · obtain ⟨z0, hz0, e⟩ := List.mem_map.mp hz
      have : z.1 = z0.1 := by
        rw [← e]
        unfold putAt
        split <;> rfl
      rw [this]
      exact hn z0 hz0
    · rcases List.mem_append.mp hz with hz | hz
      · exact hn z hz
      · rw [List.mem_singleton.mp hz]
        exact hnk
  refine wpAny_setItem_heap (knd := nestedKind X.prog X.w) (show A.units + 1 + 8 < cLine by omega) his dd (fun h' dd' hs => ?_) kt.sz
  obtain ⟨ep, he⟩ := tab_new hns dd'
  exact h ep _ (d_write I mu hs (let ⟨q, _, _, hq, _⟩ := dd'; ⟨q, hq⟩) (he _))
end
mutual
theorem noOwn_nk : ∀ (d : D) (k : NestedKey), nkOf d = some k → noOwn d = true
  | .int i, k, h => rfl
  | .tup ds, k, h => by
    obtain ⟨ks, h1, h2⟩ := Option.map_eq_some_iff.mp (show (nksOf ds).map NestedKey.tup = some k from h)
    exact noOwns_nk ds ks h1
  | .non, k, h => by cases h
  | .bl _, k, h => by cases h
  | .str _, k, h => by cases h
  | .lst _ _, k, h => by cases h
  | .dic _ _ _, k, h => by cases h
  | .dtp _ _ _, k, h => by cases h
  | .ins _ _, k, h => by cases h
  | .fn _, k, h => by cases h
theorem noOwns_nk : ∀ (ds : List D) (ks : List NestedKey), nksOf ds = some ks → noOwns ds = true
  | [], ks, h => rfl
  | d :: ds, ks, h => by
    obtain ⟨k, h1, h2⟩ := Option.bind_eq_some_iff.mp (show (nkOf d).bind (fun k => (nksOf ds).map (k :: ·)) = some ks from h)
    obtain ⟨r, h3, h4⟩ := Option.map_eq_some_iff.mp h2
    show (noOwn d && noOwns ds) = true
    rw [noOwn_nk d k h1, noOwns_nk ds r h3]
    rfl
end
theorem tk_ref {K : PySem.W.Frag} {F H : Hp} {x : D} {v : V} {S : AS} (h : isTK x = true) (r : Rp K F H x v S) : ∃ k b, nkOf x = some k ∧ k.depth ≤ 8 ∧ v = .ref b ∧ Rp K F H x (.ref b) No := by
  obtain ⟨k, hk, hd, ds, rfl⟩ := isTK_inv h
  have r' := Rp.free _ _ _ (noOwn_nk _ _ hk) r
  obtain ⟨b, vs, e, r2⟩ := r'
  subst e
  exact ⟨k, b, hk, hd, rfl, b, vs, rfl, r2⟩
end AW

/-! AWOps2: dicts, comparisons, subscripts, slices by values. -/
namespace AW
open PySem L2 PyProof.Rows

section
variable {K : PySem.W.Frag} {F H : Hp} {d : D} {v : V} {Qk : VK}
theorem keyOf_kV {d : D} {k : Key} {v : V} {S : AS} (h : keyOf d = some k) (r : Rp K F H d v S) : v = kV k := by
  cases d with
  | int i =>
    cases h
    exact r
  | str cs =>
    cases h
    exact r
  | _ => cases h
theorem dGet_val {x : D} {k : Key} (hk : keyOf x = some k) : ∀ {ks vs : List D} {kvs : List (Key × V)} {S : AS}, KsOk ks (kvs.map (·.1)) → RpL K F H vs (kvs.map (·.2)) S →
    (dGet ks vs x = none → valV kvs k = none) ∧ (∀ d, dGet ks vs x = some d → ∃ w S1, valV kvs k = some w ∧ Sub S1 S ∧ Rp K F H d w S1)
  | [], vs, [], S, h1, h2 => by
    cases vs with
    | nil => exact ⟨fun _ => rfl, fun d e => by cases e⟩
    | cons u vs => obtain ⟨v, r, S1, S2, e, _⟩ := h2; cases e
  | [], vs, p :: kvs, S, h1, h2 => by cases h1
  | a :: ks, vs, [], S, h1, h2 => by cases h1
  | a :: ks, [], p :: kvs, S, h1, h2 => by cases h2
  | a :: ks, u :: vs, p :: kvs, S, h1, h2 => by
    obtain ⟨v, r, S1, S2, e, s1, s2, dj, g1, g2⟩ := h2
    cases e
    have e1 : keyOf a = some p.1 := (List.cons.inj h1).1
    have e2 : KsOk ks (kvs.map (·.1)) := (List.cons.inj h1).2
    have ih := dGet_val hk e2 g2
    show ((if keyOf a = keyOf x then some u else dGet ks vs x) = none → _) ∧ (∀ d, (if keyOf a = keyOf x then some u else dGet ks vs x) = some d → _)
    by_cases hh : keyOf a = keyOf x
    · rw [if_pos hh]
      have hp : p.1 = k := by
        rw [e1, hk] at hh
        exact Option.some.inj hh
      rw [valV_pos hp]
      exact ⟨fun z => (by cases z), fun d z => ⟨p.2, S1, rfl, s1, by cases z; exact g1⟩⟩
    · rw [if_neg hh]
      have hp : ¬ p.1 = k := fun z => hh (by rw [e1, hk, z])
      rw [valV_neg hp]
      exact ⟨ih.1, fun d z => by
        obtain ⟨w, T, q1, q2, q3⟩ := ih.2 d z
        exact ⟨w, T, q1, fun a q => s2 a (q2 a q), q3⟩⟩
theorem dGet_isSome {x : D} {k : Key} (hk : keyOf x = some k) {ks vs : List D} {kvs : List (Key × V)} {S : AS} (h1 : KsOk ks (kvs.map (·.1))) (h2 : RpL K F H vs (kvs.map (·.2)) S) : (dGet ks vs x).isSome = (valV kvs k).isSome := by
  have h := dGet_val hk h1 h2
  cases e : dGet ks vs x with
  | none =>
    rw [h.1 e]
    rfl
  | some d =>
    obtain ⟨w, T, q1, _⟩ := h.2 d e
    rw [q1]
    rfl
theorem dHas_any {x : D} {k : Key} (hk : keyOf x = some k) : ∀ {ks : List D} {kvs : List (Key × V)}, KsOk ks (kvs.map (·.1)) → dHas ks x = (kvs.any fun kv => decide (kv.1 = k))
  | [], [], _ => rfl
  | [], p :: kvs, h1 => by cases h1
  | a :: ks, [], h1 => by cases h1
  | a :: ks, p :: kvs, h1 => by
    have e1 : keyOf a = some p.1 := (List.cons.inj h1).1
    have e2 : KsOk ks (kvs.map (·.1)) := (List.cons.inj h1).2
    have ih := dHas_any hk e2
    show (decide (keyOf a = keyOf x) || dHas ks x) = (decide (p.1 = k) || kvs.any fun kv => decide (kv.1 = k))
    rw [ih, e1, hk]
    congr 1
    by_cases z : p.1 = k
    · rw [z]; simp
    · rw [decide_eq_false z, decide_eq_false (fun q => z (Option.some.inj q))]
theorem KsOk.len {ks : List D} {kk : List Key} (h : KsOk ks kk) : ks.length = kk.length := by
  have := congrArg List.length h
  simpa using this
theorem dRep_ok {x y : D} {k : Key} {w : V} (hk : keyOf x = some k) (hy : Rp K F H y w No) : ∀ {ks vs : List D} {kvs : List (Key × V)} {S : AS}, KsOk ks (kvs.map (·.1)) → RpL K F H vs (kvs.map (·.2)) S →
    RpL K F H (dRep ks vs x y) ((kvs.map fun kv => if kv.1 = k then (kv.1, w) else kv).map (·.2)) S
  | [], vs, [], S, h1, h2 => by cases vs <;> rfl
  | [], vs, p :: kvs, S, h1, h2 => by cases h1
  | a :: ks, vs, [], S, h1, h2 => by cases h1
  | a :: ks, [], p :: kvs, S, h1, h2 => by cases h2
  | a :: ks, u :: vs, p :: kvs, S, h1, h2 => by
    obtain ⟨v, r, S1, S2, e, s1, s2, dj, g1, g2⟩ := h2
    cases e
    have e1 : keyOf a = some p.1 := (List.cons.inj h1).1
    have e2 : KsOk ks (kvs.map (·.1)) := (List.cons.inj h1).2
    have ih := dRep_ok hk hy e2 g2
    show ∃ v' r' S1' S2', (((if p.1 = k then (p.1, w) else p) :: kvs.map fun kv => if kv.1 = k then (kv.1, w) else kv).map (·.2)) = v' :: r' ∧ Sub S1' S ∧ Sub S2' S ∧ Dj S1' S2' ∧ Rp K F H (if keyOf a = keyOf x then y else u) v' S1' ∧ RpL K F H (dRep ks vs x y) r' S2'
    refine ⟨_, _, S1, S2, rfl, s1, s2, dj, ?_, ih⟩
    by_cases hh : keyOf a = keyOf x
    · have hp : p.1 = k := by
        rw [e1, hk] at hh
        exact Option.some.inj hh
      rw [if_pos hh, if_pos hp]
      exact Rp.mono (Ex.refl F) (Tu.refl H) _ _ _ _ (fun _ q => q.elim) (fun _ _ q => q.elim) hy
    · have hp : ¬ p.1 = k := fun z => hh (by rw [e1, hk, z])
      rw [if_neg hh, if_neg hp]
      exact g1
theorem dPut_ok {x y : D} {k : Key} {w : V} (hk : keyOf x = some k) (hy : Rp K F H y w No) {ks vs : List D} {kvs : List (Key × V)} {S : AS} (h1 : KsOk ks (kvs.map (·.1))) (h2 : RpL K F H vs (kvs.map (·.2)) S) :
    KsOk (dPut ks vs x y).1 ((putK kvs k w).map (·.1)) ∧ RpL K F H (dPut ks vs x y).2 ((putK kvs k w).map (·.2)) S := by
  unfold dPut putK
  rw [dHas_any hk h1]
  by_cases hh : (kvs.any fun kv => decide (kv.1 = k)) = true
  · rw [if_pos hh, if_pos hh]
    refine ⟨?_, dRep_ok hk hy h1 h2⟩
    have e : (kvs.map fun kv => if kv.1 = k then (kv.1, w) else kv).map (·.1) = kvs.map (·.1) := by
      rw [List.map_map]
      refine List.map_congr_left fun p _ => ?_
      show (if p.1 = k then (p.1, w) else p).1 = p.1
      split <;> rfl
    rw [e]
    exact h1
  · rw [if_neg hh, if_neg hh]
    refine ⟨?_, ?_⟩
    · unfold KsOk at h1 ⊢
      rw [List.map_append, List.map_append, List.map_append, h1]
      show _ ++ [keyOf x] = _ ++ [some k]
      rw [hk]
    · rw [List.map_append]
      exact RpL.append h2 (show RpL K F H [y] [w] No from ⟨w, [], No, No, rfl, fun _ q => q, fun _ q => q, fun _ q _ => q, hy, rfl⟩) (fun _ _ q => q) (fun _ q => q) (fun _ q => q.elim)
theorem Rp.dicL {o : Bool} {ks ds : List D} {S : AS} (eF : Ex F H) (h : Rp K F H (.dic o ks ds) v S) : ∃ p kvs, v = .ref p ∧ H p = some (.dK kvs) ∧ KsOk ks (kvs.map (·.1)) ∧ RpL K F H ds (kvs.map (·.2)) S := by
  obtain ⟨p, kvs, e, ht, hk, hl⟩ := h
  refine ⟨p, kvs, e, ?_, hk, RpL.mono (Ex.refl F) (Tu.refl H) _ _ _ _ (fun a q => q.1) (fun _ _ _ q => q) hl⟩
  cases o with
  | true =>
    rw [if_pos rfl] at ht
    exact ht.2
  | false =>
    rw [if_neg (by decide)] at ht
    exact eF _ _ ht
/-! ### flat things -/
theorem tx_inj {a b : List Nat} (h : tx a = tx b) : a = b := by
  have := congrArg (fun x : Str => x.cps.toList) h
  simpa using this
theorem tx_beq (a b : List Nat) : (tx a == tx b) = decide (a = b) := by
  by_cases h : a = b
  · subst h; simp
  · rw [decide_eq_false h]
    exact beq_eq_false_iff_ne.mpr fun q => h (tx_inj q)
theorem flat_V {d : D} {v : V} {S : AS} (n : isFlat d = true) (h : Rp K F H d v S) : flatV v = true := by
  cases d with
  | non => cases h; rfl
  | bl b => cases h; rfl
  | int i => cases h; rfl
  | str cs => cases h; rfl
  | _ => cases n
theorem flat_eq {d e : D} {v w : V} {S T : AS} (n : isFlat d = true) (m : isFlat e = true) (h : Rp K F H d v S) (h' : Rp K F H e w T) : eqV v w = deq d e := by
  cases d with
  | non => cases h; cases e with
    | non => cases h'; rfl
    | bl b => cases h'; rfl
    | int i => cases h'; rfl
    | str cs => cases h'; rfl
    | _ => cases m
  | bl b => cases h; cases e with
    | non => cases h'; rfl
    | bl b => cases h'; rfl
    | int i => cases h'; rfl
    | str cs => cases h'; rfl
    | _ => cases m
  | int i => cases h; cases e with
    | non => cases h'; rfl
    | bl b => cases h'; rfl
    | int i => cases h'; rfl
    | str cs => cases h'; rfl
    | _ => cases m
  | str cs => cases h; cases e with
    | non => cases h'; rfl
    | bl b => cases h'; rfl
    | int i => cases h'; rfl
    | str cs => cases h'; rfl
    | _ => cases m
  | _ => cases n
theorem flats_in {x : D} {w : V} {T : AS} (m : isFlat x = true) (h' : Rp K F H x w T) : ∀ {ds : List D} {vs : List V} {S : AS}, ds.all isFlat = true → RpL K F H ds vs S → vs.all flatV = true ∧ inV w vs = ds.any fun z => deq z x
  | [], vs, S, _, h => by
    cases h
    exact ⟨rfl, rfl⟩
  | d :: ds, vs, S, n, h => by
    obtain ⟨v, r, S1, S2, e, s1, s2, dj, g1, g2⟩ := h
    subst e
    rw [List.all_cons, Bool.and_eq_true] at n
    obtain ⟨i1, i2⟩ := flats_in m h' n.2 g2
    refine ⟨?_, ?_⟩
    · rw [List.all_cons, flat_V n.1 g1, i1]
      rfl
    · show (eqV v w || inV w r) = (deq d x || ds.any fun z => deq z x)
      rw [flat_eq n.1 m g1 h', i2]
theorem any_toPs (x : D) : ∀ ds : List D, ((toPs ds).any fun z => PyData.eqv z (toP x)) = ds.any fun z => deq z x
  | [] => rfl
  | d :: ds => by
    show (PyData.eqv (toP d) (toP x) || _) = (deq d x || _)
    rw [any_toPs x ds]
    rfl
end
section
variable {X : Cx} {F H : Hp} {d : D} {v : V} {Qk : VK}
theorem shp_isP {d : D} (h : shp d = true) : isP d = true := by
  unfold shp at h
  rw [Bool.and_eq_true] at h
  exact h.1
theorem shp_sh {d : D} (h : shp d = true) : SeqAt.shaped (toP d) = true := by
  unfold shp at h
  rw [Bool.and_eq_true] at h
  exact h.2
theorem rIn_ok (hu : X.A.units + 65 < cLine) (neg : Bool) : OpR X (compareOp (if neg then .NotIn else .In)) (rBin X.K fun p q => (dIn p q).map fun b => .bl (if neg then !b else b)) := by
  intro pins s σ H x y v u Q I rx ry h
  obtain ⟨F, d1, d2, d, S1, S2, eF, h1, h2, hf, res⟩ := h
  have go : ∀ {r : R2}, OpR X (compareOp (if neg then .NotIn else .In)) r → r x y H Q → wpAny (model X.prog X.w) X.A (compareOp (if neg then .NotIn else .In) v u) (EP X pins σ Q) X.xe s := fun hr q => hr pins s σ H x y v u Q I rx ry q
  obtain ⟨b, hb, rfl⟩ := Option.map_eq_some_iff.mp hf
  have hb : dIn d1 d2 = some b := hb
  unfold dIn at hb
  split at hb
  · -- list
    rename_i o ds _
    split at hb
    · rename_i hz
      rw [Bool.and_eq_true] at hz
      cases hb
      have p1 := Rp.dp eF _ _ _ (shp_isP hz.1) h1
      have p2 := Rp.dp eF _ _ _ (shp_isP hz.2) h2
      have q := res.flat (v := .bl (if neg then !(ds.any fun z => deq z d1) else ds.any fun z => deq z d1)) rfl
      rw [← any_toPs] at q
      cases neg with
      | true => exact go (op_notInD hu) ⟨toP d1, toPs ds, p1, p2, shp_sh hz.1, shp_sh hz.2, q⟩
      | false => exact go (op_inD hu) ⟨toP d1, toPs ds, p1, p2, shp_sh hz.1, shp_sh hz.2, q⟩
    · cases hb
  · -- tuple
    rename_i ds _
    split at hb
    · rename_i hz
      rw [Bool.and_eq_true] at hz
      cases hb
      obtain ⟨p, vs, e, ht, hl⟩ := h2
      obtain ⟨f1, f2⟩ := flats_in hz.1 h1 hz.2 hl
      have q := res.flat (v := .bl (if neg then !(ds.any fun z => deq z d1) else ds.any fun z => deq z d1)) rfl
      rw [← f2] at q
      cases neg with
      | true => exact go op_notIn_seq ⟨p, vs, e, Or.inr ht, flat_V hz.1 h1, f1, q⟩
      | false => exact go op_in_seq ⟨p, vs, e, Or.inr ht, flat_V hz.1 h1, f1, q⟩
    · cases hb
  · -- dict
    rename_i o ks ds _
    split at hb
    · rename_i hz
      cases hb
      obtain ⟨k, hk⟩ := Option.isSome_iff_exists.mp hz
      obtain ⟨p, kvs, e, hp, hks, hl⟩ := Rp.dicL eF h2
      subst e
      have ex := keyOf_kV hk h1
      subst ex
      have q := res.flat (v := .bl (if neg then !(dGet ks ds d1).isSome else (dGet ks ds d1).isSome)) rfl
      rw [dGet_isSome hk hks hl] at q
      obtain rfl : u = Value.ref p := ry
      cases neg with
      | true => exact d_notIn (by omega) I (DGet.k hp) rx fun s' I' => ⟨.bl (!(valV kvs k).isSome), H, I', rfl, q⟩
      | false => exact d_in (by omega) I (DGet.k hp) rx fun s' I' => ⟨.bl (valV kvs k).isSome, H, I', rfl, q⟩
    · split at hb
      · rename_i hz
        cases hb
        rw [Bool.and_eq_true] at hz
        obtain ⟨p, kvs, e, hp, hks, hl⟩ := Rp.dicL eF h2
        subst e
        obtain rfl : u = Value.ref p := ry
        obtain ⟨k, b, hk, _, eu, his⟩ := tk_is I hz.1 h1 rx
        subst eu
        have e0 : kvs = [] := by
          have z := hks.len
          rw [List.isEmpty_iff.mp hz.2] at z
          exact List.eq_nil_of_length_eq_zero (by simpa using z.symm)
        subst e0
        obtain ⟨hs, dd⟩ := emp_rd I (Or.inl hp)
        have q := res.flat (v := .bl (if neg then true else false)) (by cases neg <;> rfl)
        cases neg with
        | true => exact t_notIn (by omega) I hs dd his fun s' I' => ⟨.bl true, H, I', rfl, q⟩
        | false => exact t_in (by omega) I hs dd his fun s' I' => ⟨.bl false, H, I', rfl, q⟩
      · cases hb
  · -- dict with tuple keys
    rename_i o ks ds _
    split at hb
    · rename_i hz
      cases hb
      obtain ⟨p, ep, xs, us, e, hp, hks, hvl, hkl, hl⟩ := Rp.dtpL eF h2
      subst e
      obtain rfl : u = Value.ref p := ry
      obtain ⟨k, b, hk, _, eu, his⟩ := tk_is I hz h1 rx
      subst eu
      have dd := tab_rd I hp hks hkl
      have q := res.flat (v := .bl (if neg then !(tGet ks ds d1).isSome else (tGet ks ds d1).isSome)) rfl
      rw [tGet_isSome hk hks.ns hvl hl] at q
      cases neg with
      | true => exact t_notIn (by omega) I hks.sm dd his fun s' I' => ⟨.bl (!(atKey xs k).isSome), H, I', rfl, q⟩
      | false => exact t_in (by omega) I hks.sm dd his fun s' I' => ⟨.bl (atKey xs k).isSome, H, I', rfl, q⟩
    · cases hb
  · -- text
    split at hb
    · cases hb
      cases h1
      cases h2
      have q := res.flat rfl
      cases neg with
      | true => exact go op_notIn_str ⟨_, _, rfl, rfl, q⟩
      | false => exact go op_in_str ⟨_, _, rfl, rfl, q⟩
    · cases hb
  · cases hb
theorem rIs_ok (neg : Bool) : OpR X (compareOp (if neg then .IsNot else .Is)) (rBin X.K fun p q => (dIs p q).map fun b => .bl (if neg then !b else b)) := by
  intro pins s σ H x y v u Q I rx ry h
  obtain ⟨F, d1, d2, d, S1, S2, eF, h1, h2, hf, res⟩ := h
  have go : ∀ {r : R2}, OpR X (compareOp (if neg then .IsNot else .Is)) r → r x y H Q → wpAny (model X.prog X.w) X.A (compareOp (if neg then .IsNot else .Is) v u) (EP X pins σ Q) X.xe s := fun hr q => hr pins s σ H x y v u Q I rx ry q
  obtain ⟨b, hb, rfl⟩ := Option.map_eq_some_iff.mp hf
  have hb : dIs d1 d2 = some b := hb
  unfold dIs at hb
  split at hb
  · cases hb
    cases h2
    have e : decide (x = V.non) = isNon d1 := by
      cases d1 with
      | non => cases h1; rfl
      | bl b => cases h1; rfl
      | int i => cases h1; rfl
      | str cs => cases h1; rfl
      | tup ds => obtain ⟨p, vs, e, _⟩ := h1; subst e; rfl
      | lst o ds => obtain ⟨p, vs, e, _⟩ := h1; subst e; rfl
      | dic o ks ds => obtain ⟨p, vs, e, _⟩ := h1; subst e; rfl
      | dtp o ks ds => obtain ⟨p, ep, xs, us, e, _⟩ := h1; subst e; rfl
      | ins c fs => exact h1.elim
      | fn f => exact decide_eq_false (FnR.ne h1)
    have q := res.flat (v := .bl (if neg then !isNon d1 else isNon d1)) rfl
    rw [← e] at q
    cases neg with
    | true => exact go op_notN ⟨rfl, q⟩
    | false => exact go op_isN ⟨rfl, q⟩
  · split at hb
    · cases hb
      cases h1
      cases h2
      have q := res.flat rfl
      cases neg with
      | true => exact go op_notBl ⟨_, _, rfl, rfl, q⟩
      | false => exact go op_isBl ⟨_, _, rfl, rfl, q⟩
    · cases hb
  · cases hb
theorem st_two {K : PySem.W.Frag} {F H : Hp} {d1 d2 : D} {x y : V} {S1 S2 : AS} (hz : (isSt d1 && isSt d2) = true) (h1 : Rp K F H d1 x S1) (h2 : Rp K F H d2 y S2) : scal x y = true ∧ decide (x = y) = deq d1 d2 := by
  rw [Bool.and_eq_true] at hz
  cases d1 with
  | str a =>
    cases d2 with
    | str b =>
      cases h1
      cases h2
      refine ⟨rfl, ?_⟩
      show _ = PyData.eqv (.str (tx a)) (.str (tx b))
      unfold PyData.eqv
      by_cases e : tx a = tx b
      · rw [e]
        simp
      · rw [beq_false_of_ne e]
        exact decide_eq_false fun z => e (V.str.inj z)
    | _ => cases hz.2
  | _ => cases hz.1
theorem op_cmp (hu : X.A.units + 65 < cLine) (o : CO) : OpR X (compareOp (opC o)) (rBin X.K fun p q => (dCmp o p q).map .bl) := by
  cases o with
  | lt =>
    intro pins s σ H x y v u Q I rx ry ⟨F, d1, d2, d, S1, S2, eF, h1, h2, hf, res⟩
    obtain ⟨b, hb, rfl⟩ := Option.map_eq_some_iff.mp hf
    obtain ⟨i, j, rfl, rfl, rfl⟩ := int2b_inv hb
    cases h1; cases h2
    exact op_lt pins s σ H _ _ v u Q I rx ry ⟨i, j, rfl, rfl, res.flat rfl⟩
  | le =>
    intro pins s σ H x y v u Q I rx ry ⟨F, d1, d2, d, S1, S2, eF, h1, h2, hf, res⟩
    obtain ⟨b, hb, rfl⟩ := Option.map_eq_some_iff.mp hf
    obtain ⟨i, j, rfl, rfl, rfl⟩ := int2b_inv hb
    cases h1; cases h2
    exact op_le pins s σ H _ _ v u Q I rx ry ⟨i, j, rfl, rfl, res.flat rfl⟩
  | gt =>
    intro pins s σ H x y v u Q I rx ry ⟨F, d1, d2, d, S1, S2, eF, h1, h2, hf, res⟩
    obtain ⟨b, hb, rfl⟩ := Option.map_eq_some_iff.mp hf
    obtain ⟨i, j, rfl, rfl, rfl⟩ := int2b_inv hb
    cases h1; cases h2
    exact op_gt pins s σ H _ _ v u Q I rx ry ⟨i, j, rfl, rfl, res.flat rfl⟩
  | ge =>
    intro pins s σ H x y v u Q I rx ry ⟨F, d1, d2, d, S1, S2, eF, h1, h2, hf, res⟩
    obtain ⟨b, hb, rfl⟩ := Option.map_eq_some_iff.mp hf
    obtain ⟨i, j, rfl, rfl, rfl⟩ := int2b_inv hb
    cases h1; cases h2
    exact op_ge pins s σ H _ _ v u Q I rx ry ⟨i, j, rfl, rfl, res.flat rfl⟩
  | eq =>
    intro pins s σ H x y v u Q I rx ry ⟨F, d1, d2, d, S1, S2, eF, h1, h2, hf, res⟩
    obtain ⟨b, hb, rfl⟩ := Option.map_eq_some_iff.mp hf
    have hb : dEq d1 d2 = some b := hb
    unfold dEq at hb
    split at hb
    · rename_i hz
      cases hb
      obtain ⟨e1, e2⟩ := st_two hz h1 h2
      exact op_eq pins s σ H _ _ v u Q I rx ry ⟨e1, by rw [e2]; exact res.flat rfl⟩
    split at hb
    · rename_i hz
      rw [Bool.and_eq_true] at hz
      cases hb
      exact op_eqD (by omega) pins s σ H _ _ v u Q I rx ry ⟨_, _, Rp.dp eF _ _ _ (shp_isP hz.1) h1, Rp.dp eF _ _ _ (shp_isP hz.2) h2, shp_sh hz.1, shp_sh hz.2, res.flat rfl⟩
    · cases hb
  | ne =>
    intro pins s σ H x y v u Q I rx ry ⟨F, d1, d2, d, S1, S2, eF, h1, h2, hf, res⟩
    obtain ⟨b, hb, rfl⟩ := Option.map_eq_some_iff.mp hf
    obtain ⟨c, hc, rfl⟩ := Option.map_eq_some_iff.mp hb
    unfold dEq at hc
    split at hc
    · rename_i hz
      cases hc
      obtain ⟨e1, e2⟩ := st_two hz h1 h2
      exact op_ne pins s σ H _ _ v u Q I rx ry ⟨e1, by rw [e2]; exact res.flat rfl⟩
    split at hc
    · rename_i hz
      rw [Bool.and_eq_true] at hz
      cases hc
      exact op_neD (by omega) pins s σ H _ _ v u Q I rx ry ⟨_, _, Rp.dp eF _ _ _ (shp_isP hz.1) h1, Rp.dp eF _ _ _ (shp_isP hz.2) h2, shp_sh hz.1, shp_sh hz.2, res.flat rfl⟩
    · cases hc
  | isN => exact OpR.weak (rIs_ok (X := X) false) fun x y H Q q => q
  | notN =>
    refine OpR.weak (rIs_ok (X := X) true) fun x y H Q q => ?_
    obtain ⟨F, d1, d2, d, S1, S2, eF, h1, h2, hf, res⟩ := q
    refine ⟨F, d1, d2, d, S1, S2, eF, h1, h2, ?_, res⟩
    rw [← hf]
    show _ = Option.map D.bl (Option.map not (dIs d1 d2))
    rw [Option.map_map]
    rfl
  | inn => exact OpR.weak (rIn_ok (X := X) hu false) fun x y H Q q => q
  | nin =>
    refine OpR.weak (rIn_ok (X := X) hu true) fun x y H Q q => ?_
    obtain ⟨F, d1, d2, d, S1, S2, eF, h1, h2, hf, res⟩ := q
    refine ⟨F, d1, d2, d, S1, S2, eF, h1, h2, ?_, res⟩
    rw [← hf]
    show _ = Option.map D.bl (Option.map not (dIn d1 d2))
    rw [Option.map_map]
    rfl
end
end AW

/-! AWOps3: subscripts, slices, built-in functions, methods by values. -/
namespace AW
open PySem L2 PyProof.Rows

section
variable {X : Cx} {F H : Hp} {d : D} {v : V} {Qk : VK}
theorem atI_len {α β : Type} {xs : List α} {ys : List β} (h : xs.length = ys.length) {i : Int} {j : Nat} : ixN xs.length i = some j ↔ ixN ys.length i = some j := by rw [h]
theorem RpL.atI {K : PySem.W.Frag} {ds : List D} {vs : List V} {S : AS} {i : Int} {e : D} (r : RpL K F H ds vs S) (h : L2.atI ds i = some e) : ∃ w S1, L2.atI vs i = some w ∧ Sub S1 S ∧ Rp K F H e w S1 := by
  unfold L2.atI at h
  cases hj : ixN ds.length i with
  | none =>
    rw [hj] at h
    cases h
  | some j =>
    rw [hj] at h
    obtain ⟨w, S1, g1, g2, g3⟩ := r.get (k := j) h
    refine ⟨w, S1, ?_, g2, g3⟩
    unfold L2.atI
    rw [← r.len, hj]
    exact g1
theorem ix_dict : X.A.units + 1 < cLine → IxR X (fun x y H Q => ∃ a v, x = .ref a ∧ DGet H a y (some v) ∧ Q v H) := by
  intro hu value slice pins s σ H x y v u Q I rx ry h hs
  obtain ⟨a, w, ex, g, q⟩ := h
  subst ex
  obtain rfl : v = Value.ref a := rx
  have hT := dict_typeIs I g
  unfold subscriptTail
  refine wpAny_bind ?_
  rw [getitemInPython_of_ne hT.not_modules]
  refine wpAny_bind (wpAny_specialOf hT PySem.F.slot_dict_getitem.lookup ?_)
  have fin : wpAny (model X.prog X.w) X.A (subscripted slice false (.ref a) u) (fun r s₃ => wpAny (model X.prog X.w) X.A (letTemporaryGo value (.ref a) r >>= fun _ => pure r) (EP X pins σ Q) X.xe s₃) X.xe s := by
    rw [hs]
    exact wpAny_operating (d_getItem hu I g ry fun w' s3 I3 rw' => wpAny_bind (wpAny_letTemporaryGo (wpAny_pure ⟨w, H, I3, rw', q⟩)))
  first
    | exact wpAny_pure (wpAny_bind fin)
    | exact wpAny_bind (wpAny_pure (wpAny_bind fin))
    | exact wpAny_bind fin
theorem ix_tab : X.A.units + 9 < cLine → IxR X (fun x y H Q => ∃ F o ks vs S xk Sk d, Ex F H ∧ Rp X.K F H (.dtp o ks vs) x S ∧ Rp X.K F H xk y Sk ∧ isTK xk = true ∧ tGet ks vs xk = some d ∧ ∀ w T, Sub T S → Rp X.K F H d w T → Q w H) := by
  intro hu value slice pins s σ H x y v u Q I rx ry h hs
  obtain ⟨F, o, ks, vs, S, xk, Sk, d, eF, h1, h2, hz, hg, q⟩ := h
  obtain ⟨p, ep, xs, us, ex, hp, hks, hvl, hkl, hl⟩ := Rp.dtpL eF h1
  subst ex
  obtain rfl : v = Value.ref p := rx
  obtain ⟨k, b, hk, _, eu, his⟩ := tk_is I hz h2 ry
  subst eu
  have dd := tab_rd I hp hks hkl
  obtain ⟨c, w, z, T, q1, q2, q3, q4⟩ := (tGet_val hk hks.ns hvl hl).2 d hg
  have hT := dd.typeIs
  unfold subscriptTail
  refine wpAny_bind ?_
  rw [getitemInPython_of_ne hT.not_modules]
  refine wpAny_bind (wpAny_specialOf hT PySem.F.slot_dict_getitem.lookup ?_)
  have fin : wpAny (model X.prog X.w) X.A (subscripted slice false (.ref p) (.ref b)) (fun r s₃ => wpAny (model X.prog X.w) X.A (letTemporaryGo value (.ref p) r >>= fun _ => pure r) (EP X pins σ Q) X.xe s₃) X.xe s := by
    rw [hs]
    exact wpAny_operating (t_getItem hu I dd his q1 fun s3 I3 => wpAny_bind (wpAny_letTemporaryGo (wpAny_pure ⟨w, H, I3, q2, q w T q3 q4⟩)))
  first
    | exact wpAny_pure (wpAny_bind fin)
    | exact wpAny_bind (wpAny_pure (wpAny_bind fin))
    | exact wpAny_bind fin
theorem own1_inv {d e : D} (h : own1 d = some e) : d = e ∧ noOwn d = true := by
  unfold own1 at h
  split at h
  · rename_i n
    exact ⟨Option.some.inj h, n⟩
  · cases h
theorem op_idx (hu : X.A.units + 9 < cLine) : IxR X (rBin X.K dIdx) := by
  intro value slice pins s σ H x y v u Q I rx ry h hs
  obtain ⟨F, d1, d2, d, S1, S2, eF, h1, h2, hf, res⟩ := h
  have go : ∀ {r : R2}, IxR X r → r x y H Q → wpAny (model X.prog X.w) X.A (subscriptTail value slice v u) (EP X pins σ Q) X.xe s := fun hr q => hr value slice pins s σ H x y v u Q I rx ry q hs
  unfold dIdx at hf
  split at hf
  · split at hf
    · cases h2
      obtain ⟨p, vs, e, ht, hl⟩ := Rp.lstL eF h1
      obtain ⟨e1, he1, he2⟩ := Option.bind_eq_some_iff.mp hf
      obtain ⟨rfl, n⟩ := own1_inv he2
      obtain ⟨w, T, g1, g2, g3⟩ := hl.atI he1
      exact go ix_list ⟨p, vs, _, w, e, rfl, ht, g1, res.flat' n g3⟩
    · cases hf
  · split at hf
    · cases h2
      obtain ⟨p, vs, e, ht, hl⟩ := h1
      obtain ⟨e1, he1, he2⟩ := Option.bind_eq_some_iff.mp hf
      obtain ⟨rfl, n⟩ := own1_inv he2
      obtain ⟨w, T, g1, g2, g3⟩ := hl.atI he1
      exact go ix_tup ⟨p, vs, _, w, e, rfl, ht, g1, res.flat' n g3⟩
    · cases hf
  · split at hf
    · split at hf
      · rename_i hz
        cases h1; cases h2
        obtain ⟨c, hc, rfl⟩ := Option.map_eq_some_iff.mp hf
        refine go ix_str ⟨_, _, c, rfl, rfl, ?_, ?_, res.flat rfl⟩
        · rw [tx_len]
          exact hz
        · simpa using hc
      · cases hf
    · cases hf
  · split at hf
    · rename_i hz
      obtain ⟨k, hk⟩ := Option.isSome_iff_exists.mp hz
      obtain ⟨e1, he1, he2⟩ := Option.bind_eq_some_iff.mp hf
      obtain ⟨rfl, n⟩ := own1_inv he2
      obtain ⟨p, kvs, e, hp, hks, hl⟩ := Rp.dicL eF h1
      subst e
      have ex := keyOf_kV hk h2
      subst ex
      obtain ⟨w, T, q1, q2, q3⟩ := (dGet_val hk hks hl).2 _ he1
      refine go (ix_dict (by omega)) ⟨p, w, rfl, ?_, res.flat' n q3⟩
      rw [← q1]
      exact DGet.k hp
    · cases hf
  · split at hf
    · rename_i hz
      obtain ⟨e1, he1, he2⟩ := Option.bind_eq_some_iff.mp hf
      obtain ⟨rfl, n⟩ := own1_inv he2
      exact go (ix_tab hu) ⟨F, _, _, _, S1, _, S2, _, eF, h1, h2, hz, he1, fun w T q2 q3 => res.flat' n q3⟩
    · cases hf
  · cases hf

/-! ### slices -/
theorem noOwns_mem : ∀ {xs : List D}, noOwns xs = true ↔ ∀ x ∈ xs, noOwn x = true
  | [] => ⟨fun _ x h => (by cases h), fun _ => rfl⟩
  | a :: xs => by
    rw [noOwns, Bool.and_eq_true, noOwns_mem (xs := xs)]
    exact ⟨fun h x hx => by
      rcases List.mem_cons.mp hx with e | e
      · subst e
        exact h.1
      · exact h.2 x e, fun h => ⟨h a (List.mem_cons_self ..), fun x hx => h x (List.mem_cons_of_mem _ hx)⟩⟩
theorem RpL.all_free {K : PySem.W.Frag} : ∀ {ds : List D} {vs : List V}, RpL K F H ds vs No ↔ ds.length = vs.length ∧ ∀ (i : Nat) (d : D) (w : V), ds[i]? = some d → vs[i]? = some w → Rp K F H d w No
  | [], [] => ⟨fun _ => ⟨rfl, fun i d w h => by simp at h⟩, fun _ => rfl⟩
  | [], w :: vs => ⟨fun h => (by cases h), fun h => (by cases h.1)⟩
  | d :: ds, [] => ⟨fun h => (by obtain ⟨v, r, S1, S2, e, _⟩ := h; cases e), fun h => (by cases h.1)⟩
  | d :: ds, w :: vs => by
    constructor
    · rintro ⟨v, r, S1, S2, e, s1, s2, dj, g1, g2⟩
      cases e
      have g1' := Rp.mono (Ex.refl F) (Tu.refl H) _ _ _ No s1 (fun _ _ _ q => q) g1
      have g2' := RpL.mono (Ex.refl F) (Tu.refl H) _ _ _ No s2 (fun _ _ _ q => q) g2
      obtain ⟨e, ih⟩ := RpL.all_free.mp g2'
      refine ⟨by rw [List.length_cons, List.length_cons, e], fun i c u hc hu => ?_⟩
      cases i with
      | zero =>
        simp at hc hu
        subst hc; subst hu
        exact g1'
      | succ i => exact ih i c u (by simpa using hc) (by simpa using hu)
    · rintro ⟨e, h⟩
      refine ⟨w, vs, No, No, rfl, fun _ q => q, fun _ q => q, fun _ q _ => q, h 0 d w rfl rfl, RpL.all_free.mpr ⟨by simpa using e, fun i c u hc hu => h (i + 1) c u (by simpa using hc) (by simpa using hu)⟩⟩
theorem RpL.cut {K : PySem.W.Frag} {ds : List D} {vs : List V} (a b : Nat) (h : RpL K F H ds vs No) : RpL K F H ((ds.drop a).take b) ((vs.drop a).take b) No := by
  obtain ⟨e, g⟩ := RpL.all_free.mp h
  refine RpL.all_free.mpr ⟨by simp [e], fun i d w hd hw => ?_⟩
  rw [List.getElem?_take] at hd hw
  split at hd
  · rename_i hi
    rw [if_pos hi] at hw
    rw [List.getElem?_drop] at hd hw
    exact g _ d w hd hw
  · cases hd
theorem noOwns_cut {ds : List D} (a b : Nat) (h : noOwns ds = true) : noOwns ((ds.drop a).take b) = true := noOwns_mem.mpr fun x hx => noOwns_mem.mp h x (List.mem_of_mem_drop (List.mem_of_mem_take hx))
theorem RpL.cutD {K : PySem.W.Frag} {ds : List D} {vs : List V} (lo hi : Option Int) (h : RpL K F H ds vs No) : RpL K F H (AW.cutD ds lo hi) (cutV vs lo hi) No := by
  unfold AW.cutD cutV
  rw [h.len]
  exact RpL.cut _ _ h
theorem op_slc : SlR X (fun x lo hi H Q => ∃ F d1 d S1, Ex F H ∧ Rp X.K F H d1 x S1 ∧ dCut d1 lo hi = some d ∧ Res X.K F H d Q) := by
  intro pins s σ H x v vl vu lo hi sl Q I rx hs pl pu h
  obtain ⟨F, d1, d, S1, eF, h1, hf, res⟩ := h
  unfold dCut at hf
  split at hf
  · split at hf
    · rename_i n
      cases hf
      obtain ⟨p, vs, e, ht, hl⟩ := Rp.lstL eF h1
      exact sl_list pins s σ H x v vl vu lo hi sl Q I rx hs pl pu ⟨p, vs, e, ht, res.list (noOwns_cut _ _ n) (RpL.cutD lo hi (RpL.free _ _ _ n hl))⟩
    · cases hf
  · split at hf
    · rename_i n
      cases hf
      obtain ⟨p, vs, e, ht, hl⟩ := h1
      have hl := RpL.free _ _ _ n hl
      have hc := RpL.cutD lo hi hl
      refine sl_tupA pins s σ H x v vl vu lo hi sl Q I rx hs pl pu ⟨p, vs, e, ht, fun hw => ?_, fun _ => res.tup (noOwns_cut _ _ n) hc⟩
      refine res.flat ⟨p, vs, rfl, ht, ?_⟩
      have e2 : cutV vs lo hi = vs := by
        unfold cutV
        rw [hw.1, hw.2]
        simp
      rw [e2] at hc
      exact hc
    · cases hf
  · split at hf
    · rename_i cs hz
      cases hf
      cases h1
      refine sl_str pins s σ H _ v vl vu lo hi sl Q I rx hs pl pu ⟨_, rfl, ?_, ?_⟩
      · rw [tx_len]
        exact hz
      · have q := res.flat rfl
        have e : cutS (tx cs) lo hi = tx (AW.cutD cs lo hi) := by
          unfold cutS AW.cutD
          rw [tx_len]
        rw [e]
        exact q
    · cases hf
  · cases hf
end
end AW

/-! AWSrt: sorted of data, of lists and of dicts; list, len, dict by dicts with tuple keys. -/
namespace AW
open PySem L2 PyProof.Rows
theorem nOs_mem : ∀ {ds : List D}, noOwns ds = true → ∀ d ∈ ds, noOwn d = true
  | [], _, d, hd => by cases hd
  | a :: ds, h, d, hd => by
    have h : (noOwn a && noOwns ds) = true := h
    rw [Bool.and_eq_true] at h
    rcases List.mem_cons.mp hd with e | hd
    · rw [e]
      exact h.1
    · exact nOs_mem h.2 d hd
theorem isPs_mem : ∀ {ds : List D}, isPs ds = true → ∀ d ∈ ds, isP d = true
  | [], _, d, hd => by cases hd
  | a :: ds, h, d, hd => by
    have h : (isP a && isPs ds) = true := h
    rw [Bool.and_eq_true] at h
    rcases List.mem_cons.mp hd with e | hd
    · rw [e]
      exact h.1
    · exact isPs_mem h.2 d hd
/-! ### what may be sorted -/
theorem sortsAt_one {prog : Program} {w : World} {A : Around} {s : Shared} {vs : List Value} {ds : List PyData} (e : PySem.W.EachIs (fun v d => ∃ as, Reads s.heap v d as) vs ds) (hal : PySem.W.AllAlike ds) (h1 : ds.length ≤ 1) (hn : ∀ d ∈ ds, d ≠ .none)
    (hu : ∀ d, d ∈ ds → A.units + d.depth < cLine) : PySem.W.SortsAt prog w A s (PySem.W.dataKind s.heap ds) vs := by
  refine ⟨fun v hv => ?_, general', fun E x y a b Q ha hb hq => ?_, fun h2 => ?_⟩
  · obtain ⟨d, hd, as, r⟩ := e.left v hv
    exact ⟨_, PySem.W.dataKind_some hal hd r⟩
  · obtain ⟨d, as, hd, ra, rfl⟩ := PySem.W.dataKind_inv ha
    obtain ⟨d', as', hd', rb, rfl⟩ := PySem.W.dataKind_inv hb
    exact PySem.W.oneLt_alike (f := false) (fun z => by cases z) ra rb (hal d hd d' hd') (hn d hd) (Nat.lt_of_le_of_lt (Nat.add_le_add_left (Nat.min_le_left _ _) _) (hu d hd)) hq
  · have z := e.length
    omega
theorem srt_prop {ds : List D} (h : srtOk ds = true) : isPs ds = true ∧ noOwns ds = true ∧ PySem.W.AllAlike (ds.map toP) ∧ (∀ d ∈ ds, (toP d).depth ≤ 60) ∧ (PySem.W.Sortable (ds.map toP) ∨ (ds.length ≤ 1 ∧ ∀ d ∈ ds.map toP, d ≠ .none)) := by
  unfold srtOk at h
  simp only [Bool.and_eq_true] at h
  obtain ⟨h1, h2, h3, h4, h5⟩ := h
  have hp : ∀ d ∈ ds, isP d = true := isPs_mem h1
  refine ⟨h1, h2, ?_, fun d hd => of_decide_eq_true (List.all_eq_true.mp h4 d hd), ?_⟩
  · intro a ha b hb
    obtain ⟨x, hx, rfl⟩ := List.mem_map.mp ha
    obtain ⟨y, hy, rfl⟩ := List.mem_map.mp hb
    exact List.all_eq_true.mp (List.all_eq_true.mp h3 x hx) y hy
  · rw [Bool.or_eq_true, Bool.or_eq_true, Bool.and_eq_true] at h5
    rcases h5 with (h5 | h5) | ⟨h5, h6⟩
    · refine Or.inl (Or.inl fun d hd => ?_)
      obtain ⟨x, hx, rfl⟩ := List.mem_map.mp hd
      have z := List.all_eq_true.mp h5 x hx
      cases x with
      | tup xs =>
        cases xs with
        | nil => cases z
        | cons a r => exact ⟨toP a, toPs r, rfl⟩
      | _ => cases z
    · refine Or.inl (Or.inr fun d hd => ?_)
      obtain ⟨x, hx, rfl⟩ := List.mem_map.mp hd
      have z := List.all_eq_true.mp h5 x hx
      have z2 := hp x hx
      cases x with
      | tup xs => cases z
      | non => cases z
      | bl b => exact ⟨fun e => by simp [toP] at e, fun xs e => by simp [toP] at e⟩
      | int b => exact ⟨fun e => by simp [toP] at e, fun xs e => by simp [toP] at e⟩
      | str b => exact ⟨fun e => by simp [toP] at e, fun xs e => by simp [toP] at e⟩
      | lst o b => exact ⟨fun e => by simp [toP] at e, fun xs e => by simp [toP] at e⟩
      | dic _ _ _ => cases z2
      | dtp _ _ _ => cases z2
      | ins _ _ => cases z2
      | fn _ => cases z2
    · refine Or.inr ⟨of_decide_eq_true h5, fun d hd => ?_⟩
      obtain ⟨x, hx, rfl⟩ := List.mem_map.mp hd
      have z := List.all_eq_true.mp h6 x hx
      have z2 := hp x hx
      cases x with
      | non => cases z
      | bl b => exact fun e => by simp [toP] at e
      | int b => exact fun e => by simp [toP] at e
      | str b => exact fun e => by simp [toP] at e
      | tup b => exact fun e => by simp [toP] at e
      | lst o b => exact fun e => by simp [toP] at e
      | dic _ _ _ => cases z2
      | dtp _ _ _ => cases z2
      | ins _ _ => cases z2
      | fn _ => cases z2
theorem sortsAt_any {prog : Program} {w : World} {A : Around} {s : Shared} {vs : List Value} {ds : List PyData} (e : PySem.W.EachIs (fun v d => ∃ as, Reads s.heap v d as) vs ds) (hal : PySem.W.AllAlike ds) (h : PySem.W.Sortable ds ∨ (ds.length ≤ 1 ∧ ∀ d ∈ ds, d ≠ .none))
    (hu : ∀ d, d ∈ ds → A.units + d.depth < cLine) : PySem.W.SortsAt prog w A s (PySem.W.dataKind s.heap ds) vs := by
  rcases h with h | ⟨h1, h2⟩
  · exact PySem.W.SortsAt.data e hal h hu
  · exact sortsAt_one e hal h1 h2 hu
/-! ### values that stand for data -/
def VR (K : PySem.W.Frag) (F H : Hp) (u : Value) (d : D) : Prop := ∃ v, RelV v u ∧ Rp K F H d v No
section
variable {K : PySem.W.Frag} {F H : Hp}
theorem vr_of : ∀ {ds : List D} {vs : List V} {us : List Value} {S : AS}, RpL K F H ds vs S → noOwns ds = true → Vals vs us → PySem.W.EachIs (VR K F H) us ds
  | [], vs, us, S, h, n, q => by
    cases h
    cases q
    exact .nil
  | d :: ds, vs, us, S, h, n, q => by
    obtain ⟨v, r, S1, S2, e, s1, s2, dj, g1, g2⟩ := h
    subst e
    have n : (noOwn d && noOwns ds) = true := n
    rw [Bool.and_eq_true] at n
    cases q with
    | cons q1 q2 => exact .cons ⟨v, q1, Rp.free _ _ _ n.1 g1⟩ (vr_of g2 n.2 q2)
theorem vr_back : ∀ {ds : List D} {us : List Value}, PySem.W.EachIs (VR K F H) us ds → ∃ vs, Vals vs us ∧ RpL K F H ds vs No
  | _, _, .nil => ⟨[], .nil, rfl⟩
  | _, _, .cons ⟨v, q1, g1⟩ h => by
    obtain ⟨vs, q2, g2⟩ := vr_back h
    exact ⟨v :: vs, .cons q1 q2, v, vs, No, No, rfl, fun _ z => z, fun _ z => z, fun _ z _ => z, g1, g2⟩
end
section
variable {X : Cx} {pins : List (Addr × Obj)} {σ : L2.St} {F H : Hp} {s : Shared}
theorem vr_reads (I : Inv X pins σ H s) (eF : Ex F H) : ∀ {ds : List D} {us : List Value}, isPs ds = true → PySem.W.EachIs (VR X.K F H) us ds → PySem.W.EachIs (fun u b => ∃ as, Reads s.heap u (toP b) as) us ds
  | _, _, _, .nil => .nil
  | d :: ds, _, h, .cons ⟨v, q1, g1⟩ r => by
    have h : (isP d && isPs ds) = true := h
    rw [Bool.and_eq_true] at h
    exact .cons (Dp.reads I _ v _ (Rp.dp eF _ _ _ h.1 g1) q1) (vr_reads I eF h.2 r)
theorem nO_sort {ds : List D} (n : noOwns ds = true) : noOwns (ds.mergeSort dle) = true := by
  have z : ∀ d ∈ ds.mergeSort dle, noOwn d = true := fun d hd => nOs_mem n _ ((List.mergeSort_perm ds dle).mem_iff.mp hd)
  revert z
  generalize ds.mergeSort dle = l
  intro z
  induction l with
  | nil => rfl
  | cons a r ih =>
    show (noOwn a && noOwns r) = true
    rw [z a (List.mem_cons_self ..), ih fun d hd => z d (List.mem_cons_of_mem _ hd)]
    rfl
def rSrtL (K : PySem.W.Frag) : List V → Hp → VK → Prop := fun xs H Q => ∃ F p vs ds S, Ex F H ∧ xs = [.ref p] ∧ SqL K H p vs ∧ RpL K F H ds vs S ∧ srtOk ds = true ∧ Res K F H (.lst true (ds.mergeSort dle)) Q
theorem cr_sortL (hu : X.A.units + 66 < cLine) : CallR X (.builtin "sorted") (rSrtL X.K) := by
  intro pins s σ H xs us Q I r h
  obtain ⟨F, p, vs, ds, S, eF, rfl, hs, hl, hk, res⟩ := h
  obtain ⟨its, rv, hL, hz⟩ := I.list hs
  rw [Vals.ref1 r]
  obtain ⟨h1, n, hal, hd, hk⟩ := srt_prop hk
  have e := vr_of hl n rv
  have er := vr_reads I eF h1 e
  have er' : PySem.W.EachIs (fun v b => ∃ as, Reads (PySem.W.sortingHeap (PySem.W.copyHeap s.heap its) (s.heap.objs.size + 1) its) v (toP b) as) its ds := er.mono fun _ _ ⟨as, r⟩ => ⟨as, PyProof.Rows.Reads.keeps (fun _ _ => PySem.W.sorting_copy_old) r⟩
  have hu' : ∀ d, d ∈ ds.map toP → X.A.in1.in1.units + d.depth < cLine := fun d hd' => by
    obtain ⟨x, hx, rfl⟩ := List.mem_map.mp hd'
    have z := hd x hx
    show X.A.units + 1 + 1 + _ < _
    omega
  refine PySem.W.sorted_vals hL.isList (sortsAt_any (s := { s with heap := PySem.W.sortingHeap (PySem.W.copyHeap s.heap its) (s.heap.objs.size + 1) its }) (PySem.W.each_map (R := fun v d => ∃ as, Reads _ v d as) toP er') hal (by rw [List.length_map] at *; exact hk) hu') (by rw [← rv.length]; exact hz) ?_
  obtain ⟨vs', rv', hl'⟩ := vr_back (PySem.W.sortVals_data false e er' hal)
  obtain ⟨ep, he'⟩ := PyProof.Rows.sortedAll_at s.heap its (PySem.W.sortVals (PySem.W.dataKind (PySem.W.sortingHeap (PySem.W.copyHeap s.heap its) (s.heap.objs.size + 1) its) (ds.map toP)) false its its).toArray
  have hlen : vs'.length ≤ sizeLine := by
    rw [← hl'.len]
    show (ds.mergeSort dle).length ≤ _
    rw [(List.mergeSort_perm ds dle).length_eq, hl.len]
    exact hz
  exact ⟨.ref _, upd H (s.heap.objs.size + 1) (.lst vs'), I.laid (t' := s.toks) (fun _ _ => PyProof.Rows.sortedAll_old) (Nat.le_succ _) ⟨hlen, _, ep, rv', he'⟩, rfl, res.list (nO_sort n) hl' _ (I.hok.fresh (Nat.le_succ _))⟩
/-- the keys of a dict, by its entries -/
theorem sort_raw (hc : X.calm = true) (hu : X.A.units + 66 < cLine) {p : Addr} {es : Array DictEntry} {ep : Nat} {ds : List D} {Q : VK} (I : Inv X pins σ H s) (lo : (p == sysModules) = false) (dr : s.heap.DictRaw p es ep) (eF : Ex F H) (hsz : es.size ≤ sizeLine)
    (e : PySem.W.EachIs (VR X.K F H) (es.toList.map (·.key)) ds) (hk : srtOk ds = true) (res : Res X.K F H (.lst true (ds.mergeSort dle)) Q) : wpAny (model X.prog X.w) X.A (call (.builtin "sorted") [.ref p]) (EP X pins σ Q) X.xe s := by
  refine Calls.call_function_entry PyProof.Rows.kind_sorted PyProof.Rows.plain_sorted PyProof.Rows.entry_sorted (PyProof.Rows.args_sorted1 _) ?_
  unfold Builtin.«sorted»
  refine wpAny_bind (m := checkCount "sorted" 1 1 _) (wpAny_pure ?_)
  refine wpAny_bind (PySem.W.kdu_collect (A := X.A.in1) (KdlSrc.rawDict lo) (I.ok.hd hc) dr hsz fun h' tk acc hk' hacc => ?_)
  have ea : acc.toList = es.toList.map (·.key) := by
    refine List.ext_getElem? fun j => ?_
    rw [Array.getElem?_toList, List.getElem?_map, Array.getElem?_toList]
    by_cases hj : j < es.size
    · obtain ⟨v, hv⟩ : ∃ v, acc[j]? = some v := ⟨acc[j]'(by rw [hacc.1]; exact hj), Array.getElem?_eq_getElem _⟩
      obtain ⟨hi, e2⟩ := hacc.2 j v hv
      rw [hv, e2, Array.getElem?_eq_getElem hi]
      rfl
    · rw [Array.getElem?_eq_none (by rw [hacc.1]; omega), Array.getElem?_eq_none (by omega)]
      rfl
  rw [← ea] at e
  obtain ⟨h1, n, hal, hd, hk⟩ := srt_prop hk
  have I1 : Inv X pins σ H { s with heap := h', toks := tk } := I.kept hk'
  have hlen0 : acc.toList.length ≤ sizeLine := by rw [Array.length_toList, hacc.1]; exact hsz
  refine wpAny_bind (wpAny_newList ?_ hlen0)
  have hoL : (h'.push (seqObj "list" acc.toList.toArray 0)).get? h'.objs.size = some (seqObj "list" acc.toList.toArray 0) := Heap.get?_push_size _ rfl
  have kp : ∀ b o, h'.get? b = some o → (PySem.W.sortingHeap (h'.push (seqObj "list" acc.toList.toArray 0)) h'.objs.size acc.toList).get? b = some o := fun b o q =>
    PySem.W.sortingHeap_old (Nat.ne_of_lt (Heap.lt_size q)) (Heap.get?_push_of_some _ q)
  have er' : PySem.W.EachIs (fun v b => ∃ as, Reads (PySem.W.sortingHeap (h'.push (seqObj "list" acc.toList.toArray 0)) h'.objs.size acc.toList) v (toP b) as) acc.toList ds := (vr_reads I1 eF h1 e).mono fun _ _ ⟨as, r⟩ => ⟨as, PyProof.Rows.Reads.keeps kp r⟩
  have hu' : ∀ d, d ∈ ds.map toP → X.A.in1.in1.units + d.depth < cLine := fun d hd' => by
    obtain ⟨x, hx, rfl⟩ := List.mem_map.mp hd'
    have z := hd x hx
    show X.A.units + 1 + 1 + _ < _
    omega
  show wpAny _ _ _ _ _ { s with heap := h'.push (seqObj "list" acc.toList.toArray 0), toks := tk }
  refine wpAny_bind (wpAny_holding (wpAny_call_entry PyProof.Rows.slot_list_sort ⟨_, hoL, rfl⟩ PyProof.Rows.entry_list_sort
    (PySem.W.list_sort_vals (s := { s with heap := h'.push (seqObj "list" acc.toList.toArray 0), toks := tk }) hoL (sortsAt_any (s := { s with heap := PySem.W.sortingHeap (h'.push (seqObj "list" acc.toList.toArray 0)) h'.objs.size acc.toList, toks := tk }) (PySem.W.each_map (R := fun v d => ∃ as, Reads _ v d as) toP er') hal (by rw [List.length_map]; exact hk) hu') hlen0 ⟨_, rfl, ?_⟩) (PyProof.Rows.args_list_sort _)))
  obtain ⟨vs', rv', hl'⟩ := vr_back (PySem.W.sortVals_data false e er' hal)
  obtain ⟨ep', he'⟩ := PyProof.Rows.sortedHeap_at (vs := acc.toList) (out := (PySem.W.sortVals (PySem.W.dataKind (PySem.W.sortingHeap (h'.push (seqObj "list" acc.toList.toArray 0)) h'.objs.size acc.toList) (ds.map toP)) false acc.toList acc.toList).toArray) hoL
  have hlen : vs'.length ≤ sizeLine := by
    rw [← hl'.len]
    show (ds.mergeSort dle).length ≤ _
    rw [(List.mergeSort_perm ds dle).length_eq, ← e.length]
    exact hlen0
  refine wpAny_pure ⟨_, rfl, .ref h'.objs.size, upd H h'.objs.size (.lst vs'), I1.laid (t' := tk) (fun b u q => ?_) (Nat.le_refl _) (show ObjOk X.prog X.w _ _ _ (.lst vs') from ⟨hlen, _, ep', rv', he'⟩), rfl, res.list (nO_sort n) hl' _ (I1.hok.fresh (Nat.le_refl _))⟩
  have hb : b < h'.objs.size := Heap.lt_size q
  rw [PyProof.Rows.sortedHeap_old (Nat.ne_of_lt hb) (by rw [size_push']; exact Nat.lt_succ_of_lt hb)]
  exact Heap.get?_push_of_some _ q
end
end AW

/-! AWSrt2: dicts with tuple keys: their entries; sorted, list, len, dict by pairs, the sum of the values. -/
namespace AW
open PySem L2 PyProof.Rows
section
variable {X : Cx} {pins : List (Addr × Obj)} {σ : L2.St} {F H : Hp} {s : Shared} {p : Addr} {ep : Nat} {xs : List (NestedKey × Addr × Value)} {ks : List D}
/-- the entries of a table -/
theorem tab_raw (I : Inv X pins σ H s) (hp : H p = some (tab p ep xs)) : ∃ es, s.heap.DictRaw p es ep ∧ es.size = xs.length ∧ es.toList.map (·.key) = xs.map (fun x => Value.ref x.2.1) ∧ es.toList.map (·.val) = xs.map (·.2.2) := by
  obtain ⟨⟨o, es, h1, h2, h3, h4⟩, _, _⟩ := (show ObjOk X.prog X.w H s.heap p (tab p ep xs) from I.hok p _ hp)
  have e := h4 X.w
  refine ⟨es, ⟨o, h1, h2, h3⟩, ?_, ?_, ?_⟩
  · have z := congrArg List.length e
    rw [List.length_map] at z
    simpa using z
  · rw [e, List.map_map]
    rfl
  · rw [e, List.map_map]
    rfl
theorem vals_kref : ∀ xs : List (NestedKey × Addr × Value), Vals (xs.map kref) (xs.map fun x => Value.ref x.2.1)
  | [] => .nil
  | x :: r => .cons rfl (vals_kref r)
/-- dict keys as values -/
theorem cr_sortDic (hc : X.calm = true) (hu : X.A.units + 66 < cLine) : CallR X (.builtin "sorted") (fun vs H Q => ∃ F a kvs ks, Ex F H ∧ vs = [.ref a] ∧ Rd H a (.dK kvs) ∧ RpL X.K F H ks (kvs.map fun kv => kV kv.1) No ∧ srtOk ks = true ∧ Res X.K F H (.lst true (ks.mergeSort dle)) Q) := by
  intro pins s σ H us ws Q I r h
  obtain ⟨F, a, kvs, ks, eF, rfl, hd, hl, hk, res⟩ := h
  obtain ⟨u, eu, rx⟩ := vals1 r
  subst eu
  cases rx
  obtain ⟨z, lo, vs, rel, dd⟩ := dk_rd I.hok hd
  obtain ⟨es, ep, dr, hs, hkv⟩ := dd.raw
  have ek : (kvs.map fun kv => kV kv.1) = vs.map fun p => kV p.1 := by
    have e := congrArg (List.map kV) rel.keys
    rw [List.map_map, List.map_map] at e
    exact e
  have hv : Vals (vs.map fun p => kV p.1) (es.toList.map (·.key)) := keys_at (by rw [List.length_map, Array.length_toList]; exact hs) fun j v e => by
    rw [List.getElem?_map, Array.getElem?_toList] at e
    obtain ⟨en, he, e2⟩ := Option.map_eq_some_iff.mp e
    obtain ⟨hi, e3⟩ := Array.getElem?_eq_some_iff.mp he
    obtain ⟨⟨k, x⟩, hq⟩ : ∃ q, vs[j]? = some q := ⟨vs[j]'(by rw [← hs]; exact hi), List.getElem?_eq_getElem _⟩
    refine ⟨k, x, hq, ?_⟩
    have z := (hkv j hi k x hq).1
    rw [e3, e2] at z
    exact z
  rw [ek] at hl
  exact sort_raw hc hu I lo dr eF (by rw [hs, ← rel.length]; exact z) (vr_of hl (srt_prop hk).2.1 hv) hk res
theorem cr_sortTab (hc : X.calm = true) (hu : X.A.units + 66 < cLine) : CallR X (.builtin "sorted") (fun vs H Q => ∃ F p ep ks xs, Ex F H ∧ vs = [.ref p] ∧ H p = some (tab p ep xs) ∧ KtOk p ks xs ∧ RpL X.K F H ks (xs.map kref) No ∧ srtOk ks = true ∧ Res X.K F H (.lst true (ks.mergeSort dle)) Q) := by
  intro pins s σ H us ws Q I r h
  obtain ⟨F, p, ep, ks, xs, eF, rfl, hp, kt, hl, hk, res⟩ := h
  rw [Vals.ref1 r]
  obtain ⟨es, dr, hs, e1, e2⟩ := tab_raw I hp
  refine sort_raw hc hu I kt.sm dr eF (by rw [hs]; exact kt.sz) ?_ hk res
  rw [e1]
  exact vr_of hl (srt_prop hk).2.1 (vals_kref xs)
theorem cr_listTab (hc : X.calm = true) : CallR X (.type "list") (fun vs H Q => ∃ p ep ks xs, vs = [.ref p] ∧ H p = some (tab p ep xs) ∧ KtOk p ks xs ∧ ∀ a, H a = none → Q (.ref a) (upd H a (.lst (xs.map kref)))) := by
  intro pins s σ H us ws Q I r h
  obtain ⟨p, ep, ks, xs, rfl, hp, kt, q⟩ := h
  rw [Vals.ref1 r]
  obtain ⟨es, dr, hs, e1, e2⟩ := tab_raw I hp
  refine PySem.W.kdl_call (KdlSrc.rawDict kt.sm) (I.ok.hd hc) dr (by rw [hs]; exact kt.sz) fun h' tk acc c' hk hD hacc => ?_
  have ea : acc.toList = es.toList.map (·.key) := by
    refine List.ext_getElem? fun j => ?_
    rw [Array.getElem?_toList, List.getElem?_map, Array.getElem?_toList]
    by_cases hj : j < es.size
    · obtain ⟨v, hv⟩ : ∃ v, acc[j]? = some v := ⟨acc[j]'(by rw [hacc.1]; exact hj), Array.getElem?_eq_getElem _⟩
      obtain ⟨hi, e2⟩ := hacc.2 j v hv
      rw [hv, e2, Array.getElem?_eq_getElem hi]
      rfl
    · rw [Array.getElem?_eq_none (by rw [hacc.1]; omega), Array.getElem?_eq_none (by omega)]
      rfl
  exact ⟨.ref s.heap.objs.size, upd H s.heap.objs.size (.lst (xs.map kref)), I.laid (t' := tk) hk (Nat.le_refl _)
    (show ObjOk X.prog X.w _ _ _ (.lst (xs.map kref)) from ⟨by rw [List.length_map]; exact kt.sz, acc.toList, c', by rw [ea, e1]; exact vals_kref xs, by rw [Array.toArray_toList]; exact hD⟩), rfl, q _ (I.hok.fresh (Nat.le_refl _))⟩
theorem cr_lenTab : CallR X (.builtin "len") (fun vs H Q => ∃ F p ep ks xs, vs = [.ref p] ∧ H p = some (tab p ep xs) ∧ KtOk p ks xs ∧ RpL X.K F H ks (xs.map kref) No ∧ Q (.int (xs.length : Nat)) H) := by
  intro pins s σ H us ws Q I r h
  obtain ⟨F, p, ep, ks, xs, rfl, hp, kt, hl, q⟩ := h
  rw [Vals.ref1 r]
  exact call_len_dictH kt.sm (tab_rd I hp kt hl) (by have z := kt.sz; rw [sizeLine_eq] at z; omega) ⟨.int (xs.length : Nat), H, I.tok _, ⟨_, rfl⟩, q⟩
theorem preSum_list : ∀ (ns : List Int) (n : Nat), preSum (fun i => ns.getD i 0) n = (ns.take n).sum
  | ns, 0 => by simp [preSum]
  | ns, n + 1 => by
    rw [preSum, preSum_list ns n]
    by_cases h : n < ns.length
    · rw [List.take_succ_eq_append_getElem h, List.sum_append, List.getD_eq_getElem?_getD, List.getElem?_eq_getElem h]
      simp
    · rw [List.take_of_length_le (by omega), List.take_of_length_le (by omega), List.getD_eq_getElem?_getD, List.getElem?_eq_none (by omega)]
      simp
/-- sum(d.values()) -/
def tSumV (X : Cx) (td : TE) : TE := fun σ H Q => td σ H fun x H1 => ∃ (p : Addr) (ep : Nat) (ks : List D) (xs : List (NestedKey × Addr × Value)) (us : List V) (ns : List Int), x = .ref p ∧ H1 p = some (tab p ep xs) ∧ KtOk p ks xs ∧ Vals us (xs.map (·.2.2)) ∧ us = ns.map V.int ∧ Q (.int ns.sum) H1
variable {o : Expr} {p1 pos apos mpos : Pos} {td : TE}
theorem pe_sumV (hc : X.calm = true) (hg : Gl X "sum") (hm : X.mg "sum" = none) (hd : PE X o td) (hbase : attributeBase o "values" X.env (PySem.eval o X.env) = PySem.eval o X.env) (hline : (apos.endLine == mpos.line) = true) :
    PE X (.Call (.Name "sum" p1) [.Call (.Attribute o "values" apos) [] [] mpos] [] pos) (tSumV X td) := by
  refine ⟨fun pins s σ H Q I h => ?_⟩
  refine wpAny_Call_Name_kw (ld_blt I hg hm (u := .builtin "sum") (by first | rfl | decide +kernel) ?_ (by first | decide +kernel | decide) (by first | decide +kernel | decide))
  rw [show starEach [Expr.Call (.Attribute o "values" apos) [] [] mpos] X.env = [(false, PySem.eval (Expr.Call (.Attribute o "values" apos) [] [] mpos) X.env)] from rfl]
  refine PySem.callWith_builtin1 (wpAny_Call_method0_late hbase hline (thn (hd.run pins s σ H _ I h) fun v s1 ⟨x, H1, I1, r1, a, ep, ks, xs, us, ns, ex, ha, kt, hu, eu, q⟩ => ?_))
  subst ex
  obtain rfl : v = Value.ref a := r1
  obtain ⟨es, dr, hs, e1, e2⟩ := tab_raw I1 ha
  obtain ⟨ob, ho, ex, hdat⟩ := id dr
  refine ⟨"dict", "dict.values", F.plainAttrs_dict, F.slot_dict_values, F.type_dict_values, ⟨ob, ho, ex.1⟩, fun b e => ?_, Calls.callWith_builtin rfl (PySem.evalArgs_none ?_)⟩
  · cases e
    exact ⟨ob, ho, ex.2.1⟩
  refine call_meetsIn F.slot_dict_values ⟨ob, ho, ex.1⟩ F.entry_dict_values (F.args_dict_values_1 _) (meets_dict_values_raw a kt.sm) ⟨⟨es, ep, dr⟩, ?_⟩
  have k1 : ∀ b u, s1.heap.get? b = some u → (s1.heap.push { cls := .type "dict_values", data := .fields #[.ref a] }).get? b = some u := fun b u e => Heap.get?_push_of_some _ e
  have hval : ∀ (i : Nat) (v : Value), (∃ hi : i < es.size, v = es[i].val) → ∃ t, v = Value.int (ns.getD i 0) t := fun i v ⟨hi, ev⟩ => by
    have e3 : (es.toList.map (·.val))[i]? = some es[i].val := by
      rw [List.getElem?_map, Array.getElem?_toList, Array.getElem?_eq_getElem hi]
      rfl
    rw [e2] at e3
    have hl : i < ns.length := by
      have z := hu.length
      rw [eu, List.length_map, List.length_map] at z
      omega
    have hn : ns[i]? = some ns[i] := List.getElem?_eq_getElem hl
    have hw : us[i]? = some (V.int ns[i]) := by rw [eu, List.getElem?_map, hn]; rfl
    obtain ⟨u, hu1, ru⟩ := hu.get hw
    rw [e3] at hu1
    cases hu1
    obtain ⟨t, et⟩ := (show ∃ t, es[i].val = Value.int ns[i] t from ru)
    refine ⟨t, ?_⟩
    rw [ev, et, List.getD_eq_getElem?_getD, hn]
    rfl
  have dr1 : (s1.heap.push { cls := .type "dict_values", data := .fields #[.ref a] }).DictRaw a es ep := dr.at fun o e => k1 _ _ e
  refine call_sum_walkG ?_
  have K := KdlSrc.rawValues (prog := X.prog) (w := X.w) (r := s1.heap.objs.size) (d := a) (es := es) (ep := ep)
  have hok : Heap.IsValuesView (s1.heap.push { cls := .type "dict_values", data := .fields #[.ref a] }) s1.heap.objs.size a ∧ (s1.heap.push { cls := .type "dict_values", data := .fields #[.ref a] }).DictRaw a es ep := ⟨⟨_, Heap.get?_push_size _ rfl, rfl, rfl⟩, dr1⟩
  obtain ⟨oI, St, hit, W, st⟩ := K.iter X.A.in1 { s1 with heap := s1.heap.push { cls := .type "dict_values", data := .fields #[.ref a] } } (I1.ok.hd hc) hok
  refine hit _ _ ⟨_, _, _, es.size, _, _, fun i => ns.getD i 0, rfl, W, st, fun b hb => ?_, hval, fun h' tk t' hk => ?_⟩
  · show b < ((s1.heap.push _).push oI).objs.size
    rw [size_push']
    rcases List.mem_cons.mp hb with e | hb
    · rw [e]; exact Nat.lt_succ_self _
    · rw [List.mem_singleton.mp hb]; exact Nat.lt_succ_of_lt (K.there _ hok).2
  · have hk2 : ∀ b o, s1.heap.get? b = some o → h'.get? b = some o := fun b o e => hk b o (fun hI => by
      have z := Heap.lt_size e
      have z2 : (s1.heap.push { cls := Value.type "dict_values", data := .fields #[Value.ref a] }).objs.size = s1.heap.objs.size + 1 := Heap.size_push ..
      have z4 : b = (s1.heap.push { cls := Value.type "dict_values", data := .fields #[Value.ref a] }).objs.size := List.mem_singleton.mp hI
      rw [z4, z2] at z
      exact absurd z (Nat.not_lt.mpr (Nat.le_succ _))) (Heap.get?_push_of_some _ (k1 _ _ e))
    refine ⟨.int ns.sum, H1, I1.kept (t' := tk) hk2, ⟨t', ?_⟩, q⟩
    rw [preSum_list, List.take_of_length_le (by
      have z := hu.length
      rw [eu, List.length_map, List.length_map] at z
      omega)]
end
end AW

/-! AWSrt3: dict(pairs), the keys tuples. -/
namespace AW
open PySem L2 PyProof.Rows
section
variable {X : Cx} {pins : List (Addr × Obj)} {σ : L2.St} {F H : Hp} {s : Shared}
/-- an entry of the table to be, for a pair of data -/
def EK (K : PySem.W.Frag) (F H : Hp) (d : D × D) (q : NestedKey × Addr × Value) : Prop := nkOf d.1 = some q.1 ∧ q.1.depth ≤ 8 ∧ Rp K F H d.1 (.ref q.2.1) No ∧ ∃ w, RelV w q.2.2 ∧ Rp K F H d.2 w No
theorem ek_of (I : Inv X pins σ H s) : ∀ {ds : List D} {ps : List (D × D)} {vs : List V} {its : List Value} {S : AS}, pairsD ds = some ps → noOwns ds = true → (ps.all fun p => isTK p.1) = true → RpL X.K F H ds vs S → Vals vs its →
    ∃ (Ts : List Addr) (qs : List (NestedKey × Addr × Value)), its = Ts.map Value.ref ∧ PySem.W.EachIs (EK X.K F H) ps qs ∧ PySem.W.EachIs (fun T (q : NestedKey × Addr × Value) => s.heap.IsTuple T #[.ref q.2.1, q.2.2]) Ts qs
  | [], ps, vs, its, S, h, n, ha, hl, hv => by
    cases h
    cases hl
    cases hv
    exact ⟨[], [], rfl, .nil, .nil⟩
  | d :: ds, ps, vs, its, S, h, n, ha, hl, hv => by
    obtain ⟨v, r, S1, S2, e, s1, s2, dj, g1, g2⟩ := hl
    subst e
    have n : (noOwn d && noOwns ds) = true := n
    rw [Bool.and_eq_true] at n
    cases d with
    | tup es =>
      match es, h with
      | [k, x], h =>
        obtain ⟨ps', h1, h2⟩ := Option.map_eq_some_iff.mp (show (pairsD ds).map ((k, x) :: ·) = some ps from h)
        subst h2
        rw [List.all_cons, Bool.and_eq_true] at ha
        cases hv with
        | cons q1 q2 =>
          obtain ⟨Ts, qs, i1, i2, i3⟩ := ek_of I h1 n.2 ha.2 g2 q2
          obtain ⟨p, ws, e, ht, hl⟩ := g1
          subst e
          rename_i u us
          obtain rfl : u = Value.ref p := q1
          obtain ⟨its', rv, ht', _⟩ := I.tuple ht
          obtain ⟨a, r1, T1, T2, e, t1, t2, dj2, k1, k2⟩ := hl
          subst e
          obtain ⟨b, r2, T3, T4, e, t3, t4, dj3, k3, k4⟩ := k2
          subst e
          cases k4
          have n1 : (noOwn k && (noOwn x && true)) = true := n.1
          rw [Bool.and_eq_true, Bool.and_true] at n1
          have k1 := Rp.free _ _ _ n1.1 k1
          have k3 := Rp.free _ _ _ n1.2 k3
          obtain ⟨ua, ub, rfl, ra, rb⟩ := rv.two
          obtain ⟨kk, bb, e1, e2, e3, his⟩ := tk_is I ha.1 k1 ra
          subst e2
          subst e3
          exact ⟨p :: Ts, (kk, bb, ub) :: qs, by rw [i1]; rfl, .cons ⟨e1, his.2, k1, b, rb, k3⟩ i2, .cons ht' i3⟩
      | [], h => cases h
      | [_], h => cases h
      | _ :: _ :: _ :: _, h => cases h
    | _ => cases h
theorem tPuts_ok {K : PySem.W.Frag} {p : Addr} : ∀ {ps : List (D × D)} {qs xs : List (NestedKey × Addr × Value)} {ks vs : List D} {us : List V}, PySem.W.EachIs (EK K F H) ps qs → KtOk p ks xs → RpL K F H ks (xs.map kref) No → Vals us (xs.map (·.2.2)) → RpL K F H vs us No → xs.length + qs.length ≤ sizeLine →
    ∃ us', KtOk p (ps.foldl (fun a p => tPut a.1 a.2 p.1 p.2) (ks, vs)).1 (storedAllH xs qs) ∧ RpL K F H (ps.foldl (fun a p => tPut a.1 a.2 p.1 p.2) (ks, vs)).1 ((storedAllH xs qs).map kref) No ∧ Vals us' ((storedAllH xs qs).map (·.2.2)) ∧ RpL K F H (ps.foldl (fun a p => tPut a.1 a.2 p.1 p.2) (ks, vs)).2 us' No
  | _, _, xs, ks, vs, us, .nil, h1, h2, h3, h4, hz => ⟨us, h1, h2, h3, h4⟩
  | _, _, xs, ks, vs, us, .cons (b := q) (bs := qs) ⟨e1, e2, e3, w, e4, e5⟩ r, h1, h2, h3, h4, hz => by
    rw [List.length_cons] at hz
    obtain ⟨us', g1, g2, g3, g4⟩ := tPut_ok (b := q.2.1) (u := q.2.2) e1 e2 h1 (by omega) h2 e3 h3 h4 e4 e5
    have hl := storedH_length xs q.1 q.2.1 q.2.2
    have z := tPuts_ok r g1 g2 g3 g4 (by omega)
    exact z
theorem each_get {α β : Type} {R : α → β → Prop} : ∀ {as : List α} {bs : List β} {j : Nat} {b : β}, PySem.W.EachIs R as bs → bs[j]? = some b → ∃ a, as[j]? = some a ∧ R a b
  | _, _, _, _, .nil, h => by simp at h
  | _, _, 0, _, .cons r _, h => by
    simp at h
    subst h
    exact ⟨_, rfl, r⟩
  | _, _, j + 1, b, .cons _ t, h => by
    obtain ⟨a, h1, h2⟩ := each_get (j := j) t (by simpa using h)
    exact ⟨a, by simpa using h1, h2⟩
def rDict1 (K : PySem.W.Frag) : List V → Hp → VK → Prop := fun xs H Q => ∃ F p vs ds ps S, Ex F H ∧ xs = [.ref p] ∧ SqL K H p vs ∧ RpL K F H ds vs S ∧ noOwns ds = true ∧ pairsD ds = some ps ∧ (ps.all fun p => isTK p.1) = true ∧ Res K F H (.dtp true (tPuts ps).1 (tPuts ps).2) Q
theorem cr_dict1 (hc : X.calm = true) (hu : X.A.units + 66 < cLine) : CallR X (.type "dict") (rDict1 X.K) := by
  intro pins s σ H xs us Q I r h
  obtain ⟨F, p, vs, ds, ps, S, eF, rfl, hs, hl, n, hp, ha, res⟩ := h
  obtain ⟨its, rv, hL, hz⟩ := I.list hs
  rw [Vals.ref1 r]
  obtain ⟨Ts, qs, ei, hek, htu⟩ := ek_of I hp n ha hl rv
  have l1 : its.length = Ts.length := by rw [ei, List.length_map]
  have l2 : Ts.length = qs.length := htu.length
  obtain ⟨o, nn, h1, h2, h3, h4⟩ := hL
  have hpi : PairItems s.heap its.toArray (fun j => Ts.getD j 0) (qs.map fun q => (Value.ref q.2.1, q.2.2)) := by
    refine ⟨by rw [List.size_toArray, List.length_map]; omega, fun j k v hj => ?_⟩
    rw [List.getElem?_map] at hj
    obtain ⟨q, hq, e⟩ := Option.map_eq_some_iff.mp hj
    cases e
    obtain ⟨T, hT, hT2⟩ := each_get htu hq
    have e1 : Ts.getD j 0 = T := by rw [List.getD_eq_getElem?_getD, hT]; rfl
    refine ⟨?_, ?_⟩
    · show its.toArray[j]? = some (.ref (Ts.getD j 0))
      rw [List.getElem?_toArray, ei, List.getElem?_map, hT, e1]
      rfl
    · show PairAt s.heap (Ts.getD j 0) _ _
      rw [e1]
      exact Or.inl hT2
  have hqi : ∀ q ∈ qs, (nestedKind X.prog X.w).is s.heap q.1 q.2.1 := fun q hq => by
    obtain ⟨j, hj⟩ := List.getElem?_of_mem hq
    obtain ⟨d, hd, e1, e2, e3, _⟩ := each_get hek hj
    exact ⟨nk_is I d.1 q.1 _ No _ e1 e3 rfl, e2⟩
  refine call_dict_pairsH (knd := nestedKind X.prog X.w) (ps := qs) (PairArg.list p its.toArray (fun j => Ts.getD j 0) (qs.map fun q => (Value.ref q.2.1, q.2.2))) (I.ok.hd hc) (show X.A.units + 1 + 1 + 8 < cLine by omega) ⟨⟨o, nn, h1, h2, h3, h4⟩, hpi⟩ ⟨(List.length_map ..).symm, fun i key v hr => ?_⟩ (fun h' hk q hq => ?_) (by rw [List.length_map, ← l2, ← l1, ← rv.length]; exact hz) fun h' tk dd hk => ?_
  · have hr : (qs.map fun q => (Value.ref q.2.1, q.2.2))[i]? = some (key, v) := hr
    rw [List.getElem?_map] at hr
    obtain ⟨q, hq, e⟩ := Option.map_eq_some_iff.mp hr
    cases e
    exact ⟨q.1, q.2.1, hq, rfl⟩
  · exact (nestedKind_stays (prog := X.prog) (w := X.w)).stays (fun b o vs n e _ => hk b o (Nat.ne_of_lt (Heap.lt_size e)) (fun z => nomatch z) e) (hqi q hq)
  · have sm : (s.heap.objs.size == sysModules) = false := beq_eq_false_iff_ne.mpr (Nat.ne_of_gt I.big)
    have hqs : qs.length ≤ sizeLine := by
      rw [← l2, ← l1, ← rv.length]
      exact hz
    obtain ⟨us', k1, k2, k3, k4⟩ := tPuts_ok (p := s.heap.objs.size) (xs := []) (ks := []) (vs := []) (us := []) hek ⟨rfl, by simp, Nat.zero_le _, sm, fun x hx => (by cases hx)⟩ rfl .nil rfl (by simpa using hqs)
    obtain ⟨ep, he⟩ := tab_new (keys_num k1.ns) dd
    have hn := I.hok.fresh (Nat.le_refl s.heap.objs.size)
    have e : Ex H (upd H s.heap.objs.size (tab s.heap.objs.size ep (storedAllH [] qs))) := Ex.new hn
    refine ⟨.ref s.heap.objs.size, _, I.laid (t' := tk) (fun b o q => hk b o (fun z => nomatch z) q) (Nat.le_refl _) (he _), rfl, res _ _ (fun a => a = s.heap.objs.size) e ⟨s.heap.objs.size, ep, _, us', rfl, ?_, k1, k3, RpL.mono (Ex.refl F) e.tu _ _ No _ (fun _ q => q) (fun _ _ q => q.elim) k2, RpL.mono (Ex.refl F) e.tu _ _ No _ (fun _ q => q.elim) (fun _ _ q => q.elim) k4⟩ fun a ea => ?_⟩
    · rw [if_pos rfl]
      exact ⟨rfl, upd_same⟩
    · subst ea
      exact ⟨hn, by rw [upd_same]; intro z; cases z⟩
end
end AW

/-! AWOps4: built-in functions by values. -/
namespace AW
open PySem L2 PyProof.Rows

def valF : BF → Value
  | .len => .builtin "len" | .abs => .builtin "abs" | .int1 => .type "int" | .list1 => .type "list" | .tuple1 => .type "tuple" | .sum1 => .builtin "sum" | .max1 => .builtin "max" | .min1 => .builtin "min" | .max2 => .builtin "max" | .min2 => .builtin "min"
  | .all1 => .builtin "all" | .any1 => .builtin "any" | .sorted1 => .builtin "sorted" | .repr1 => .builtin "repr" | .str1 => .type "str" | .dict1 => .type "dict" | .bool1 => .type "bool" | .isInt => .builtin "isinstance" | .isBool => .builtin "isinstance" | .isStr => .builtin "isinstance" | .isTup => .builtin "isinstance" | .isLst => .builtin "isinstance" | .isX => .builtin "isinstance"
theorem boot_F (b : BF) : bootBuiltins (nmF b) = some (valF b) := by cases b <;> decide +kernel
section
variable {X : Cx} {F H : Hp} {d : D} {v : V} {Qk : VK} {K : PySem.W.Frag}
def VwL (K : PySem.W.Frag) (F H : Hp) : List D → List V → Prop
  | [], vs => vs = []
  | d :: ds, vs => ∃ v r S, vs = v :: r ∧ Rp K F H d v S ∧ VwL K F H ds r
/-- the answers of a built-in function -/
def rBlt (K : PySem.W.Frag) (f : List D → Option D) : List V → Hp → VK → Prop := fun xs H Qk => ∃ F ds d, Ex F H ∧ VwL K F H ds xs ∧ f ds = some d ∧ Res K F H d Qk
theorem ints_of : ∀ {ds : List D} {ns : List Int} {vs : List V} {S : AS}, allInts ds = some ns → RpL K F H ds vs S → vs = ns.map V.int
  | [], ns, vs, S, h, r => by
    cases h
    exact r
  | d :: ds, ns, vs, S, h, r => by
    obtain ⟨v, w, S1, S2, e, s1, s2, dj, g1, g2⟩ := r
    cases d with
    | int i =>
      obtain ⟨ms, hm, e2⟩ := Option.map_eq_some_iff.mp (show (allInts ds).map (i :: ·) = some ns from h)
      subst e2 e
      cases g1
      rw [ints_of hm g2]
      rfl
    | _ => cases h
theorem bls_of : ∀ {ds : List D} {ns : List Bool} {vs : List V} {S : AS}, allBls ds = some ns → RpL K F H ds vs S → vs = ns.map V.bl
  | [], ns, vs, S, h, r => by
    cases h
    exact r
  | d :: ds, ns, vs, S, h, r => by
    obtain ⟨v, w, S1, S2, e, s1, s2, dj, g1, g2⟩ := r
    cases d with
    | bl i =>
      obtain ⟨ms, hm, e2⟩ := Option.map_eq_some_iff.mp (show (allBls ds).map (i :: ·) = some ns from h)
      subst e2 e
      cases g1
      rw [bls_of hm g2]
      rfl
    | _ => cases h
theorem keys_of : ∀ {ks : List D} {kvs : List (Key × V)}, KsOk ks (kvs.map (·.1)) → RpL K F H ks (kvs.map fun kv => kV kv.1) No
  | [], [], _ => rfl
  | [], p :: kvs, h => by cases h
  | a :: ks, [], h => by cases h
  | a :: ks, p :: kvs, h => by
    have e1 : keyOf a = some p.1 := (List.cons.inj h).1
    have e2 : KsOk ks (kvs.map (·.1)) := (List.cons.inj h).2
    refine ⟨kV p.1, kvs.map fun kv => kV kv.1, No, No, rfl, fun _ q => q, fun _ q => q, fun _ q _ => q, ?_, keys_of e2⟩
    cases a with
    | int i =>
      have e3 := Option.some.inj e1
      rw [← e3]
      rfl
    | str cs =>
      have e3 := Option.some.inj e1
      rw [← e3]
      rfl
    | _ => cases e1
theorem call_reprD (hu : X.A.units + 66 < cLine) (hg : X.A.guards = some []) : CallR X (.builtin "repr") (fun xs H Q => ∃ x d, xs = [x] ∧ Dp X.K H x d ∧ d.showable = true ∧ d.hasDict = false ∧ d.shown.length ≤ sizeLine ∧ d.depth ≤ 64 ∧ Q (.str d.shown) H) := by
  intro pins s σ H xs us Q I r h
  obtain ⟨x, d, rfl, hd, hs, hn, hz, hp, q⟩ := h
  obtain ⟨u, rfl, ru⟩ := vals1 r
  have sz : d.shown.length ≤ sizeLine := hz
  cases hd with
  | non =>
    cases ru
    exact PySem.P.repr_of_none ⟨.str _, H, I.tok _, ⟨_, rfl⟩, by simpa only [PyData.shown] using q⟩
  | bl b =>
    cases ru
    exact PySem.P.repr_of_bool ⟨.str _, H, I.tok _, ⟨_, rfl⟩, by simpa only [PyData.shown] using q⟩
  | int i =>
    obtain ⟨t, rfl⟩ := ru
    exact PySem.P.repr_of_int (by simpa [PyData.showable] using hs) ⟨.str _, H, I.tok _, ⟨_, rfl⟩, by simpa only [PyData.shown] using q⟩
  | str c =>
    obtain ⟨t, rfl⟩ := ru
    exact PySem.P.repr_of_str ⟨.str _, H, I.tok _, ⟨_, rfl⟩, by simpa only [PyData.shown] using q⟩ (by simpa only [PyData.shown] using hz)
  | @lst a xs ds hl ha =>
    cases ru
    obtain ⟨as, r2⟩ := Dp.reads I _ (.ref a) (.ref a) (Dp.lst hl ha) rfl
    exact repr_of_reads' r2 hs (PyData.noDict_hsm hn) hg (by omega) (fun _ _ e => e) (fun h' u tk hk => ⟨.str _, H, I.kept hk, ⟨_, rfl⟩, q⟩) hz
  | @tup a xs ds hl ha =>
    cases ru
    obtain ⟨as, r2⟩ := Dp.reads I _ (.ref a) (.ref a) (Dp.tup hl ha) rfl
    exact repr_of_reads' r2 hs (PyData.noDict_hsm hn) hg (by omega) (fun _ _ e => e) (fun h' u tk hk => ⟨.str _, H, I.kept hk, ⟨_, rfl⟩, q⟩) hz
mutual
theorem isP_noDict : ∀ d : D, isP d = true → (toP d).hasDict = false
  | .non, _ => by simp only [toP, PyData.hasDict]
  | .bl _, _ => by simp only [toP, PyData.hasDict]
  | .int _, _ => by simp only [toP, PyData.hasDict]
  | .str _, _ => by simp only [toP, PyData.hasDict]
  | .tup ds, h => by
    simp only [toP, PyData.hasDict]
    exact isPs_noDict ds h
  | .lst _ ds, h => by
    simp only [toP, PyData.hasDict]
    exact isPs_noDict ds h
  | .dic _ _ _, h => by cases h
  | .ins _ _, h => by cases h
  | .fn _, h => by cases h
theorem isPs_noDict : ∀ ds : List D, isPs ds = true → PyData.hasDictAll (toPs ds) = false
  | [], _ => by simp only [toPs, PyData.hasDictAll]
  | d :: ds, h => by
    rw [isPs, Bool.and_eq_true] at h
    simp only [toPs, PyData.hasDictAll]
    rw [isP_noDict d h.1, isPs_noDict ds h.2]
    rfl
end
theorem str_tx (z : Str) : tx z.cps.toList = z := by
  cases z with
  | mk cps => simp [tx]
def isIsi : BF → Bool
  | .isInt | .isBool | .isStr | .isTup | .isLst => true
  | _ => false
/-! ### sorted tuples of bits -/
theorem code_inj {n m : List Int} (hl : n.length = m.length) (hn : TS.Bd 2 n) (hm : TS.Bd 2 m) (h : TS.code 2 n = TS.code 2 m) : n = m := by
  induction n generalizing m with
  | nil =>
    cases m with
    | nil => rfl
    | cons b q => cases hl
  | cons a r ih =>
    cases m with
    | nil => cases hl
    | cons b q =>
      have hl2 : r.length = q.length := Nat.succ.inj hl
      rcases Int.lt_trichotomy a b with e | e | e
      · have z := TS.code_lt hl2 hn.tail hm.tail e
        omega
      · subst e
        have z : TS.code 2 r = TS.code 2 q := by
          have h1 : a * 2 ^ r.length + TS.code 2 r = a * 2 ^ q.length + TS.code 2 q := h
          rw [hl2] at h1
          omega
        rw [ih hl2 hn.tail hm.tail z]
      · have z := TS.code_lt hl2.symm hm.tail hn.tail e
        omega
theorem insT_perm (x : List Int) : ∀ l : List (List Int), (insT x l).Perm (x :: l)
  | [] => List.Perm.refl _
  | y :: r => by
    unfold insT
    split
    · exact List.Perm.refl _
    · exact ((insT_perm x r).cons y).trans (List.Perm.swap ..)
theorem sortT_perm : ∀ l : List (List Int), (sortT l).Perm l
  | [] => List.Perm.refl _
  | x :: r => (insT_perm x (sortT r)).trans ((sortT_perm r).cons x)
theorem insT_sorted {x : List Int} : ∀ {l : List (List Int)}, l.Pairwise (fun a b => TS.code 2 a ≤ TS.code 2 b) → (insT x l).Pairwise (fun a b => TS.code 2 a ≤ TS.code 2 b)
  | [], _ => List.pairwise_singleton ..
  | y :: r, h => by
    rw [List.pairwise_cons] at h
    unfold insT
    split
    · rename_i hxy
      have hxy : TS.code 2 x ≤ TS.code 2 y := hxy
      refine List.pairwise_cons.mpr ⟨fun z hz => ?_, List.pairwise_cons.mpr h⟩
      rcases List.mem_cons.mp hz with e | hz
      · rw [e]
        exact hxy
      · exact Int.le_trans hxy (h.1 z hz)
    · rename_i hxy
      have hxy : ¬ TS.code 2 x ≤ TS.code 2 y := hxy
      refine List.pairwise_cons.mpr ⟨fun z hz => ?_, insT_sorted h.2⟩
      rcases List.mem_cons.mp ((insT_perm x r).mem_iff.mp hz) with e | hz
      · rw [e]
        omega
      · exact h.1 z hz
theorem sortT_sorted : ∀ l : List (List Int), (sortT l).Pairwise (fun a b => TS.code 2 a ≤ TS.code 2 b)
  | [] => List.Pairwise.nil
  | x :: r => insT_sorted (sortT_sorted r)
theorem tups_of : ∀ {ds : List D} {ts : List (List Int)} {vs : List V} {S : AS}, allTups ds = some ts → RpL K F H ds vs S → Paired (fun (x : V) (n : List Int) => TupI K H x n) vs ts
  | [], ts, vs, S, h, r => by
    cases h
    cases r
    exact .nil
  | d :: ds, ts, vs, S, h, r => by
    obtain ⟨t, ht, h2⟩ := Option.bind_eq_some_iff.mp (show (tupInts d).bind _ = some ts from h)
    obtain ⟨us, hus, rfl⟩ := Option.map_eq_some_iff.mp h2
    obtain ⟨v, w, S1, S2, e, s1, s2, dj, r1, r2⟩ := r
    subst e
    refine .cons ?_ (tups_of hus r2)
    cases d with
    | tup es =>
      obtain ⟨p, ws, e, hp, hl⟩ := r1
      rw [ints_of ht hl] at hp
      exact ⟨p, e, hp⟩
    | _ => cases ht
theorem nOs_tups : ∀ l : List (List Int), noOwns (l.map fun t => D.tup (t.map .int)) = true
  | [] => rfl
  | t :: r => by
    have z : ∀ l : List Int, noOwns (l.map .int) = true := fun l => by
      induction l with
      | nil => rfl
      | cons a r ih => exact ih
    show (noOwns (t.map .int) && noOwns (r.map fun t => D.tup (t.map .int))) = true
    rw [z, nOs_tups r]
    rfl
theorem rpl_intsV : ∀ ns : List Int, RpL K F H (ns.map .int) (ns.map V.int) No
  | [] => rfl
  | n :: r => ⟨.int n, r.map V.int, No, No, rfl, fun _ q => q, fun _ q => q, fun _ q _ => q, rfl, rpl_intsV r⟩
theorem paired_map {α β : Type} {R : α → β → Prop} {c : α → β} (h : ∀ (x : α) (n : β), R x n → c x = n) : ∀ {vs : List α} {ts : List β}, Paired R vs ts → vs.map c = ts
  | _, _, .nil => rfl
  | _, _, .cons r t => by rw [List.map_cons, h _ _ r, paired_map h t]
theorem paired_mem {α β : Type} {R : α → β → Prop} : ∀ {vs : List α} {ts : List β}, Paired R vs ts → ∀ x ∈ vs, ∃ n, R x n ∧ n ∈ ts
  | _, _, .nil, x, hx => by cases hx
  | _, _, .cons r t, x, hx => by
    rcases List.mem_cons.mp hx with e | hx
    · subst e
      exact ⟨_, r, List.mem_cons_self ..⟩
    · obtain ⟨n, h2, h3⟩ := paired_mem t x hx
      exact ⟨n, h2, List.mem_cons_of_mem _ h3⟩
theorem imax_ok : ∀ {ns : List Int} {m : Int}, imax ns = some m → m ∈ ns ∧ ∀ y ∈ ns, y ≤ m := by
  intro ns m h
  cases ns with
  | nil => cases h
  | cons a r =>
    cases h
    have key : ∀ (r : List Int) (a : Int), (r.foldl max a = a ∨ r.foldl max a ∈ r) ∧ a ≤ r.foldl max a ∧ ∀ y ∈ r, y ≤ r.foldl max a := by
      intro r
      induction r with
      | nil => exact fun a => ⟨.inl rfl, Int.le_refl _, fun y hy => by cases hy⟩
      | cons b r ih =>
        intro a
        obtain ⟨h1, h2, h3⟩ := ih (max a b)
        refine ⟨?_, ?_, fun y hy => ?_⟩
        · show r.foldl max (max a b) = a ∨ r.foldl max (max a b) ∈ b :: r
          rcases h1 with e | e
          · rw [e]
            rcases Int.le_total a b with z | z
            · rw [Int.max_eq_right z]
              exact .inr (List.mem_cons_self ..)
            · rw [Int.max_eq_left z]
              exact .inl rfl
          · exact .inr (List.mem_cons_of_mem _ e)
        · exact Int.le_trans (Int.le_max_left a b) h2
        · rcases List.mem_cons.mp hy with e | hy
          · rw [e]
            exact Int.le_trans (Int.le_max_right a b) h2
          · exact h3 y hy
    obtain ⟨h1, h2, h3⟩ := key r a
    refine ⟨?_, fun y hy => ?_⟩
    · rcases h1 with e | e
      · rw [e]
        exact List.mem_cons_self ..
      · exact List.mem_cons_of_mem _ e
    · rcases List.mem_cons.mp hy with e | hy
      · rw [e]
        exact h2
      · exact h3 y hy
theorem imin_ok : ∀ {ns : List Int} {m : Int}, imin ns = some m → m ∈ ns ∧ ∀ y ∈ ns, m ≤ y := by
  intro ns m h
  cases ns with
  | nil => cases h
  | cons a r =>
    cases h
    have key : ∀ (r : List Int) (a : Int), (r.foldl min a = a ∨ r.foldl min a ∈ r) ∧ r.foldl min a ≤ a ∧ ∀ y ∈ r, r.foldl min a ≤ y := by
      intro r
      induction r with
      | nil => exact fun a => ⟨.inl rfl, Int.le_refl _, fun y hy => by cases hy⟩
      | cons b r ih =>
        intro a
        obtain ⟨h1, h2, h3⟩ := ih (min a b)
        refine ⟨?_, ?_, fun y hy => ?_⟩
        · show r.foldl min (min a b) = a ∨ r.foldl min (min a b) ∈ b :: r
          rcases h1 with e | e
          · rw [e]
            rcases Int.le_total a b with z | z
            · rw [Int.min_eq_left z]
              exact .inl rfl
            · rw [Int.min_eq_right z]
              exact .inr (List.mem_cons_self ..)
          · exact .inr (List.mem_cons_of_mem _ e)
        · exact Int.le_trans h2 (Int.min_le_left a b)
        · rcases List.mem_cons.mp hy with e | hy
          · rw [e]
            exact Int.le_trans h2 (Int.min_le_right a b)
          · exact h3 y hy
    obtain ⟨h1, h2, h3⟩ := key r a
    refine ⟨?_, fun y hy => ?_⟩
    · rcases h1 with e | e
      · rw [e]
        exact List.mem_cons_self ..
      · exact List.mem_cons_of_mem _ e
    · rcases List.mem_cons.mp hy with e | hy
      · rw [e]
        exact h2
      · exact h3 y hy
/-! ### isinstance of errors -/
theorem clsN_inv {d : D} {c : Nat} (h : clsN d = some c) : ∃ m, d = .fn m ∧ m % 2 = 0 ∧ m / 2 = c := by
  cases d with
  | fn m =>
    have h : (if m % 2 = 0 then some (m / 2) else none) = some c := h
    split at h
    · rename_i e
      cases h
      exact ⟨m, rfl, e, rfl⟩
    · cases h
  | _ => cases h
theorem clsN_rp {d : D} {c : Nat} {S : AS} (h : clsN d = some c) (r : Rp K F H d v S) : KN K c ∧ EX K ∧ v = clsV K c := by
  obtain ⟨m, rfl, e1, rfl⟩ := clsN_inv h
  obtain ⟨x, k, a, _⟩ := (show FnR K F m v from r)
  exact ⟨k, x, a e1⟩
theorem kit_one {k : Nat} {t : Value} (two : ∀ c, KN K c → PySem.W.kitOne K t (clsU K c) = some (isSub k c)) : ∀ {ds : List D} {cs : List Nat} {vs : List V} {us : List Value} {S : AS}, clsNs ds = some cs → RpL K F H ds vs S → Vals vs us → PySem.W.kitAny K t us = some (cs.any fun c => isSub k c)
  | [], cs, vs, us, S, h, r, q => by
    cases h
    cases r
    cases q
    rfl
  | d :: ds, cs, vs, us, S, h, r, q => by
    obtain ⟨c, h1, h2⟩ := Option.bind_eq_some_iff.mp (show (clsN d).bind (fun c => (clsNs ds).map (c :: ·)) = some cs from h)
    obtain ⟨cs', h3, rfl⟩ := Option.map_eq_some_iff.mp h2
    obtain ⟨v, w, S1, S2, rfl, s1, s2, dj, g1, g2⟩ := r
    cases q with
    | cons q1 q2 =>
      obtain ⟨kn, _, rfl⟩ := clsN_rp h1 g1
      have e := clsUV q1
      subst e
      have ih := kit_one two h3 g2 q2
      have z := two c kn
      show (match PySem.W.kitOne K t (clsU K c) with | some true => some true | some false => PySem.W.kitAny K t _ | none => none) = _
      rw [z, List.any_cons]
      cases isSub k c with
      | true => rfl
      | false => exact ih
theorem kit_non {t : Value} (two : ∀ c, KN K c → PySem.W.kitOne K t (clsU K c) = some false) : ∀ {ds : List D} {cs : List Nat} {vs : List V} {us : List Value} {S : AS}, clsNs ds = some cs → RpL K F H ds vs S → Vals vs us → PySem.W.kitAny K t us = some false
  | [], cs, vs, us, S, h, r, q => by
    cases h
    cases r
    cases q
    rfl
  | d :: ds, cs, vs, us, S, h, r, q => by
    obtain ⟨c, h1, h2⟩ := Option.bind_eq_some_iff.mp (show (clsN d).bind (fun c => (clsNs ds).map (c :: ·)) = some cs from h)
    obtain ⟨cs', h3, rfl⟩ := Option.map_eq_some_iff.mp h2
    obtain ⟨v, w, S1, S2, rfl, s1, s2, dj, g1, g2⟩ := r
    cases q with
    | cons q1 q2 =>
      obtain ⟨kn, _, rfl⟩ := clsN_rp h1 g1
      have e := clsUV q1
      subst e
      have ih := kit_non two h3 g2 q2
      have z := two c kn
      show (match PySem.W.kitOne K t (clsU K c) with | some true => some true | some false => PySem.W.kitAny K t _ | none => none) = _
      rw [z]
      exact ih
theorem clsNs_ex {S : AS} : ∀ {ds : List D} {cs : List Nat} {vs : List V}, ds ≠ [] → clsNs ds = some cs → RpL K F H ds vs S → EX K
  | [], cs, vs, n, h, r => absurd rfl n
  | d :: ds, cs, vs, n, h, r => by
    obtain ⟨c, h1, h2⟩ := Option.bind_eq_some_iff.mp (show (clsN d).bind (fun c => (clsNs ds).map (c :: ·)) = some cs from h)
    obtain ⟨v, w, S1, S2, rfl, s1, s2, dj, g1, g2⟩ := r
    exact (clsN_rp h1 g1).2.1
theorem call_isX : CallR X (.builtin "isinstance") (rBlt X.K (dBlt .isX)) := by
  intro pins s σ H xs us Q I r h
  obtain ⟨F, ds, d, eF, hv, hf, res⟩ := h
  match ds, hv, hf with
  | [a, c], hv, hf =>
    obtain ⟨x, w, S, rfl, g, y, w', S', rfl, g', e⟩ := hv
    cases (show w' = [] from e)
    obtain ⟨u1, u2, rfl, r1, r2⟩ := vals2 r
    have hf : dIsX a c = some d := hf
    obtain ⟨cs, hc, hf⟩ := Option.bind_eq_some_iff.mp hf
    -- what is asked
    have ask : ∀ {t : Value} {P : Heap → Prop} {b : Bool}, PySem.W.KitX X.K u1 t P → P s.heap → u1 ≠ .builtin "__main__.__loader__#opaque" → d = .bl b →
        (∀ {ks : List D} {vs : List V} {ws : List Value} {S : AS}, clsNs ks = some cs → RpL X.K F H ks vs S → Vals vs ws → PySem.W.kitAny X.K t ws = some b) → wpAny (model X.prog X.w) X.A (call (.builtin "isinstance") [u1, u2]) (EP X pins σ Q) X.xe s := by
      intro t P b Z p hx hd any
      have hq : Q (.bl b) H := by
        rw [hd] at res
        exact res.flat rfl
      have one : ∀ {k : Nat}, clsN c = some k → cs = [k] → wpAny (model X.prog X.w) X.A (call (.builtin "isinstance") [u1, u2]) (EP X pins σ Q) X.xe s := by
        intro k hk hcs
        have z := any (ks := [c]) (vs := [y]) (ws := [u2]) (S := S') (by
          show (clsN c).bind (fun c => (some []).map (c :: ·)) = some cs
          rw [hk, hcs]
          rfl) ⟨y, [], S', No, rfl, fun _ q => q, fun _ q => q.elim, fun _ _ q => q, g', rfl⟩ (.cons r2 .nil)
        refine PySem.W.kia_one Z I.kIn p (b := b) ?_ hx fun tk => ⟨.bl b, H, I.tok tk, rfl, hq⟩
        have z : (match PySem.W.kitOne X.K t u2 with | some true => some true | some false => some false | none => none) = some b := z
        cases e : PySem.W.kitOne X.K t u2 with
        | none =>
          rw [e] at z
          cases z
        | some v =>
          rw [e] at z
          cases v <;> exact z
      cases c with
      | tup ks =>
        obtain ⟨p2, vs, rfl, ht, hl⟩ := (show Rp X.K F H (.tup ks) y S' from g')
        cases (show u2 = Value.ref p2 from r2)
        obtain ⟨its, rv, ⟨o, ho, hc2, n, hd2⟩, _⟩ := I.tuple ht
        obtain ⟨oc, od, dt, sl⟩ := o
        simp only at hc2 hd2
        subst hc2 hd2
        exact PySem.W.kia_tup Z I.kIn p ho (any hc hl rv) hx fun tk => ⟨.bl b, H, I.tok tk, rfl, hq⟩
      | fn m =>
        obtain ⟨k, h1, h2⟩ := Option.map_eq_some_iff.mp (show (clsN (.fn m)).map (fun c => [c]) = some cs from hc)
        exact one h1 h2.symm
      | _ => cases hc
    have ex : cs ≠ [] → EX X.K := by
      intro n
      cases c with
      | tup ks =>
        obtain ⟨p2, vs, rfl, ht, hl⟩ := (show Rp X.K F H (.tup ks) y S' from g')
        refine clsNs_ex (fun z => n ?_) hc hl
        rw [z] at hc
        cases hc
        rfl
      | fn m =>
        obtain ⟨k, h1, h2⟩ := Option.map_eq_some_iff.mp (show (clsN (.fn m)).map (fun c => [c]) = some cs from hc)
        exact (clsN_rp h1 g').2.1
      | _ => cases hc
    cases a with
    | non =>
      cases g
      cases hf
      obtain ⟨P, Z, p, hx⟩ := kit_of (t := .type "NoneType") I r1 (.base .non)
      refine ask Z p hx rfl fun {ks vs ws S} h1 h2 h3 => ?_
      by_cases e : cs = []
      · subst e
        cases ks with
        | nil =>
          cases h2
          cases h3
          rfl
        | cons d ds =>
          obtain ⟨c, h4, h5⟩ := Option.bind_eq_some_iff.mp (show (clsN d).bind (fun c => (clsNs ds).map (c :: ·)) = some [] from h1)
          obtain ⟨cs', h6, h7⟩ := Option.map_eq_some_iff.mp h5
          cases h7
      · exact kit_non (ex e).non h1 h2 h3
    | fn n =>
      have hf : (if n % 2 = 1 then some (D.bl (cs.any fun k => isSub (n / 2) k)) else none) = some d := hf
      split at hf
      · rename_i e1
        cases hf
        obtain ⟨X0, kn, _, g3⟩ := (show FnR X.K F n x from g)
        obtain ⟨p, rfl, e2, e3⟩ := g3 e1
        cases (show u1 = Value.ref p from r1)
        obtain ⟨⟨oe, vs, h1, h2, h3⟩, _⟩ := (show ObjOk X.prog X.w H s.heap p (exV (.ref (exA X.K (n / 2))) p) from I.hok p _ (eF _ _ e2))
        have J : PySem.W.InstAt s.heap p oe (exA X.K (n / 2)) none := by
          obtain ⟨oc, od, oda, osl⟩ := oe
          obtain ⟨h4, h5⟩ := h2
          dsimp only at h3 h4 h5
          subst h3 h4 h5
          exact ⟨h1, rfl, rfl, trivial⟩
        have C := (X0.one _ e3 kn).is
        exact ask (PySem.W.handS_kitx_exc C.hg C.hk C.hs C.hd C.ha C.hn C.ht C.hm) J (fun z => nomatch z) rfl fun h1 h2 h3 => kit_one (X0.two _ · e3 kn) h1 h2 h3
      · cases hf
    | _ => cases hf
  | [], _, hf => cases hf
  | [_], _, hf => cases hf
  | _ :: _ :: _ :: _, _, hf => cases hf
theorem op_blt (hu : X.A.units + 66 < cLine) (hg : X.A.guards = some []) (hc : X.calm = true) (b : BF) (hb : isIsi b = false) : CallR X (valF b) (rBlt X.K (dBlt b)) := by
  intro pins s σ H xs us Q I r h
  obtain ⟨F, ds, d, eF, hv, hf, res⟩ := h
  have go : ∀ {q : List V → Hp → VK → Prop}, CallR X (valF b) q → q xs H Q → wpAny (model X.prog X.w) X.A (call (valF b) us) (EP X pins σ Q) X.xe s := fun hr q => hr pins s σ H xs us Q I r q
  match ds, hv, hf with
  | [], _, hf => cases hf
  | [a], hv, hf =>
    obtain ⟨x, w, S, rfl, g, e⟩ := hv
    have e : w = [] := e
    subst e
    cases b with
    | len =>
      have hf : dLen a = some d := hf
      cases a with
      | lst o ds =>
        cases hf
        obtain ⟨p, vs, e, ht, hl⟩ := Rp.lstL eF g
        subst e
        have q := res.flat (v := .int vs.length) (by rw [hl.len]; rfl)
        exact go call_len_seq ⟨p, vs, rfl, Or.inl ht, q⟩
      | tup ds =>
        cases hf
        obtain ⟨p, vs, e, ht, hl⟩ := g
        subst e
        have q := res.flat (v := .int vs.length) (by rw [hl.len]; rfl)
        exact go call_len_seq ⟨p, vs, rfl, Or.inr ht, q⟩
      | dic o ks vs =>
        cases hf
        obtain ⟨p, kvs, e, hp, hks, hl⟩ := Rp.dicL eF g
        subst e
        have q := res.flat (v := .int kvs.length) (by rw [hks.len, List.length_map]; rfl)
        exact go call_lenD ⟨p, kvs, rfl, hp, q⟩
      | dtp o ks vs =>
        cases hf
        obtain ⟨p, ep, xs, us, e, hp, hks, hvl, hkl, hl⟩ := Rp.dtpL eF g
        subst e
        have el : xs.length = ks.length := by
          have z := congrArg List.length hks.ns
          rw [List.length_map, List.length_map] at z
          exact z.symm
        have q := res.flat (v := .int xs.length) (by rw [el]; rfl)
        exact go cr_lenTab ⟨F, p, ep, ks, xs, rfl, hp, hks, hkl, q⟩
      | str cs =>
        have hf : (if cs.length ≤ SZ then some (D.int cs.length) else none) = some d := hf
        split at hf
        · rename_i hz
          cases hf
          cases g
          exact go call_len ⟨_, cs.length, rfl, ⟨by rw [tx_len]; exact hz, by rw [tx_len]⟩, res.flat rfl⟩
        · cases hf
      | _ => cases hf
    | abs =>
      cases a with
      | int i =>
        cases hf
        cases g
        exact go call_abs ⟨i, rfl, res.flat rfl⟩
      | _ => cases hf
    | int1 =>
      cases a with
      | int i =>
        cases hf
        cases g
        exact go call_int1 (Or.inl ⟨i, rfl, res.flat rfl⟩)
      | bl k =>
        cases hf
        cases g
        exact go call_int1 (Or.inr ⟨k, rfl, res.flat rfl⟩)
      | _ => cases hf
    | list1 =>
      have hf : dList a = some d := hf
      cases a with
      | lst o ds =>
        have hf : (if noOwns ds = true then some (D.lst true ds) else none) = some d := hf
        split at hf
        · rename_i n
          cases hf
          obtain ⟨p, vs, e, ht, hl⟩ := Rp.lstL eF g
          subst e
          exact go call_list_of ⟨p, vs, rfl, Or.inl ht, res.list n hl⟩
        · cases hf
      | tup ds =>
        have hf : (if noOwns ds = true then some (D.lst true ds) else none) = some d := hf
        split at hf
        · rename_i n
          cases hf
          obtain ⟨p, vs, e, ht, hl⟩ := g
          subst e
          exact go call_list_of ⟨p, vs, rfl, Or.inr ht, res.list n hl⟩
        · cases hf
      | dic o ks vs =>
        have hf : (if noOwns ks = true then some (D.lst true ks) else none) = some d := hf
        split at hf
        · rename_i n
          cases hf
          obtain ⟨p, kvs, e, hp, hks, hl⟩ := Rp.dicL eF g
          subst e
          exact go (call_listD hc) ⟨p, kvs, rfl, Rd.of hp, res.list n (keys_of hks)⟩
        · cases hf
      | dtp o ks vs =>
        have hf : (if noOwns ks = true then some (D.lst true ks) else none) = some d := hf
        split at hf
        · rename_i n
          cases hf
          obtain ⟨p, ep, xs, us, e, hp, hks, hvl, hkl, hl⟩ := Rp.dtpL eF g
          subst e
          exact go (cr_listTab hc) ⟨p, ep, ks, xs, rfl, hp, hks, res.list n hkl⟩
        · cases hf
      | _ => cases hf
    | tuple1 =>
      have hf : dTuple a = some d := hf
      cases a with
      | lst o ds =>
        have hf : (if noOwns ds = true then some (D.tup ds) else none) = some d := hf
        split at hf
        · rename_i n
          cases hf
          obtain ⟨p, vs, e, ht, hl⟩ := Rp.lstL eF g
          subst e
          exact go call_tuple_of ⟨p, vs, rfl, Or.inl ⟨ht, res.tup n hl⟩⟩
        · cases hf
      | tup ds =>
        have hf : (if noOwns ds = true then some (D.tup ds) else none) = some d := hf
        split at hf
        · rename_i n
          cases hf
          have g0 := Rp.free _ _ _ (show noOwn (.tup ds) = true from n) g
          obtain ⟨p, vs, e, ht, hl⟩ := g
          subst e
          exact go call_tuple_of ⟨p, vs, rfl, Or.inr ⟨ht, res.flat g0⟩⟩
        · cases hf
      | _ => cases hf
    | sum1 =>
      cases a with
      | lst o ds =>
        obtain ⟨ns, hn, e⟩ := Option.bind_eq_some_iff.mp (show (allInts ds).bind _ = some d from hf)
        cases e
        obtain ⟨p, vs, e, ht, hl⟩ := Rp.lstL eF g
        subst e
        rw [ints_of hn hl] at ht
        exact go (cr_sum hc) ⟨p, ns, rfl, ht, res.flat rfl⟩
      | _ => cases hf
    | all1 =>
      cases a with
      | lst o ds =>
        obtain ⟨ns, hn, e⟩ := Option.map_eq_some_iff.mp (show (allBls ds).map _ = some d from hf)
        subst e
        obtain ⟨p, vs, e, ht, hl⟩ := Rp.lstL eF g
        subst e
        rw [bls_of hn hl] at ht
        exact go (cr_all hc) ⟨p, ns, rfl, ht, res.flat rfl⟩
      | _ => cases hf
    | any1 =>
      cases a with
      | lst o ds =>
        obtain ⟨ns, hn, e⟩ := Option.map_eq_some_iff.mp (show (allBls ds).map _ = some d from hf)
        subst e
        obtain ⟨p, vs, e, ht, hl⟩ := Rp.lstL eF g
        subst e
        rw [bls_of hn hl] at ht
        exact go (cr_any hc) ⟨p, ns, rfl, ht, res.flat rfl⟩
      | _ => cases hf
    | max1 =>
      cases a with
      | lst o ds =>
        obtain ⟨ns, hn, e⟩ := Option.bind_eq_some_iff.mp (show (allInts ds).bind _ = some d from hf)
        obtain ⟨m, hm, e⟩ := Option.map_eq_some_iff.mp e
        subst e
        obtain ⟨p, vs, e, ht, hl⟩ := Rp.lstL eF g
        subst e
        rw [ints_of hn hl] at ht
        have ok := imax_ok hm
        refine go (cr_max hc) ⟨p, ns, rfl, ht, List.length_pos_of_mem ok.1, fun k hk hy => ?_⟩
        have e : k = m := Int.le_antisymm (ok.2 k hk) (hy m ok.1)
        rw [e]
        exact res.flat rfl
      | _ => cases hf
    | min1 =>
      cases a with
      | lst o ds =>
        obtain ⟨ns, hn, e⟩ := Option.bind_eq_some_iff.mp (show (allInts ds).bind _ = some d from hf)
        obtain ⟨m, hm, e⟩ := Option.map_eq_some_iff.mp e
        subst e
        obtain ⟨p, vs, e, ht, hl⟩ := Rp.lstL eF g
        subst e
        rw [ints_of hn hl] at ht
        have ok := imin_ok hm
        refine go (cr_min hc) ⟨p, ns, rfl, ht, List.length_pos_of_mem ok.1, fun k hk hy => ?_⟩
        have e : k = m := Int.le_antisymm (hy m ok.1) (ok.2 k hk)
        rw [e]
        exact res.flat rfl
      | _ => cases hf
    | sorted1 =>
      have hf : dSorted a = some d := hf
      have key : ∀ {ks : List D}, dSrt ks = some d → srtOk ks = true ∧ d = .lst true (ks.mergeSort dle) := fun {ks} h => by
        unfold dSrt at h
        split at h
        · rename_i c
          cases h
          exact ⟨c, rfl⟩
        · cases h
      cases a with
      | lst o ds =>
        obtain ⟨hk, rfl⟩ := key hf
        obtain ⟨p, vs, e, ht, hl⟩ := Rp.lstL eF g
        subst e
        exact go (cr_sortL hu) ⟨F, p, vs, ds, S, eF, rfl, ht, hl, hk, res⟩
      | dic o ks vs =>
        obtain ⟨hk, rfl⟩ := key hf
        obtain ⟨p, kvs, e, hp, hks, hl⟩ := Rp.dicL eF g
        subst e
        exact go (cr_sortDic hc hu) ⟨F, p, kvs, ks, eF, rfl, Rd.of hp, keys_of hks, hk, res⟩
      | dtp o ks vs =>
        obtain ⟨hk, rfl⟩ := key hf
        obtain ⟨p, ep, xs, us, e, hp, hks, hvl, hkl, hl⟩ := Rp.dtpL eF g
        subst e
        exact go (cr_sortTab hc hu) ⟨F, p, ep, ks, xs, eF, rfl, hp, hks, hkl, hk, res⟩
      | _ => cases hf
    | dict1 =>
      have hf : dDict1 a = some d := hf
      cases a with
      | lst o ds =>
        obtain ⟨ps, hp, e⟩ := Option.bind_eq_some_iff.mp (show (pairsD ds).bind _ = some d from hf)
        split at e
        · rename_i hz
          cases e
          rw [Bool.and_eq_true] at hz
          obtain ⟨p, vs, e, ht, hl⟩ := Rp.lstL eF g
          subst e
          exact go (cr_dict1 hc hu) ⟨F, p, vs, ds, ps, S, eF, rfl, ht, hl, hz.1, hp, hz.2, res⟩
        · cases e
      | _ => cases hf
    | bool1 =>
      cases a with
      | int i =>
        cases hf
        cases g
        refine go call_bool1 (Or.inl ⟨i, rfl, ?_⟩)
        have e : (i != 0) = decide (i ≠ 0) := by
          by_cases z : i = 0
          · subst z; rfl
          · rw [decide_eq_true z]
            exact bne_iff_ne.mpr z
        rw [e]
        exact res.flat rfl
      | bl k =>
        cases hf
        cases g
        exact go call_bool1 (Or.inr ⟨k, rfl, res.flat rfl⟩)
      | _ => cases hf
    | str1 =>
      cases a with
      | int i =>
        have hf : (if i.natAbs.log2 < 1920 then some (D.str (digits i)) else none) = some d := hf
        split at hf
        · rename_i hz
          cases hf
          cases g
          have q := res.flat (v := .str (toString i)) (by
            show V.str _ = V.str (tx (digits i))
            unfold digits
            rw [str_tx])
          exact go call_str_int ⟨i, rfl, hz, q⟩
        · cases hf
      | _ => cases hf
    | repr1 =>
      have hf : dRepr a = some d := hf
      unfold dRepr at hf
      split at hf
      · rename_i hz
        cases hf
        simp only [Bool.and_eq_true, decide_eq_true_eq] at hz
        obtain ⟨⟨⟨h1, h2⟩, h3⟩, h4⟩ := hz
        have q := res.flat (v := .str (toP a).shown) (by
          show V.str _ = V.str (tx _)
          rw [str_tx])
        exact go (call_reprD hu hg) ⟨x, toP a, rfl, Rp.dp eF _ _ _ h1 g, h2, isP_noDict a h1, h3, h4, q⟩
      · cases hf
    | max2 => cases hf
    | min2 => cases hf
    | isInt => cases hb
    | isBool => cases hb
    | isStr => cases hb
    | isTup => cases hb
    | isLst => cases hb
    | isX => cases hf
  | [a, c], hv, hf =>
    obtain ⟨x, w, S, rfl, g, e⟩ := hv
    obtain ⟨y, w', S', rfl, g', e⟩ := e
    have e : w' = [] := e
    subst e
    cases b with
    | max2 =>
      obtain ⟨i, j, rfl, rfl, hg⟩ := int2_inv hf
      cases hg
      cases g
      cases g'
      exact go (call_max2 hc) ⟨i, j, rfl, res.flat rfl⟩
    | min2 =>
      obtain ⟨i, j, rfl, rfl, hg⟩ := int2_inv hf
      cases hg
      cases g
      cases g'
      exact go (call_min2 hc) ⟨i, j, rfl, res.flat rfl⟩
    | isInt => cases hb
    | isBool => cases hb
    | isStr => cases hb
    | isTup => cases hb
    | isLst => cases hb
    | isX =>
      have q := hf
      exact go call_isX ⟨_, [a, c], d, eF, ⟨x, _, S, rfl, g, y, _, S', rfl, g', rfl⟩, hf, res⟩
    | _ => cases hf
  | _ :: _ :: _ :: _, _, hf => cases hf
end
end AW

/-! AWOps5: methods by values. -/
namespace AW
open PySem L2 PyProof.Rows

def idM : MF → String
  | .append => "list.append" | .pop0 => "list.pop" | .pop1 => "list.pop" | .get1 => "dict.get" | .get2 => "dict.get" | .index1 => "list.index" | .count1 => "list.count" | .join1 => "str.join" | .clear0 => "list.clear" | .extend1 => "list.extend"
def tyM : MF → String
  | .append => "list" | .pop0 => "list" | .pop1 => "list" | .get1 => "dict" | .get2 => "dict" | .index1 => "list" | .count1 => "list" | .join1 => "str" | .clear0 => "list" | .extend1 => "list"
theorem slot_M (m : MF) : Slot (tyM m) (nmM m) (idM m) := by
  cases m
  · exact PySem.F.slot_list_append
  · exact PySem.F.slot_list_pop
  · exact PySem.F.slot_list_pop
  · exact PySem.F.slot_dict_get
  · exact PySem.F.slot_dict_get
  · exact PySem.F.slot_list_index
  · exact PySem.F.slot_list_count
  · exact PySem.F.slot_str_join
  · exact PySem.F.slot_list_clear
  · exact PySem.F.slot_list_extend
theorem type_M (m : MF) : typeOf (.builtin (idM m)) = pure (.type "method_descriptor") := by
  cases m
  · exact PySem.F.type_list_append
  · exact PySem.F.type_list_pop
  · exact PySem.F.type_list_pop
  · exact PySem.F.type_dict_get
  · exact PySem.F.type_dict_get
  · exact PySem.F.type_list_index
  · exact PySem.F.type_list_count
  · exact PySem.F.type_str_join
  · exact PySem.F.type_list_clear
  · exact PySem.F.type_list_extend
theorem plain_M (m : MF) : PlainAttrs (tyM m) := by
  cases m
  · exact PySem.F.plainAttrs_list
  · exact PySem.F.plainAttrs_list
  · exact PySem.F.plainAttrs_list
  · exact PySem.F.plainAttrs_dict
  · exact PySem.F.plainAttrs_dict
  · exact PySem.F.plainAttrs_list
  · exact PySem.F.plainAttrs_list
  · exact PySem.F.plainAttrs_str
  · exact PySem.F.plainAttrs_list
  · exact PySem.F.plainAttrs_list
section
variable {X : Cx} {F H : Hp} {d : D} {v : V} {Qk : VK} {K : PySem.W.Frag}
def FrL (K : PySem.W.Frag) (F H : Hp) : List D → List V → Prop
  | [], vs => vs = []
  | d :: ds, vs => ∃ v r, vs = v :: r ∧ Rp K F H d v No ∧ FrL K F H ds r
/-- what a method leaves: its answer, its object changed -/
def MRes (K : PySem.W.Frag) (F H : Hp) (S : AS) (x : V) (d o : D) (Qk : VK) : Prop := ∀ v H' T S', (∀ a u, ¬ S a → H a = some u → H' a = some u) → (∀ a, S a → H' a ≠ none) → Tu H H' → Ex F H' → Sub T S → Sub S' S → Dj T S' → Rp K F H' d v T → Rp K F H' o x S' → Qk v H'
def rMet (K : PySem.W.Frag) (m : MF) : V → List V → Hp → VK → Prop := fun x xs H Qk => ∃ F o ds d o' S, Ex F H ∧ (∀ a, S a → F a = none ∧ H a ≠ none) ∧ Rp K F H o x S ∧ FrL K F H ds xs ∧ dMet m o ds = some (d, o') ∧ MRes K F H S x d o' Qk
theorem MRes.same {S : AS} {x : V} {o : D} (res : MRes K F H S x d o Qk) (eF : Ex F H) (al : ∀ a, S a → F a = none ∧ H a ≠ none) (hd : Rp K F H d v No) (ho : Rp K F H o x S) : Qk v H :=
  res v H No S (fun _ _ _ q => q) (fun a h => (al a h).2) (Tu.refl H) eF (fun _ q => q.elim) (fun _ q => q) (fun _ q _ => q) hd ho
/-- an owned list written anew: xs' for ds', d taken out or given back -/
theorem MRes.list {S T S' : AS} {p : Addr} {vs vs' : List V} {ds' : List D} (res : MRes K F H S (.ref p) d (.lst true ds') Qk) (eF : Ex F H) (al : ∀ a, S a → F a = none ∧ H a ≠ none) (hp : S p) (hH : H p = some (.lst vs))
    (hT : Sub T S) (hS : Sub S' S) (dj : Dj T S') (nT : ¬ T p) (nS : ¬ S' p) (hd : Rp K F H d v T) (hl : RpL K F H ds' vs' S') : Qk v (upd H p (.lst vs')) := by
  have kp : ∀ a u, a ≠ p → H a = some u → upd H p (.lst vs') a = some u := fun a u h e => by rw [upd_ne h]; exact e
  have tu : Tu H (upd H p (.lst vs')) := Tu.upd hH (fun _ q => by cases q) (fun _ _ q => by cases q)
  refine res v _ T (fun a => a = p ∨ S' a) (fun a u h e => kp a u (fun q => h (by rw [q]; exact hp)) e) (fun a h => ?_) tu (fun a u e => ?_) hT (fun a q => q.elim (fun q => by rw [q]; exact hp) (hS a)) ?_ ?_ ?_
  · by_cases q : a = p
    · rw [q, upd_same]
      intro z
      cases z
    · rw [upd_ne q]
      exact (al a h).2
  · refine kp a u (fun q => ?_) (eF a u e)
    rw [q, (al p hp).1] at e
    cases e
  · rintro a q (q2 | q2)
    · exact nT (by rw [← q2]; exact q)
    · exact dj a q q2
  · exact Rp.mono (Ex.refl F) tu _ _ _ _ (fun _ q => q) (fun a u q e => kp a u (fun z => nT (by rw [← z]; exact q)) e) hd
  · refine ⟨p, vs', rfl, ?_, ?_⟩
    · rw [if_pos rfl]
      exact ⟨Or.inl rfl, upd_same⟩
    · exact RpL.mono (Ex.refl F) tu _ _ _ _ (fun a q => ⟨Or.inr q, fun _ z => nS (by rw [← z]; exact q)⟩) (fun a u q e => kp a u (fun z => nS (by rw [← z]; exact q)) e) hl
theorem dropLast_eq {α : Type} (xs : List α) (h : xs ≠ []) : xs.dropLast = xs.eraseIdx (xs.length - 1) := by
  rw [List.dropLast_eq_take, List.eraseIdx_eq_take_drop_succ]
  have : xs.length - 1 + 1 = xs.length := by
    have := List.length_pos_iff.mpr h
    omega
  rw [this, List.drop_length, List.append_nil]
theorem strs_of : ∀ {ds : List D} {ss : List (List Nat)} {vs : List V} {S : AS}, allStrs ds = some ss → RpL K F H ds vs S → vs = (ss.map tx).map V.str
  | [], ss, vs, S, h, r => by
    cases h
    exact r
  | d :: ds, ss, vs, S, h, r => by
    cases d with
    | str cs =>
      obtain ⟨t, ht, e⟩ := Option.map_eq_some_iff.mp (show (allStrs ds).map (cs :: ·) = some ss from h)
      subst e
      obtain ⟨v, w, S1, S2, e, s1, s2, dj, r1, r2⟩ := r
      subst e
      have r1 : v = .str (tx cs) := r1
      rw [r1, strs_of ht r2]
      rfl
    | _ => cases h
theorem join_tx (cs : List Nat) : ∀ ss : List (List Nat), Txt.join (tx cs) (ss.map tx) = tx (joinN cs ss) := fun ss => by
  have e := TL.tl_join (tx cs) (ss.map tx)
  have e2 : ∀ ss : List (List Nat), TL.joinL (TL.tl (tx cs)) ((ss.map tx).map TL.tl) = joinN cs ss := fun ss => by
    have t0 : ∀ x : List Nat, TL.tl (tx x) = x := fun x => by
      show (tx x).cps.toList = x
      simp
    induction ss with
    | nil => rfl
    | cons p r ih =>
      cases r with
      | nil => exact t0 p
      | cons q r =>
        show TL.tl (tx p) ++ (TL.tl (tx cs) ++ TL.joinL (TL.tl (tx cs)) (((q :: r).map tx).map TL.tl)) = p ++ (cs ++ joinN cs (q :: r))
        rw [ih, t0, t0]
  have e3 : (Str.join (tx cs) (ss.map tx)).cps.toList = joinN cs ss := by rw [← e2 ss]; exact e
  have e4 := str_tx (Str.join (tx cs) (ss.map tx))
  rw [e3] at e4
  rw [TL.join_eq]
  exact e4.symm
theorem idxI_ok : ∀ {ns : List Int} {k : Int} {j : Nat}, idxI k ns = some j → ns[j]? = some k ∧ ∀ (m : Nat) (z : Int), m < j → ns[m]? = some z → z ≠ k
  | [], _, _, h => by cases h
  | a :: r, k, j, h => by
    unfold idxI at h
    split at h
    · rename_i e
      cases h
      exact ⟨by rw [e]; rfl, fun m z hm => absurd hm (Nat.not_lt_zero _)⟩
    · rename_i e
      obtain ⟨i, hi, rfl⟩ := Option.map_eq_some_iff.mp h
      obtain ⟨h1, h2⟩ := idxI_ok hi
      refine ⟨by simpa using h1, fun m z hm hz => ?_⟩
      cases m with
      | zero =>
        cases hz
        exact e
      | succ m => exact h2 m z (by omega) (by simpa using hz)
theorem op_met (hu : X.A.units + 10 < cLine) (m : MF) : MtR X (idM m) (rMet X.K m) := by
  intro pins s σ H x xs v us Q I rx rs h
  obtain ⟨F, o, ds, d, o', S, eF, al, ho, hv, hf, res⟩ := h
  have go : ∀ {q : V → List V → Hp → VK → Prop}, MtR X (idM m) q → q x xs H Q → wpAny (model X.prog X.w) X.A (call (.builtin (idM m)) (v :: us)) (EP X pins σ Q) X.xe s := fun hr q => hr pins s σ H x xs v us Q I rx rs q
  unfold dMet at hf
  split at hf
  · -- append
    rename_i c
    split at hf
    · rename_i ys
      split at hf
      · rename_i hz
        cases hf
        obtain ⟨w, r, rfl, g, e⟩ := hv
        have e : r = [] := e
        subst e
        obtain ⟨p, vs, e, ht, hl⟩ := ho
        subst e
        rw [if_pos rfl] at ht
        refine go mt_append ⟨p, vs, w, rfl, rfl, ht.2, ?_, ?_⟩
        · rw [← hl.len]
          exact hz
        · refine res.list (T := No) (S' := fun a => S a ∧ (true = true → a ≠ p)) eF al ht.1 ht.2 (fun _ q => q.elim) (fun a q => q.1) (fun _ q _ => q) (fun q => q) (fun q => q.2 rfl rfl) rfl ?_
          exact RpL.append hl (show RpL X.K F H [c] [w] No from ⟨w, [], No, No, rfl, fun _ q => q, fun _ q => q, fun _ q _ => q, g, rfl⟩) (fun _ _ q => q) (fun _ q => q) (fun _ q => q.elim)
      · cases hf
    · cases hf
  · -- pop()
    split at hf
    · rename_i ys
      obtain ⟨c, hc, e⟩ := Option.map_eq_some_iff.mp hf
      cases e
      have hv : xs = [] := hv
      subst hv
      obtain ⟨p, vs, e, ht, hl⟩ := ho
      subst e
      rw [if_pos rfl] at ht
      have ne : ys ≠ [] := fun z => by rw [z] at hc; cases hc
      obtain ⟨w, T, S2, g1, g2, g3, g4, g5, g6⟩ := hl.erase hc
      rw [hl.len] at g1 g6
      have ne2 : vs ≠ [] := fun z => ne (List.length_eq_zero_iff.mp (by rw [hl.len, z]; rfl))
      rw [← dropLast_eq vs ne2] at g6
      rw [← hl.len, ← dropLast_eq ys ne] at g6
      refine go mt_pop ⟨p, vs, w, rfl, rfl, ht.2, g1, ?_⟩
      exact res.list eF al ht.1 ht.2 (fun a q => (g2 a q).1) (fun a q => (g3 a q).1) g4 (fun q => (g2 p q).2 rfl rfl) (fun q => (g3 p q).2 rfl rfl) g5 g6
    · cases hf
  · -- pop(i)
    rename_i i
    split at hf
    · rename_i ys
      split at hf
      · rename_i hz
        obtain ⟨k, hk, e⟩ := Option.bind_eq_some_iff.mp hf
        obtain ⟨c, hc, e⟩ := Option.map_eq_some_iff.mp e
        cases e
        obtain ⟨w, r, rfl, g, e⟩ := hv
        have e : r = [] := e
        subst e
        have g : w = .int i := g
        subst g
        obtain ⟨p, vs, e, ht, hl⟩ := ho
        subst e
        rw [if_pos rfl] at ht
        obtain ⟨w, T, S2, g1, g2, g3, g4, g5, g6⟩ := hl.erase hc
        refine go mt_popAt ⟨p, vs, i, k, w, rfl, rfl, ht.2, hz.1, hz.2, ?_, g1, ?_⟩
        · rw [← hl.len]
          exact hk
        · exact res.list eF al ht.1 ht.2 (fun a q => (g2 a q).1) (fun a q => (g3 a q).1) g4 (fun q => (g2 p q).2 rfl rfl) (fun q => (g3 p q).2 rfl rfl) g5 g6
      · cases hf
    · cases hf
  · -- clear()
    split at hf
    · rename_i ys
      cases hf
      have hv : xs = [] := hv
      subst hv
      obtain ⟨p, vs, e, ht, hl⟩ := ho
      subst e
      rw [if_pos rfl] at ht
      refine go mt_clear ⟨p, vs, rfl, rfl, ht.2, ?_⟩
      exact res.list (T := No) (S' := No) eF al ht.1 ht.2 (fun _ q => q.elim) (fun _ q => q.elim) (fun _ q _ => q) (fun q => q) (fun q => q) rfl rfl
    · cases hf
  · -- extend
    rename_i c
    split at hf
    · rename_i ys
      split at hf
      · rename_i o2 zs
        split at hf
        · rename_i hz
          cases hf
          rw [Bool.and_eq_true] at hz
          obtain ⟨w, r, rfl, g, e⟩ := hv
          have e : r = [] := e
          subst e
          obtain ⟨p, vs, e, ht, hl⟩ := ho
          subst e
          rw [if_pos rfl] at ht
          obtain ⟨p2, vs2, e, ht2, hl2⟩ := Rp.lstL eF g
          subst e
          refine go mt_extL ⟨p, p2, vs, vs2, rfl, rfl, ht.2, ht2, ?_, ?_⟩
          · rw [← hl.len, ← hl2.len]
            exact of_decide_eq_true hz.2
          · refine res.list (T := No) (S' := fun a => S a ∧ (true = true → a ≠ p)) eF al ht.1 ht.2 (fun _ q => q.elim) (fun a q => q.1) (fun _ q _ => q) (fun q => q) (fun q => q.2 rfl rfl) rfl ?_
            exact RpL.append hl (RpL.free _ _ _ hz.1 hl2) (fun _ _ q => q) (fun _ q => q) (fun _ q => q.elim)
        · cases hf
      · cases hf
    · cases hf
  · -- join
    rename_i c
    split at hf
    · rename_i cs
      split at hf
      · rename_i o2 zs
        obtain ⟨ss, hss, hf⟩ := Option.bind_eq_some_iff.mp hf
        split at hf
        · rename_i hz
          cases hf
          obtain ⟨w, r, rfl, g, e⟩ := hv
          have e : r = [] := e
          subst e
          cases ho
          obtain ⟨p2, vs2, e, ht2, hl2⟩ := Rp.lstL eF g
          subst e
          rw [strs_of hss hl2] at ht2
          refine go mt_join ⟨tx cs, p2, ss.map tx, rfl, rfl, Or.inl ht2, ?_, ?_⟩
          · rw [List.map_map, List.length_map]
            have e1 : (ss.map ((fun z : Str => z.length) ∘ tx)) = ss.map (·.length) := List.map_congr_left fun z _ => tx_len z
            have e2 : (tx cs).length = cs.length := tx_len cs
            rw [e2]
            show ((ss.map ((fun z : Str => z.length) ∘ tx))).sum + _ ≤ _
            rw [e1]
            exact hz
          · rw [join_tx]
            exact res.same eF al rfl rfl
        · cases hf
      · cases hf
    · cases hf
  · -- index
    rename_i k
    split at hf
    · rename_i b ys
      obtain ⟨ns, hn, hf⟩ := Option.bind_eq_some_iff.mp hf
      obtain ⟨j, hj, e⟩ := Option.map_eq_some_iff.mp hf
      cases e
      obtain ⟨w, r, rfl, g, e⟩ := hv
      have e : r = [] := e
      subst e
      have g : w = .int k := g
      subst g
      have ho0 := ho
      obtain ⟨p, vs, e, ht, hl⟩ := Rp.lstL eF ho
      subst e
      have ev := ints_of hn hl
      subst ev
      obtain ⟨h1, h2⟩ := idxI_ok hj
      refine go mt_index ⟨p, ns.map V.int, .int k, j, .int k, rfl, rfl, ht, rfl, ?_, ?_, ?_, fun m z hm hz => ?_, res.same eF al rfl ho0⟩
      · rw [List.all_map]
        exact List.all_eq_true.mpr fun _ _ => rfl
      · rw [List.getElem?_map, h1]
        rfl
      · show (k == k) = true
        simp
      · rw [List.getElem?_map] at hz
        obtain ⟨i, hi, e⟩ := Option.map_eq_some_iff.mp hz
        subst e
        show (i == k) = false
        simpa using h2 m i hm hi
    · cases hf
  · -- count
    rename_i k
    split at hf
    · rename_i b ys
      obtain ⟨ns, hn, e⟩ := Option.map_eq_some_iff.mp hf
      cases e
      obtain ⟨w, r, rfl, g, e⟩ := hv
      have e : r = [] := e
      subst e
      have g : w = .int k := g
      subst g
      have ho0 := ho
      obtain ⟨p, vs, e, ht, hl⟩ := Rp.lstL eF ho
      subst e
      have ev := ints_of hn hl
      subst ev
      exact go mt_lcount ⟨p, ns, k, rfl, rfl, ht, res.same eF al rfl ho0⟩
    · cases hf
  · -- get(k)
    rename_i k
    split at hf
    · rename_i b ks vs
      split at hf
      · rename_i hz
        obtain ⟨w, r, rfl, g, e⟩ := hv
        have e : r = [] := e
        subst e
        obtain ⟨p, ep, ts, us', e, hp, hks, hvl, hkl, hl⟩ := Rp.dtpL eF ho
        subst e
        obtain rfl : v = Value.ref p := rx
        obtain ⟨u, rfl, ru⟩ := vals1 rs
        obtain ⟨kk, c, hk, _, eu, his⟩ := tk_is I hz g ru
        subst eu
        have val := tGet_val hk hks.ns hvl hl
        refine get_keyed (knd := nestedKind X.prog X.w) (show X.A.units + 1 + 8 < cLine by omega) his hks.sm ⟨_, tab_rd I hp hks hkl, rfl⟩ ?_
        rw [valueAt_pairsH]
        split at hf
        · rename_i e
          cases hf
          rw [val.1 e]
          exact ⟨.non, H, I.tok _, rfl, res.same eF al rfl ho⟩
        · rename_i c e
          obtain ⟨c', e2, e3⟩ := Option.map_eq_some_iff.mp hf
          cases e3
          obtain ⟨rfl, n⟩ := own1_inv e2
          obtain ⟨b', w', z, T, q1, q2, q3, q4⟩ := val.2 _ e
          rw [q1]
          exact ⟨w', H, I.tok _, q2, res.same eF al (Rp.free _ _ _ n q4) ho⟩
      · cases hf
    · rename_i b ks vs
      split at hf
      · rename_i hz
        obtain ⟨κ, hk⟩ := Option.isSome_iff_exists.mp hz
        obtain ⟨w, r, rfl, g, e⟩ := hv
        have e : r = [] := e
        subst e
        obtain ⟨p, kvs, e, hp, hks, hl⟩ := Rp.dicL eF ho
        subst e
        have ex := keyOf_kV hk g
        subst ex
        obtain rfl : v = Value.ref p := rx
        obtain ⟨u, rfl, ru⟩ := vals1 rs
        have val := dGet_val hk hks hl
        have q : Q ((valV kvs κ).getD .non) H := by
          split at hf
          · rename_i e
            cases hf
            rw [val.1 e]
            exact res.same eF al rfl ho
          · rename_i c e
            obtain ⟨c', e2, e3⟩ := Option.map_eq_some_iff.mp hf
            cases e3
            obtain ⟨rfl, n⟩ := own1_inv e2
            obtain ⟨w, T, q1, q2, q3⟩ := val.2 _ e
            rw [q1]
            exact res.same eF al (Rp.free _ _ _ n q3) ho
        exact d_get1 (by omega) I (DGet.k hp) ru fun w' s' I' rw' => ⟨_, H, I', rw', q⟩
      · cases hf
    · cases hf
  · -- get(k, x)
    rename_i k y
    split at hf
    · rename_i b ks vs
      split at hf
      · rename_i hz
        obtain ⟨w, r, rfl, g, e⟩ := hv
        obtain ⟨w2, r2, rfl, g2, e⟩ := e
        have e : r2 = [] := e
        subst e
        obtain ⟨p, ep, ts, us', e, hp, hks, hvl, hkl, hl⟩ := Rp.dtpL eF ho
        subst e
        obtain rfl : v = Value.ref p := rx
        obtain ⟨u, u2, rfl, ru, ru2⟩ := vals2 rs
        obtain ⟨kk, c, hk, _, eu, his⟩ := tk_is I hz g ru
        subst eu
        have val := tGet_val hk hks.ns hvl hl
        refine getOr_keyed (knd := nestedKind X.prog X.w) (show X.A.units + 1 + 8 < cLine by omega) his hks.sm ⟨_, tab_rd I hp hks hkl, rfl⟩ ?_
        rw [valueAt_pairsH]
        split at hf
        · rename_i e
          cases hf
          rw [val.1 e]
          exact ⟨w2, H, I.tok _, ru2, res.same eF al g2 ho⟩
        · rename_i c e
          obtain ⟨c', e2, e3⟩ := Option.map_eq_some_iff.mp hf
          cases e3
          obtain ⟨rfl, n⟩ := own1_inv e2
          obtain ⟨b', w', z, T, q1, q2, q3, q4⟩ := val.2 _ e
          rw [q1]
          exact ⟨w', H, I.tok _, q2, res.same eF al (Rp.free _ _ _ n q4) ho⟩
      · cases hf
    · rename_i b ks vs
      split at hf
      · rename_i hz
        obtain ⟨κ, hk⟩ := Option.isSome_iff_exists.mp hz
        obtain ⟨w, r, rfl, g, e⟩ := hv
        obtain ⟨w2, r2, rfl, g2, e⟩ := e
        have e : r2 = [] := e
        subst e
        obtain ⟨p, kvs, e, hp, hks, hl⟩ := Rp.dicL eF ho
        subst e
        have ex := keyOf_kV hk g
        subst ex
        obtain rfl : v = Value.ref p := rx
        obtain ⟨u, u2, rfl, ru, ru2⟩ := vals2 rs
        have val := dGet_val hk hks hl
        have q : Q ((valV kvs κ).getD w2) H := by
          split at hf
          · rename_i e
            cases hf
            rw [val.1 e]
            exact res.same eF al g2 ho
          · rename_i c e
            obtain ⟨c', e2, e3⟩ := Option.map_eq_some_iff.mp hf
            cases e3
            obtain ⟨rfl, n⟩ := own1_inv e2
            obtain ⟨w, T, q1, q2, q3⟩ := val.2 _ e
            rw [q1]
            exact res.same eF al (Rp.free _ _ _ n q3) ho
        exact d_get2 (by omega) I (DGet.k hp) ru ru2 fun w' s' I' rw' => ⟨_, H, I', rw', q⟩
      · cases hf
    · cases hf
  · cases hf
/-- of a built-in type, by its object -/
def tyA (K : PySem.W.Frag) (T : String) (x : V) (H : Hp) : Prop := tyV K T x H ∨ (T = "dict" ∧ ∃ p ep xs, x = .ref p ∧ H p = some (tab p ep xs))
theorem tyA_is {pins : List (Addr × Obj)} {σ : L2.St} {H : Hp} {s : Shared} {T : String} {x : V} {v : Value} (I : Inv X pins σ H s) (r : RelV x v) (ty : tyA X.K T x H) : s.TypeIs v T ∧ ∀ a, v = .ref a → ∃ ob, s.heap.get? a = some ob ∧ ob.dict = none := by
  rcases ty with ty | ⟨rfl, p, ep, xs, rfl, hp⟩
  · exact tyV_is I r ty
  · obtain rfl : v = Value.ref p := r
    obtain ⟨⟨o, es, h1, h2, h3, h4⟩, _, _⟩ := (show ObjOk X.prog X.w H s.heap p (tab p ep xs) from I.hok p _ hp)
    exact ⟨⟨o, h1, h2.1⟩, fun a e => by cases e; exact ⟨o, h1, h2.2.1⟩⟩
theorem kd_ty {m : MF} {o : D} {x : V} {S : AS} {K : PySem.W.Frag} (eF : Ex F H) (h : kd2 o = some (kdM m)) (r : Rp K F H o x S) : tyA K (tyM m) x H := by
  cases o with
  | lst b ds =>
    obtain ⟨p, vs, e, ht, hl⟩ := Rp.lstL eF r
    subst e
    cases m <;> first | exact Or.inl (Or.inl ⟨rfl, vs, ht⟩) | (cases h; done)
  | dic b ks vs =>
    obtain ⟨p, kvs, e, hp, hks, hl⟩ := Rp.dicL eF r
    subst e
    cases m <;> first | exact Or.inl (Or.inr (Or.inr (Or.inl ⟨rfl, Or.inl ⟨kvs, hp⟩⟩))) | (cases h; done)
  | str cs =>
    cases r
    cases m <;> first | exact Or.inl rfl | (cases h; done)
  | non => cases m <;> cases h
  | bl _ => cases m <;> cases h
  | int _ => cases m <;> cases h
  | tup _ => cases m <;> cases h
  | dtp b ks vs =>
    obtain ⟨p, ep, xs, us, e, hp, hks, hvl, hkl, hl⟩ := Rp.dtpL eF r
    subst e
    cases m <;> first | exact Or.inr ⟨rfl, p, ep, xs, rfl, hp⟩ | (cases h; done)
  | ins _ _ => cases h
  | fn _ => cases h
end
end AW

/-! AWCall: defs that are called where no repr is under way (guards), their promises by data. -/
namespace AW
open PySem L2 PyProof.Rows

/-- a def's promise, called where nothing is being shown -/
structure FnG (P : Program) (w : World) (K : PySem.W.Frag) (mg : Str → Option Value) (base : Heap) (CX : CXT) (k : Nat) (f : Addr) (fd : FuncData) (ps : List Str) (sp : Sp) : Prop where
  len : ∀ vs H Qk E, sp vs H Qk E → vs.length = ps.length
  run : ∀ (A : Around) (outer : List PySem.Env) (s : Shared) (H : Hp) (args : Args) (us : List Value) (vs : List V) (Qk : VK) (E : XK), Room k A → A.guards = some [] → Env0 P w K mg base A outer s H → BindsTo s fd args (ps.zip us) → Vals vs us →
    sp vs H Qk E → codeAny (model P w) A (.call (.ref f) args) (CR CX outer P w H s Qk E) s
theorem FnG.mono {P : Program} {w : World} {K : PySem.W.Frag} {mg : Str → Option Value} {base : Heap} {CX : CXT} {j k : Nat} {f : Addr} {fd : FuncData} {ps : List Str} {sp : Sp} (F : FnG P w K mg base CX j f fd ps sp) (h : j ≤ k) : FnG P w K mg base CX k f fd ps sp :=
  ⟨F.len, fun A outer s H args us vs Qk E hr => F.run A outer s H args us vs Qk E (hr.mono h)⟩
theorem FnG.of {P : Program} {w : World} {K : PySem.W.Frag} {mg : Str → Option Value} {base : Heap} {CX : CXT} {k : Nat} {f : Addr} {fd : FuncData} {ps : List Str} {sp : Sp} (F : FnOk P w K mg base CX k f fd ps sp) : FnG P w K mg base CX k f fd ps sp :=
  ⟨F.len, fun A outer s H args us vs Qk E hr _ => F.run A outer s H args us vs Qk E hr⟩
/-- data handed in, data handed back: the promise of a def that does f -/
def spF (K : PySem.W.Frag) (ca : Nat → Addr) (f : List D → R D) : Sp := fun vs H Qk E => ∃ F ds S, Rel K F H (ds.map some) (vs.map some) S ∧
  match f ds with
  | .ok d outs => ∀ F' H' S' T v, Rel K F' H' outs (vs.map some) S' → Tmp K F' H' S' d v T → Stp F H S F' H' (Un2 S' T) → Qk v H'
  | .exc c outs => KN K c → c < 8 → ∀ F' H' S', Rel K F' H' outs (vs.map some) S' → Stp F H S F' H' S' → E (.ref (ca c)) none H'
  | .no => False
/-- the errors that are wished for -/
def eW (K : PySem.W.Frag) (ca : Nat → Addr) (Wx : Nat → Hp → Prop) : XK := fun cls d H => ∃ c, cls = .ref (ca c) ∧ d = none ∧ KN K c ∧ c < 8 ∧ Wx c H
section
variable {X : Cx} {CX : CXT} {k : Nat} {f : Addr} {fd : FuncData} {ps : List Str} {sp : Sp} {E : L2.St → XK} {x : Str} {p pos : Pos} {es : List Expr} {t : TA}
theorem goG {pins : List (Addr × Obj)} {σ : L2.St} {H : Hp} {s : Shared} {Qk : VK} {us : List Value} {vs : List V} (F : FnG X.prog X.w X.K X.mg X.base CX k f fd ps sp) (hr : Room k X.A) (gd : X.A.guards = some []) (hb : Binds X.K fd ps []) (hx : PassesAt CX X σ (E σ))
    (I : Inv X pins σ H s) (r : Vals vs us) (h : sp vs H Qk (E σ)) : wpAny (model X.prog X.w) X.A (call (.ref f) us) (EP X pins σ Qk) X.xe s := by
  have hl : (us ++ ([] : List Value)).length = ps.length := by
    rw [List.append_nil, ← r.length]
    exact F.len _ _ _ _ h
  have bd := hb s us I.kIn hl
  rw [List.append_nil] at bd
  refine wpAny_call (codeAny_mono (F.run X.A X.stack s H ⟨us, []⟩ us vs Qk (E σ) hr gd I.env0 bd r h) fun res s' hq => ?_)
  match res, hq with
  | .error e, hq => exact hx pins H s e s' I hq
  | .ok (.ret u), hq => exact I.after hq
/-- a call by a global name -/
theorem peG {e : Expr} (F : FnG X.prog X.w X.K X.mg X.base CX k f fd ps sp) (hr : Room k X.A) (gd : X.A.guards = some []) (hg : Gl X x) (hm : X.mg x = some (.ref f)) (hk : PySem.W.keepIn X.K (.ref f) = true) (hb : Binds X.K fd ps []) (hx : ∀ σ, PassesAt CX X σ (E σ))
    (hdb : (x == ("__debug__" : Str)) = false) (ha : PA X (e :: es) t) (he : starEach (e :: es) X.env = (false, PySem.eval e X.env) :: starEach es X.env) (hpl : (backTo pos (starEach es X.env)).any (·.1) = false) :
    PE X (.Call (.Name x p) (e :: es) [] pos) (fun σ H Qk => t σ H fun vs H1 => sp vs H1 Qk (E σ)) := by
  refine ⟨fun pins s σ H Qk I h => wpAny_Call_Name_kw (ld_glob I hg hm ?_ hdb)⟩
  refine PySem.W.callWith_K (h₀ := X.base) I.ok.mod.kin hk (thn (ha.run pos pins s σ H _ I h) fun us s1 ⟨vs, H1, I1, rv, q⟩ => ⟨I1.kIn, ?_⟩) he hpl
  exact goG F hr gd hb (hx σ) I1 rv q
theorem peG0 (F : FnG X.prog X.w X.K X.mg X.base CX k f fd ps sp) (hr : Room k X.A) (gd : X.A.guards = some []) (hg : Gl X x) (hm : X.mg x = some (.ref f)) (hk : PySem.W.keepIn X.K (.ref f) = true) (hb : Binds X.K fd ps []) (hx : ∀ σ, PassesAt CX X σ (E σ))
    (hdb : (x == ("__debug__" : Str)) = false) : PE X (.Call (.Name x p) [] [] pos) (fun σ H Qk => sp [] H Qk (E σ)) := by
  refine ⟨fun pins s σ H Qk I h => wpAny_Call_Name_kw (ld_glob I hg hm ?_ hdb)⟩
  exact PySem.W.callWith_K0 I.kIn hk (goG (us := []) F hr gd hb (hx σ) I .nil h)
end
/-! ### what the arguments are -/
section
variable {K : PySem.W.Frag} {F F' H H' : Hp} {S S' T : AS} {env env' : Env} {σ : L2.St} {d : D} {v : V}
def ArgV (K : PySem.W.Frag) (F H : Hp) (σ : L2.St) : List Op → List V → AS → Prop
  | [], vs, _ => vs = []
  | .val d :: os, vs, T => ∃ v r T1 T2, vs = v :: r ∧ Sub T1 T ∧ Sub T2 T ∧ Dj T1 T2 ∧ Rp K F H d v T1 ∧ ArgV K F H σ os r T2
  | .ref i :: os, vs, T => ∃ v r, vs = v :: r ∧ σ[i]? = some (some v) ∧ ArgV K F H σ os r T
  | .refp _ _ :: _, _, _ => False
theorem ArgV.mono (eF : Ex F F') (tu : Tu H H') : ∀ (os : List Op) (vs : List V) (T T' : AS), Sub T T' → (∀ a o, T a → H a = some o → H' a = some o) → ArgV K F H σ os vs T → ArgV K F' H' σ os vs T'
  | [], _, _, _, _, _, h => h
  | .val d :: os, vs, T, T', hs, k, h => by
    obtain ⟨v, r, T1, T2, e, s1, s2, dj, h1, h2⟩ := h
    exact ⟨v, r, T1, T2, e, fun a q => hs a (s1 a q), fun a q => hs a (s2 a q), dj, Rp.mono eF tu d v T1 T1 (fun _ q => q) (fun a o q => k a o (s1 a q)) h1, ArgV.mono eF tu os r T2 T2 (fun _ q => q) (fun a o q => k a o (s2 a q)) h2⟩
  | .ref i :: os, vs, T, T', hs, k, h => by
    obtain ⟨v, r, e, h1, h2⟩ := h
    exact ⟨v, r, e, h1, ArgV.mono eF tu os r T T' hs k h2⟩
  | .refp _ _ :: _, _, _, _, _, _, h => h.elim
theorem apart_none {i : Nat} : ∀ {os : List Op} {env : Env}, apart os env = true → apart os (env.set i none) = true
  | [], _, _ => rfl
  | .val d :: os, env, h => apart_none (os := os) h
  | .refp _ _ :: os, env, h => apart_none (os := os) h
  | .ref j :: os, env, h => by
    rw [apart, Bool.and_eq_true] at h ⊢
    refine ⟨?_, apart_none h.2⟩
    by_cases e : j = i
    · subst e
      cases hl : decide (j < env.length) with
      | true =>
        rw [gt_set_self (of_decide_eq_true hl)]
        rfl
      | false =>
        have : env.set j none = env := List.set_eq_of_length_le (Nat.le_of_not_lt (of_decide_eq_false hl))
        rw [this]
        exact h.1
    · rw [gt_set_ne e]
      exact h.1
theorem gets_none {i : Nat} : ∀ {os : List Op} {env : Env}, hasRef i os = false → (∀ o ∈ os, opRef o = true) → gets (env.set i none) os = gets env os
  | [], _, _, _ => rfl
  | .val d :: os, env, h, n => by
    have ih := gets_none (env := env) (i := i) (os := os) h fun o ho => n o (List.mem_cons_of_mem _ ho)
    unfold gets
    rw [ih]
    rfl
  | .refp _ _ :: os, env, h, n => absurd (n _ (List.mem_cons_self ..)) (by intro z; cases z)
  | .ref j :: os, env, h, n => by
    have h' : (j == i || hasRef i os) = false := h
    rw [Bool.or_eq_false_iff] at h'
    have ih := gets_none (env := env) (i := i) (os := os) h'.2 fun o ho => n o (List.mem_cons_of_mem _ ho)
    have e : j ≠ i := by simpa using h'.1
    unfold gets
    rw [ih]
    show (match gt (env.set i none) j, gets env os with | some d, some ds => some (d :: ds) | _, _ => none) = (match gt env j, gets env os with | some d, some ds => some (d :: ds) | _, _ => none)
    rw [gt_set_ne e]
theorem ArgV.refs : ∀ {os : List Op} {vs : List V} {T : AS}, ArgV K F H σ os vs T → ∀ o ∈ os, opRef o = true
  | [], _, _, _, o, ho => by cases ho
  | .val d :: os, vs, T, h, o, ho => by
    obtain ⟨v, r, T1, T2, e, s1, s2, dj, h1, h2⟩ := h
    rcases List.mem_cons.mp ho with q | q
    · subst q
      rfl
    · exact ArgV.refs h2 o q
  | .ref i :: os, vs, T, h, o, ho => by
    obtain ⟨v, r, e, h1, h2⟩ := h
    rcases List.mem_cons.mp ho with q | q
    · subst q
      rfl
    · exact ArgV.refs h2 o q
  | .refp _ _ :: _, _, _, h, _, _ => h.elim
theorem putBack_set {i : Nat} {x y : Option D} : ∀ (os : List Op) (ds : Env) (env : Env), (putBack os ds (env.set i x)).set i y = (putBack os ds env).set i y
  | [], ds, env => by
    unfold putBack
    rw [List.set_set]
  | .val d :: os, [], env => by
    unfold putBack
    rw [List.set_set]
  | .val d :: os, c :: ds, env => putBack_set os ds env
  | .refp _ _ :: os, [], env => by
    unfold putBack
    rw [List.set_set]
  | .refp _ _ :: os, c :: ds, env => putBack_set os ds env
  | .ref j :: os, [], env => by
    unfold putBack
    rw [List.set_set]
  | .ref j :: os, c :: ds, env => by
    show ((putBack os ds (env.set i x)).set j c).set i y = ((putBack os ds env).set j c).set i y
    by_cases e : j = i
    · subst e
      rw [List.set_set, List.set_set, putBack_set os ds env]
    · rw [List.set_comm _ _ e, List.set_comm _ _ e, putBack_set os ds env]
theorem set_some_self {i : Nat} {v : V} (h : σ[i]? = some (some v)) : σ.set i (some v) = σ := by
  obtain ⟨hl, he⟩ := List.getElem?_eq_some_iff.mp h
  rw [← he]
  exact List.set_getElem_self hl
theorem putBack_len : ∀ (os : List Op) (ds : Env) (env : Env), (putBack os ds env).length = env.length
  | [], _, _ => by unfold putBack; rfl
  | .val d :: os, [], env => by unfold putBack; rfl
  | .val d :: os, c :: ds, env => putBack_len os ds env
  | .refp _ _ :: os, [], env => by unfold putBack; rfl
  | .refp _ _ :: os, c :: ds, env => putBack_len os ds env
  | .ref j :: os, [], env => by unfold putBack; rfl
  | .ref j :: os, c :: ds, env => by
    show ((putBack os ds env).set j c).length = env.length
    rw [List.length_set, putBack_len os ds env]
/-- the arguments taken out of the slots, and put back changed -/
theorem take_args : ∀ (os : List Op) (vs : List V) (env : Env) (ds : List D) (S T : AS), EnvR K F H env σ S → ArgV K F H σ os vs T → Dj T S → apart os env = true → gets env os = some ds →
    ∃ S1 S2, Sub S1 S ∧ Sub S2 S ∧ Dj S1 S2 ∧ EnvR K F H (ds.map some) (vs.map some) (Un2 S1 T) ∧
      ∀ (F' H' : Hp) (outs : Env) (S1' U : AS), Ex F F' → Tu H H' → (∀ a o, S2 a → H a = some o → H' a = some o) → EnvR K F' H' outs (vs.map some) S1' → Dj S1' S2 → Sub S1' U → Sub S2 U → EnvR K F' H' (putBack os outs env) σ U
  | [], vs, env, ds, S, T, hE, hA, hD, hap, hg => by
    cases hg
    have hA : vs = [] := hA
    subst hA
    refine ⟨No, S, fun _ q => q.elim, fun _ q => q, fun _ q _ => q, rfl, fun F' H' outs S1' U eF tu k ho dj h1 h2 => ?_⟩
    have e : putBack [] outs env = env := by unfold putBack; rfl
    rw [e]
    exact EnvR.mono eF tu _ _ _ _ h2 k hE
  | .refp _ _ :: _, _, _, _, _, _, _, hA, _, _, _ => hA.elim
  | .val d :: os, vs, env, ds, S, T, hE, hA, hD, hap, hg => by
    obtain ⟨v, r, T1, T2, e, s1, s2, dj, h1, h2⟩ := hA
    subst e
    unfold gets at hg
    cases hr : gets env os with
    | none =>
      rw [hr] at hg
      cases hg
    | some es =>
      rw [hr] at hg
      cases hg
      obtain ⟨S1, S2, a1, a2, a3, a4, a5⟩ := take_args os r env es S T2 hE h2 (fun a q => hD a (s2 a q)) hap hr
      refine ⟨S1, S2, a1, a2, a3, ⟨some v, r.map some, T1, Un2 S1 T2, rfl, fun a q => Or.inr (s1 a q), fun a q => q.elim Or.inl fun q => Or.inr (s2 a q), fun a q q2 => q2.elim (fun q2 => hD a (s1 a q) (a1 a q2)) (fun q2 => dj a q q2), ⟨v, rfl, h1⟩, a4⟩, fun F' H' outs S1' U eF tu k ho dj h1 h2 => ?_⟩
      cases outs with
      | nil => cases ho
      | cons c outs =>
        obtain ⟨o, w, Sa, Sb, e, b1, b2, b3, b4, b5⟩ := ho
        cases e
        exact a5 F' H' outs Sb U eF tu k b5 (fun a q => dj a (b2 a q)) (fun a q => h1 a (b2 a q)) h2
  | .ref i :: os, vs, env, ds, S, T, hE, hA, hD, hap, hg => by
    have hrf := ArgV.refs hA
    obtain ⟨v, r, e, hv, h2⟩ := hA
    subst e
    unfold gets at hg
    have hap : (((match gt env i with | some d => noOwn d | none => true) || !hasRef i os) && apart os env) = true := hap
    rw [Bool.and_eq_true] at hap
    cases hd : gt env i with
    | none =>
      rw [show Op.get env (.ref i) = none from hd] at hg
      cases hg
    | some d =>
      rw [show Op.get env (.ref i) = some d from hd] at hg
      rw [hd] at hap
      cases hr : gets env os with
      | none =>
        rw [hr] at hg
        cases hg
      | some es =>
        rw [hr] at hg
        cases hg
        obtain ⟨o, Si, Sr, g1, g2, g3, g4, g5, g6⟩ := hE.hold (gt_lt hd)
        rw [hv] at g1
        cases g1
        rw [hd] at g5
        obtain ⟨w, ew, g5⟩ := g5
        cases ew
        cases hn : noOwn d with
        | true =>
          -- shared: it stays where it is
          obtain ⟨S1, S2, a1, a2, a3, a4, a5⟩ := take_args os r env es S T hE h2 hD hap.2 hr
          refine ⟨S1, S2, a1, a2, a3, ⟨some v, r.map some, No, Un2 S1 T, rfl, fun _ q => q.elim, fun _ q => q, fun _ q _ => q, ⟨v, rfl, Rp.free _ _ _ hn g5⟩, a4⟩, fun F' H' outs S1' U eF tu k ho dj h1 h2 => ?_⟩
          cases outs with
          | nil => cases ho
          | cons c outs =>
            obtain ⟨o, w, Sa, Sb, e, b1, b2, b3, b4, b5⟩ := ho
            cases e
            have q := a5 F' H' outs Sb (Un2 Sb S2) eF tu k b5 (fun a q => dj a (b2 a q)) (fun a q => Or.inl q) (fun a q => Or.inr q)
            show EnvR K F' H' ((putBack os outs env).set i c) σ U
            obtain ⟨o, Sj, Sk, c1, c2, c3, c4, c5, c6⟩ := q.hold (i := i) (by rw [putBack_len]; exact gt_lt hd)
            have z := c6 F' H' c (some v) Sa U (Ex.refl _) (Tu.refl _) (fun _ _ _ q => q) (fun a q q2 => (c3 a q2).elim (fun q2 => b3 a q q2) (fun q2 => dj a (b1 a q) q2)) (fun a q => h1 a (b1 a q)) (fun a q => (c3 a q).elim (fun q => h1 a (b2 a q)) (h2 a)) b4
            rw [set_some_self hv] at z
            exact z
        | false =>
          have hno : hasRef i os = false := by
            have q := hap.1
            have q2 : (noOwn d || !hasRef i os) = true := q
            rw [hn] at q2
            simpa using q2
          have e1 := g6 F H none (some v) No Sr (Ex.refl F) (Tu.refl H) (fun _ _ _ q => q) (fun _ q => q.elim) (fun _ q => q.elim) (fun _ q => q) trivial
          rw [set_some_self hv] at e1
          obtain ⟨S1, S2, a1, a2, a3, a4, a5⟩ := take_args os r (env.set i none) es Sr T e1 h2 (fun a q q2 => hD a q (g3 a q2)) (apart_none hap.2) (by rw [gets_none hno (fun o ho => hrf o (List.mem_cons_of_mem _ ho))]; exact hr)
          refine ⟨Un2 Si S1, S2, fun a q => q.elim (g2 a) fun q => g3 a (a1 a q), fun a q => g3 a (a2 a q), fun a q q2 => q.elim (fun q => g4 a q (a2 a q2)) (fun q => a3 a q q2), ⟨some v, r.map some, Si, Un2 S1 T, rfl, fun a q => Or.inl (Or.inl q), fun a q => q.elim (fun q => Or.inl (Or.inr q)) Or.inr, fun a q q2 => q2.elim (fun q2 => g4 a q (a1 a q2)) (fun q2 => hD a q2 (g2 a q)), ⟨v, rfl, g5⟩, a4⟩, fun F' H' outs S1' U eF tu k ho dj h1 h2 => ?_⟩
          cases outs with
          | nil => cases ho
          | cons c outs =>
            obtain ⟨o, w, Sa, Sb, e, b1, b2, b3, b4, b5⟩ := ho
            cases e
            have q := a5 F' H' outs Sb (Un2 Sb S2) eF tu k b5 (fun a q => dj a (b2 a q)) (fun a q => Or.inl q) (fun a q => Or.inr q)
            show EnvR K F' H' ((putBack os outs env).set i c) σ U
            obtain ⟨o, Sj, Sk, c1, c2, c3, c4, c5, c6⟩ := q.hold (i := i) (by rw [putBack_len, List.length_set]; exact gt_lt hd)
            have z := c6 F' H' c (some v) Sa U (Ex.refl _) (Tu.refl _) (fun _ _ _ q => q) (fun a q q2 => (c3 a q2).elim (fun q2 => b3 a q q2) (fun q2 => dj a (b1 a q) q2)) (fun a q => h1 a (b1 a q)) (fun a q => (c3 a q).elim (fun q => h1 a (b2 a q)) (h2 a)) b4
            rw [set_some_self hv, putBack_set] at z
            exact z
end
end AW

/-! AWSound: the text of the program does what the small language's terms mean: expressions. -/
namespace AW
open PySem L2 PyProof.Rows

/-- a def that may be called by a name -/
structure FnUse (X : Cx) (ca : Nat → Addr) (x : Str) (f : List D → R D) : Prop where
  ex : ∃ (fa : Addr) (fd : FuncData) (ps : List Str) (k : Nat), X.mg x = some (.ref fa) ∧ FnG X.prog X.w X.K X.mg X.base (L2.CX X.prog X.w) k fa fd ps (spF X.K ca f) ∧ Room k X.A ∧ PySem.W.keepIn X.K (.ref fa) = true ∧ Binds X.K fd ps []
structure Good (T : Tb) (ca : Nat → Addr) (Wx : L2.St → Nat → Hp → Prop) (q : Nat → List D → R D) (G : Nat → D) (N : List Str) (X : Cx) (sc : Scope) (fn : Str → Bool) : Prop where
  n : X.N = N
  nd : N.Nodup
  sc : X.env.scope = sc
  calm : X.calm = true
  hu : X.A.units + 66 < cLine
  gd : X.A.guards = some []
  fn : ∀ x, fn x = true → X.fn x = true
  fns : ∀ f x, T.fns[f]? = some x → FnUse X ca x (q f)
  gls : ∀ g x, T.gls[g]? = some x → ∃ u v, GlV X.mg x (G g) u ∧ L2.RelV v u ∧ noOwn (G g) = true ∧ ∀ F H, Rp X.K F H (G g) v No
  bls : ∀ x, T.bls.contains x = true → X.mg x = none
  tk : Takes X fun cls d σ H => eW X.K ca (Wx σ) cls d H
  cae : ∀ c, ca c = exA X.K c
section
variable {T : Tb} {ca : Nat → Addr} {Wx : L2.St → Nat → Hp → Prop} {q : Nat → List D → R D} {G : Nat → D} {N : List Str} {X : Cx} {sc : Scope} {fn : Str → Bool}
theorem eW_no {K : PySem.W.Frag} : eW K ca (fun _ _ => False) = fun _ _ _ => False := by
  funext cls d H
  unfold eW
  simp
/-- the same in a comprehension's block -/
theorem Good.blk (g : Good T ca Wx q G N X sc fn) (s : Shared) (H : Hp) (scope : Scope) (C : Addr) (cl : List (Str × Addr)) (fp : List Addr) :
    Good T ca (fun _ _ _ => False) q G N (X.blk s H scope (compEnvC scope cl C X.env) fp) (relSc scope sc) (fun y => scope.names.lookup y == some .cell) where
  n := g.n
  nd := g.nd
  sc := by
    rw [← g.sc]
    rfl
  calm := g.calm
  hu := g.hu
  gd := g.gd
  fn := fun x h => h
  fns := fun f x h => by
    obtain ⟨fa, fd, ps, k, h1, h2, h3, h4, h5⟩ := (g.fns f x h).ex
    exact ⟨fa, fd, ps, k, h1, h2, h3, h4, h5⟩
  gls := g.gls
  bls := g.bls
  tk := by
    have e : (fun (cls : Value) (d : Option Addr) (σ : L2.St) (H : Hp) => eW X.K ca (fun _ _ => False) cls d H) = fun _ _ _ _ => False := by
      funext cls d σ H
      exact congrFun (congrFun (congrFun eW_no cls) d) H
    show Takes _ (fun (cls : Value) (d : Option Addr) (σ : L2.St) (H : Hp) => eW X.K ca (fun _ _ => False) cls d H)
    rw [e]
    exact takes0
  cae := g.cae
theorem vis_ok {x : Str} (h : vis sc x = true) : Vis sc x ∧ (x == ("__debug__" : Str)) = false ∧ (x == ("__classdict__" : Str)) = false := by
  unfold vis at h
  rw [Bool.and_eq_true, Bool.or_eq_true, Bool.or_eq_true, Bool.and_eq_true, Bool.not_eq_true', Bool.not_eq_true'] at h
  refine ⟨?_, h.2.1, h.2.2⟩
  rcases h.1 with h | h | h
  · exact Or.inl (by simpa using h)
  · exact Or.inr (Or.inl (by simpa using h))
  · exact Or.inr (Or.inr (by simpa using h))
theorem glb_ok (hs : X.env.scope = sc) {x : Str} (h : glb sc x = true) : Gl X x ∧ (x == ("__debug__" : Str)) = false := by
  unfold glb at h
  rw [Bool.and_eq_true, Bool.not_eq_true'] at h
  refine ⟨?_, h.2⟩
  show X.env.scope.names.lookup x = some .globalImplicit
  rw [hs]
  simpa using h.1
theorem pe_nm (g : Good T ca Wx q G N X sc fn) {i : Nat} {x : Str} {pos : Pos} (h : mNm N sc i x = true) : PE X (.Name x pos) (tVar i) := by
  unfold mNm at h
  rw [Bool.and_eq_true] at h
  obtain ⟨v1, v2, v3⟩ := vis_ok h.2
  exact pe_var (by rw [g.n]; simpa using h.1) (by rw [g.sc]; exact v1) v2 v3
/-- the readings of an argument list -/
def rdA (K : PySem.W.Frag) (Wx : L2.St → Nat → Hp → Prop) (r : Env → R (List Op)) : TA := fun σ H Qk => ∃ F env S, Rel K F H env σ S ∧
  Post K Wx σ F H S (r env) fun os env' => ∀ F' H' S' T vs, Rel K F' H' env' σ S' → ArgV K F' H' σ os vs T → (∀ a, T a → F' a = none ∧ H' a ≠ none ∧ ¬ S' a) → Stp F H S F' H' (Un2 S' T) → Qk vs H'
/-- of values in hand -/
def rdV (K : PySem.W.Frag) (Wx : L2.St → Nat → Hp → Prop) (st : Bool) (r : Env → R (List D)) : TA := fun σ H Qk => ∃ F env S, Rel K F H env σ S ∧
  Post K Wx σ F H S (r env) fun ds env' => ∀ F' H' S' T vs, Rel K F' H' env' σ S' → RpL K F' H' ds vs T → (∀ a, T a → F' a = none ∧ H' a ≠ none ∧ ¬ S' a) → Stp F H S F' H' (Un2 S' T) → (st = true → Ex H H') → Qk vs H'
/-- of values given up -/
def rdF (K : PySem.W.Frag) (Wx : L2.St → Nat → Hp → Prop) (st : Bool) (r : Env → R (List D)) : TA := fun σ H Qk => ∃ F env S, Rel K F H env σ S ∧
  Post K Wx σ F H S (r env) fun ds env' => ∀ F' H' S' vs, Rel K F' H' env' σ S' → FrL K F' H' ds vs → Stp F H S F' H' S' → (st = true → Ex H H') → Qk vs H'
def OpVL (K : PySem.W.Frag) (F H : Hp) (σ : L2.St) : List Op → List V → Prop
  | [], vs => vs = []
  | o :: os, vs => ∃ v r, vs = v :: r ∧ OpV K F H σ o v ∧ OpVL K F H σ os r
/-- of operands -/
def rdOL (K : PySem.W.Frag) (Wx : L2.St → Nat → Hp → Prop) (r : Env → R (List Op)) : TA := fun σ H Qk => ∃ F env S, Rel K F H env σ S ∧
  Post K Wx σ F H S (r env) fun os env' => ∀ F' H' S' vs, Rel K F' H' env' σ S' → OpVL K F' H' σ os vs → Stp F H S F' H' S' → Qk vs H'

/-! ### from a value to an operand -/
theorem stp_no {F H F' H' : Hp} {S S' : AS} (s : Stp F H S F' H' (Un2 S' No)) : Stp F H S F' H' S' := s.sub fun a q => Or.inl q
theorem pe_to_opd {me : E} {e : Expr} (hn : ∀ i, me ≠ .var i) (hp : ∀ i k, me ≠ .pth i k) (h : PE X e (rdE X.K Wx (still me) (eval q G me))) : PE X e (rdO X.K Wx (still me) (opd me (eval q G me))) := by
  have e1 : opd me (eval q G me) = fun env => (eval q G me env).bind fun d e => if okF d then .ok (.val (frz d)) e else .no := by
    cases me with
    | var i => exact absurd rfl (hn i)
    | pth i k => exact absurd rfl (hp i k)
    | _ => rfl
  rw [e1]
  refine PE.weak h fun σ H Qk ⟨F, env, S, r, hm⟩ => ⟨F, env, S, r, hm.bind.imp fun d env' hd F' H' S' T v r' t' s' st => ?_⟩
  obtain ⟨hk, hd⟩ := hd.iff
  obtain ⟨r2, t2, s2⟩ := Tmp.frz r' t' hk
  exact hd _ _ _ v r2 ⟨frz_noOwn d hk, t2.rp⟩ (s'.trans s2) st
/-- two steps, a value in hand between -/
theorem Stp.trans2 {F H F' H' F2 H2 : Hp} {S S' S2 T T2 : AS} (s' : Stp F H S F' H' (Un2 S' T)) (s2 : Stp F' H' S' F2 H2 (Un2 S2 T2)) : Stp F H S F2 H2 (Un2 S2 (Un2 T T2)) := by
  have s3 : Stp F' H' (Un2 S' T) F2 H2 (Un2 S2 (Un2 T T2)) := ⟨fun a o n e => s2.kp a o (fun z => n (Or.inl z)) e, s2.fx, fun a h => ?_, fun a h => (s2.ff a h).elim Or.inl fun h => Or.inr (h.elim (fun h => Or.inl (Or.inl h)) Or.inr), s2.tu⟩
  · exact s'.trans s3
  · rcases h with h | h | h
    · exact (s2.fr a (Or.inl h)).elim (fun h => Or.inl (Or.inl h)) Or.inr
    · exact Or.inl (Or.inr h)
    · exact (s2.fr a (Or.inr h)).elim (fun h => Or.inl (Or.inl h)) Or.inr
theorem pe_to_arg {me : E} {e : Expr} (hn : ∀ i, me ≠ .var i) (h : PE X e (rdE X.K Wx (still me) (eval q G me))) {es : List Expr} {mes : Es} (hs : PA X es (rdA X.K Wx (evalArgs q G mes))) (hst : starEach (e :: es) X.env = (false, PySem.eval e X.env) :: starEach es X.env) :
    PA X (e :: es) (rdA X.K Wx (evalArgs q G (.cons me mes))) := by
  have e1 : arg me (eval q G me) = fun env => (eval q G me env).map .val := by
    cases me with
    | var i => exact absurd rfl (hn i)
    | _ => rfl
  refine PA.weak (pa_cons h hs hst) fun σ H Qk ⟨F, env, S, r, hm⟩ => ⟨F, env, S, r, ?_⟩
  rw [evalArgs, e1] at hm
  refine hm.bind.map.imp fun d env' hd F' H' S' T v r' t' s' st => ⟨F', env', S', r', (hd.bind.at (s'.sub fun a q => Or.inl q)).imp fun os env2 hd F2 H2 S2 T2 vs r2 a2 t2 s2 => ?_⟩
  have tk := t'.keep s2
  exact hd F2 H2 S2 (Un2 T T2) (v :: vs) r2 ⟨v, vs, T, T2, rfl, fun a q => Or.inl q, fun a q => Or.inr q, fun a h1 h2 => (tk.ok a h1).2.2 (Or.inr h2), tk.rp, a2⟩ (fun a h => h.elim (fun h => ⟨(tk.ok a h).1, (tk.ok a h).2.1, fun z => (tk.ok a h).2.2 (Or.inl z)⟩) (t2 a)) (s'.trans2 s2)
theorem pa_ref {i : Nat} {e : Expr} (h : PE X e (tVar i)) {es : List Expr} {mes : Es} (hs : PA X es (rdA X.K Wx (evalArgs q G mes))) (hst : starEach (e :: es) X.env = (false, PySem.eval e X.env) :: starEach es X.env) :
    PA X (e :: es) (rdA X.K Wx (evalArgs q G (.cons (.var i) mes))) := by
  refine PA.weak (pa_cons h hs hst) fun σ H Qk ⟨F, env, S, r, hm⟩ => ?_
  have hm : Post X.K Wx σ F H S ((if (gt env i).isSome = true then R.ok (Op.ref i) env else .no).bind fun d e1 => (evalArgs q G mes e1).bind fun ds e2 => .ok (d :: ds) e2) _ := hm
  obtain ⟨hi, hm⟩ := hm.bind.iff
  obtain ⟨d, hd⟩ := Option.isSome_iff_exists.mp hi
  obtain ⟨v, S1, g1, g2, g3⟩ := r.at hd
  refine ⟨v, g1, F, env, S, r, ?_⟩
  have hm : Post X.K Wx σ F H S ((evalArgs q G mes env).bind fun ds e2 => .ok (.ref i :: ds) e2) _ := hm
  exact hm.bind.imp fun os env2 hd F2 H2 S2 T2 vs r2 a2 t2 s2 => hd F2 H2 S2 T2 (v :: vs) r2 ⟨v, vs, rfl, g1, a2⟩ t2 s2
end
end AW

/-! AWSound2: one construct at a time. -/
namespace AW
open PySem L2 PyProof.Rows
section
variable {T : Tb} {ca : Nat → Addr} {Wx : L2.St → Nat → Hp → Prop} {q : Nat → List D → R D} {G : Nat → D} {N : List Str} {X : Cx} {sc : Scope} {fn : Str → Bool}
theorem Post.eq {α : Type} {K : PySem.W.Frag} {σ : L2.St} {F H : Hp} {S : AS} {r : R α} {P : α → Env → Prop} (h : Post K Wx σ F H S r P) : Post K Wx σ F H S r fun a env => r = .ok a env ∧ P a env := by
  cases r with
  | ok a env => exact ⟨rfl, h⟩
  | exc c env => exact h
  | no => exact h
/-- the end of an operation: the answer is given out -/
theorem fin_res {K : PySem.W.Frag} {F H F2 H2 : Hp} {S S2 : AS} {env : Env} {σ : L2.St} {d : D} {st : Bool} {Qk : VK} (r : Rel K F2 H2 env σ S2) (s : Stp F H S F2 H2 S2) (hst : st = true → Ex H H2)
    (k : ∀ F' H' S' T v, Rel K F' H' env σ S' → Tmp K F' H' S' d v T → Stp F H S F' H' (Un2 S' T) → (st = true → Ex H H') → Qk v H') : Res K F2 H2 d Qk := fun v H' T e rp nw => by
  have tk0 : ∀ a, T a → F2 a = none := fun a h => by
    cases z : F2 a with
    | none => rfl
    | some o =>
      have := r.ex a o z
      rw [(nw a h).1] at this
      cases this
  have tk : ∀ a, T a → F2 a = none ∧ H' a ≠ none ∧ ¬ S2 a := fun a h => ⟨tk0 a h, (nw a h).2, fun z => r.al a z (nw a h).1⟩
  exact k F2 H' S2 T v (r.grow e) ⟨rp, tk⟩ (s.trans (Stp.grown e fun a h => (nw a h).1)) fun h => (hst h).trans e
theorem opd_val {me : E} (hn : ∀ i, me ≠ .var i) (hp : ∀ i k, me ≠ .pth i k) : opd me (eval q G me) = fun env => (eval q G me env).bind fun d e => if okF d then .ok (.val (frz d)) e else .no := by
  cases me with
  | var i => exact absurd rfl (hn i)
  | pth i k => exact absurd rfl (hp i k)
  | _ => rfl
theorem ord_ok {a b : E} (h : ord a b = true) {env : Env} {o : Op} {env' : Env} (ho : opd a (eval q G a) env = .ok o env') : opRef o = true ∨ still b = true := by
  unfold ord at h
  rw [Bool.or_eq_true] at h
  rcases h with h | h
  · left
    by_cases hv : ∃ i, a = .var i
    · obtain ⟨i, rfl⟩ := hv
      have ho : (if (gt env i).isSome = true then R.ok (Op.ref i) env else .no) = .ok o env' := ho
      split at ho
      · cases ho
        rfl
      · cases ho
    · have hp : ∀ i k, a ≠ .pth i k := fun i k e => by
        subst e
        cases h
      rw [opd_val (fun i e => hv ⟨i, e⟩) hp] at ho
      have ho : (eval q G a env).bind (fun d e => if okF d = true then R.ok (Op.val (frz d)) e else .no) = .ok o env' := ho
      revert ho
      generalize eval q G a env = z
      intro ho
      cases z with
      | ok d e =>
        have ho : (if okF d = true then R.ok (Op.val (frz d)) e else .no) = .ok o env' := ho
        split at ho
        · cases ho
          rfl
        · cases ho
      | exc c e => cases ho
      | no => cases ho
  · exact Or.inr h
/-- an operation on two operands -/
theorem c_op2 {a b : E} {e : Expr} {f : D → D → Option D} (ho : ord a b = true) (h : PE X e (tOp (rBin X.K f) (rdO X.K Wx (still a) (opd a (eval q G a))) (rdO X.K Wx (still b) (opd b (eval q G b))))) :
    PE X e (rdE X.K Wx false fun env => (opd a (eval q G a) env).bind fun x e1 => (opd b (eval q G b) e1).bind fun y e2 => on2 f x y e2) := by
  refine PE.weak h fun σ H Qk ⟨F, env, S, r, hm⟩ => ⟨F, env, S, r, hm.bind.eq.imp fun o1 env1 ⟨he1, hd⟩ F1 H1 S1 v1 r1 ov1 s1 st1 => ⟨F1, env1, S1, r1, (hd.bind.at s1).imp fun o2 env2 hd F2 H2 S2 v2 r2 ov2 s2 st2 => ?_⟩⟩
  have ov1' := ov1.keep s2 ((ord_ok ho he1).imp id st2)
  unfold on2 at hd
  cases g1 : o1.get env2 with
  | none =>
    rw [g1] at hd
    exact hd.elim
  | some d1 =>
    cases g2 : o2.get env2 with
    | none =>
      rw [g1, g2] at hd
      exact hd.elim
    | some d2 =>
      rw [g1, g2] at hd
      obtain ⟨d, hf, hd⟩ := Post.lift hd
      obtain ⟨Sa, _, p1⟩ := ov1'.view r2 g1
      obtain ⟨Sb, _, p2⟩ := ov2.view r2 g2
      exact ⟨F2, d1, d2, d, Sa, Sb, r2.ex, p1, p2, hf, fin_res r2 (s1.trans s2) (fun z => by cases z) hd⟩
theorem c_op1 {a : E} {e : Expr} {f : D → Option D} {t : V → Hp → VK → Prop} (ht : ∀ x H Qk, (∃ F d1 d S1, Ex F H ∧ Rp X.K F H d1 x S1 ∧ f d1 = some d ∧ Res X.K F H d Qk) → t x H Qk) (h : PE X e (tUn t (rdO X.K Wx (still a) (opd a (eval q G a))))) :
    PE X e (rdE X.K Wx false fun env => (opd a (eval q G a) env).bind fun x e1 => on1 f x e1) := by
  refine PE.weak h fun σ H Qk ⟨F, env, S, r, hm⟩ => ⟨F, env, S, r, hm.bind.imp fun o1 env1 hd F1 H1 S1 v1 r1 ov1 s1 st1 => ht _ _ _ ?_⟩
  unfold on1 at hd
  cases g1 : o1.get env1 with
  | none =>
    rw [g1] at hd
    exact hd.elim
  | some d1 =>
    rw [g1] at hd
    obtain ⟨d, hf, hd⟩ := Post.lift hd
    obtain ⟨Sa, _, p1⟩ := ov1.view r1 g1
    exact ⟨F1, d1, d, Sa, r1.ex, p1, hf, fin_res r1 s1 (fun z => by cases z) hd⟩
theorem c_neg {a : E} {x : Expr} {pos : Pos} (h : PE X x (rdO X.K Wx (still a) (opd a (eval q G a)))) : PE X (.UnaryOp .USub x pos) (rdE X.K Wx false fun env => (opd a (eval q G a) env).bind fun x e1 => on1 dNeg x e1) := by
  refine c_op1 (fun x H Qk ⟨F, d1, d, S1, eF, hp, hf, res⟩ => ?_) (pe_un un_neg h)
  cases d1 with
  | int i =>
    cases hf
    cases hp
    exact ⟨i, rfl, res.flat rfl⟩
  | _ => cases hf
/-- a value, as a test -/
theorem c_test {r : Env → R D} {st : Bool} {e : Expr} (h : PE X e (rdE X.K Wx st r)) (he : ∀ whole, isTrue e X.env whole = (do let v ← whole; standAt e.pos; holding [v] (truthy v))) : PT X e (rdT X.K Wx r) := by
  refine PT.weak (pt_val h he) fun σ H Qk ⟨F, env, S, r, hm⟩ => ⟨F, env, S, r, hm.imp fun d env' ⟨b, hb, k⟩ F' H' S' T v r' t' s' _ => ?_⟩
  subst hb
  have e : v = .bl b := t'.rp
  exact ⟨b, e, k F' H' S' r' (s'.sub fun a q => Or.inl q)⟩
theorem rd_bl {K : PySem.W.Frag} {st : Bool} {r : Env → R D} {σ : L2.St} {H : Hp} {Qk : VK} {P : D → Env → Prop} {F : Hp} {env : Env} {S : AS} : True := trivial
/-- the truth of a test, as a value -/
theorem c_not {a : E} {x : Expr} {pos : Pos} (h : PE X x (rdE X.K Wx (still a) (eval q G a))) : PE X (.UnaryOp .Not x pos) (rdE X.K Wx false fun env => (eval q G a env).bind fun d e1 => match d with | .bl b => .ok (.bl (!b)) e1 | _ => .no) := by
  refine PE.weak (pe_not h) fun σ H Qk ⟨F, env, S, r, hm⟩ => ⟨F, env, S, r, hm.bind.imp fun d env' hd F' H' S' T v r' t' s' _ => ?_⟩
  cases d with
  | bl b =>
    have e : v = .bl b := t'.rp
    refine ⟨b, e, hd F' H' S' No _ r' ⟨rfl, fun _ z => z.elim⟩ (s'.sub fun a z => z.elim Or.inl fun z => z.elim) fun z => by cases z⟩
  | _ => exact hd.elim
theorem t_not {a : E} {x : Expr} {pos : Pos} (h : PT X x (rdT X.K Wx (eval q G a))) : PT X (.UnaryOp .Not x pos) (rdT X.K Wx fun env => (eval q G a env).bind fun d e1 => match d with | .bl b => .ok (.bl (!b)) e1 | _ => .no) := by
  refine PT.weak (pt_not h) fun σ H Qk ⟨F, env, S, r, hm⟩ => ⟨F, env, S, r, hm.bind.imp fun d env' hd => ?_⟩
  cases d with
  | bl b =>
    obtain ⟨c, hc, k⟩ := hd
    cases hc
    exact ⟨b, rfl, k⟩
  | _ => exact hd.elim
theorem c_ite {c a b : E} {x y z : Expr} {pos : Pos} (hc : PT X x (rdT X.K Wx (eval q G c))) (ha : PE X y (rdE X.K Wx (still a) (eval q G a))) (hb : PE X z (rdE X.K Wx (still b) (eval q G b))) :
    PE X (.IfExp x y z pos) (rdE X.K Wx false fun env => (eval q G c env).bind fun d e1 => match d with | .bl true => eval q G a e1 | .bl false => eval q G b e1 | _ => .no) := by
  refine PE.weak (pe_ifExp hc ha hb) fun σ H Qk ⟨F, env, S, r, hm⟩ => ⟨F, env, S, r, hm.bind.imp fun d env' hd => ?_⟩
  match d, hd with
  | .bl true, hd =>
    refine ⟨true, rfl, fun F' H' S' r' s' => ?_⟩
    change rdE X.K Wx (still a) (eval q G a) σ H' Qk
    exact ⟨F', env', S', r', (hd.at s').imp fun d env2 k F2 H2 S2 T2 v2 r2 t2 s2 _ => k F2 H2 S2 T2 v2 r2 t2 (s'.trans s2) fun z => by cases z⟩
  | .bl false, hd =>
    refine ⟨false, rfl, fun F' H' S' r' s' => ?_⟩
    change rdE X.K Wx (still b) (eval q G b) σ H' Qk
    exact ⟨F', env', S', r', (hd.at s').imp fun d env2 k F2 H2 S2 T2 v2 r2 t2 s2 _ => k F2 H2 S2 T2 v2 r2 t2 (s'.trans s2) fun z => by cases z⟩
/-! ### and, or -/
theorem c_and1 {a : E} {x : Expr} {pos : Pos} (h : PE X x (rdE X.K Wx (still a) (eval q G a))) : PE X (.BoolOp .And [x] pos) (rdE X.K Wx false (evalAnd q G (.cons a .nil))) := by
  refine PE.weak (pe_one h) fun σ H Qk ⟨F, env, S, r, hm⟩ => ⟨F, env, S, r, ?_⟩
  have hm : Post X.K Wx σ F H S (eval q G a env) _ := hm
  exact hm.imp fun d env' k F' H' S' T v r' t' s' _ => k F' H' S' T v r' t' s' fun z => by cases z
theorem c_or1 {a : E} {x : Expr} {pos : Pos} (h : PE X x (rdE X.K Wx (still a) (eval q G a))) : PE X (.BoolOp .Or [x] pos) (rdE X.K Wx false (evalOr q G (.cons a .nil))) := by
  refine PE.weak (pe_one h) fun σ H Qk ⟨F, env, S, r, hm⟩ => ⟨F, env, S, r, ?_⟩
  have hm : Post X.K Wx σ F H S (eval q G a env) _ := hm
  exact hm.imp fun d env' k F' H' S' T v r' t' s' _ => k F' H' S' T v r' t' s' fun z => by cases z
theorem c_and {a b : E} {es : Es} {x y : Expr} {xs : List Expr} {pos : Pos} (h : PE X x (rdE X.K Wx (still a) (eval q G a))) (hr : PE X (.BoolOp .And (y :: xs) pos) (rdE X.K Wx false (evalAnd q G (.cons b es)))) :
    PE X (.BoolOp .And (x :: y :: xs) pos) (rdE X.K Wx false (evalAnd q G (.cons a (.cons b es)))) := by
  refine PE.weak (pe_and h hr) fun σ H Qk ⟨F, env, S, r, hm⟩ => ⟨F, env, S, r, ?_⟩
  have hm : Post X.K Wx σ F H S ((eval q G a env).bind fun d e1 => match d with | .bl true => evalAnd q G (.cons b es) e1 | .bl false => .ok (.bl false) e1 | _ => .no) _ := hm
  refine hm.bind.imp fun d env' hd F' H' S' T v r' t' s' _ => ?_
  have s'' := s'.sub (S2 := S') fun a z => Or.inl z
  match d, hd, t' with
  | .bl true, hd, t' =>
    have e : v = .bl true := t'.rp
    refine ⟨true, e, ?_⟩
    rw [if_pos rfl]
    exact ⟨F', env', S', r', (hd.at s'').imp fun d env2 k F2 H2 S2 T2 v2 r2 t2 s2 _ => k F2 H2 S2 T2 v2 r2 t2 (s''.trans s2) fun z => by cases z⟩
  | .bl false, hd, t' =>
    have e : v = .bl false := t'.rp
    refine ⟨false, e, ?_⟩
    rw [if_neg (by decide)]
    exact hd F' H' S' No _ r' ⟨rfl, fun _ z => z.elim⟩ (s'.sub fun a z => z.elim Or.inl fun z => z.elim) fun z => by cases z
theorem c_or {a b : E} {es : Es} {x y : Expr} {xs : List Expr} {pos : Pos} (h : PE X x (rdE X.K Wx (still a) (eval q G a))) (hr : PE X (.BoolOp .Or (y :: xs) pos) (rdE X.K Wx false (evalOr q G (.cons b es)))) :
    PE X (.BoolOp .Or (x :: y :: xs) pos) (rdE X.K Wx false (evalOr q G (.cons a (.cons b es)))) := by
  refine PE.weak (pe_or h hr) fun σ H Qk ⟨F, env, S, r, hm⟩ => ⟨F, env, S, r, ?_⟩
  have hm : Post X.K Wx σ F H S ((eval q G a env).bind fun d e1 => match d with | .bl false => evalOr q G (.cons b es) e1 | .bl true => .ok (.bl true) e1 | _ => .no) _ := hm
  refine hm.bind.imp fun d env' hd F' H' S' T v r' t' s' _ => ?_
  have s'' := s'.sub (S2 := S') fun a z => Or.inl z
  match d, hd, t' with
  | .bl false, hd, t' =>
    have e : v = .bl false := t'.rp
    refine ⟨false, e, ?_⟩
    rw [if_neg (by decide)]
    exact ⟨F', env', S', r', (hd.at s'').imp fun d env2 k F2 H2 S2 T2 v2 r2 t2 s2 _ => k F2 H2 S2 T2 v2 r2 t2 (s''.trans s2) fun z => by cases z⟩
  | .bl true, hd, t' =>
    have e : v = .bl true := t'.rp
    refine ⟨true, e, ?_⟩
    rw [if_pos rfl]
    exact hd F' H' S' No _ r' ⟨rfl, fun _ z => z.elim⟩ (s'.sub fun a z => z.elim Or.inl fun z => z.elim) fun z => by cases z
/-- .. as tests -/
theorem t_and1 {a : E} {x : Expr} {pos : Pos} (h : PT X x (rdT X.K Wx (eval q G a))) : PW X (.BoolOp .And [x] pos) (rdT X.K Wx (evalAnd q G (.cons a .nil))) :=
  ⟨fun wh pins s σ H Qk I ⟨F, env, S, r, hm⟩ => (pw_and1 h).run wh pins s σ H Qk I ⟨F, env, S, r, hm⟩⟩
theorem t_or1 {a : E} {x : Expr} {pos : Pos} (h : PT X x (rdT X.K Wx (eval q G a))) : PW X (.BoolOp .Or [x] pos) (rdT X.K Wx (evalOr q G (.cons a .nil))) :=
  ⟨fun wh pins s σ H Qk I ⟨F, env, S, r, hm⟩ => (pw_or1 h).run wh pins s σ H Qk I ⟨F, env, S, r, hm⟩⟩
theorem t_and {a b : E} {es : Es} {x y : Expr} {xs : List Expr} {pos : Pos} (h : PT X x (rdT X.K Wx (eval q G a))) (hr : PW X (.BoolOp .And (y :: xs) pos) (rdT X.K Wx (evalAnd q G (.cons b es)))) :
    PW X (.BoolOp .And (x :: y :: xs) pos) (rdT X.K Wx (evalAnd q G (.cons a (.cons b es)))) := by
  refine ⟨fun wh pins s σ H Qk I ⟨F, env, S, r, hm⟩ => (pw_and h hr).run wh pins s σ H Qk I ⟨F, env, S, r, ?_⟩⟩
  have hm : Post X.K Wx σ F H S ((eval q G a env).bind fun d e1 => match d with | .bl true => evalAnd q G (.cons b es) e1 | .bl false => .ok (.bl false) e1 | _ => .no) _ := hm
  refine hm.bind.imp fun d env' hd => ?_
  match d, hd with
  | .bl true, hd =>
    refine ⟨true, rfl, fun F' H' S' r' s' => ?_⟩
    change rdT X.K Wx (evalAnd q G (.cons b es)) σ H' Qk
    exact ⟨F', env', S', r', (hd.at s').imp fun d env2 ⟨c, hc, k⟩ => ⟨c, hc, fun F2 H2 S2 r2 s2 => k F2 H2 S2 r2 (s'.trans s2)⟩⟩
  | .bl false, hd =>
    refine ⟨false, rfl, fun F' H' S' r' s' => ?_⟩
    change Qk false H'
    obtain ⟨c, hc, k⟩ := hd
    cases hc
    exact k F' H' S' r' s'
theorem t_or {a b : E} {es : Es} {x y : Expr} {xs : List Expr} {pos : Pos} (h : PT X x (rdT X.K Wx (eval q G a))) (hr : PW X (.BoolOp .Or (y :: xs) pos) (rdT X.K Wx (evalOr q G (.cons b es)))) :
    PW X (.BoolOp .Or (x :: y :: xs) pos) (rdT X.K Wx (evalOr q G (.cons a (.cons b es)))) := by
  refine ⟨fun wh pins s σ H Qk I ⟨F, env, S, r, hm⟩ => (pw_or h hr).run wh pins s σ H Qk I ⟨F, env, S, r, ?_⟩⟩
  have hm : Post X.K Wx σ F H S ((eval q G a env).bind fun d e1 => match d with | .bl false => evalOr q G (.cons b es) e1 | .bl true => .ok (.bl true) e1 | _ => .no) _ := hm
  refine hm.bind.imp fun d env' hd => ?_
  match d, hd with
  | .bl false, hd =>
    refine ⟨false, rfl, fun F' H' S' r' s' => ?_⟩
    change rdT X.K Wx (evalOr q G (.cons b es)) σ H' Qk
    exact ⟨F', env', S', r', (hd.at s').imp fun d env2 ⟨c, hc, k⟩ => ⟨c, hc, fun F2 H2 S2 r2 s2 => k F2 H2 S2 r2 (s'.trans s2)⟩⟩
  | .bl true, hd =>
    refine ⟨true, rfl, fun F' H' S' r' s' => ?_⟩
    change Qk true H'
    obtain ⟨c, hc, k⟩ := hd
    cases hc
    exact k F' H' S' r' s'
end
end AW

/-! AWSound3: displays, subscripts, slices, calls, built-in functions, methods. -/
namespace AW
open PySem L2 PyProof.Rows
section
variable {T : Tb} {ca : Nat → Addr} {Wx : L2.St → Nat → Hp → Prop} {q : Nat → List D → R D} {G : Nat → D} {N : List Str} {X : Cx} {sc : Scope} {fn : Str → Bool}
def esLen : Es → Nat
  | .nil => 0
  | .cons _ es => esLen es + 1
theorem evals_len : ∀ {es : Es} {env env' : Env} {ds : List D}, evals q G es env = .ok ds env' → ds.length = esLen es
  | .nil, env, env', ds, h => by
    have h : R.ok [] env = .ok ds env' := h
    cases h
    rfl
  | .cons e es, env, env', ds, h => by
    have h : ((eval q G e env).bind fun d e1 => (evals q G es e1).bind fun ds e2 => .ok (d :: ds) e2) = .ok ds env' := h
    cases he : eval q G e env with
    | ok d e1 =>
      rw [he, R.bind_ok] at h
      cases h2 : evals q G es e1 with
      | ok ds2 e2 =>
        rw [h2, R.bind_ok] at h
        cases h
        rw [List.length_cons, evals_len h2]
        rfl
      | exc c e2 =>
        rw [h2] at h
        cases h
      | no =>
        rw [h2] at h
        cases h
    | exc c e1 =>
      rw [he] at h
      cases h
    | no =>
      rw [he] at h
      cases h
theorem v_nil : PA X [] (rdV X.K Wx (stills .nil) (evals q G .nil)) := PA.weak pa_nil fun σ H Qk ⟨F, env, S, r, hm⟩ => by
  have hm : Post X.K Wx σ F H S (R.ok [] env) _ := hm
  exact hm F H S No [] r rfl (fun _ z => z.elim) (Stp.refl.trans (Stp.grown (Ex.refl H) fun _ z => z.elim)) (fun _ => Ex.refl H)
theorem v_cons {me : E} {mes : Es} {e : Expr} {es : List Expr} (h : PE X e (rdE X.K Wx (still me) (eval q G me))) (hs : PA X es (rdV X.K Wx (stills mes) (evals q G mes))) (hst : starEach (e :: es) X.env = (false, PySem.eval e X.env) :: starEach es X.env) :
    PA X (e :: es) (rdV X.K Wx (stills (.cons me mes)) (evals q G (.cons me mes))) := by
  refine PA.weak (pa_cons h hs hst) fun σ H Qk ⟨F, env, S, r, hm⟩ => ⟨F, env, S, r, ?_⟩
  rw [evals] at hm
  refine hm.bind.imp fun d env' hd F' H' S' T v r' t' s' st => ⟨F', env', S', r', (hd.bind.at (s'.sub fun a z => Or.inl z)).imp fun ds env2 hd F2 H2 S2 T2 vs r2 a2 t2 s2 st2 => ?_⟩
  have tk := t'.keep s2
  refine hd F2 H2 S2 (Un2 T T2) (v :: vs) r2 ⟨v, vs, T, T2, rfl, fun a z => Or.inl z, fun a z => Or.inr z, fun a h1 h2 => (tk.ok a h1).2.2 (Or.inr h2), tk.rp, a2⟩ (fun a h => h.elim (fun h => ⟨(tk.ok a h).1, (tk.ok a h).2.1, fun z => (tk.ok a h).2.2 (Or.inl z)⟩) (t2 a)) (s'.trans2 s2) fun z => ?_
  have z : (still me && stills mes) = true := z
  rw [Bool.and_eq_true] at z
  exact (st z.1).trans (st2 z.2)
theorem f_nil : PA X [] (rdF X.K Wx (stills .nil) (evalFs q G .nil)) := PA.weak pa_nil fun σ H Qk ⟨F, env, S, r, hm⟩ => by
  have hm : Post X.K Wx σ F H S (R.ok [] env) _ := hm
  exact hm F H S [] r rfl Stp.refl (fun _ => Ex.refl H)
theorem FrL.mono {K : PySem.W.Frag} {F F' H H' : Hp} (eF : Ex F F') (tu : Tu H H') : ∀ {ds : List D} {vs : List V}, FrL K F H ds vs → FrL K F' H' ds vs
  | [], _, h => h
  | d :: ds, vs, ⟨v, r, e, h1, h2⟩ => ⟨v, r, e, Rp.mono eF tu _ _ _ _ (fun _ z => z) (fun _ _ z => z.elim) h1, FrL.mono eF tu h2⟩
theorem f_cons {me : E} {mes : Es} {e : Expr} {es : List Expr} (h : PE X e (rdE X.K Wx (still me) (eval q G me))) (hs : PA X es (rdF X.K Wx (stills mes) (evalFs q G mes))) (hst : starEach (e :: es) X.env = (false, PySem.eval e X.env) :: starEach es X.env) :
    PA X (e :: es) (rdF X.K Wx (stills (.cons me mes)) (evalFs q G (.cons me mes))) := by
  refine PA.weak (pa_cons h hs hst) fun σ H Qk ⟨F, env, S, r, hm⟩ => ⟨F, env, S, r, ?_⟩
  rw [evalFs] at hm
  refine hm.bind.imp fun d env' hd F' H' S' T v r' t' s' st => ?_
  obtain ⟨hk, hd⟩ := hd.iff
  obtain ⟨r1, t1, s1⟩ := Tmp.frz r' t' hk
  have s0 := s'.trans s1
  refine ⟨_, env', S', r1, (hd.bind.at s0).imp fun ds env2 hd F2 H2 S2 vs r2 a2 s2 st2 => ?_⟩
  refine hd F2 H2 S2 (v :: vs) r2 ⟨v, vs, rfl, Rp.mono s2.fx s2.tu _ _ _ _ (fun _ z => z) (fun _ _ z => z.elim) t1.rp, a2⟩ (s0.trans s2) fun z => ?_
  have z : (still me && stills mes) = true := z
  rw [Bool.and_eq_true] at z
  exact (st z.1).trans (st2 z.2)
theorem a_nil : PA X [] (rdA X.K Wx (evalArgs q G .nil)) := PA.weak pa_nil fun σ H Qk ⟨F, env, S, r, hm⟩ => by
  have hm : Post X.K Wx σ F H S (R.ok [] env) _ := hm
  exact hm F H S No [] r rfl (fun _ z => z.elim) (Stp.refl.trans (Stp.grown (Ex.refl H) fun _ z => z.elim))
theorem ol_nil : PA X [] (rdOL X.K Wx (evalOps q G .nil)) := PA.weak pa_nil fun σ H Qk ⟨F, env, S, r, hm⟩ => by
  have hm : Post X.K Wx σ F H S (R.ok [] env) _ := hm
  exact hm F H S [] r rfl Stp.refl
theorem ol_one {me : E} {e : Expr} (h : PE X e (rdO X.K Wx (still me) (opd me (eval q G me)))) (hst : starEach [e] X.env = (false, PySem.eval e X.env) :: starEach [] X.env) : PA X [e] (rdOL X.K Wx (evalOps q G (.cons me .nil))) := by
  refine PA.weak (pa_cons h pa_nil hst) fun σ H Qk ⟨F, env, S, r, hm⟩ => ⟨F, env, S, r, ?_⟩
  have hm : Post X.K Wx σ F H S ((opd me (eval q G me) env).bind fun d e1 => .ok [d] e1) _ := hm
  exact hm.bind.imp fun o env' hd F' H' S' v r' ov s' st => hd F' H' S' [v] r' ⟨v, [], rfl, ov, rfl⟩ s'
theorem ol_two {me me2 : E} {e e2 : Expr} (hp : isPth me = false) (h : PE X e (rdO X.K Wx (still me) (opd me (eval q G me)))) (h2 : PE X e2 (rdO X.K Wx (still me2) (opd me2 (eval q G me2)))) (hst : starEach [e, e2] X.env = (false, PySem.eval e X.env) :: starEach [e2] X.env)
    (hst2 : starEach [e2] X.env = (false, PySem.eval e2 X.env) :: starEach [] X.env) : PA X [e, e2] (rdOL X.K Wx (evalOps q G (.cons me (.cons me2 .nil)))) := by
  refine PA.weak (pa_cons h (pa_cons h2 pa_nil hst2) hst) fun σ H Qk ⟨F, env, S, r, hm⟩ => ⟨F, env, S, r, ?_⟩
  have hm : Post X.K Wx σ F H S ((opd me (eval q G me) env).bind fun d e1 => ((opd me2 (eval q G me2) e1).bind fun d2 e2 => .ok [d2] e2).bind fun ds e3 => .ok (d :: ds) e3) _ := hm
  refine hm.bind.eq.imp fun o env' ⟨he, hd⟩ F' H' S' v r' ov s' st => ⟨F', env', S', r', (hd.bind.bind.at s').imp fun o2 env2 hd F2 H2 S2 v2 r2 ov2 s2 st2 => ?_⟩
  have hr := (ord_ok (b := me2) (by unfold ord; rw [hp]; rfl) he)
  have ov' : OpV X.K F2 H2 σ o v := ov.keep s2 (hr.imp id st2)
  exact hd F2 H2 S2 [v, v2] r2 ⟨v, [v2], rfl, ov', v2, [], rfl, ov2, rfl⟩ (s'.trans s2)

/-! ### displays -/
theorem c_tup {es : Es} {xs : List Expr} {k : Nat} {pos : Pos} (h : PA X xs (rdV X.K Wx (stills es) (evals q G es))) (hl : esLen es ≤ 1000) :
    PE X (.Tuple xs k pos) (rdE X.K Wx (still (.tup es)) fun env => (evals q G es env).bind fun ds e1 => .ok (.tup ds) e1) := by
  refine PE.weak (pe_tup h) fun σ H Qk ⟨F, env, S, r, hm⟩ => ⟨F, env, S, r, hm.bind.eq.imp fun ds env' ⟨he, hd⟩ F' H' S' T vs r' rp tk s' st => ⟨?_, fun p hp => ?_⟩⟩
  · rw [← rp.len, evals_len he]
    exact Nat.le_trans hl (by decide)
  · have e := Ex.new (o := .tup vs) hp
    have rp2 := RpL.mono (Ex.refl F') e.tu _ _ _ T (fun _ z => z) (fun a o _ z => e a o z) rp
    refine hd F' _ S' T (.ref p) (r'.grow e) ⟨⟨p, vs, rfl, SqT.of upd_same, rp2⟩, fun a z => ⟨(tk a z).1, fun z2 => ?_, (tk a z).2.2⟩⟩ (s'.trans (Stp.grow e)) fun z => (st z).trans e
    cases w : H' a with
    | none => exact (tk a z).2.1 w
    | some o =>
      rw [e a o w] at z2
      cases z2
theorem c_lst {es : Es} {xs : List Expr} {pos : Pos} (h : PA X xs (rdV X.K Wx (stills es) (evals q G es))) (hl : esLen es ≤ 1000) :
    PE X (.List xs pos) (rdE X.K Wx (still (.lst es)) fun env => (evals q G es env).bind fun ds e1 => .ok (.lst true ds) e1) := by
  refine PE.weak (pe_lst h) fun σ H Qk ⟨F, env, S, r, hm⟩ => ⟨F, env, S, r, hm.bind.eq.imp fun ds env' ⟨he, hd⟩ F' H' S' T vs r' rp tk s' st => ⟨?_, fun p hp => ?_⟩⟩
  · rw [← rp.len, evals_len he]
    exact Nat.le_trans hl (by decide)
  · have e := Ex.new (o := .lst vs) hp
    have rp2 := RpL.mono (Ex.refl F') e.tu _ _ _ T (fun _ z => z) (fun a o _ z => e a o z) rp
    have np : ∀ a, T a → a ≠ p := fun a z z2 => (tk a z).2.1 (by rw [z2]; exact hp)
    have nF : F' p = none := by
      cases w : F' p with
      | none => rfl
      | some o =>
        have := r'.ex p o w
        rw [hp] at this
        cases this
    have s2 := (s'.trans (Stp.grown (T := fun a => a = p) e fun a z => by rw [z]; exact hp)).sub (S2 := Un2 S' (Un2 T fun a => a = p)) fun a z => z.elim (fun z => Or.inl (Or.inl z)) fun z => z.elim (fun z => Or.inl (Or.inr z)) Or.inr
    refine hd F' _ S' (Un2 T fun a => a = p) (.ref p) (r'.grow e) ⟨⟨p, vs, rfl, ?_, ?_⟩, fun a z => ?_⟩ s2 fun z => (st z).trans e
    · rw [if_pos rfl]
      exact ⟨Or.inr rfl, upd_same⟩
    · exact RpL.mono (Ex.refl F') (Tu.refl _) _ _ _ _ (fun a z => ⟨Or.inl z, fun _ => np a z⟩) (fun _ _ _ z => z) rp2
    · rcases z with z | z
      · refine ⟨(tk a z).1, fun z2 => ?_, (tk a z).2.2⟩
        rw [upd_ne (np a z)] at z2
        exact (tk a z).2.1 z2
      · subst z
        exact ⟨nF, (by rw [upd_same]; intro z; cases z), fun z => r'.al _ z hp⟩
/-! ### subscripts, slices -/
theorem mE_star {me : E} {e : Expr} (h : mE T N sc fn me e = true) (es : List Expr) : starEach (e :: es) X.env = (false, PySem.eval e X.env) :: starEach es X.env := by
  cases e with
  | Starred v p => cases me <;> cases h
  | _ => rfl
theorem mE_plain {me : E} {e : Expr} (h : mE T N sc fn me e = true) : PlainIx e := by
  cases e with
  | Slice a b c p => cases me <;> cases h
  | _ => exact fun _ _ => rfl
theorem mE_behind {me : E} {e : Expr} (h : mE T N sc fn me e = true) (op : CmpOp) : behindInMarks op e = false := by
  cases e with
  | Set a b c => cases me <;> cases h
  | _ => rfl
theorem mEs_plain : ∀ {es : Es} {xs : List Expr}, mEs T N sc fn es xs = true → ∀ pos, (backTo pos (starEach xs X.env)).any (·.1) = false
  | .nil, xs, h, pos => by
    cases xs with
    | nil => rfl
    | cons x r => cases h
  | .cons e es, xs, h, pos => by
    cases xs with
    | nil => cases h
    | cons x r =>
      have h : (mE T N sc fn e x && mEs T N sc fn es r) = true := h
      rw [Bool.and_eq_true] at h
      rw [mE_star h.1]
      have ih := mEs_plain h.2 pos
      unfold backTo at ih ⊢
      rw [List.map_cons, List.any_cons, ih]
      rfl
theorem mEs_all : ∀ {es : Es} {xs : List Expr}, mEs T N sc fn es xs = true → ∀ pos, (backTo pos (starEach xs X.env)).all (fun x => !x.1) = true
  | .nil, xs, h, pos => by
    cases xs with
    | nil => rfl
    | cons x r => cases h
  | .cons e es, xs, h, pos => by
    cases xs with
    | nil => cases h
    | cons x r =>
      have h : (mE T N sc fn e x && mEs T N sc fn es r) = true := h
      rw [Bool.and_eq_true] at h
      rw [mE_star h.1]
      have ih := mEs_all h.2 pos
      unfold backTo at ih ⊢
      rw [List.map_cons, List.all_cons, ih]
      rfl
theorem mEs_len : ∀ {es : Es} {xs : List Expr}, mEs T N sc fn es xs = true → esLen es = xs.length
  | .nil, xs, h => by
    cases xs with
    | nil => rfl
    | cons x r => cases h
  | .cons e es, xs, h => by
    cases xs with
    | nil => cases h
    | cons x r =>
      have h : (mE T N sc fn e x && mEs T N sc fn es r) = true := h
      rw [Bool.and_eq_true] at h
      rw [List.length_cons, ← mEs_len h.2]
      rfl
/-- an optional part of a slice, by its term -/
def rdPt (K : PySem.W.Frag) (Wx : L2.St → Nat → Hp → Prop) (me : E) (r : Env → R D) : TO := fun σ H Qk => ∃ F env S, Rel K F H env σ S ∧
  Post K Wx σ F H S (r env) fun d env' => ∃ o, sPart me d = some o ∧ ∀ F' H' S', Rel K F' H' env' σ S' → Stp F H S F' H' S' → Qk o H'
theorem PO.weak {e : Option Expr} {t t' : TO} (h : PO X e t) (k : ∀ σ H Qk, t' σ H Qk → t σ H Qk) : PO X e t' := ⟨fun pins s σ H Qk I z => h.run pins s σ H Qk I (k σ H Qk z)⟩
theorem sPart_int {me : E} {d : D} {o : Option Int} (hn : me ≠ .non) (h : sPart me d = some o) : ∃ i, d = .int i ∧ o = some i := by
  cases me with
  | non => exact absurd rfl hn
  | _ =>
    cases d with
    | int i =>
      cases h
      exact ⟨i, rfl, rfl⟩
    | _ => cases h
theorem po_one {me : E} {e : Expr} (hn : me ≠ .non) (h : PE X e (rdE X.K Wx (still me) (eval q G me))) : PO X (some e) (rdPt X.K Wx me (eval q G me)) := by
  refine PO.weak (po_some h) fun σ H Qk ⟨F, env, S, r, hm⟩ => ⟨F, env, S, r, hm.imp fun d env' ⟨o, ho, k⟩ F' H' S' T v r' t' s' st => ?_⟩
  obtain ⟨i, rfl, rfl⟩ := sPart_int hn ho
  have e : v = .int i := t'.rp
  exact ⟨i, e, k F' H' S' r' (s'.sub fun a z => Or.inl z)⟩
theorem po_zero : PO X none (rdPt X.K Wx .non (eval q G .non)) := by
  refine PO.weak po_none fun σ H Qk ⟨F, env, S, r, hm⟩ => ?_
  have hm : Post X.K Wx σ F H S (R.ok D.non env) _ := hm
  obtain ⟨o, ho, k⟩ := hm
  cases ho
  exact k F H S r Stp.refl
theorem c_slc {a lo hi : E} {x : Expr} {l h : Option Expr} {p2 pos : Pos} (hp : isPth a = false) (ha : PE X x (rdO X.K Wx (still a) (opd a (eval q G a)))) (hl : PO X l (rdPt X.K Wx lo (eval q G lo))) (hh : PO X h (rdPt X.K Wx hi (eval q G hi))) :
    PE X (.Subscript x (.Slice l h none p2) pos) (rdE X.K Wx false (eval q G (.slc a lo hi))) := by
  refine PE.weak (pe_slice (r := fun x lo hi H Qk => ∃ d, ∃ F d1 d' S1, Ex F H ∧ Rp X.K F H d1 x S1 ∧ dCut d1 lo hi = some d' ∧ d = d' ∧ Res X.K F H d' Qk) ?_ ha hl hh) fun σ H Qk ⟨F, env, S, r, hm⟩ => ?_
  · intro pins s σ H x v vl vu lo hi sl Qk I rx hs pl pu ⟨d, F, d1, d', S1, eF, h1, hf, e, res⟩
    exact op_slc pins s σ H x v vl vu lo hi sl Qk I rx hs pl pu ⟨F, d1, d', S1, eF, h1, hf, res⟩
  · have hm : Post X.K Wx σ F H S ((opd a (eval q G a) env).bind fun x e1 => (eval q G lo e1).bind fun y e2 => if (sPart lo y).isSome then (eval q G hi e2).bind fun z e3 => (if (sPart hi z).isSome then on1 (fun p => dSlc p (sPart lo y) (sPart hi z)) x e3 else .no) else .no) _ := hm
    refine ⟨F, env, S, r, hm.bind.eq.imp fun o1 env1 ⟨he, hd⟩ F1 H1 S1 v1 r1 ov1 s1 st1 => ?_⟩
    have hr : opRef o1 = true := by
      rcases ord_ok (b := .call 0 .nil) (by unfold ord; rw [hp]; rfl) he with z | z
      · exact z
      · cases z
    refine ⟨F1, env1, S1, r1, (hd.bind.at s1).imp fun y env2 hd => ?_⟩
    obtain ⟨hy, hd⟩ := hd.iff
    obtain ⟨oy, ey⟩ := Option.isSome_iff_exists.mp hy
    refine ⟨oy, ey, fun F2 H2 S2 r2 s2 => ⟨F2, env2, S2, r2, (hd.bind.at (s1.trans s2)).imp fun z env3 hd => ?_⟩⟩
    obtain ⟨hz, hd⟩ := hd.iff
    obtain ⟨oz, ez⟩ := Option.isSome_iff_exists.mp hz
    refine ⟨oz, ez, fun F3 H3 S3 r3 s3 => ?_⟩
    have ov3 := (ov1.keep s2 (Or.inl hr)).keep s3 (Or.inl hr)
    unfold on1 at hd
    cases g1 : o1.get env3 with
    | none =>
      rw [g1] at hd
      exact hd.elim
    | some d1 =>
      rw [g1, ey, ez] at hd
      obtain ⟨d, hf, hd⟩ := Post.lift hd
      obtain ⟨Sa, _, p1⟩ := ov3.view r3 g1
      exact ⟨d, F3, d1, d, Sa, r3.ex, p1, hf, rfl, fin_res r3 ((s1.trans s2).trans s3) (fun z => by cases z) hd⟩
/-! ### calls -/
theorem c_call {f : Nat} {es : Es} {xs : List Expr} {x : Str} {p pos : Pos} (g : Good T ca Wx q G N X sc fn) (hx : T.fns[f]? = some x) (hg : glb sc x = true) (hes : mEs T N sc fn es xs = true) (h : PA X xs (rdA X.K Wx (evalArgs q G es))) :
    PE X (.Call (.Name x p) xs [] pos) (rdE X.K Wx false (eval q G (.call f es))) := by
  obtain ⟨fa, fd, ps, k, h1, h2, h3, h4, h5⟩ := (g.fns f x hx).ex
  have h6 : ∀ σ, PassesAt (L2.CX X.prog X.w) X σ (eW X.K ca (Wx σ)) := fun σ => passAt g.tk σ
  obtain ⟨hgl, hdb⟩ := glb_ok g.sc hg
  have key : ∀ {σ : L2.St} {H : Hp} {Qk : VK}, rdE X.K Wx false (eval q G (.call f es)) σ H Qk → rdA X.K Wx (evalArgs q G es) σ H fun vs H1 => spF X.K ca (q f) vs H1 Qk (eW X.K ca (Wx σ)) := by
    intro σ H Qk ⟨F, env, S, r, hm⟩
    have hm : Post X.K Wx σ F H S ((evalArgs q G es env).bind fun os e1 => if apart os e1 then (match gets e1 os with | some ds => (match q f ds with | .ok d outs => .ok d (putBack os outs e1) | .exc c outs => .exc c (putBack os outs e1) | .no => .no) | none => .no) else .no) _ := hm
    refine ⟨F, env, S, r, hm.bind.imp fun os env1 hd F1 H1 S1 T1 vs r1 av tk s1 => ?_⟩
    obtain ⟨hap, hd⟩ := hd.iff
    cases hg : gets env1 os with
    | none =>
      rw [hg] at hd
      exact hd.elim
    | some ds =>
      rw [hg] at hd
      have hd : Post X.K Wx σ F H S (match q f ds with | .ok d outs => R.ok d (putBack os outs env1) | .exc c outs => .exc c (putBack os outs env1) | .no => .no) _ := hd
      obtain ⟨Sa, Sb, a1, a2, a3, a4, a5⟩ := take_args os vs env1 ds S1 T1 r1.en av (fun a z1 z2 => (tk a z1).2.2 z2) hap hg
      refine ⟨F1, ds, Un2 Sa T1, ⟨r1.ex, fun a z => z.elim (fun z => r1.nf a (a1 a z)) (fun z => (tk a z).1), fun a z => z.elim (fun z => r1.al a (a1 a z)) (fun z => (tk a z).2.1), a4⟩, ?_⟩
      -- the rest of the slots stands while the def runs
      have rest : ∀ {F2 H2 : Hp} {S2 : AS}, Stp F1 H1 (Un2 Sa T1) F2 H2 S2 → (∀ a o, Sb a → H1 a = some o → H2 a = some o) ∧ Dj S2 Sb := fun {F2 H2 S2} s2 => by
        have ns : ∀ a, Sb a → ¬ Un2 Sa T1 a := fun a z1 z2 => z2.elim (fun z2 => a3 a z2 z1) (fun z2 => (tk a z2).2.2 (a2 a z1))
        refine ⟨fun a o z e => s2.kp a o (ns a z) e, fun a z1 z2 => ?_⟩
        rcases s2.fr a z1 with z | z
        · exact ns a z2 z
        · exact r1.al a (a2 a z2) z
      have back : ∀ {F2 H2 : Hp} {S2 : AS} {outs : Env}, Rel X.K F2 H2 outs (vs.map some) S2 → Stp F1 H1 (Un2 Sa T1) F2 H2 S2 → Rel X.K F2 H2 (putBack os outs env1) σ (Un2 S2 Sb) := fun {F2 H2 S2 outs} r2 s2 => by
        obtain ⟨k1, k2⟩ := rest s2
        refine ⟨r2.ex, fun a z => z.elim (r2.nf a) fun z => ?_, fun a z => z.elim (r2.al a) fun z => ?_, a5 F2 H2 outs S2 _ s2.fx s2.tu k1 r2.en k2 (fun a z => Or.inl z) (fun a z => Or.inr z)⟩
        · cases w : F2 a with
          | none => rfl
          | some o =>
            rcases s2.ff a (by rw [w]; intro y; cases y) with y | y | y
            · exact absurd (r1.nf a (a2 a z)) y
            · exact (y.elim (fun y => a3 a y z) (fun y => (tk a y).2.2 (a2 a z))).elim
            · exact absurd y (r1.al a (a2 a z))
        · intro w
          cases y : H1 a with
          | none => exact r1.al a (a2 a z) y
          | some o =>
            rw [k1 a o z y] at w
            cases w
      have wide : ∀ {F2 H2 : Hp} {S2 : AS}, Stp F1 H1 (Un2 Sa T1) F2 H2 S2 → Stp F1 H1 (Un2 S1 T1) F2 H2 (Un2 S2 Sb) := fun {F2 H2 S2} s2 =>
        ⟨fun a o n e => s2.kp a o (fun z => n (z.elim (fun z => Or.inl (a1 a z)) Or.inr)) e, s2.fx, fun a z => z.elim (fun z => (s2.fr a z).elim (fun z => Or.inl (z.elim (fun z => Or.inl (a1 a z)) Or.inr)) Or.inr) (fun z => Or.inl (Or.inl (a2 a z))), fun a z => (s2.ff a z).elim Or.inl fun z => Or.inr (z.elim (fun z => Or.inl (z.elim (fun z => Or.inl (a1 a z)) Or.inr)) Or.inr), s2.tu⟩
      cases hq : q f ds with
      | no =>
        rw [hq] at hd
        exact hd.elim
      | exc c outs =>
        rw [hq] at hd
        exact fun kn c8 F2 H2 S2 r2 s2 => ⟨c, rfl, rfl, kn, c8, hd F2 H2 _ (back r2 s2) (s1.trans (wide s2))⟩
      | ok d outs =>
        rw [hq] at hd
        intro F2 H2 S2 T2 v r2 t2 s2
        have s2' : Stp F1 H1 (Un2 Sa T1) F2 H2 S2 := s2.sub fun a z => Or.inl z
        have dT : ∀ a, T2 a → ¬ Sb a := fun a z1 z2 => (rest s2).2 a (Or.inr z1) z2
        refine hd F2 H2 (Un2 S2 Sb) T2 v (back r2 s2') ⟨t2.rp, fun a z => ⟨(t2.ok a z).1, (t2.ok a z).2.1, fun y => y.elim (t2.ok a z).2.2 (dT a z)⟩⟩ ((s1.trans (wide s2)).sub fun a z => z.elim (fun z => z.elim (fun z => Or.inl (Or.inl z)) Or.inr) (fun z => Or.inl (Or.inr z))) (fun z => by cases z)
  cases es with
  | nil =>
    cases xs with
    | cons x r => cases hes
    | nil =>
      refine PE.weak (peG0 (E := fun σ => eW X.K ca (Wx σ)) h2 h3 g.gd hgl h1 h4 h5 h6 hdb) fun σ H Qk z => ?_
      obtain ⟨F, env, S, r, hm⟩ := key z
      have hm : Post X.K Wx σ F H S (R.ok [] env) _ := hm
      exact hm F H S No [] r rfl (fun _ z => z.elim) (Stp.refl.trans (Stp.grown (Ex.refl H) fun _ z => z.elim))
  | cons e es =>
    cases xs with
    | nil => cases hes
    | cons x r =>
      have hes : (mE T N sc fn e x && mEs T N sc fn es r) = true := hes
      rw [Bool.and_eq_true] at hes
      exact PE.weak (peG (E := fun σ => eW X.K ca (Wx σ)) h2 h3 g.gd hgl h1 h4 h5 h6 hdb h (mE_star hes.1 r) (mEs_plain hes.2 pos)) fun σ H Qk z => key z
end
end AW

/-! AWSound4: names, constants, subscripts, operators, dict displays, built-in functions, methods. -/
namespace AW
open PySem L2 PyProof.Rows
section
variable {T : Tb} {ca : Nat → Addr} {Wx : L2.St → Nat → Hp → Prop} {q : Nat → List D → R D} {G : Nat → D} {N : List Str} {X : Cx} {sc : Scope} {fn : Str → Bool}
/-! ### names, constants -/
theorem tmp_no {K : PySem.W.Frag} {F H : Hp} {S : AS} {d : D} {v : V} (h : Rp K F H d v No) : Tmp K F H S d v No := ⟨h, fun _ z => z.elim⟩
theorem stp_wd {F H F' H' : Hp} {S S' : AS} (s : Stp F H S F' H' S') : Stp F H S F' H' (Un2 S' No) := s.sub fun a z => z.elim id fun z => z.elim
theorem c_var {i : Nat} {e : Expr} (h : PE X e (tVar i)) : PE X e (rdE X.K Wx true (eval q G (.var i))) := by
  refine PE.weak h fun σ H Qk ⟨F, env, S, r, hm⟩ => ?_
  have hm : Post X.K Wx σ F H S (match gt env i with | some d => if noOwn d then R.ok d env else if okF d then .ok (frz d) (env.set i (some (frz d))) else .no | none => .no) _ := hm
  cases hd : gt env i with
  | none =>
    rw [hd] at hm
    exact hm.elim
  | some d =>
    rw [hd] at hm
    have hm : Post X.K Wx σ F H S (if noOwn d = true then R.ok d env else if okF d = true then .ok (frz d) (env.set i (some (frz d))) else .no) _ := hm
    rcases hm.ite with ⟨n, hm⟩ | ⟨n, hm⟩
    · obtain ⟨v, S1, g1, g2, g3⟩ := r.at hd
      exact ⟨v, g1, hm F H S No v r (tmp_no (Rp.free _ _ _ n g3)) (stp_wd Stp.refl) fun _ => Ex.refl H⟩
    · obtain ⟨k, hm⟩ := hm.iff
      obtain ⟨F', S', v, g1, r', rp, s'⟩ := r.frzAt hd k
      exact ⟨v, g1, hm F' H S' No v r' (tmp_no rp) (stp_wd s') fun _ => Ex.refl H⟩
theorem c_mv {i : Nat} {e : Expr} (h : PE X e (tVar i)) : PE X e (rdE X.K Wx true (eval q G (.mv i))) := by
  refine PE.weak h fun σ H Qk ⟨F, env, S, r, hm⟩ => ?_
  have hm : Post X.K Wx σ F H S (match gt env i with | some d => R.ok d (env.set i none) | none => .no) _ := hm
  cases hd : gt env i with
  | none =>
    rw [hd] at hm
    exact hm.elim
  | some d =>
    rw [hd] at hm
    obtain ⟨v, S1, S2, g1, g2, r', t', g3⟩ := r.take hd
    exact ⟨v, g1, hm F H S2 S1 v r' t' (Stp.refl.sub fun a z => z.elim (g3 a) (g2 a)) fun _ => Ex.refl H⟩
theorem o_var {i : Nat} {e : Expr} (h : PE X e (tVar i)) : PE X e (rdO X.K Wx true (opd (.var i) (eval q G (.var i)))) := by
  refine PE.weak h fun σ H Qk ⟨F, env, S, r, hm⟩ => ?_
  have hm : Post X.K Wx σ F H S (if (gt env i).isSome = true then R.ok (Op.ref i) env else .no) _ := hm
  obtain ⟨hi, hm⟩ := hm.iff
  obtain ⟨d, hd⟩ := Option.isSome_iff_exists.mp hi
  obtain ⟨v, S1, g1, g2, g3⟩ := r.at hd
  exact ⟨v, g1, hm F H S v r g1 Stp.refl fun _ => Ex.refl H⟩
/-- a place of a list that a name holds -/
theorem pth_at {K : PySem.W.Frag} {F H : Hp} {S : AS} {env : Env} {σ : L2.St} {i k : Nat} {d : D} (r : Rel K F H env σ S) (h : part (gt env i) k = some d) :
    ∃ p vs v S1, σ[i]? = some (some (.ref p)) ∧ H p = some (.lst vs) ∧ vs[k]? = some v ∧ Rp K F H d v S1 := by
  unfold part at h
  split at h
  · rename_i ds e
    obtain ⟨w, S1, g1, g2, g3⟩ := r.at e
    obtain ⟨p, vs, e2, ht, hl⟩ := g3
    subst e2
    rw [if_pos rfl] at ht
    obtain ⟨u, S3, u1, u2, u3⟩ := hl.get h
    exact ⟨p, vs, u, S3, g1, ht.2, u1, u3⟩
  · cases h
theorem pe_pth {i k : Nat} {x : Str} {p1 p2 p3 : Pos} (h : PE X (.Name x p1) (tVar i)) {cc : Nat} :
    PE X (.Subscript (.Name x p1) (.Constant (.int (k : Int)) cc p2) p3) (tOp (rIxL X.K) (tVar i) (tC (.int (k : Int)))) :=
  pe_ix ix_list h pe_int (fun _ _ => rfl)
theorem ix_nat {α : Type} {xs : List α} {k : Nat} {v : α} (h : xs[k]? = some v) : L2.atI xs (k : Int) = some v := by
  have hl : k < xs.length := (List.getElem?_eq_some_iff.mp h).1
  have e : L2.ixN xs.length (k : Int) = some k := by
    unfold L2.ixN
    rw [if_pos (by omega), if_pos (by omega), Int.toNat_natCast]
  unfold L2.atI
  rw [e]
  exact h
theorem c_pth {i k : Nat} {e : Expr} (h : PE X e (tOp (rIxL X.K) (tVar i) (tC (.int (k : Int))))) : PE X e (rdE X.K Wx true (eval q G (.pth i k))) := by
  refine PE.weak h fun σ H Qk ⟨F, env, S, r, hm⟩ => ?_
  have hm : Post X.K Wx σ F H S (match part (gt env i) k with | some d => if noOwn d then R.ok d env else .no | none => .no) _ := hm
  cases hd : part (gt env i) k with
  | none =>
    rw [hd] at hm
    exact hm.elim
  | some d =>
    rw [hd] at hm
    obtain ⟨n, hm⟩ := hm.iff
    obtain ⟨p, vs, v, S1, g1, g2, g3, g4⟩ := pth_at r hd
    exact ⟨.ref p, g1, p, vs, _, v, rfl, rfl, SqL.of g2, ix_nat g3, hm F H S No v r (tmp_no (Rp.free _ _ _ n g4)) (stp_wd Stp.refl) fun _ => Ex.refl H⟩
theorem o_pth {i k : Nat} {e : Expr} (h : PE X e (tOp (rIxL X.K) (tVar i) (tC (.int (k : Int))))) : PE X e (rdO X.K Wx true (opd (.pth i k) (eval q G (.pth i k)))) := by
  refine PE.weak h fun σ H Qk ⟨F, env, S, r, hm⟩ => ?_
  have hm : Post X.K Wx σ F H S (if (part (gt env i) k).isSome = true then R.ok (Op.refp i k) env else .no) _ := hm
  obtain ⟨hi, hm⟩ := hm.iff
  obtain ⟨d, hd⟩ := Option.isSome_iff_exists.mp hi
  obtain ⟨p, vs, v, S1, g1, g2, g3, g4⟩ := pth_at r hd
  exact ⟨.ref p, g1, p, vs, _, v, rfl, rfl, SqL.of g2, ix_nat g3, hm F H S v r ⟨p, vs, g1, g2, g3⟩ Stp.refl fun _ => Ex.refl H⟩
theorem c_val {d : D} {v : V} {e : Expr} (h : PE X e (tC v)) (hr : ∀ F H, Rp X.K F H d v No) : PE X e (rdE X.K Wx true fun env => .ok d env) := by
  refine PE.weak h fun σ H Qk ⟨F, env, S, r, hm⟩ => ?_
  have hm : Post X.K Wx σ F H S (R.ok d env) _ := hm
  exact hm F H S No v r (tmp_no (hr F H)) (stp_wd Stp.refl) fun _ => Ex.refl H
theorem c_cst {d : D} {c : Const} {k : Nat} {p : Pos} (h : mC d c = true) : PE X (.Constant c k p) (rdE X.K Wx true (eval q G (.cst d))) := by
  show PE X _ (rdE X.K Wx true fun env => .ok d env)
  cases d <;> cases c <;> first | (cases h; done) | skip
  · exact c_val pe_non fun _ _ => rfl
  · have e := eq_of_beq (show (_ == _) = true from h)
    subst e
    exact c_val pe_bl fun _ _ => rfl
  · have e := eq_of_beq (show (_ == _) = true from h)
    subst e
    exact c_val pe_int fun _ _ => rfl
  · have e := eq_of_beq (show (_ == _) = true from h)
    subst e
    exact c_val pe_str fun _ _ => rfl
theorem c_glo {g : Nat} {x : Str} {p : Pos} (gd : Good T ca Wx q G N X sc fn) (h : T.gls[g]? = some x) (hg : glb sc x = true) : PE X (.Name x p) (rdE X.K Wx true (eval q G (.glo g))) := by
  obtain ⟨u, v, h1, h2, h3, h4⟩ := gd.gls g x h
  obtain ⟨k1, k2⟩ := glb_ok gd.sc hg
  rcases h1 with h1 | ⟨_, h1, hv, hn⟩
  · exact c_val (pe_glob k1 h1 h2 k2) h4
  · exact c_val (pe_bltn k1 h1 hv h2 hn k2) h4
/-! ### operators -/
theorem c_bin {o : BO} {a b : E} {x y : Expr} {pos : Pos} (ho : ord a b = true) (ha : PE X x (rdO X.K Wx (still a) (opd a (eval q G a)))) (hb : PE X y (rdO X.K Wx (still b) (opd b (eval q G b)))) :
    PE X (.BinOp x (opB o) y pos) (rdE X.K Wx false (eval q G (.bin o a b))) := c_op2 ho (pe_op (op_bin o) ha hb)
theorem c_cmp {o : CO} {a b : E} {x y : Expr} {pos : Pos} (hu : X.A.units + 65 < cLine) (ho : ord a b = true) (hm : behindInMarks (opC o) y = false) (ha : PE X x (rdO X.K Wx (still a) (opd a (eval q G a)))) (hb : PE X y (rdO X.K Wx (still b) (opd b (eval q G b)))) :
    PE X (.Compare x [opC o] [y] pos) (rdE X.K Wx false (eval q G (.cmp o a b))) := c_op2 ho (pe_cmpR (op_cmp hu o) ha hb hm)
theorem c_idx {a b : E} {x y : Expr} {pos : Pos} (hu : X.A.units + 9 < cLine) (ho : ord a b = true) (hp : PlainIx y) (ha : PE X x (rdO X.K Wx (still a) (opd a (eval q G a)))) (hb : PE X y (rdO X.K Wx (still b) (opd b (eval q G b)))) :
    PE X (.Subscript x y pos) (rdE X.K Wx false (eval q G (.idx a b))) := c_op2 ho (pe_ix (op_idx hu) ha hb hp)
theorem on2_inv {K : PySem.W.Frag} {σ : L2.St} {F H : Hp} {S : AS} {f : D → D → Option D} {x y : Op} {env : Env} {P : D → Env → Prop} (h : Post K Wx σ F H S (on2 f x y env) P) :
    ∃ a b d, x.get env = some a ∧ y.get env = some b ∧ f a b = some d ∧ P d env := by
  unfold on2 at h
  cases g1 : x.get env with
  | none =>
    rw [g1] at h
    exact h.elim
  | some a =>
    cases g2 : y.get env with
    | none =>
      rw [g1, g2] at h
      exact h.elim
    | some b =>
      rw [g1, g2] at h
      obtain ⟨d, hf, hd⟩ := Post.lift h
      exact ⟨a, b, d, rfl, rfl, hf, hd⟩
theorem c_chn {o1 o2 : CO} {a b c : E} {x y z : Expr} {pos : Pos} (hu : X.A.units + 65 < cLine) (h1 : ord a b = true) (h2 : ord b c = true) (hb2 : isPth b = false ∨ still c = true) (hm : lastMarks [opC o1, opC o2] [y, z] = false)
    (ha : PE X x (rdO X.K Wx (still a) (opd a (eval q G a)))) (hb : PE X y (rdO X.K Wx (still b) (opd b (eval q G b)))) (hc : PE X z (rdO X.K Wx (still c) (opd c (eval q G c)))) :
    PE X (.Compare x [opC o1, opC o2] [y, z] pos) (rdE X.K Wx false (eval q G (.chn o1 o2 a b c))) := by
  refine PE.weak (pe_chain (op_cmp hu o1) (op_cmp hu o2) ha hb hc hm) fun σ H Qk ⟨F, env, S, r, hm⟩ => ?_
  have hm : Post X.K Wx σ F H S ((opd a (eval q G a) env).bind fun x e1 => (opd b (eval q G b) e1).bind fun y e2 => (on2 (fun p q => (dCmp o1 p q).map .bl) x y e2).bind fun d e3 =>
    match d with
    | .bl true => (opd c (eval q G c) e3).bind fun z e4 => on2 (fun p q => (dCmp o2 p q).map .bl) y z e4
    | .bl false => .ok (.bl false) e3
    | _ => .no) _ := hm
  refine ⟨F, env, S, r, hm.bind.eq.imp fun p1 env1 ⟨he1, hd⟩ F1 H1 S1 v1 r1 ov1 s1 st1 => ⟨F1, env1, S1, r1, (hd.bind.eq.at s1).imp fun p2 env2 ⟨he2, hd⟩ F2 H2 S2 v2 r2 ov2 s2 st2 => ?_⟩⟩
  have ov1' := ov1.keep s2 ((ord_ok h1 he1).imp id st2)
  obtain ⟨d1, d2, d, g1, g2, hf, hd⟩ := on2_inv hd.bind
  obtain ⟨Sa, _, q1⟩ := ov1'.view r2 g1
  obtain ⟨Sb, _, q2⟩ := ov2.view r2 g2
  obtain ⟨k, hk, rfl⟩ := Option.map_eq_some_iff.mp hf
  refine ⟨F2, d1, d2, .bl k, Sa, Sb, r2.ex, q1, q2, hf, fun v H' T' e rp nw => ?_⟩
  have ev : v = .bl k := rp
  refine ⟨k, ev, ?_⟩
  have r3 := r2.grow e
  have s3 := s2.trans (Stp.grow e)
  cases k with
  | false =>
    rw [if_neg (by decide)]
    exact hd F2 H' S2 No (.bl false) r3 (tmp_no rfl) (stp_wd (s1.trans s3)) fun z => by cases z
  | true =>
    rw [if_pos rfl]
    refine ⟨F2, env2, S2, r3, (Post.at (Post.bind hd) (s1.trans s3)).imp fun p3 env3 hd F3 H3 S3 v3 r3' ov3 s4 st4 => ?_⟩
    have ov2' : OpV X.K F3 H3 σ p2 v2 := (ov2.keep (Stp.grow (S := S2) e) (Or.inr e)).keep s4 ((ord_ok h2 he2).imp id st4)
    obtain ⟨d3, d4, d5, g3, g4, hf2, hd⟩ := on2_inv hd
    obtain ⟨Sc, _, q3⟩ := ov2'.view r3' g3
    obtain ⟨Sd, _, q4⟩ := ov3.view r3' g4
    exact ⟨F3, d3, d4, d5, Sc, Sd, r3'.ex, q3, q4, hf2, fin_res r3' ((s1.trans s3).trans s4) (fun z => by cases z) hd⟩
/-! ### built-in functions -/
theorem opvl_view {K : PySem.W.Frag} {F H : Hp} {S : AS} {env : Env} {σ : L2.St} : ∀ {os : List Op} {vs : List V} {ds : List D}, OpVL K F H σ os vs → Rel K F H env σ S → gets env os = some ds → VwL K F H ds vs
  | [], vs, ds, h, r, hg => by
    cases hg
    exact h
  | o :: os, vs, ds, h, r, hg => by
    obtain ⟨v, w, e, h1, h2⟩ := h
    unfold gets at hg
    cases g1 : o.get env with
    | none =>
      rw [g1] at hg
      cases hg
    | some d =>
      cases g2 : gets env os with
      | none =>
        rw [g1, g2] at hg
        cases hg
      | some es =>
        rw [g1, g2] at hg
        cases hg
        obtain ⟨S1, _, p1⟩ := h1.view r g1
        exact ⟨v, w, S1, e, p1, opvl_view h2 r g2⟩
theorem nmF_ok (b : BF) : nmF b ≠ "__name__" := by cases b <;> decide
theorem pe_callF {b : BF} {r : List V → Hp → VK → Prop} {e : Expr} {es : List Expr} {t : TA} {p pos : Pos} (hc : CallR X (valF b) r) (hg : Gl X (nmF b)) (hdb : (nmF b == ("__debug__" : Str)) = false) (hm : X.mg (nmF b) = none) (ha : PA X (e :: es) t)
    (he : starEach (e :: es) X.env = (false, PySem.eval e X.env) :: starEach es X.env) (hpl : (backTo pos (starEach es X.env)).any (·.1) = false) : PE X (.Call (.Name (nmF b) p) (e :: es) [] pos) (tCB r t) := by
  have hv := boot_F b
  have hn := nmF_ok b
  cases hb : valF b with
  | builtin id =>
    rw [hb] at hc hv
    exact pe_callB hc hg hm hv ha hn hdb he hpl
  | type ty =>
    rw [hb] at hc hv
    exact pe_callTy hc hg hm hv ha hn hdb he hpl
  | _ => cases b <;> cases hb
theorem isi_none {b : BF} (h : isiT b = none) : isIsi b = false := by
  cases b <;> first | rfl | cases h
theorem c_blt {b : BF} {es : Es} {e : Expr} {xs : List Expr} {p pos : Pos} (g : Good T ca Wx q G N X sc fn) (hb : T.bls.contains (nmF b) = true) (hg : glb sc (nmF b) = true) (hi : isiT b = none)
    (he : starEach (e :: xs) X.env = (false, PySem.eval e X.env) :: starEach xs X.env) (hpl : (backTo pos (starEach xs X.env)).any (·.1) = false) (h : PA X (e :: xs) (rdOL X.K Wx (evalOps q G es))) :
    PE X (.Call (.Name (nmF b) p) (e :: xs) [] pos) (rdE X.K Wx false (eval q G (.blt b es))) := by
  obtain ⟨hgl, hdb⟩ := glb_ok g.sc hg
  refine PE.weak (pe_callF (op_blt g.hu g.gd g.calm b (isi_none hi)) hgl hdb (g.bls _ hb) h he hpl) fun σ H Qk ⟨F, env, S, r, hm⟩ => ⟨F, env, S, r, ?_⟩
  have hm : Post X.K Wx σ F H S ((evalOps q G es env).bind fun os e1 => match gets e1 os with | some ds => lift (dBlt b ds) e1 | none => .no) _ := hm
  refine hm.bind.imp fun os env1 hd F1 H1 S1 vs r1 ov s1 => ?_
  cases hg : gets env1 os with
  | none =>
    rw [hg] at hd
    exact hd.elim
  | some ds =>
    rw [hg] at hd
    obtain ⟨d, hf, hd⟩ := Post.lift hd
    exact ⟨F1, ds, d, r1.ex, opvl_view ov r1 hg, hf, fin_res r1 s1 (fun z => by cases z) hd⟩
/-! ### isinstance -/
def ofI : BF → List Kd
  | .isInt => [.int, .bl] | .isBool => [.bl] | .isStr => [.str] | .isTup => [.tup] | .isLst => [.lst] | _ => []
def nmKd : Kd → String
  | .non => "NoneType" | .bl => "bool" | .int => "int" | .str => "str" | .tup => "tuple" | .lst => "list" | .dic => "dict"
def tyI : BF → String
  | .isInt => "int" | .isBool => "bool" | .isStr => "str" | .isTup => "tuple" | .isLst => "list" | _ => ""
theorem kit_all (b : BF) (k : Kd) (hb : isIsi b = true) : kitB (nmKd k) (tyI b) = some ((ofI b).contains k) := by
  cases b <;> first | (cases hb; done) | (cases k <;> decide +kernel)
theorem isi_boot (b : BF) (hb : isIsi b = true) : ∃ z : Str, isiT b = some z ∧ bootBuiltins z = some (.type (tyI b)) ∧ z ≠ "__name__" := by
  cases b <;> first | (cases hb; done) | exact ⟨_, rfl, by decide +kernel, by decide⟩
theorem isi_val (b : BF) (hb : isIsi b = true) : valF b = .builtin "isinstance" := by
  cases b <;> first | (cases hb; done) | rfl
theorem isi_dBlt (b : BF) (hb : isIsi b = true) (d : D) : dBlt b [d] = dIsi (ofI b) d := by
  cases b <;> first | (cases hb; done) | rfl
theorem isi_some {b : BF} {t : Str} (h : isiT b = some t) : isIsi b = true := by
  cases b <;> first | rfl | cases h
theorem kd_tyX {K : PySem.W.Frag} {F H : Hp} {d : D} {v : V} {S : AS} {k : Kd} (eF : Ex F H) (h : Rp K F H d v S) (hk : kd d = some k) : TyX K H v (.type (nmKd k)) := by
  cases d with
  | non =>
    cases hk; cases h
    exact .base .non
  | bl b =>
    cases hk; cases h
    exact .base (.bl b)
  | int i =>
    cases hk; cases h
    exact .base (.int i)
  | str s =>
    cases hk; cases h
    exact .base (.str _)
  | tup ds =>
    cases hk
    obtain ⟨p, vs, rfl, ht, hl⟩ := h
    rcases ht with (ht | ⟨ob, ht⟩) | ⟨ob, its, n, h1, h2, h3⟩
    · exact .base (.tup ht)
    · exact .fTuple ht
    · exact .kTuple h1 h2
  | lst o ds =>
    cases hk
    obtain ⟨p, vs, rfl, ht, hl⟩ := Rp.lstL eF h
    rcases ht with (ht | ⟨ob, ht⟩) | ⟨ob, its, n, h1, h2, h3⟩
    · exact .base (.lst ht)
    · exact .base (.frz ht)
    · exact .kList h1 h2
  | dic o ks ds =>
    cases hk
    obtain ⟨p, kvs, rfl, ht, hks, hl⟩ := Rp.dicL eF h
    exact .base (.dK ht)
  | dtp o ks ds => cases hk
  | ins c fs => cases hk
  | fn f => cases hk
theorem c_isi {b : BF} {a : E} {e : Expr} {z : Str} {p p2 pos : Pos} (g : Good T ca Wx q G N X sc fn) (hb : T.bls.contains (nmF b) = true) (hg : glb sc (nmF b) = true) (hi : isiT b = some z) (hb2 : T.bls.contains z = true) (hg2 : glb sc z = true)
    (he : ∀ es, starEach (e :: es) X.env = (false, PySem.eval e X.env) :: starEach es X.env) (h : PE X e (rdO X.K Wx (still a) (opd a (eval q G a)))) :
    PE X (.Call (.Name (nmF b) p) [e, .Name z p2] [] pos) (rdE X.K Wx false (eval q G (.blt b (.cons a .nil)))) := by
  obtain ⟨hgl, hdb⟩ := glb_ok g.sc hg
  obtain ⟨hgl2, hdb2⟩ := glb_ok g.sc hg2
  have hI := isi_some hi
  obtain ⟨z', hz, hbt, hnz⟩ := isi_boot b hI
  have e0 : z' = z := Option.some.inj (hz.symm.trans hi)
  subst e0
  have hc : CallR X (valF b) (rIsi X.K) := by
    rw [isi_val b hI]
    exact call_isi
  refine PE.weak (pe_callF hc hgl hdb (g.bls _ hb) (pa_cons h (pa_cons (pe_bltn (v := .ty (tyI b)) hgl2 (g.bls _ hb2) hbt rfl hnz hdb2) pa_nil rfl) (he _)) (he _) rfl) fun σ H Qk ⟨F, env, S, r, hm⟩ => ⟨F, env, S, r, ?_⟩
  have hm : Post X.K Wx σ F H S (((opd a (eval q G a) env).bind fun d e1 => R.ok [d] e1).bind fun os e1 => match gets e1 os with | some ds => lift (dBlt b ds) e1 | none => .no) _ := hm
  refine hm.bind.bind.imp fun o env1 hd F1 H1 S1 v r1 ov s1 st => ?_
  have hd : Post X.K Wx σ F H S (match gets env1 [o] with | some ds => lift (dBlt b ds) env1 | none => R.no) _ := hd
  cases hg : o.get env1 with
  | none =>
    have e1 : gets env1 [o] = none := by unfold gets; rw [hg]
    rw [e1] at hd
    exact hd.elim
  | some d1 =>
    have e1 : gets env1 [o] = some [d1] := by unfold gets; rw [hg]; rfl
    rw [e1] at hd
    obtain ⟨d, hf, hd⟩ := Post.lift hd
    rw [isi_dBlt b hI] at hf
    obtain ⟨k, hk, rfl⟩ := Option.map_eq_some_iff.mp hf
    obtain ⟨S2, _, p1⟩ := ov.view r1 hg
    have res := fin_res (st := false) r1 s1 (fun z => by cases z) hd
    exact ⟨v, .ty (tyI b), _, _, (ofI b).contains k, rfl, .ty _, kd_tyX r1.ex p1 hk, kit_ty (kit_all b k hI), res.flat rfl⟩
end
end AW

/-! AWTab2: a display of one pair whose key is a tuple. -/
namespace AW
open PySem L2 PyProof.Rows
/-- {k: v}, k a tuple -/
def tDt1 (X : Cx) (tk tv : TE) : TE := fun σ H Q => ∀ p, H p = none → tk σ (upd H p (.dK [])) fun x H1 => tv σ H1 fun v H2 => H2 p = some (.dK []) ∧
  ∃ F xd k b, isTK xd = true ∧ nkOf xd = some k ∧ x = .ref b ∧ Rp X.K F H2 xd (.ref b) No ∧ ∀ ep u, RelV v u → (p == sysModules) = false → Q (.ref p) (upd H2 p (tab p ep (storedH [] k b u)))
theorem pe_dt1 {X : Cx} {kx vx : Expr} {pos : Pos} {tk tv : TE} (hu : X.A.units + 9 < cLine) (hk : PE X kx tk) (hv : PE X vx tv) : PE X (.Dict [some kx] [vx] pos) (tDt1 X tk tv) := by
  refine ⟨fun pins s σ H Q I q => ?_⟩
  have hn := I.hok.fresh (Nat.le_refl s.heap.objs.size)
  have I1 := I.laid (a := s.heap.objs.size) (o := .dK []) (h' := s.heap.push { cls := .type "dict", data := .dict #[] }) (t' := s.toks) (fun _ _ q => Heap.get?_push_of_some _ q) (Nat.le_refl _) (dk_empty s.heap I.big)
  refine wpAny_Dict_any rfl rfl (by simp) (by show 1 ≤ 15; decide) (pairTrees_cons_walk (thn (hk.run pins _ σ _ _ I1 (q _ hn)) fun kv s1 ⟨x, H1, I2, rx, q1⟩ => thn (hv.run pins s1 σ H1 _ I2 q1) fun vv s2 ⟨v, H2, I3, rv, hp, F, xd, k, b, h1, h2, h3, h4, q2⟩ => pairTrees_nil_walk ?_))
  subst h3
  obtain rfl : kv = Value.ref b := rx
  obtain ⟨k1, b1, e1, e2, e3, his⟩ := tk_is I3 h1 h4 (u := .ref b) rfl
  cases e2
  rw [h2] at e1
  cases e1
  obtain ⟨hs, dd⟩ := emp_rd I3 (Or.inl hp)
  unfold storeAll
  rw [List.forIn_cons]
  refine wpAny_bind (wpAny_bind (wpAny_dictSet_heap (knd := nestedKind X.prog X.w) (show X.A.units + 8 < cLine by omega) his dd (fun h' dd' hb => wpAny_pure ?_) (Nat.zero_le _)))
  obtain ⟨ep, he⟩ := tab_new (xs := [(k, b, vv)]) (fun z hz => by rw [List.mem_singleton.mp hz]; exact hash_num xd k h2) dd'
  exact wpAny_pure ⟨.ref s.heap.objs.size, _, d_write I3 (by rw [hp]; exact True.intro) hb (let ⟨q, _, _, hq, _⟩ := dd'; ⟨q, hq⟩) (he _), rfl, q2 ep vv rv hs⟩
end AW

/-! AWSound5: dict displays, methods. -/
namespace AW
open PySem L2 PyProof.Rows
section
variable {T : Tb} {ca : Nat → Addr} {Wx : L2.St → Nat → Hp → Prop} {q : Nat → List D → R D} {G : Nat → D} {N : List Str} {X : Cx} {sc : Scope} {fn : Str → Bool}
/-! ### dict displays -/
/-- the readings of a display's pairs -/
def trsOf (K : PySem.W.Frag) (Wx : L2.St → Nat → Hp → Prop) (q : Nat → List D → R D) (G : Nat → D) : Es → List (TE × TE)
  | .nil => []
  | .cons k (.cons v es) => (rdE K Wx (still k) (eval q G k), rdE K Wx (still v) (eval q G v)) :: trsOf K Wx q G es
  | .cons _ .nil => []
theorem rdE_mono {K : PySem.W.Frag} {st : Bool} {r : Env → R D} {σ : L2.St} {H : Hp} {Q Q' : VK} (h : rdE K Wx st r σ H Q) (k : ∀ v H', Q v H' → Q' v H') : rdE K Wx st r σ H Q' := by
  obtain ⟨F, env, S, r, hm⟩ := h
  exact ⟨F, env, S, r, hm.imp fun d env' hd F' H' S' T v a b c e => k _ _ (hd F' H' S' T v a b c e)⟩
theorem tp_mono {K : PySem.W.Frag} {σ : L2.St} : ∀ (es : Es) {H : Hp} {P P' : List (V × V) → Hp → Prop}, tPairs (trsOf K Wx q G es) σ H P → (∀ ps H', P ps H' → P' ps H') → tPairs (trsOf K Wx q G es) σ H P'
  | .nil, H, P, P', h, k => k _ _ h
  | .cons _ .nil, H, P, P', h, k => k _ _ h
  | .cons a (.cons b es), H, P, P', h, k => rdE_mono (show rdE K Wx _ _ σ H _ from h) fun v H' h' => rdE_mono (show rdE K Wx _ _ σ H' _ from h') fun v2 H2 h2 => tp_mono es h2 fun ps H3 h3 => k _ _ h3
theorem evalDct_cons {k v : E} {es : Es} {ks vs : List D} {env : Env} : evalDct q G (.cons k (.cons v es)) ks vs env = (eval q G k env).bind fun a e1 => (eval q G v e1).bind fun b e2 =>
    if (keyOf a).isSome && okF b then evalDct q G es (dPut ks vs a (frz b)).1 (dPut ks vs a (frz b)).2 e2 else .no := by
  conv => lhs; unfold evalDct
theorem tp_ok {K : PySem.W.Frag} {p : Addr} {F0 H0 : Hp} {S0 : AS} (hp0 : H0 p = none) {σ : L2.St} {Qk : VK} : ∀ (es : Es) (ks vs : List D) (kvs0 : List (Key × V)) (env : Env) (F H : Hp) (S : AS), Rel K F H env σ S → H p = some (.dK []) → ¬ S p → F p = none →
    Stp F0 H0 S0 F H S → KsOk ks (kvs0.map (·.1)) → RpL K F H vs (kvs0.map (·.2)) No →
    Post K Wx σ F0 H0 S0 (evalDct q G es ks vs env) (fun d env' => ∀ F' H' S' T v, Rel K F' H' env' σ S' → Tmp K F' H' S' d v T → Stp F0 H0 S0 F' H' (Un2 S' T) → (false = true → Ex H0 H') → Qk v H') →
    tPairs (trsOf K Wx q G es) σ H (fun ps H2 => H2 p = some (.dK []) ∧ ∃ kvs : List (Key × V), ps = kvs.map (fun kv => (kV kv.1, kv.2)) ∧ kvs.length = (trsOf K Wx q G es).length ∧ Qk (.ref p) (upd H2 p (.dK (mergeK kvs0 kvs))))
  | .nil, ks, vs, kvs0, env, F, H, S, r, hp, nS, nF, s, hk, hl, hm => by
    refine ⟨hp, [], rfl, rfl, ?_⟩
    have hm : Post K Wx σ F0 H0 S0 (R.ok (D.dic true ks vs) env) _ := hm
    have tu : Tu H (upd H p (.dK kvs0)) := Tu.upd hp (fun _ z => by cases z) (fun _ _ z => by cases z)
    have kp : ∀ a o, a ≠ p → H a = some o → upd H p (.dK kvs0) a = some o := fun a o n e => by rw [upd_ne n]; exact e
    have kS : ∀ a, S a → a ≠ p := fun a z z2 => nS (by rw [← z2]; exact z)
    show Qk (.ref p) (upd H p (.dK kvs0))
    refine hm F (upd H p (.dK kvs0)) S (fun a => a = p) (.ref p) ⟨fun a o e => ?_, r.nf, fun a z => ?_, EnvR.mono (Ex.refl F) tu _ _ _ _ (fun _ z => z) (fun a o z e => kp a o (kS a z) e) r.en⟩ ⟨⟨p, kvs0, rfl, ?_, hk, ?_⟩, fun a z => ?_⟩ ⟨fun a o n e => ?_, s.fx, fun a z => ?_, s.ff, s.tu.trans tu⟩ fun z => by cases z
    · refine kp a o (fun z => ?_) (r.ex a o e)
      rw [z, nF] at e
      cases e
    · rw [upd_ne (kS a z)]
      exact r.al a z
    · rw [if_pos rfl]
      exact ⟨rfl, upd_same⟩
    · exact RpL.mono (Ex.refl F) tu _ _ _ _ (fun _ z => z.elim) (fun _ _ z => z.elim) hl
    · subst z
      exact ⟨nF, (by rw [upd_same]; intro z; cases z), nS⟩
    · refine kp a o (fun z => ?_) (s.kp a o n e)
      rw [z, hp0] at e
      cases e
    · rcases z with z | z
      · exact s.fr a z
      · rw [z]
        exact Or.inr hp0
  | .cons k .nil, ks, vs, kvs0, env, F, H, S, r, hp, nS, nF, s, hk, hl, hm => by
    unfold evalDct at hm
    exact hm.elim
  | .cons k (.cons v es), ks, vs, kvs0, env, F, H, S, r, hp, nS, nF, s, hk, hl, hm => by
    rw [evalDct_cons] at hm
    -- a step that leaves p alone
    have step : ∀ {F1 H1 F2 H2 : Hp} {S1 S2 T2 : AS}, H1 p = some (.dK []) → ¬ S1 p → F1 p = none → Stp F1 H1 S1 F2 H2 (Un2 S2 T2) → H2 p = some (.dK []) ∧ ¬ S2 p ∧ F2 p = none := fun {F1 H1 F2 H2 S1 S2 T2} a b c s2 => by
      refine ⟨s2.kp p _ b a, fun z => ?_, ?_⟩
      · rcases s2.fr p (Or.inl z) with z | z
        · exact b z
        · rw [a] at z
          cases z
      · cases e : F2 p with
        | none => rfl
        | some o =>
          rcases s2.ff p (by rw [e]; intro z; cases z) with z | z | z
          · exact absurd c z
          · exact absurd z b
          · rw [a] at z
            cases z
    refine ⟨F, env, S, r, (hm.bind.at s).imp fun d1 env1 hd F1 H1 S1 T1 v1 r1 t1 s1 _ => ⟨F1, env1, S1, r1, ?_⟩⟩
    have s1' : Stp F H S F1 H1 S1 := s1.sub fun a z => Or.inl z
    refine (hd.bind.at (s.trans s1')).imp fun d2 env2 hd F2 H2 S2 T2 v2 r2 t2 s2 _ => ?_
    obtain ⟨hc, hd⟩ := hd.iff
    rw [Bool.and_eq_true] at hc
    obtain ⟨κ, hκ⟩ := Option.isSome_iff_exists.mp hc.1
    have ev := keyOf_kV hκ t1.rp
    obtain ⟨r3, t3, s3⟩ := Tmp.frz r2 t2 hc.2
    obtain ⟨a1, a2, a3⟩ := step hp nS nF s1
    obtain ⟨b1, b2, b3⟩ := step a1 a2 a3 s2
    have npT : ¬ T2 p := fun z => by
      rcases s2.fr p (Or.inr z) with y | y
      · exact a2 y
      · rw [a1] at y
        cases y
    have c3 : addF F2 H2 T2 p = none := by
      rw [addF_none npT]
      exact b3
    have s' := (s.trans s1').trans (s2.trans s3)
    have sA := s1'.trans (s2.trans s3)
    obtain ⟨p1, p2⟩ := dPut_ok hκ t3.rp hk (RpL.mono sA.fx sA.tu _ _ _ No (fun _ z => z) (fun _ _ z => z.elim) hl)
    have ih := tp_ok hp0 es _ _ (putK kvs0 κ v2) env2 _ H2 S2 r3 b1 b2 c3 s' p1 p2 hd
    exact tp_mono es ih fun ps H3 ⟨h1, kvs, e1, e2, e3⟩ => ⟨h1, (κ, v2) :: kvs, by rw [e1, ev]; rfl, by rw [List.length_cons, e2]; rfl, e3⟩
theorem dct_len {sc : Scope} {fn : Str → Bool} {K : PySem.W.Frag} : ∀ {es : Es} {ks : List (Option Expr)} {vs : List Expr}, mDct T N sc fn es ks vs = true → ks.all (·.isSome) = true ∧ ks.length = vs.length ∧ (trsOf K Wx q G es).length = ks.length
  | .nil, ks, vs, h => by
    cases ks <;> cases vs <;> first | exact ⟨rfl, rfl, rfl⟩ | cases h
  | .cons k .nil, ks, vs, h => by cases h
  | .cons k (.cons v es), ks, vs, h => by
    match ks, vs, h with
    | some x :: ks, y :: vs, h =>
      have h : (mE T N sc fn k x && (mE T N sc fn v y && mDct T N sc fn es ks vs)) = true := h
      rw [Bool.and_eq_true, Bool.and_eq_true] at h
      obtain ⟨a, b, c⟩ := dct_len (K := K) h.2.2
      refine ⟨?_, by rw [List.length_cons, List.length_cons, b], ?_⟩
      · rw [List.all_cons, a]
        rfl
      · show (trsOf K Wx q G es).length + 1 = _
        rw [c]
        rfl
    | none :: ks, vs, h => cases h
    | [], vs, h => cases h
    | some x :: ks, [], h => cases h
theorem c_dct {sc : Scope} {fn : Str → Bool} {es : Es} {ks : List (Option Expr)} {vs : List Expr} {pos : Pos} (hm : mDct T N sc fn es ks vs = true) (h15 : ks.length ≤ 15) (h : PPs X pos ks vs (trsOf X.K Wx q G es)) : PE X (.Dict ks vs pos) (rdE X.K Wx false (eval q G (.dct es))) := by
  obtain ⟨a, b, c⟩ := dct_len (K := X.K) (Wx := Wx) (q := q) (G := G) hm
  have key : ∀ {σ : L2.St} {H : Hp} {Qk : VK} {p : Addr}, H p = none → rdE X.K Wx false (eval q G (.dct es)) σ H Qk → tPairs (trsOf X.K Wx q G es) σ (upd H p (.dK [])) (fun ps H2 => H2 p = some (.dK []) ∧ ∃ kvs : List (Key × V), ps = kvs.map (fun kv => (kV kv.1, kv.2)) ∧ kvs.length = (trsOf X.K Wx q G es).length ∧ Qk (.ref p) (upd H2 p (.dK (mergeK [] kvs)))) := by
    intro σ H Qk p hp ⟨F, env, S, r, hm⟩
    have e := Ex.new (o := .dK []) hp
    have nF : F p = none := by
      cases w : F p with
      | none => rfl
      | some o =>
        have := r.ex p o w
        rw [hp] at this
        cases this
    exact tp_ok hp es [] [] [] env F _ S (r.grow e) upd_same (fun z => r.al p z hp) nF (Stp.grow e) rfl rfl hm
  cases ks with
  | nil =>
    cases vs with
    | cons y vs => cases b
    | nil =>
      have e0 : es = .nil := by
        match es, hm with
        | .nil, _ => rfl
        | .cons _ .nil, hm => cases hm
        | .cons _ (.cons _ _), hm => cases hm
      subst e0
      refine PE.weak pe_dnewK fun σ H Qk z p hp => ?_
      obtain ⟨h1, kvs, e1, e2, e3⟩ := key hp z
      have e2 : kvs.length = 0 := e2
      have e4 := List.length_eq_zero_iff.mp e2
      subst e4
      have e5 : upd (upd H p (.dK [])) p (.dK (mergeK [] [])) = upd H p (.dK []) := by
        funext a
        by_cases w : a = p
        · rw [w, upd_same, upd_same]
          rfl
        · rw [upd_ne w]
      rw [e5] at e3
      exact e3
  | cons k0 ks =>
    refine PE.weak (pe_disp h a b (fun z => by cases z) h15) fun σ H Qk z p hp => tp_mono es (key hp z) fun ps H2 ⟨h1, kvs, e1, e2, e3⟩ => ⟨h1, kvs, e1, ?_, e3⟩
    rw [e2, c]
    exact h15
/-- a display of one pair whose key is a tuple -/
theorem c_tdc {a b : E} {x y : Expr} {pos : Pos} (hu : X.A.units + 9 < cLine) (ha : PE X x (rdE X.K Wx (still a) (eval q G a))) (hb : PE X y (rdE X.K Wx (still b) (eval q G b))) : PE X (.Dict [some x] [y] pos) (rdE X.K Wx false (eval q G (.tdc a b))) := by
  refine PE.weak (pe_dt1 hu ha hb) fun σ H Qk ⟨F, env, S, r, hm⟩ p hp => ?_
  rw [eval] at hm
  have e := Ex.new (o := .dK []) hp
  have nF : F p = none := by
    cases w : F p with
    | none => rfl
    | some o =>
      have := r.ex p o w
      rw [hp] at this
      cases this
  have nS : ¬ S p := fun z => r.al p z hp
  have s : Stp F H S F (upd H p (.dK [])) S := Stp.grow e
  have hp1 : upd H p (.dK []) p = some (.dK []) := upd_same
  have rg : Rel X.K F (upd H p (.dK [])) env σ S := r.grow e
  generalize upd H p (.dK []) = Hb at s hp1 rg
  have step : ∀ {F1 H1 F2 H2 : Hp} {S1 S2 T2 : AS}, H1 p = some (.dK []) → ¬ S1 p → F1 p = none → Stp F1 H1 S1 F2 H2 (Un2 S2 T2) → H2 p = some (.dK []) ∧ ¬ S2 p ∧ F2 p = none := fun {F1 H1 F2 H2 S1 S2 T2} a b c s2 => by
    refine ⟨s2.kp p _ b a, fun z => ?_, ?_⟩
    · rcases s2.fr p (Or.inl z) with z | z
      · exact b z
      · rw [a] at z
        cases z
    · cases e : F2 p with
      | none => rfl
      | some o =>
        rcases s2.ff p (by rw [e]; intro z; cases z) with z | z | z
        · exact absurd c z
        · exact absurd z b
        · rw [a] at z
          cases z
  refine ⟨F, env, S, rg, (hm.bind.at s).imp fun d1 env1 hd F1 H1 S1 T1 v1 r1 t1 s1 _ => ⟨F1, env1, S1, r1, ?_⟩⟩
  have s1' : Stp F Hb S F1 H1 S1 := s1.sub fun a z => Or.inl z
  refine (hd.bind.at (s.trans s1')).imp fun d2 env2 hd F2 H2 S2 T2 v2 r2 t2 s2 _ => ?_
  obtain ⟨hc, hd⟩ := hd.iff
  rw [Bool.and_eq_true] at hc
  obtain ⟨k, b, hk, hd8, ev, rx1⟩ := tk_ref hc.1 t1.rp
  obtain ⟨r3, t3, s3⟩ := Tmp.frz r2 t2 hc.2
  obtain ⟨a1, a2, a3⟩ := step hp1 nS nF s1
  obtain ⟨b1, b2, b3⟩ := step a1 a2 a3 s2
  have npT : ¬ T2 p := fun z => by
    rcases s2.fr p (Or.inr z) with y | y
    · exact a2 y
    · rw [a1] at y
      cases y
  have c3 : addF F2 H2 T2 p = none := by
    rw [addF_none npT]
    exact b3
  have s' := (s.trans s1').trans (s2.trans s3)
  have rx2 : Rp X.K (addF F2 H2 T2) H2 d1 (.ref b) No := Rp.mono (s2.trans s3).fx (s2.trans s3).tu _ _ _ _ (fun _ z => z) (fun _ _ z => z.elim) rx1
  refine ⟨b1, _, d1, k, b, hc.1, hk, ev, rx2, fun ep u ru sm => ?_⟩
  have hT : KtOk p [] [] := ⟨rfl, by simp, Nat.zero_le _, sm, fun x hx => (by cases hx)⟩
  generalize hF : addF F2 H2 T2 = F3 at r3 t3 s3 c3 s' rx2
  have tu : Tu H2 (upd H2 p (tab p ep (storedH [] k b u))) := Tu.upd b1 (fun _ z => by cases z) (fun _ _ z => by cases z)
  obtain ⟨us', q1, q2, q3, q4⟩ := tPut_ok (vs := []) (us := []) (S := No) hk hd8 hT (by decide) (show RpL X.K F3 (upd H2 p (tab p ep (storedH [] k b u))) [] [] No from rfl) (Rp.mono (Ex.refl F3) tu _ _ _ _ (fun _ z => z) (fun _ _ z => z.elim) rx2) .nil (show RpL X.K F3 (upd H2 p (tab p ep (storedH [] k b u))) [] [] No from rfl) ru (Rp.mono (Ex.refl F3) tu _ _ _ _ (fun _ z => z) (fun _ _ z => z.elim) t3.rp)
  have kp : ∀ a o, a ≠ p → H2 a = some o → upd H2 p (tab p ep (storedH [] k b u)) a = some o := fun a o n e => by rw [upd_ne n]; exact e
  have kS : ∀ a, S2 a → a ≠ p := fun a z z2 => b2 (by rw [← z2]; exact z)
  refine hd F3 _ S2 (fun a => a = p) (.ref p) ⟨fun a o e => ?_, r3.nf, fun a z => ?_, EnvR.mono (Ex.refl F3) tu _ _ _ _ (fun _ z => z) (fun a o z e => kp a o (kS a z) e) r3.en⟩ ⟨⟨p, ep, _, us', rfl, ?_, q1, q3, q2, ?_⟩, fun a z => ?_⟩ ⟨fun a o n e => ?_, s'.fx, fun a z => ?_, s'.ff, s'.tu.trans tu⟩ fun z => by cases z
  · refine kp a o (fun z => ?_) (r3.ex a o e)
    rw [z, c3] at e
    cases e
  · rw [upd_ne (kS a z)]
    exact r3.al a z
  · rw [if_pos rfl]
    exact ⟨rfl, upd_same⟩
  · exact RpL.mono (Ex.refl F3) (Tu.refl _) _ _ _ _ (fun _ z => z.elim) (fun _ _ z => z.elim) q4
  · subst z
    exact ⟨c3, (by rw [upd_same]; intro z; cases z), b2⟩
  · refine kp a o (fun z => ?_) (s'.kp a o n e)
    rw [z, hp] at e
    cases e
  · rcases z with z | z
    · exact s'.fr a z
    · rw [z]
      exact Or.inr hp
/-! ### methods -/
theorem recv_ok {o : Expr} {m : Str} (h : recvOk o = true) : attributeBase o m X.env (PySem.eval o X.env) = PySem.eval o X.env := by
  unfold attributeBase
  split
  · cases h
  · rfl
/-- the call of a method of a built-in type: the object's type is known once it stands -/
theorem pe_mtA0 {T : String} {name : Str} {id : String} {o : Expr} {apos cpos : Pos} {to : TE} {r : V → List V → Hp → VK → Prop} (pa : PlainAttrs T) (sl : Slot T name id) (hty : typeOf (.builtin id) = pure (.type "method_descriptor")) (hm : MtR X id r) (ho : PE X o to)
    (hb : attributeBase o name X.env (PySem.eval o X.env) = PySem.eval o X.env) (hl : (apos.endLine == cpos.line) = true) : PE X (.Call (.Attribute o name apos) [] [] cpos) (fun σ H Q => to σ H fun x H1 => tyA X.K T x H1 ∧ r x [] H1 Q) := by
  constructor
  intro pins s σ H Q I h
  refine wpAny_Call_method0_late hb hl (thn (ho.run pins s σ H _ I h) fun v s1 hv => ?_)
  obtain ⟨x, H1, I1, r1, ty, k⟩ := hv
  have hi := tyA_is I1 r1 ty
  exact ⟨T, id, pa, sl, hty, hi.1, hi.2, Calls.callWith_builtin rfl (PySem.evalArgs_none (hm pins s1 σ H1 x [] v [] Q I1 r1 .nil k))⟩
theorem pe_mtA {T : String} {name : Str} {id : String} {o e : Expr} {es : List Expr} {apos cpos : Pos} {to : TE} {t : TA} {r : V → List V → Hp → VK → Prop} (pa : PlainAttrs T) (sl : Slot T name id) (hty : typeOf (.builtin id) = pure (.type "method_descriptor")) (hm : MtR X id r) (ho : PE X o to) (ha : PA X (e :: es) t)
    (hb : attributeBase o name X.env (PySem.eval o X.env) = PySem.eval o X.env)
    (hf : ((backTo cpos (starEach (e :: es) X.env)).all (fun x => !x.1) && (backToKw cpos (keywordEach [] X.env)).all (fun x => x.1.isSome) && decide ((e :: es).length + ([] : List Keyword).length + (if ([] : List Keyword).isEmpty then 0 else 1) < 30)) = true)
    (hl : (apos.endLine == cpos.line) = true) (hs : starEach (e :: es) X.env = (false, PySem.eval e X.env) :: starEach es X.env) (hp : (backTo cpos (starEach es X.env)).any (·.1) = false) :
    PE X (.Call (.Attribute o name apos) (e :: es) [] cpos) (fun σ H Q => to σ H fun x H1 => tyA X.K T x H1 ∧ t σ H1 fun vs H2 => r x vs H2 Q) := by
  constructor
  intro pins s σ H Q I h
  refine wpAny_Call_method_late hb hf hl rfl (thn (ho.run pins s σ H _ I h) fun v s1 hv => ?_)
  obtain ⟨x, H1, I1, r1, ty, k⟩ := hv
  have hi := tyA_is I1 r1 ty
  refine ⟨T, id, pa, sl, hty, hi.1, hi.2, ?_⟩
  have hA := ha.run cpos pins s1 σ H1 _ I1 k
  rw [hs] at hA ⊢
  refine Calls.callWith_builtin (by show (false || (backTo cpos (starEach es X.env)).any (·.1)) = false; rw [hp]; rfl) (Calls.evalArgs_plain (thn hA fun us s2 h2 => ?_))
  obtain ⟨vs, H2, I2, r2, k2⟩ := h2
  exact hm pins s2 σ H2 x vs v us Q I2 r1 r2 k2
/-- a method on what a name holds, or a place of it, or a value given up -/
theorem pe_mets {m : MF} {o : Expr} {xs : List Expr} {es : Es} {ap cp : Pos} {to : TE} (hw : ∀ σ H Q Q', (∀ v H', Q v H' → Q' v H') → to σ H Q → to σ H Q') (hx : mEs T N sc fn es xs = true) (h20 : xs.length ≤ 20) (hr : recvOk o = true) (hl : (ap.endLine == cp.line) = true) (hu : X.A.units + 10 < cLine) (ho : PE X o to) (ha : PA X xs (rdF X.K Wx (stills es) (evalFs q G es))) :
    PE X (.Call (.Attribute o (nmM m) ap) xs [] cp) (fun σ H Qk => to σ H fun x H1 => tyA X.K (tyM m) x H1 ∧ rdF X.K Wx (stills es) (evalFs q G es) σ H1 fun vs H2 => rMet X.K m x vs H2 Qk) := by
  cases xs with
  | nil =>
    have e0 : es = .nil := by
      cases es with
      | nil => rfl
      | cons _ _ => cases hx
    subst e0
    refine PE.weak (pe_mtA0 (plain_M m) (slot_M m) (type_M m) (op_met hu m) ho (recv_ok hr) hl) fun σ H Qk h => hw _ _ _ _ (fun x H1 ⟨h1, h2⟩ => ⟨h1, ?_⟩) h
    obtain ⟨F, env, S, r, hm⟩ := h2
    have hm : Post X.K Wx σ F H1 S (R.ok [] env) _ := hm
    exact hm F H1 S [] r rfl Stp.refl (fun _ => Ex.refl H1)
  | cons e r =>
    have hd := hx
    cases es with
    | nil => cases hd
    | cons me mes =>
      have hd : (mE T N sc fn me e && mEs T N sc fn mes r) = true := hd
      rw [Bool.and_eq_true] at hd
      refine pe_mtA (plain_M m) (slot_M m) (type_M m) (op_met hu m) ho ha (recv_ok hr) ?_ hl (mE_star hd.1 r) (mEs_plain hd.2 cp)
      rw [Bool.and_eq_true, Bool.and_eq_true]
      refine ⟨⟨mEs_all hx cp, rfl⟩, decide_eq_true ?_⟩
      simp only [List.isEmpty_nil, List.length_nil, if_true]
      omega
end
end AW

/-! AWSound6: methods, walks. -/
namespace AW
open PySem L2 PyProof.Rows
section
variable {T : Tb} {ca : Nat → Addr} {Wx : L2.St → Nat → Hp → Prop} {q : Nat → List D → R D} {G : Nat → D} {N : List Str} {X : Cx} {sc : Scope} {fn : Str → Bool}
theorem kdo_inv {m : MF} {d : Option D} (h : kdo m d = true) : ∃ o, d = some o ∧ kd2 o = some (kdM m) := by
  cases d with
  | none => cases h
  | some o => exact ⟨o, rfl, eq_of_beq (show (kd2 o == some (kdM m)) = true from h)⟩
/-- the end of a method whose object stands apart in S1, the rest in S2 -/
theorem fin_met {K : PySem.W.Frag} {F0 H0 F H : Hp} {S0 S S1 S2 : AS} {env env' : Env} {σ : L2.St} {x : V} {d o : D} {Qk : VK} (r : Rel K F H env σ S) (s : Stp F0 H0 S0 F H S) (h1 : Sub S1 S) (h2 : Sub S2 S) (dj : Dj S1 S2)
    (back : ∀ H' S', Tu H H' → (∀ a u, S2 a → H a = some u → H' a = some u) → Dj S' S2 → Rp K F H' o x S' → EnvR K F H' env' σ (Un2 S' S2))
    (k : ∀ F' H' S' T v, Rel K F' H' env' σ S' → Tmp K F' H' S' d v T → Stp F0 H0 S0 F' H' (Un2 S' T) → (false = true → Ex H0 H') → Qk v H') : MRes K F H S1 x d o Qk := by
  intro v H' T S' kp al tu ex hT hS dT rp ro
  have k2 : ∀ a u, S2 a → H a = some u → H' a = some u := fun a u z e => kp a u (fun y => dj a y z) e
  have aS : ∀ a, Un2 S' S2 a → S a := fun a z => z.elim (fun z => h1 a (hS a z)) (h2 a)
  have alS : ∀ a, S a → H' a ≠ none := fun a z => by
    open Classical in
    by_cases y : S1 a
    · exact al a y
    · cases w : H a with
      | none => exact absurd w (r.al a z)
      | some u =>
        rw [kp a u y w]
        intro z
        cases z
  refine k F H' (Un2 S' S2) T v ⟨ex, fun a z => r.nf a (aS a z), fun a z => alS a (aS a z), back H' S' tu k2 (fun a y z => dj a (hS a y) z) ro⟩ ⟨rp, fun a z => ⟨r.nf a (h1 a (hT a z)), al a (hT a z), fun y => y.elim (dT a z) (dj a (hT a z))⟩⟩ ?_ fun z => by cases z
  exact s.trans ⟨fun a o n e => kp a o (fun z => n (h1 a z)) e, Ex.refl F, fun a z => Or.inl (z.elim (aS a) (fun z => h1 a (hT a z))), fun a z => Or.inl z, tu⟩
theorem set_slot {σ : L2.St} {i : Nat} {v : V} (h : σ[i]? = some (some v)) : σ.set i (some v) = σ := set_some_self h
theorem c_met_var {m : MF} {i : Nat} {o : Expr} {xs : List Expr} {es : Es} {ap cp : Pos} (g : Good T ca Wx q G N X sc fn) (hx : mEs T N sc fn es xs = true) (h20 : xs.length ≤ 20) (hr : recvOk o = true) (hl : (ap.endLine == cp.line) = true) (ho : PE X o (tVar i)) (ha : PA X xs (rdF X.K Wx (stills es) (evalFs q G es))) :
    PE X (.Call (.Attribute o (nmM m) ap) xs [] cp) (rdE X.K Wx false (eval q G (.met m (.var i) es))) := by
  have hu : X.A.units + 10 < cLine := by have := g.hu; omega
  refine PE.weak (pe_mets (fun σ H Q Q' k ⟨v, h1, h2⟩ => ⟨v, h1, k _ _ h2⟩) hx h20 hr hl hu ho ha) fun σ H Qk ⟨F, env, S, r, hm⟩ => ?_
  have hm : Post X.K Wx σ F H S (if kdo m (gt env i) then (evalFs q G es env).bind fun ds e1 =>
        match gt e1 i with
        | some o => match dMet m o ds with | some (d, x) => R.ok d (e1.set i (some x)) | none => .no
        | none => .no
      else .no) _ := hm
  obtain ⟨hk, hm⟩ := hm.iff
  obtain ⟨o0, ho0, hko⟩ := kdo_inv hk
  obtain ⟨x, S1, g1, g2, g3⟩ := r.at ho0
  refine ⟨x, g1, kd_ty r.ex hko g3, F, env, S, r, hm.bind.imp fun ds env1 hd F1 H1 S1 vs r1 fr s1 st1 => ?_⟩
  cases hg : gt env1 i with
  | none =>
    rw [hg] at hd
    exact hd.elim
  | some od =>
    rw [hg] at hd
    have hd : Post X.K Wx σ F H S (match dMet m od ds with | some (d, x) => R.ok d (env1.set i (some x)) | none => .no) _ := hd
    cases hf : dMet m od ds with
    | none =>
      rw [hf] at hd
      exact hd.elim
    | some p =>
      obtain ⟨d, o'⟩ := p
      rw [hf] at hd
      obtain ⟨w, Sa, Sb, k1, k2, k3, k4, k5, k6⟩ := r1.en.hold (gt_lt hg)
      rw [hg] at k5
      obtain ⟨x', ex, k5⟩ := k5
      subst ex
      rw [g1] at k1
      cases k1
      refine ⟨F1, od, ds, d, o', Sa, r1.ex, fun a z => ⟨r1.nf a (k2 a z), r1.al a (k2 a z)⟩, k5, fr, hf, fin_met r1 s1 k2 k3 k4 (fun H' S' tu kp dj ro => ?_) hd⟩
      have z := k6 F1 H' (some o') (some x) S' (Un2 S' Sb) (Ex.refl F1) tu kp dj (fun a z => Or.inl z) (fun a z => Or.inr z) ⟨x, rfl, ro⟩
      rw [set_slot g1] at z
      exact z
theorem c_met_pth {m : MF} {i k : Nat} {o : Expr} {xs : List Expr} {es : Es} {ap cp : Pos} (g : Good T ca Wx q G N X sc fn) (hx : mEs T N sc fn es xs = true) (h20 : xs.length ≤ 20) (hst : stills es = true) (hr : recvOk o = true) (hl : (ap.endLine == cp.line) = true) (ho : PE X o (tOp (rIxL X.K) (tVar i) (tC (.int (k : Int))))) (ha : PA X xs (rdF X.K Wx (stills es) (evalFs q G es))) :
    PE X (.Call (.Attribute o (nmM m) ap) xs [] cp) (rdE X.K Wx false (eval q G (.met m (.pth i k) es))) := by
  have hu : X.A.units + 10 < cLine := by have := g.hu; omega
  refine PE.weak (pe_mets (fun σ H Q Q' k ⟨v, h1, p, ys, j, w, h2, h3, h4, h5, h6⟩ => ⟨v, h1, p, ys, j, w, h2, h3, h4, h5, k _ _ h6⟩) hx h20 hr hl hu ho ha) fun σ H Qk ⟨F, env, S, r, hm⟩ => ?_
  have hm : Post X.K Wx σ F H S (if kdo m (part (gt env i) k) then (evalFs q G es env).bind fun ds e1 =>
        match gt e1 i with
        | some (.lst true xs) =>
          match xs[k]? with
          | some o => match dMet m o ds with | some (d, x) => R.ok d (e1.set i (some (.lst true (xs.set k x)))) | none => .no
          | none => .no
        | _ => .no
      else .no) _ := hm
  obtain ⟨hk, hm⟩ := hm.iff
  obtain ⟨o0, ho0, hko⟩ := kdo_inv hk
  obtain ⟨p, ws, x, S1, g1, g2, g3, g4⟩ := pth_at r ho0
  refine ⟨.ref p, g1, p, ws, _, x, rfl, rfl, SqL.of g2, ix_nat g3, kd_ty r.ex hko g4, F, env, S, r, hm.bind.imp fun ds env1 hd F1 H1 S1 vs r1 fr s1 st1 => ?_⟩
  match hg : gt env1 i, hd with
  | some (.lst true ys), hd =>
    have hd : Post X.K Wx σ F H S (match ys[k]? with
          | some o => match dMet m o ds with | some (d, x) => R.ok d (env1.set i (some (.lst true (ys.set k x)))) | none => .no
          | none => .no) _ := hd
    cases hy : ys[k]? with
    | none =>
      rw [hy] at hd
      exact hd.elim
    | some od =>
      rw [hy] at hd
      have hd : Post X.K Wx σ F H S (match dMet m od ds with | some (d, x) => R.ok d (env1.set i (some (.lst true (ys.set k x)))) | none => .no) _ := hd
      cases hf : dMet m od ds with
      | none =>
        rw [hf] at hd
        exact hd.elim
      | some z =>
        obtain ⟨d, o'⟩ := z
        rw [hf] at hd
        obtain ⟨w, Sa, Sb, k1, k2, k3, k4, k5, k6⟩ := r1.en.hold (gt_lt hg)
        rw [hg] at k5
        obtain ⟨x', ex, k5⟩ := k5
        subst ex
        rw [g1] at k1
        cases k1
        obtain ⟨p', us, e', ht, hlst⟩ := k5
        cases e'
        rw [if_pos rfl] at ht
        have e2 : us = ws := by
          have e3 := st1 hst p _ g2
          rw [ht.2] at e3
          cases e3
          rfl
        subst e2
        obtain ⟨x2, Sc, Sd, l1, l2, l3, l4, l5, l6⟩ := hlst.hold hy
        rw [g3] at l1
        cases l1
        refine ⟨F1, od, ds, d, o', Sc, r1.ex, fun a z => ⟨r1.nf a (k2 a (l2 a z).1), r1.al a (k2 a (l2 a z).1)⟩, l5, fr, hf, fin_met (S2 := fun a => (Sb a ∨ Sd a) ∨ a = p) r1 s1 (fun a z => k2 a (l2 a z).1) (fun a z => ?_) (fun a y z => ?_) (fun H' S' tu kp dj ro => ?_) hd⟩
        · rcases z with (z | z) | z
          · exact k3 a z
          · exact k2 a (l3 a z).1
          · rw [z]
            exact k2 p ht.1
        · rcases z with (z | z) | z
          · exact k4 a (l2 a y).1 z
          · exact l4 a y z
          · exact (l2 a y).2 rfl z
        · have l7 := l6 F1 H' o' S' (Un2 S' Sd) (Ex.refl F1) tu (fun a u z e => kp a u (Or.inl (Or.inr z)) e) (fun a y z => dj a y (Or.inl (Or.inr z))) (fun a z => Or.inl z) (fun a z => Or.inr z) ro
          have hp' : H' p = some (.lst us) := kp p _ (Or.inr rfl) ht.2
          have z := k6 F1 H' (some (.lst true (ys.set k o'))) (some (.ref p)) (fun a => Un2 S' Sd a ∨ a = p) (Un2 S' fun a => (Sb a ∨ Sd a) ∨ a = p) (Ex.refl F1) tu (fun a u z e => kp a u (Or.inl (Or.inl z)) e) (fun a y z => ?_) (fun a z => ?_) (fun a z => ?_) ⟨.ref p, rfl, p, us, rfl, ?_, ?_⟩
          · rw [set_slot g1] at z
            exact z
          · rcases y with (y | y) | y
            · exact dj a y (Or.inl (Or.inl z))
            · exact k4 a (l3 a y).1 z
            · rw [y] at z
              exact k4 p ht.1 z
          · rcases z with (z | z) | z
            · exact Or.inl z
            · exact Or.inr (Or.inl (Or.inr z))
            · exact Or.inr (Or.inr z)
          · exact Or.inr (Or.inl (Or.inl z))
          · rw [if_pos rfl]
            exact ⟨Or.inr rfl, hp'⟩
          · refine RpL.mono (Ex.refl F1) (Tu.refl H') _ _ _ _ (fun a z => ⟨Or.inl z, fun _ e => ?_⟩) (fun _ _ _ z => z) l7
            subst e
            rcases z with z | z
            · exact dj a z (Or.inr rfl)
            · exact (l3 a z).2 rfl rfl
  | none, hd => exact hd.elim
  | some .non, hd => exact hd.elim
  | some (.bl _), hd => exact hd.elim
  | some (.int _), hd => exact hd.elim
  | some (.str _), hd => exact hd.elim
  | some (.tup _), hd => exact hd.elim
  | some (.lst false _), hd => exact hd.elim
  | some (.dic _ _ _), hd => exact hd.elim
  | some (.dtp _ _ _), hd => exact hd.elim
  | some (.ins _ _), hd => exact hd.elim
  | some (.fn _), hd => exact hd.elim
theorem kd_frz : ∀ d : D, kd2 (frz d) = kd2 d := by
  intro d
  cases d <;> rfl
theorem c_met_val {m : MF} {a : E} {o : Expr} {xs : List Expr} {es : Es} {ap cp : Pos} (hv : ∀ i, a ≠ .var i) (hp : ∀ i k, a ≠ .pth i k) (g : Good T ca Wx q G N X sc fn) (hx : mEs T N sc fn es xs = true) (h20 : xs.length ≤ 20) (hr : recvOk o = true) (hl : (ap.endLine == cp.line) = true)
    (ho : PE X o (rdE X.K Wx (still a) (eval q G a))) (ha : PA X xs (rdF X.K Wx (stills es) (evalFs q G es))) :
    PE X (.Call (.Attribute o (nmM m) ap) xs [] cp) (rdE X.K Wx false (eval q G (.met m a es))) := by
  have hu : X.A.units + 10 < cLine := by have := g.hu; omega
  refine PE.weak (pe_mets (to := rdE X.K Wx (still a) (eval q G a)) (fun σ H Q Q' k h => rdE_mono h k) hx h20 hr hl hu ho ha) fun σ H Qk ⟨F, env, S, r, hm⟩ => ?_
  have e0 : eval q G (.met m a es) env = (eval q G a env).bind fun p e1 => if kdo m (some p) && okF p then (evalFs q G es e1).bind fun ds e2 =>
        match dMet m (frz p) ds with | some (d, _) => .ok d e2 | none => .no
      else .no := by
    cases a with
    | var i => exact absurd rfl (hv i)
    | pth i k => exact absurd rfl (hp i k)
    | _ => rfl
  rw [e0] at hm
  refine ⟨F, env, S, r, hm.bind.imp fun p env1 hd F1 H1 S1 T1 x r1 t1 s1 st1 => ?_⟩
  obtain ⟨hk, hd⟩ := hd.iff
  rw [Bool.and_eq_true] at hk
  obtain ⟨o0, ho0, hko⟩ := kdo_inv hk.1
  cases ho0
  obtain ⟨r2, t2, s2⟩ := Tmp.frz r1 t1 hk.2
  refine ⟨kd_ty r1.ex hko t1.rp, _, env1, S1, r2, (hd.bind.at (s1.trans s2)).imp fun ds env2 hd F3 H3 S3 vs r3 fr s3 st3 => ?_⟩
  have hd : Post X.K Wx σ F H S (match dMet m (frz p) ds with | some (d, _) => R.ok d env2 | none => .no) _ := hd
  cases hf : dMet m (frz p) ds with
  | none =>
    rw [hf] at hd
    exact hd.elim
  | some z =>
    obtain ⟨d, o'⟩ := z
    rw [hf] at hd
    have t3 := t2.keep s3
    refine ⟨F3, frz p, ds, d, o', No, r3.ex, fun _ z => z.elim, t3.rp, fr, hf, fin_met (S2 := S3) r3 ((s1.trans s2).trans s3) (fun _ z => z.elim) (fun _ z => z) (fun _ z _ => z) (fun H' S' tu kp dj ro => ?_) hd⟩
    exact EnvR.mono (Ex.refl F3) tu _ _ _ _ (fun a z => Or.inr z) (fun a u z e => kp a u z e) r3.en
end
end AW

/-! AWIter: what loops walk: rules that take lists, tuples and texts alike. -/
namespace AW
open PySem L2 PyProof.Rows PySem.Spec
section
variable {X : Cx} {tg : Expr}
/-- the keys of the table at p, which stays -/
def Itab (p : Addr) (ep : Nat) (xs : List (NestedKey × Addr × Value)) : L2.It :=
  ⟨fun i H => H p = some (tab p ep xs) ∧ i < xs.length, fun i H x H' => H' = H ∧ ∃ e, xs[i]? = some e ∧ x = kref e, fun i H => H p = some (tab p ep xs) ∧ xs.length ≤ i⟩
theorem turn_tab {P : Program} {w : World} {K : PySem.W.Frag} {p : Addr} {ep : Nat} {xs : List (NestedKey × Addr × Value)} (it : Addr) : Turn P w K tg (Itab p ep xs) [it] it (fun i h => h.IsKeyIter it p i xs.length ep) where
  mem := by simp
  obj := fun i h st b hb => by
    have e : b = it := by simpa using hb
    subst e
    obtain ⟨oi, e, c, dd⟩ := st
    exact ⟨oi, e, fun v z => by rw [dd] at z; cases z⟩
  keep := fun i h h' st k => st.at fun oi e => k it (by simp) oi e
  item := by
    intro X hP hw hK hc i pins s σ H E I hf st hg
    subst hP hw hK
    obtain ⟨hd, hi⟩ := hg
    obtain ⟨f0, f1, f2, f3, f4, f5⟩ := hf it (by simp)
    obtain ⟨es, dr, hs, e1, e2⟩ := tab_raw I hd
    rw [← hs] at st hi
    refine wpAny_pyNext_keys_item_raw st dr hi fun h' st' sb => ?_
    have I1 : Inv X pins σ H { s with heap := h' } := I.turned (t' := s.toks) (fun b ob hb e => (sb.2 b hb).trans e) f0 f1 f3 f4 f5
    obtain ⟨oi, e, c, dd⟩ := id st'
    have ek : (es.toList.map (·.key))[i]? = some es[i].key := by
      rw [List.getElem?_map, Array.getElem?_toList, Array.getElem?_eq_getElem hi]
      rfl
    rw [e1, List.getElem?_map] at ek
    obtain ⟨x, hx, ex⟩ := Option.map_eq_some_iff.mp ek
    refine ⟨es[i].key, rfl, go_of (s := { s with heap := h' }) e c dd (by decide) ⟨kref x, H, I1, ex.symm, ⟨rfl, x, hx, rfl⟩, ?_, fun b hb => (hf b hb).1⟩⟩
    show h'.IsKeyIter it p (i + 1) xs.length _
    rw [← hs]
    exact st'
  done := by
    intro X hP hw hK hc i pins s σ H E I hf st hg
    subst hP hw hK
    obtain ⟨hd, hi⟩ := hg
    obtain ⟨f0, f1, f2, f3, f4, f5⟩ := hf it (by simp)
    obtain ⟨es, dr, hs, e1, e2⟩ := tab_raw I hd
    rw [← hs] at st hi
    exact wpAny_pyNext_keys_end_raw (I.ok.hd hc) st dr hi fun h' eb => ⟨rfl, I.turned (t' := s.toks) (fun b ob hb e => eb b ob hb e) f0 f1 f3 f4 f5⟩
  self := fun A i s Q E st h => wpAny_pyIter_keyiter st h
/-- over a list, a tuple, a text, or a table's keys, as it comes -/
def iSeq (K : PySem.W.Frag) (te : TE) : TI := fun σ H R => te σ H fun x H1 => (∃ a xs, x = .ref a ∧ SqL K H1 a xs ∧ R (Itl K a) H1) ∨ (∃ a xs, x = .ref a ∧ SqT K H1 a xs ∧ R (Itt K a) H1) ∨ (∃ z, x = .str z ∧ R (Its z) H1) ∨ ∃ p ep xs, x = .ref p ∧ (p == sysModules) = false ∧ H1 p = some (tab p ep xs) ∧ R (Itab p ep xs) H1
theorem pi_seq {e : Expr} {te : TE} (he : PE X e te) : PI X tg e (iSeq X.K te) := by
  refine ⟨fun pins s σ H R I h => thn (he.run pins s σ H _ I h) fun v s1 ⟨x, H1, I1, r1, q1⟩ => ?_⟩
  rcases q1 with ⟨a, xs, rfl, hq, q⟩ | ⟨a, xs, rfl, hq, q⟩ | ⟨z, rfl, q⟩ | ⟨p, ep, xs, rfl, sm, hp, q⟩
  · cases r1
    obtain ⟨its, rv, p, _⟩ := I1.list hq
    exact wpAny_pyIter_list p.isList (pi_one (tk := s1.toks) I1 _ (turn_list a _) ⟨_, Heap.get?_push_size _ rfl, rfl, rfl⟩ q)
  · cases r1
    obtain ⟨its, rv, p, _⟩ := I1.tuple hq
    exact wpAny_pyIter_tuple (show s1.heap.IsTuple a its.toArray from p) (pi_one (tk := s1.toks) I1 _ (turn_tuple a _) ⟨_, Heap.get?_push_size _ rfl, rfl, rfl⟩ q)
  · obtain ⟨t, rfl⟩ := r1
    cases ha : z.cps.all (· < 128)
    · exact wpAny_pyIter_wide ha (pi_one (tk := s1.toks) I1 _ (turn_str _ z t "str_iterator" (.inr rfl)) ⟨_, Heap.get?_push_size _ rfl, rfl, rfl⟩ q)
    · exact wpAny_pyIter_ascii ha (pi_one (tk := s1.toks) I1 _ (turn_str _ z t "str_ascii_iterator" (.inl rfl)) ⟨_, Heap.get?_push_size _ rfl, rfl, rfl⟩ q)
  · obtain rfl : v = Value.ref p := r1
    obtain ⟨es, dr, hs, e1, e2⟩ := tab_raw I1 hp
    refine wpAny_pyIter_dict_raw sm dr (pi_one (tk := s1.toks) I1 _ (turn_tab _) ⟨_, Heap.get?_push_size _ rfl, rfl, ?_⟩ q)
    rw [hs]
    rfl
/-! ### enumerate over a tuple -/
theorem meets_enumT {v : Value} {o : Obj} {H : Heap → Prop} (B : Begins v o H) :
    Meets (Builtin.«enumerate.__new__» ⟨[.type "enumerate", v], []⟩) (fun _ R s => H s.heap ∧
      R (.ok (.ret (.ref (s.heap.push o).objs.size))) { s with heap := (s.heap.push o).push { cls := .type "enumerate", data := .fields #[.none, .bool false, .ref s.heap.objs.size, rawInt 0, .none, .none] } }) :=
  .of_wp fun prog w A R s h => by
    obtain ⟨hp, g, d, tk, os⟩ := s; obtain ⟨h1, h⟩ := h
    have hsub := sub_enumerate
    have q1 : ∀ {A' : Around} {E : Value → Shared → Prop} {Q : Value → Shared → Prop}, Q (.ref hp.objs.size) ⟨hp.push o, g, d, tk, os⟩ → wpAny (model prog w) A' (pyIter v) Q E ⟨hp, g, d, tk, os⟩ :=
      fun q => B.iter prog w _ _ ⟨hp, g, d, tk, os⟩ _ h1 q
    wp_walk using q1
    refine wpAny_stack_any fun st => wpAny_pure ?_
    split
    · rename_i c _ _ _ _ _
      cases (c == Value.type "enumerate")
      · wp_walk using q1
        exact ⟨_, rfl, h⟩
      · wp_walk using q1
        exact ⟨_, rfl, h⟩
    · wp_walk using q1
      exact ⟨_, rfl, h⟩
theorem call_enumT {prog : Program} {w : World} {A : Around} {E : Value → Shared → Prop} {s : Shared} {v : Value} {o : Obj} {H : Heap → Prop} {Q : Value → Shared → Prop} (B : Begins v o H) (h1 : H s.heap)
    (h : ∀ h', IsEnum h' (s.heap.objs.size + 1) s.heap.objs.size 0 .none → h'.get? s.heap.objs.size = some o → (∀ b o, s.heap.get? b = some o → h'.get? b = some o) → Q (.ref (s.heap.objs.size + 1)) { s with heap := h' }) :
    wpAny (model prog w) A (call (.type "enumerate") [v]) Q E s := by
  refine callType_new F.called_enumerate (by decide) (F.typeCall_enumerate_1 _) (F.newCall_enumerate_1 _) (fun obj => F.args_object_init_2 obj _) F.entry_enumerate_new (meets_enumT B) ⟨h1, ?_⟩
  have hz : (s.heap.push o).objs.size = s.heap.objs.size + 1 := Heap.size_push ..
  show _ ∧ _
  rw [hz]
  have he : IsEnum ((s.heap.push o).push { cls := .type "enumerate", data := .fields #[.none, .bool false, .ref s.heap.objs.size, rawInt 0, .none, .none] }) (s.heap.objs.size + 1) s.heap.objs.size 0 .none := by
    have z := Heap.get?_push_size (s.heap.push o) (o := { cls := .type "enumerate", data := .fields #[.none, .bool false, .ref s.heap.objs.size, rawInt 0, .none, .none] }) rfl
    rw [hz] at z
    exact z
  exact ⟨⟨_, he, rfl⟩, h _ he (Heap.get?_push_of_some _ (Heap.get?_push_size _ B.free)) fun b o x => Heap.get?_push_of_some _ (Heap.get?_push_of_some _ x)⟩
/-- the tuple at a, each item in a new pair -/
def ItET (K : PySem.W.Frag) (a : Addr) : L2.It :=
  ⟨fun i H => ∃ (xs : List V) (x : V), SqT K H a xs ∧ xs[i]? = some x, fun i H v H' => ∃ T x, v = .ref T ∧ H T = none ∧ H' = upd H T (.tup [.int (i : Nat), x]) ∧ ∀ xs, SqT K H a xs → xs[i]? = some x, fun i H => ∃ xs : List V, SqT K H a xs ∧ xs.length ≤ i⟩
theorem tup_not {h : Heap} {a b : Addr} {its : Array Value} {o : Obj} {n : String} (ht : h.IsTuple a its) (ho : h.get? b = some o) (hc : o.cls = .type n) (hn : n ≠ "tuple") : a ≠ b := fun e => by
  subst e
  obtain ⟨o2, h2, c2, _⟩ := ht
  rw [h2] at ho
  cases ho
  rw [c2] at hc
  exact hn (Value.type.inj hc).symm
theorem turn_enumT {P : Program} {w : World} {K : PySem.W.Frag} {elts : List Expr} {kk : Nat} {tpos : Pos} (a e it : Addr) :
    Turn P w K (.Tuple elts kk tpos) (ItET K a) [e, it] e (fun i h => (∃ old, IsEnum h e it ((i : Nat) : Int) old) ∧ h.IsTupleIter it a i ∧ e ≠ it) where
  mem := by simp
  obj := fun i h st b hb => by
    obtain ⟨⟨old, he⟩, ⟨o, ho, hc, hd⟩, _⟩ := st
    have z : b = e ∨ b = it := by simpa using hb
    rcases z with rfl | rfl
    · exact ⟨_, he, fun v q => nomatch q⟩
    · exact ⟨o, ho, fun v q => by rw [hd] at q; cases q⟩
  keep := fun i h h' st k => let ⟨⟨old, he⟩, hi, hne⟩ := st; ⟨⟨old, k e (by simp) _ he⟩, hi.at fun o q => k it (by simp) o q, hne⟩
  item := by
    intro X hP hw hK hc i pins s σ H E I hf st hg
    subst hP hw hK
    obtain ⟨⟨old, he⟩, hit, hne⟩ := st
    obtain ⟨xs, x, hq, hx⟩ := hg
    obtain ⟨its, rv, p, _⟩ := I.tuple hq
    obtain ⟨u, hu, ru⟩ := rv.get hx
    have p : s.heap.IsTuple a its.toArray := p
    have hel : e < s.heap.objs.size := Heap.lt_size he
    have hil : it < s.heap.objs.size := by obtain ⟨_, q, _⟩ := hit; exact Heap.lt_size q
    have nae : a ≠ e := tup_not p he rfl (by decide)
    have nai : a ≠ it := by
      obtain ⟨o, ho, c, _⟩ := id hit
      exact tup_not p ho c (by decide)
    have D : Draws X.prog X.w X.A.in1 it [it, a] its.toArray.size (fun i v => its.toArray[i]? = some v) (fun i h => h.IsTupleIter it a i ∧ h.IsTuple a its.toArray) := Draws.tuple (show X.A.in1.handled = none from I.ok.hd hc) it a nai its.toArray
    have hlt : i < its.toArray.size := by
      have z := (List.getElem?_eq_some_iff.mp hu).1
      simpa using z
    refine wpAny_pyNext_enum_itemC D he ⟨hit, p⟩ hlt hne (by simp [hne, Ne.symm nae]) fun u' h' tk hu' ho hst' hT hsz hk => ?_
    have eu : u' = u := by
      have z : its.toArray[i]? = some u := by simpa using hu
      rw [z] at hu'
      exact (Option.some.inj hu').symm
    subst eu
    refine ⟨_, rfl, wpAny_letOwnedTupleGo_enum (s := { s with heap := h', toks := tk + 1 }) ho fun h'' he' sb => ?_⟩
    have hT2 : h''.get? s.heap.objs.size = some { cls := .type "tuple", data := .seq #[.int i tk, u'] } := (sb.2 _ (Nat.ne_of_gt hel)).trans hT
    have new : ObjOk X.prog X.w (upd H s.heap.objs.size (.tup [.int (i : Nat), x])) h'' s.heap.objs.size (.tup [.int (i : Nat), x]) :=
      ⟨by show 2 ≤ sizeLine; decide, [.int i tk, u'], .cons ⟨_, rfl⟩ (.cons ru .nil), ⟨_, hT2, rfl, _, rfl⟩⟩
    have I1 : Inv X pins σ (upd H s.heap.objs.size (.tup [.int (i : Nat), x])) { s with heap := h'', toks := tk + 1 } :=
      I.turnedNew (ch := [e, it]) (fun b ob hb q => (sb.2 b (fun z => hb (by simp [z]))).trans (hk b ob (fun z => hb (by simp [z])) (fun z => hb (by simp [z])) q)) hf (Nat.le_refl _) new
    refine ⟨.ref s.heap.objs.size, _, I1, rfl, ⟨_, x, rfl, I.hok.fresh (Nat.le_refl _), rfl, fun ys hy => by rw [I.tuple_inj hy hq]; exact hx⟩, ⟨⟨u', ?_⟩, hst'.1.at fun o q => (sb.2 it (Ne.symm hne)).trans q, hne⟩, fun b hb => ?_⟩
    · have e1 : ((i + 1 : Nat) : Int) = (i : Int) + 1 := by omega
      rw [e1]
      exact he'
    · have hb' : b < s.heap.objs.size := by
        have z : b = e ∨ b = it := by simpa using hb
        rcases z with rfl | rfl
        · exact hel
        · exact hil
      rw [upd_ne (Nat.ne_of_lt hb')]
      exact (hf b hb).1
  done := by
    intro X hP hw hK hc i pins s σ H E I hf st hg
    subst hP hw hK
    obtain ⟨⟨old, he⟩, hit, hne⟩ := st
    obtain ⟨xs, hq, hx⟩ := hg
    obtain ⟨its, rv, p, _⟩ := I.tuple hq
    have p : s.heap.IsTuple a its.toArray := p
    obtain ⟨f0, f1, f2, f3, f4, f5⟩ := hf it (by simp)
    have hl := rv.length
    have hT : s.TypeIs (.ref e) "enumerate" := ⟨_, he, rfl⟩
    unfold pyNext
    refine wpAny_bind (wpAny_attempt (wpAny_callSpecial?_slot (name := Str.ofString "__next__") hT F.slot_enumerate_next (wpAny_call_entry F.slot_enumerate_next hT F.entry_enumerate_next ?_ (F.args_enumerate_next_1 _))))
    show wpAny _ _ (field (.ref e) 2 >>= _) _ _ _
    refine wpAny_bind (wpAny_field he rfl (x := .ref it) rfl ?_)
    refine wpAny_bind (wpAny_nextOf_tuple_end (I.ok.hd hc) hit p (by simp; omega) fun h' x he' hx' => ?_)
    obtain ⟨o, ho, hcl⟩ := hx'
    refine wpAny_bind (wpAny_isInstance (T := "StopIteration") (b := true) ⟨o, ho, hcl⟩ isSubtype_stop ?_)
    exact wpAny_pure ⟨rfl, I.turned (t' := s.toks) (fun b o hb q => he' b o hb q) f0 f1 f3 f4 f5⟩
  self := fun A i s Q E st h => let ⟨⟨_, he⟩, _⟩ := st; wpAny_pyIter_enum he h
def iEnumA (K : PySem.W.Frag) (te : TE) : TI := fun σ H R => te σ H fun v H1 => ∃ a xs, v = .ref a ∧ ((SqL K H1 a xs ∧ R (Ite K a) H1) ∨ (SqT K H1 a xs ∧ R (ItET K a) H1))
theorem pi_enumA {e : Expr} {te : TE} {p pos tpos : Pos} {elts : List Expr} {kk : Nat} (hg : Gl X "enumerate") (hm : X.mg "enumerate" = none) (he : PE X e te) (hs : starEach [e] X.env = (false, PySem.eval e X.env) :: starEach [] X.env) :
    PI X (.Tuple elts kk tpos) (.Call (.Name "enumerate" p) [e] [] pos) (iEnumA X.K te) := by
  refine ⟨fun pins s σ H R I h => ?_⟩
  have ha : PA X [e] _ := pa_cons he pa_nil hs
  refine Call_ (ld_blt I hg hm boot_enumerate (PyProof.Rows.callWith_type1 (thn (ha.run pos pins s σ H (fun vs H1 => match vs with | [v] => ∃ a xs, v = .ref a ∧ ((SqL X.K H1 a xs ∧ R (Ite X.K a) H1) ∨ (SqT X.K H1 a xs ∧ R (ItET X.K a) H1)) | _ => False) I h) fun us s1 ⟨vs, H1, I1, r1, q0⟩ => ?_) hs rfl))
  · cases r1 with
    | nil => exact q0.elim
    | cons r rr =>
      cases rr with
      | cons _ _ => exact q0.elim
      | nil =>
      obtain ⟨a, xs, ex, q1⟩ := q0
      subst ex
      cases r
      have fresh : ∀ b ∈ [s1.heap.objs.size + 1, s1.heap.objs.size], FpOk X pins H1 b := fun b hb => by
        have z : b = s1.heap.objs.size + 1 ∨ b = s1.heap.objs.size := by simpa using hb
        have hle : s1.heap.objs.size ≤ b := by
          rcases z with z | z
          · rw [z]; exact Nat.le_add_right _ _
          · rw [z]; exact Nat.le_refl _
        exact I1.fpOk hle (I1.hok.fresh hle)
      rcases q1 with ⟨hq, q⟩ | ⟨hq, q⟩
      · obtain ⟨its, rv, p', _⟩ := I1.list hq
        exact call_enumerate_list p'.isList fun h' he hit hsz hk => wpAny_pyIter_enum he ⟨s1.heap.objs.size + 1, [s1.heap.objs.size + 1, s1.heap.objs.size], _, _, H1, rfl, I1.kept (t' := s1.toks) hk, turn_enum a (s1.heap.objs.size + 1) s1.heap.objs.size, ⟨⟨.none, he⟩, hit, Nat.succ_ne_self _⟩, fresh, q⟩
      · obtain ⟨its, rv, p', _⟩ := I1.tuple hq
        exact call_enumT (begins_tuple a its.toArray) (show s1.heap.IsTuple a its.toArray from p') fun h' he hit hk => wpAny_pyIter_enum he ⟨s1.heap.objs.size + 1, [s1.heap.objs.size + 1, s1.heap.objs.size], _, _, H1, rfl, I1.kept (t' := s1.toks) hk, turn_enumT a (s1.heap.objs.size + 1) s1.heap.objs.size, ⟨⟨.none, he⟩, ⟨_, hit, rfl, rfl⟩, Nat.succ_ne_self _⟩, fresh, q⟩
end
end AW

/-! AWIter2: the readings of what is walked. -/
namespace AW
open PySem L2 PyProof.Rows
/-- the iterator goes through the items, while what is walked stays -/
def IW (K : PySem.W.Frag) (F H : Hp) (σ : L2.St) (refs : List Nat) (s : Src) (J : L2.It) : Prop :=
  ∀ (F2 H2 : Hp) (S2 : AS) (env2 : Env) (σ2 : L2.St), Rel K F2 H2 env2 σ2 S2 → (∀ i ∈ refs, σ2[i]? = σ[i]?) → s.chk env2 → Ex F F2 → Tu H H2 →
    J.stop s.items.length H2 ∧ (∀ i, i < s.items.length → J.go i H2) ∧ ∀ i x H3, i < s.items.length → J.yld i H2 x H3 → ∃ d, s.items[i]? = some d ∧ Ex H2 H3 ∧ Rp K F2 H3 d x No
def rdI (K : PySem.W.Frag) (Wx : L2.St → Nat → Hp → Prop) (refs : List Nat) (r : Env → R Src) : TI := fun σ H R => ∃ F env S, Rel K F H env σ S ∧
  Post K Wx σ F H S (r env) fun s env' => ∀ F' H' S' J, Rel K F' H' env' σ S' → Stp F H S F' H' S' → IW K F' H' σ refs s J → R J H'
section
variable {T : Tb} {ca : Nat → Addr} {Wx : L2.St → Nat → Hp → Prop} {q : Nat → List D → R D} {G : Nat → D} {N : List Str} {X : Cx} {sc : Scope} {fn : Str → Bool} {tg : Expr}
theorem opd_isref {a : E} {env env' : Env} {o : Op} (hp : isPth a = false) (h : opd a (eval q G a) env = .ok o env') : opRef o = true ∧ ∀ i, o = .ref i → refE a = [i] := by
  have hr : opRef o = true := by
    rcases ord_ok (b := .call 0 .nil) (by unfold ord; rw [hp]; rfl) h with z | z
    · exact z
    · cases z
  refine ⟨hr, fun i e => ?_⟩
  subst e
  by_cases hv : ∃ j, a = .var j
  · obtain ⟨j, rfl⟩ := hv
    have h : (if (gt env j).isSome = true then R.ok (Op.ref j) env else .no) = .ok (.ref i) env' := h
    split at h
    · cases h
      rfl
    · cases h
  · rw [opd_val (fun i e => hv ⟨i, e⟩) (fun i k e => by rw [e] at hp; cases hp)] at h
    have h : (eval q G a env).bind (fun d e => if okF d = true then R.ok (Op.val (frz d)) e else .no) = .ok (.ref i) env' := h
    revert h
    generalize eval q G a env = z
    intro h
    cases z with
    | ok d e =>
      have h : (if okF d = true then R.ok (Op.val (frz d)) e else .no) = .ok (.ref i) env' := h
      split at h <;> cases h
    | exc c e => cases h
    | no => cases h
theorem RpL.carry {K : PySem.W.Frag} {F H F2 H2 : Hp} {ds : List D} {vs : List V} {S : AS} (h : RpL K F H ds vs S) (n : noOwns ds = true) (eF : Ex F F2) (tu : Tu H H2) : RpL K F2 H2 ds vs No :=
  RpL.mono eF tu _ _ _ _ (fun _ z => z) (fun _ _ z => z.elim) (RpL.free _ _ _ n h)
theorem seqOf_lst {b : Bool} {es ds : List D} (h : seqOf (.lst b es) = some ds) : es = ds ∧ noOwns es = true := by
  have h : (if noOwns es = true then some es else none) = some ds := h
  by_cases c : noOwns es = true
  · rw [if_pos c] at h
    exact ⟨Option.some.inj h, c⟩
  · rw [if_neg c] at h
    cases h
theorem seqOf_tup {es ds : List D} (h : seqOf (.tup es) = some ds) : es = ds ∧ noOwns es = true := by
  have h : (if noOwns es = true then some es else none) = some ds := h
  by_cases c : noOwns es = true
  · rw [if_pos c] at h
    exact ⟨Option.some.inj h, c⟩
  · rw [if_neg c] at h
    cases h
/-- what an operand holds is walked: it stays a list or a tuple of the same items -/
theorem sq_view {K : PySem.W.Frag} {F1 H1 : Hp} {S1 : AS} {env1 : Env} {σ : L2.St} {o : Op} {v : V} {d : D} {ds : List D} (ov : OpV K F1 H1 σ o v) (r1 : Rel K F1 H1 env1 σ S1) (hr : opRef o = true) (hg : o.get env1 = some d) (hs : seqOf d = some ds) :
    ∃ p, v = .ref p ∧ ∀ (F2 H2 : Hp) (S2 : AS) (env2 : Env) (σ2 : L2.St), Rel K F2 H2 env2 σ2 S2 → (∀ i, o = .ref i → σ2[i]? = σ[i]?) → opChk o env1 env2 → Ex F1 F2 → Tu H1 H2 →
      ∃ vs, (if isTp d = true then SqT K H2 p vs else SqL K H2 p vs) ∧ RpL K F2 H2 ds vs No := by
  obtain ⟨Sa, _, p1⟩ := ov.view r1 hg
  cases d with
  | tup es =>
    obtain ⟨e, n⟩ := seqOf_tup hs
    subst e
    obtain ⟨p, vs, ev, ht, hl⟩ := p1
    exact ⟨p, ev, fun F2 H2 S2 env2 σ2 r2 _ _ eF tu => ⟨vs, (if_pos (show isTp (D.tup es) = true from rfl)).mpr (tu_t tu ht), hl.carry n eF tu⟩⟩
  | lst b es =>
    obtain ⟨e, n⟩ := seqOf_lst hs
    subst e
    cases o with
    | refp i k => cases hr
    | val c =>
      cases hg
      have hn : noOwn (D.lst b es) = true := ov.1
      obtain ⟨p, vs, ev, ht, hl⟩ := p1
      cases b with
      | true => cases hn
      | false =>
        rw [if_neg (by decide)] at ht
        exact ⟨p, ev, fun F2 H2 S2 env2 σ2 r2 _ _ eF tu => ⟨vs, (if_neg (show ¬ isTp (D.lst false es) = true from fun z => by cases z)).mpr (ex_l r2.ex (ex_l eF ht)), hl.carry n eF tu⟩⟩
    | ref i =>
      obtain ⟨p, vs, ev, ht, hl⟩ := p1
      refine ⟨p, ev, fun F2 H2 S2 env2 σ2 r2 hσ hc eF tu => ?_⟩
      have hc : gt env2 i = gt env1 i := hc
      have hg : gt env1 i = some (.lst b es) := hg
      obtain ⟨w, S3, g1, g2, g3⟩ := r2.at (hc.trans hg)
      rw [hσ i rfl] at g1
      have ov : σ[i]? = some (some v) := ov
      rw [ov] at g1
      cases g1
      obtain ⟨p', vs', ev', ht', hl'⟩ := Rp.lstL r2.ex g3
      rw [ev] at ev'
      cases ev'
      exact ⟨vs', (if_neg (show ¬ isTp (D.lst b es) = true from fun z => by cases z)).mpr ht', RpL.free _ _ _ n hl'⟩
  | _ => cases hs
theorem RpL.at_no {K : PySem.W.Frag} {F H : Hp} {ds : List D} {vs : List V} {i : Nat} (h : RpL K F H ds vs No) (hi : i < ds.length) : ∃ d v, ds[i]? = some d ∧ vs[i]? = some v ∧ Rp K F H d v No := by
  have hd : ds[i]? = some ds[i] := by simp [hi]
  obtain ⟨v, S1, g1, g2, g3⟩ := h.get hd
  exact ⟨_, v, hd, g1, Rp.mono (Ex.refl F) (Tu.refl H) _ _ _ _ g2 (fun _ _ _ z => z) g3⟩
theorem iw_list {K : PySem.W.Frag} {F H : Hp} {σ : L2.St} {refs : List Nat} {p : Addr} {ds : List D} {chk : Env → Prop} (h : ∀ (F2 H2 : Hp) (S2 : AS) (env2 : Env) (σ2 : L2.St), Rel K F2 H2 env2 σ2 S2 → (∀ i ∈ refs, σ2[i]? = σ[i]?) → chk env2 → Ex F F2 → Tu H H2 → ∃ vs, SqL K H2 p vs ∧ RpL K F2 H2 ds vs No) :
    IW K F H σ refs ⟨ds, chk⟩ (Itl K p) := fun F2 H2 S2 env2 σ2 r2 hσ hc eF tu => by
  obtain ⟨vs, hq, hl⟩ := h F2 H2 S2 env2 σ2 r2 hσ hc eF tu
  refine ⟨⟨vs, hq, Nat.le_of_eq hl.len.symm⟩, fun i hi => ?_, fun i x H3 hi y => ?_⟩
  · obtain ⟨d, v, _, h2, _⟩ := hl.at_no hi
    exact ⟨vs, v, hq, h2⟩
  · obtain ⟨d, v, h1, h2, h3⟩ := hl.at_no hi
    obtain ⟨rfl, y⟩ := y
    have e := y vs hq
    rw [h2] at e
    cases e
    exact ⟨d, h1, Ex.refl _, h3⟩
theorem iw_tup {K : PySem.W.Frag} {F H : Hp} {σ : L2.St} {refs : List Nat} {p : Addr} {ds : List D} {chk : Env → Prop} (h : ∀ (F2 H2 : Hp) (S2 : AS) (env2 : Env) (σ2 : L2.St), Rel K F2 H2 env2 σ2 S2 → (∀ i ∈ refs, σ2[i]? = σ[i]?) → chk env2 → Ex F F2 → Tu H H2 → ∃ vs, SqT K H2 p vs ∧ RpL K F2 H2 ds vs No) :
    IW K F H σ refs ⟨ds, chk⟩ (Itt K p) := fun F2 H2 S2 env2 σ2 r2 hσ hc eF tu => by
  obtain ⟨vs, hq, hl⟩ := h F2 H2 S2 env2 σ2 r2 hσ hc eF tu
  refine ⟨⟨vs, hq, Nat.le_of_eq hl.len.symm⟩, fun i hi => ?_, fun i x H3 hi y => ?_⟩
  · obtain ⟨d, v, _, h2, _⟩ := hl.at_no hi
    exact ⟨vs, v, hq, h2⟩
  · obtain ⟨d, v, h1, h2, h3⟩ := hl.at_no hi
    obtain ⟨rfl, y⟩ := y
    have e := y vs hq
    rw [h2] at e
    cases e
    exact ⟨d, h1, Ex.refl _, h3⟩
theorem iw_str {K : PySem.W.Frag} {F H : Hp} {σ : L2.St} {refs : List Nat} {cs : List Nat} {chk : Env → Prop} : IW K F H σ refs ⟨cs.map fun c => .str [c], chk⟩ (Its (tx cs)) := fun F2 H2 S2 env2 σ2 r2 hσ hc eF tu => by
  have hz : (tx cs).cps.size = cs.length := by simp
  refine ⟨?_, fun i hi => ?_, fun i x H3 hi y => ?_⟩
  · show (tx cs).cps.size ≤ _
    simp
  · show i < (tx cs).cps.size
    simpa using hi
  · obtain ⟨rfl, c, hc, rfl⟩ := y
    refine ⟨.str [c], ?_, Ex.refl _, rfl⟩
    have e : cs[i]? = some c := by simpa using hc
    show (cs.map fun c => D.str [c])[i]? = some (.str [c])
    rw [List.getElem?_map, e]
    rfl
theorem iw_tab {K : PySem.W.Frag} {F H : Hp} {σ : L2.St} {refs : List Nat} {p : Addr} {ep : Nat} {xs : List (NestedKey × Addr × Value)} {ks : List D} {chk : Env → Prop} (ht : F p = some (tab p ep xs)) (hl : RpL K F H ks (xs.map kref) No) : IW K F H σ refs ⟨ks, chk⟩ (Itab p ep xs) := fun F2 H2 S2 env2 σ2 r2 hσ hc eF tu => by
  have hp : H2 p = some (tab p ep xs) := r2.ex _ _ (eF _ _ ht)
  have hl2 : RpL K F2 H2 ks (xs.map kref) No := RpL.mono eF tu _ _ _ _ (fun _ z => z) (fun _ _ z => z.elim) hl
  have hz : ks.length = xs.length := by rw [hl.len, List.length_map]
  refine ⟨⟨hp, Nat.le_of_eq hz.symm⟩, fun i hi => ⟨hp, by rw [← hz]; exact hi⟩, fun i x H3 hi y => ?_⟩
  obtain ⟨rfl, e, he, rfl⟩ := y
  obtain ⟨d, v, h1, h2, h3⟩ := hl2.at_no hi
  rw [List.getElem?_map, he] at h2
  cases h2
  exact ⟨d, h1, Ex.refl _, h3⟩
theorem iw_rng {K : PySem.W.Frag} {F H : Hp} {σ : L2.St} {refs : List Nat} {lo : Int} {n : Nat} {chk : Env → Prop} : IW K F H σ refs ⟨rngD lo n, chk⟩ (Itr lo n) := fun F2 H2 S2 env2 σ2 r2 hσ hc eF tu => by
  have hl : (rngD lo n).length = n := by simp [rngD]
  refine ⟨?_, fun i hi => ?_, fun i x H3 hi y => ?_⟩
  · show n ≤ (rngD lo n).length
    rw [hl]
    exact Nat.le_refl n
  · show i < n
    have hi : i < (rngD lo n).length := hi
    rw [hl] at hi
    exact hi
  · obtain ⟨rfl, rfl⟩ := y
    have hi : i < (rngD lo n).length := hi
    rw [hl] at hi
    refine ⟨.int (lo + (i : Nat)), ?_, Ex.refl _, rfl⟩
    show (rngD lo n)[i]? = _
    unfold rngD
    rw [List.getElem?_map, List.getElem?_range hi]
    rfl
theorem enumD_len : ∀ (k : Nat) (ds : List D), (enumD k ds).length = ds.length
  | _, [] => rfl
  | k, d :: ds => by rw [enumD, List.length_cons, List.length_cons, enumD_len (k + 1) ds]
theorem enumD_get : ∀ (k : Nat) (ds : List D) (i : Nat) (d : D), ds[i]? = some d → (enumD k ds)[i]? = some (.tup [.int ((k + i : Nat) : Int), d])
  | _, [], _, _, h => by simp at h
  | k, c :: ds, 0, d, h => by
    simp at h
    subst h
    rfl
  | k, c :: ds, i + 1, d, h => by
    have e := enumD_get (k + 1) ds i d (by simpa using h)
    have e2 : k + 1 + i = k + (i + 1) := by omega
    rw [e2] at e
    simpa [enumD] using e
theorem pair_rp {K : PySem.W.Frag} {F H : Hp} {P : Addr} {x y : V} {d e : D} (hp : H P = none) (h1 : Rp K F H d x No) (h2 : Rp K F H e y No) : Ex H (upd H P (.tup [x, y])) ∧ Rp K F (upd H P (.tup [x, y])) (.tup [d, e]) (.ref P) No := by
  have ex := Ex.new (o := .tup [x, y]) hp
  have m : ∀ {c : D} {z : V}, Rp K F H c z No → Rp K F (upd H P (.tup [x, y])) c z No := fun h => Rp.mono (Ex.refl F) ex.tu _ _ _ _ (fun _ z => z) (fun _ _ z => z.elim) h
  exact ⟨ex, P, [x, y], rfl, SqT.of upd_same, x, [y], No, No, rfl, fun _ z => z, fun _ z => z, fun _ z _ => z, m h1, y, [], No, No, rfl, fun _ z => z, fun _ z => z, fun _ z _ => z, m h2, rfl⟩
theorem iw_enum {K : PySem.W.Frag} {F H : Hp} {σ : L2.St} {refs : List Nat} {p : Addr} {ds : List D} {chk : Env → Prop} (h : ∀ (F2 H2 : Hp) (S2 : AS) (env2 : Env) (σ2 : L2.St), Rel K F2 H2 env2 σ2 S2 → (∀ i ∈ refs, σ2[i]? = σ[i]?) → chk env2 → Ex F F2 → Tu H H2 → ∃ vs, SqL K H2 p vs ∧ RpL K F2 H2 ds vs No) :
    IW K F H σ refs ⟨enumD 0 ds, chk⟩ (Ite K p) := fun F2 H2 S2 env2 σ2 r2 hσ hc eF tu => by
  obtain ⟨vs, hq, hl⟩ := h F2 H2 S2 env2 σ2 r2 hσ hc eF tu
  have el : (enumD 0 ds).length = ds.length := enumD_len 0 ds
  refine ⟨⟨vs, hq, ?_⟩, fun i hi => ?_, fun i x H3 hi y => ?_⟩
  · show vs.length ≤ (enumD 0 ds).length
    rw [el, hl.len]
    exact Nat.le_refl _
  · have hi : i < (enumD 0 ds).length := hi
    rw [el] at hi
    obtain ⟨d, v, _, h2, _⟩ := hl.at_no hi
    exact ⟨vs, v, hq, h2⟩
  · have hi : i < (enumD 0 ds).length := hi
    rw [el] at hi
    obtain ⟨d, v, h1, h2, h3⟩ := hl.at_no hi
    obtain ⟨P, w, rfl, hP, rfl, y⟩ := y
    have e := y vs hq
    rw [h2] at e
    cases e
    obtain ⟨a, b⟩ := pair_rp (d := .int ((i : Nat) : Int)) (x := .int ((i : Nat) : Int)) hP rfl h3
    refine ⟨_, ?_, a, b⟩
    have z := enumD_get 0 ds i d h1
    rw [Nat.zero_add] at z
    exact z
theorem iw_enumT {K : PySem.W.Frag} {F H : Hp} {σ : L2.St} {refs : List Nat} {p : Addr} {ds : List D} {chk : Env → Prop} (h : ∀ (F2 H2 : Hp) (S2 : AS) (env2 : Env) (σ2 : L2.St), Rel K F2 H2 env2 σ2 S2 → (∀ i ∈ refs, σ2[i]? = σ[i]?) → chk env2 → Ex F F2 → Tu H H2 → ∃ vs, SqT K H2 p vs ∧ RpL K F2 H2 ds vs No) :
    IW K F H σ refs ⟨enumD 0 ds, chk⟩ (ItET K p) := fun F2 H2 S2 env2 σ2 r2 hσ hc eF tu => by
  obtain ⟨vs, hq, hl⟩ := h F2 H2 S2 env2 σ2 r2 hσ hc eF tu
  have el : (enumD 0 ds).length = ds.length := enumD_len 0 ds
  refine ⟨⟨vs, hq, ?_⟩, fun i hi => ?_, fun i x H3 hi y => ?_⟩
  · show vs.length ≤ (enumD 0 ds).length
    rw [el, hl.len]
    exact Nat.le_refl _
  · have hi : i < (enumD 0 ds).length := hi
    rw [el] at hi
    obtain ⟨d, v, _, h2, _⟩ := hl.at_no hi
    exact ⟨vs, v, hq, h2⟩
  · have hi : i < (enumD 0 ds).length := hi
    rw [el] at hi
    obtain ⟨d, v, h1, h2, h3⟩ := hl.at_no hi
    obtain ⟨P, w, rfl, hP, rfl, y⟩ := y
    have e := y vs hq
    rw [h2] at e
    cases e
    obtain ⟨a, b⟩ := pair_rp (d := .int ((i : Nat) : Int)) (x := .int ((i : Nat) : Int)) hP rfl h3
    refine ⟨_, ?_, a, b⟩
    have z := enumD_get 0 ds i d h1
    rw [Nat.zero_add] at z
    exact z
theorem zipD_len : ∀ (ds es : List D), (zipD ds es).length = min ds.length es.length
  | [], es => by simp [zipD]
  | d :: ds, [] => by simp [zipD]
  | d :: ds, e :: es => by
    rw [zipD, List.length_cons, zipD_len ds es, List.length_cons, List.length_cons]
    omega
theorem zipD_get : ∀ (ds es : List D) (i : Nat) (d e : D), ds[i]? = some d → es[i]? = some e → (zipD ds es)[i]? = some (.tup [d, e])
  | [], _, _, _, _, h, _ => by simp at h
  | _ :: _, [], _, _, _, _, h => by simp at h
  | c :: ds, k :: es, 0, d, e, h, h2 => by
    simp at h h2
    subst h h2
    rfl
  | c :: ds, k :: es, i + 1, d, e, h, h2 => by
    have z := zipD_get ds es i d e (by simpa using h) (by simpa using h2)
    simpa [zipD] using z
theorem iw_zip {K : PySem.W.Frag} {F H : Hp} {σ : L2.St} {refs : List Nat} {p p' : Addr} {ds es : List D} {chk : Env → Prop} (h : ∀ (F2 H2 : Hp) (S2 : AS) (env2 : Env) (σ2 : L2.St), Rel K F2 H2 env2 σ2 S2 → (∀ i ∈ refs, σ2[i]? = σ[i]?) → chk env2 → Ex F F2 → Tu H H2 → ∃ vs ws, SqL K H2 p vs ∧ SqL K H2 p' ws ∧ RpL K F2 H2 ds vs No ∧ RpL K F2 H2 es ws No) :
    IW K F H σ refs ⟨zipD ds es, chk⟩ (Itz K p p') := fun F2 H2 S2 env2 σ2 r2 hσ hc eF tu => by
  obtain ⟨vs, ws, hq, hq', hl, hl'⟩ := h F2 H2 S2 env2 σ2 r2 hσ hc eF tu
  have el : (zipD ds es).length = min ds.length es.length := zipD_len ds es
  refine ⟨⟨vs, ws, hq, hq', ?_⟩, fun i hi => ?_, fun i x H3 hi y => ?_⟩
  · show vs.length ≤ (zipD ds es).length ∨ ws.length ≤ (zipD ds es).length
    rw [el, hl.len, hl'.len]
    omega
  · have hi : i < (zipD ds es).length := hi
    rw [el] at hi
    obtain ⟨d, v, _, h2, _⟩ := hl.at_no (i := i) (by omega)
    obtain ⟨d', v', _, h2', _⟩ := hl'.at_no (i := i) (by omega)
    exact ⟨vs, ws, v, v', hq, hq', h2, h2'⟩
  · have hi : i < (zipD ds es).length := hi
    rw [el] at hi
    obtain ⟨d, v, h1, h2, h3⟩ := hl.at_no (i := i) (by omega)
    obtain ⟨d', v', h1', h2', h3'⟩ := hl'.at_no (i := i) (by omega)
    obtain ⟨P, w, w', rfl, hP, rfl, y, y'⟩ := y
    have e := y vs hq
    rw [h2] at e
    cases e
    have e := y' ws hq'
    rw [h2'] at e
    cases e
    obtain ⟨a, b⟩ := pair_rp hP h3 h3'
    exact ⟨_, zipD_get ds es i d d' h1 h1', a, b⟩
theorem iw_zipT {K : PySem.W.Frag} {F H : Hp} {σ : L2.St} {refs : List Nat} {p p' : Addr} {ds es : List D} {chk : Env → Prop} (h : ∀ (F2 H2 : Hp) (S2 : AS) (env2 : Env) (σ2 : L2.St), Rel K F2 H2 env2 σ2 S2 → (∀ i ∈ refs, σ2[i]? = σ[i]?) → chk env2 → Ex F F2 → Tu H H2 → ∃ vs ws, SqT K H2 p vs ∧ SqT K H2 p' ws ∧ RpL K F2 H2 ds vs No ∧ RpL K F2 H2 es ws No) :
    IW K F H σ refs ⟨zipD ds es, chk⟩ (RZ.ItzT K p p') := fun F2 H2 S2 env2 σ2 r2 hσ hc eF tu => by
  obtain ⟨vs, ws, hq, hq', hl, hl'⟩ := h F2 H2 S2 env2 σ2 r2 hσ hc eF tu
  have el : (zipD ds es).length = min ds.length es.length := zipD_len ds es
  refine ⟨⟨vs, ws, hq, hq', ?_⟩, fun i hi => ?_, fun i x H3 hi y => ?_⟩
  · show vs.length ≤ (zipD ds es).length ∨ ws.length ≤ (zipD ds es).length
    rw [el, hl.len, hl'.len]
    omega
  · have hi : i < (zipD ds es).length := hi
    rw [el] at hi
    obtain ⟨d, v, _, h2, _⟩ := hl.at_no (i := i) (by omega)
    obtain ⟨d', v', _, h2', _⟩ := hl'.at_no (i := i) (by omega)
    exact ⟨vs, ws, v, v', hq, hq', h2, h2'⟩
  · have hi : i < (zipD ds es).length := hi
    rw [el] at hi
    obtain ⟨d, v, h1, h2, h3⟩ := hl.at_no (i := i) (by omega)
    obtain ⟨d', v', h1', h2', h3'⟩ := hl'.at_no (i := i) (by omega)
    obtain ⟨P, w, w', rfl, hP, rfl, y, y'⟩ := y
    have e := y vs hq
    rw [h2] at e
    cases e
    have e := y' ws hq'
    rw [h2'] at e
    cases e
    obtain ⟨a, b⟩ := pair_rp hP h3 h3'
    exact ⟨_, zipD_get ds es i d d' h1 h1', a, b⟩
/-! ### the rules -/
theorem PI.at {K : PySem.W.Frag} {Wx : L2.St → Nat → Hp → Prop} : True := trivial
theorem itemsOf_seq {d : D} {ds : List D} (h : itemsOf d = some ds) : seqOf d = some ds ∨ (∃ cs, d = .str cs ∧ ds = cs.map fun c => .str [c]) ∨ ∃ vs, d = .dtp false ds vs := by
  cases d with
  | lst b es => exact Or.inl h
  | tup es => exact Or.inl h
  | str cs =>
    cases h
    exact Or.inr (Or.inl ⟨cs, rfl, rfl⟩)
  | dtp o ks vs =>
    have h : (if (!o && noOwns ks) = true then some ks else none) = some ds := h
    split at h
    · rename_i c
      cases h
      rw [Bool.and_eq_true] at c
      cases o with
      | true => cases c.1
      | false => exact Or.inr (Or.inr ⟨vs, rfl⟩)
    · cases h
  | _ => cases h
theorem c_seq {a : E} {e : Expr} (hp : isPth a = false) (h : PE X e (rdO X.K Wx (still a) (opd a (eval q G a)))) : PI X tg e (rdI X.K Wx (refsI (.seq a)) (evalIt q G (.seq a))) := by
  refine PI.weak (pi_seq h) fun σ H R ⟨F, env, S, r, hm⟩ => ⟨F, env, S, r, ?_⟩
  have hm : Post X.K Wx σ F H S ((opd a (eval q G a) env).bind fun o e1 => lift (((o.get e1).bind itemsOf).map fun ds => (⟨ds, opChk o e1⟩ : Src)) e1) _ := hm
  refine hm.bind.eq.imp fun o env1 ⟨he, hd⟩ F1 H1 S1 v r1 ov s1 st => ?_
  obtain ⟨hr, href⟩ := opd_isref hp he
  obtain ⟨s, hs, hd⟩ := Post.lift hd
  obtain ⟨ds, hi, rfl⟩ := Option.map_eq_some_iff.mp hs
  obtain ⟨d, hg, hi⟩ := Option.bind_eq_some_iff.mp hi
  rcases itemsOf_seq hi with hq | ⟨cs, rfl, rfl⟩ | ⟨ws, rfl⟩
  · obtain ⟨p, rfl, k⟩ := sq_view ov r1 hr hg hq
    have fr : ∀ {σ2 : L2.St}, (∀ i ∈ refE a, σ2[i]? = σ[i]?) → ∀ i, o = .ref i → σ2[i]? = σ[i]? := fun z i ei => z i (by rw [href i ei]; exact List.mem_cons_self ..)
    obtain ⟨vs, kv, _⟩ := k F1 H1 S1 env1 σ r1 (fun _ _ => rfl) (by cases o <;> first | rfl | trivial) (Ex.refl _) (Tu.refl _)
    by_cases ht : isTp d = true
    · rw [if_pos ht] at kv
      refine Or.inr (Or.inl ⟨p, vs, rfl, kv, hd F1 H1 S1 _ r1 s1 (iw_tup fun F2 H2 S2 env2 σ2 r2 hσ hc eF tu => ?_)⟩)
      obtain ⟨ws, k1, k2⟩ := k F2 H2 S2 env2 σ2 r2 (fr hσ) hc eF tu
      rw [if_pos ht] at k1
      exact ⟨ws, k1, k2⟩
    · rw [if_neg ht] at kv
      refine Or.inl ⟨p, vs, rfl, kv, hd F1 H1 S1 _ r1 s1 (iw_list fun F2 H2 S2 env2 σ2 r2 hσ hc eF tu => ?_)⟩
      obtain ⟨ws, k1, k2⟩ := k F2 H2 S2 env2 σ2 r2 (fr hσ) hc eF tu
      rw [if_neg ht] at k1
      exact ⟨ws, k1, k2⟩
  · obtain ⟨Sa, _, p1⟩ := ov.view r1 hg
    exact Or.inr (Or.inr (Or.inl ⟨tx cs, p1, hd F1 H1 S1 _ r1 s1 iw_str⟩))
  · obtain ⟨Sa, _, p1⟩ := ov.view r1 hg
    obtain ⟨p, ep, xs, us, e, ht, hk, hu, hkl, hl⟩ := p1
    rw [if_neg (by decide)] at ht
    exact Or.inr (Or.inr (Or.inr ⟨p, ep, xs, e, hk.sm, r1.ex _ _ ht, hd F1 H1 S1 _ r1 s1 (iw_tab ht hkl)⟩))
theorem c_enum {a : E} {e : Expr} {p pos tpos : Pos} {elts : List Expr} {kk : Nat} (g : Good T ca Wx q G N X sc fn) (hb : T.bls.contains ("enumerate" : Str) = true) (hg : glb sc ("enumerate" : Str) = true) (hp : isPth a = false) (hs : ∀ es, starEach (e :: es) X.env = (false, PySem.eval e X.env) :: starEach es X.env)
    (h : PE X e (rdO X.K Wx (still a) (opd a (eval q G a)))) : PI X (.Tuple elts kk tpos) (.Call (.Name "enumerate" p) [e] [] pos) (rdI X.K Wx (refsI (.enum a)) (evalIt q G (.enum a))) := by
  refine PI.weak (pi_enumA (glb_ok g.sc hg).1 (g.bls _ hb) h (hs [])) fun σ H R ⟨F, env, S, r, hm⟩ => ⟨F, env, S, r, ?_⟩
  have hm : Post X.K Wx σ F H S ((opd a (eval q G a) env).bind fun o e1 => lift (((o.get e1).bind seqOf).map fun ds => (⟨enumD 0 ds, opChk o e1⟩ : Src)) e1) _ := hm
  refine hm.bind.eq.imp fun o env1 ⟨he, hd⟩ F1 H1 S1 v r1 ov s1 st => ?_
  obtain ⟨hr, href⟩ := opd_isref hp he
  obtain ⟨s, hs, hd⟩ := Post.lift hd
  obtain ⟨ds, hi, rfl⟩ := Option.map_eq_some_iff.mp hs
  obtain ⟨d, hg, hq⟩ := Option.bind_eq_some_iff.mp hi
  obtain ⟨p, rfl, k⟩ := sq_view ov r1 hr hg hq
  have fr : ∀ {σ2 : L2.St}, (∀ i ∈ refE a, σ2[i]? = σ[i]?) → ∀ i, o = .ref i → σ2[i]? = σ[i]? := fun z i ei => z i (by rw [href i ei]; exact List.mem_cons_self ..)
  obtain ⟨vs, kv, _⟩ := k F1 H1 S1 env1 σ r1 (fun _ _ => rfl) (by cases o <;> first | rfl | trivial) (Ex.refl _) (Tu.refl _)
  by_cases ht : isTp d = true
  · rw [if_pos ht] at kv
    refine ⟨p, vs, rfl, Or.inr ⟨kv, hd F1 H1 S1 _ r1 s1 (iw_enumT fun F2 H2 S2 env2 σ2 r2 hσ hc eF tu => ?_)⟩⟩
    obtain ⟨ws, k1, k2⟩ := k F2 H2 S2 env2 σ2 r2 (fr hσ) hc eF tu
    rw [if_pos ht] at k1
    exact ⟨ws, k1, k2⟩
  · rw [if_neg ht] at kv
    refine ⟨p, vs, rfl, Or.inl ⟨kv, hd F1 H1 S1 _ r1 s1 (iw_enum fun F2 H2 S2 env2 σ2 r2 hσ hc eF tu => ?_)⟩⟩
    obtain ⟨ws, k1, k2⟩ := k F2 H2 S2 env2 σ2 r2 (fr hσ) hc eF tu
    rw [if_neg ht] at k1
    exact ⟨ws, k1, k2⟩
theorem c_zip {a b : E} {e e2 : Expr} {p pos tpos : Pos} {elts : List Expr} {kk : Nat} (g : Good T ca Wx q G N X sc fn) (hb : T.bls.contains ("zip" : Str) = true) (hg : glb sc ("zip" : Str) = true) (hp : isPth a = false) (hp2 : isPth b = false) (hs : ∀ es, starEach (e :: es) X.env = (false, PySem.eval e X.env) :: starEach es X.env) (hs2 : ∀ es, starEach (e2 :: es) X.env = (false, PySem.eval e2 X.env) :: starEach es X.env)
    (h : PE X e (rdO X.K Wx (still a) (opd a (eval q G a)))) (h2 : PE X e2 (rdO X.K Wx (still b) (opd b (eval q G b)))) : PI X (.Tuple elts kk tpos) (.Call (.Name "zip" p) [e, e2] [] pos) (rdI X.K Wx (refsI (.zip2 a b)) (evalIt q G (.zip2 a b))) := by
  have hpl : (backTo pos (starEach [e2] X.env)).any (·.1) = false := by
    rw [hs2 []]
    rfl
  refine PI.weak (RZ.pi_zipA (glb_ok g.sc hg).1 (g.bls _ hb) (pa_cons h (pa_cons h2 pa_nil (hs2 _)) (hs _)) (hs _) hpl) fun σ H R ⟨F, env, S, r, hm⟩ => ⟨F, env, S, r, ?_⟩
  have hm : Post X.K Wx σ F H S ((opd a (eval q G a) env).bind fun x e1 => (opd b (eval q G b) e1).bind fun y e2 => lift (((x.get e2).bind fun a => (y.get e2).bind fun b => zip2D a b).map fun p => (⟨zipD p.1 p.2, fun e => opChk x e2 e ∧ opChk y e2 e⟩ : Src)) e2) _ := hm
  refine hm.bind.eq.imp fun o1 env1 ⟨he1, hd⟩ F1 H1 S1 v1 r1 ov1 s1 st1 => ⟨F1, env1, S1, r1, (hd.bind.eq.at s1).imp fun o2 env2 ⟨he2, hd⟩ F2 H2 S2 v2 r2 ov2 s2 st2 => ?_⟩
  obtain ⟨hr1, href1⟩ := opd_isref hp he1
  obtain ⟨hr2, href2⟩ := opd_isref hp2 he2
  have ov1 := ov1.keep s2 (Or.inl hr1)
  obtain ⟨s, hs, hd⟩ := Post.lift hd
  obtain ⟨pq, hi, rfl⟩ := Option.map_eq_some_iff.mp hs
  obtain ⟨d1, hg1, hi⟩ := Option.bind_eq_some_iff.mp hi
  obtain ⟨d2, hg2, hi⟩ := Option.bind_eq_some_iff.mp hi
  unfold zip2D at hi
  split at hi
  · rename_i hsame
    obtain ⟨ds, hq1, hi⟩ := Option.bind_eq_some_iff.mp hi
    obtain ⟨es, hq2, rfl⟩ := Option.map_eq_some_iff.mp hi
    obtain ⟨p1, rfl, k1⟩ := sq_view ov1 r2 hr1 hg1 hq1
    obtain ⟨p2, rfl, k2⟩ := sq_view ov2 r2 hr2 hg2 hq2
    have fr1 : ∀ {σ2 : L2.St}, (∀ i ∈ refE a ++ refE b, σ2[i]? = σ[i]?) → ∀ i, o1 = .ref i → σ2[i]? = σ[i]? := fun z i ei => z i (List.mem_append_left _ (by rw [href1 i ei]; exact List.mem_cons_self ..))
    have fr2 : ∀ {σ2 : L2.St}, (∀ i ∈ refE a ++ refE b, σ2[i]? = σ[i]?) → ∀ i, o2 = .ref i → σ2[i]? = σ[i]? := fun z i ei => z i (List.mem_append_right _ (by rw [href2 i ei]; exact List.mem_cons_self ..))
    obtain ⟨vs, kv, _⟩ := k1 F2 H2 S2 env2 σ r2 (fun _ _ => rfl) (by cases o1 <;> first | rfl | trivial) (Ex.refl _) (Tu.refl _)
    obtain ⟨ws, kw, _⟩ := k2 F2 H2 S2 env2 σ r2 (fun _ _ => rfl) (by cases o2 <;> first | rfl | trivial) (Ex.refl _) (Tu.refl _)
    have e12 := eq_of_beq hsame
    by_cases ht : isTp d1 = true
    · have ht2 : isTp d2 = true := by rw [← e12]; exact ht
      rw [if_pos ht] at kv
      rw [if_pos ht2] at kw
      refine ⟨p1, p2, vs, ws, rfl, Or.inr ⟨kv, kw, hd F2 H2 S2 _ r2 (s1.trans s2) (iw_zipT fun F3 H3 S3 env3 σ3 r3 hσ hc eF tu => ?_)⟩⟩
      obtain ⟨x1, a1, a2⟩ := k1 F3 H3 S3 env3 σ3 r3 (fr1 hσ) hc.1 eF tu
      obtain ⟨x2, b1, b2⟩ := k2 F3 H3 S3 env3 σ3 r3 (fr2 hσ) hc.2 eF tu
      rw [if_pos ht] at a1
      rw [if_pos ht2] at b1
      exact ⟨x1, x2, a1, b1, a2, b2⟩
    · have ht2 : ¬ isTp d2 = true := by rw [← e12]; exact ht
      rw [if_neg ht] at kv
      rw [if_neg ht2] at kw
      refine ⟨p1, p2, vs, ws, rfl, Or.inl ⟨kv, kw, hd F2 H2 S2 _ r2 (s1.trans s2) (iw_zip fun F3 H3 S3 env3 σ3 r3 hσ hc eF tu => ?_)⟩⟩
      obtain ⟨x1, a1, a2⟩ := k1 F3 H3 S3 env3 σ3 r3 (fr1 hσ) hc.1 eF tu
      obtain ⟨x2, b1, b2⟩ := k2 F3 H3 S3 env3 σ3 r3 (fr2 hσ) hc.2 eF tu
      rw [if_neg ht] at a1
      rw [if_neg ht2] at b1
      exact ⟨x1, x2, a1, b1, a2, b2⟩
  · cases hi
theorem c_rng1 {a : E} {e : Expr} {p pos : Pos} (g : Good T ca Wx q G N X sc fn) (hb : T.bls.contains ("range" : Str) = true) (hg : glb sc ("range" : Str) = true) (hs : ∀ es, starEach (e :: es) X.env = (false, PySem.eval e X.env) :: starEach es X.env)
    (h : PE X e (rdE X.K Wx (still a) (eval q G a))) : PI X tg (.Call (.Name "range" p) [e] [] pos) (rdI X.K Wx (refsI (.rng1 a)) (evalIt q G (.rng1 a))) := by
  refine PI.weak (pi_range1 (glb_ok g.sc hg).1 (g.bls _ hb) (pa_cons h pa_nil (hs _)) (hs _)) fun σ H RR ⟨F, env, S, r, hm⟩ => ⟨F, env, S, r, ?_⟩
  have hm : Post X.K Wx σ F H S ((eval q G a env).bind fun d e1 => match d with | .int n => if n < 2 ^ 62 ∧ -(2 ^ 62) < n then R.ok (⟨rngD 0 n.toNat, fun _ => True⟩ : Src) e1 else .no | _ => .no) _ := hm
  refine hm.bind.imp fun d env1 hd F1 H1 S1 T1 v r1 t1 s1 st => ?_
  cases d with
  | int n =>
    obtain ⟨hc, hd⟩ := Post.iff (show Post X.K Wx σ F H S (if n < 2 ^ 62 ∧ -(2 ^ 62) < n then R.ok (⟨rngD 0 n.toNat, fun _ => True⟩ : Src) env1 else .no) _ from hd)
    have e : v = .int n := t1.rp
    subst e
    exact ⟨n, rfl, by omega, hc.1, hd F1 H1 S1 _ r1 (s1.sub fun a z => Or.inl z) iw_rng⟩
  | _ => exact hd.elim
theorem c_rng2 {a b : E} {e e2 : Expr} {p pos : Pos} (g : Good T ca Wx q G N X sc fn) (hb : T.bls.contains ("range" : Str) = true) (hg : glb sc ("range" : Str) = true) (hs : ∀ es, starEach (e :: es) X.env = (false, PySem.eval e X.env) :: starEach es X.env) (hs2 : ∀ es, starEach (e2 :: es) X.env = (false, PySem.eval e2 X.env) :: starEach es X.env)
    (h : PE X e (rdE X.K Wx (still a) (eval q G a))) (h2 : PE X e2 (rdE X.K Wx (still b) (eval q G b))) : PI X tg (.Call (.Name "range" p) [e, e2] [] pos) (rdI X.K Wx (refsI (.rng2 a b)) (evalIt q G (.rng2 a b))) := by
  refine PI.weak (pi_range2 (glb_ok g.sc hg).1 (g.bls _ hb) (pa_cons h (pa_cons h2 pa_nil (hs2 _)) (hs _)) (by rw [hs, hs2]; rfl) (by rw [hs2]; rfl)) fun σ H RR ⟨F, env, S, r, hm⟩ => ⟨F, env, S, r, ?_⟩
  have hm : Post X.K Wx σ F H S ((eval q G a env).bind fun x e1 => (eval q G b e1).bind fun y e2 => match x, y with
    | .int lo, .int hi => if hi < 2 ^ 62 ∧ -(2 ^ 62) < hi ∧ lo < 2 ^ 62 ∧ -(2 ^ 62) < lo then R.ok (⟨rngD lo (hi - lo).toNat, fun _ => True⟩ : Src) e2 else .no
    | _, _ => .no) _ := hm
  refine hm.bind.imp fun d1 env1 hd F1 H1 S1 T1 v1 r1 t1 s1 st1 => ⟨F1, env1, S1, r1, (hd.bind.at (s1.sub fun a z => Or.inl z)).imp fun d2 env2 hd F2 H2 S2 T2 v2 r2 t2 s2 st2 => ?_⟩
  cases d1 with
  | int lo =>
    cases d2 with
    | int hi =>
      obtain ⟨hc, hd⟩ := Post.iff (show Post X.K Wx σ F H S (if hi < 2 ^ 62 ∧ -(2 ^ 62) < hi ∧ lo < 2 ^ 62 ∧ -(2 ^ 62) < lo then R.ok (⟨rngD lo (hi - lo).toNat, fun _ => True⟩ : Src) env2 else .no) _ from hd)
      have e1 : v1 = .int lo := t1.rp
      have e2 : v2 = .int hi := t2.rp
      subst e1 e2
      exact ⟨lo, hi, rfl, ⟨by omega, hc.2.2.1, by omega, hc.1⟩, hd F2 H2 S2 _ r2 ((s1.sub fun a z => Or.inl z).trans (s2.sub fun a z => Or.inl z)) iw_rng⟩
    | _ => exact hd.elim
  | _ => exact hd.elim
end
end AW

/-! AWLc: targets; list comprehensions. -/
namespace AW
open PySem L2 PyProof.Rows
/-! ### targets -/
def gNs : List Nat → TGs
  | [] => gNil
  | i :: is => gCons (gName i) (gNs is)
/-- a tuple or a list is unpacked -/
def gAny (K : PySem.W.Frag) (n : Nat) (t : TGs) : TG := fun v σ H Q => gTup K n t v σ H Q ∨ gLst K n t v σ H Q
def gOf (K : PySem.W.Frag) (t : List Nat) (tt : Bool) : TG := if tt then gAny K t.length (gNs t) else match t with | [i] => gName i | _ => fun _ _ _ _ => False
section
variable {T : Tb} {ca : Nat → Addr} {Wx : L2.St → Nat → Hp → Prop} {q : Nat → List D → R D} {G : Nat → D} {N : List Str} {X : Cx} {sc : Scope} {fn : Str → Bool}
theorem msto_ok (g : Good T ca Wx q G N X sc fn) {i : Nat} {x : Str} {p : Pos} (h : mSto N sc fn i x = true) : PG X (.Name x p) (gName i) := by
  unfold mSto at h
  rw [Bool.and_eq_true, Bool.or_eq_true, Bool.and_eq_true] at h
  have hN : X.N[i]? = some x := by rw [g.n]; simpa using h.1
  have hnd : X.N.Nodup := by rw [g.n]; exact g.nd
  rcases h.2 with h2 | h2
  · have h3 : X.env.scope.names.lookup x = some .local := by rw [g.sc]; simpa using h2
    exact pg_name hnd hN (Or.inl h3) (Or.inr h3)
  · have h3 : X.env.scope.names.lookup x = some .cell := by rw [g.sc]; simpa using h2.1
    exact pg_name hnd hN (Or.inr h3) (Or.inl (g.fn x h2.2))
theorem stos_ok (g : Good T ca Wx q G N X sc fn) : ∀ {t : List Nat} {es : List Expr}, mStos N sc fn t es = true → PGs X es (gNs t) ∧ (assignEach es X.env).length = t.length ∧ (assignEach es X.env).findIdx? (·.1) = none
  | [], es, h => by
    cases es with
    | nil => exact ⟨pgs_nil, rfl, rfl⟩
    | cons e es => cases h
  | i :: is, es, h => by
    match es, h with
    | .Name x p :: es, h =>
      have h : (mSto N sc fn i x && mStos N sc fn is es) = true := h
      rw [Bool.and_eq_true] at h
      obtain ⟨a, b, c⟩ := stos_ok g h.2
      refine ⟨pgs_cons (msto_ok g h.1) a rfl, ?_, ?_⟩
      · show (assignEach es X.env).length + 1 = _
        rw [b]
        rfl
      · show List.findIdx? (·.1) ((false, assign (.Name x p) X.env) :: assignEach es X.env) = none
        rw [List.findIdx?_cons]
        simp only [Bool.false_eq_true, if_false, c]
        rfl
theorem pg_of (g : Good T ca Wx q G N X sc fn) {t : List Nat} {tt : Bool} {e : Expr} (h : mTg N sc fn t tt e = true) : PG X e (gOf X.K t tt) := by
  match e, h with
  | .Name x p, h =>
    cases tt with
    | true => cases h
    | false =>
      match t, h with
      | [i], h => exact msto_ok g h
  | .Tuple es k p, h =>
    cases tt with
    | false => cases h
    | true =>
      obtain ⟨a, b, c⟩ := stos_ok g (show mStos N sc fn t es = true from h)
      exact ⟨fun pins s σ H v u Q I r hw => hw.elim (fun h => (pg_tup (k := k) (pos := p) g.calm a b c).run pins s σ H v u Q I r h) fun h => (pg_lst (k := k) (pos := p) g.calm a b c).run pins s σ H v u Q I r h⟩
end
section
variable {K : PySem.W.Frag} {F H : Hp} {S T : AS} {env env1 : Env} {σ : L2.St} {d : D} {x : V}
theorem EnvR.len' (h : Rel K F H env σ S) : env.length = σ.length := h.en.len
theorem put_any (r : Rel K F H env σ S) {i : Nat} (t : Tmp K F H S d x T) : ∃ S', Rel K F H (env.set i (some d)) (σ.set i (some x)) S' ∧ Sub S' (Un2 S T) := by
  by_cases hi : i < env.length
  · exact r.put hi t
  · have e1 : env.set i (some d) = env := List.set_eq_of_length_le (Nat.le_of_not_lt hi)
    have e2 : σ.set i (some x) = σ := List.set_eq_of_length_le (by rw [← r.en.len]; exact Nat.le_of_not_lt hi)
    rw [e1, e2]
    exact ⟨S, r, fun a z => Or.inl z⟩
theorem setAll_ok : ∀ {t : List Nat} {ds : List D} {vs : List V} {env env1 : Env} {σ : L2.St} {S T : AS} {Q : L2.St → Hp → Prop}, setAll t ds env = some env1 → Rel K F H env σ S → RpL K F H ds vs T → (∀ a, T a → F a = none ∧ H a ≠ none ∧ ¬ S a) →
    (∀ σ' S', Rel K F H env1 σ' S' → Sub S' (Un2 S T) → (∀ j, j ∉ t → σ'[j]? = σ[j]?) → Q σ' H) → gNs t vs σ H Q
  | [], ds, vs, env, env1, σ, S, T, Q, h, r, l, tk, k => by
    cases ds with
    | cons d ds => cases h
    | nil =>
      cases h
      have l : vs = [] := l
      subst l
      exact ⟨rfl, k σ S r (fun a z => Or.inl z) fun _ _ => rfl⟩
  | i :: is, ds, vs, env, env1, σ, S, T, Q, h, r, l, tk, k => by
    cases ds with
    | nil => cases h
    | cons d ds =>
      have h : setAll is ds (env.set i (some d)) = some env1 := h
      obtain ⟨v, w, T1, T2, e, s1, s2, dj, h1, h2⟩ := l
      subst e
      obtain ⟨S', r', hs⟩ := put_any (i := i) r ⟨h1, fun a z => tk a (s1 a z)⟩
      refine ⟨v, w, rfl, ?_⟩
      show gNs is w (σ.set i (some v)) H Q
      refine setAll_ok h r' h2 (fun a z => ⟨(tk a (s2 a z)).1, (tk a (s2 a z)).2.1, fun y => ?_⟩) fun σ' S2 r2 hs2 hj => k σ' S2 r2 (fun a z => ?_) fun j hj' => ?_
      · rcases hs a y with y | y
        · exact (tk a (s2 a z)).2.2 y
        · exact dj a y z
      · rcases hs2 a z with z | z
        · exact (hs a z).elim Or.inl fun z => Or.inr (s1 a z)
        · exact Or.inr (s2 a z)
      · rw [hj j (fun z => hj' (List.mem_cons_of_mem _ z))]
        exact List.getElem?_set_ne (fun z => hj' (by rw [← z]; exact List.mem_cons_self ..))
theorem setAll_eq : ∀ {t : List Nat} {ds : List D} {env env1 : Env}, setAll t ds env = some env1 → ds.length = t.length := by
  intro t
  induction t with
  | nil =>
    intro ds env env1 h
    cases ds with
    | nil => rfl
    | cons d ds => cases h
  | cons i is ih =>
    intro ds env env1 h
    cases ds with
    | nil => cases h
    | cons d ds =>
      have h : setAll is ds (env.set i (some d)) = some env1 := h
      rw [List.length_cons, List.length_cons, ih h]
theorem g_bind {t : List Nat} {tt : Bool} {Q : L2.St → Hp → Prop} (h : bindT t tt d env = some env1) (r : Rel K F H env σ S) (tm : Tmp K F H S d x T)
    (k : ∀ σ' S', Rel K F H env1 σ' S' → Sub S' (Un2 S T) → (∀ j, j ∉ t → σ'[j]? = σ[j]?) → Q σ' H) : gOf K t tt x σ H Q := by
  cases tt with
  | true =>
    have h : (match (generalizing := false) d with | .tup ds => setAll t ds env | .lst _ ds => setAll t ds env | _ => none) = some env1 := h
    cases d with
    | tup ds =>
      obtain ⟨p, vs, e, ht, hl⟩ := tm.rp
      have e2 : ds.length = t.length := setAll_eq h
      exact Or.inl ⟨p, vs, e, ht, by rw [← hl.len, e2], setAll_ok h r hl tm.ok k⟩
    | lst o ds =>
      obtain ⟨p, vs, e, ht, hl⟩ := tm.rp
      have e2 : ds.length = t.length := setAll_eq h
      have q : SqL K H p vs := by
        cases o with
        | true =>
          rw [if_pos rfl] at ht
          exact SqL.of ht.2
        | false =>
          rw [if_neg (by decide)] at ht
          exact ex_l r.ex ht
      exact Or.inr ⟨p, vs, e, q, by rw [← hl.len, e2], setAll_ok h r hl (fun a z => tm.ok a z.1) fun σ' S' r' hs hj => k σ' S' r' (fun a z => (hs a z).imp id fun z => z.1) hj⟩
    | _ => cases h
  | false =>
    match t, h with
    | [i], h =>
      cases h
      obtain ⟨S', r', hs⟩ := put_any (i := i) r tm
      exact k _ S' r' hs fun j hj => List.getElem?_set_ne (fun z => hj (by rw [← z]; exact List.mem_cons_self ..))
    | [], h => cases h
    | _ :: _ :: _, h => cases h
theorem setAll_len : ∀ {t : List Nat} {ds : List D} {env env1 : Env}, setAll t ds env = some env1 → env1.length = env.length
  | [], ds, env, env1, h => by
    cases ds with
    | nil => cases h; rfl
    | cons d ds => cases h
  | i :: is, ds, env, env1, h => by
    cases ds with
    | nil => cases h
    | cons d ds =>
      have h : setAll is ds (env.set i (some d)) = some env1 := h
      rw [setAll_len h, List.length_set]
theorem bindT_len {t : List Nat} {tt : Bool} (h : bindT t tt d env = some env1) : env1.length = env.length := by
  cases tt with
  | true =>
    have h : (match (generalizing := false) d with | .tup ds => setAll t ds env | .lst _ ds => setAll t ds env | _ => none) = some env1 := h
    cases d with
    | tup ds => exact setAll_len h
    | lst o ds => exact setAll_len h
    | _ => cases h
  | false =>
    match t, h with
    | [i], h =>
      cases h
      exact List.length_set ..
    | [], h => cases h
    | _ :: _ :: _, h => cases h
/-! ### the block's own names -/
theorem rel_none (r : Rel K F H env σ S) (i : Nat) : Rel K F H (env.set i none) (σ.set i none) S := by
  by_cases hi : i < env.length
  · obtain ⟨o, S1, S2, g1, g2, g3, g4, g5, g6⟩ := r.en.hold hi
    exact ⟨r.ex, r.nf, r.al, g6 F H none none No S (Ex.refl F) (Tu.refl H) (fun _ _ _ z => z) (fun _ z => z.elim) (fun _ z => z.elim) g3 trivial⟩
  · have e1 : env.set i none = env := List.set_eq_of_length_le (Nat.le_of_not_lt hi)
    have e2 : σ.set i none = σ := List.set_eq_of_length_le (by rw [← r.en.len]; exact Nat.le_of_not_lt hi)
    rw [e1, e2]
    exact r
theorem rel_wipe (r : Rel K F H env σ S) : ∀ vs : List Nat, Rel K F H (wipeE env vs) (wipe σ vs) S
  | [] => r
  | v :: vs => rel_none (rel_wipe r vs) v
theorem wipe_set (σ : L2.St) (v : Nat) : ∀ vs : List Nat, (wipe σ vs).set v none = wipe (σ.set v none) vs
  | [] => rfl
  | w :: ws => by
    show ((wipe σ ws).set w none).set v none = (wipe (σ.set v none) ws).set w none
    rw [← wipe_set σ v ws]
    by_cases e : w = v
    · subst e; rfl
    · exact List.set_comm _ _ e
theorem wipe_get (σ : L2.St) (j : Nat) : ∀ vs : List Nat, (wipe σ vs)[j]? = if j ∈ vs then (σ[j]?).map (fun _ => none) else σ[j]?
  | [] => by simp [wipe]
  | v :: vs => by
    show ((wipe σ vs).set v none)[j]? = _
    by_cases e : v = j
    · subst e
      rw [if_pos (List.mem_cons_self ..)]
      by_cases hl : v < σ.length
      · rw [List.getElem?_set_self (by rw [wipe_length]; exact hl), List.getElem?_eq_getElem hl]
        rfl
      · rw [List.getElem?_eq_none (by rw [List.length_set, wipe_length]; exact Nat.le_of_not_lt hl), List.getElem?_eq_none (Nat.le_of_not_lt hl)]
        rfl
    · rw [List.getElem?_set_ne e, wipe_get σ j vs]
      by_cases hj : j ∈ vs
      · rw [if_pos hj, if_pos (List.mem_cons_of_mem _ hj)]
      · rw [if_neg hj, if_neg (fun z => (List.mem_cons.mp z).elim (fun z => e z.symm) hj)]
theorem wipe_eq {σ2 : L2.St} {vs t : List Nat} (hl : σ2.length = σ.length) (ht : ∀ i ∈ t, i ∈ vs) (h : ∀ j, j ∉ t → σ2[j]? = (wipe σ vs)[j]?) : wipe σ2 vs = wipe σ vs := by
  refine List.ext_getElem? fun j => ?_
  rw [wipe_get, wipe_get]
  by_cases hj : j ∈ vs
  · rw [if_pos hj, if_pos hj]
    by_cases hlt : j < σ.length
    · rw [List.getElem?_eq_getElem hlt, List.getElem?_eq_getElem (by rw [hl]; exact hlt)]
      rfl
    · rw [List.getElem?_eq_none (Nat.le_of_not_lt hlt), List.getElem?_eq_none (by rw [hl]; exact Nat.le_of_not_lt hlt)]
  · rw [if_neg hj, if_neg hj, h j (fun z => hj (ht j z)), wipe_get, if_neg hj]
theorem rel_slot (r : Rel K F H env σ S) (i : Nat) {X : Option D} {o : Option V} (h : SloR K F H X o No) : Rel K F H (env.set i X) (σ.set i o) S := by
  by_cases hi : i < env.length
  · obtain ⟨o', S1, S2, g1, g2, g3, g4, g5, g6⟩ := r.en.hold hi
    exact ⟨r.ex, r.nf, r.al, g6 F H X o No S (Ex.refl F) (Tu.refl H) (fun _ _ _ z => z) (fun _ z => z.elim) (fun _ z => z.elim) g3 h⟩
  · have e1 : env.set i X = env := List.set_eq_of_length_le (Nat.le_of_not_lt hi)
    have e2 : σ.set i o = σ := List.set_eq_of_length_le (by rw [← r.en.len]; exact Nat.le_of_not_lt hi)
    rw [e1, e2]
    exact r
/-- slots put back -/
def rst (σ ρ : L2.St) : List Nat → L2.St
  | [] => ρ
  | v :: vs => (rst σ ρ vs).set v ((σ[v]?).getD none)
theorem rst_len (σ ρ : L2.St) : ∀ vs : List Nat, (rst σ ρ vs).length = ρ.length
  | [] => rfl
  | v :: vs => by rw [rst, List.length_set, rst_len σ ρ vs]
theorem rst_get (σ ρ : L2.St) (hl : ρ.length = σ.length) (j : Nat) : ∀ vs : List Nat, (rst σ ρ vs)[j]? = if j ∈ vs then σ[j]? else ρ[j]?
  | [] => by simp [rst]
  | v :: vs => by
    show ((rst σ ρ vs).set v _)[j]? = _
    by_cases e : v = j
    · subst e
      rw [if_pos (List.mem_cons_self ..)]
      by_cases hlt : v < σ.length
      · rw [List.getElem?_set_self (by rw [rst_len, hl]; exact hlt), List.getElem?_eq_getElem hlt]
        rfl
      · rw [List.getElem?_eq_none (by rw [List.length_set, rst_len, hl]; exact Nat.le_of_not_lt hlt), List.getElem?_eq_none (Nat.le_of_not_lt hlt)]
    · rw [List.getElem?_set_ne e, rst_get σ ρ hl j vs]
      by_cases hj : j ∈ vs
      · rw [if_pos hj, if_pos (List.mem_cons_of_mem _ hj)]
      · rw [if_neg hj, if_neg (fun z => (List.mem_cons.mp z).elim (fun z => e z.symm) hj)]
theorem rel_rst {old : Env} {ρ : L2.St} (r : Rel K F H env ρ S) : ∀ (vs : List Nat), (∀ v ∈ vs, ∀ d, gt old v = some d → noOwn d = true → ∃ w, σ[v]? = some (some w) ∧ Rp K F H d w No) → Rel K F H (backE old env vs) (rst σ ρ vs) S
  | [], _ => r
  | v :: vs, ho => by
    have ih := rel_rst r vs fun w hw => ho w (List.mem_cons_of_mem _ hw)
    refine rel_slot ih v ?_
    cases hd : gt old v with
    | none => trivial
    | some d =>
      show SloR K F H (if noOwn d = true then some d else none) _ No
      by_cases n : noOwn d = true
      · rw [if_pos n]
        obtain ⟨w, h1, h2⟩ := ho v (List.mem_cons_self ..) d hd n
        exact ⟨w, by rw [h1]; rfl, h2⟩
      · rw [if_neg n]
        trivial
theorem rel_back {old : Env} {vs : List Nat} (ho : ∀ v ∈ vs, ∀ d, gt old v = some d → noOwn d = true → ∃ w, σ[v]? = some (some w) ∧ Rp K F H d w No) (r : Rel K F H env (wipe σ vs) S) : Rel K F H (backE old env vs) σ S := by
  have z := rel_rst r vs ho
  have e : rst σ (wipe σ vs) vs = σ := by
    refine List.ext_getElem? fun j => ?_
    rw [rst_get σ _ (wipe_length σ vs), wipe_get]
    by_cases hj : j ∈ vs
    · rw [if_pos hj]
    · rw [if_neg hj, if_neg hj]
  rw [e] at z
  exact z
/-! ### a thing that stands apart -/
theorem Stp.pass {F H F2 H2 : Hp} {S S2 : AS} {p : Addr} {o : HO} (s : Stp F H S F2 H2 S2) (a : H p = some o) (b : ¬ S p) (c : F p = none) : H2 p = some o ∧ ¬ S2 p ∧ F2 p = none := by
  refine ⟨s.kp p _ b a, fun z => ?_, ?_⟩
  · rcases s.fr p z with z | z
    · exact b z
    · rw [a] at z
      cases z
  · cases e : F2 p with
    | none => rfl
    | some o =>
      rcases s.ff p (by rw [e]; intro z; cases z) with z | z | z
      · exact absurd c z
      · exact absurd z b
      · rw [a] at z
        cases z
/-- a list that stands apart is written anew -/
theorem rel_upd {p : Addr} {xs ys : List V} (r : Rel K F H env σ S) (a : H p = some (.lst xs)) (b : ¬ S p) (c : F p = none) : Rel K F (upd H p (.lst ys)) env σ S ∧ Tu H (upd H p (.lst ys)) := by
  have tu : Tu H (upd H p (.lst ys)) := Tu.upd a (fun _ z => by cases z) (fun _ _ z => by cases z)
  have kp : ∀ q o, q ≠ p → H q = some o → upd H p (.lst ys) q = some o := fun q o n e => by rw [upd_ne n]; exact e
  have kS : ∀ q, S q → q ≠ p := fun q z e => b (by rw [← e]; exact z)
  refine ⟨⟨fun q o e => kp q o (fun z => ?_) (r.ex q o e), r.nf, fun q z => ?_, EnvR.mono (Ex.refl F) tu _ _ _ _ (fun _ z => z) (fun q o z e => kp q o (kS q z) e) r.en⟩, tu⟩
  · rw [z, c] at e
    cases e
  · rw [upd_ne (kS q z)]
    exact r.al q z
theorem Post.join {α β : Type} {Wx : L2.St → Nat → Hp → Prop} {r : R α} {f : α → Env → R β} {P : β → Env → Prop} (h : Post K Wx σ F H S r fun a env => Post K Wx σ F H S (f a env) P) : Post K Wx σ F H S (r.bind f) P := by
  cases r with
  | ok a env => exact h
  | exc c env => exact h
  | no => exact h
theorem Post.nx {α : Type} {Wx Wx2 : L2.St → Nat → Hp → Prop} {σ2 : L2.St} {F2 H2 : Hp} {S2 : AS} {r : R α} {P : α → Env → Prop} (h : Post K Wx σ F H S r.nx P) : Post K Wx2 σ2 F2 H2 S2 r P := by
  cases r with
  | ok a env => exact h
  | exc c env => exact False.elim h
  | no => exact False.elim h
end
/-! ### [e for t in it if c] -/
section
variable {T : Tb} {ca : Nat → Addr} {Wx : L2.St → Nat → Hp → Prop} {q : Nat → List D → R D} {G : Nat → D} {N : List Str} {X : Cx} {sc : Scope} {fn : Str → Bool}
/-- what a clause's tests mean -/
def rdC (K : PySem.W.Frag) (q : Nat → List D → R D) (G : Nat → D) (c : E) (ifs : List Expr) : TT := match ifs with | [] => tYes | _ => rdT K (fun _ _ _ => False) (eval q G c)
theorem rdC_of {K : PySem.W.Frag} {c : E} {ifs : List Expr} (hc : ifs = [] → c = .cst (.bl true)) {σ : L2.St} {F H : Hp} {S : AS} {env : Env} {Qk : Bool → Hp → Prop} (r : Rel K F H env σ S)
    (h : Post K (fun _ _ _ => False) σ F H S (eval q G c env) fun d env' => ∃ b, d = .bl b ∧ ∀ F' H' S', Rel K F' H' env' σ S' → Stp F H S F' H' S' → Qk b H') : rdC K q G c ifs σ H Qk := by
  cases ifs with
  | nil =>
    rw [hc rfl] at h
    have h : Post K (fun _ _ _ => False) σ F H S (R.ok (D.bl true) env) _ := h
    obtain ⟨b, hb, k⟩ := h
    cases hb
    exact k F H S r Stp.refl
  | cons f fs => exact ⟨F, env, S, r, h⟩
theorem Rp.bl_post {K : PySem.W.Frag} {F F0 H H0 : Hp} {S S0 : AS} {σ ρ : L2.St} {r : R D} {P : D → Env → Prop} (h : Post K (fun _ _ _ => False) σ F H S r P) (k : ∀ d env, r = .ok d env → P d env → ∃ b, d = .bl b) : Post K (fun _ _ _ => False) σ F H S r fun d env => ∃ b, d = .bl b ∧ P d env := by
  cases r with
  | ok d env =>
    obtain ⟨b, hb⟩ := k d env rfl h
    exact ⟨b, hb, h⟩
  | exc c env => exact h
  | no => exact h
theorem lc_weak {own : List Nat} {t : List Nat} {tt : Bool} {it : It} {c e : E} {ifs : List Expr} (hto : ∀ i ∈ t, i ∈ own) (hro : ∀ i ∈ refsI it, i ∉ own) (hc : ifs = [] → c = .cst (.bl true)) {σ : L2.St} {H0 : Hp} {Qk : VK} (h : rdE X.K Wx false (eval q G (.lc own t tt it c e)) σ H0 Qk) :
    tLc (rdI X.K Wx (refsI it) (evalIt q G it)) (gOf X.K t tt) (rdC X.K q G c ifs) (rdE X.K (fun _ _ _ => False) (still e) (eval q G e)) own σ H0 Qk := by
  obtain ⟨F0, env0, S0, r0, hm⟩ := h
  have hm : Post X.K Wx σ F0 H0 S0 ((evalIt q G it env0).bind fun s e1 => if s.items.length ≤ SZ then (lcL own t tt s.chk (eval q G c) (eval q G e) s.items [] (wipeE e1 own)).bind fun ds e2 => R.ok (D.lst true ds) (backE e1 e2 own) else .no) _ := hm
  refine ⟨F0, env0, S0, r0, hm.bind.imp fun s env1 hd F1 H1 S1 J r1 s1 iw dA hD => ?_⟩
  obtain ⟨hz, hd⟩ := hd.iff
  have exD := Ex.new (o := .lst []) hD
  have nD : F1 dA = none := by
    cases w : F1 dA with
    | none => rfl
    | some o =>
      have z := r1.ex dA o w
      rw [hD] at z
      cases z
  have hD0 : ∀ a o, ¬ S0 a → H0 a = some o → a ≠ dA := fun a o n e z => by
    have z2 := s1.kp a o n e
    rw [z, hD] at z2
    cases z2
  -- what stands at turn i
  let Pv : Nat → Hp → Prop := fun i H => ∃ F env S acc accV, Rel X.K F H env (wipe σ own) S ∧ H dA = some (.lst accV) ∧ ¬ S dA ∧ F dA = none ∧ RpL X.K F H acc accV No ∧ acc.length ≤ i ∧ Ex F1 F ∧ Tu H1 H ∧ Stp F0 H0 S0 F H S ∧
    Post X.K Wx σ F0 H0 S0 ((lcL own t tt s.chk (eval q G c) (eval q G e) (s.items.drop i) acc env).bind fun ds e2 => R.ok (D.lst true ds) (backE env1 e2 own)) fun d env' => ∀ F' H' S' T v, Rel X.K F' H' env' σ S' → Tmp X.K F' H' S' d v T → Stp F0 H0 S0 F' H' (Un2 S' T) → (false = true → Ex H0 H') → Qk v H'
  refine ⟨fun i m H => m = s.items.length - i ∧ i ≤ s.items.length ∧ Pv i H, ⟨s.items.length, rfl, Nat.zero_le _, ?_⟩, ?_⟩
  · refine ⟨F1, wipeE env1 own, S1, [], [], rel_wipe (r1.grow exD) own, upd_same, fun z => r1.al dA z hD, nD, rfl, Nat.le_refl _, Ex.refl _, exD.tu, s1.trans (Stp.grow exD), ?_⟩
    exact hd
  · rintro i m H ⟨rfl, hi, F, env, S, acc, accV, r, hDl, nS, nF, hl, hacc, eF, tu, st, hd⟩
    have hσ : ∀ j ∈ refsI it, (wipe σ own)[j]? = σ[j]? := fun j hj => by rw [wipe_get, if_neg (hro j hj)]
    by_cases hlt : i < s.items.length
    · refine Or.inr ?_
      have hdr : s.items.drop i = s.items[i] :: s.items.drop (i + 1) := List.drop_eq_getElem_cons hlt
      rw [hdr] at hd
      have hd : Post X.K Wx σ F0 H0 S0 ((open Classical in if s.chk env then
        (match bindT t tt s.items[i] env with
        | none => R.no
        | some e1 => (eval q G c e1).nx.bind fun b e2 =>
          match b with
          | .bl true => (eval q G e e2).nx.bind fun x e3 => if okF x then lcL own t tt s.chk (eval q G c) (eval q G e) (s.items.drop (i + 1)) (acc ++ [frz x]) (wipeE e3 own) else .no
          | .bl false => lcL own t tt s.chk (eval q G c) (eval q G e) (s.items.drop (i + 1)) acc (wipeE e2 own)
          | _ => .no) else .no).bind fun ds e2 => R.ok (D.lst true ds) (backE env1 e2 own)) _ := hd
      letI : Decidable (s.chk env) := Classical.propDecidable _
      obtain ⟨hchk, hd⟩ := hd.bind.iff
      obtain ⟨_, iwg, iwy⟩ := iw F H S env (wipe σ own) r hσ hchk eF tu
      refine ⟨iwg i hlt, Pv (i + 1), fun H' p => ⟨_, by omega, rfl, hlt, p⟩, fun x H2 y => ?_⟩
      obtain ⟨d, hdi, ex2, rp⟩ := iwy i x H2 hlt y
      have ed : d = s.items[i] := by
        rw [List.getElem?_eq_getElem hlt] at hdi
        exact (Option.some.inj hdi).symm
      subst ed
      have r2 := r.grow ex2
      have hDl2 := ex2 dA _ hDl
      cases hbt : bindT t tt s.items[i] env with
      | none =>
        rw [hbt] at hd
        exact hd.elim
      | some e1 =>
      rw [hbt] at hd
      refine g_bind hbt r2 (tmp_no rp) fun σ2 S2 r3 hs3 hj3 => ⟨wipe_eq (by rw [← r3.en.len, ← wipe_length σ own, ← r2.en.len]; exact bindT_len hbt) hto hj3, ?_⟩
      have hw2 : wipe σ2 own = wipe σ own := wipe_eq (by rw [← r3.en.len, ← wipe_length σ own, ← r2.en.len]; exact bindT_len hbt) hto hj3
      have nS2 : ¬ S2 dA := fun z => (hs3 dA z).elim nS id
      have st2 : Stp F0 H0 S0 F H2 S2 := (st.trans (Stp.grow ex2)).sub fun a z => (hs3 a z).elim id fun z => z.elim
      have hd := hd.bind.nx (Wx2 := fun _ _ _ => False) (σ2 := σ2) (F2 := F) (H2 := H2) (S2 := S2)
      refine rdC_of hc r3 (hd.imp fun b env3 hb => ?_)
      -- the next turn
      have next : ∀ {F' H' : Hp} {S' : AS} {env' : Env} {acc' : List AW.D} {accV' : List V}, Rel X.K F' H' env' σ2 S' → H' dA = some (.lst accV') → ¬ S' dA → F' dA = none → RpL X.K F' H' acc' accV' No → acc'.length ≤ i + 1 → Ex F1 F' → Tu H1 H' → Stp F0 H0 S0 F' H' S' →
          Post X.K Wx σ F0 H0 S0 ((lcL own t tt s.chk (eval q G c) (eval q G e) (s.items.drop (i + 1)) acc' (wipeE env' own)).bind fun ds e2 => R.ok (D.lst true ds) (backE env1 e2 own)) (fun d env' => ∀ F' H' S' T v, Rel X.K F' H' env' σ S' → Tmp X.K F' H' S' d v T → Stp F0 H0 S0 F' H' (Un2 S' T) → (false = true → Ex H0 H') → Qk v H') → Pv (i + 1) H' := by
        intro F' H' S' env' acc' accV' q1 q2 q3 q4 q5 q6 q7 q8 q9 q10
        have z := rel_wipe q1 own
        rw [hw2] at z
        exact ⟨F', wipeE env' own, S', acc', accV', z, q2, q3, q4, q5, q6, q7, q8, q9, q10⟩
      match b, hb with
      | .bl false, hb =>
        refine ⟨false, rfl, fun F' H' S' r' s' => ?_⟩
        rw [if_neg (by decide)]
        obtain ⟨p1, p2, p3⟩ := s'.pass hDl2 nS2 nF
        exact next r' p1 p2 p3 (RpL.mono s'.fx (ex2.tu.trans s'.tu) _ _ _ _ (fun _ z => z) (fun _ _ z => z.elim) hl) (Nat.le_succ_of_le hacc) (eF.trans s'.fx) ((tu.trans ex2.tu).trans s'.tu) (st2.trans s') (Post.join hb)
      | .bl true, hb =>
        refine ⟨true, rfl, fun F' H' S' r' s' => ?_⟩
        rw [if_pos rfl]
        obtain ⟨p1, p2, p3⟩ := s'.pass hDl2 nS2 nF
        have hb := hb.bind.nx (Wx2 := fun _ _ _ => False) (σ2 := σ2) (F2 := F') (H2 := H') (S2 := S')
        refine ⟨F', env3, S', r', hb.imp fun x3 env4 hx F4 H4 S4 T4 y4 r4 t4 s4 _ => ?_⟩
        obtain ⟨hok, hx⟩ := hx.iff
        obtain ⟨r5, t5, s5⟩ := Tmp.frz r4 t4 hok
        have s45 := s4.trans s5
        obtain ⟨u1, u2, u3⟩ := s45.pass p1 p2 p3
        refine ⟨accV, u1, ?_, ?_⟩
        · have z := hl.len
          have hz' : s.items.length ≤ sizeLine := hz
          omega
        · obtain ⟨r6, tu6⟩ := rel_upd (ys := accV ++ [y4]) r5 u1 u2 u3
          have tuA : Tu H H4 := (ex2.tu.trans s'.tu).trans s45.tu
          have exA : Ex F (addF F4 H4 T4) := s'.fx.trans s45.fx
          refine next r6 upd_same u2 u3 ?_ (show (acc ++ [frz x3]).length ≤ i + 1 by rw [List.length_append]; exact Nat.succ_le_succ hacc) (eF.trans exA) ((tu.trans tuA).trans tu6) ⟨fun a o n w => ?_, (st2.trans (s'.trans s45)).fx, (st2.trans (s'.trans s45)).fr, (st2.trans (s'.trans s45)).ff, (st2.trans (s'.trans s45)).tu.trans tu6⟩ (Post.join hx)
          · refine RpL.append (S := No) (T := No) (RpL.mono exA (tuA.trans tu6) _ _ _ _ (fun _ z => z) (fun _ _ z => z.elim) hl) ?_ (fun _ z _ => z) (fun _ z => z) (fun _ z => z)
            exact ⟨y4, [], No, No, rfl, fun _ z => z, fun _ z => z, fun _ z _ => z, Rp.mono (Ex.refl _) tu6 _ _ _ _ (fun _ z => z) (fun _ _ z => z.elim) t5.rp, rfl⟩
          · rw [upd_ne (hD0 a o n w)]
            exact (st2.trans (s'.trans s45)).kp a o n w
      | .non, hb => exact hb.elim
      | .int _, hb => exact hb.elim
      | .str _, hb => exact hb.elim
      | .tup _, hb => exact hb.elim
      | .lst _ _, hb => exact hb.elim
      | .dic _ _ _, hb => exact hb.elim
      | .dtp _ _ _, hb => exact hb.elim
      | .ins _ _, hb => exact hb.elim
      | .fn _, hb => exact hb.elim
    · have e0 : i = s.items.length := by omega
      subst e0
      rw [List.drop_length] at hd
      have hd : Post X.K Wx σ F0 H0 S0 ((open Classical in if s.chk env then R.ok acc env else .no).bind fun ds e2 => R.ok (D.lst true ds) (backE env1 e2 own)) _ := hd
      letI : Decidable (s.chk env) := Classical.propDecidable _
      obtain ⟨hchk, hd⟩ := hd.bind.iff
      obtain ⟨iws, _, _⟩ := iw F H S env (wipe σ own) r hσ hchk eF tu
      refine Or.inl ⟨iws, ?_⟩
      have rb : Rel X.K F H (backE env1 env own) σ S := rel_back (fun v hv d hgd hn => ?_) r
      · refine hd F H S (fun a => a = dA) (.ref dA) rb ⟨⟨dA, accV, rfl, ?_, ?_⟩, fun a z => ?_⟩ ⟨st.kp, st.fx, fun a z => ?_, st.ff, st.tu⟩ fun z => by cases z
        · rw [if_pos rfl]
          exact ⟨rfl, hDl⟩
        · exact RpL.mono (Ex.refl _) (Tu.refl _) _ _ _ _ (fun _ z => z.elim) (fun _ _ z => z.elim) hl
        · subst z
          exact ⟨nF, (by rw [hDl]; intro z; cases z), nS⟩
        · rcases z with z | z
          · exact st.fr a z
          · rw [z]
            exact s1.back hD
      · obtain ⟨w, Sw, g1, g2, g3⟩ := r1.at hgd
        exact ⟨w, g1, Rp.mono eF tu _ _ _ _ (fun _ z => z) (fun _ _ z => z.elim) (Rp.free _ _ _ hn g3)⟩
theorem c_lc {own : List Nat} {t : List Nat} {tt : Bool} {it : It} {c e : E} {tg iter el : Expr} {ifs : List Expr} {scope : Scope} {pos : Pos} (g : Good T ca Wx q G N X sc fn) (hb : blkC N sc scope (ownN N own) = true) (hto : ∀ i ∈ t, i ∈ own) (hro : ∀ i ∈ refsI it, i ∉ own) (hc : ifs = [] → c = .cst (.bl true))
    (hfold : ∀ x, foldedSetIterable iter X.env x = pure x) (hi : PI X tg iter (rdI X.K Wx (refsI it) (evalIt q G it)))
    (hg : ∀ (s : Shared) (H : Hp) (C : Addr) (cl : List (Str × Addr)) (fp : List Addr), PG (X.blk s H scope (compEnvC scope cl C X.env) fp) tg (gOf X.K t tt))
    (ht : ∀ (s : Shared) (H : Hp) (C : Addr) (cl : List (Str × Addr)) (fp : List Addr), PTs (X.blk s H scope (compEnvC scope cl C X.env) fp) ifs (rdC X.K q G c ifs))
    (he : ∀ (s : Shared) (H : Hp) (C : Addr) (cl : List (Str × Addr)) (fp : List Addr), PE (X.blk s H scope (compEnvC scope cl C X.env) fp) el (rdE X.K (fun _ _ _ => False) (still e) (eval q G e))) :
    PE X (.ListComp el [⟨tg, iter, ifs, 0⟩] scope pos) (rdE X.K Wx false (eval q G (.lc own t tt it c e))) := by
  have hvs : (ownN N own).map (·.2) = own := by
    unfold ownN
    rw [List.map_map]
    exact List.map_id _
  have ok := blkOk_by (N := X.N) (sc := X.env.scope) (scope := scope) (own := ownN N own) (by rw [g.n, g.sc]; exact hb)
  refine PE.weak (pe_lc g.calm (by rw [g.n]; exact g.nd) hi ok hg ht he hfold) fun σ H0 Qk h => ?_
  rw [hvs]
  exact lc_weak hto hro hc h
end
end AW

/-! AWExpr: whatever expression is matched does what its term means. -/
namespace AW
open PySem L2 PyProof.Rows
section
variable {T : Tb} {ca : Nat → Addr} {Wx : L2.St → Nat → Hp → Prop} {q : Nat → List D → R D} {G : Nat → D} {N : List Str} {X : Cx} {sc : Scope} {fn : Str → Bool}
/-! ### tests -/
theorem rdT_E {K : PySem.W.Frag} {st : Bool} {r : Env → R D} {σ : L2.St} {H : Hp} {Qk : Bool → Hp → Prop} (h : rdT K Wx r σ H Qk) : rdE K Wx st r σ H fun v H' => ∃ k, v = .bl k ∧ Qk k H' := by
  obtain ⟨F, env, S, rl, hm⟩ := h
  refine ⟨F, env, S, rl, hm.imp fun d env' ⟨b, hb, k⟩ F' H' S' T v r' t' s' _ => ?_⟩
  subst hb
  exact ⟨b, t'.rp, k F' H' S' r' (s'.sub fun a z => Or.inl z)⟩
theorem op2_weak {a b : E} {f : D → D → Option D} (ho : ord a b = true) {σ : L2.St} {H : Hp} {Qk : VK} (h : rdE X.K Wx false (fun env => (opd a (eval q G a) env).bind fun x e1 => (opd b (eval q G b) e1).bind fun y e2 => on2 f x y e2) σ H Qk) :
    tOp (rBin X.K f) (rdO X.K Wx (still a) (opd a (eval q G a))) (rdO X.K Wx (still b) (opd b (eval q G b))) σ H Qk := by
  obtain ⟨F, env, S, r, hm⟩ := h
  refine ⟨F, env, S, r, hm.bind.eq.imp fun o1 env1 ⟨he1, hd⟩ F1 H1 S1 v1 r1 ov1 s1 st1 => ⟨F1, env1, S1, r1, (hd.bind.at s1).imp fun o2 env2 hd F2 H2 S2 v2 r2 ov2 s2 st2 => ?_⟩⟩
  have ov1' := ov1.keep s2 ((ord_ok ho he1).imp id st2)
  obtain ⟨d1, d2, d, g1, g2, hf, hd⟩ := on2_inv hd
  obtain ⟨Sa, _, p1⟩ := ov1'.view r2 g1
  obtain ⟨Sb, _, p2⟩ := ov2.view r2 g2
  exact ⟨F2, d1, d2, d, Sa, Sb, r2.ex, p1, p2, hf, fin_res r2 (s1.trans s2) (fun z => by cases z) hd⟩
theorem t_cmp {o : CO} {a b : E} {x y : Expr} {pos : Pos} (hu : X.A.units + 65 < cLine) (ho : ord a b = true) (hm : behindInMarks (opC o) y = false) (ha : PE X x (rdO X.K Wx (still a) (opd a (eval q G a)))) (hb : PE X y (rdO X.K Wx (still b) (opd b (eval q G b)))) :
    PT X (.Compare x [opC o] [y] pos) (rdT X.K Wx (eval q G (.cmp o a b))) := PT.weak (pt_cmpR (op_cmp hu o) ha hb hm) fun σ H Qk h => op2_weak ho (rdT_E h)
theorem chn_weak {o1 o2 : CO} {a b c : E} (h1 : ord a b = true) (h2 : ord b c = true) {σ : L2.St} {H : Hp} {Qk : VK} (h : rdE X.K Wx false (eval q G (.chn o1 o2 a b c)) σ H Qk) :
    tChain (rBin X.K fun p q => (dCmp o1 p q).map .bl) (rBin X.K fun p q => (dCmp o2 p q).map .bl) (rdO X.K Wx (still a) (opd a (eval q G a))) (rdO X.K Wx (still b) (opd b (eval q G b))) (rdO X.K Wx (still c) (opd c (eval q G c))) σ H Qk := by
  obtain ⟨F, env, S, r, hm⟩ := h
  have hm : Post X.K Wx σ F H S ((opd a (eval q G a) env).bind fun x e1 => (opd b (eval q G b) e1).bind fun y e2 => (on2 (fun p q => (dCmp o1 p q).map .bl) x y e2).bind fun d e3 =>
    match d with
    | .bl true => (opd c (eval q G c) e3).bind fun z e4 => on2 (fun p q => (dCmp o2 p q).map .bl) y z e4
    | .bl false => .ok (.bl false) e3
    | _ => .no) _ := hm
  refine ⟨F, env, S, r, hm.bind.eq.imp fun p1 env1 ⟨he1, hd⟩ F1 H1 S1 v1 r1 ov1 s1 st1 => ⟨F1, env1, S1, r1, (hd.bind.eq.at s1).imp fun p2 env2 ⟨he2, hd⟩ F2 H2 S2 v2 r2 ov2 s2 st2 => ?_⟩⟩
  have ov1' := ov1.keep s2 ((ord_ok h1 he1).imp id st2)
  obtain ⟨d1, d2, d, g1, g2, hf, hd⟩ := on2_inv hd.bind
  obtain ⟨Sa, _, q1⟩ := ov1'.view r2 g1
  obtain ⟨Sb, _, q2⟩ := ov2.view r2 g2
  obtain ⟨k, hk, rfl⟩ := Option.map_eq_some_iff.mp hf
  refine ⟨F2, d1, d2, .bl k, Sa, Sb, r2.ex, q1, q2, hf, fun v H' T' e rp nw => ?_⟩
  have ev : v = .bl k := rp
  refine ⟨k, ev, ?_⟩
  have r3 := r2.grow e
  have s3 := s2.trans (Stp.grow e)
  cases k with
  | false =>
    rw [if_neg (by decide)]
    exact hd F2 H' S2 No (.bl false) r3 (tmp_no rfl) (stp_wd (s1.trans s3)) fun z => by cases z
  | true =>
    rw [if_pos rfl]
    refine ⟨F2, env2, S2, r3, (Post.at (Post.bind hd) (s1.trans s3)).imp fun p3 env3 hd F3 H3 S3 v3 r3' ov3 s4 st4 => ?_⟩
    have ov2' : OpV X.K F3 H3 σ p2 v2 := (ov2.keep (Stp.grow (S := S2) e) (Or.inr e)).keep s4 ((ord_ok h2 he2).imp id st4)
    obtain ⟨d3, d4, d5, g3, g4, hf2, hd⟩ := on2_inv hd
    obtain ⟨Sc, _, q3⟩ := ov2'.view r3' g3
    obtain ⟨Sd, _, q4⟩ := ov3.view r3' g4
    exact ⟨F3, d3, d4, d5, Sc, Sd, r3'.ex, q3, q4, hf2, fin_res r3' ((s1.trans s3).trans s4) (fun z => by cases z) hd⟩
theorem t_chn {o1 o2 : CO} {a b c : E} {x y z : Expr} {pos : Pos} (hu : X.A.units + 65 < cLine) (h1 : ord a b = true) (h2 : ord b c = true) (hm : lastMarks [opC o1, opC o2] [y, z] = false)
    (ha : PE X x (rdO X.K Wx (still a) (opd a (eval q G a)))) (hb : PE X y (rdO X.K Wx (still b) (opd b (eval q G b)))) (hc : PE X z (rdO X.K Wx (still c) (opd c (eval q G c)))) :
    PT X (.Compare x [opC o1, opC o2] [y, z] pos) (rdT X.K Wx (eval q G (.chn o1 o2 a b c))) := PT.weak (pt_chain (op_cmp hu o1) (op_cmp hu o2) ha hb hc hm) fun σ H Qk h => chn_weak h1 h2 (rdT_E h)
/-- not one of the tests that are walked as such -/
def plainT : E → Bool
  | .cmp _ _ _ => false | .chn _ _ _ _ _ => false | .and_ _ => false | .or_ _ => false | .not_ _ => false | .ite _ _ _ => false | _ => true
theorem plain_true {me : E} {e : Expr} (hp : plainT me = true) (h : mE T N sc fn me e = true) : ∀ whole, isTrue e X.env whole = (do let v ← whole; standAt e.pos; holding [v] (truthy v)) := by
  cases me <;> first | (cases hp; done) | skip
  all_goals cases e <;> first | (cases h; done) | (intro _; rfl) | skip
  all_goals (rename_i op _ _; cases op <;> first | (cases h; done) | (intro _; rfl))
/-! ### operands, arguments -/
theorem to_opd (g : Good T ca Wx q G N X sc fn) {me : E} {e : Expr} (hm : mE T N sc fn me e = true) (h : PE X e (rdE X.K Wx (still me) (eval q G me))) : PE X e (rdO X.K Wx (still me) (opd me (eval q G me))) := by
  by_cases hv : ∃ i, me = .var i
  · obtain ⟨i, rfl⟩ := hv
    cases e with
    | Name x p => exact o_var (pe_nm g hm)
    | _ => cases hm
  · by_cases hp : ∃ i k, me = .pth i k
    · obtain ⟨i, k, rfl⟩ := hp
      match e, hm with
      | .Subscript (.Name x p1) (.Constant (.int j) c p2) p3, hm =>
        have hm : (mNm N sc i x && j == (k : Int)) = true := hm
        rw [Bool.and_eq_true] at hm
        have e1 := eq_of_beq hm.2
        subst e1
        exact o_pth (pe_pth (pe_nm g hm.1))
    · exact pe_to_opd (fun i e => hv ⟨i, e⟩) (fun i k e => hp ⟨i, k, e⟩) h
theorem to_args (g : Good T ca Wx q G N X sc fn) {me : E} {e : Expr} {es : List Expr} {mes : Es} (hm : mE T N sc fn me e = true) (h : PE X e (rdE X.K Wx (still me) (eval q G me))) (hs : PA X es (rdA X.K Wx (evalArgs q G mes))) : PA X (e :: es) (rdA X.K Wx (evalArgs q G (.cons me mes))) := by
  by_cases hv : ∃ i, me = .var i
  · obtain ⟨i, rfl⟩ := hv
    cases e with
    | Name x p => exact pa_ref (pe_nm g hm) hs rfl
    | _ => cases hm
  · exact pe_to_arg (fun i e => hv ⟨i, e⟩) h hs (mE_star hm es)
theorem mE_nofold {it : It} {e : Expr} (h : mIt T N sc fn it e = true) : ∀ x, foldedSetIterable e X.env x = pure x := by
  cases e with
  | Set a b c =>
    cases it with
    | seq a =>
      have h : (mE T N sc fn a _ && !isPth a) = true := h
      rw [Bool.and_eq_true] at h
      have h := h.1
      cases a <;> cases h
    | _ => cases h
  | _ => exact fun _ => rfl
theorem last_marks {me : E} {e y : Expr} {o1 o2 : CmpOp} (h : mE T N sc fn me e = true) : lastMarks [o1, o2] [y, e] = false := by
  cases e with
  | Set a b c => cases me <;> cases h
  | _ => rfl
theorem mEs_all_okT : True := trivial
end
end AW

/-! AWSp: words of more than one part. -/
namespace AW
open PySem L2 PyProof.Rows
section
variable {T : Tb} {ca : Nat → Addr} {Wx : L2.St → Nat → Hp → Prop} {q : Nat → List D → R D} {G : Nat → D} {N : List Str} {X : Cx} {sc : Scope} {fn : Str → Bool}
/-- {} for a dict with tuple keys -/
theorem pe_edt {X : Cx} {pos : Pos} : PE X (.Dict [] [] pos) (fun σ H Q => ∀ p, (p == sysModules) = false → H p = none → Q (.ref p) (upd H p (tab p 0 []))) := ⟨fun pins s σ H Q I h => by
  have sm : (s.heap.objs.size == sysModules) = false := beq_eq_false_iff_ne.mpr (Nat.ne_of_gt I.big)
  refine wpAny_Dict_empty ⟨.ref s.heap.objs.size, _, I.laid (a := s.heap.objs.size) (o := tab s.heap.objs.size 0 []) (t' := s.toks) (fun _ _ q => Heap.get?_push_of_some _ q) (Nat.le_refl _) ?_, rfl, h _ sm (I.hok.fresh (Nat.le_refl _))⟩
  refine ⟨⟨_, #[], Heap.get?_push_size _ rfl, ⟨rfl, rfl, rfl⟩, rfl, fun w => rfl⟩, ⟨_, Heap.get?_push_size _ rfl⟩, ?_⟩
  rintro g1 g2 ⟨o, es, k1, k2, k3, k4⟩ hk
  exact ⟨o, es, hk _ k1, k2, k3, k4⟩⟩
theorem RpL.rev {K : PySem.W.Frag} {F H : Hp} : ∀ {ds : List D} {vs : List V}, RpL K F H ds vs No → RpL K F H ds.reverse vs.reverse No
  | [], _, h => by
    cases h
    exact rfl
  | d :: ds, vs, h => by
    obtain ⟨v, r, S1, S2, e, s1, s2, dj, g1, g2⟩ := h
    subst e
    have g1 : Rp K F H d v No := Rp.mono (Ex.refl F) (Tu.refl H) _ _ _ _ s1 (fun _ _ _ z => z) g1
    have g2 : RpL K F H ds r No := RpL.mono (Ex.refl F) (Tu.refl H) _ _ _ _ s2 (fun _ _ _ z => z) g2
    rw [List.reverse_cons, List.reverse_cons]
    exact RpL.append (RpL.rev g2) (show RpL K F H [d] [v] No from ⟨v, [], No, No, rfl, fun _ z => z, fun _ z => z, fun _ z _ => z, g1, rfl⟩) (fun _ z _ => z) (fun _ z => z) (fun _ z => z)
theorem nOs_rev {ds : List D} (n : noOwns ds = true) : noOwns ds.reverse = true := by
  have z : ∀ d ∈ ds.reverse, noOwn d = true := fun d hd => nOs_mem n _ (List.mem_reverse.mp hd)
  revert z
  generalize ds.reverse = l
  intro z
  induction l with
  | nil => rfl
  | cons a r ih =>
    show (noOwn a && noOwns r) = true
    rw [z a (List.mem_cons_self ..), ih fun d hd => z d (List.mem_cons_of_mem _ hd)]
    rfl
/-- with one operand -/
theorem c_sp1 {k : SK} {a : E} {e : Expr} {rO : V → Hp → VK → Prop} (rule : PE X e (fun σ H Q => rdO X.K Wx (still a) (opd a (eval q G a)) σ H fun v H1 => rO v H1 Q))
    (sem : ∀ v H1 Q F d1 d S, Ex F H1 → Rp X.K F H1 d1 v S → dSp k [d1] = some d → Res X.K F H1 d Q → rO v H1 Q) : PE X e (rdE X.K Wx false (eval q G (.sp k (.cons a .nil)))) := by
  refine PE.weak rule fun σ H Qk ⟨F, env, S, r, hm⟩ => ⟨F, env, S, r, ?_⟩
  have hm : Post X.K Wx σ F H S (((opd a (eval q G a) env).bind fun d e1 => R.ok [d] e1).bind fun os e1 => match gets e1 os with | some ds => lift (dSp k ds) e1 | none => .no) _ := hm
  refine hm.bind.bind.imp fun o env1 hd F1 H1 S1 v r1 ov s1 st => ?_
  have hd : Post X.K Wx σ F H S (match gets env1 [o] with | some ds => lift (dSp k ds) env1 | none => R.no) _ := hd
  cases hg : o.get env1 with
  | none =>
    have e1 : gets env1 [o] = none := by unfold gets; rw [hg]
    rw [e1] at hd
    exact hd.elim
  | some d1 =>
    have e1 : gets env1 [o] = some [d1] := by unfold gets; rw [hg]; rfl
    rw [e1] at hd
    obtain ⟨d, hf, hd⟩ := Post.lift hd
    obtain ⟨S2, _, p1⟩ := ov.view r1 hg
    exact sem _ _ _ F1 d1 d S2 r1.ex p1 hf (fin_res r1 s1 (fun z => by cases z) hd)
/-- with two -/
theorem c_sp2 {k : SK} {a b : E} {e : Expr} {rO : V → V → Hp → VK → Prop} (hp : isPth a = false) (rule : PE X e (fun σ H Q => rdO X.K Wx (still a) (opd a (eval q G a)) σ H fun v H1 => rdO X.K Wx (still b) (opd b (eval q G b)) σ H1 fun w H2 => rO v w H2 Q))
    (sem : ∀ v w H1 Q F d1 d2 d S S', Ex F H1 → Rp X.K F H1 d1 v S → Rp X.K F H1 d2 w S' → dSp k [d1, d2] = some d → Res X.K F H1 d Q → rO v w H1 Q) : PE X e (rdE X.K Wx false (eval q G (.sp k (.cons a (.cons b .nil))))) := by
  refine PE.weak rule fun σ H Qk ⟨F, env, S, r, hm⟩ => ⟨F, env, S, r, ?_⟩
  have hm : Post X.K Wx σ F H S (((opd a (eval q G a) env).bind fun d e1 => ((opd b (eval q G b) e1).bind fun d2 e2 => R.ok [d2] e2).bind fun ds e3 => .ok (d :: ds) e3).bind fun os e1 => match gets e1 os with | some ds => lift (dSp k ds) e1 | none => .no) _ := hm
  refine hm.bind.bind.eq.imp fun o env1 ⟨he, hd⟩ F1 H1 S1 v r1 ov s1 st => ⟨F1, env1, S1, r1, (hd.bind.bind.at s1).imp fun o2 env2 hd F2 H2 S2 v2 r2 ov2 s2 st2 => ?_⟩
  have hr := (ord_ok (b := b) (by unfold ord; rw [hp]; rfl) he)
  have ov' : OpV X.K F2 H2 σ o v := ov.keep s2 (hr.imp id st2)
  have hd : Post X.K Wx σ F H S (match gets env2 [o, o2] with | some ds => lift (dSp k ds) env2 | none => R.no) _ := hd
  cases hg2 : o2.get env2 with
  | none =>
    have e1 : gets env2 [o, o2] = none := by unfold gets gets; rw [hg2]; cases o.get env2 <;> rfl
    rw [e1] at hd
    exact hd.elim
  | some d2 =>
  cases hg : o.get env2 with
  | none =>
    have e1 : gets env2 [o, o2] = none := by unfold gets gets; rw [hg2, hg]
    rw [e1] at hd
    exact hd.elim
  | some d1 =>
    have e1 : gets env2 [o, o2] = some [d1, d2] := by unfold gets gets; rw [hg, hg2]; rfl
    rw [e1] at hd
    obtain ⟨d, hf, hd⟩ := Post.lift hd
    obtain ⟨Sa, _, p1⟩ := ov'.view r2 hg
    obtain ⟨Sb, _, p2⟩ := ov2.view r2 hg2
    exact sem _ _ _ _ F2 d1 d2 d Sa Sb r2.ex p1 p2 hf (fin_res r2 (s1.trans s2) (fun z => by cases z) hd)
theorem rpl_rng {K : PySem.W.Frag} {F H : Hp} {lo : Int} : ∀ l : List Nat, RpL K F H (l.map fun (k : Nat) => D.int (lo + (k : Int))) (l.map fun i => V.int (lo + (i : Nat))) No
  | [] => rfl
  | a :: r => ⟨_, _, No, No, rfl, fun _ z => z, fun _ z => z, fun _ z _ => z, rfl, rpl_rng r⟩
theorem nOs_rng {lo : Int} : ∀ l : List Nat, noOwns (l.map fun (k : Nat) => D.int (lo + (k : Int))) = true
  | [] => rfl
  | a :: r => nOs_rng r
theorem lrng_sem {K : PySem.W.Frag} {F H : Hp} {lo hi : Int} {d : D} {Q : VK} (h : lrngD lo hi = some d) (res : Res K F H d Q) : RgOk lo hi ∧ ∀ p, H p = none → Q (.ref p) (upd H p (.lst (rgV lo hi))) := by
  unfold lrngD at h
  split at h
  · rename_i c
    cases h
    refine ⟨?_, res.list (S := No) (nOs_rng _) (rpl_rng _)⟩
    obtain ⟨c1, c2, c3, c4, c5⟩ := c
    have c5 : hi - lo ≤ 16777216 := c5
    exact ⟨by omega, by omega, by omega, by omega, by omega⟩
  · cases h
theorem c_edt {pos : Pos} : PE X (.Dict [] [] pos) (rdE X.K Wx false (eval q G (.sp .edt .nil))) := by
  refine PE.weak pe_edt fun σ H Qk ⟨F, env, S, r, hm⟩ p sm hp => ?_
  have hm : Post X.K Wx σ F H S (R.ok (D.dtp true [] []) env) _ := hm
  have res := fin_res (st := false) r Stp.refl (fun z => by cases z) hm
  refine res (.ref p) _ (fun a => a = p) (Ex.new hp) ⟨p, 0, [], [], rfl, ?_, ⟨rfl, by simp, Nat.zero_le _, sm, fun x hx => (by cases hx)⟩, .nil, rfl, rfl⟩ fun a e => ?_
  · rw [if_pos rfl]
    exact ⟨rfl, upd_same⟩
  · subst e
    exact ⟨hp, by rw [upd_same]; intro z; cases z⟩
theorem c_rev {a : E} {e : Expr} {k : Nat} {p1 p2 p3 pos : Pos} (h : PE X e (rdO X.K Wx (still a) (opd a (eval q G a)))) : PE X (.Subscript e (.Slice none none (some (.UnaryOp .USub (.Constant (.int 1) k p1) p2)) p3) pos) (rdE X.K Wx false (eval q G (.sp .rev (.cons a .nil)))) := by
  refine c_sp1 (rO := fun v H1 Q => ∃ b xs, v = .ref b ∧ SqL X.K H1 b xs ∧ ∀ p, H1 p = none → Q (.ref p) (upd H1 p (.lst xs.reverse))) (pe_revL h) fun v H1 Q F d1 d S eF rp hf res => ?_
  cases d1 with
  | lst o ds =>
    have hf : (if noOwns ds = true then some (D.lst true ds.reverse) else none) = some d := hf
    split at hf
    · rename_i n
      cases hf
      obtain ⟨p, vs, e, ht, hl⟩ := Rp.lstL eF rp
      exact ⟨p, vs, e, ht, res.list (nOs_rev n) (RpL.rev (RpL.free _ _ _ n hl))⟩
    · cases hf
  | _ => cases hf
theorem c_lrng1 {a : E} {e : Expr} {p1 p2 p3 p4 : Pos} (g : Good T ca Wx q G N X sc fn) (h1 : T.bls.contains ("list" : Str) = true) (h2 : T.bls.contains ("range" : Str) = true) (g1 : glb sc ("list" : Str) = true) (g2 : glb sc ("range" : Str) = true) (hs : starEach [e] X.env = (false, PySem.eval e X.env) :: starEach [] X.env)
    (h : PE X e (rdO X.K Wx (still a) (opd a (eval q G a)))) : PE X (.Call (.Name "list" p1) [.Call (.Name "range" p2) [e] [] p3] [] p4) (rdE X.K Wx false (eval q G (.sp .lrng1 (.cons a .nil)))) := by
  refine c_sp1 (rO := fun v H1 Q => ∃ n, v = .int n ∧ (RgOk 0 n ∧ ∀ p, H1 p = none → Q (.ref p) (upd H1 p (.lst (rgV 0 n))))) (pe_listRg g.calm (glb_ok g.sc g1).1 (g.bls _ h1) (prg_1 (glb_ok g.sc g2).1 (g.bls _ h2) h hs)) fun v H1 Q F d1 d S eF rp hf res => ?_
  cases d1 with
  | int n =>
    cases rp
    exact ⟨n, rfl, lrng_sem hf res⟩
  | _ => cases hf
theorem c_lrng2 {a b : E} {e e2 : Expr} {p1 p2 p3 p4 : Pos} (g : Good T ca Wx q G N X sc fn) (h1 : T.bls.contains ("list" : Str) = true) (h2 : T.bls.contains ("range" : Str) = true) (g1 : glb sc ("list" : Str) = true) (g2 : glb sc ("range" : Str) = true) (hp : isPth a = false)
    (hs : starEach [e, e2] X.env = (false, PySem.eval e X.env) :: starEach [e2] X.env) (hs2 : starEach [e2] X.env = (false, PySem.eval e2 X.env) :: starEach [] X.env)
    (h : PE X e (rdO X.K Wx (still a) (opd a (eval q G a)))) (h' : PE X e2 (rdO X.K Wx (still b) (opd b (eval q G b)))) : PE X (.Call (.Name "list" p1) [.Call (.Name "range" p2) [e, e2] [] p3] [] p4) (rdE X.K Wx false (eval q G (.sp .lrng2 (.cons a (.cons b .nil))))) := by
  refine c_sp2 (rO := fun v w H1 Q => ∃ i j, v = .int i ∧ w = .int j ∧ (RgOk i j ∧ ∀ p, H1 p = none → Q (.ref p) (upd H1 p (.lst (rgV i j))))) hp (pe_listRg g.calm (glb_ok g.sc g1).1 (g.bls _ h1) (prg_2 (glb_ok g.sc g2).1 (g.bls _ h2) h h' hs hs2 (by rw [hs2]; rfl))) fun v w H1 Q F d1 d2 d S S' eF rp rp' hf res => ?_
  cases d1 with
  | int i =>
    cases d2 with
    | int j =>
      cases rp
      cases rp'
      exact ⟨i, j, rfl, rfl, lrng_sem hf res⟩
    | _ => cases hf
  | _ => cases hf
theorem c_sumv {a : E} {o : Expr} {p1 p2 p3 p4 : Pos} (g : Good T ca Wx q G N X sc fn) (h1 : T.bls.contains ("sum" : Str) = true) (g1 : glb sc ("sum" : Str) = true) (hb : attributeBase o ("values" : Str) X.env (PySem.eval o X.env) = PySem.eval o X.env) (hl : (p2.endLine == p3.line) = true)
    (h : PE X o (rdO X.K Wx (still a) (opd a (eval q G a)))) : PE X (.Call (.Name "sum" p1) [.Call (.Attribute o "values" p2) [] [] p3] [] p4) (rdE X.K Wx false (eval q G (.sp .sumv (.cons a .nil)))) := by
  refine c_sp1 (rO := fun v H1 Q => ∃ (p : Addr) (ep : Nat) (ks : List D) (xs : List (NestedKey × Addr × Value)) (us : List V) (ns : List Int), v = .ref p ∧ H1 p = some (tab p ep xs) ∧ KtOk p ks xs ∧ Vals us (xs.map (·.2.2)) ∧ us = ns.map V.int ∧ Q (.int ns.sum) H1) (pe_sumV g.calm (glb_ok g.sc g1).1 (g.bls _ h1) h hb hl) fun v H1 Q F d1 d S eF rp hf res => ?_
  cases d1 with
  | dtp o ks vs =>
    obtain ⟨ns, hn, e⟩ := Option.map_eq_some_iff.mp (show (allInts vs).map _ = some d from hf)
    subst e
    obtain ⟨p, ep, xs, us, e, hp, hks, hvl, hkl, hl⟩ := Rp.dtpL eF rp
    exact ⟨p, ep, ks, xs, us, ns, e, hp, hks, hvl, ints_of hn hl, res.flat rfl⟩
  | _ => cases hf
theorem spA_inv {k : SK} {e : Expr} {xs : List Expr} (h : spA T sc k e = some xs) :
    (k = .edt ∧ ∃ p, e = .Dict [] [] p ∧ xs = []) ∨
    (k = .rev ∧ ∃ x kk p1 p2 p3 p4, e = .Subscript x (.Slice none none (some (.UnaryOp .USub (.Constant (.int 1) kk p1) p2)) p3) p4 ∧ xs = [x]) ∨
    ((k = .lrng1 ∨ k = .lrng2) ∧ ∃ p1 p2 p3 p4, e = .Call (.Name "list" p1) [.Call (.Name "range" p2) xs [] p3] [] p4 ∧ T.bls.contains ("list" : Str) = true ∧ T.bls.contains ("range" : Str) = true ∧ glb sc ("list" : Str) = true ∧ glb sc ("range" : Str) = true) ∨
    (k = .sumv ∧ ∃ o p1 p2 p3 p4, e = .Call (.Name "sum" p1) [.Call (.Attribute o "values" p2) [] [] p3] [] p4 ∧ xs = [o] ∧ T.bls.contains ("sum" : Str) = true ∧ glb sc ("sum" : Str) = true ∧ (p2.endLine == p3.line) = true ∧ recvOk o = true) := by
  unfold spA at h
  split at h
  · split at h
    · cases h
      exact Or.inl ⟨rfl, _, rfl, rfl⟩
    · cases h
  · split at h
    · split at h
      · rename_i hi
        cases h
        subst hi
        exact Or.inr (Or.inl ⟨rfl, _, _, _, _, _, _, rfl, rfl⟩)
      · cases h
    · cases h
  · split at h
    · rename_i c
      simp only [Bool.and_eq_true] at c
      obtain ⟨c1, c2, c3, c4, c5, c6⟩ := c
      have c1 := eq_of_beq c1
      have c2 := eq_of_beq c2
      subst c1
      subst c2
      split at h
      · cases h
        exact Or.inr (Or.inr (Or.inl ⟨Or.inl rfl, _, _, _, _, rfl, c3, c4, c5, c6⟩))
      · cases h
        exact Or.inr (Or.inr (Or.inl ⟨Or.inr rfl, _, _, _, _, rfl, c3, c4, c5, c6⟩))
      · cases h
    · cases h
  · split at h
    · rename_i c
      simp only [Bool.and_eq_true] at c
      obtain ⟨c1, c2, c3, c4, c5, c6⟩ := c
      have c1 := eq_of_beq c1
      have c2 := eq_of_beq c2
      subst c1
      subst c2
      split at h
      · cases h
        exact Or.inr (Or.inr (Or.inr ⟨rfl, _, _, _, _, _, rfl, rfl, c3, c4, c5, c6⟩))
      · cases h
    · cases h
  · cases h
end
end AW

/-! AWExpr2: whatever expression is matched does what its term means. -/
namespace AW
open PySem L2 PyProof.Rows
section
variable {T : Tb} {ca : Nat → Addr} {q : Nat → List D → R D} {G : Nat → D} {N : List Str}
def PEof (T : Tb) (ca : Nat → Addr) (q : Nat → List D → R D) (G : Nat → D) (N : List Str) (me : E) : Prop := ∀ (Wx : L2.St → Nat → Hp → Prop) (X : Cx) (sc : Scope) (fn : Str → Bool) (g : Good T ca Wx q G N X sc fn) (e : Expr), mE T N sc fn me e = true → PE X e (rdE X.K Wx (still me) (eval q G me))
def PTof (T : Tb) (ca : Nat → Addr) (q : Nat → List D → R D) (G : Nat → D) (N : List Str) (me : E) : Prop := ∀ (Wx : L2.St → Nat → Hp → Prop) (X : Cx) (sc : Scope) (fn : Str → Bool) (g : Good T ca Wx q G N X sc fn) (e : Expr), mE T N sc fn me e = true → okT me = true → PT X e (rdT X.K Wx (eval q G me))
theorem mk_plain {me : E} (h : PEof T ca q G N me) (hp : plainT me = true) : PEof T ca q G N me ∧ PTof T ca q G N me := ⟨h, fun Wx X sc fn g e hm ok => c_test (h Wx X sc fn g e hm) (plain_true hp hm)⟩
mutual
theorem sET : ∀ me : E, PEof T ca q G N me ∧ PTof T ca q G N me
  | .var i => mk_plain (fun Wx X sc fn g e hm => by
    cases e with
    | Name x p => exact c_var (pe_nm g hm)
    | _ => cases hm) rfl
  | .mv i => mk_plain (fun Wx X sc fn g e hm => by
    cases e with
    | Name x p => exact c_mv (pe_nm g hm)
    | _ => cases hm) rfl
  | .fz i => mk_plain (fun Wx X sc fn g e hm => by
    cases e with
    | Name x p => exact c_var (q := q) (G := G) (pe_nm g hm)
    | _ => cases hm) rfl
  | .pth i k => mk_plain (fun Wx X sc fn g e hm => by
    match e, hm with
    | .Subscript (.Name x p1) (.Constant (.int j) c p2) p3, hm =>
      have hm : (mNm N sc i x && j == (k : Int)) = true := hm
      rw [Bool.and_eq_true] at hm
      have e1 := eq_of_beq hm.2
      subst e1
      exact c_pth (pe_pth (pe_nm g hm.1))) rfl
  | .cst d => mk_plain (fun Wx X sc fn g e hm => by
    cases e with
    | Constant c k p => exact c_cst hm
    | _ => cases hm) rfl
  | .non => mk_plain (fun Wx X sc fn g e hm => by cases hm) rfl
  | .glo j => mk_plain (fun Wx X sc fn g e hm => by
    cases e with
    | Name x p =>
      have hm : (T.gls[j]? == some x && glb sc x) = true := hm
      rw [Bool.and_eq_true] at hm
      exact c_glo g (eq_of_beq hm.1) hm.2
    | _ => cases hm) rfl
  | .bin o a b => mk_plain (fun Wx X sc fn g e hm => by
    cases e with
    | BinOp x op y p =>
      have hm : (decide (op = opB o) && (mE T N sc fn a x && (mE T N sc fn b y && ord a b))) = true := hm
      rw [Bool.and_eq_true, Bool.and_eq_true, Bool.and_eq_true] at hm
      have e1 := of_decide_eq_true hm.1
      subst e1
      exact c_bin hm.2.2.2 (to_opd g hm.2.1 ((sET a).1 _ _ _ _ g _ hm.2.1)) (to_opd g hm.2.2.1 ((sET b).1 _ _ _ _ g _ hm.2.2.1))
    | _ => cases hm) rfl
  | .neg a => mk_plain (fun Wx X sc fn g e hm => by
    match e, hm with
    | .UnaryOp .USub x p, hm => exact c_neg (to_opd g hm ((sET a).1 _ _ _ _ g _ hm))) rfl
  | .cmp o a b => ⟨fun Wx X sc fn g e hm => by
    match e, hm with
    | .Compare x [op] [y] p, hm =>
      have hm : (decide (op = opC o) && (mE T N sc fn a x && (mE T N sc fn b y && ord a b))) = true := hm
      rw [Bool.and_eq_true, Bool.and_eq_true, Bool.and_eq_true] at hm
      have e1 := of_decide_eq_true hm.1
      subst e1
      have hu : X.A.units + 65 < cLine := by have := g.hu; omega
      exact c_cmp hu hm.2.2.2 (mE_behind hm.2.2.1 _) (to_opd g hm.2.1 ((sET a).1 _ _ _ _ g _ hm.2.1)) (to_opd g hm.2.2.1 ((sET b).1 _ _ _ _ g _ hm.2.2.1)), fun Wx X sc fn g e hm ok => by
    match e, hm with
    | .Compare x [op] [y] p, hm =>
      have hm : (decide (op = opC o) && (mE T N sc fn a x && (mE T N sc fn b y && ord a b))) = true := hm
      rw [Bool.and_eq_true, Bool.and_eq_true, Bool.and_eq_true] at hm
      have e1 := of_decide_eq_true hm.1
      subst e1
      have hu : X.A.units + 65 < cLine := by have := g.hu; omega
      exact t_cmp hu hm.2.2.2 (mE_behind hm.2.2.1 _) (to_opd g hm.2.1 ((sET a).1 _ _ _ _ g _ hm.2.1)) (to_opd g hm.2.2.1 ((sET b).1 _ _ _ _ g _ hm.2.2.1))⟩
  | .chn o1 o2 a b c => ⟨fun Wx X sc fn g e hm => by
    match e, hm with
    | .Compare x [op1, op2] [y, z] p, hm =>
      have hm : (decide (op1 = opC o1) && (decide (op2 = opC o2) && (mE T N sc fn a x && (mE T N sc fn b y && (mE T N sc fn c z && (ord a b && ord b c)))))) = true := hm
      simp only [Bool.and_eq_true] at hm
      obtain ⟨e1, e2, h1, h2, h3, h4, h5⟩ := hm
      have e1 := of_decide_eq_true e1
      have e2 := of_decide_eq_true e2
      subst e1 e2
      have hu : X.A.units + 65 < cLine := by have := g.hu; omega
      refine PE.weak (pe_chain (op_cmp hu o1) (op_cmp hu o2) (to_opd g h1 ((sET a).1 _ _ _ _ g _ h1)) (to_opd g h2 ((sET b).1 _ _ _ _ g _ h2)) (to_opd g h3 ((sET c).1 _ _ _ _ g _ h3)) (last_marks h3)) fun σ H Qk h => chn_weak h4 h5 h, fun Wx X sc fn g e hm ok => by
    match e, hm with
    | .Compare x [op1, op2] [y, z] p, hm =>
      have hm : (decide (op1 = opC o1) && (decide (op2 = opC o2) && (mE T N sc fn a x && (mE T N sc fn b y && (mE T N sc fn c z && (ord a b && ord b c)))))) = true := hm
      simp only [Bool.and_eq_true] at hm
      obtain ⟨e1, e2, h1, h2, h3, h4, h5⟩ := hm
      have e1 := of_decide_eq_true e1
      have e2 := of_decide_eq_true e2
      subst e1 e2
      have hu : X.A.units + 65 < cLine := by have := g.hu; omega
      exact t_chn hu h4 h5 (last_marks h3) (to_opd g h1 ((sET a).1 _ _ _ _ g _ h1)) (to_opd g h2 ((sET b).1 _ _ _ _ g _ h2)) (to_opd g h3 ((sET c).1 _ _ _ _ g _ h3))⟩
  | .and_ es => ⟨fun Wx X sc fn g e hm => by
    match e, hm with
    | .BoolOp .And xs p, hm =>
      have hm : (mEs T N sc fn es xs && neNil es) = true := hm
      rw [Bool.and_eq_true] at hm
      exact sAnd es g hm.1 (by intro z; subst z; cases hm.2), fun Wx X sc fn g e hm ok => by
    match e, hm with
    | .BoolOp .And xs p, hm =>
      have hm : (mEs T N sc fn es xs && neNil es) = true := hm
      rw [Bool.and_eq_true] at hm
      exact (tAndE es g hm.1 ok (by intro z; subst z; cases hm.2)).pt⟩
  | .or_ es => ⟨fun Wx X sc fn g e hm => by
    match e, hm with
    | .BoolOp .Or xs p, hm =>
      have hm : (mEs T N sc fn es xs && neNil es) = true := hm
      rw [Bool.and_eq_true] at hm
      exact sOr es g hm.1 (by intro z; subst z; cases hm.2), fun Wx X sc fn g e hm ok => by
    match e, hm with
    | .BoolOp .Or xs p, hm =>
      have hm : (mEs T N sc fn es xs && neNil es) = true := hm
      rw [Bool.and_eq_true] at hm
      exact (tOrE es g hm.1 ok (by intro z; subst z; cases hm.2)).pt⟩
  | .not_ a => ⟨fun Wx X sc fn g e hm => by
    match e, hm with
    | .UnaryOp .Not x p, hm => exact c_not ((sET a).1 _ _ _ _ g _ hm), fun Wx X sc fn g e hm ok => by
    match e, hm with
    | .UnaryOp .Not x p, hm => exact t_not ((sET a).2 _ _ _ _ g _ hm ok)⟩
  | .ite c a b => ⟨fun Wx X sc fn g e hm => (by
    cases e with
    | IfExp x y z p =>
      have hm : (mE T N sc fn c x && (mE T N sc fn a y && (mE T N sc fn b z && okT c))) = true := hm
      simp only [Bool.and_eq_true] at hm
      exact c_ite ((sET c).2 _ _ _ _ g _ hm.1 hm.2.2.2) ((sET a).1 _ _ _ _ g _ hm.2.1) ((sET b).1 _ _ _ _ g _ hm.2.2.1)
    | _ => cases hm), fun Wx X sc fn g e hm ok => by cases ok⟩
  | .tup es => mk_plain (fun Wx X sc fn g e hm => by
    cases e with
    | Tuple xs k p =>
      have hm : (mEs T N sc fn es xs && decide (xs.length ≤ 1000)) = true := hm
      rw [Bool.and_eq_true] at hm
      exact c_tup (sV es g hm.1) (by rw [mEs_len hm.1]; exact of_decide_eq_true hm.2)
    | _ => cases hm) rfl
  | .lst es => mk_plain (fun Wx X sc fn g e hm => by
    cases e with
    | List xs p =>
      have hm : (mEs T N sc fn es xs && decide (xs.length ≤ 1000)) = true := hm
      rw [Bool.and_eq_true] at hm
      exact c_lst (sV es g hm.1) (by rw [mEs_len hm.1]; exact of_decide_eq_true hm.2)
    | _ => cases hm) rfl
  | .dct es => mk_plain (fun Wx X sc fn g e hm => by
    cases e with
    | Dict ks vs p =>
      have hm : (mDct T N sc fn es ks vs && decide (ks.length ≤ 15)) = true := hm
      rw [Bool.and_eq_true] at hm
      exact c_dct hm.1 (of_decide_eq_true hm.2) (sD es g hm.1)
    | _ => cases hm) rfl
  | .tdc a b => mk_plain (fun Wx X sc fn g e hm => by
    match e, hm with
    | .Dict [some x] [y] p, hm =>
      have hm : (mE T N sc fn a x && mE T N sc fn b y) = true := hm
      rw [Bool.and_eq_true] at hm
      exact c_tdc (by have := g.hu; omega) ((sET a).1 _ _ _ _ g _ hm.1) ((sET b).1 _ _ _ _ g _ hm.2)) rfl
  | .idx a b => mk_plain (fun Wx X sc fn g e hm => by
    cases e with
    | Subscript x y p =>
      have hm : (mE T N sc fn a x && (mE T N sc fn b y && ord a b)) = true := hm
      simp only [Bool.and_eq_true] at hm
      have hu : X.A.units + 1 < cLine := by have := g.hu; omega
      exact c_idx (by have := g.hu; omega) hm.2.2 (mE_plain hm.2.1) (to_opd g hm.1 ((sET a).1 _ _ _ _ g _ hm.1)) (to_opd g hm.2.1 ((sET b).1 _ _ _ _ g _ hm.2.1))
    | _ => cases hm) rfl
  | .slc a lo hi => mk_plain (fun Wx X sc fn g e hm => by
    match e, hm with
    | .Subscript x (.Slice l h none p2) p, hm =>
      have hm : (mE T N sc fn a x && (optM lo (mE T N sc fn lo) l && (optM hi (mE T N sc fn hi) h && !isPth a))) = true := hm
      simp only [Bool.and_eq_true] at hm
      refine c_slc (by simpa using hm.2.2.2) (to_opd g hm.1 ((sET a).1 _ _ _ _ g _ hm.1)) ?_ ?_
      · cases l with
        | none =>
          have e0 : lo = .non := by
            cases lo <;> first | rfl | (cases hm.2.1; done)
          subst e0
          exact po_zero
        | some l =>
          have hl : mE T N sc fn lo l = true := hm.2.1
          exact po_one (fun z => by subst z; cases hl) ((sET lo).1 _ _ _ _ g _ hl)
      · cases h with
        | none =>
          have e0 : hi = .non := by
            cases hi <;> first | rfl | (cases hm.2.2.1; done)
          subst e0
          exact po_zero
        | some h =>
          have hl : mE T N sc fn hi h = true := hm.2.2.1
          exact po_one (fun z => by subst z; cases hl) ((sET hi).1 _ _ _ _ g _ hl)) rfl
  | .call f es => mk_plain (fun Wx X sc fn g e hm => by
    match e, hm with
    | .Call (.Name x p1) xs [] p, hm =>
      have hm : (T.fns[f]? == some x && (glb sc x && mEs T N sc fn es xs)) = true := hm
      simp only [Bool.and_eq_true] at hm
      exact c_call g (eq_of_beq hm.1) hm.2.1 hm.2.2 (sA es g hm.2.2)) rfl
  | .blt b es => mk_plain (fun Wx X sc fn g e hm => by
    match e, hm with
    | .Call (.Name x p1) xs [] p, hm =>
      have hm : (x == nmF b && (T.bls.contains x && (glb sc x && (match (generalizing := false) isiT b with
        | none => mEs T N sc fn es xs && opsOk es
        | some t => match (generalizing := false) xs with | [y, .Name z _] => z == t && (T.bls.contains z && (glb sc z && (mEs T N sc fn es [y] && one1 es))) | _ => false)))) = true := hm
      rw [Bool.and_eq_true, Bool.and_eq_true, Bool.and_eq_true] at hm
      obtain ⟨ex, hb, hg, hq⟩ := hm
      have ex := eq_of_beq ex
      subst ex
      cases hi : isiT b with
      | none =>
        rw [hi] at hq
        have hm : (mEs T N sc fn es xs && opsOk es) = true := hq
        rw [Bool.and_eq_true] at hm
        obtain ⟨hma, hmb⟩ := hm
        obtain ⟨x, r, ex, h1, h2, h3⟩ := sOp es g hma hmb
        subst ex
        exact c_blt g hb hg hi h1 (h2 p) h3
      | some t =>
        rw [hi] at hq
        match xs, hq with
        | [y, .Name z p2], hm =>
          have hm : (z == t && (T.bls.contains z && (glb sc z && (mEs T N sc fn es [y] && one1 es)))) = true := hm
          simp only [Bool.and_eq_true] at hm
          obtain ⟨ez, hb2, hg2, hes, hp⟩ := hm
          have ez := eq_of_beq ez
          subst ez
          obtain ⟨a, ea, h1, h2⟩ := sOne es g hes hp
          subst ea
          exact c_isi g hb hg hi (by simpa using hb2) hg2 h1 h2) rfl
  | .sp k es => mk_plain (fun Wx X sc fn g e hm => by
    cases hsp : spA T sc k e with
    | none =>
      have hm : (match (generalizing := false) spA T sc k e with | some xs => mEs T N sc fn es xs && spOk k es | none => false) = true := hm
      rw [hsp] at hm
      cases hm
    | some xs =>
    have hm : (match (generalizing := false) spA T sc k e with | some xs => mEs T N sc fn es xs && spOk k es | none => false) = true := hm
    rw [hsp] at hm
    have hq : (mEs T N sc fn es xs && spOk k es) = true := hm
    rw [Bool.and_eq_true] at hq
    clear hm
    obtain ⟨hqa, hqb⟩ := hq
    rcases spA_inv hsp with ⟨rfl, p, rfl, rfl⟩ | ⟨rfl, x, kk, p1, p2, p3, p4, rfl, rfl⟩ | ⟨hk, p1, p2, p3, p4, rfl, h1, h2, g1, g2⟩ | ⟨rfl, o, p1, p2, p3, p4, rfl, rfl, h1, g1, hl, hr⟩
    · have e0 : es = .nil := by
        cases es with
        | nil => rfl
        | cons _ _ => cases hqa
      subst e0
      exact c_edt
    · obtain ⟨a, ea, s1, s2⟩ := sOne es g hqa hqb
      subst ea
      exact c_rev s2
    · rcases hk with rfl | rfl
      · have ho : one1 es = true := hqb
        match es, xs, hqa, ho with
        | .cons a .nil, [y], hm1, ho =>
          obtain ⟨a', ea, s1, s2⟩ := sOne (.cons a .nil) g hm1 ho
          cases ea
          exact c_lrng1 g h1 h2 g1 g2 (s1 []) s2
        | .cons a .nil, [], hm1, ho => cases hm1
        | .cons a .nil, y :: z :: r, hm1, ho =>
          have hm1 : (mE T N sc fn a y && false) = true := hm1
          rw [Bool.and_false] at hm1
          cases hm1
      · have ho : two2 es = true := hqb
        obtain ⟨a, b, y, z, ea, exs, ha, s1, s2, k1, k2⟩ := sTwo es g hqa ho
        subst ea
        subst exs
        exact c_lrng2 g h1 h2 g1 g2 ha s1 s2 k1 k2
    · obtain ⟨a, ea, s1, s2⟩ := sOne es g hqa hqb
      subst ea
      exact c_sumv g h1 g1 (recv_ok hr) hl s2) rfl
  | .met m a es => mk_plain (fun Wx X sc fn g e hm => by
    match e, hm with
    | .Call (.Attribute o x ap) xs [] cp, hm =>
      have hm : (x == nmM m && (mE T N sc fn a o && (mEs T N sc fn es xs && ((!isPth a || stills es) && ((ap.endLine == cp.line) && (recvOk o && decide (xs.length ≤ 20))))))) = true := hm
      simp only [Bool.and_eq_true] at hm
      obtain ⟨ex, ha, hes, hst, hl, hr, h20⟩ := hm
      have ex := eq_of_beq ex
      subst ex
      have h20 := of_decide_eq_true h20
      have hf := sF es g hes
      by_cases hv : ∃ i, a = .var i
      · obtain ⟨i, rfl⟩ := hv
        cases o with
        | Name y p => exact c_met_var g hes h20 hr hl (pe_nm g ha) hf
        | _ => cases ha
      · by_cases hp : ∃ i k, a = .pth i k
        · obtain ⟨i, k, rfl⟩ := hp
          match o, ha with
          | .Subscript (.Name y p1) (.Constant (.int j) c p2) p3, ha =>
            have ha : (mNm N sc i y && j == (k : Int)) = true := ha
            rw [Bool.and_eq_true] at ha
            have e1 := eq_of_beq ha.2
            subst e1
            exact c_met_pth g hes h20 (by simpa [isPth] using hst) hr hl (pe_pth (pe_nm g ha.1)) hf
        · exact c_met_val (fun i e => hv ⟨i, e⟩) (fun i k e => hp ⟨i, k, e⟩) g hes h20 hr hl ((sET a).1 _ _ _ _ g _ ha) hf) rfl
  | .lc own t tt it c e0 => mk_plain (fun Wx X sc fn g e hm => by
    match e, hm with
    | .ListComp el [⟨tg, iter, ifs, 0⟩] scope p, hm =>
      have hm : (mIt T N sc fn it iter && (blkC N sc scope (ownN N own) && (mTg N (relSc scope sc) (fun y => scope.names.lookup y == some .cell) t tt tg && (mE T N (relSc scope sc) (fun y => scope.names.lookup y == some .cell) e0 el &&
        ((match (generalizing := false) ifs with
        | [] => cTrue c
        | [f] => mE T N (relSc scope sc) (fun y => scope.names.lookup y == some .cell) c f && okT c
        | _ => false) && ((t.all fun i => own.contains i) && (((refsI it).all fun i => !own.contains i) && itOk it tt))))))) = true := hm
      rw [Bool.and_eq_true, Bool.and_eq_true, Bool.and_eq_true, Bool.and_eq_true, Bool.and_eq_true, Bool.and_eq_true, Bool.and_eq_true] at hm
      obtain ⟨h1, h2, h3, h4, h5, h6, h7, h8⟩ := hm
      have hto : ∀ i ∈ t, i ∈ own := fun i hi => by simpa using List.all_eq_true.mp h6 i hi
      have hro : ∀ i ∈ refsI it, i ∉ own := fun i hi => by simpa using List.all_eq_true.mp h7 i hi
      have hc : ifs = [] → c = .cst (.bl true) := fun z => by
        subst z
        have h5 : cTrue c = true := h5
        unfold cTrue at h5
        split at h5
        · rfl
        · cases h5
      refine c_lc g h2 hto hro hc (mE_nofold h1) (sI it g h1 (fun z => ?_)) (fun s H C cl fp => pg_of (g.blk s H scope C cl fp) h3) (fun s H C cl fp => ?_) (fun s H C cl fp => (sET e0).1 _ _ _ _ (g.blk s H scope C cl fp) _ h4)
      · have ht : tt = true := by
          cases it <;> first | exact h8 | cases z
        subst ht
        cases tg <;> first | exact ⟨_, _, _, rfl⟩ | cases h3
      · match ifs, h5 with
        | [], h5 => exact pts_nil
        | [f], h5 =>
          have h5 : (mE T N (relSc scope sc) (fun y => scope.names.lookup y == some .cell) c f && okT c) = true := h5
          rw [Bool.and_eq_true] at h5
          exact pts_one ((sET c).2 _ _ _ _ (g.blk s H scope C cl fp) _ h5.1 h5.2)) rfl
theorem sAnd : ∀ (es : Es) {Wx : L2.St → Nat → Hp → Prop} {X : Cx} {sc : Scope} {fn : Str → Bool} (g : Good T ca Wx q G N X sc fn) {xs : List Expr} {p : Pos}, mEs T N sc fn es xs = true → es ≠ .nil → PE X (.BoolOp .And xs p) (rdE X.K Wx false (evalAnd q G es))
  | .nil, Wx, X, sc, fn, g, xs, p, hm, hn => absurd rfl hn
  | .cons a .nil, Wx, X, sc, fn, g, xs, p, hm, hn => by
    match xs, hm with
    | [x], hm =>
      have hm : (mE T N sc fn a x && true) = true := hm
      rw [Bool.and_true] at hm
      exact c_and1 ((sET a).1 _ _ _ _ g _ hm)
    | x :: y :: r, hm =>
      have hm : (mE T N sc fn a x && false) = true := hm
      rw [Bool.and_false] at hm
      cases hm
  | .cons a (.cons b es), Wx, X, sc, fn, g, xs, p, hm, hn => by
    match xs, hm with
    | x :: y :: r, hm =>
      have hm : (mE T N sc fn a x && mEs T N sc fn (.cons b es) (y :: r)) = true := hm
      rw [Bool.and_eq_true] at hm
      exact c_and ((sET a).1 _ _ _ _ g _ hm.1) (sAnd (.cons b es) g hm.2 (by intro z; cases z))
    | [x], hm =>
      have hm : (mE T N sc fn a x && false) = true := hm
      rw [Bool.and_false] at hm
      cases hm
theorem sOr : ∀ (es : Es) {Wx : L2.St → Nat → Hp → Prop} {X : Cx} {sc : Scope} {fn : Str → Bool} (g : Good T ca Wx q G N X sc fn) {xs : List Expr} {p : Pos}, mEs T N sc fn es xs = true → es ≠ .nil → PE X (.BoolOp .Or xs p) (rdE X.K Wx false (evalOr q G es))
  | .nil, Wx, X, sc, fn, g, xs, p, hm, hn => absurd rfl hn
  | .cons a .nil, Wx, X, sc, fn, g, xs, p, hm, hn => by
    match xs, hm with
    | [x], hm =>
      have hm : (mE T N sc fn a x && true) = true := hm
      rw [Bool.and_true] at hm
      exact c_or1 ((sET a).1 _ _ _ _ g _ hm)
    | x :: y :: r, hm =>
      have hm : (mE T N sc fn a x && false) = true := hm
      rw [Bool.and_false] at hm
      cases hm
  | .cons a (.cons b es), Wx, X, sc, fn, g, xs, p, hm, hn => by
    match xs, hm with
    | x :: y :: r, hm =>
      have hm : (mE T N sc fn a x && mEs T N sc fn (.cons b es) (y :: r)) = true := hm
      rw [Bool.and_eq_true] at hm
      exact c_or ((sET a).1 _ _ _ _ g _ hm.1) (sOr (.cons b es) g hm.2 (by intro z; cases z))
    | [x], hm =>
      have hm : (mE T N sc fn a x && false) = true := hm
      rw [Bool.and_false] at hm
      cases hm
theorem tAndE : ∀ (es : Es) {Wx : L2.St → Nat → Hp → Prop} {X : Cx} {sc : Scope} {fn : Str → Bool} (g : Good T ca Wx q G N X sc fn) {xs : List Expr} {p : Pos}, mEs T N sc fn es xs = true → okTs es = true → es ≠ .nil → PW X (.BoolOp .And xs p) (rdT X.K Wx (evalAnd q G es))
  | .nil, Wx, X, sc, fn, g, xs, p, hm, ok, hn => absurd rfl hn
  | .cons a .nil, Wx, X, sc, fn, g, xs, p, hm, ok, hn => by
    have ok : (okT a && true) = true := ok
    rw [Bool.and_true] at ok
    match xs, hm with
    | [x], hm =>
      have hm : (mE T N sc fn a x && true) = true := hm
      rw [Bool.and_true] at hm
      exact t_and1 ((sET a).2 _ _ _ _ g _ hm ok)
    | x :: y :: r, hm =>
      have hm : (mE T N sc fn a x && false) = true := hm
      rw [Bool.and_false] at hm
      cases hm
  | .cons a (.cons b es), Wx, X, sc, fn, g, xs, p, hm, ok, hn => by
    have ok : (okT a && okTs (.cons b es)) = true := ok
    rw [Bool.and_eq_true] at ok
    match xs, hm with
    | x :: y :: r, hm =>
      have hm : (mE T N sc fn a x && mEs T N sc fn (.cons b es) (y :: r)) = true := hm
      rw [Bool.and_eq_true] at hm
      exact t_and ((sET a).2 _ _ _ _ g _ hm.1 ok.1) (tAndE (.cons b es) g hm.2 ok.2 (by intro z; cases z))
    | [x], hm =>
      have hm : (mE T N sc fn a x && false) = true := hm
      rw [Bool.and_false] at hm
      cases hm
theorem tOrE : ∀ (es : Es) {Wx : L2.St → Nat → Hp → Prop} {X : Cx} {sc : Scope} {fn : Str → Bool} (g : Good T ca Wx q G N X sc fn) {xs : List Expr} {p : Pos}, mEs T N sc fn es xs = true → okTs es = true → es ≠ .nil → PW X (.BoolOp .Or xs p) (rdT X.K Wx (evalOr q G es))
  | .nil, Wx, X, sc, fn, g, xs, p, hm, ok, hn => absurd rfl hn
  | .cons a .nil, Wx, X, sc, fn, g, xs, p, hm, ok, hn => by
    have ok : (okT a && true) = true := ok
    rw [Bool.and_true] at ok
    match xs, hm with
    | [x], hm =>
      have hm : (mE T N sc fn a x && true) = true := hm
      rw [Bool.and_true] at hm
      exact t_or1 ((sET a).2 _ _ _ _ g _ hm ok)
    | x :: y :: r, hm =>
      have hm : (mE T N sc fn a x && false) = true := hm
      rw [Bool.and_false] at hm
      cases hm
  | .cons a (.cons b es), Wx, X, sc, fn, g, xs, p, hm, ok, hn => by
    have ok : (okT a && okTs (.cons b es)) = true := ok
    rw [Bool.and_eq_true] at ok
    match xs, hm with
    | x :: y :: r, hm =>
      have hm : (mE T N sc fn a x && mEs T N sc fn (.cons b es) (y :: r)) = true := hm
      rw [Bool.and_eq_true] at hm
      exact t_or ((sET a).2 _ _ _ _ g _ hm.1 ok.1) (tOrE (.cons b es) g hm.2 ok.2 (by intro z; cases z))
    | [x], hm =>
      have hm : (mE T N sc fn a x && false) = true := hm
      rw [Bool.and_false] at hm
      cases hm
/-- the operands of a built-in function -/
theorem sOp : ∀ (es : Es) {Wx : L2.St → Nat → Hp → Prop} {X : Cx} {sc : Scope} {fn : Str → Bool} (g : Good T ca Wx q G N X sc fn) {xs : List Expr}, mEs T N sc fn es xs = true → opsOk es = true →
    ∃ x r, xs = x :: r ∧ starEach (x :: r) X.env = (false, PySem.eval x X.env) :: starEach r X.env ∧ (∀ p, (backTo p (starEach r X.env)).any (·.1) = false) ∧ PA X (x :: r) (rdOL X.K Wx (evalOps q G es))
  | .nil, Wx, X, sc, fn, g, xs, hm, ho => by cases ho
  | .cons a .nil, Wx, X, sc, fn, g, xs, hm, ho => by
    match xs, hm with
    | [y], hm =>
      have h1 : (mE T N sc fn a y && true) = true := hm
      rw [Bool.and_true] at h1
      exact ⟨y, [], rfl, mE_star h1 _, fun _ => rfl, ol_one (to_opd g h1 ((sET a).1 _ _ _ _ g _ h1)) (mE_star h1 _)⟩
    | y :: z :: r, hm =>
      have h1 : (mE T N sc fn a y && false) = true := hm
      rw [Bool.and_false] at h1
      cases h1
  | .cons a (.cons c .nil), Wx, X, sc, fn, g, xs, hm, ho => by
    match xs, hm with
    | [y, z], hm =>
      have h1 : (mE T N sc fn a y && (mE T N sc fn c z && true)) = true := hm
      rw [Bool.and_true, Bool.and_eq_true] at h1
      have h2 : (!isPth a) = true := ho
      refine ⟨y, [z], rfl, mE_star h1.1 _, fun p => ?_, ol_two (by simpa using h2) (to_opd g h1.1 ((sET a).1 _ _ _ _ g _ h1.1)) (to_opd g h1.2 ((sET c).1 _ _ _ _ g _ h1.2)) (mE_star h1.1 _) (mE_star h1.2 _)⟩
      rw [mE_star h1.2]
      rfl
    | [y], hm =>
      have h1 : (mE T N sc fn a y && false) = true := hm
      rw [Bool.and_false] at h1
      cases h1
    | y :: z :: w :: r, hm =>
      have h1 : (mE T N sc fn a y && (mE T N sc fn c z && false)) = true := hm
      rw [Bool.and_false, Bool.and_false] at h1
      cases h1
  | .cons a (.cons b (.cons c r)), Wx, X, sc, fn, g, xs, hm, ho => by cases ho
theorem sOne : ∀ (es : Es) {Wx : L2.St → Nat → Hp → Prop} {X : Cx} {sc : Scope} {fn : Str → Bool} (g : Good T ca Wx q G N X sc fn) {y : Expr}, mEs T N sc fn es [y] = true → one1 es = true →
    ∃ a, es = .cons a .nil ∧ (∀ es, starEach (y :: es) X.env = (false, PySem.eval y X.env) :: starEach es X.env) ∧ PE X y (rdO X.K Wx (still a) (opd a (eval q G a)))
  | .nil, Wx, X, sc, fn, g, y, hm, ho => by cases ho
  | .cons a .nil, Wx, X, sc, fn, g, y, hm, ho => by
    have h1 : (mE T N sc fn a y && true) = true := hm
    rw [Bool.and_true] at h1
    exact ⟨a, rfl, mE_star h1, to_opd g h1 ((sET a).1 _ _ _ _ g _ h1)⟩
  | .cons a (.cons b r), Wx, X, sc, fn, g, y, hm, ho => by cases ho
theorem sTwo : ∀ (es : Es) {Wx : L2.St → Nat → Hp → Prop} {X : Cx} {sc : Scope} {fn : Str → Bool} (g : Good T ca Wx q G N X sc fn) {xs : List Expr}, mEs T N sc fn es xs = true → two2 es = true →
    ∃ a b y z, es = .cons a (.cons b .nil) ∧ xs = [y, z] ∧ isPth a = false ∧ starEach [y, z] X.env = (false, PySem.eval y X.env) :: starEach [z] X.env ∧ starEach [z] X.env = (false, PySem.eval z X.env) :: starEach [] X.env ∧ PE X y (rdO X.K Wx (still a) (opd a (eval q G a))) ∧ PE X z (rdO X.K Wx (still b) (opd b (eval q G b)))
  | .nil, Wx, X, sc, fn, g, xs, hm, ho => by cases ho
  | .cons a .nil, Wx, X, sc, fn, g, xs, hm, ho => by cases ho
  | .cons a (.cons c .nil), Wx, X, sc, fn, g, xs, hm, ho => by
    match xs, hm with
    | [y, z], hm =>
      have h1 : (mE T N sc fn a y && (mE T N sc fn c z && true)) = true := hm
      rw [Bool.and_true, Bool.and_eq_true] at h1
      have h2 : (!isPth a) = true := ho
      exact ⟨a, c, y, z, rfl, rfl, by simpa using h2, mE_star h1.1 _, mE_star h1.2 _, to_opd g h1.1 ((sET a).1 _ _ _ _ g _ h1.1), to_opd g h1.2 ((sET c).1 _ _ _ _ g _ h1.2)⟩
    | [y], hm =>
      have h1 : (mE T N sc fn a y && false) = true := hm
      rw [Bool.and_false] at h1
      cases h1
    | y :: z :: w :: r, hm =>
      have h1 : (mE T N sc fn a y && (mE T N sc fn c z && false)) = true := hm
      rw [Bool.and_false, Bool.and_false] at h1
      cases h1
  | .cons a (.cons b (.cons c r)), Wx, X, sc, fn, g, xs, hm, ho => by cases ho
/-- lists of expressions: values, given up, arguments -/
theorem sV : ∀ (es : Es) {Wx : L2.St → Nat → Hp → Prop} {X : Cx} {sc : Scope} {fn : Str → Bool} (g : Good T ca Wx q G N X sc fn) {xs : List Expr}, mEs T N sc fn es xs = true → PA X xs (rdV X.K Wx (stills es) (evals q G es))
  | .nil, Wx, X, sc, fn, g, xs, hm => by
    cases xs with
    | nil => exact v_nil
    | cons _ _ => cases hm
  | .cons a es, Wx, X, sc, fn, g, xs, hm => by
    cases xs with
    | nil => cases hm
    | cons x r =>
      have hm : (mE T N sc fn a x && mEs T N sc fn es r) = true := hm
      rw [Bool.and_eq_true] at hm
      exact v_cons ((sET a).1 _ _ _ _ g _ hm.1) (sV es g hm.2) (mE_star hm.1 r)
theorem sF : ∀ (es : Es) {Wx : L2.St → Nat → Hp → Prop} {X : Cx} {sc : Scope} {fn : Str → Bool} (g : Good T ca Wx q G N X sc fn) {xs : List Expr}, mEs T N sc fn es xs = true → PA X xs (rdF X.K Wx (stills es) (evalFs q G es))
  | .nil, Wx, X, sc, fn, g, xs, hm => by
    cases xs with
    | nil => exact f_nil
    | cons _ _ => cases hm
  | .cons a es, Wx, X, sc, fn, g, xs, hm => by
    cases xs with
    | nil => cases hm
    | cons x r =>
      have hm : (mE T N sc fn a x && mEs T N sc fn es r) = true := hm
      rw [Bool.and_eq_true] at hm
      exact f_cons ((sET a).1 _ _ _ _ g _ hm.1) (sF es g hm.2) (mE_star hm.1 r)
theorem sA : ∀ (es : Es) {Wx : L2.St → Nat → Hp → Prop} {X : Cx} {sc : Scope} {fn : Str → Bool} (g : Good T ca Wx q G N X sc fn) {xs : List Expr}, mEs T N sc fn es xs = true → PA X xs (rdA X.K Wx (evalArgs q G es))
  | .nil, Wx, X, sc, fn, g, xs, hm => by
    cases xs with
    | nil => exact a_nil
    | cons _ _ => cases hm
  | .cons a es, Wx, X, sc, fn, g, xs, hm => by
    cases xs with
    | nil => cases hm
    | cons x r =>
      have hm : (mE T N sc fn a x && mEs T N sc fn es r) = true := hm
      rw [Bool.and_eq_true] at hm
      exact to_args g hm.1 ((sET a).1 _ _ _ _ g _ hm.1) (sA es g hm.2)
theorem sD : ∀ (es : Es) {Wx : L2.St → Nat → Hp → Prop} {X : Cx} {sc : Scope} {fn : Str → Bool} (g : Good T ca Wx q G N X sc fn) {ks : List (Option Expr)} {vs : List Expr} {p : Pos}, mDct T N sc fn es ks vs = true → PPs X p ks vs (trsOf X.K Wx q G es)
  | .nil, Wx, X, sc, fn, g, ks, vs, p, hm => by
    cases ks with
    | nil =>
      cases vs with
      | nil => exact pps_nil
      | cons _ _ => cases hm
    | cons _ _ => cases vs <;> cases hm
  | .cons k .nil, Wx, X, sc, fn, g, ks, vs, p, hm => by cases hm
  | .cons k (.cons v es), Wx, X, sc, fn, g, ks, vs, p, hm => by
    match ks, vs, hm with
    | some x :: ks, y :: vs, hm =>
      have hm : (mE T N sc fn k x && (mE T N sc fn v y && mDct T N sc fn es ks vs)) = true := hm
      rw [Bool.and_eq_true, Bool.and_eq_true] at hm
      exact pps_cons ((sET k).1 _ _ _ _ g _ hm.1) ((sET v).1 _ _ _ _ g _ hm.2.1) (sD es g hm.2.2)
theorem sI : ∀ (it : It) {Wx : L2.St → Nat → Hp → Prop} {X : Cx} {sc : Scope} {fn : Str → Bool} (g : Good T ca Wx q G N X sc fn) {tg e : Expr}, mIt T N sc fn it e = true → (itOk it false = false → ∃ elts kk tpos, tg = .Tuple elts kk tpos) → PI X tg e (rdI X.K Wx (refsI it) (evalIt q G it))
  | .seq a, Wx, X, sc, fn, g, tg, e, hm, ht => by
    have hm : (mE T N sc fn a e && !isPth a) = true := hm
    rw [Bool.and_eq_true] at hm
    exact c_seq (by simpa using hm.2) (to_opd g hm.1 ((sET a).1 _ _ _ _ g _ hm.1))
  | .rng1 a, Wx, X, sc, fn, g, tg, e, hm, ht => by
    match e, hm with
    | .Call (.Name x p1) [y] [] p, hm =>
      have hm : (x == ("range" : Str) && (T.bls.contains x && glb sc x && mE T N sc fn a y)) = true := hm
      rw [Bool.and_eq_true, Bool.and_eq_true, Bool.and_eq_true] at hm
      have ex := eq_of_beq hm.1
      subst ex
      exact c_rng1 g hm.2.1.1 hm.2.1.2 (mE_star hm.2.2) ((sET a).1 _ _ _ _ g _ hm.2.2)
  | .rng2 a b, Wx, X, sc, fn, g, tg, e, hm, ht => by
    match e, hm with
    | .Call (.Name x p1) [y, z] [] p, hm =>
      have hm : (x == ("range" : Str) && (T.bls.contains x && glb sc x && (mE T N sc fn a y && mE T N sc fn b z))) = true := hm
      rw [Bool.and_eq_true, Bool.and_eq_true, Bool.and_eq_true, Bool.and_eq_true] at hm
      have ex := eq_of_beq hm.1
      subst ex
      exact c_rng2 g hm.2.1.1 hm.2.1.2 (mE_star hm.2.2.1) (mE_star hm.2.2.2) ((sET a).1 _ _ _ _ g _ hm.2.2.1) ((sET b).1 _ _ _ _ g _ hm.2.2.2)
  | .enum a, Wx, X, sc, fn, g, tg, e, hm, ht => by
    obtain ⟨elts, kk, tpos, rfl⟩ := ht rfl
    match e, hm with
    | .Call (.Name x p1) [y] [] p, hm =>
      have hm : (x == ("enumerate" : Str) && (T.bls.contains x && glb sc x && (mE T N sc fn a y && !isPth a))) = true := hm
      rw [Bool.and_eq_true, Bool.and_eq_true, Bool.and_eq_true, Bool.and_eq_true] at hm
      have ex := eq_of_beq hm.1
      subst ex
      exact c_enum g hm.2.1.1 hm.2.1.2 (by simpa using hm.2.2.2) (mE_star hm.2.2.1) (to_opd g hm.2.2.1 ((sET a).1 _ _ _ _ g _ hm.2.2.1))
  | .zip2 a b, Wx, X, sc, fn, g, tg, e, hm, ht => by
    obtain ⟨elts, kk, tpos, rfl⟩ := ht rfl
    match e, hm with
    | .Call (.Name x p1) [y, z] [] p, hm =>
      have hm : (x == ("zip" : Str) && (T.bls.contains x && glb sc x && (mE T N sc fn a y && (mE T N sc fn b z && (!isPth a && !isPth b))))) = true := hm
      simp only [Bool.and_eq_true] at hm
      obtain ⟨ex, ⟨h1, h2⟩, h3, h4, h5, h6⟩ := hm
      have ex := eq_of_beq ex
      subst ex
      exact c_zip g h1 h2 (by simpa using h5) (by simpa using h6) (mE_star h3) (mE_star h4) (to_opd g h3 ((sET a).1 _ _ _ _ g _ h3)) (to_opd g h4 ((sET b).1 _ _ _ _ g _ h4))
end
end
end AW

/-! AWStmt: statements: what they are matched with, their readings, one lemma each. -/
namespace AW
open PySem L2 PyProof.Rows
/-! ### the names that are stored to -/
mutual
def asgS : S → List Nat
  | .asg t _ _ => t
  | .stk _ _ _ => []
  | .exp _ => []
  | .iff _ a b => asgSs a ++ asgSs b
  | .for_ t _ _ b => t ++ asgSs b
  | .whl _ b => asgSs b
  | .par i j _ _ => [i, j]
  | .tr b _ n i => [n, i] ++ asgSs b
  | _ => []
def asgSs : List S → List Nat
  | [] => []
  | s :: ss => asgS s ++ asgSs ss
end
def isLc : Expr → Bool
  | .ListComp _ _ _ _ => true
  | _ => false
def isTupD : Expr → Bool
  | .Tuple _ _ _ => true
  | _ => false
/-- how a value is stored: a comprehension swaps its new list with a local's on one line -/
def stoOk (sc : Scope) (tt : Bool) (tg v : Expr) : Bool :=
  match v with
  | .ListComp _ _ scope cp => tt || (match tg with
    | .Name y py => sc.names.lookup y == some .cell || (decide (sc.kind = .function) && (sc.names.lookup y == some .local && ((py.line == cp.line) && !(scope.names.any fun (n, k) => n == y && (k == .local || k == .cell)))))
    | _ => false)
  | .Tuple _ _ _ => !tt
  | _ => true
def starB : Expr → Bool
  | .Starred _ _ => true
  | _ => false
def parOk (sc : Scope) (x y : Str) (px py : Pos) (a b : Expr) : Bool :=
  decide (sc.kind = .function) && (sc.names.lookup x == some .local && (sc.names.lookup y == some .local && ((px.line == py.line) && (!(x == y) && (!([a, b].all (foldedForSure 8)) && !([a, b].all (constantsAlone 8)))))))
def disj (a b : List Nat) : Bool := a.all fun i => !b.contains i
/-! ### forms of statements -/
def kAsg (f g : Expr → Bool) (h : Expr → Expr → Bool) : Stmt → Bool
  | .Assign [tg] v _ => f tg && (g v && h tg v)
  | _ => false
theorem kAsg_inv {f g : Expr → Bool} {h : Expr → Expr → Bool} {st : Stmt} (e : kAsg f g h st = true) : ∃ tg v p, st = .Assign [tg] v p ∧ f tg = true ∧ g v = true ∧ h tg v = true := by
  unfold kAsg at e
  split at e
  · rw [Bool.and_eq_true, Bool.and_eq_true] at e
    exact ⟨_, _, _, rfl, e.1, e.2.1, e.2.2⟩
  · cases e
def kSub (f : Str → Bool) (g : Expr → Bool) : Expr → Bool
  | .Subscript (.Name x _) kx _ => f x && g kx
  | _ => false
theorem kSub_inv {f : Str → Bool} {g : Expr → Bool} {t : Expr} (e : kSub f g t = true) : ∃ x p1 kx p2, t = .Subscript (.Name x p1) kx p2 ∧ f x = true ∧ g kx = true := by
  unfold kSub at e
  split at e
  · rw [Bool.and_eq_true] at e
    exact ⟨_, _, _, _, rfl, e.1, e.2⟩
  · cases e
def kIf (f : Expr → Bool) (g h : List Stmt → Bool) : Stmt → Bool
  | .If t x y _ => f t && (g x && h y)
  | _ => false
theorem kIf_inv {f : Expr → Bool} {g h : List Stmt → Bool} {st : Stmt} (e : kIf f g h st = true) : ∃ t x y p, st = .If t x y p ∧ f t = true ∧ g x = true ∧ h y = true := by
  unfold kIf at e
  split at e
  · rw [Bool.and_eq_true, Bool.and_eq_true] at e
    exact ⟨_, _, _, _, rfl, e.1, e.2.1, e.2.2⟩
  · cases e
def kFor (f g : Expr → Bool) (h : List Stmt → Bool) : Stmt → Bool
  | .For tg iter body [] _ => f tg && (g iter && h body)
  | _ => false
theorem kFor_inv {f g : Expr → Bool} {h : List Stmt → Bool} {st : Stmt} (e : kFor f g h st = true) : ∃ tg iter body p, st = .For tg iter body [] p ∧ f tg = true ∧ g iter = true ∧ h body = true := by
  unfold kFor at e
  split at e
  · rw [Bool.and_eq_true, Bool.and_eq_true] at e
    exact ⟨_, _, _, _, rfl, e.1, e.2.1, e.2.2⟩
  · cases e
def kWhl (f : Expr → Bool) (h : List Stmt → Bool) : Stmt → Bool
  | .While t body [] _ => f t && h body
  | _ => false
theorem kWhl_inv {f : Expr → Bool} {h : List Stmt → Bool} {st : Stmt} (e : kWhl f h st = true) : ∃ t body p, st = .While t body [] p ∧ f t = true ∧ h body = true := by
  unfold kWhl at e
  split at e
  · rw [Bool.and_eq_true] at e
    exact ⟨_, _, _, rfl, e.1, e.2⟩
  · cases e
def kExp (f : Expr → Bool) : Stmt → Bool
  | .Expr v _ => f v
  | _ => false
theorem kExp_inv {f : Expr → Bool} {st : Stmt} (e : kExp f st = true) : ∃ v p, st = .Expr v p ∧ f v = true := by
  unfold kExp at e
  split at e
  · exact ⟨_, _, rfl, e⟩
  · cases e
def kRet (f : Expr → Bool) : Stmt → Bool
  | .Return (some v) _ => f v
  | _ => false
theorem kRet_inv {f : Expr → Bool} {st : Stmt} (e : kRet f st = true) : ∃ v p, st = .Return (some v) p ∧ f v = true := by
  unfold kRet at e
  split at e
  · exact ⟨_, _, rfl, e⟩
  · cases e
def kRetN : Stmt → Bool
  | .Return none _ => true
  | _ => false
theorem kRetN_inv {st : Stmt} (e : kRetN st = true) : ∃ p, st = .Return none p := by
  unfold kRetN at e
  split at e
  · exact ⟨_, rfl⟩
  · cases e
/-- raise x('..') -/
def kRse (f : Str → Bool) : Stmt → Bool
  | .Raise (some (.Call (.Name x _) [.Constant (.str _) _ _] [] _)) none _ => f x
  | _ => false
theorem kRse_inv {f : Str → Bool} {st : Stmt} (e : kRse f st = true) : ∃ x p m j p2 p3 p4, st = .Raise (some (.Call (.Name x p) [.Constant (.str m) j p2] [] p3)) none p4 ∧ f x = true := by
  unfold kRse at e
  split at e
  · exact ⟨_, _, _, _, _, _, _, rfl, e⟩
  · cases e
/-- try: body / except x as n: y = n -/
def kTry (g : List Stmt → Bool) (f : Str → Str → Str → Bool) : Stmt → Bool
  | .Try body [.ExceptHandler (some (.Name x _)) (some n) [.Assign [.Name y _] (.Name n2 _) _] _] [] [] _ => g body && (n2 == n && f x n y)
  | _ => false
theorem kTry_inv {g : List Stmt → Bool} {f : Str → Str → Str → Bool} {st : Stmt} (e : kTry g f st = true) : ∃ body x p n y py pn pa ph pt, st = .Try body [.ExceptHandler (some (.Name x p)) (some n) [.Assign [.Name y py] (.Name n pn) pa] ph] [] [] pt ∧ g body = true ∧ f x n y = true := by
  unfold kTry at e
  split at e
  · rw [Bool.and_eq_true, Bool.and_eq_true] at e
    obtain ⟨h1, h2, h3⟩ := e
    have h2 := eq_of_beq h2
    subst h2
    exact ⟨_, _, _, _, _, _, _, _, _, _, rfl, h1, h3⟩
  · cases e
def kPair : Expr → Option (Str × Pos × Str × Pos)
  | .Tuple [.Name x px, .Name y py] _ _ => some (x, px, y, py)
  | _ => none
theorem kPair_inv {t : Expr} {r : Str × Pos × Str × Pos} (e : kPair t = some r) : ∃ kt pt, t = .Tuple [.Name r.1 r.2.1, .Name r.2.2.1 r.2.2.2] kt pt := by
  unfold kPair at e
  split at e
  · cases e
    exact ⟨_, _, rfl⟩
  · cases e
def kTwo : Expr → Option (Expr × Expr)
  | .Tuple [a, b] _ _ => some (a, b)
  | _ => none
theorem kTwo_inv {t : Expr} {r : Expr × Expr} (e : kTwo t = some r) : ∃ kt pt, t = .Tuple [r.1, r.2] kt pt := by
  unfold kTwo at e
  split at e
  · cases e
    exact ⟨_, _, rfl⟩
  · cases e
def kPar (f : Str → Pos → Str → Pos → Expr → Expr → Bool) (tg v : Expr) : Bool :=
  match kPair tg, kTwo v with
  | some (x, px, y, py), some (a, b) => f x px y py a b
  | _, _ => false
theorem kPar_inv {f : Str → Pos → Str → Pos → Expr → Expr → Bool} {tg v : Expr} (e : kPar f tg v = true) : ∃ x px y py a b kt pt k2 p2, tg = .Tuple [.Name x px, .Name y py] kt pt ∧ v = .Tuple [a, b] k2 p2 ∧ f x px y py a b = true := by
  unfold kPar at e
  split at e
  · rename_i h1 h2
    obtain ⟨kt, pt, e1⟩ := kPair_inv h1
    obtain ⟨k2, p2, e2⟩ := kTwo_inv h2
    exact ⟨_, _, _, _, _, _, kt, pt, k2, p2, e1, e2, e⟩
  · cases e
section
variable (T : Tb) (N : List Str) (sc : Scope) (fn : Str → Bool)
mutual
def mS : S → Stmt → Bool
  | .asg t tt e, st => kAsg (fun tg => mTg N sc fn t tt tg) (fun v => mE T N sc fn e v) (fun tg v => stoOk sc tt tg v) st
  | .stk i k e, st => kAsg (kSub (fun x => mNm N sc i x) fun kx => mE T N sc fn k kx) (fun v => mE T N sc fn e v) (fun _ _ => true) st
  | .exp e, st => kExp (fun v => mE T N sc fn e v && !isLc v) st
  | .iff c a b, st => kIf (fun t => mE T N sc fn c t && okT c) (fun x => mSs a x) (fun y => mSs b y) st
  | .for_ t tt it b, st => kFor (fun tg => mTg N sc fn t tt tg) (fun iter => mIt T N sc fn it iter && (itOk it tt && disj (refsI it) (t ++ asgSs b))) (fun body => mSs b body) st
  | .whl c b, st => kWhl (fun t => mE T N sc fn c t && okT c) (fun body => mSs b body) st
  | .ret e, st => kRet (fun v => mE T N sc fn e v) st
  | .retN, st => kRetN st
  | .brk, st => match st with | .Break _ => true | _ => false
  | .cnt, st => match st with | .Continue _ => true | _ => false
  | .pss, st => match st with | .Pass _ => true | _ => false
  | .par i j a b, st => kAsg (fun _ => true) (fun _ => true) (kPar fun x px y py va vb => N[i]? == some x && (N[j]? == some y && (!(i == j) && (mE T N sc fn a va && (mE T N sc fn b vb && parOk sc x y px py va vb))))) st
  | .bad, _ => true
  | .rse g, st => kRse (fun x => T.gls[g]? == some x && glb sc x) st
  | .tr b g n i, st => kTry (fun body => mSs b body) (fun x nm y => (T.gls[g]? == some x && glb sc x) && (N[n]? == some nm && (N[i]? == some y && (!(n == i) && (sc.names.lookup nm == some .local && (sc.names.lookup y == some .local && vis sc nm)))))) st
def mSs : List S → List Stmt → Bool
  | [], sts => match sts with | [] => true | _ => false
  | s :: ss, sts => match sts with | st :: r => mS s st && mSs ss r | _ => false
end
end
/-! ### the readings -/
def Agr (asg : List Nat) (σ σ' : L2.St) : Prop := σ'.length = σ.length ∧ ∀ j, j ∉ asg → σ'[j]? = σ[j]?
theorem Agr.refl (asg : List Nat) (σ : L2.St) : Agr asg σ σ := ⟨rfl, fun _ _ => rfl⟩
theorem Agr.trans {asg : List Nat} {σ σ' σ2 : L2.St} (a : Agr asg σ σ') (b : Agr asg σ' σ2) : Agr asg σ σ2 := ⟨b.1.trans a.1, fun j h => (b.2 j h).trans (a.2 j h)⟩
theorem Agr.mono {asg asg' : List Nat} {σ σ' : L2.St} (a : Agr asg σ σ') (h : ∀ i ∈ asg, i ∈ asg') : Agr asg' σ σ' := ⟨a.1, fun j hj => a.2 j fun z => hj (h j z)⟩
def PostS {α : Type} (K : PySem.W.Frag) (Wx : L2.St → Nat → Hp → Prop) (asg : List Nat) (σ : L2.St) (F H : Hp) (S : AS) (r : R α) (P : α → Env → Prop) : Prop :=
  match r with
  | .ok a env' => P a env'
  | .exc c env' => ∀ F' H' S' σ', Rel K F' H' env' σ' S' → Agr asg σ σ' → Stp F H S F' H' S' → Wx σ' c H'
  | .no => False
def FlP (K : PySem.W.Frag) (asg : List Nat) (σ : L2.St) (F H : Hp) (S : AS) (D : Ends) : Fl → Env → Prop
  | .ret d, env' => ∀ F' H' S' T v σ', Rel K F' H' env' σ' S' → Agr asg σ σ' → Tmp K F' H' S' d v T → Stp F H S F' H' (Un2 S' T) → D.rt v H'
  | .next, env' => ∀ F' H' S' σ', Rel K F' H' env' σ' S' → Agr asg σ σ' → Stp F H S F' H' S' → D.nx σ' H'
  | .cnt, env' => ∀ F' H' S' σ', Rel K F' H' env' σ' S' → Agr asg σ σ' → Stp F H S F' H' S' → D.ct σ' H'
  | .brk, env' => ∀ F' H' S' σ', Rel K F' H' env' σ' S' → Agr asg σ σ' → Stp F H S F' H' S' → D.bk σ' H'
def rdS (K : PySem.W.Frag) (Wx : L2.St → Nat → Hp → Prop) (asg : List Nat) (r : Env → R Fl) : TS := fun D σ H => ∃ F env S, Rel K F H env σ S ∧ PostS K Wx asg σ F H S (r env) (FlP K asg σ F H S D)
section
variable {α β : Type} {K : PySem.W.Frag} {Wx : L2.St → Nat → Hp → Prop} {asg : List Nat} {σ σ' : L2.St} {F H F' H' : Hp} {S S' : AS} {r : R α} {P P' : α → Env → Prop} {D : Ends}
theorem PostS.imp (h : PostS K Wx asg σ F H S r P) (k : ∀ a env, P a env → P' a env) : PostS K Wx asg σ F H S r P' := by
  cases r with
  | ok a env => exact k a env h
  | exc c env => exact h
  | no => exact h
theorem PostS.at (h : PostS K Wx asg σ F H S r P) (a : Agr asg σ σ') (s : Stp F H S F' H' S') : PostS K Wx asg σ' F' H' S' r P := by
  cases r with
  | ok a env => exact h
  | exc c env => exact fun F2 H2 S2 σ2 r2 a2 s2 => h F2 H2 S2 σ2 r2 (a.trans a2) (s.trans s2)
  | no => exact h
theorem PostS.bind {f : α → Env → R β} {P : β → Env → Prop} (h : PostS K Wx asg σ F H S (r.bind f) P) : PostS K Wx asg σ F H S r fun a env => PostS K Wx asg σ F H S (f a env) P := by
  cases r with
  | ok a env => exact h
  | exc c env => exact h
  | no => exact h
/-- an expression ahead of the rest -/
theorem PostS.bindE {f : α → Env → R β} {P : β → Env → Prop} (h : PostS K Wx asg σ F H S (r.bind f) P) : Post K Wx σ F H S r fun a env => PostS K Wx asg σ F H S (f a env) P := by
  cases r with
  | ok a env => exact h
  | exc c env => exact fun F' H' S' r' s' => h F' H' S' σ r' (Agr.refl _ _) s'
  | no => exact h
theorem PostS.join {f : α → Env → R β} {P : β → Env → Prop} (h : PostS K Wx asg σ F H S r fun a env => PostS K Wx asg σ F H S (f a env) P) : PostS K Wx asg σ F H S (r.bind f) P := by
  cases r with
  | ok a env => exact h
  | exc c env => exact h
  | no => exact h
theorem PostS.iff {c : Prop} [Decidable c] {a : R α} (h : PostS K Wx asg σ F H S (if c then a else .no) P) : c ∧ PostS K Wx asg σ F H S a P := by
  by_cases hc : c
  · rw [if_pos hc] at h
    exact ⟨hc, h⟩
  · rw [if_neg hc] at h
    exact h.elim
theorem FlP.at {f : Fl} {env : Env} (h : FlP K asg σ F H S D f env) (a : Agr asg σ σ') (s : Stp F H S F' H' S') : FlP K asg σ' F' H' S' D f env := by
  cases f with
  | ret d => exact fun F2 H2 S2 T v σ2 r2 a2 t2 s2 => h F2 H2 S2 T v σ2 r2 (a.trans a2) t2 (s.trans s2)
  | next => exact fun F2 H2 S2 σ2 r2 a2 s2 => h F2 H2 S2 σ2 r2 (a.trans a2) (s.trans s2)
  | cnt => exact fun F2 H2 S2 σ2 r2 a2 s2 => h F2 H2 S2 σ2 r2 (a.trans a2) (s.trans s2)
  | brk => exact fun F2 H2 S2 σ2 r2 a2 s2 => h F2 H2 S2 σ2 r2 (a.trans a2) (s.trans s2)
theorem FlP.mono {asg' : List Nat} {f : Fl} {env : Env} (h : FlP K asg' σ F H S D f env) (hs : ∀ i ∈ asg, i ∈ asg') : FlP K asg σ F H S D f env := by
  cases f with
  | ret d => exact fun F2 H2 S2 T v σ2 r2 a2 t2 s2 => h F2 H2 S2 T v σ2 r2 (a2.mono hs) t2 s2
  | next => exact fun F2 H2 S2 σ2 r2 a2 s2 => h F2 H2 S2 σ2 r2 (a2.mono hs) s2
  | cnt => exact fun F2 H2 S2 σ2 r2 a2 s2 => h F2 H2 S2 σ2 r2 (a2.mono hs) s2
  | brk => exact fun F2 H2 S2 σ2 r2 a2 s2 => h F2 H2 S2 σ2 r2 (a2.mono hs) s2
theorem PostS.mono {asg' : List Nat} (h : PostS K Wx asg' σ F H S r P) (hs : ∀ i ∈ asg, i ∈ asg') : PostS K Wx asg σ F H S r P := by
  cases r with
  | ok a env => exact h
  | exc c env => exact fun F2 H2 S2 σ2 r2 a2 s2 => h F2 H2 S2 σ2 r2 (a2.mono hs) s2
  | no => exact h
theorem rdS.mono {asg' : List Nat} {r : Env → R Fl} (h : rdS K Wx asg' r D σ H) (hs : ∀ i ∈ asg, i ∈ asg') : rdS K Wx asg r D σ H := by
  obtain ⟨F, env, S, rl, hm⟩ := h
  exact ⟨F, env, S, rl, (hm.imp fun f env h => h.mono hs).mono hs⟩
end
/-! ### one statement at a time -/
section
variable {T : Tb} {ca : Nat → Addr} {Wx : L2.St → Nat → Hp → Prop} {q : Nat → List D → R D} {G : Nat → D} {N : List Str} {X : Cx} {sc : Scope} {fn : Str → Bool} {fu : Nat} {asg : List Nat}
/-- the value's reading, from a store's -/
theorem asg_weak {t : List Nat} {tt : Bool} {e : E} {D : Ends} {σ : L2.St} {H : Hp} (ht : ∀ i ∈ t, i ∈ asg) (h : rdS X.K Wx asg (exec q G fu (.asg t tt e)) D σ H) : rdE X.K Wx (still e) (eval q G e) σ H fun x H1 => gOf X.K t tt x σ H1 D.nx := by
  obtain ⟨F, env, S, r, hm⟩ := h
  have hm : PostS X.K Wx asg σ F H S ((eval q G e env).bind fun d e1 => match bindT t tt d e1 with | some e2 => R.ok Fl.next e2 | none => .no) _ := hm
  refine ⟨F, env, S, r, hm.bindE.imp fun d env1 hd F' H' S' T v r' t' s' _ => ?_⟩
  cases hb : bindT t tt d env1 with
  | none =>
    rw [hb] at hd
    exact hd.elim
  | some e2 =>
    rw [hb] at hd
    have hd : FlP X.K asg σ F H S D .next e2 := hd
    exact g_bind hb r' t' fun σ' S2 r2 hs hj => hd F' H' S2 σ' r2 ⟨by rw [← r2.en.len, ← r'.en.len]; exact bindT_len hb, fun j hj' => hj j fun z => hj' (ht j z)⟩ (s'.sub hs)
theorem notTup_stores {tg v : Expr} (h : isTupD v = false) : swappedStores [tg] v X.env = pure none := by
  unfold swappedStores
  cases v <;> first | (cases h; done) | (cases tg <;> rfl)
theorem sw_notlc {e : E} {v : Expr} (hm : mE T N sc fn e v = true) (h : isLc v = false) (tg : Option Expr) (l : Nat) : swapsWith v tg l X.env = pure false := by
  cases v with
  | ListComp _ _ _ _ => cases h
  | SetComp _ _ _ _ => cases e <;> cases hm
  | DictComp _ _ _ _ _ => cases e <;> cases hm
  | _ => rfl
end
end AW

/-! AWStmt2: one statement at a time. -/
namespace AW
open PySem L2 PyProof.Rows
section
variable {T : Tb} {ca : Nat → Addr} {Wx : L2.St → Nat → Hp → Prop} {q : Nat → List D → R D} {G : Nat → D} {N : List Str} {X : Cx} {sc : Scope} {fn : Str → Bool} {fu : Nat} {asg : List Nat}
/-! ### stores -/
theorem tg_stores {t : List Nat} {tt : Bool} {tg : Expr} (h : mTg N sc fn t tt tg = true) : (assignEach [tg] X.env).map (·.2) = [assign tg X.env] := by
  match tg, h with
  | .Name x p, h => rfl
  | .Tuple es k p, h => rfl
theorem tup_stores {t : List Nat} {tt : Bool} {tg v : Expr} (h : mTg N sc fn t tt tg = true) (ho : stoOk sc tt tg v = true) : swappedStores [tg] v X.env = pure none := by
  cases hv : isTupD v with
  | false => exact notTup_stores hv
  | true =>
    match v, hv with
    | .Tuple vs k p, _ =>
      have ho : (!tt) = true := ho
      match tg, h with
      | .Name x p, h => rfl
      | .Tuple es k p, h =>
        have h : (tt && mStos N sc fn t es) = true := h
        rw [Bool.and_eq_true] at h
        rw [h.1] at ho
        cases ho
theorem sw_cell {el : Expr} {gs : List Comprehension} {scope : Scope} {cp py : Pos} {y : Str} {l : Nat} (hs : X.env.scope = sc) (h : sc.names.lookup y = some .cell) : swapsWith (.ListComp el gs scope cp) (some (.Name y py)) l X.env = pure false := by
  have e : X.env.kindOf y = some .cell := by
    show X.env.scope.names.lookup y = _
    rw [hs]
    exact h
  unfold swapsWith
  simp only [e]
  have e2 : ((some NameKind.cell : Option NameKind) == some NameKind.local) = false := rfl
  simp only [e2, Bool.and_false, Bool.false_and]
/-- what a comprehension is made of -/
theorem lc_parts {own t : List Nat} {tt : Bool} {it : It} {c e0 : E} {el tg iter : Expr} {ifs : List Expr} {scope : Scope} {p : Pos} (g : Good T ca Wx q G N X sc fn) (hm : mE T N sc fn (.lc own t tt it c e0) (.ListComp el [⟨tg, iter, ifs, 0⟩] scope p) = true) :
    blkC N sc scope (ownN N own) = true ∧ (∀ i ∈ t, i ∈ own) ∧ (∀ i ∈ refsI it, i ∉ own) ∧ (ifs = [] → c = .cst (.bl true)) ∧ (∀ x, foldedSetIterable iter X.env x = pure x) ∧ PI X tg iter (rdI X.K Wx (refsI it) (evalIt q G it)) ∧
    (∀ (s : Shared) (H : Hp) (C : Addr) (cl : List (Str × Addr)) (fp : List Addr), PG (X.blk s H scope (compEnvC scope cl C X.env) fp) tg (gOf X.K t tt)) ∧
    (∀ (s : Shared) (H : Hp) (C : Addr) (cl : List (Str × Addr)) (fp : List Addr), PTs (X.blk s H scope (compEnvC scope cl C X.env) fp) ifs (rdC X.K q G c ifs)) ∧
    (∀ (s : Shared) (H : Hp) (C : Addr) (cl : List (Str × Addr)) (fp : List Addr), PE (X.blk s H scope (compEnvC scope cl C X.env) fp) el (rdE X.K (fun _ _ _ => False) (still e0) (eval q G e0))) := by
  have hm : (mIt T N sc fn it iter && (blkC N sc scope (ownN N own) && (mTg N (relSc scope sc) (fun y => scope.names.lookup y == some .cell) t tt tg && (mE T N (relSc scope sc) (fun y => scope.names.lookup y == some .cell) e0 el &&
    ((match (generalizing := false) ifs with
    | [] => cTrue c
    | [f] => mE T N (relSc scope sc) (fun y => scope.names.lookup y == some .cell) c f && okT c
    | _ => false) && ((t.all fun i => own.contains i) && (((refsI it).all fun i => !own.contains i) && itOk it tt))))))) = true := hm
  rw [Bool.and_eq_true, Bool.and_eq_true, Bool.and_eq_true, Bool.and_eq_true, Bool.and_eq_true, Bool.and_eq_true, Bool.and_eq_true] at hm
  obtain ⟨h1, h2, h3, h4, h5, h6, h7, h8⟩ := hm
  refine ⟨h2, fun i hi => by simpa using List.all_eq_true.mp h6 i hi, fun i hi => by simpa using List.all_eq_true.mp h7 i hi, fun z => ?_, mE_nofold h1, sI it g h1 (fun z => ?_), fun s H C cl fp => pg_of (g.blk s H scope C cl fp) h3, fun s H C cl fp => ?_, fun s H C cl fp => (sET e0).1 _ _ _ _ (g.blk s H scope C cl fp) _ h4⟩
  · subst z
    have h5 : cTrue c = true := h5
    unfold cTrue at h5
    split at h5
    · rfl
    · cases h5
  · have ht : tt = true := by
      cases it <;> first | exact h8 | cases z
    subst ht
    cases tg <;> first | exact ⟨_, _, _, rfl⟩ | cases h3
  · match ifs, h5 with
    | [], h5 => exact pts_nil
    | [f], h5 =>
      have h5 : (mE T N (relSc scope sc) (fun y => scope.names.lookup y == some .cell) c f && okT c) = true := h5
      rw [Bool.and_eq_true] at h5
      exact pts_one ((sET c).2 _ _ _ _ (g.blk s H scope C cl fp) _ h5.1 h5.2)
theorem mTg_name {t : List Nat} {tt : Bool} {y : Str} {py : Pos} (h : mTg N sc fn t tt (.Name y py) = true) : tt = false ∧ ∃ i, t = [i] ∧ mSto N sc fn i y = true := by
  cases tt with
  | true => cases h
  | false =>
    match t, h with
    | [i], h => exact ⟨rfl, i, rfl, h⟩
theorem s_asg {t : List Nat} {tt : Bool} {e : E} {st : Stmt} (g : Good T ca Wx q G N X sc fn) (hm : mS T N sc fn (.asg t tt e) st = true) (ht : ∀ i ∈ t, i ∈ asg) : PS X st (rdS X.K Wx asg (exec q G fu (.asg t tt e))) := by
  · obtain ⟨tg, v, pos, est, h1, h2, h3⟩ := kAsg_inv hm
    subst est
    have pe := (sET e).1 _ _ _ _ g _ h2
    have plain : swapsWithSole [tg] v pos.line X.env = pure false → PS X (.Assign [tg] v pos) (rdS X.K Wx asg (exec q G fu (.asg t tt e))) := fun hs =>
      PS.weak (ps_asg pe (pg_of g h1) hs (tup_stores h1 h3) (tg_stores h1)) fun D σ H h => asg_weak ht h
    cases hl : isLc v with
    | false => exact plain (sw_notlc h2 hl _ _)
    | true =>
      match v, hl with
      | .ListComp el gs scope cp, _ =>
        match tg, h1, h3, plain with
        | .Tuple es k p, h1, h3, plain => exact plain rfl
        | .Name y py, h1, h3, plain =>
          obtain ⟨htt, i, hti, hst⟩ := mTg_name h1
          subst htt hti
          have h3 : (false || (sc.names.lookup y == some .cell || (decide (sc.kind = .function) && (sc.names.lookup y == some .local && ((py.line == cp.line) && !(scope.names.any fun (n, k) => n == y && (k == .local || k == .cell))))))) = true := h3
          rw [Bool.false_or, Bool.or_eq_true] at h3
          rcases h3 with h3 | h3
          · exact plain (sw_cell (l := pos.line) g.sc (by simpa using h3))
          · simp only [Bool.and_eq_true] at h3
            obtain ⟨k1, k2, k3, k4⟩ := h3
            have k1 := of_decide_eq_true k1
            have k2 : sc.names.lookup y = some .local := by simpa using k2
            have k4 : (scope.names.any fun (n, k) => n == y && (k == .local || k == .cell)) = false := by simpa using k4
            unfold mSto at hst
            rw [Bool.and_eq_true] at hst
            have hN : X.N[i]? = some y := by rw [g.n]; simpa using hst.1
            cases e with
            | lc own t2 tt2 it c e0 =>
              match gs, h2 with
              | [⟨tg2, iter, ifs, 0⟩], h2 =>
                obtain ⟨p1, p2, p3, p4, p5, p6, p7, p8, p9⟩ := lc_parts g h2
                have hvs : (ownN N own).map (·.2) = own := by
                  unfold ownN
                  rw [List.map_map]
                  exact List.map_id _
                have ok := blkOk_by (N := X.N) (sc := X.env.scope) (scope := scope) (own := ownN N own) (by rw [g.n, g.sc]; exact p1)
                refine PS.weak (ps_setLc g.calm (by rw [g.n]; exact g.nd) hN (by rw [g.sc]; exact k2) (sw_true (by rw [g.sc]; exact k1) (by rw [g.sc]; exact k2) k3 k4) p6 ok p7 p8 p9 p5) fun D σ H h => ?_
                rw [hvs]
                exact lc_weak p2 p3 p4 (asg_weak ht h)
            | _ => cases h2
/-! ### x[k] = e -/
def rSetA (X : Cx) : TSet := fun o i v H Q => (∃ p xs k j, o = .ref p ∧ i = .int k ∧ H p = some (.lst xs) ∧ ixN xs.length k = some j ∧ Q (upd H p (.lst (xs.set j v)))) ∨ (∃ a H', o = .ref a ∧ DPut H a i v H' ∧ Q H') ∨
  ∃ F p ks xs x k b, o = .ref p ∧ i = .ref b ∧ TbAt X.K F H p ks xs ∧ xs.length < sizeLine ∧ isTK x = true ∧ nkOf x = some k ∧ Rp X.K F H x (.ref b) No ∧ ∀ ep u, RelV v u → (p == sysModules) = false → Q (upd H p (tab p ep (storedH xs k b u)))
theorem set_any (hu : X.A.units + 9 < cLine) : PSet X (rSetA X) := by
  intro pins s σ H o i v ov iv u Q I ro ri rv h
  rcases h with h | h | h
  · exact set_list pins s σ H o i v ov iv u Q I ro ri rv h
  · exact set_dict (by omega) pins s σ H o i v ov iv u Q I ro ri rv h
  · obtain ⟨F, p, ks, xs, x, k, b, eo, ei, hT, hsz, hx, hk, rx, q⟩ := h
    subst eo; subst ei
    cases (show ov = Value.ref p from ro)
    cases (show iv = Value.ref b from ri)
    exact t_setItem (u := u) hu I hT hsz hx hk rx fun ep s' I' => ⟨_, I', q ep u rv (hT.rd I).1.sm⟩
theorem sub_sw {v o i : Expr} {p : Pos} {l : Nat} : swapsWithSole [.Subscript o i p] v l X.env = pure false := by
  cases v <;> rfl
theorem sub_stores {v o i : Expr} {p : Pos} : swappedStores [.Subscript o i p] v X.env = pure none := by
  unfold swappedStores
  cases v <;> rfl
theorem s_stk {i : Nat} {k e : E} {st : Stmt} (g : Good T ca Wx q G N X sc fn) (hm : mS T N sc fn (.stk i k e) st = true) : PS X st (rdS X.K Wx asg (exec q G fu (.stk i k e))) := by
  · obtain ⟨tg, v, pos, est, h0, h3, _⟩ := kAsg_inv hm
    subst est
    obtain ⟨x, p1, kx, p2, etg, h1, h2⟩ := kSub_inv h0
    subst etg
    have hu : X.A.units + 9 < cLine := by have := g.hu; omega
    refine PS.weak (ps_asg ((sET e).1 _ _ _ _ g _ h3) (pg_sub (pe_nm g h1) ((sET k).1 _ _ _ _ g _ h2) (set_any hu) (by intro _; cases kx <;> first | rfl | (cases k <;> cases h2))) sub_sw sub_stores rfl) fun D σ H ⟨F, env, S, r, hm⟩ => ?_
    have hm : PostS X.K Wx asg σ F H S ((eval q G e env).bind fun d e1 => if okF d && (gt e1 i).isSome then (eval q G k e1).bind fun o e2 =>
      match gt e2 i with
      | some a => match dSet a o (frz d) with | some x => R.ok Fl.next (e2.set i (some x)) | none => .no
      | none => .no
      else .no) _ := hm
    refine ⟨F, env, S, r, hm.bindE.imp fun d env1 hd F1 H1 S1 T1 v1 r1 t1 s1 _ => ?_⟩
    obtain ⟨hc, hd⟩ := hd.iff
    rw [Bool.and_eq_true] at hc
    obtain ⟨r2, t2, s2⟩ := Tmp.frz r1 t1 hc.1
    obtain ⟨od, hod⟩ := Option.isSome_iff_exists.mp hc.2
    obtain ⟨x0, _, g1, _, _⟩ := r2.at hod
    have s12 := s1.trans s2
    refine ⟨x0, g1, _, env1, S1, r2, Post.imp (Post.at (PostS.bindE (hd.at (Agr.refl _ _) s12)) Stp.refl) fun o env2 hd F3 H3 S3 T3 v3 r3 t3 s3 _ => ?_⟩
    have s3' : Stp (addF F1 H1 T1) H1 S1 F3 H3 S3 := s3.sub fun a z => Or.inl z
    cases hg : gt env2 i with
    | none =>
      rw [hg] at hd
      exact hd.elim
    | some a0 =>
    rw [hg] at hd
    have hd : PostS X.K Wx asg σ (addF F1 H1 T1) H1 S1 (match dSet a0 o (frz d) with | some x => R.ok Fl.next (env2.set i (some x)) | none => .no) _ := hd
    cases hds : dSet a0 o (frz d) with
    | none =>
      rw [hds] at hd
      exact hd.elim
    | some a1 =>
    rw [hds] at hd
    have hd : FlP X.K asg σ F H S D .next (env2.set i (some a1)) := hd
    obtain ⟨w, Sa, Sb, k1, k2, k3, k4, k5, k6⟩ := r3.en.hold (gt_lt hg)
    rw [hg] at k5
    obtain ⟨w', ew, k5⟩ := k5
    subst ew
    rw [g1] at k1
    cases k1
    have rpv : Rp X.K F3 H3 (frz d) v1 No := Rp.mono s3.fx s3.tu _ _ _ _ (fun _ z => z) (fun _ _ z => z.elim) t2.rp
    have nv := frz_noOwn d hc.1
    -- the object written anew at p
    have fin : ∀ {p : Addr} {ob nb : HO}, x0 = .ref p → Sa p → H3 p = some ob → (∀ xs, ob ≠ .tup xs) → (∀ u xs, ob ≠ .frz u xs) → (∀ (H' : Hp), Tu H3 H' → H' p = some nb → (∀ a u, a ≠ p → H3 a = some u → H' a = some u) → Rp X.K F3 H' a1 (.ref p) Sa) → D.nx σ (upd H3 p nb) := by
      intro p ob nb ex hp hob n1 n2 hrp
      subst ex
      have tu : Tu H3 (upd H3 p nb) := Tu.upd hob n1 n2
      have kp : ∀ a u, a ≠ p → H3 a = some u → upd H3 p nb a = some u := fun a u n e => by rw [upd_ne n]; exact e
      have nF3 : F3 p = none := r3.nf p (k2 p hp)
      have z := k6 F3 (upd H3 p nb) (some a1) (some (.ref p)) Sa S3 (Ex.refl F3) tu (fun a u z e => kp a u (fun y => k4 p hp (by rw [← y]; exact z)) e) k4 k2 k3 ⟨.ref p, rfl, hrp _ tu upd_same kp⟩
      rw [set_slot g1] at z
      refine hd F3 _ S3 σ ⟨fun a u e => kp a u (fun y => ?_) (r3.ex a u e), r3.nf, fun a y => ?_, z⟩ (Agr.refl _ _) ?_
      · rw [y, nF3] at e
        cases e
      · by_cases w : a = p
        · rw [w, upd_same]
          intro z
          cases z
        · rw [upd_ne w]
          exact r3.al a y
      · refine (s12.trans s3').trans ⟨fun a u n e => kp a u (fun y => n (by rw [y]; exact k2 p hp)) e, Ex.refl F3, fun a y => Or.inl y, fun a y => Or.inl y, tu⟩
    unfold dSet at hds
    split at hds
    · -- a list
      split at hds
      · rename_i ds j
        obtain ⟨n, hn, e1⟩ := Option.map_eq_some_iff.mp hds
        subst e1
        obtain ⟨p, vs, ex, hp, hl⟩ := k5
        rw [if_pos rfl] at hp
        have ej : v3 = .int j := t3.rp
        refine Or.inl ⟨p, vs, j, n, ex, ej, hp.2, by rw [← hl.len]; exact hn, fin ex hp.1 hp.2 (fun _ z => by cases z) (fun _ _ z => by cases z) fun H' tu hH' kp => ⟨p, vs.set n v1, rfl, ?_, ?_⟩⟩
        · rw [if_pos rfl]
          exact ⟨hp.1, hH'⟩
        · refine RpL.set (T := No) ?_ (Rp.mono (Ex.refl F3) tu _ _ _ _ (fun _ z => z) (fun _ _ z => z.elim) rpv) (fun _ _ z => z) (fun _ z => z) (fun _ z => z.elim)
          exact RpL.mono (Ex.refl F3) tu _ _ _ _ (fun _ z => z) (fun a u z e => kp a u (z.2 rfl) e) hl
      · cases hds
    · -- a dict
      split at hds
      · rename_i ks vs hcd
        cases hds
        rw [Bool.and_eq_true] at hcd
        obtain ⟨κ, hκ⟩ := Option.isSome_iff_exists.mp hcd.1
        have hsz := of_decide_eq_true hcd.2
        have ej := keyOf_kV hκ t3.rp
        obtain ⟨p, kvs, ex, hp, hks, hl⟩ := k5
        rw [if_pos rfl] at hp
        have lk : kvs.length < sizeLine := by
          have z := hks.len
          rw [List.length_map] at z
          rw [← z]
          exact hsz
        refine Or.inr (Or.inl ⟨p, upd H3 p (.dK (putK kvs κ v1)), ex, by rw [ej]; exact DPut.k hp.2 lk, fin ex hp.1 hp.2 (fun _ z => by cases z) (fun _ _ z => by cases z) fun H' tu hH' kp => ?_⟩)
        have hl2 := RpL.mono (Ex.refl F3) tu _ _ _ _ (fun _ z => z) (fun a u z e => kp a u (z.2 rfl) e) hl
        obtain ⟨q1, q2⟩ := dPut_ok hκ (Rp.mono (Ex.refl F3) tu _ _ _ _ (fun _ z => z) (fun _ _ z => z.elim) rpv) hks hl2
        exact ⟨p, _, rfl, by rw [if_pos rfl]; exact ⟨hp.1, hH'⟩, q1, q2⟩
      · split at hds
        · rename_i ks vs _ hcd
          cases hds
          rw [Bool.and_eq_true] at hcd
          obtain ⟨k, b, hk, hd8, ej, rx⟩ := tk_ref hcd.1 t3.rp
          obtain ⟨p, kvs, ex, hp, hks, hl⟩ := k5
          rw [if_pos rfl] at hp
          have ek : ks = [] := List.isEmpty_iff.mp hcd.2
          subst ek
          have e0 : kvs = [] := by
            have z := hks.len
            exact List.eq_nil_of_length_eq_zero (by simpa using z.symm)
          subst e0
          refine Or.inr (Or.inr ⟨F3, p, [], [], o, k, b, ex, ej, Or.inr ⟨hp.2, rfl, rfl⟩, by decide, hcd.1, hk, rx, fun ep u ru sm => fin ex hp.1 hp.2 (fun _ z => by cases z) (fun _ _ z => by cases z) fun H' tu hH' kp => ?_⟩)
          have hT : KtOk p [] [] := ⟨rfl, by simp, Nat.zero_le _, sm, fun x hx => (by cases hx)⟩
          obtain ⟨us', q1, q2, q3, q4⟩ := tPut_ok (vs := []) (us := []) (S := fun a => Sa a ∧ (true = true → a ≠ p)) hk hd8 hT (by decide) (show RpL X.K F3 H' [] [] No from rfl) (Rp.mono (Ex.refl F3) tu _ _ _ _ (fun _ z => z) (fun _ _ z => z.elim) rx) .nil (show RpL X.K F3 H' [] [] _ from rfl) ru (Rp.mono (Ex.refl F3) tu _ _ _ _ (fun _ z => z) (fun _ _ z => z.elim) rpv)
          exact ⟨p, ep, _, us', rfl, by rw [if_pos rfl]; exact ⟨hp.1, hH'⟩, q1, q3, q2, q4⟩
        · cases hds
    · -- a dict with tuple keys
      split at hds
      · rename_i ks vs hcd
        cases hds
        rw [Bool.and_eq_true] at hcd
        obtain ⟨k, b, hk, hd8, ej, rx⟩ := tk_ref hcd.1 t3.rp
        have hsz := of_decide_eq_true hcd.2
        obtain ⟨p, ep0, xs, us, ex, hp, hks, hvl, hkl, hl⟩ := k5
        rw [if_pos rfl] at hp
        have lk : xs.length < sizeLine := by
          have z := congrArg List.length hks.ns
          rw [List.length_map, List.length_map] at z
          rw [← z]
          exact hsz
        refine Or.inr (Or.inr ⟨F3, p, ks, xs, o, k, b, ex, ej, Or.inl ⟨⟨_, hp.2⟩, hks, hkl⟩, lk, hcd.1, hk, rx, fun ep u ru sm => fin ex hp.1 hp.2 (fun _ z => by cases z) (fun _ _ z => by cases z) fun H' tu hH' kp => ?_⟩)
        have hl2 := RpL.mono (Ex.refl F3) tu _ _ _ _ (fun _ z => z) (fun a u z e => kp a u (z.2 rfl) e) hl
        obtain ⟨us', q1, q2, q3, q4⟩ := tPut_ok hk hd8 hks lk (RpL.mono (Ex.refl F3) tu _ _ _ _ (fun _ z => z) (fun _ _ z => z.elim) hkl) (Rp.mono (Ex.refl F3) tu _ _ _ _ (fun _ z => z) (fun _ _ z => z.elim) rx) hvl hl2 ru (Rp.mono (Ex.refl F3) tu _ _ _ _ (fun _ z => z) (fun _ _ z => z.elim) rpv)
        exact ⟨p, ep, _, us', rfl, by rw [if_pos rfl]; exact ⟨hp.1, hH'⟩, q1, q3, q2, q4⟩
      · cases hds
    · cases hds
end
end AW

/-! AWTry: an error let out, an error caught and kept. -/
namespace AW
open PySem L2 PyProof.Rows
section
variable {X : Cx} {pins : List (Addr × Obj)} {σ : L2.St} {H : Hp} {s : Shared}
/-- an object of the heap that nothing speaks of is tracked from here on -/
theorem lay_old {a : Addr} {o : HO} {oe : Obj} (I : L2.Inv X pins σ H s) (he : s.heap.get? a = some oe) (hn : H a = none) (h0 : X.s_0.heap.get? a = none) (nL : a ≠ X.env.locals) (nC : ∀ x c, X.env.cells.lookup x = some c → c ≠ a) (nP : ∀ p ∈ X.pn ++ pins, p.1 ≠ a)
    (new : ObjOk X.prog X.w (upd H a o) s.heap a o) : L2.Inv X pins σ (upd H a o) s := by
  have kp : ∀ b u, H b = some u → upd H a o b = some u := fun b u e => by
    rw [upd_ne (fun z => by rw [z, hn] at e; cases e)]
    exact e
  refine ⟨I.ok, I.os, I.bare, ⟨I.base.keep, I.base.slot, fun b u e n hx => ?_, I.base.there, fun b xs e => kp _ _ (I.base.tups b xs e), fun b ob u e => kp _ _ (I.base.frzs b ob u e), fun b ps e => ?_⟩, I.loc, I.cell, ?_, fun x c e => ?_, fun p hp => ?_, fun b u e => ?_, I.len⟩
  · rw [upd_ne (fun z => by rw [z, h0] at e; cases e)]
    exact I.base.free b u e n hx
  · obtain ⟨more, q⟩ := I.base.tbls b ps e
    exact ⟨more, kp _ _ q⟩
  · rw [upd_ne (Ne.symm nL)]
    exact I.free
  · rw [upd_ne (nC x c e)]
    exact I.freeC x c e
  · obtain ⟨e, n, ne, nf, d⟩ := I.pin p hp
    exact ⟨e, by rw [upd_ne (nP p hp)]; exact n, ne, nf, d⟩
  · by_cases hb : b = a
    · subst hb
      rw [upd_same] at e
      cases e
      exact new
    · rw [upd_ne hb] at e
      exact (I.hok b u e).stay (fun _ _ _ q => q) (fun c q => kp _ _ q) fun c xs q => kp _ _ q
end
/-- what the clause wishes of an error of the body: it is kept, the rest goes on -/
def wKeep (K : PySem.W.Frag) (c : Value) (n : Nat) (ts : Addr → TS) (D : Ends) : WX := fun cls d σ H =>
  d = none ∧ PySem.W.exmOne K cls c = some true ∧ ∀ a, H a = none → ts a { nx := fun σ' H' => D.nx (σ'.set n none) (upd H' a (exV cls a)), rt := fun _ _ => False } (σ.set n (some (.ref a))) H
section
variable {X : Cx} {x nm : Str} {c : Value} {n : Nat} {body suite : List Stmt} {b₀ : Stmt} {np pos pos' : Pos} {tb : WX → TS} {ts : Addr → TS}
theorem ps_try_keep (hs : X.stack = X.env :: X.outer) (hf : X.env.frame = some X.env.locals) (hex : X.ex = []) (hN : X.N.Nodup) (hi : X.N[n]? = some nm) (hln : X.env.kindOf nm = some .local) (hc : Names X x c)
    (hb : ∀ (W : WX) (pn : List (Addr × Obj)) (xe : Value → Shared → Prop), Takes (X.tr pn xe) W → PassesOwn (model X.prog X.w) X.A X.env xe → PSs (X.tr pn xe) body (tb W))
    (hsu : ∀ (a : Addr) (oe : Obj) (pn : List (Addr × Obj)), (∃ vs, oe.data = .fields vs) → PSs (X.suite a ((a, oe) :: pn)) (b₀ :: suite) (ts a)) :
    PS X (.Try body [.ExceptHandler (some (.Name x np)) (some nm) (b₀ :: suite) pos'] [] [] pos) (fun D σ H => tb (wKeep X.K c n ts D) D σ H) := by
  refine ⟨fun pins s σ H D I h => ?_⟩
  have ok := I.ok
  have hfr : X.A.frames = some (X.env :: X.outer) := by rw [ok.frames, hs]
  have hloc : Loc X.env.scope nm := .inl hln
  refine wpAny_Try_except ?_
  refine wpAny_mono ((hb (wKeep X.K c n ts D) (X.pn ++ pins) (fun e s₁ => wpAny (model X.prog X.w) X.A (noteFrame e X.env) (fun _ s₂ => wpAny (model X.prog X.w) X.A (setFlight e none) (fun _ s₃ =>
    wpAny (model X.prog X.w) X.A (handleBy e X.env [.ExceptHandler (some (.Name x np)) (some nm) (b₀ :: suite) pos']) (SP X pins D) X.xe s₃) X.xe s₂) X.xe s₁) (fun u s' xx => ?_) PassesOwn.looking).run [] s σ H D (I.toTry _) h) (fun f s1 hsp => ?_) (fun e s1 he => he)
  · obtain ⟨a, B, sI, pins', σ', H', cls, d, rfl, J', nb, up, sky, na, os, ag, hd0, hb1, hyes⟩ := xx
    have J : L2.Inv X pins σ' H' sI := J'.ofTry ok
    have sky' : Sky B (X.env :: X.outer) a (Zc cls d) X.env.locals s'.heap := by rw [← hs]; exact sky
    show wpAny (model X.prog X.w) X.A (noteFrame (.ref a) X.env) _ _ _
    refine Sky.land Zc.steady hfr hf sky' fun h3 fl3 up3 => ?_
    have J3 : L2.Inv X pins σ' H' { s' with heap := h3 } := J.landed nb fl3.1 (up.trans up3) os ag
    obtain ⟨oe3, vs3, he3, hz3, hd3⟩ := fl3.there
    have nfr : a ∉ frs (X.env :: X.outer) := fun hm => by
      obtain ⟨_, o', e', hnf⟩ := fl3.2.2.1.mem hm
      rw [he3] at e'
      cases e'
      exact hnf _ hd3
    have nL : a ≠ X.env.locals := fun z => nfr (List.mem_filterMap.mpr ⟨X.env, List.mem_cons_self, by rw [hf, z]⟩)
    have nF : a ∉ X.fs := fun hm => by
      obtain ⟨e, he, q⟩ := List.mem_filterMap.mp hm
      exact nfr (List.mem_filterMap.mpr ⟨e, List.mem_cons_of_mem _ he, q⟩)
    -- nothing of ours stands there
    have nI : ∀ o, sI.heap.get? a ≠ some o := fun o e => by
      have z := nb a o e (by rw [hs]; exact nfr)
      rw [fl3.2.1] at z
      cases z
    have n0 : X.s_0.heap.get? a = none := by
      cases q : X.s_0.heap.get? a with
      | none => rfl
      | some o =>
        obtain ⟨o', q'⟩ := J.base.there a o q (by rw [hex]; exact List.not_mem_nil)
        exact absurd q' (nI o')
    have nC : ∀ y k, X.env.cells.lookup y = some k → k ≠ a := fun y k e z => by
      obtain ⟨v, o, q, _⟩ := J.cell y k e
      rw [z] at q
      exact nI _ q
    have nP : ∀ p ∈ X.pn ++ pins, p.1 ≠ a := fun p hp z => by
      have q := (J.pin p hp).1
      rw [z] at q
      exact nI _ q
    have S3 := J3.suite he3 hd3 na nL nF
    refine wpAny_handleBy_cons (codeAny_handlers_test ?_) (by intro q; cases q)
    have LT : PySem.W.Looks (model X.prog X.w) h3 (typeOf (.ref a)) cls := fun A Q E s k q => wpAny_typeOf_ref (k _ _ he3) (by rw [hz3.1]; exact q)
    have LM := PySem.W.exm_one (M := model X.prog X.w) (J3.kIn) LT hb1
    have test : ∀ {Q : Value → Shared → Prop} {E : Value → Shared → Prop}, Q c { s' with heap := h3 } → wpAny (model X.prog X.w) (X.A.mark (some (.ref a))) (PySem.eval (.Name x np) X.env) Q E { s' with heap := h3 } := fun {Q E} q => by
      obtain ⟨hg, hdbg, hm | ⟨hm, hv, hnn⟩⟩ := hc
      · exact ld_glob (X := X.suite a ((a, oe3) :: (X.pn ++ pins))) S3 hg hm q hdbg
      · exact ld_blt (X := X.suite a ((a, oe3) :: (X.pn ++ pins))) S3 hg hm hv q hnn hdbg
    refine test (LM.here ?_)
    refine codeAny_handlers_suite_as ?_
    refine HandSPX.lands_againZ fl3 fun h4 fl4 up4 => ?_
    have J4 : L2.Inv X pins σ' H' { s' with heap := h4 } := J.landed nb fl4.1 ((up.trans up3).trans up4) os ag
    obtain ⟨oe4, vs4, he4, hz4, hd4⟩ := fl4.there
    have S4 := J4.suite he4 hd4 na nL nF
    refine store_ok (X := X.suite a ((a, oe4) :: (X.pn ++ pins))) (v := .ref a) S4 hN hi hloc rfl (fun s5 S5 => ?_) (.inr hln)
    refine wpAny_mono ((hsu a oe4 (X.pn ++ pins) ⟨_, hd4⟩).run [] s5 _ H' _ S5 (hyes a na)) (fun f s6 hsp => ?_) (fun _ _ z => False.elim z)
    cases f with
    | next =>
      obtain ⟨σ6, H6, S6, q6⟩ := hsp
      refine gone_ok (X := X.suite a ((a, oe4) :: (X.pn ++ pins))) S6 hN hi hln fun s7 S7 => ?_
      obtain ⟨p1, p2, _⟩ := S7.pin (a, oe4) (List.mem_append_left _ List.mem_cons_self)
      have hz : Zc cls none oe4 := by rw [← hd0]; exact hz4
      exact ⟨_, _, lay_old (S7.unsuite ok) p1 p2 n0 nL nC nP (exV_ok p1 hz hd4), q6⟩
    | brk =>
      obtain ⟨σ6, H6, S6, q6⟩ := hsp
      exact q6.elim
    | cont =>
      obtain ⟨σ6, H6, S6, q6⟩ := hsp
      exact q6.elim
    | ret u =>
      obtain ⟨v6, σ6, H6, S6, r6, q6⟩ := hsp
      exact q6.elim
  · cases f with
    | next =>
      obtain ⟨σ', H', J', q⟩ := hsp
      exact wpAny_execs_nil ⟨σ', H', J'.ofTry ok, q⟩
    | brk =>
      obtain ⟨σ', H', J', q⟩ := hsp
      exact ⟨σ', H', J'.ofTry ok, q⟩
    | cont =>
      obtain ⟨σ', H', J', q⟩ := hsp
      exact ⟨σ', H', J'.ofTry ok, q⟩
    | ret u =>
      obtain ⟨v, σ', H', J', r, q⟩ := hsp
      exact ⟨v, σ', H', J'.ofTry ok, r, q⟩
end
end AW

/-! AWTry2: raise and try, by their terms. -/
namespace AW
open PySem L2 PyProof.Rows
section
variable {T : Tb} {ca : Nat → Addr} {Wx : L2.St → Nat → Hp → Prop} {q : Nat → List D → R D} {G : Nat → D} {N : List Str} {X : Cx} {sc : Scope} {fn : Str → Bool} {fu : Nat} {asg : List Nat}
theorem cls_at (g : Good T ca Wx q G N X sc fn) {i m : Nat} {x : Str} (hx : T.gls[i]? = some x) (hG : G i = .fn m) (h2 : m % 2 = 0) (h8 : m / 2 < 8) : X.mg x = some (.ref (exA X.K (m / 2))) ∧ KN X.K (m / 2) ∧ EX X.K := by
  obtain ⟨u, v, e1, e2, _, e4⟩ := g.gls i x hx
  rw [hG] at e1 e4
  have e1 : X.mg x = some u := e1.elim id fun z => by
    have := D.fn.inj z.1
    omega
  obtain ⟨x0, kn, a, _⟩ := (show FnR X.K (fun _ => none) m v from e4 _ (fun _ => none))
  have e := a h2
  subst e
  have e5 := clsUV e2
  subst e5
  unfold clsU at e1
  rw [if_pos h8] at e1
  exact ⟨e1, kn, x0⟩
theorem s_rse {i : Nat} {st : Stmt} (g : Good T ca Wx q G N X sc fn) (hm : mS T N sc fn (.rse i) st = true) : PS X st (rdS X.K Wx asg (exec q G fu (.rse i))) := by
  obtain ⟨x, p, m, j, p2, p3, p4, rfl, h⟩ := kRse_inv hm
  rw [Bool.and_eq_true] at h
  have hx : T.gls[i]? = some x := by simpa using h.1
  obtain ⟨hgl, hdb⟩ := glb_ok g.sc h.2
  have no : (∀ env, exec q G fu (.rse i) env = .no) → PS X (.Raise (some (.Call (.Name x p) [.Constant (.str m) j p2] [] p3)) none p4) (rdS X.K Wx asg (exec q G fu (.rse i))) := fun e =>
    PS.weak ps_never fun D σ H ⟨F, env, S, r, h⟩ => by
      rw [e env] at h
      exact h
  cases hG : G i with
  | fn k =>
    by_cases hk : k % 2 = 0 ∧ k / 2 < 8
    · obtain ⟨e1, kn, x0⟩ := cls_at g hx hG hk.1 hk.2
      have o := x0.one _ hk.2 kn
      refine PS.weak (ps_raise (W := fun cls d σ H => eW X.K ca (Wx σ) cls d H) g.calm g.tk (pmk_own (bmB := He.veBase) PySem.F.excBase_ValueError o.exc e1 o.keep (raises_own o.sub o.typ) hgl hdb)) fun D σ H ⟨F, env, S, r, hm⟩ => ?_
      have e : exec q G fu (.rse i) env = .exc (k / 2) env := by
        rw [exec, hG]
        exact if_pos hk
      rw [e] at hm
      exact ⟨k / 2, by rw [g.cae], rfl, kn, hk.2, hm F H S σ r (Agr.refl _ _) Stp.refl⟩
    · refine no fun env => ?_
      rw [exec, hG]
      exact if_neg hk
  | _ =>
    refine no fun env => ?_
    rw [exec, hG]
    rfl
end
section
variable {K : PySem.W.Frag} {F H : Hp} {S : AS} {env : Env} {σ : L2.St}
theorem ex_new {H : Hp} {a : Addr} {o : HO} (h : H a = none) : Ex H (upd H a o) := fun b u e => by
  rw [upd_ne (fun z => by rw [z, h] at e; cases e)]
  exact e
theorem rel_lay {a : Addr} {o : HO} (r : Rel K F H env σ S) (h : H a = none) : Rel K (upd F a o) (upd H a o) env σ S ∧ Stp F H S (upd F a o) (upd H a o) S := by
  have hF : F a = none := by
    cases e : F a with
    | none => rfl
    | some u =>
      have z := r.ex a u e
      rw [h] at z
      cases z
  have hS : ¬ S a := fun z => r.al a z h
  have hu := ex_new (o := o) h
  refine ⟨⟨fun b u e => ?_, fun b z => ?_, fun b z => ?_, EnvR.mono (ex_new hF) hu.tu _ _ _ _ (fun _ z => z) (fun b u _ e => hu b u e) r.en⟩, ⟨fun b u _ e => hu b u e, ex_new hF, fun b z => Or.inl z, fun b z => ?_, hu.tu⟩⟩
  · by_cases hb : b = a
    · subst hb
      rw [upd_same] at e ⊢
      exact e
    · rw [upd_ne hb] at e ⊢
      exact r.ex b u e
  · rw [upd_ne (fun e => hS (by rw [← e]; exact z))]
    exact r.nf b z
  · rw [upd_ne (fun e => hS (by rw [← e]; exact z))]
    exact r.al b z
  · by_cases hb : b = a
    · subst hb
      exact Or.inr (Or.inr h)
    · rw [upd_ne hb] at z
      exact Or.inl z
theorem rel_drop (r : Rel K F H env σ S) {n : Nat} {v : Option V} (hn : n < env.length) : ∃ S', Rel K F H (env.set n none) (σ.set n v) S' ∧ Sub S' S := by
  obtain ⟨o, S1, S2, g1, g2, g3, g4, g5, g6⟩ := r.en.hold hn
  exact ⟨S2, ⟨r.ex, fun a h => r.nf a (g3 a h), fun a h => r.al a (g3 a h), g6 F H none v No S2 (Ex.refl F) (Tu.refl H) (fun _ _ _ q => q) (fun _ q => q.elim) (fun _ q => q.elim) (fun _ q => q) trivial⟩, g3⟩
end
section
variable {T : Tb} {ca : Nat → Addr} {Wx : L2.St → Nat → Hp → Prop} {q : Nat → List D → R D} {G : Nat → D} {N : List Str} {X : Cx} {sc : Scope} {fn : Str → Bool} {fu : Nat} {asg : List Nat}
/-- a place of its own, where the def's frame stands first -/
structure OwnF (X : Cx) : Prop where
  hs : X.stack = X.env :: X.outer
  hf : X.env.frame = some X.env.locals
  ex : X.ex = []
def tSet (n i : Nat) (a : Addr) : TS := fun D σ H => σ[n]? = some (some (.ref a)) ∧ D.nx (σ.set i (some (.ref a))) H
theorem Good.try (g : Good T ca Wx q G N X sc fn) {Wx' : L2.St → Nat → Hp → Prop} {pn : List (Addr × Obj)} {xe : Value → Shared → Prop} (tk : Takes (X.tr pn xe) fun cls d σ H => eW X.K ca (Wx' σ) cls d H) : Good T ca Wx' q G N (X.tr pn xe) sc fn where
  n := g.n
  nd := g.nd
  sc := g.sc
  calm := g.calm
  hu := g.hu
  gd := g.gd
  fn := g.fn
  fns := fun f x h => by
    obtain ⟨fa, fd, ps, k, h1, h2, h3, h4, h5⟩ := (g.fns f x h).ex
    exact ⟨fa, fd, ps, k, h1, h2, h3, h4, h5⟩
  gls := g.gls
  bls := g.bls
  tk := tk
  cae := g.cae
theorem s_tr {b : List S} {gi n i : Nat} {st : Stmt} (g : Good T ca Wx q G N X sc fn) (ow : OwnF X) (hm : mS T N sc fn (.tr b gi n i) st = true) (ha : ∀ j ∈ [n, i] ++ asgSs b, j ∈ asg)
    (hB : ∀ {Wx' : L2.St → Nat → Hp → Prop} {pn : List (Addr × Obj)} {xe : Value → Shared → Prop} {body : List Stmt}, Good T ca Wx' q G N (X.tr pn xe) sc fn → PassesOwn (model X.prog X.w) X.A X.env xe → mSs T N sc fn b body = true → PSs (X.tr pn xe) body (rdS X.K Wx' asg (execs q G fu b))) :
    PS X st (rdS X.K Wx asg (exec q G fu (.tr b gi n i))) := by
  obtain ⟨body, x, p, nm, y, py, pn, pa, ph, pt, rfl, hb, h⟩ := kTry_inv hm
  simp only [Bool.and_eq_true] at h
  obtain ⟨⟨h1, h2⟩, h3, h4, h5, h6, h7, h8⟩ := h
  obtain ⟨_, v2, v3⟩ := vis_ok h8
  have hx : T.gls[gi]? = some x := by simpa using h1
  obtain ⟨hgl, hdb⟩ := glb_ok g.sc h2
  have hn : N[n]? = some nm := by simpa using h3
  have hi : N[i]? = some y := by simpa using h4
  have hni : n ≠ i := by simpa using h5
  have hk1 : sc.names.lookup nm = some .local := by simpa using h6
  have hk2 : sc.names.lookup y = some .local := by simpa using h7
  have l1 : X.env.scope.names.lookup nm = some .local := by rw [g.sc]; exact hk1
  have l2 : X.env.scope.names.lookup y = some .local := by rw [g.sc]; exact hk2
  have cae := g.cae
  -- where nothing is caught
  by_cases hG : ∃ k, G gi = .fn k ∧ k = 0
  · obtain ⟨k, hG, rfl⟩ := hG
    obtain ⟨e1, kn, x0⟩ := cls_at g hx hG rfl (by decide)
    refine PS.weak (ps_try_keep (c := .ref (exA X.K 0)) (tb := fun W => rdS X.K (fun σ c H => KN X.K c → c < 8 → W (.ref (ca c)) none σ H) asg (execs q G fu b)) (ts := tSet n i) ow.hs ow.hf ow.ex (by rw [g.n]; exact g.nd) (by rw [g.n]; exact hn) l1 ⟨hgl, hdb, .inl e1⟩ (fun W pn xe tk hp => ?_) (fun a oe pn hv => ?_)) fun D σ H ⟨F, env, S, r, hm⟩ => ⟨F, env, S, r, ?_⟩
    · refine hB (g.try (tk.imp fun cls d σ H hc => ?_)) hp hb
      obtain ⟨c, rfl, rfl, kc, c8, hw⟩ := hc
      exact hw kc c8
    · exact PSs.weak (pss_one (ps_asg (pe_var (X := X.suite a ((a, oe) :: pn)) (by show X.N[n]? = _; rw [g.n]; exact hn) (.inl l1) v2 v3) (pg_name (X := X.suite a ((a, oe) :: pn)) (by show X.N.Nodup; rw [g.n]; exact g.nd) (by show X.N[i]? = _; rw [g.n]; exact hi) (.inl l2) (.inr l2)))) fun D σ H h => ⟨_, h.1, h.2⟩
    · have hm : PostS X.K Wx asg σ F H S (tryR (G gi) n i (execs q G fu b env)) (FlP X.K asg σ F H S D) := by
        rw [exec] at hm
        exact hm
      cases he : execs q G fu b env with
      | no =>
        rw [he] at hm
        exact hm.elim
      | ok f e =>
        rw [he] at hm
        exact hm
      | exc c e =>
        rw [he] at hm
        rw [hG] at hm
        obtain ⟨⟨_, c8, il, nl⟩, hm⟩ := PostS.iff (show PostS X.K Wx asg σ F H S (if 0 = 0 ∧ c < 8 ∧ i < e.length ∧ n < e.length then .ok .next ((e.set i (some (.fn (2 * c + 1)))).set n none) else .no) (FlP X.K asg σ F H S D) from hm)
        intro F' H' S' σ' r' a' s' kc _
        refine ⟨rfl, by rw [cae]; exact x0.top c c8 kc, fun a na => ⟨?_, ?_⟩⟩
        · rw [List.getElem?_set_self (by rw [← r'.en.len]; exact nl)]
        · obtain ⟨r2, s2⟩ := rel_lay (o := exV (.ref (ca c)) a) r' na
          have t2 : Tmp X.K (upd F' a (exV (.ref (ca c)) a)) (upd H' a (exV (.ref (ca c)) a)) S' (.fn (2 * c + 1)) (.ref a) No := by
            refine ⟨⟨x0, ?_, fun z => by omega, fun _ => ⟨a, rfl, ?_, by omega⟩⟩, fun _ z => z.elim⟩
            · rw [show (2 * c + 1) / 2 = c by omega]
              exact kc
            · rw [upd_same, show (2 * c + 1) / 2 = c by omega, cae]
          obtain ⟨S3, r3, u3⟩ := r2.put il t2
          obtain ⟨S4, r4, u4⟩ := rel_drop (v := none) (n := n) r3 (by rw [List.length_set]; exact nl)
          have es : ((σ'.set n (some (.ref a))).set i (some (.ref a))).set n none = (σ'.set i (some (.ref a))).set n none := by
            rw [List.set_comm _ _ hni, List.set_set]
          show D.nx (((σ'.set n (some (.ref a))).set i (some (.ref a))).set n none) _
          rw [es]
          refine hm _ _ S4 _ r4 (a'.trans ⟨by rw [List.length_set, List.length_set], fun j hj => ?_⟩) ((s'.trans s2).sub fun z hz => (u3 z (u4 z hz)).elim id fun w => w.elim)
          rw [List.getElem?_set_ne (fun z => hj (ha j (by rw [← z]; simp))), List.getElem?_set_ne (fun z => hj (ha j (by rw [← z]; simp)))]
  · refine PS.weak (ps_try_thru0 (X := X) (t := rdS X.K (fun _ _ _ => False) asg (execs q G fu b)) ?_) fun D σ H ⟨F, env, S, r, hm⟩ => ⟨F, env, S, r, ?_⟩
    · refine hB (pn := X.pn) (xe := fun _ _ => False) (g.try ?_) PassesOwn.never hb
      have e : (fun (cls : Value) (d : Option Addr) (σ : L2.St) (H : Hp) => eW X.K ca (fun _ _ => False) cls d H) = fun _ _ _ _ => False := by
        funext cls d σ H
        exact congrFun (congrFun (congrFun eW_no cls) d) H
      show Takes _ (fun (cls : Value) (d : Option Addr) (σ : L2.St) (H : Hp) => eW X.K ca (fun _ _ => False) cls d H)
      rw [e]
      exact takes0
    · rw [exec] at hm
      cases he : execs q G fu b env with
      | no =>
        rw [he] at hm
        exact hm.elim
      | ok f e =>
        rw [he] at hm
        exact hm
      | exc c e =>
        rw [he] at hm
        refine (?_ : False).elim
        revert hm
        cases hg : G gi with
        | fn m =>
          have hm0 : m ≠ 0 := fun z => hG ⟨m, hg, z⟩
          intro hm
          exact (PostS.iff (show PostS X.K Wx asg σ F H S (if m = 0 ∧ c < 8 ∧ i < e.length ∧ n < e.length then .ok .next ((e.set i (some (.fn (2 * c + 1)))).set n none) else .no) (FlP X.K asg σ F H S D) from hm)).1.1 |> hm0
        | _ => exact fun h => h.elim
end
end AW

/-! AWStmt3: pairs, branches, loops, returns. -/
namespace AW
open PySem L2 PyProof.Rows
section
variable {T : Tb} {ca : Nat → Addr} {Wx : L2.St → Nat → Hp → Prop} {q : Nat → List D → R D} {G : Nat → D} {N : List Str} {X : Cx} {sc : Scope} {fn : Str → Bool} {fu : Nat} {asg : List Nat}
/-! ### a, b = x, y -/
theorem par_stores {x y : Str} {px py pt p2 : Pos} {kt k2 : Nat} {a b : Expr} {va vb : E} (hs : X.env.scope = sc) (h : parOk sc x y px py a b = true) (ha : mE T N sc fn va a = true) (hb0 : mE T N sc fn vb b = true) :
    swappedStores [.Tuple [.Name x px, .Name y py] kt pt] (.Tuple [a, b] k2 p2) X.env = pure (some [x, y]) := by
  unfold parOk at h
  simp only [Bool.and_eq_true] at h
  obtain ⟨k1, k2, k3, k4, k5, k6, k7⟩ := h
  have k1 := of_decide_eq_true k1
  have ex : X.env.kindOf x = some .local := by
    show X.env.scope.names.lookup x = _
    rw [hs]
    simpa using k2
  have ey : X.env.kindOf y = some .local := by
    show X.env.scope.names.lookup y = _
    rw [hs]
    simpa using k3
  have hblk : X.env.blockKind = .function := by
    unfold Env.blockKind
    rw [hs, k1]
    rfl
  have n1 : ∀ {a : Expr} {va : E}, mE T N sc fn va a = true → starB a = false := by
    intro a va h
    cases a with
    | Starred v p => cases va <;> cases h
    | _ => rfl
  have k4' : py.line = px.line := (eq_of_beq k4).symm
  have k5 : ¬ x = y := by simpa using k5
  have k6 : [a, b].all (foldedForSure 8) = false := (Bool.not_eq_true' _).mp k6
  have k7 : [a, b].all (constantsAlone 8) = false := (Bool.not_eq_true' _).mp k7
  have hany : ([a, b].any fun | .Starred .. => true | _ => false) = false := by
    have e1 : (fun c : Expr => match c with | .Starred .. => true | _ => false) = starB := by
      funext c
      cases c <;> rfl
    show [a, b].any (fun c : Expr => match c with | .Starred .. => true | _ => false) = false
    rw [e1]
    simp [n1 ha, n1 hb0]
  have hnm : ([Expr.Name x px, Expr.Name y py].filterMap fun | .Name id pos => if X.env.kindOf id == some .local && pos.line == px.line then some id else none | _ => none) = [x, y] := by
    simp [ex, ey, k4']
  have hdup : [x, y].eraseDups = [x, y] := by
    have e : (y == x) = false := beq_false_of_ne fun z => k5 z.symm
    rw [List.eraseDups_cons]
    simp [e, List.eraseDups_cons]
  unfold swappedStores
  show (do
    if !(2 == 2 || 2 == 3) || (2 : Nat) != 2 || X.env.blockKind != .function then return none
    if ([a, b].any fun | .Starred .. => true | _ => false) then return none
    let names := [Expr.Name x px, Expr.Name y py].filterMap fun | .Name id pos => if X.env.kindOf id == some .local && pos.line == px.line then some id else none | _ => none
    if names.length != 2 || names.eraseDups.length != names.length then return none
    if [a, b].all (foldedForSure 8) then return none
    if [a, b].all (constantsAlone 8) then unsupported "assign.tuple-of-constant-expressions:order-of-the-stores"
    return some names : Sem (Option (List Str))) = _
  rw [hany, hnm]
  dsimp only
  rw [hdup, k6, k7, hblk]
  rfl
theorem Agr.set {σ : L2.St} {i : Nat} {o : Option V} (h : i ∈ asg) : Agr asg σ (σ.set i o) := ⟨List.length_set .., fun j hj => List.getElem?_set_ne fun z => hj (by rw [← z]; exact h)⟩
theorem s_par {i j : Nat} {a b : E} {st : Stmt} (g : Good T ca Wx q G N X sc fn) (hm : mS T N sc fn (.par i j a b) st = true) (hi : i ∈ asg) (hj : j ∈ asg) : PS X st (rdS X.K Wx asg (exec q G fu (.par i j a b))) := by
  · obtain ⟨tg, v, pos, est, _, _, h0⟩ := kAsg_inv hm
    subst est
    obtain ⟨x, px, y, py, va, vb, kt, pt, k2, p2, e1, e2, hq⟩ := kPar_inv h0
    subst e1 e2
    have hm := hq
    simp only [Bool.and_eq_true] at hm
    obtain ⟨h1, h2, h3, h4, h5, h6⟩ := hm
    have hloc := h6
    unfold parOk at hloc
    simp only [Bool.and_eq_true] at hloc
    have hes : mEs T N sc fn (.cons a (.cons b .nil)) [va, vb] = true := by
      show (mE T N sc fn a va && (mE T N sc fn b vb && true)) = true
      rw [h4, h5]
      rfl
    refine PS.weak (ps_par g.calm (by rw [g.n]; exact g.nd) (by rw [g.n]; simpa using h1) (by rw [g.n]; simpa using h2) (by simpa using h3) (by rw [g.sc]; simpa using hloc.2.1) (by rw [g.sc]; simpa using hloc.2.2.1) (sV (.cons a (.cons b .nil)) g hes) (par_stores g.sc h6 h4 h5)) fun D σ H ⟨F, env, S, r, hm⟩ => ⟨F, env, S, r, ?_⟩
    have hm : PostS X.K Wx asg σ F H S ((evals q G (.cons a (.cons b .nil)) env).bind fun ds e1 => match ds with | [x, y] => R.ok Fl.next ((e1.set i (some x)).set j (some y)) | _ => .no) _ := hm
    refine hm.bindE.imp fun ds env1 hd F1 H1 S1 T1 vs r1 rp tk s1 _ => ?_
    match ds, hd, rp with
    | [d, e], hd, rp =>
      have hd : FlP X.K asg σ F H S D .next ((env1.set i (some d)).set j (some e)) := hd
      obtain ⟨v, w0, Ta, Tb, ev, s2, s3, dj, p1, p2⟩ := rp
      obtain ⟨w, w1, Tc, Td, ew, s4, s5, dj2, p3, p4⟩ := p2
      have p4 : w1 = [] := p4
      subst p4 ew ev
      obtain ⟨Sx, rx, hx⟩ := put_any (i := i) r1 ⟨p1, fun a z => tk a (s2 a z)⟩
      obtain ⟨Sy, ry, hy⟩ := put_any (i := j) rx ⟨p3, fun a z => ⟨(tk a (s3 a (s4 a z))).1, (tk a (s3 a (s4 a z))).2.1, fun y => (hx a y).elim (tk a (s3 a (s4 a z))).2.2 fun y => dj a y (s4 a z)⟩⟩
      refine ⟨v, w, rfl, hd F1 H1 Sy _ ry ((Agr.set hi).trans (Agr.set hj)) (s1.sub fun a z => ?_)⟩
      rcases hy a z with z | z
      · exact (hx a z).elim Or.inl fun z => Or.inr (s2 a z)
      · exact Or.inr (s3 a (s4 a z))
    | [], hd, rp => exact hd.elim
    | [_], hd, rp => exact hd.elim
    | _ :: _ :: _ :: _, hd, rp => exact hd.elim
/-! ### small statements -/
theorem s_exp {e : E} {st : Stmt} (g : Good T ca Wx q G N X sc fn) (hm : mS T N sc fn (.exp e) st = true) : PS X st (rdS X.K Wx asg (exec q G fu (.exp e))) := by
  · obtain ⟨v, pos, est, hq⟩ := kExp_inv hm
    subst est
    have hm := hq
    rw [Bool.and_eq_true] at hm
    refine PS.weak (ps_expr ((sET e).1 _ _ _ _ g _ hm.1) (sw_notlc hm.1 (by simpa using hm.2) _ _)) fun D σ H ⟨F, env, S, r, h⟩ => ⟨F, env, S, r, ?_⟩
    have h : PostS X.K Wx asg σ F H S ((eval q G e env).bind fun _ e1 => R.ok Fl.next e1) _ := h
    exact h.bindE.imp fun d env1 hd F1 H1 S1 T1 v r1 t1 s1 _ => hd F1 H1 S1 σ r1 (Agr.refl _ _) (s1.sub fun a z => Or.inl z)
theorem s_ret {e : E} {st : Stmt} (g : Good T ca Wx q G N X sc fn) (hm : mS T N sc fn (.ret e) st = true) : PS X st (rdS X.K Wx asg (exec q G fu (.ret e))) := by
  · obtain ⟨v, pos, est, hq⟩ := kRet_inv hm
    subst est
    have hm := hq
    refine PS.weak (ps_ret ((sET e).1 _ _ _ _ g _ hm)) fun D σ H ⟨F, env, S, r, h⟩ => ⟨F, env, S, r, ?_⟩
    have h : PostS X.K Wx asg σ F H S ((eval q G e env).bind fun d e1 => R.ok (Fl.ret d) e1) _ := h
    exact h.bindE.imp fun d env1 hd F1 H1 S1 T1 v r1 t1 s1 _ => hd F1 H1 S1 T1 v σ r1 (Agr.refl _ _) t1 s1
theorem s_retN {st : Stmt} (hm : mS T N sc fn .retN st = true) : PS X st (rdS X.K Wx asg (exec q G fu .retN)) := by
  · obtain ⟨pos, est⟩ := kRetN_inv hm
    subst est
    refine PS.weak ps_retN fun D σ H ⟨F, env, S, r, h⟩ => ?_
    have h : FlP X.K asg σ F H S D (.ret .non) env := h
    exact h F H S No .non σ r (Agr.refl _ _) (tmp_no rfl) (stp_wd Stp.refl)
theorem s_brk {st : Stmt} (hm : mS T N sc fn .brk st = true) : PS X st (rdS X.K Wx asg (exec q G fu .brk)) := by
  cases st with
  | Break pos =>
    refine PS.weak ps_break fun D σ H ⟨F, env, S, r, h⟩ => ?_
    have h : FlP X.K asg σ F H S D .brk env := h
    exact h F H S σ r (Agr.refl _ _) Stp.refl
  | _ => cases hm
theorem s_cnt {st : Stmt} (hm : mS T N sc fn .cnt st = true) : PS X st (rdS X.K Wx asg (exec q G fu .cnt)) := by
  cases st with
  | Continue pos =>
    refine PS.weak ps_continue fun D σ H ⟨F, env, S, r, h⟩ => ?_
    have h : FlP X.K asg σ F H S D .cnt env := h
    exact h F H S σ r (Agr.refl _ _) Stp.refl
  | _ => cases hm
theorem s_pss {st : Stmt} (hm : mS T N sc fn .pss st = true) : PS X st (rdS X.K Wx asg (exec q G fu .pss)) := by
  cases st with
  | Pass pos =>
    refine PS.weak ps_pass fun D σ H ⟨F, env, S, r, h⟩ => ?_
    have h : FlP X.K asg σ F H S D .next env := h
    exact h F H S σ r (Agr.refl _ _) Stp.refl
  | _ => cases hm
theorem s_bad {st : Stmt} : PS X st (rdS X.K Wx asg (exec q G fu .bad)) := PS.weak ps_never fun D σ H ⟨F, env, S, r, h⟩ => h
/-! ### blocks, branches -/
theorem ss_nil : PSs X [] (rdS X.K Wx asg (execs q G fu [])) := PSs.weak pss_nil fun D σ H ⟨F, env, S, r, h⟩ => by
  have h : FlP X.K asg σ F H S D .next env := h
  exact h F H S σ r (Agr.refl _ _) Stp.refl
theorem ss_cons {s : S} {ss : List S} {st : Stmt} {sts : List Stmt} (h1 : PS X st (rdS X.K Wx asg (exec q G fu s))) (h2 : PSs X sts (rdS X.K Wx asg (execs q G fu ss))) : PSs X (st :: sts) (rdS X.K Wx asg (execs q G fu (s :: ss))) := by
  refine PSs.weak (pss_cons h1 h2) fun D σ H ⟨F, env, S, r, h⟩ => ⟨F, env, S, r, ?_⟩
  have h : PostS X.K Wx asg σ F H S ((exec q G fu s env).bind fun f e1 => match f with | .next => execs q G fu ss e1 | f => R.ok f e1) _ := h
  refine h.bind.imp fun f env1 hd => ?_
  cases f with
  | next => exact fun F' H' S' σ' r' a' s' => ⟨F', env1, S', r', (PostS.at hd a' s').imp fun f env h => h.at a' s'⟩
  | ret d => exact hd
  | cnt => exact hd
  | brk => exact hd
theorem s_iff {c : E} {a b : List S} {t : Expr} {xs ys : List Stmt} {pos : Pos} (hc : PT X t (rdT X.K Wx (eval q G c))) (h1 : PSs X xs (rdS X.K Wx asg (execs q G fu a))) (h2 : PSs X ys (rdS X.K Wx asg (execs q G fu b))) : PS X (.If t xs ys pos) (rdS X.K Wx asg (exec q G fu (.iff c a b))) := by
  refine PS.weak (ps_if hc h1 h2) fun D σ H ⟨F, env, S, r, h⟩ => ⟨F, env, S, r, ?_⟩
  have h : PostS X.K Wx asg σ F H S ((eval q G c env).bind fun d e1 => match d with | .bl true => execs q G fu a e1 | .bl false => execs q G fu b e1 | _ => .no) _ := h
  refine h.bindE.imp fun d env1 hd => ?_
  match d, hd with
  | .bl true, hd => exact ⟨true, rfl, fun F' H' S' r' s' => by change rdS X.K Wx asg (execs q G fu a) D σ H'; exact ⟨F', env1, S', r', (PostS.at hd (Agr.refl _ _) s').imp fun f env h => h.at (Agr.refl _ _) s'⟩⟩
  | .bl false, hd => exact ⟨false, rfl, fun F' H' S' r' s' => by change rdS X.K Wx asg (execs q G fu b) D σ H'; exact ⟨F', env1, S', r', (PostS.at hd (Agr.refl _ _) s').imp fun f env h => h.at (Agr.refl _ _) s'⟩⟩
/-! ### loops -/
theorem PostS.bindE' {α β : Type} {K : PySem.W.Frag} {σ0 σ : L2.St} {F0 H0 F H : Hp} {S0 S : AS} {r : R α} {f : α → Env → R β} {P : β → Env → Prop} (h : PostS K Wx asg σ0 F0 H0 S0 (r.bind f) P) (a : Agr asg σ0 σ) (s : Stp F0 H0 S0 F H S) : Post K Wx σ F H S r fun a env => PostS K Wx asg σ0 F0 H0 S0 (f a env) P := by
  cases r with
  | ok x env => exact h
  | exc c env => exact fun F' H' S' r' s' => h F' H' S' σ r' a (s.trans s')
  | no => exact h
theorem PostS.bind' {α β : Type} {K : PySem.W.Frag} {asgB : List Nat} {σ0 σ : L2.St} {F0 H0 F H : Hp} {S0 S : AS} {r : R α} {f : α → Env → R β} {P : β → Env → Prop} (hB : ∀ i ∈ asgB, i ∈ asg) (h : PostS K Wx asg σ0 F0 H0 S0 (r.bind f) P) (a : Agr asg σ0 σ) (s : Stp F0 H0 S0 F H S) : PostS K Wx asgB σ F H S r fun a env => PostS K Wx asg σ0 F0 H0 S0 (f a env) P := by
  cases r with
  | ok x env => exact h
  | exc c env => exact fun F' H' S' σ' r' a' s' => h F' H' S' σ' r' (a.trans (a'.mono hB)) (s.trans s')
  | no => exact h
/-- a loop's body, then what follows -/
theorem body_ok {K : PySem.W.Frag} {asgB : List Nat} {σ0 σ : L2.St} {F0 H0 F H : Hp} {S0 S : AS} {r : R Fl} {D : Ends} {Nx : L2.St → Hp → Prop} {go : Env → R Fl} (hB : ∀ i ∈ asgB, i ∈ asg) (a : Agr asg σ0 σ) (s : Stp F0 H0 S0 F H S)
    (h : PostS K Wx asg σ0 F0 H0 S0 (r.bind fun f e2 => match f with | .next => go e2 | .cnt => go e2 | .brk => R.ok Fl.next e2 | .ret d => R.ok (Fl.ret d) e2) (FlP K asg σ0 F0 H0 S0 D))
    (k : ∀ F' H' S' σ' env', Rel K F' H' env' σ' S' → Agr asgB σ σ' → Stp F H S F' H' S' → PostS K Wx asg σ0 F0 H0 S0 (go env') (FlP K asg σ0 F0 H0 S0 D) → Nx σ' H') :
    PostS K Wx asgB σ F H S r (FlP K asgB σ F H S { D with nx := Nx, ct := Nx, bk := D.nx }) := by
  refine (PostS.bind' hB h a s).imp fun f e2 hd => ?_
  cases f with
  | next => exact fun F' H' S' σ' r' a' s' => k F' H' S' σ' e2 r' a' s' hd
  | cnt => exact fun F' H' S' σ' r' a' s' => k F' H' S' σ' e2 r' a' s' hd
  | brk =>
    have hd : FlP K asg σ0 F0 H0 S0 D .next e2 := hd
    exact fun F' H' S' σ' r' a' s' => hd F' H' S' σ' r' (a.trans (a'.mono hB)) (s.trans s')
  | ret d =>
    have hd : FlP K asg σ0 F0 H0 S0 D (.ret d) e2 := hd
    exact fun F' H' S' T v σ' r' a' t' s' => hd F' H' S' T v σ' r' (a.trans (a'.mono hB)) t' (s.trans s')
theorem s_whl {c : E} {b : List S} {t : Expr} {xs : List Stmt} {pos : Pos} (hp : PassesOwn (model X.prog X.w) X.A X.env X.xe) (hc : PT X t (rdT X.K Wx (eval q G c))) (h1 : PSs X xs (rdS X.K Wx asg (execs q G fu b))) : PS X (.While t xs [] pos) (rdS X.K Wx asg (exec q G fu (.whl c b))) := by
  refine PS.weak (ps_while hp hc h1) fun D σ0 H0 ⟨F0, env0, S0, r0, h⟩ => ?_
  have h : PostS X.K Wx asg σ0 F0 H0 S0 (whlL (eval q G c) (fun e => execs q G fu b e) fu env0) (FlP X.K asg σ0 F0 H0 S0 D) := h
  refine ⟨fun m σ H => ∃ F env S, Rel X.K F H env σ S ∧ Agr asg σ0 σ ∧ Stp F0 H0 S0 F H S ∧ PostS X.K Wx asg σ0 F0 H0 S0 (whlL (eval q G c) (fun e => execs q G fu b e) m env) (FlP X.K asg σ0 F0 H0 S0 D), ⟨fu, F0, env0, S0, r0, Agr.refl _ _, Stp.refl, h⟩, ?_⟩
  rintro m σ H ⟨F, env, S, r, ag, st, h⟩
  cases m with
  | zero => exact False.elim h
  | succ m =>
    have h : PostS X.K Wx asg σ0 F0 H0 S0 ((eval q G c env).bind fun d e1 =>
      match d with
      | .bl true => (execs q G fu b e1).bind fun f e2 =>
        match f with
        | .next => whlL (eval q G c) (fun e => execs q G fu b e) m e2
        | .cnt => whlL (eval q G c) (fun e => execs q G fu b e) m e2
        | .brk => R.ok Fl.next e2
        | .ret d => R.ok (Fl.ret d) e2
      | .bl false => R.ok Fl.next e1
      | _ => .no) (FlP X.K asg σ0 F0 H0 S0 D) := h
    refine ⟨F, env, S, r, (h.bindE' ag st).imp fun d env1 hd => ?_⟩
    match d, hd with
    | .bl true, hd =>
      refine ⟨true, rfl, fun F' H' S' r' s' => ?_⟩
      change ite (true = true) _ _
      rw [if_pos rfl]
      refine ⟨fun σ' H' => ∃ F env S, Rel X.K F H' env σ' S ∧ Agr asg σ0 σ' ∧ Stp F0 H0 S0 F H' S ∧ PostS X.K Wx asg σ0 F0 H0 S0 (whlL (eval q G c) (fun e => execs q G fu b e) m env) (FlP X.K asg σ0 F0 H0 S0 D), fun σ' H' z => ⟨m, Nat.lt_succ_self _, z⟩, F', env1, S', r', ?_⟩
      exact body_ok (go := fun e2 => whlL (eval q G c) (fun e => execs q G fu b e) m e2) (fun _ z => z) ag (st.trans s') hd fun F2 H2 S2 σ2 e2 r2 a2 s2 hg => ⟨F2, e2, S2, r2, ag.trans a2, (st.trans s').trans s2, hg⟩
    | .bl false, hd =>
      refine ⟨false, rfl, fun F' H' S' r' s' => ?_⟩
      change ite (false = true) _ _
      rw [if_neg (by decide)]
      have hd : FlP X.K asg σ0 F0 H0 S0 D .next env1 := hd
      exact hd F' H' S' σ r' ag (st.trans s')
theorem s_for {t : List Nat} {tt : Bool} {it : It} {b : List S} {tg iter : Expr} {xs : List Stmt} {pos : Pos} {asgB : List Nat} (g : Good T ca Wx q G N X sc fn) (hp : PassesOwn (model X.prog X.w) X.A X.env X.xe) (hg : mTg N sc fn t tt tg = true) (hB : ∀ i ∈ asgB, i ∈ asg) (htB : ∀ i ∈ t, i ∈ asgB) (hr : ∀ i ∈ refsI it, i ∉ asgB)
    (hf : ∀ x, foldedSetIterable iter X.env x = pure x) (hi : PI X tg iter (rdI X.K Wx (refsI it) (evalIt q G it))) (h1 : PSs X xs (rdS X.K Wx asgB (execs q G fu b))) : PS X (.For tg iter xs [] pos) (rdS X.K Wx asg (exec q G fu (.for_ t tt it b))) := by
  refine PS.weak (ps_for hp g.calm hi (pg_of g hg) h1 hf) fun D σ0 H0 ⟨F0, env0, S0, r0, h⟩ => ⟨F0, env0, S0, r0, ?_⟩
  have h : PostS X.K Wx asg σ0 F0 H0 S0 ((evalIt q G it env0).bind fun s e1 => forL t tt s.chk (fun e => execs q G fu b e) s.items e1) (FlP X.K asg σ0 F0 H0 S0 D) := h
  refine h.bindE.imp fun s env1 hd F1 H1 S1 J r1 s1 iw => ?_
  let Pv : Nat → L2.St → Hp → Prop := fun i σ H => ∃ F env S, Rel X.K F H env σ S ∧ Agr asgB σ0 σ ∧ Ex F1 F ∧ Tu H1 H ∧ Stp F0 H0 S0 F H S ∧ PostS X.K Wx asg σ0 F0 H0 S0 (forL t tt s.chk (fun e => execs q G fu b e) (s.items.drop i) env) (FlP X.K asg σ0 F0 H0 S0 D)
  refine ⟨fun i m σ H => m = s.items.length - i ∧ i ≤ s.items.length ∧ Pv i σ H, ⟨s.items.length, rfl, Nat.zero_le _, F1, env1, S1, r1, Agr.refl _ _, Ex.refl _, Tu.refl _, s1, hd⟩, ?_⟩
  rintro i m σ H ⟨rfl, hle, F, env, S, r, ag, eF, tu, st, h⟩
  have hσ : ∀ j ∈ refsI it, σ[j]? = σ0[j]? := fun j hj => ag.2 j (hr j hj)
  by_cases hlt : i < s.items.length
  · refine Or.inr ?_
    have hdr : s.items.drop i = s.items[i] :: s.items.drop (i + 1) := List.drop_eq_getElem_cons hlt
    rw [hdr] at h
    have h : PostS X.K Wx asg σ0 F0 H0 S0 (open Classical in if s.chk env then
      match bindT t tt s.items[i] env with
      | none => R.no
      | some e1 => (execs q G fu b e1).bind fun f e2 =>
        match f with
        | .next => forL t tt s.chk (fun e => execs q G fu b e) (s.items.drop (i + 1)) e2
        | .cnt => forL t tt s.chk (fun e => execs q G fu b e) (s.items.drop (i + 1)) e2
        | .brk => .ok .next e2
        | .ret d => .ok (.ret d) e2
      else .no) (FlP X.K asg σ0 F0 H0 S0 D) := h
    letI : Decidable (s.chk env) := Classical.propDecidable _
    obtain ⟨hchk, h⟩ := h.iff
    obtain ⟨_, iwg, iwy⟩ := iw F H S env σ r hσ hchk eF tu
    refine ⟨iwg i hlt, Pv (i + 1), fun σ' H' p => ⟨_, by omega, rfl, hlt, p⟩, fun x H2 y => ?_⟩
    obtain ⟨d, hdi, ex2, rp⟩ := iwy i x H2 hlt y
    have ed : d = s.items[i] := by
      rw [List.getElem?_eq_getElem hlt] at hdi
      exact (Option.some.inj hdi).symm
    subst ed
    have r2 := r.grow ex2
    cases hbt : bindT t tt s.items[i] env with
    | none =>
      rw [hbt] at h
      exact h.elim
    | some e1 =>
    rw [hbt] at h
    refine g_bind hbt r2 (tmp_no rp) fun σ2 S2 r3 hs3 hj3 => ⟨F, e1, S2, r3, ?_⟩
    have ag2 : Agr asgB σ0 σ2 := ag.trans ⟨by rw [← r3.en.len, ← r2.en.len]; exact bindT_len hbt, fun j hj => hj3 j fun z => hj (htB j z)⟩
    have st2 : Stp F0 H0 S0 F H2 S2 := (st.trans (Stp.grow ex2)).sub fun a z => (hs3 a z).elim id fun z => z.elim
    exact body_ok (go := fun e2 => forL t tt s.chk (fun e => execs q G fu b e) (s.items.drop (i + 1)) e2) hB (ag2.mono hB) st2 h fun F2 H2' S2' σ2' e2 r2' a2 s2 hg => ⟨F2, e2, S2', r2', ag2.trans a2, eF.trans s2.fx, (tu.trans ex2.tu).trans s2.tu, st2.trans s2, hg⟩
  · have e0 : i = s.items.length := by omega
    subst e0
    rw [List.drop_length] at h
    have h : PostS X.K Wx asg σ0 F0 H0 S0 (open Classical in if s.chk env then R.ok Fl.next env else .no) (FlP X.K asg σ0 F0 H0 S0 D) := h
    letI : Decidable (s.chk env) := Classical.propDecidable _
    obtain ⟨hchk, h⟩ := h.iff
    obtain ⟨iws, _, _⟩ := iw F H S env σ r hσ hchk eF tu
    have h : FlP X.K asg σ0 F0 H0 S0 D .next env := h
    exact Or.inl ⟨iws, h F H S σ r (ag.mono hB) st⟩
/-! ### whatever is matched -/
mutual
theorem sS : ∀ (s : S) {X : Cx} {Wx : L2.St → Nat → Hp → Prop} {st : Stmt} {asg : List Nat}, Good T ca Wx q G N X sc fn → PassesOwn (model X.prog X.w) X.A X.env X.xe → OwnF X → mS T N sc fn s st = true → (∀ i ∈ asgS s, i ∈ asg) → PS X st (rdS X.K Wx asg (exec q G fu s))
  | .asg t tt e, X, Wx, st, asg, g, hp, ow, hm, ha => s_asg g hm ha
  | .stk i k e, X, Wx, st, asg, g, hp, ow, hm, ha => s_stk g hm
  | .exp e, X, Wx, st, asg, g, hp, ow, hm, ha => s_exp g hm
  | .iff c a b, X, Wx, st, asg, g, hp, ow, hm, ha => by
    obtain ⟨t, x, y, pos, est, h1, h2, h3⟩ := kIf_inv hm
    subst est
    rw [Bool.and_eq_true] at h1
    exact s_iff ((sET c).2 _ _ _ _ g _ h1.1 h1.2) (sSs a g hp ow h2 fun i z => ha i (List.mem_append_left _ z)) (sSs b g hp ow h3 fun i z => ha i (List.mem_append_right _ z))
  | .for_ t tt it b, X, Wx, st, asg, g, hp, ow, hm, ha => by
    · obtain ⟨tg, iter, body, pos, est, h1, h2, h3⟩ := kFor_inv hm
      subst est
      rw [Bool.and_eq_true, Bool.and_eq_true] at h2
      obtain ⟨h2, h4, h5⟩ := h2
      refine s_for (asgB := t ++ asgSs b) g hp h1 ha (fun i z => List.mem_append_left _ z) (fun i z => by simpa using List.all_eq_true.mp h5 i z) (mE_nofold h2) (sI it g h2 fun z => ?_) (sSs b g hp ow h3 fun i z => List.mem_append_right _ z)
      have ht : tt = true := by
        cases it <;> first | exact h4 | cases z
      subst ht
      cases tg <;> first | exact ⟨_, _, _, rfl⟩ | cases h1
  | .whl c b, X, Wx, st, asg, g, hp, ow, hm, ha => by
    obtain ⟨t, body, pos, est, h1, h2⟩ := kWhl_inv hm
    subst est
    rw [Bool.and_eq_true] at h1
    exact s_whl hp ((sET c).2 _ _ _ _ g _ h1.1 h1.2) (sSs b g hp ow h2 ha)
  | .ret e, X, Wx, st, asg, g, hp, ow, hm, ha => s_ret g hm
  | .retN, X, Wx, st, asg, g, hp, ow, hm, ha => s_retN hm
  | .brk, X, Wx, st, asg, g, hp, ow, hm, ha => s_brk hm
  | .cnt, X, Wx, st, asg, g, hp, ow, hm, ha => s_cnt hm
  | .pss, X, Wx, st, asg, g, hp, ow, hm, ha => s_pss hm
  | .par i j a b, X, Wx, st, asg, g, hp, ow, hm, ha => s_par g hm (ha i (List.mem_cons_self ..)) (ha j (List.mem_cons_of_mem _ (List.mem_cons_self ..)))
  | .bad, X, Wx, st, asg, g, hp, ow, hm, ha => s_bad
  | .rse i, X, Wx, st, asg, g, hp, ow, hm, ha => s_rse g hm
  | .tr b gi n i, X, Wx, st, asg, g, hp, ow, hm, ha => s_tr g ow hm ha fun {Wx' pn xe body} g' hp' hb => sSs b g' hp' ⟨ow.hs, ow.hf, ow.ex⟩ hb fun j z => ha j (List.mem_append_right _ z)
theorem sSs : ∀ (ss : List S) {X : Cx} {Wx : L2.St → Nat → Hp → Prop} {sts : List Stmt} {asg : List Nat}, Good T ca Wx q G N X sc fn → PassesOwn (model X.prog X.w) X.A X.env X.xe → OwnF X → mSs T N sc fn ss sts = true → (∀ i ∈ asgSs ss, i ∈ asg) → PSs X sts (rdS X.K Wx asg (execs q G fu ss))
  | [], X, Wx, sts, asg, g, hp, ow, hm, ha => by
    cases sts with
    | nil => exact ss_nil
    | cons _ _ => cases hm
  | s :: ss, X, Wx, sts, asg, g, hp, ow, hm, ha => by
    cases sts with
    | nil => cases hm
    | cons st r =>
      have hm : (mS T N sc fn s st && mSs T N sc fn ss r) = true := hm
      rw [Bool.and_eq_true] at hm
      exact ss_cons (sS s g hp ow hm.1 fun i z => ha i (List.mem_append_left _ z)) (sSs ss g hp ow hm.2 fun i z => ha i (List.mem_append_right _ z))
end
end
end AW

/-! AWDef: a def of the text keeps the promise of its term. -/
namespace AW
open PySem L2 PyProof.Rows
/-- what stands in the parameters at the end: a parameter that is stored to keeps its own data where nothing in it is owned -/
def outF (asg : List Nat) (ds : List D) (env : Env) : Env := backE (ds.map some) (env.take ds.length) asg
noncomputable def runF (q : Nat → List D → R D) (G : Nat → D) (fu ns np : Nat) (body : List S) (ds : List D) : R D :=
  if ds.length = np then
    match execs q G fu body (ds.map some ++ List.replicate (ns - np) none) with
    | .ok (.ret d) env => .ok d (outF (asgSs body) ds env)
    | .ok .next env => .ok .non (outF (asgSs body) ds env)
    | .ok _ _ => .no
    | .exc c env => .exc c (outF (asgSs body) ds env)
    | .no => .no
  else .no
section
variable {K : PySem.W.Frag} {F H F' H' : Hp} {S S' T : AS} {env : Env} {σ : L2.St}
theorem EnvR.take : ∀ {env : Env} {σ : L2.St} {S : AS} (n : Nat), EnvR K F H env σ S → EnvR K F H (env.take n) (σ.take n) S
  | [], σ, S, n, h => by
    have h : σ = [] := h
    subst h
    rw [List.take_nil, List.take_nil]
    exact rfl
  | d :: ds, σ, S, 0, h => rfl
  | d :: ds, σ, S, n + 1, h => by
    obtain ⟨o, r, S1, S2, e, s1, s2, dj, h1, h2⟩ := h
    subst e
    exact ⟨o, r.take n, S1, S2, rfl, s1, s2, dj, h1, EnvR.take n h2⟩
theorem EnvR.pad : ∀ {env : Env} {σ : L2.St} {S : AS} (n : Nat), EnvR K F H env σ S → EnvR K F H (env ++ List.replicate n none) (σ ++ List.replicate n none) S
  | [], σ, S, n, h => by
    have h : σ = [] := h
    subst h
    rw [List.nil_append, List.nil_append]
    induction n with
    | zero => rfl
    | succ n ih => exact ⟨none, _, No, S, rfl, fun _ z => z.elim, fun _ z => z, fun _ z => z.elim, trivial, ih⟩
  | d :: ds, σ, S, n, h => by
    obtain ⟨o, r, S1, S2, e, s1, s2, dj, h1, h2⟩ := h
    subst e
    exact ⟨o, r ++ List.replicate n none, S1, S2, rfl, s1, s2, dj, h1, EnvR.pad n h2⟩
theorem out_rel {N : List Str} {vs : List V} {ds : List D} {asg : List Nat} (r0 : Rel K F H (ds.map some) (vs.map some) S) (r : Rel K F' H' env σ S') (ag : Agr asg (L2.start N vs) σ) (hl : σ.length = N.length) (hn : vs.length ≤ N.length) (s : Stp F H S F' H' T) : Rel K F' H' (outF asg ds env) (vs.map some) S' := by
  have el : ds.length = vs.length := by
    have z := r0.en.len
    rw [List.length_map, List.length_map] at z
    exact z
  have r1 : Rel K F' H' (env.take ds.length) (σ.take ds.length) S' := ⟨r.ex, r.nf, r.al, EnvR.take _ r.en⟩
  have z := rel_rst (σ := vs.map some) (old := ds.map some) r1 asg fun v hv d hd hn => ?_
  · have e : rst (vs.map some) (σ.take ds.length) asg = vs.map some := by
      refine List.ext_getElem? fun j => ?_
      have hl2 : (σ.take ds.length).length = (vs.map some).length := by
        rw [List.length_take, List.length_map, hl, el]
        omega
      rw [rst_get _ _ hl2]
      by_cases hj : j ∈ asg
      · rw [if_pos hj]
      · rw [if_neg hj]
        by_cases hlt : j < vs.length
        · rw [List.getElem?_take_of_lt (by rw [el]; exact hlt), ag.2 j hj]
          unfold L2.start
          rw [List.getElem?_append_left (by rw [List.length_map]; exact hlt)]
        · rw [List.getElem?_eq_none (by rw [hl2, List.length_map]; omega), List.getElem?_eq_none (by rw [List.length_map]; omega)]
    rw [e] at z
    exact z
  · obtain ⟨w, Sw, g1, g2, g3⟩ := r0.at hd
    exact ⟨w, g1, Rp.mono s.fx s.tu _ _ _ _ (fun _ z => z) (fun _ _ z => z.elim) (Rp.free _ _ _ hn g3)⟩
end
/-! ### the def -/
section
variable {P : Program} {w : World} {K : PySem.W.Frag} {mg : Str → Option Value} {base : Heap}
theorem fnG_of {CX : CXT} {k : Nat} {f : Addr} {name qual : Str} {params : Arguments} {body : List Stmt} {scope : Scope} {dV kV doc pm cdv ct oc : Value} {an od : Option Addr} {osl : Array (Option Value)} {N ps : List Str} {sp : Sp}
    (lk : K.lookup f = some ⟨oc, od, .func (PySem.W.fnOf name qual params body scope dV kV doc pm an cdv ct), osl⟩) (hcd : PySem.W.codeIn K cdv qual = true) (S : FnScope N ps scope) (len : ∀ vs H Q E, sp vs H Q E → vs.length = ps.length)
    (hbody : ∀ (A : Around) (outer : List PySem.Env) (s : Shared) (H : Hp) (vs : List V) (Q : VK) (E : XK), Room k (A.deeper (envOfC qual scope s.heap.objs.size f cdv)) → A.guards = some [] → sp vs H Q E →
      ∃ t, PSs (cxOf CX P w K mg base N qual scope f cdv A outer s H E) body t ∧ t { nx := fun _ H' => Q .non H', rt := Q } (start N vs) H) :
    FnG P w K mg base CX (k + 1) f (PySem.W.fnOf name qual params body scope dV kV doc pm an cdv ct) ps sp := by
  refine ⟨len, fun A outer s H args us vs Q E hr gd e0 hb r hsp => ?_⟩
  have hl := len _ _ _ _ hsp
  have kin : K.In s.heap := e0.mod.kin.keeps fun b o e => (e0.bs b o e).1
  have nolim : s.heap.NoLimit := e0.mod.nolimit.keeps fun b o e => (e0.bs b o e).1
  have kinds : ∀ y ∈ ps.zip us, scope.names.lookup y.1 = some .local ∨ (scope.names.lookup y.1 = some .cell ∧ ((cellsFrom (s.heap.objs.size + 1) scope.names []).lookup y.1).isSome = true) := fun ⟨x, v⟩ hy =>
    (S.par x (List.of_mem_zip hy).1).imp id fun z => ⟨z, PySem.W.cellsFrom_some _ _ _ (.inl z)⟩
  refine codeAny_call_function hr.depth (kin _ _ lk) rfl S.co S.gen rfl (PySem.W.codeRec_of kin hcd) (hb _ _ _ _ (wpAny_newFunctionEnv_cells S.kind kinds fun env he s1 x => ?_))
  subst he
  refine ⟨nolim.keeps x.toInCall.keep, codeAny_func ?_⟩
  obtain ⟨t, ht, hq⟩ := hbody A outer s H vs Q E (hr.deeper _) gd hsp
  have J0 : Inv (cxOf CX P w K mg base N qual scope f cdv A outer s H E) [] (L2.start N vs) H s1 := inv_start S hr.hd e0 hl r x
  refine wpAny_mono (ht.run [] s1 (L2.start N vs) H _ J0 hq) (fun fl s' hs => ?_) fun e s' hs => hs
  cases fl with
  | ret u =>
    obtain ⟨v, σ', H', J, rv, z⟩ := hs
    exact ⟨v, H', J.os, J.bare, J.base, J.hok, rv, z⟩
  | next =>
    obtain ⟨σ', H', J, z⟩ := hs
    exact ⟨.non, H', J.os, J.bare, J.base, J.hok, rfl, z⟩
  | brk => exact hs.elim fun _ h => h.elim fun _ h => h.2.elim
  | cont => exact hs.elim fun _ h => h.elim fun _ h => h.2.elim
end
end AW

/-! AWDef2: a def of the text keeps the promise of its term. -/
namespace AW
open PySem L2 PyProof.Rows
open C8 (fnBody fnArgs fnScope)
section
variable {P : Program} {w : World} {K : PySem.W.Frag} {mg : Str → Option Value} {base : Heap}
/-- a def that may be called by its name -/
structure CalG (P : Program) (w : World) (K : PySem.W.Frag) (mg : Str → Option Value) (base : Heap) (ca : Nat → Addr) (k : Nat) (x : Str) (f : List D → R D) : Prop where
  ex : ∃ (fa : Addr) (fd : FuncData) (ps : List Str), FnG P w K mg base (L2.CX P w) k fa fd ps (spF K ca f) ∧ mg x = some (.ref fa) ∧ PySem.W.keepIn K (.ref fa) = true ∧ Binds K fd ps []
/-- what the text's tables stand for -/
structure TbOk (P : Program) (w : World) (K : PySem.W.Frag) (mg : Str → Option Value) (base : Heap) (ca : Nat → Addr) (k : Nat) (T : Tb) (q : Nat → List D → R D) (G : Nat → D) : Prop where
  fns : ∀ f x, T.fns[f]? = some x → CalG P w K mg base ca k x (q f)
  gls : ∀ g x, T.gls[g]? = some x → ∃ u v, GlV mg x (G g) u ∧ L2.RelV v u ∧ noOwn (G g) = true ∧ ∀ F H, Rp K F H (G g) v No
  bls : ∀ x, T.bls.contains x = true → mg x = none
theorem start_len {N : List Str} {vs : List V} (h : vs.length ≤ N.length) : (L2.start N vs).length = N.length := by
  unfold L2.start
  rw [List.length_append, List.length_map, List.length_replicate]
  omega
theorem def_ok {x qual : Str} {st : Stmt} {f : Addr} {fd : FuncData} {N ps : List Str} {k : Nat} {T : Tb} {ca : Nat → Addr} {q : Nat → List D → R D} {G : Nat → D} {fu : Nat} {body : List S} (F : C8.Fun K x qual st f fd) (hca : ca = exA K) (S : FnScope N ps (fnScope st)) (hT : TbOk P w K mg base ca k T q G)
    (hm : mSs T N (fnScope st) (fun _ => true) body (fnBody st) = true) : FnG P w K mg base (L2.CX P w) (k + 1) f fd ps (spF K ca (runF q G fu N.length ps.length body)) := by
  obtain ⟨oc, od, dV, kV, doc, pm, an, cdv, ct, osl, rfl, lk, hcd⟩ := F.ex
  have hpl : ps.length ≤ N.length := by
    have z := congrArg List.length S.pre
    rw [List.length_take] at z
    omega
  have hlen : ∀ vs H Qk E, spF K ca (runF q G fu N.length ps.length body) vs H Qk E → vs.length = ps.length := by
    intro vs H Qk E ⟨Fz, ds, S0, r0, h⟩
    have el : ds.length = vs.length := by
      have z := r0.en.len
      rw [List.length_map, List.length_map] at z
      exact z
    by_cases hc : ds.length = ps.length
    · omega
    · unfold runF at h
      rw [if_neg hc] at h
      exact h.elim
  refine fnG_of lk hcd S hlen fun A outer s H vs Qk E hr gd hsp => ?_
  have hvl := hlen _ _ _ _ hsp
  obtain ⟨Fz, ds, S0, r0, h⟩ := hsp
  have el : ds.length = vs.length := by
    have z := r0.en.len
    rw [List.length_map, List.length_map] at z
    exact z
  have g : Good T ca (fun _ c H => KN K c → c < 8 → E (.ref (ca c)) none H) q G N (cxOf (L2.CX P w) P w K mg base N qual (fnScope st) f cdv A outer s H E) (fnScope st) (fun _ => true) := {
    n := rfl
    nd := S.nd
    sc := rfl
    calm := rfl
    hu := by
      have z := hr.un
      show (A.deeper _).units + 66 < cLine
      omega
    gd := gd
    fn := fun _ _ => rfl
    fns := fun f' x' hx => by
      obtain ⟨fa, fd, ps, h1, h2, h3, h4⟩ := (hT.fns f' x' hx).ex
      exact ⟨fa, fd, ps, k, h2, h1, hr, h3, h4⟩
    gls := hT.gls
    bls := hT.bls
    tk := (takes_of (E := E) rfl rfl rfl rfl).imp fun cls d σ H hc => by
      obtain ⟨c, rfl, rfl, kn, c8, w⟩ := hc
      exact w kn c8
    cae := fun c => by
      rw [hca]
      rfl
    }
  refine ⟨_, sSs body (fu := fu) g (passes_of rfl) ⟨rfl, rfl, rfl⟩ hm (fun i z => z), Fz, ds.map some ++ List.replicate (N.length - ps.length) none, S0, ?_, ?_⟩
  · have e : L2.start N vs = vs.map some ++ List.replicate (N.length - ps.length) none := by
      unfold L2.start
      rw [hvl]
    rw [e]
    exact ⟨r0.ex, r0.nf, r0.al, EnvR.pad _ r0.en⟩
  · unfold runF at h
    rw [if_pos (by rw [el]; exact hvl)] at h
    have fin : ∀ {F' H' : Hp} {S' T' : AS} {env : Env} {σ' : L2.St}, Rel K F' H' env σ' S' → Agr (asgSs body) (L2.start N vs) σ' → Stp Fz H S0 F' H' T' → Rel K F' H' (outF (asgSs body) ds env) (vs.map some) S' := fun r a s =>
      out_rel r0 r a (a.1.trans (start_len (by omega))) (by omega) s
    show PostS K (fun _ c H => KN K c → c < 8 → E (.ref (ca c)) none H) (asgSs body) (L2.start N vs) Fz H S0 (execs q G fu body (ds.map some ++ List.replicate (N.length - ps.length) none)) _
    revert h
    cases execs q G fu body (ds.map some ++ List.replicate (N.length - ps.length) none) with
    | no => exact fun h => h.elim
    | exc c env => exact fun h F' H' S' σ' r' a' s' kn c8 => h kn c8 F' H' S' (fin r' a' s') s'
    | ok fl env =>
      cases fl with
      | ret d => exact fun h F' H' S' T' v σ' r' a' t' s' => h F' H' S' T' v (fin r' a' s') t' s'
      | next => exact fun h F' H' S' σ' r' a' s' => h F' H' S' No .non (fin r' a' s') (tmp_no rfl) (stp_wd s')
      | brk => exact fun h => h.elim
      | cnt => exact fun h => h.elim
end
end AW

/-! AWEnd: the law's call from the promise of its def; tables of defs. -/
namespace AW
open PySem L2 PyProof.Rows

/-- callees by number -/
def qL (l : List (List D → R D)) (i : Nat) : List D → R D := (l[i]?).getD fun _ => .no
def G0 (_ : Nat) : D := .non
def gL (l : List D) (i : Nat) : D := (l[i]?).getD .non

section
variable {P : Program} {w : World} {K : PySem.W.Frag} {mg mb : Str → Option Value} {k : Nat} {fa a : Addr} {fd : FuncData} {x : Str} {sp : Sp} {z : Shared} {vs : List Value} {ns : List Int}
/-- the promise used over the heap of the top, nothing but the script tracked -/
theorem topG (hK : K.In z.heap) (hm : z.heap.Ns mainGlobals mg) (hn : z.heap.Ns builtinsNs mb) (hbo : ∀ y : Str, y ≠ "__name__" → mb y = bootBuiltins y) (hli : z.heap.NoLimit) (hge : z.gens = #[]) {ol : Obj} (hol : z.heap.get? a = some ol) (hda : ol.data = .seq vs.toArray) (hro : Room k callerA)
    (pF : ∀ base : Heap, K.In base → base.Ns mainGlobals mg → FnG P w K mg base (L2.CX P w) k fa fd [x] sp) (bi : ∀ (s : Shared) (u : Value), BindsTo s fd ⟨[u], []⟩ [(x, u)])
    {H : Hp} (oH : Only H) (okH : HOk P w H z.heap) (atA : ∀ b, H b ≠ none → b = a) (noK : H a ≠ none → K.lookup a = none) (hp : sp [.ref a] H (fun v _ => v = .bl true) fun _ _ _ => False) :
    codeAny (model P w) callerA (.call (.ref fa) ⟨[.ref a], []⟩) (fun r s' => r = .ok (.ret (.bool true)) ∧ OldK z.heap s'.heap ∧ s'.os = z.os ∧ AllBare s'.gens) z := by
  have unt : ∀ {b : Addr} {ob : Obj} {es : Array DictEntry} {ep : Nat}, z.heap.get? b = some ob → ob.data = .dict es ep → H b = none := by
    intro b ob es ep h1 h2
    by_cases q : H b = none
    · exact q
    · have e := atA b q
      rw [e, hol] at h1
      cases h1
      rw [hda] at h2
      cases h2
  have nsB : ∀ {b : Addr} {m : Str → Option Value}, z.heap.Ns b m → (hidT z.heap H).Ns b m := by
    rintro b m ⟨ob, es, ep, h1, h2, h3⟩
    exact ⟨ob, es, ep, hidT_get h1 (unt h1 h2), h2, h3⟩
  have inB : K.In (hidT z.heap H) := by
    intro b ob h1
    by_cases q : H b = none
    · exact hidT_get (hK b ob h1) q
    · have e := atA b q
      subst e
      rw [noK q] at h1
      cases h1
  have en : Env0 P w K mg (hidT z.heap H) callerA [] z H := by
    obtain ⟨mc, l1, l2⟩ := hli
    exact ⟨rfl, ⟨inB, nsB hm, ⟨mb, nsB hn, hbo⟩, ⟨mc, nsB l1, l2⟩⟩, fun b ob e => of_hidT e, Nat.le_of_eq (hidT_size _ _), trivial, fun b q => (by cases q), okH, .of_eq hge⟩
  have run := (pF _ inB (nsB hm)).run callerA [] z H ⟨[.ref a], []⟩ [.ref a] [.ref a] _ _ hro rfl en (bi z (.ref a)) (.cons rfl .nil) hp
  refine codeAny_mono run fun r s' h => ?_
  match r, h with
  | .error e, h =>
    obtain ⟨_, _, _, _, _, _, _, _, _, _, _, _, z⟩ := h
    exact z.elim
  | .ok .next, h => exact False.elim h
  | .ok .brk, h => exact False.elim h
  | .ok .cont, h => exact False.elim h
  | .ok (.ret u), h =>
    obtain ⟨v, H', os, bare, un, hok', r', q⟩ := h
    have q : v = .bl true := q
    subst q
    have r' : u = Value.bool true := r'
    subst r'
    refine ⟨rfl, OldK.of_keep fun b ob e => ?_, os, bare⟩
    rcases oH b with q | ⟨o2, xs, q⟩
    · exact un.keep b ob e q (fun y => by cases y) (by simp)
    · have e1 := (okH b _ q).1
      have e2 := (hok' b _ (un.frzs b o2 _ q)).1
      rw [e] at e1
      cases e1
      exact e2
theorem lawG (hK : K.In z.heap) (hm : z.heap.Ns mainGlobals mg) (hn : z.heap.Ns builtinsNs mb) (hbo : ∀ y : Str, y ≠ "__name__" → mb y = bootBuiltins y) (hli : z.heap.NoLimit) (hge : z.gens = #[]) (hol : z.heap.get? a = some { cls := .type "list", data := .seq vs.toArray }) (hin : IntsAre vs ns) (hle : ns.length ≤ sizeLine) (hro : Room k callerA)
    (pF : ∀ base : Heap, K.In base → base.Ns mainGlobals mg → FnG P w K mg base (L2.CX P w) k fa fd [x] sp) (bi : ∀ (s : Shared) (u : Value), BindsTo s fd ⟨[u], []⟩ [(x, u)])
    (hp : ∀ H : Hp, SqL K H a (ns.map V.int) → sp [.ref a] H (fun v _ => v = .bl true) fun _ _ _ => False) :
    codeAny (model P w) callerA (.call (.ref fa) ⟨[.ref a], []⟩) (fun r s' => r = .ok (.ret (.bool true)) ∧ OldK z.heap s'.heap ∧ s'.os = z.os ∧ AllBare s'.gens) z := by
  have vi := vals_ints hin
  open Classical in
  by_cases hk : ∃ o, K.lookup a = some o
  · obtain ⟨o, hk⟩ := hk
    have e := hK a o hk
    rw [hol] at e
    cases e
    refine topG hK hm hn hbo hli hge hol rfl hro pF bi (H := fun _ => none) (fun _ => .inl rfl) (fun b u q => nomatch (show (none : Option HO) = some u from q)) (fun b q => absurd rfl q) (fun q => absurd rfl q) (hp _ (.inr ⟨_, vs.toArray, _, hk, rfl, rfl, rfl, ?_, by simpa using vi⟩))
    rw [List.size_toArray, hin.length]
    exact hle
  · have hk : K.lookup a = none := by
      cases q : K.lookup a with
      | none => rfl
      | some o => exact absurd ⟨o, q⟩ hk
    let H : Hp := fun b => if b = a then some (.frz { cls := .type "list", data := .seq vs.toArray } (.lst (ns.map V.int))) else none
    have hA : H a = some (.frz { cls := .type "list", data := .seq vs.toArray } (.lst (ns.map V.int))) := if_pos rfl
    have hN : ∀ {b}, b ≠ a → H b = none := fun h => if_neg h
    refine topG hK hm hn hbo hli hge hol rfl hro pF bi (H := H) (fun b => ?_) (fun b u q => ?_) (fun b q => ?_) (fun _ => hk) (hp _ (.inl (.inr ⟨_, hA⟩)))
    · rcases em (b = a) with e | e
      · exact .inr ⟨_, _, by rw [e]; exact hA⟩
      · exact .inl (hN e)
    · rcases em (b = a) with e | e
      · subst e
        rw [hA] at q
        cases q
        exact ⟨hol, by rw [List.length_map]; exact hle, vs, _, vi, hol⟩
      · rw [hN e] at q
        cases q
    · rcases em (b = a) with e | e
      · exact e
      · exact absurd (hN e) q
end
def scr (ns : List Int) : D := .lst false (ns.map .int)
theorem rpl_ints {K : PySem.W.Frag} {F H : Hp} : ∀ ns : List Int, RpL K F H (ns.map .int) (ns.map V.int) No
  | [] => rfl
  | n :: r => ⟨.int n, r.map V.int, No, No, rfl, fun _ q => q, fun _ q => q, fun _ q _ => q, rfl, rpl_ints r⟩
theorem sp_law {K : PySem.W.Frag} {ca : Nat → Addr} {f : List D → R D} {a : Addr} {ns : List Int} {H : Hp} (hs : SqL K H a (ns.map V.int)) {outs : Env} (h : f [scr ns] = .ok (.bl true) outs) : spF K ca f [.ref a] H (fun v _ => v = .bl true) fun _ _ _ => False := by
  refine ⟨H, [scr ns], No, ⟨Ex.refl H, fun _ q => q.elim, fun _ q => q.elim, ?_⟩, ?_⟩
  · refine ⟨some (.ref a), [], No, No, rfl, fun _ q => q, fun _ q => q, fun _ q _ => q, ⟨_, rfl, a, _, rfl, ?_, RpL.mono (Ex.refl H) (Tu.refl H) _ _ No _ (fun _ q => q.elim) (fun _ _ q => q.elim) (rpl_ints ns)⟩, rfl⟩
    rw [if_neg (by decide)]
    exact hs
  · rw [h]
    exact fun F' H' S' T v r t s => t.rp
/-- the law row from its def's promise -/
theorem walkG {l : PySem.W.OpenLaw} {n k : Nat} {q : Program} {loose : List Str} {XP : (Str → Option Value) → Heap → Prop} {YP : World → Heap → Prop} {d : DefRec} {x : Str} {f : List D → R D}
    (hn : l.most = some n) (hn2 : n ≤ sizeLine) (hdf : d.params.defaults = []) (hr : Room k callerA) (hf : ∀ ns : List Int, ns.length ≤ n → (∀ i ∈ ns, Builtin.Int.intBits i ≤ 1048576) → ∃ outs, f [scr ns] = .ok (.bl true) outs)
    (hF : ∀ (w : World) (mg : Str → Option Value) (fa : Addr) (h : Heap), YP w h → h.Ns mainGlobals mg → mg d.name = some (.ref fa) → ∃ (K : PySem.W.Frag) (fd : FuncData), K.In h ∧ (∀ (s : Shared) (u : Value), BindsTo s fd ⟨[u], []⟩ [(x, u)]) ∧
      ∀ base : Heap, K.In base → base.Ns mainGlobals mg → FnG l.prog w K mg base (L2.CX l.prog w) k fa fd [x] (spF K (exA K) f)) :
    PySem.W.WalkO q loose XP YP l.row.toRowW d [] (fun f vs => PySem.call f vs) := by
  refine Att.attach_callB hn hdf ?_
  intro w s0 s1 mg mb fa o pm cd doc a vs ns G Y ho hd hcd hmg hobj hints hlen hbits hg
  obtain ⟨K, fd, KX, hb, hG⟩ := hF w mg fa _ Y G.T.g hmg
  obtain ⟨outs, hq⟩ := hf ns hlen hbits
  exact lawG KX G.T.g G.T.b G.T.builtins G.T.nolimit hg hobj hints (Nat.le_trans hlen hn2) hr hG hb fun H hs => sp_law hs hq
/-! ### tables from the head's facts -/
section
variable {P : Program} {w : World} {K : PySem.W.Frag} {mg : Str → Option Value} {base : Heap} {ca : Nat → Addr} {k : Nat}
theorem CalG.mono {x : Str} {f : List D → R D} {j : Nat} (h : CalG P w K mg base ca j x f) (hj : j ≤ k) : CalG P w K mg base ca k x f := by
  obtain ⟨fa, fd, ps, h1, h2⟩ := h.ex
  exact ⟨fa, fd, ps, h1.mono hj, h2⟩
/-- a def's promise by its body, where it stands by name -/
theorem calG {x : Str} {st : Stmt} {fd : FuncData} {fa : Addr} {N ps : List Str} {T : Tb} {q : Nat → List D → R D} {G : Nat → D} {fu : Nat} {body : List S} (F : FunD K x x (C8.fnArgs st) (C8.fnBody st) (C8.fnScope st) [] [] fa fd) (hg : mg x = some (.ref fa)) (S : FnScope N ps (C8.fnScope st)) (hT : TbOk P w K mg base ca k T q G)
    (hm : mSs T N (C8.fnScope st) (fun _ => true) body (C8.fnBody st) = true) (hb : Binds K fd ps []) (hca : ca = exA K := by rfl) : CalG P w K mg base ca (k + 1) x (runF q G fu N.length ps.length body) := by
  obtain ⟨oc, od, dV, kV, doc, pm, an, cdv, ct, osl, e, lk, hcd, _, _⟩ := F.ex
  exact ⟨fa, fd, ps, def_ok ⟨oc, od, dV, kV, doc, pm, an, cdv, ct, osl, e, lk, hcd⟩ hca S hT hm, hg, F.kp, hb⟩
theorem fns_nil {q : Nat → List D → R D} : ∀ (f : Nat) (x : Str), ([] : List Str)[f]? = some x → CalG P w K mg base ca k x (q f) := fun f x h => by simp at h
theorem fns_cons {y : Str} {ys : List Str} {g : List D → R D} {l : List (List D → R D)} (h : CalG P w K mg base ca k y g) (hr : ∀ (f : Nat) (x : Str), ys[f]? = some x → CalG P w K mg base ca k x (qL l f)) : ∀ (f : Nat) (x : Str), (y :: ys)[f]? = some x → CalG P w K mg base ca k x (qL (g :: l) f) := by
  intro f x e
  cases f with
  | zero =>
    simp at e
    subst e
    exact h
  | succ f => exact hr f x (by simpa using e)
theorem bls_nil : ∀ x, ([] : List Str).contains x = true → mg x = none := fun x h => by cases h
theorem bls_cons {y : Str} {ys : List Str} (h : mg y = none) (hr : ∀ x, ys.contains x = true → mg x = none) : ∀ x, (y :: ys).contains x = true → mg x = none := by
  intro x e
  rw [List.contains_cons, Bool.or_eq_true] at e
  rcases e with e | e
  · rw [eq_of_beq e]
    exact h
  · exact hr x e
/-- a constant of the module -/
def GlOk (K : PySem.W.Frag) (mg : Str → Option Value) (x : Str) (d : D) : Prop := ∃ u v, GlV mg x d u ∧ L2.RelV v u ∧ noOwn d = true ∧ ∀ F H, Rp K F H d v No
theorem gl_int {x : Str} {i : Int} (h : ∃ t, mg x = some (.int i t)) : GlOk K mg x (.int i) := let ⟨t, e⟩ := h; ⟨_, .int i, .inl e, ⟨t, rfl⟩, rfl, fun _ _ => rfl⟩
theorem gl_str {x : Str} {z : List Nat} (h : ∃ t, mg x = some (.str (tx z) t)) : GlOk K mg x (.str z) := let ⟨t, e⟩ := h; ⟨_, .str (tx z), .inl e, ⟨t, rfl⟩, rfl, fun _ _ => rfl⟩
theorem gls_cons {y : Str} {ys : List Str} {d : D} {l : List D} (h : GlOk K mg y d) (hr : ∀ (g : Nat) (x : Str), ys[g]? = some x → GlOk K mg x (gL l g)) : ∀ (g : Nat) (x : Str), (y :: ys)[g]? = some x → GlOk K mg x (gL (d :: l) g) := by
  intro g x e
  cases g with
  | zero =>
    simp at e
    subst e
    exact h
  | succ g => exact hr g x (by simpa using e)
theorem gls_nil {G : Nat → D} : ∀ (g : Nat) (x : Str), ([] : List Str)[g]? = some x → ∃ u v, GlV mg x (G g) u ∧ L2.RelV v u ∧ noOwn (G g) = true ∧ ∀ F H, Rp K F H (G g) v No := fun g x h => by cases g <;> cases h
end
end AW

/-! AWWp: what is wanted of an answer, construct by construct: plain Lean, no heap. -/
namespace AW
open PySem

/-- a mark that keeps simp out of what is marked -/
inductive Tg {β : Sort u} (x : β) : Type where
  | mk
/-- the answer comes, without an error, and P holds of it -/
def wp0 {α : Type} (r : R α) (P : α → Env → Prop) : Prop := match r with | .ok a e => P a e | _ => False
@[irreducible] def wp {α : Type} (r : R α) (P : α → Env → Prop) (_ : Tg P := .mk) : Prop := wp0 r P
theorem wp_d {α : Type} {r : R α} {P : α → Env → Prop} : wp r P = wp0 r P := by unfold wp; rfl
def wo {α : Type} (o : Option α) (P : α → Prop) (_ : Tg P := .mk) : Prop := match o with | some a => P a | none => False
/-- a truth -/
def wb (d : D) (P : Bool → Prop) (_ : Tg P := .mk) : Prop := match d with | .bl b => P b | _ => False
/-- a whole number -/
def wn (d : D) (P : Int → Prop) (_ : Tg P := .mk) : Prop := match d with | .int i => P i | _ => False
/-- both ways -/
def wi (b : Bool) (p q : Prop) (_ : Tg p := .mk) (_ : Tg q := .mk) : Prop := (b = true → p) ∧ (b = false → q)
theorem wpf {α : Type} {r : R α} {P Q : α → Env → Prop} (h : ∀ a e, P a e = Q a e) : wp r P = wp r Q := by
  obtain rfl : P = Q := funext fun a => funext fun e => h a e
  rfl
theorem wof {α : Type} {o : Option α} {P Q : α → Prop} (h : ∀ a, P a = Q a) : wo o P = wo o Q := by
  obtain rfl : P = Q := funext h
  rfl
theorem wi_true {p q : Prop} : wi true p q = p := by simp [wi]
theorem wi_false {p q : Prop} : wi false p q = q := by simp [wi]
theorem wi_dec {c : Prop} [Decidable c] {p q : Prop} : wi (decide c) p q = ((c → p) ∧ (¬ c → q)) := by simp [wi]
theorem wi_not {b : Bool} {p q : Prop} : wi (!b) p q = wi b q p := by cases b <;> simp [wi]
theorem wb_bl {b : Bool} {P : Bool → Prop} : wb (.bl b) P = P b := rfl
theorem wo_some {α : Type} {a : α} {P : α → Prop} : wo (some a) P = P a := rfl
theorem wo_none {α : Type} {P : α → Prop} : wo (none : Option α) P = False := rfl
theorem wo_if {α : Type} {c : Prop} [Decidable c] {o : Option α} {P : α → Prop} : wo (if c then o else none) P = (c ∧ wo o P) := by
  by_cases h : c <;> simp [h, wo]
theorem wo_bind {α β : Type} {o : Option α} {f : α → Option β} {P : β → Prop} : wo (o.bind f) P = wo o fun a => wo (f a) P := by cases o <;> rfl
theorem wo_map {α β : Type} {o : Option α} {f : α → β} {P : β → Prop} : wo (o.map f) P = wo o fun a => P (f a) := by cases o <;> rfl
section
variable {α β : Type} {r : R α} {P : α → Env → Prop}
theorem wp_ok {a : α} {e : Env} : wp (.ok a e) P = P a e := by rw [wp_d]; rfl
theorem wp_no : wp (.no : R α) P = False := by rw [wp_d]; rfl
theorem wp_exc {c : Nat} {e : Env} : wp (.exc c e : R α) P = False := by rw [wp_d]; rfl
theorem wp_bind {f : α → Env → R β} {P : β → Env → Prop} : wp (r.bind f) P = wp r fun a e => wp (f a e) P := by cases r <;> with_unfolding_all rfl
theorem wp_map {f : α → β} {P : β → Env → Prop} : wp (r.map f) P = wp r fun a e => P (f a) e := by cases r <;> with_unfolding_all rfl
theorem wp_nx : wp r.nx P = wp r P := by cases r <;> with_unfolding_all rfl
theorem wp_lift {o : Option α} {e : Env} : wp (lift o e) P = wo o fun a => P a e := by cases o <;> with_unfolding_all rfl
theorem wp_if {c : Prop} [Decidable c] : wp (if c then r else .no) P = (c ∧ wp r P) := by
  by_cases h : c <;> simp [h, wp, wp0]
theorem wp_mono {Q : α → Env → Prop} (h : wp r P) (k : ∀ a e, P a e → Q a e) : wp r Q := by
  rw [wp_d] at h ⊢
  cases r with
  | ok a e => exact k a e h
  | exc c e => exact h
  | no => exact h
theorem wp_out (h : wp r P) : ∃ a e, r = .ok a e ∧ P a e := by
  rw [wp_d] at h
  cases r with
  | ok a e => exact ⟨a, e, rfl, h⟩
  | exc c e => exact h.elim
  | no => exact h.elim
theorem wp_of {a : α} {e : Env} (h : r = .ok a e) (k : P a e) : wp r P := by rw [h, wp_ok]; exact k
theorem wo_mono {o : Option α} {P Q : α → Prop} (h : wo o P) (k : ∀ a, P a → Q a) : wo o Q := by
  cases o with
  | none => exact h
  | some a => exact k a h
end
def isRf : E → Bool
  | .var _ => true
  | .mv _ => false
  | .fz _ => false
  | .pth _ _ => true
  | .cst _ => false
  | .glo _ => false
  | .bin _ _ _ => false
  | .neg _ => false
  | .cmp _ _ _ => false
  | .chn _ _ _ _ _ => false
  | .and_ _ => false
  | .or_ _ => false
  | .not_ _ => false
  | .ite _ _ _ => false
  | .tup _ => false
  | .lst _ => false
  | .dct _ => false
  | .tdc _ _ => false
  | .idx _ _ => false
  | .slc _ _ _ => false
  | .non => false
  | .call _ _ => false
  | .blt _ _ => false
  | .sp _ _ => false
  | .met _ _ _ => false
  | .lc _ _ _ _ _ _ => false
noncomputable section
variable {Q : Nat → List D → R D} {G : Nat → D} {env : Env}
section
variable {P : D → Env → Prop}
theorem wp_var {i : Nat} : wp (eval Q G (.var i) env) P = wo (gt env i) fun d => if noOwn d = true then P d env else okF d = true ∧ P (frz d) (env.set i (some (frz d))) := by
  unfold eval
  cases h : gt env i with
  | none => with_unfolding_all rfl
  | some d =>
    rw [wo_some]
    cases h1 : noOwn d with
    | true => simp [wp, h1, wp0]
    | false => cases h2 : okF d <;> simp [wp, h1, h2, wp0]
theorem wp_fz {i : Nat} : wp (eval Q G (.fz i) env) P = wo (gt env i) fun d => if noOwn d = true then P d env else okF d = true ∧ P (frz d) (env.set i (some (frz d))) := by
  unfold eval
  cases h : gt env i with
  | none => with_unfolding_all rfl
  | some d =>
    rw [wo_some]
    cases h1 : noOwn d with
    | true => simp [wp, h1, wp0]
    | false => cases h2 : okF d <;> simp [wp, h1, h2, wp0]
theorem wp_mv {i : Nat} : wp (eval Q G (.mv i) env) P = wo (gt env i) fun d => P d (env.set i none) := by
  unfold eval
  cases h : gt env i <;> with_unfolding_all rfl
theorem wp_pth {i k : Nat} : wp (eval Q G (.pth i k) env) P = wo (part (gt env i) k) fun d => noOwn d = true ∧ P d env := by
  unfold eval
  cases h : part (gt env i) k with
  | none => with_unfolding_all rfl
  | some d => cases h1 : noOwn d <;> simp [wp, h1, wo, wp0]
theorem wp_cst {d : D} : wp (eval Q G (.cst d) env) P = P d env := by unfold eval; with_unfolding_all rfl
theorem wp_glo {g : Nat} : wp (eval Q G (.glo g) env) P = P (G g) env := by unfold eval; with_unfolding_all rfl
theorem wp_non : wp (eval Q G .non env) P = P .non env := by unfold eval; with_unfolding_all rfl
end
section
variable {P : Op → Env → Prop}
theorem wp_ovar {i : Nat} {r : Env → R D} : wp (opd (.var i) r env) P = wo (gt env i) fun _ => P (.ref i) env := by
  unfold opd
  cases h : gt env i <;> simp [h, wp, wo, wp0]
theorem wp_opth {i k : Nat} {r : Env → R D} : wp (opd (.pth i k) r env) P = wo (part (gt env i) k) fun _ => P (.refp i k) env := by
  unfold opd
  cases h : part (gt env i) k <;> simp [h, wp, wo, wp0]
theorem wp_oval {a : E} {r : Env → R D} (h : isRf a = false) : wp (opd a r env) P = wp (r env) fun d e => okF d = true ∧ P (.val (frz d)) e := by
  have e : opd a r env = (r env).bind fun d e => if okF d then .ok (.val (frz d)) e else .no := by
    cases a <;> first | rfl | cases h
  rw [e, wp_bind]
  cases r env with
  | ok d e => cases h : okF d <;> simp [wp, h, wp0]
  | exc c e => with_unfolding_all rfl
  | no => with_unfolding_all rfl
theorem wp_avar {i : Nat} {r : Env → R D} : wp (arg (.var i) r env) P = wo (gt env i) fun _ => P (.ref i) env := by
  unfold arg
  cases h : gt env i <;> simp [h, wp, wo, wp0]
def isVr : E → Bool
  | .var _ => true
  | .mv _ => false
  | .fz _ => false
  | .pth _ _ => false
  | .cst _ => false
  | .glo _ => false
  | .bin _ _ _ => false
  | .neg _ => false
  | .cmp _ _ _ => false
  | .chn _ _ _ _ _ => false
  | .and_ _ => false
  | .or_ _ => false
  | .not_ _ => false
  | .ite _ _ _ => false
  | .tup _ => false
  | .lst _ => false
  | .dct _ => false
  | .tdc _ _ => false
  | .idx _ _ => false
  | .slc _ _ _ => false
  | .non => false
  | .call _ _ => false
  | .blt _ _ => false
  | .sp _ _ => false
  | .met _ _ _ => false
  | .lc _ _ _ _ _ _ => false
theorem wp_aval {a : E} {r : Env → R D} (h : isVr a = false) : wp (arg a r env) P = wp (r env) fun d e => P (.val d) e := by
  have e : arg a r env = (r env).map .val := by
    cases a <;> first | rfl | cases h
  rw [e, wp_map]
end
theorem wp_on1 {f : D → Option D} {x : Op} {P : D → Env → Prop} : wp (on1 f x env) P = wo (x.get env) fun a => wo (f a) fun d => P d env := by
  unfold on1
  cases x.get env with
  | none => with_unfolding_all rfl
  | some a => exact wp_lift
theorem wp_on2 {f : D → D → Option D} {x y : Op} {P : D → Env → Prop} : wp (on2 f x y env) P = wo (x.get env) fun a => wo (y.get env) fun b => wo (f a b) fun d => P d env := by
  unfold on2
  cases x.get env with
  | none => with_unfolding_all rfl
  | some a => cases y.get env with
    | none => with_unfolding_all rfl
    | some b => exact wp_lift
theorem get_val {d : D} : Op.get env (.val d) = some d := rfl
theorem get_ref {i : Nat} : Op.get env (.ref i) = gt env i := rfl
theorem get_refp {i k : Nat} : Op.get env (.refp i k) = part (gt env i) k := rfl
section
variable {P : D → Env → Prop}
theorem wp_bin {o : BO} {a b : E} : wp (eval Q G (.bin o a b) env) P = wp (opd a (eval Q G a) env) fun x e1 => wp (opd b (eval Q G b) e1) fun y e2 => wo (x.get e2) fun p => wo (y.get e2) fun q => wo (dBin o p q) fun d => P d e2 := by
  unfold eval
  rw [wp_bind]
  refine wpf fun x e1 => ?_
  rw [wp_bind]
  refine wpf fun y e2 => ?_
  exact wp_on2
theorem wp_neg {a : E} : wp (eval Q G (.neg a) env) P = wp (opd a (eval Q G a) env) fun x e1 => wo (x.get e1) fun p => wo (dNeg p) fun d => P d e1 := by
  unfold eval
  rw [wp_bind]
  refine wpf fun x e1 => ?_
  exact wp_on1
theorem wp_cmp {o : CO} {a b : E} : wp (eval Q G (.cmp o a b) env) P = wp (opd a (eval Q G a) env) fun x e1 => wp (opd b (eval Q G b) e1) fun y e2 => wo (x.get e2) fun p => wo (y.get e2) fun q => wo (dCmp o p q) fun d => P (.bl d) e2 := by
  unfold eval
  rw [wp_bind]
  refine wpf fun x e1 => ?_
  rw [wp_bind]
  refine wpf fun y e2 => ?_
  rw [wp_on2]
  refine wof fun p => ?_
  refine wof fun q => ?_
  exact wo_map
theorem wp_chn {o1 o2 : CO} {a b c : E} : wp (eval Q G (.chn o1 o2 a b c) env) P = wp (opd a (eval Q G a) env) fun x e1 => wp (opd b (eval Q G b) e1) fun y e2 => wo (x.get e2) fun p => wo (y.get e2) fun q => wo (dCmp o1 p q) fun d =>
    wi d (wp (opd c (eval Q G c) e2) fun z e3 => wo (y.get e3) fun q => wo (z.get e3) fun r => wo (dCmp o2 q r) fun d => P (.bl d) e3) (P (.bl false) e2) := by
  rw [eval]
  rw [wp_bind]
  refine wpf fun x e1 => ?_
  rw [wp_bind]
  refine wpf fun y e2 => ?_
  rw [wp_bind, wp_on2]
  refine wof fun p => ?_
  refine wof fun q => ?_
  rw [wo_map]
  refine wof fun d => ?_
  cases d with
  | false =>
    rw [wi_false]
    with_unfolding_all rfl
  | true =>
    rw [wi_true]
    show wp ((opd c (eval Q G c) e2).bind _) _ = _
    rw [wp_bind]
    refine wpf fun z e3 => ?_
    rw [wp_on2]
    refine wof fun p => ?_
    refine wof fun q => ?_
    exact wo_map
theorem wp_not {a : E} : wp (eval Q G (.not_ a) env) P = wp (eval Q G a env) fun d e => wb d fun b => P (.bl (!b)) e := by
  rw [eval, wp_bind]
  refine wpf fun d e => ?_
  cases d <;> with_unfolding_all rfl
theorem wp_ite {c a b : E} : wp (eval Q G (.ite c a b) env) P = wp (eval Q G c env) fun d e => wb d fun t => wi t (wp (eval Q G a e) P) (wp (eval Q G b e) P) := by
  rw [eval, wp_bind]
  refine wpf fun d e => ?_
  cases d with
  | bl t => cases t <;> simp [wb, wi]
  | _ => with_unfolding_all rfl
theorem wp_tup {es : Es} : wp (eval Q G (.tup es) env) P = wp (evals Q G es env) fun ds e => P (.tup ds) e := by
  rw [eval, wp_bind]
  with_unfolding_all rfl
theorem wp_lst {es : Es} : wp (eval Q G (.lst es) env) P = wp (evals Q G es env) fun ds e => P (.lst true ds) e := by
  rw [eval, wp_bind]
  with_unfolding_all rfl
theorem wp_dct {es : Es} : wp (eval Q G (.dct es) env) P = wp (evalDct Q G es [] [] env) P := by rw [eval]
theorem wp_tdc {a b : E} : wp (eval Q G (.tdc a b) env) P = wp (eval Q G a env) fun k e1 => wp (eval Q G b e1) fun v e2 => (isTK k && okF v) = true ∧ P (.dtp true [k] [frz v]) e2 := by
  rw [eval, wp_bind]
  refine wpf fun k e1 => ?_
  rw [wp_bind]
  refine wpf fun v e2 => ?_
  rw [wp_if, wp_ok]
theorem wp_idx {a b : E} : wp (eval Q G (.idx a b) env) P = wp (opd a (eval Q G a) env) fun x e1 => wp (opd b (eval Q G b) e1) fun y e2 => wo (x.get e2) fun p => wo (y.get e2) fun q => wo (dIdx p q) fun d => P d e2 := by
  rw [eval, wp_bind]
  refine wpf fun x e1 => ?_
  rw [wp_bind]
  refine wpf fun y e2 => ?_
  exact wp_on2
theorem wp_slc {a lo hi : E} : wp (eval Q G (.slc a lo hi) env) P = wp (opd a (eval Q G a) env) fun x e1 => wp (eval Q G lo e1) fun y e2 => wo (sPart lo y) fun l => wp (eval Q G hi e2) fun z e3 => wo (sPart hi z) fun h => wo (x.get e3) fun p => wo (dCut p l h) fun d => P d e3 := by
  rw [eval, wp_bind]
  refine wpf fun x e1 => ?_
  rw [wp_bind]
  refine wpf fun y e2 => ?_
  rw [wp_if]
  cases h1 : sPart lo y with
  | none => simp [wo]
  | some l =>
    rw [wo_some, wp_bind]
    simp only [Option.isSome, true_and]
    refine wpf fun z e3 => ?_
    rw [wp_if]
    cases h2 : sPart hi z with
    | none => simp [wo]
    | some h =>
      rw [wo_some, wp_on1]
      simp only [Option.isSome, true_and]
      with_unfolding_all rfl
theorem wp_call {f : Nat} {es : Es} : wp (eval Q G (.call f es) env) P = wp (evalArgs Q G es env) fun os e1 => apart os e1 = true ∧ wo (gets e1 os) fun ds => wp (Q f ds) fun d outs => P d (putBack os outs e1) := by
  rw [eval, wp_bind]
  refine wpf fun os e1 => ?_
  rw [wp_if]
  congr
  cases gets e1 os with
  | none => with_unfolding_all rfl
  | some ds =>
    rw [wo_some]
    simp only
    cases Q f ds <;> with_unfolding_all rfl
theorem wp_blt {b : BF} {es : Es} : wp (eval Q G (.blt b es) env) P = wp (evalOps Q G es env) fun os e1 => wo (gets e1 os) fun ds => wo (dBlt b ds) fun d => P d e1 := by
  rw [eval, wp_bind]
  refine wpf fun os e1 => ?_
  cases gets e1 os with
  | none => with_unfolding_all rfl
  | some ds => exact wp_lift
theorem wp_sp {b : SK} {es : Es} : wp (eval Q G (.sp b es) env) P = wp (evalOps Q G es env) fun os e1 => wo (gets e1 os) fun ds => wo (dSp b ds) fun d => P d e1 := by
  rw [eval, wp_bind]
  refine wpf fun os e1 => ?_
  cases gets e1 os with
  | none => with_unfolding_all rfl
  | some ds => exact wp_lift
theorem wp_mvar {m : MF} {i : Nat} {es : Es} : wp (eval Q G (.met m (.var i) es) env) P = (kdo m (gt env i) = true ∧ wp (evalFs Q G es env) fun ds e1 => wo (gt e1 i) fun o => wo (dMet m o ds) fun r => P r.1 (e1.set i (some r.2))) := by
  rw [eval, wp_if]
  refine congrArg (And _) ?_
  rw [wp_bind]
  refine wpf fun ds e1 => ?_
  cases gt e1 i with
  | none => with_unfolding_all rfl
  | some o =>
    rw [wo_some]
    simp only
    cases dMet m o ds <;> with_unfolding_all rfl
theorem wp_mpth {m : MF} {i k : Nat} {es : Es} : wp (eval Q G (.met m (.pth i k) es) env) P = (kdo m (part (gt env i) k) = true ∧ wp (evalFs Q G es env) fun ds e1 => wo (part (gt e1 i) k) fun o => wo (dMet m o ds) fun r =>
    wo (gt e1 i) fun a => match a with | .lst true xs => P r.1 (e1.set i (some (.lst true (xs.set k r.2)))) | _ => False) := by
  rw [eval, wp_if]
  refine congrArg (And _) ?_
  rw [wp_bind]
  refine wpf fun ds e1 => ?_
  unfold part
  cases h : gt e1 i with
  | none => with_unfolding_all rfl
  | some a =>
    match a with
    | .lst true xs =>
      simp only
      cases xs[k]? with
      | none => with_unfolding_all rfl
      | some o =>
        rw [wo_some]
        simp only
        cases dMet m o ds <;> with_unfolding_all rfl
    | .lst false xs => with_unfolding_all rfl
    | .non | .bl _ | .int _ | .str _ | .tup _ | .dic _ _ _ | .dtp _ _ _ | .ins _ _ | .fn _ => with_unfolding_all rfl
theorem wp_mval {m : MF} {a : E} {es : Es} (h : isRf a = false) : wp (eval Q G (.met m a es) env) P = wp (eval Q G a env) fun p e1 => (kdo m (some p) && okF p) = true ∧ wp (evalFs Q G es e1) fun ds e2 => wo (dMet m (frz p) ds) fun r => P r.1 e2 := by
  have e : eval Q G (.met m a es) env = (eval Q G a env).bind fun p e1 => if kdo m (some p) && okF p then (evalFs Q G es e1).bind fun ds e2 =>
        match dMet m (frz p) ds with | some (d, _) => .ok d e2 | none => .no
      else .no := by
    cases a <;> first | rfl | cases h
  rw [e, wp_bind]
  refine wpf fun p e1 => ?_
  rw [wp_if]
  refine congrArg (And _) ?_
  rw [wp_bind]
  refine wpf fun ds e2 => ?_
  cases dMet m (frz p) ds <;> with_unfolding_all rfl
theorem wp_lc {own t : List Nat} {tt : Bool} {it : It} {c e : E} : wp (eval Q G (.lc own t tt it c e) env) P = wp (evalIt Q G it env) fun s e1 => s.items.length ≤ SZ ∧ wp (lcL own t tt s.chk (eval Q G c) (eval Q G e) s.items [] (wipeE e1 own)) fun ds e2 => P (.lst true ds) (backE e1 e2 own) := by
  rw [eval, wp_bind]
  refine wpf fun s e1 => ?_
  rw [wp_if]
  refine congrArg (And _) ?_
  rw [wp_bind]
  with_unfolding_all rfl
theorem wp_and1 {a : E} : wp (evalAnd Q G (.cons a .nil) env) P = wp (eval Q G a env) P := by rw [evalAnd]
theorem wp_and2 {a b : E} {es : Es} : wp (evalAnd Q G (.cons a (.cons b es)) env) P = wp (eval Q G a env) fun d e => wb d fun t => wi t (wp (evalAnd Q G (.cons b es) e) P) (P (.bl false) e) := by
  rw [evalAnd]
  · rw [wp_bind]
    refine wpf fun d e => ?_
    cases d with
    | bl t => cases t <;> simp [wb, wi, wp, wp0]
    | _ => with_unfolding_all rfl
  · rintro ⟨⟩
theorem wp_or1 {a : E} : wp (evalOr Q G (.cons a .nil) env) P = wp (eval Q G a env) P := by rw [evalOr]
theorem wp_or2 {a b : E} {es : Es} : wp (evalOr Q G (.cons a (.cons b es)) env) P = wp (eval Q G a env) fun d e => wb d fun t => wi t (P (.bl true) e) (wp (evalOr Q G (.cons b es) e) P) := by
  rw [evalOr]
  · rw [wp_bind]
    refine wpf fun d e => ?_
    cases d with
    | bl t => cases t <;> simp [wb, wi, wp, wp0]
    | _ => with_unfolding_all rfl
  · rintro ⟨⟩
theorem wp_and {es : Es} : wp (eval Q G (.and_ es) env) P = wp (evalAnd Q G es env) P := by rw [eval]
theorem wp_or {es : Es} : wp (eval Q G (.or_ es) env) P = wp (evalOr Q G es env) P := by rw [eval]
theorem wp_dct0 {ks vs : List D} : wp (evalDct Q G .nil ks vs env) P = P (.dic true ks vs) env := by rw [evalDct]; with_unfolding_all rfl
theorem wp_dct2 {k v : E} {es : Es} {ks vs : List D} : wp (evalDct Q G (.cons k (.cons v es)) ks vs env) P = wp (eval Q G k env) fun a e1 => wp (eval Q G v e1) fun b e2 => ((keyOf a).isSome && okF b) = true ∧ wp (evalDct Q G es (dPut ks vs a (frz b)).1 (dPut ks vs a (frz b)).2 e2) P := by
  rw [evalDct, wp_bind]
  refine wpf fun a e1 => ?_
  rw [wp_bind]
  refine wpf fun b e2 => ?_
  exact wp_if
end
section
variable {P : List D → Env → Prop}
theorem wp_vs0 : wp (evals Q G .nil env) P = P [] env := by rw [evals]; with_unfolding_all rfl
theorem wp_vs1 {e : E} {es : Es} : wp (evals Q G (.cons e es) env) P = wp (eval Q G e env) fun d e1 => wp (evals Q G es e1) fun ds e2 => P (d :: ds) e2 := by
  rw [evals, wp_bind]
  refine wpf fun d e1 => ?_
  rw [wp_bind]
  with_unfolding_all rfl
theorem wp_fs0 : wp (evalFs Q G .nil env) P = P [] env := by rw [evalFs]; with_unfolding_all rfl
theorem wp_fs1 {e : E} {es : Es} : wp (evalFs Q G (.cons e es) env) P = wp (eval Q G e env) fun d e1 => okF d = true ∧ wp (evalFs Q G es e1) fun ds e2 => P (frz d :: ds) e2 := by
  rw [evalFs, wp_bind]
  refine wpf fun d e1 => ?_
  rw [wp_if]
  refine congrArg (And _) ?_
  rw [wp_bind]
  with_unfolding_all rfl
end
section
variable {P : List Op → Env → Prop}
theorem wp_as0 : wp (evalArgs Q G .nil env) P = P [] env := by rw [evalArgs]; with_unfolding_all rfl
theorem wp_as1 {e : E} {es : Es} : wp (evalArgs Q G (.cons e es) env) P = wp (arg e (eval Q G e) env) fun d e1 => wp (evalArgs Q G es e1) fun ds e2 => P (d :: ds) e2 := by
  rw [evalArgs, wp_bind]
  refine wpf fun d e1 => ?_
  rw [wp_bind]
  with_unfolding_all rfl
theorem wp_os0 : wp (evalOps Q G .nil env) P = P [] env := by rw [evalOps]; with_unfolding_all rfl
theorem wp_os1 {e : E} {es : Es} : wp (evalOps Q G (.cons e es) env) P = wp (opd e (eval Q G e) env) fun d e1 => wp (evalOps Q G es e1) fun ds e2 => P (d :: ds) e2 := by
  rw [evalOps, wp_bind]
  refine wpf fun d e1 => ?_
  rw [wp_bind]
  with_unfolding_all rfl
end
theorem gets_nil : gets env [] = some [] := rfl
theorem gets_cons {o : Op} {os : List Op} {P : List D → Prop} : wo (gets env (o :: os)) P = wo (o.get env) fun d => wo (gets env os) fun ds => P (d :: ds) := by
  rw [gets]
  cases o.get env with
  | none => with_unfolding_all rfl
  | some d => cases gets env os <;> with_unfolding_all rfl
section
variable {P : Src → Env → Prop}
theorem wp_seq {e : E} : wp (evalIt Q G (.seq e) env) P = wp (opd e (eval Q G e) env) fun o e1 => wo (o.get e1) fun d => wo (itemsOf d) fun ds => P ⟨ds, opChk o e1⟩ e1 := by
  rw [evalIt, wp_bind]
  refine wpf fun o e1 => ?_
  rw [wp_lift, wo_map, wo_bind]
theorem wp_enum {e : E} : wp (evalIt Q G (.enum e) env) P = wp (opd e (eval Q G e) env) fun o e1 => wo (o.get e1) fun d => wo (seqOf d) fun ds => P ⟨enumD 0 ds, opChk o e1⟩ e1 := by
  rw [evalIt, wp_bind]
  refine wpf fun o e1 => ?_
  rw [wp_lift, wo_map, wo_bind]
theorem wp_zip {a b : E} : wp (evalIt Q G (.zip2 a b) env) P = wp (opd a (eval Q G a) env) fun x e1 => wp (opd b (eval Q G b) e1) fun y e2 => wo (x.get e2) fun p => wo (y.get e2) fun q => wo (zip2D p q) fun ds => P ⟨zipD ds.1 ds.2, fun e => opChk x e2 e ∧ opChk y e2 e⟩ e2 := by
  rw [evalIt, wp_bind]
  refine wpf fun x e1 => ?_
  rw [wp_bind]
  refine wpf fun y e2 => ?_
  rw [wp_lift, wo_map, wo_bind]
  refine wof fun p => ?_
  rw [wo_bind]
theorem wn_int {i : Int} {P : Int → Prop} : wn (.int i) P = P i := rfl
theorem wp_rng1 {e : E} : wp (evalIt Q G (.rng1 e) env) P = wp (eval Q G e env) fun d e1 => wn d fun n => (n < 2 ^ 62 ∧ -(2 ^ 62) < n) ∧ P ⟨rngD 0 n.toNat, fun _ => True⟩ e1 := by
  rw [evalIt, wp_bind]
  refine wpf fun d e1 => ?_
  cases d with
  | int n =>
    show wp (if n < 2 ^ 62 ∧ -(2 ^ 62) < n then R.ok (⟨rngD 0 n.toNat, fun _ => True⟩ : Src) e1 else .no) P = _
    rw [wp_if, wp_ok]
    rfl
  | _ => with_unfolding_all rfl
theorem wp_rng2 {a b : E} : wp (evalIt Q G (.rng2 a b) env) P = wp (eval Q G a env) fun x e1 => wp (eval Q G b e1) fun y e2 => wn x fun lo => wn y fun hi => (hi < 2 ^ 62 ∧ -(2 ^ 62) < hi ∧ lo < 2 ^ 62 ∧ -(2 ^ 62) < lo) ∧ P ⟨rngD lo (hi - lo).toNat, fun _ => True⟩ e2 := by
  rw [evalIt, wp_bind]
  refine wpf fun x e1 => ?_
  rw [wp_bind]
  refine wpf fun y e2 => ?_
  cases x with
  | int lo =>
    cases y with
    | int hi =>
      show wp (if hi < 2 ^ 62 ∧ -(2 ^ 62) < hi ∧ lo < 2 ^ 62 ∧ -(2 ^ 62) < lo then R.ok (⟨rngD lo (hi - lo).toNat, fun _ => True⟩ : Src) e2 else .no) P = _
      rw [wp_if, wp_ok]
      rfl
    | _ => with_unfolding_all rfl
  | _ => cases y <;> with_unfolding_all rfl
end
/-! ### statements -/
variable {fu : Nat}
/-- what follows a statement -/
def cn (Q : Nat → List D → R D) (G : Nat → D) (fu : Nat) (ss : List S) (P : Fl → Env → Prop) (f : Fl) (e : Env) : Prop := match f with | .next => wp (execs Q G fu ss e) P | f => P f e
section
variable {P : Fl → Env → Prop}
theorem wp_ss0 : wp (execs Q G fu [] env) P = P .next env := by rw [execs]; with_unfolding_all rfl
theorem wp_ss1 {s : S} {ss : List S} : wp (execs Q G fu (s :: ss) env) P = wp (exec Q G fu s env) (cn Q G fu ss P) := by
  rw [execs, wp_bind]
  refine wpf fun f e => ?_
  cases f <;> with_unfolding_all rfl
theorem cn_next {ss : List S} : cn Q G fu ss P .next env = wp (execs Q G fu ss env) P := rfl
theorem cn_ret {ss : List S} {d : D} : cn Q G fu ss P (.ret d) env = P (.ret d) env := rfl
theorem cn_brk {ss : List S} : cn Q G fu ss P .brk env = P .brk env := rfl
theorem cn_cnt {ss : List S} : cn Q G fu ss P .cnt env = P .cnt env := rfl
theorem wp_asg {t : List Nat} {tt : Bool} {e : E} : wp (exec Q G fu (.asg t tt e) env) P = wp (eval Q G e env) fun d e1 => wo (bindT t tt d e1) fun e2 => P .next e2 := by
  rw [exec, wp_bind]
  refine wpf fun d e1 => ?_
  cases bindT t tt d e1 <;> with_unfolding_all rfl
theorem wp_stk {i : Nat} {k e : E} : wp (exec Q G fu (.stk i k e) env) P = wp (eval Q G e env) fun d e1 => (okF d && (gt e1 i).isSome) = true ∧ wp (eval Q G k e1) fun o e2 => wo (gt e2 i) fun a => wo (dSet a o (frz d)) fun x => P .next (e2.set i (some x)) := by
  rw [exec, wp_bind]
  refine wpf fun d e1 => ?_
  rw [wp_if]
  refine congrArg (And _) ?_
  rw [wp_bind]
  refine wpf fun o e2 => ?_
  cases gt e2 i with
  | none => with_unfolding_all rfl
  | some a =>
    rw [wo_some]
    simp only
    cases dSet a o (frz d) <;> with_unfolding_all rfl
theorem wp_exp {e : E} : wp (exec Q G fu (.exp e) env) P = wp (eval Q G e env) fun _ e1 => P .next e1 := by
  rw [exec, wp_bind]
  with_unfolding_all rfl
theorem wp_iff {c : E} {a b : List S} : wp (exec Q G fu (.iff c a b) env) P = wp (eval Q G c env) fun d e => wb d fun t => wi t (wp (execs Q G fu a e) P) (wp (execs Q G fu b e) P) := by
  rw [exec, wp_bind]
  refine wpf fun d e => ?_
  cases d with
  | bl t => cases t <;> simp [wb, wi]
  | _ => with_unfolding_all rfl
theorem wp_for {t : List Nat} {tt : Bool} {it : It} {b : List S} : wp (exec Q G fu (.for_ t tt it b) env) P = wp (evalIt Q G it env) fun s e1 => wp (forL t tt s.chk (fun e => execs Q G fu b e) s.items e1) P := by rw [exec, wp_bind]
theorem wp_whl {c : E} {b : List S} : wp (exec Q G fu (.whl c b) env) P = wp (whlL (eval Q G c) (fun e => execs Q G fu b e) fu env) P := by rw [exec]
theorem wp_ret {e : E} : wp (exec Q G fu (.ret e) env) P = wp (eval Q G e env) fun d e1 => P (.ret d) e1 := by
  rw [exec, wp_bind]
  with_unfolding_all rfl
theorem wp_retN : wp (exec Q G fu .retN env) P = P (.ret .non) env := by rw [exec]; with_unfolding_all rfl
theorem wp_brk : wp (exec Q G fu .brk env) P = P .brk env := by rw [exec]; with_unfolding_all rfl
theorem wp_cnt : wp (exec Q G fu .cnt env) P = P .cnt env := by rw [exec]; with_unfolding_all rfl
theorem wp_pss : wp (exec Q G fu .pss env) P = P .next env := by rw [exec]; with_unfolding_all rfl
theorem wp_rse {g : Nat} : wp (exec Q G fu (.rse g) env) P = False := by
  rw [exec]
  cases G g with
  | fn m =>
    by_cases h : m % 2 = 0 ∧ m / 2 < 8
    · rw [show rseR (.fn m) env = .exc (m / 2) env from if_pos h]
      with_unfolding_all rfl
    · rw [show rseR (.fn m) env = .no from if_neg h]
      with_unfolding_all rfl
  | _ => with_unfolding_all rfl
theorem wp_bad : wp (exec Q G fu .bad env) P = False := by rw [exec]; with_unfolding_all rfl
theorem wp_par {i j : Nat} {a b : E} : wp (exec Q G fu (.par i j a b) env) P = wp (eval Q G a env) fun x e1 => wp (eval Q G b e1) fun y e2 => P .next ((e2.set i (some x)).set j (some y)) := by
  rw [exec, wp_bind, wp_vs1]
  refine wpf fun x e1 => ?_
  rw [wp_vs1]
  refine wpf fun y e2 => ?_
  rw [wp_vs0]
  exact wp_ok
end
/-! ### a def -/
/-- at a def's end -/
def fin (asg : List Nat) (ds : List D) (P : D → Env → Prop) (f : Fl) (e : Env) : Prop := match f with | .ret d => P d (outF asg ds e) | .next => P .non (outF asg ds e) | _ => False
theorem fin_ret {asg : List Nat} {ds : List D} {P : D → Env → Prop} {d : D} {e : Env} : fin asg ds P (.ret d) e = P d (outF asg ds e) := rfl
theorem fin_next {asg : List Nat} {ds : List D} {P : D → Env → Prop} {e : Env} : fin asg ds P .next e = P .non (outF asg ds e) := rfl
theorem wp_run {ns np : Nat} {body : List S} {ds : List D} {P : D → Env → Prop} (hl : ds.length = np) (h : wp (execs Q G fu body (ds.map some ++ List.replicate (ns - np) none)) (fin (asgSs body) ds P)) : wp (runF Q G fu ns np body ds) P := by
  unfold runF
  rw [if_pos hl]
  revert h
  cases execs Q G fu body (ds.map some ++ List.replicate (ns - np) none) with
  | no => exact fun h => by rw [wp_no] at h; exact h.elim
  | exc c e => exact fun h => by rw [wp_exc] at h; exact h.elim
  | ok f e =>
    intro h
    rw [wp_ok] at h
    cases f with
    | ret d =>
      show wp (.ok d _) P
      rw [wp_ok]
      exact h
    | next =>
      show wp (.ok .non _) P
      rw [wp_ok]
      exact h
    | brk => exact h.elim
    | cnt => exact h.elim
end
end AW

/-! AWVal: the operations at known values. -/
namespace AW
open PySem
section
variable {P : D → Prop}
theorem v_int2 {f : Int → Int → Option D} {i j : Int} : wo (int2 f (.int i) (.int j)) P = wo (f i j) P := rfl
theorem v_addI {i j : Int} : wo (dBin .add (.int i) (.int j)) P = P (.int (i + j)) := rfl
theorem v_subI {i j : Int} : wo (dBin .sub (.int i) (.int j)) P = P (.int (i - j)) := rfl
theorem v_mulI {i j : Int} : wo (dBin .mul (.int i) (.int j)) P = (mulOk i j = true ∧ P (.int (i * j))) := by
  show wo (if mulOk i j then some (.int (i * j)) else none) P = _
  rw [wo_if]
  rfl
theorem v_fdivI {i j : Int} : wo (dBin .fdiv (.int i) (.int j)) P = (divOk j = true ∧ P (.int (i / j))) := by
  show wo (if divOk j then some (.int (i / j)) else none) P = _
  rw [wo_if]
  rfl
theorem v_modI {i j : Int} : wo (dBin .mod (.int i) (.int j)) P = (0 < j ∧ P (.int (i % j))) := by
  show wo (if 0 < j then some (.int (i % j)) else none) P = _
  rw [wo_if]
  rfl
theorem v_powI {i j : Int} : wo (dBin .pow (.int i) (.int j)) P = (powOk i j = true ∧ P (.int (i ^ j.toNat))) := by
  show wo (if powOk i j then some (.int (i ^ j.toNat)) else none) P = _
  rw [wo_if]
  rfl
theorem v_shlI {i j : Int} : wo (dBin .shl (.int i) (.int j)) P = (shlOk i j = true ∧ P (.int (i * 2 ^ j.toNat))) := by
  show wo (if shlOk i j then some (.int (i * 2 ^ j.toNat)) else none) P = _
  rw [wo_if]
  rfl
theorem v_bandI {i j : Int} : wo (dBin .band (.int i) (.int j)) P = P (.int (Builtin.bitAnd i j)) := rfl
theorem v_borI {i j : Int} : wo (dBin .bor (.int i) (.int j)) P = P (.int (Builtin.bitOr i j)) := rfl
theorem v_bxorI {i j : Int} : wo (dBin .bxor (.int i) (.int j)) P = P (.int (Builtin.bitXor i j)) := rfl
theorem v_addS {x y : List Nat} : wo (dBin .add (.str x) (.str y)) P = (x.length + y.length ≤ SZ ∧ P (.str (x ++ y))) := by
  show wo (if x.length + y.length ≤ SZ then some (.str (x ++ y)) else none) P = _
  rw [wo_if]
  rfl
theorem v_addL {a b : Bool} {x y : List D} : wo (dBin .add (.lst a x) (.lst b y)) P = ((noOwns x && noOwns y && decide (x.length + y.length ≤ SZ)) = true ∧ P (.lst true (x ++ y))) := by
  show wo (if noOwns x && noOwns y && decide (x.length + y.length ≤ SZ) then some (.lst true (x ++ y)) else none) P = _
  rw [wo_if]
  rfl
theorem v_addT {x y : List D} : wo (dBin .add (.tup x) (.tup y)) P = ((noOwns x && noOwns y && decide (x.length + y.length ≤ SZ)) = true ∧ P (.tup (x ++ y))) := by
  show wo (if noOwns x && noOwns y && decide (x.length + y.length ≤ SZ) then some (.tup (x ++ y)) else none) P = _
  rw [wo_if]
  rfl
theorem v_neg {i : Int} : wo (dNeg (.int i)) P = P (.int (-i)) := rfl
theorem v_idxL {o : Bool} {ds : List D} {i : Int} : wo (dIdx (.lst o ds) (.int i)) P = wo (L2.atI ds i) fun d => noOwn d = true ∧ P d := by
  show wo ((L2.atI ds i).bind own1) P = _
  rw [wo_bind]
  refine wof fun d => ?_
  unfold own1
  rw [wo_if]
  rfl
theorem v_idxT {ds : List D} {i : Int} : wo (dIdx (.tup ds) (.int i)) P = wo (L2.atI ds i) fun d => noOwn d = true ∧ P d := by
  show wo ((L2.atI ds i).bind own1) P = _
  rw [wo_bind]
  refine wof fun d => ?_
  unfold own1
  rw [wo_if]
  rfl
theorem v_idxD {o : Bool} {ks vs : List D} {k : D} : wo (dIdx (.dic o ks vs) k) P = ((keyOf k).isSome = true ∧ wo (dGet ks vs k) fun d => noOwn d = true ∧ P d) := by
  show wo (if (keyOf k).isSome then (dGet ks vs k).bind own1 else none) P = _
  rw [wo_if, wo_bind]
  refine congrArg (And _) (wof fun d => ?_)
  unfold own1
  rw [wo_if]
  rfl
theorem v_idxS {cs : List Nat} {i : Int} : wo (dIdx (.str cs) (.int i)) P = (cs.length ≤ SZ ∧ wo (L2.atI cs i) fun c => P (.str [c])) := by
  show wo (if cs.length ≤ SZ then (L2.atI cs i).map fun c => .str [c] else none) P = _
  rw [wo_if, wo_map]
end
section
variable {α : Type} {P : α → Prop} {xs : List α}
theorem atI_nat (k : Nat) : L2.atI xs (k : Int) = xs[k]? := by
  unfold L2.atI L2.ixN
  rw [if_pos (by omega)]
  by_cases h : (k : Int) < xs.length
  · rw [if_pos h]
    rfl
  · rw [if_neg h, List.getElem?_eq_none (by omega)]
    rfl
theorem atI_0 : L2.atI xs 0 = xs[0]? := atI_nat 0
theorem atI_1 : L2.atI xs 1 = xs[1]? := atI_nat 1
theorem atI_2 : L2.atI xs 2 = xs[2]? := atI_nat 2
theorem atI_last : L2.atI xs (-1) = xs.getLast? := by
  unfold L2.atI L2.ixN
  rw [if_neg (by omega)]
  cases xs with
  | nil => rfl
  | cons a r =>
    rw [if_pos (by simp; omega)]
    show (a :: r)[((-1 : Int) + ((a :: r).length : Int)).toNat]? = _
    rw [List.getLast?_eq_getElem?]
    congr
    simp
    omega
theorem atI_int {i : Int} (h : 0 ≤ i) : L2.atI xs i = xs[i.toNat]? := by
  have e : i = (i.toNat : Int) := by omega
  rw [e, atI_nat]
  congr
end
/-! ### comparisons -/
section
variable {P : Bool → Prop}
theorem v_ltI {i j : Int} : wo (dCmp .lt (.int i) (.int j)) P = P (decide (i < j)) := rfl
theorem v_leI {i j : Int} : wo (dCmp .le (.int i) (.int j)) P = P (decide (i ≤ j)) := rfl
theorem v_gtI {i j : Int} : wo (dCmp .gt (.int i) (.int j)) P = P (decide (j < i)) := rfl
theorem v_geI {i j : Int} : wo (dCmp .ge (.int i) (.int j)) P = P (decide (j ≤ i)) := rfl
theorem v_ne {x y : D} : wo (dCmp .ne x y) P = wo (dCmp .eq x y) fun b => P (!b) := by
  show wo ((dEq x y).map not) P = _
  rw [wo_map]
  rfl
theorem v_notN {x y : D} : wo (dCmp .notN x y) P = wo (dCmp .isN x y) fun b => P (!b) := by
  show wo ((dIs x y).map not) P = _
  rw [wo_map]
  rfl
theorem v_nin {x y : D} : wo (dCmp .nin x y) P = wo (dCmp .inn x y) fun b => P (!b) := by
  show wo ((dIn x y).map not) P = _
  rw [wo_map]
  rfl
theorem v_eqI {i j : Int} : wo (dCmp .eq (.int i) (.int j)) P = P (decide (i = j)) := by
  show P (PyData.eqv (.int i) (.int j)) = _
  congr
theorem v_eq {x y : D} (h : (isSt x && isSt y) = false := by rfl) : wo (dCmp .eq x y) P = ((shp x && shp y) = true ∧ P (deq x y)) := by
  show wo (dEq x y) P = _
  unfold dEq
  rw [h]
  simp only [Bool.false_eq_true, if_false]
  rw [wo_if]
  rfl
theorem tx_eq {x y : List Nat} : (tx x == tx y) = decide (x = y) := by
  by_cases h : x = y
  · subst h
    simp
  · have e : tx x ≠ tx y := fun z => h (by have := congrArg (fun s : Str => s.cps.toList) z; simpa using this)
    rw [decide_eq_false h]
    exact beq_false_of_ne e
theorem v_eqS {x y : List Nat} : wo (dCmp .eq (.str x) (.str y)) P = P (decide (x = y)) := by
  have e2 : deq (.str x) (.str y) = decide (x = y) := by
    show PyData.eqv (.str (tx x)) (.str (tx y)) = _
    unfold PyData.eqv
    exact tx_eq
  show P (deq (.str x) (.str y)) = _
  rw [e2]
theorem v_isNon {x : D} : wo (dCmp .isN x .non) P = P (isNon x) := rfl
theorem v_isBl {a b : Bool} : wo (dCmp .isN (.bl a) (.bl b)) P = P (decide (a = b)) := rfl
/-- against the empty list -/
theorem v_eqN {o : Bool} {xs : List D} : wo (dCmp .eq (.lst o xs) (.lst false [])) P = (shp (.lst o xs) = true ∧ P xs.isEmpty) := by
  rw [v_eq rfl]
  have e1 : shp (.lst false []) = true := by
    unfold shp SeqAt.shaped isP toP toPs isPs PyData.canLay0 PyData.depth PyData.canLayAll0 PyData.depthAll
    decide
  have e2 : deq (.lst o xs) (.lst false []) = xs.isEmpty := by
    cases xs <;> (unfold deq toP toPs PyData.eqv PyData.eqvAll; rfl)
  rw [e1, e2, Bool.and_true]
theorem v_inDk {o : Bool} {ks vs : List D} {x : D} (h : (keyOf x).isSome = true) : wo (dCmp .inn x (.dic o ks vs)) P = ((keyOf x).isSome = true ∧ P (dGet ks vs x).isSome) := by
  show wo (if (keyOf x).isSome then some (dGet ks vs x).isSome else if isTK x && ks.isEmpty then some false else none) P = _
  rw [if_pos h]
  exact propext ⟨fun q => ⟨h, q⟩, fun q => q.2⟩
theorem v_inDs {o : Bool} {ks vs : List D} {x : List Nat} : wo (dCmp .inn (.str x) (.dic o ks vs)) P = ((keyOf (.str x)).isSome = true ∧ P (dGet ks vs (.str x)).isSome) := v_inDk rfl
theorem v_inDi {o : Bool} {ks vs : List D} {x : Int} : wo (dCmp .inn (.int x) (.dic o ks vs)) P = ((keyOf (.int x)).isSome = true ∧ P (dGet ks vs (.int x)).isSome) := v_inDk rfl
theorem v_inE {o : Bool} {x : D} (h : isTK x = true) : wo (dCmp .inn x (.dic o [] [])) P = P false := by
  have hk : (keyOf x).isSome = false := by
    cases x with
    | int i => unfold isTK nkOf at h; cases h
    | str s => unfold isTK nkOf at h; cases h
    | _ => rfl
  show wo (if (keyOf x).isSome then some (dGet [] [] x).isSome else if isTK x && List.isEmpty ([] : List D) then some false else none) P = _
  rw [hk, h]
  rfl
theorem v_inP {o : Bool} {ks vs : List D} {x : D} : wo (dCmp .inn x (.dtp o ks vs)) P = (isTK x = true ∧ P (tGet ks vs x).isSome) := by
  show wo (if isTK x then some (tGet ks vs x).isSome else none) P = _
  rw [wo_if]
  rfl
theorem v_inT {ds : List D} {x : D} : wo (dCmp .inn x (.tup ds)) P = ((isFlat x && ds.all isFlat) = true ∧ P (ds.any fun z => deq z x)) := by
  show wo (if isFlat x && ds.all isFlat then some (ds.any fun z => deq z x) else none) P = _
  rw [wo_if]
  rfl
theorem v_inL {o : Bool} {ds : List D} {x : D} : wo (dCmp .inn x (.lst o ds)) P = ((shp x && shp (.lst o ds)) = true ∧ P (ds.any fun z => deq z x)) := by
  show wo (if shp x && shp (.lst o ds) then some (ds.any fun z => deq z x) else none) P = _
  rw [wo_if]
  rfl
end
theorem deq_S {x y : List Nat} : deq (.str x) (.str y) = decide (x = y) := by
  show PyData.eqv (.str (tx x)) (.str (tx y)) = _
  unfold PyData.eqv
  exact tx_eq
theorem deq_I {i j : Int} : deq (.int i) (.int j) = decide (i = j) := by
  show PyData.eqv (.int i) (.int j) = _
  unfold PyData.eqv
  by_cases h : i = j <;> simp [h]
/-! ### built-ins -/
section
variable {P : D → Prop}
theorem v_lenL {o : Bool} {xs : List D} : wo (dBlt .len [.lst o xs]) P = P (.int xs.length) := rfl
theorem v_lenT {xs : List D} : wo (dBlt .len [.tup xs]) P = P (.int xs.length) := rfl
theorem v_lenD {o : Bool} {xs ys : List D} : wo (dBlt .len [.dic o xs ys]) P = P (.int xs.length) := rfl
theorem v_lenS {xs : List Nat} : wo (dBlt .len [.str xs]) P = (xs.length ≤ SZ ∧ P (.int xs.length)) := by
  show wo (if xs.length ≤ SZ then some (.int xs.length) else none) P = _
  rw [wo_if]
  rfl
theorem v_abs {i : Int} : wo (dBlt .abs [.int i]) P = P (.int (if i < 0 then -i else i)) := rfl
theorem v_intI {i : Int} : wo (dBlt .int1 [.int i]) P = P (.int i) := rfl
theorem v_intB {b : Bool} : wo (dBlt .int1 [.bl b]) P = P (.int (if b then 1 else 0)) := rfl
theorem v_listL {o : Bool} {xs : List D} : wo (dBlt .list1 [.lst o xs]) P = (noOwns xs = true ∧ P (.lst true xs)) := by
  show wo (if noOwns xs then some (.lst true xs) else none) P = _
  rw [wo_if]
  rfl
theorem v_listT {xs : List D} : wo (dBlt .list1 [.tup xs]) P = (noOwns xs = true ∧ P (.lst true xs)) := by
  show wo (if noOwns xs then some (.lst true xs) else none) P = _
  rw [wo_if]
  rfl
theorem v_listD {o : Bool} {xs ys : List D} : wo (dBlt .list1 [.dic o xs ys]) P = (noOwns xs = true ∧ P (.lst true xs)) := by
  show wo (if noOwns xs then some (.lst true xs) else none) P = _
  rw [wo_if]
  rfl
theorem v_tupL {o : Bool} {xs : List D} : wo (dBlt .tuple1 [.lst o xs]) P = (noOwns xs = true ∧ P (.tup xs)) := by
  show wo (if noOwns xs then some (.tup xs) else none) P = _
  rw [wo_if]
  rfl
theorem v_tupT {xs : List D} : wo (dBlt .tuple1 [.tup xs]) P = (noOwns xs = true ∧ P (.tup xs)) := by
  show wo (if noOwns xs then some (.tup xs) else none) P = _
  rw [wo_if]
  rfl
theorem v_sum {o : Bool} {xs : List D} : wo (dBlt .sum1 [.lst o xs]) P = wo (allInts xs) fun ns => P (.int ns.sum) := by
  show wo ((allInts xs).bind _) P = _
  rw [wo_bind]
  rfl
theorem v_all {o : Bool} {xs : List D} : wo (dBlt .all1 [.lst o xs]) P = wo (allBls xs) fun ns => P (.bl (ns.all id)) := by
  show wo ((allBls xs).map _) P = _
  rw [wo_map]
theorem v_any {o : Bool} {xs : List D} : wo (dBlt .any1 [.lst o xs]) P = wo (allBls xs) fun ns => P (.bl (ns.any id)) := by
  show wo ((allBls xs).map _) P = _
  rw [wo_map]
theorem v_str {i : Int} : wo (dBlt .str1 [.int i]) P = (i.natAbs.log2 < 1920 ∧ P (.str (digits i))) := by
  show wo (if i.natAbs.log2 < 1920 then some (.str (digits i)) else none) P = _
  rw [wo_if]
  rfl
theorem v_repr {d : D} : wo (dBlt .repr1 [d]) P = wo (dRepr d) P := rfl
theorem v_max2 {i j : Int} : wo (dBlt .max2 [.int i, .int j]) P = P (.int (if j > i then j else i)) := rfl
theorem v_min2 {i j : Int} : wo (dBlt .min2 [.int i, .int j]) P = P (.int (if j < i then j else i)) := rfl
theorem v_isi {b : BF} {ks : List Kd} {d : D} (h : dBlt b [d] = dIsi ks d) : wo (dBlt b [d]) P = wo (kd d) fun k => P (.bl (ks.contains k)) := by
  rw [h]
  unfold dIsi
  exact wo_map
theorem v_isInt {d : D} : wo (dBlt .isInt [d]) P = wo (kd d) fun k => P (.bl ([Kd.int, .bl].contains k)) := v_isi rfl
theorem v_isBool {d : D} : wo (dBlt .isBool [d]) P = wo (kd d) fun k => P (.bl ([Kd.bl].contains k)) := v_isi rfl
theorem v_isStr {d : D} : wo (dBlt .isStr [d]) P = wo (kd d) fun k => P (.bl ([Kd.str].contains k)) := v_isi rfl
theorem v_isTup {d : D} : wo (dBlt .isTup [d]) P = wo (kd d) fun k => P (.bl ([Kd.tup].contains k)) := v_isi rfl
theorem v_isLst {d : D} : wo (dBlt .isLst [d]) P = wo (kd d) fun k => P (.bl ([Kd.lst].contains k)) := v_isi rfl
end
/-! ### methods, stores -/
section
variable {P : D × D → Prop}
theorem v_append {xs : List D} {d : D} : wo (dMet .append (.lst true xs) [d]) P = (xs.length < SZ ∧ P (.non, .lst true (xs ++ [d]))) := by
  show wo (if xs.length < SZ then some (D.non, D.lst true (xs ++ [d])) else none) P = _
  rw [wo_if]
  rfl
theorem v_pop0 {xs : List D} : wo (dMet .pop0 (.lst true xs) []) P = wo (xs[xs.length - 1]?) fun d => P (d, .lst true xs.dropLast) := by
  show wo ((xs[xs.length - 1]?).map fun d => (d, D.lst true xs.dropLast)) P = _
  exact wo_map
theorem v_pop1 {xs : List D} {i : Int} : wo (dMet .pop1 (.lst true xs) [.int i]) P = ((-(2 ^ 63) ≤ i ∧ i < 2 ^ 63) ∧ wo (seqIndex? i xs.length) fun k => wo (xs[k]?) fun d => P (d, .lst true (xs.eraseIdx k))) := by
  show wo (if -(2 ^ 63) ≤ i ∧ i < 2 ^ 63 then (seqIndex? i xs.length).bind fun k => (xs[k]?).map fun d => (d, D.lst true (xs.eraseIdx k)) else none) P = _
  rw [wo_if, wo_bind]
  refine congrArg (And _) (wof fun k => ?_)
  exact wo_map
theorem v_clear {xs : List D} : wo (dMet .clear0 (.lst true xs) []) P = P (.non, .lst true []) := rfl
theorem v_get2 {o : Bool} {ks vs : List D} {k x : D} : wo (dMet .get2 (.dic o ks vs) [k, x]) P = ((keyOf k).isSome = true ∧ match dGet ks vs k with | none => P (x, .dic o ks vs) | some d => noOwn d = true ∧ P (d, .dic o ks vs)) := by
  show wo (if (keyOf k).isSome then (match dGet ks vs k with | none => some (x, D.dic o ks vs) | some d => (own1 d).map fun d => (d, D.dic o ks vs)) else none) P = _
  rw [wo_if]
  congr
  cases dGet ks vs k with
  | none => rfl
  | some d =>
    show wo ((own1 d).map _) P = _
    unfold own1
    rw [wo_map, wo_if]
    rfl
end
theorem v_extend {xs ys : List D} {o : Bool} {P : D × D → Prop} : wo (dMet .extend1 (.lst true xs) [.lst o ys]) P = ((noOwns ys && decide (xs.length + ys.length ≤ SZ)) = true ∧ P (.non, .lst true (xs ++ ys))) := by
  show wo (if noOwns ys && decide (xs.length + ys.length ≤ SZ) then some (D.non, D.lst true (xs ++ ys)) else none) P = _
  rw [wo_if]
  rfl
theorem v_join {cs : List Nat} {ys : List D} {o : Bool} {P : D × D → Prop} : wo (dMet .join1 (.str cs) [.lst o ys]) P = wo (allStrs ys) fun ss => (ss.map (·.length)).sum + ss.length * cs.length ≤ SZ ∧ P (.str (joinN cs ss), .str cs) := by
  show wo ((allStrs ys).bind fun ss => if (ss.map (·.length)).sum + ss.length * cs.length ≤ SZ then some (D.str (joinN cs ss), D.str cs) else none) P = _
  rw [wo_bind]
  refine wof fun ss => ?_
  rw [wo_if]
  rfl
theorem v_index {xs : List D} {o : Bool} {k : Int} {P : D × D → Prop} : wo (dMet .index1 (.lst o xs) [.int k]) P = wo (allInts xs) fun ns => wo (idxI k ns) fun j => P (.int (j : Nat), .lst o xs) := by
  show wo ((allInts xs).bind fun ns => (idxI k ns).map fun (j : Nat) => (D.int (j : Int), D.lst o xs)) P = _
  rw [wo_bind]
  refine wof fun ns => ?_
  rw [wo_map]
theorem v_count {xs : List D} {o : Bool} {k : Int} {P : D × D → Prop} : wo (dMet .count1 (.lst o xs) [.int k]) P = wo (allInts xs) fun ns => P (.int (ns.count k : Nat), .lst o xs) := by
  show wo ((allInts xs).map fun ns => (D.int (ns.count k : Nat), D.lst o xs)) P = _
  rw [wo_map]
theorem allStrs_map {xs : List (List Nat)} : allStrs (xs.map .str) = some xs := by
  induction xs with
  | nil => rfl
  | cons a r ih =>
    show (allStrs (r.map .str)).map (a :: ·) = _
    rw [ih]
    rfl
theorem v_mulL {o : Bool} {xs : List D} {k : Int} {P : D → Prop} : wo (dBin .mul (.lst o xs) (.int k)) P = ((noOwns xs && decide (-(2 ^ 63) ≤ k ∧ k < 2 ^ 63 ∧ xs.length * k.toNat ≤ SZ)) = true ∧ P (.lst true (List.replicate k.toNat xs).flatten)) := by
  show wo (if noOwns xs && decide (-(2 ^ 63) ≤ k ∧ k < 2 ^ 63 ∧ xs.length * k.toNat ≤ SZ) then some (D.lst true (List.replicate k.toNat xs).flatten) else none) P = _
  rw [wo_if]
  rfl
theorem v_dSrt {ds : List D} {P : D → Prop} : wo (dSrt ds) P = (srtOk ds = true ∧ P (.lst true (ds.mergeSort dle))) := by
  unfold dSrt
  rw [wo_if]
  rfl
theorem v_sorted {o : Bool} {ds : List D} {P : D → Prop} : wo (dBlt .sorted1 [.lst o ds]) P = (srtOk ds = true ∧ P (.lst true (ds.mergeSort dle))) := v_dSrt
theorem v_sortedD {o : Bool} {ks vs : List D} {P : D → Prop} : wo (dBlt .sorted1 [.dic o ks vs]) P = (srtOk ks = true ∧ P (.lst true (ks.mergeSort dle))) := v_dSrt
theorem v_sortedT {o : Bool} {ks vs : List D} {P : D → Prop} : wo (dBlt .sorted1 [.dtp o ks vs]) P = (srtOk ks = true ∧ P (.lst true (ks.mergeSort dle))) := v_dSrt
theorem v_lenP {o : Bool} {xs ys : List D} {P : D → Prop} : wo (dBlt .len [.dtp o xs ys]) P = P (.int xs.length) := rfl
theorem v_listP {o : Bool} {xs ys : List D} {P : D → Prop} : wo (dBlt .list1 [.dtp o xs ys]) P = (noOwns xs = true ∧ P (.lst true xs)) := by
  show wo (if noOwns xs then some (.lst true xs) else none) P = _
  rw [wo_if]
  rfl
theorem v_dict1 {o : Bool} {ds : List D} {P : D → Prop} : wo (dBlt .dict1 [.lst o ds]) P = wo (pairsD ds) fun ps => (noOwns ds && ps.all fun p => isTK p.1) = true ∧ P (.dtp true (tPuts ps).1 (tPuts ps).2) := by
  show wo ((pairsD ds).bind fun ps => if noOwns ds && ps.all (fun p => isTK p.1) then some (D.dtp true (tPuts ps).1 (tPuts ps).2) else none) P = _
  rw [wo_bind]
  refine wof fun ps => ?_
  rw [wo_if]
  rfl
theorem v_boolB {b : Bool} {P : D → Prop} : wo (dBlt .bool1 [.bl b]) P = P (.bl b) := rfl
theorem v_boolI {i : Int} {P : D → Prop} : wo (dBlt .bool1 [.int i]) P = P (.bl (decide (i ≠ 0))) := rfl
theorem v_edt {P : D → Prop} : wo (dSp .edt []) P = P (.dtp true [] []) := rfl
theorem v_rev {o : Bool} {ds : List D} {P : D → Prop} : wo (dSp .rev [.lst o ds]) P = (noOwns ds = true ∧ P (.lst true ds.reverse)) := by
  show wo (if noOwns ds = true then some (D.lst true ds.reverse) else none) P = _
  rw [wo_if]
  rfl
theorem v_lrng1 {n : Int} {P : D → Prop} : wo (dSp .lrng1 [.int n]) P = wo (lrngD 0 n) P := rfl
theorem v_lrng2 {a n : Int} {P : D → Prop} : wo (dSp .lrng2 [.int a, .int n]) P = wo (lrngD a n) P := rfl
theorem v_lrng {a n : Int} {P : D → Prop} : wo (lrngD a n) P = ((n < 2 ^ 62 ∧ -(2 ^ 62) < n ∧ a < 2 ^ 62 ∧ -(2 ^ 62) < a ∧ n - a ≤ SZ) ∧ P (.lst true (rngD a (n - a).toNat))) := by
  unfold lrngD
  rw [wo_if]
  rfl
theorem v_sumv {o : Bool} {ks vs : List D} {P : D → Prop} : wo (dSp .sumv [.dtp o ks vs]) P = wo (allInts vs) fun ns => P (.int ns.sum) := by
  show wo ((allInts vs).map fun ns => D.int ns.sum) P = _
  rw [wo_map]
theorem v_getP1 {o : Bool} {ks vs : List D} {k : D} {P : D × D → Prop} : wo (dMet .get1 (.dtp o ks vs) [k]) P = (isTK k = true ∧ match tGet ks vs k with | none => P (.non, .dtp o ks vs) | some d => noOwn d = true ∧ P (d, .dtp o ks vs)) := by
  show wo (if isTK k then (match tGet ks vs k with | none => some (.non, D.dtp o ks vs) | some d => (own1 d).map fun d => (d, D.dtp o ks vs)) else none) P = _
  rw [wo_if]
  congr
  cases tGet ks vs k with
  | none => rfl
  | some d =>
    show wo ((own1 d).map _) P = _
    unfold own1
    rw [wo_map, wo_if]
    rfl
theorem v_getP2 {o : Bool} {ks vs : List D} {k x : D} {P : D × D → Prop} : wo (dMet .get2 (.dtp o ks vs) [k, x]) P = (isTK k = true ∧ match tGet ks vs k with | none => P (x, .dtp o ks vs) | some d => noOwn d = true ∧ P (d, .dtp o ks vs)) := by
  show wo (if isTK k then (match tGet ks vs k with | none => some (x, D.dtp o ks vs) | some d => (own1 d).map fun d => (d, D.dtp o ks vs)) else none) P = _
  rw [wo_if]
  congr
  cases tGet ks vs k with
  | none => rfl
  | some d =>
    show wo ((own1 d).map _) P = _
    unfold own1
    rw [wo_map, wo_if]
    rfl
theorem v_max1 {o : Bool} {ds : List D} {P : D → Prop} : wo (dBlt .max1 [.lst o ds]) P = wo (allInts ds) fun ns => wo (imax ns) fun m => P (.int m) := by
  show wo ((allInts ds).bind fun ns => (imax ns).map .int) P = _
  rw [wo_bind]
  refine wof fun ns => ?_
  rw [wo_map]
theorem v_min1 {o : Bool} {ds : List D} {P : D → Prop} : wo (dBlt .min1 [.lst o ds]) P = wo (allInts ds) fun ns => wo (imin ns) fun m => P (.int m) := by
  show wo ((allInts ds).bind fun ns => (imin ns).map .int) P = _
  rw [wo_bind]
  refine wof fun ns => ?_
  rw [wo_map]
theorem kdo_extend {o : Bool} {xs : List D} : kdo .extend1 (some (.lst o xs)) = true := rfl
theorem kdo_join {s : List Nat} : kdo .join1 (some (.str s)) = true := rfl
theorem kdo_index {o : Bool} {xs : List D} : kdo .index1 (some (.lst o xs)) = true := rfl
theorem kdo_count {o : Bool} {xs : List D} : kdo .count1 (some (.lst o xs)) = true := rfl
theorem kdo_append {o : Bool} {xs : List D} : kdo .append (some (.lst o xs)) = true := rfl
theorem kdo_pop0 {o : Bool} {xs : List D} : kdo .pop0 (some (.lst o xs)) = true := rfl
theorem kdo_pop1 {o : Bool} {xs : List D} : kdo .pop1 (some (.lst o xs)) = true := rfl
theorem kdo_clear {o : Bool} {xs : List D} : kdo .clear0 (some (.lst o xs)) = true := rfl
theorem kdo_get1 {o : Bool} {xs ys : List D} : kdo .get1 (some (.dic o xs ys)) = true := rfl
theorem kdo_get2 {o : Bool} {xs ys : List D} : kdo .get2 (some (.dic o xs ys)) = true := rfl
section
variable {P : D → Prop}
theorem v_setL {xs : List D} {i : Int} {d : D} : wo (dSet (.lst true xs) (.int i) d) P = wo (L2.ixN xs.length i) fun j => P (.lst true (xs.set j d)) := by
  show wo ((L2.ixN xs.length i).map _) P = _
  exact wo_map
theorem v_setDk {ks vs : List D} {k d : D} (h : (keyOf k).isSome = true) : wo (dSet (.dic true ks vs) k d) P = (((keyOf k).isSome && decide (ks.length < SZ)) = true ∧ P (.dic true (dPut ks vs k d).1 (dPut ks vs k d).2)) := by
  have ht : isTK k = false := by
    cases k with
    | int i => rfl
    | str s => rfl
    | _ => cases h
  show wo (if (keyOf k).isSome && decide (ks.length < SZ) then some (D.dic true (dPut ks vs k d).1 (dPut ks vs k d).2) else if isTK k && ks.isEmpty then some (.dtp true [k] [d]) else none) P = _
  rw [ht]
  by_cases hc : ((keyOf k).isSome && decide (ks.length < SZ)) = true
  · rw [if_pos hc, hc]
    exact propext ⟨fun q => ⟨rfl, q⟩, fun q => q.2⟩
  · rw [if_neg hc]
    exact propext ⟨fun q => (by cases q), fun q => absurd q.1 hc⟩
theorem v_setDs {ks vs : List D} {k : List Nat} {d : D} : wo (dSet (.dic true ks vs) (.str k) d) P = (((keyOf (.str k)).isSome && decide (ks.length < SZ)) = true ∧ P (.dic true (dPut ks vs (.str k) d).1 (dPut ks vs (.str k) d).2)) := v_setDk rfl
theorem v_setDi {ks vs : List D} {k : Int} {d : D} : wo (dSet (.dic true ks vs) (.int k) d) P = (((keyOf (.int k)).isSome && decide (ks.length < SZ)) = true ∧ P (.dic true (dPut ks vs (.int k) d).1 (dPut ks vs (.int k) d).2)) := v_setDk rfl
theorem v_setE {k d : D} (h : isTK k = true) : wo (dSet (.dic true [] []) k d) P = P (.dtp true [k] [d]) := by
  have hk : (keyOf k).isSome = false := by
    cases k with
    | int i => unfold isTK nkOf at h; cases h
    | str s => unfold isTK nkOf at h; cases h
    | _ => rfl
  show wo (if (keyOf k).isSome && decide (([] : List D).length < SZ) then some (D.dic true (dPut [] [] k d).1 (dPut [] [] k d).2) else if isTK k && List.isEmpty ([] : List D) then some (.dtp true [k] [d]) else none) P = _
  rw [hk, h]
  rfl
theorem v_setP {ks vs : List D} {k d : D} : wo (dSet (.dtp true ks vs) k d) P = ((isTK k && decide (ks.length < SZ)) = true ∧ P (.dtp true (tPut ks vs k d).1 (tPut ks vs k d).2)) := by
  show wo (if isTK k && decide (ks.length < SZ) then some (D.dtp true (tPut ks vs k d).1 (tPut ks vs k d).2) else none) P = _
  rw [wo_if]
  rfl
theorem v_idxP {o : Bool} {ks vs : List D} {k : D} : wo (dIdx (.dtp o ks vs) k) P = (isTK k = true ∧ wo (tGet ks vs k) fun d => noOwn d = true ∧ P d) := by
  show wo (if isTK k then (tGet ks vs k).bind own1 else none) P = _
  rw [wo_if, wo_bind]
  refine congrArg (And _) (wof fun d => ?_)
  unfold own1
  rw [wo_if]
  rfl
end
theorem ixN_0 {n : Nat} {P : Nat → Prop} : wo (L2.ixN (n + 1) 0) P = P 0 := by
  unfold L2.ixN
  rw [if_pos (by omega), if_pos (by omega)]
  rfl
theorem ixN_1 {n : Nat} {P : Nat → Prop} : wo (L2.ixN (n + 1 + 1) 1) P = P 1 := by
  unfold L2.ixN
  rw [if_pos (by omega), if_pos (by omega)]
  rfl
theorem ixN_2 {n : Nat} {P : Nat → Prop} : wo (L2.ixN (n + 1 + 1 + 1) 2) P = P 2 := by
  unfold L2.ixN
  rw [if_pos (by omega), if_pos (by omega)]
  rfl
/-! ### places -/
theorem part_l {xs : List D} {k : Nat} : part (some (.lst true xs)) k = xs[k]? := rfl
theorem bind_1 {i : Nat} {d : D} {env : Env} : bindT [i] false d env = some (env.set i (some d)) := rfl
theorem bind_l {t : List Nat} {o : Bool} {ds : List D} {env : Env} : bindT t true (.lst o ds) env = setAll t ds env := rfl
theorem bind_t {t : List Nat} {ds : List D} {env : Env} : bindT t true (.tup ds) env = setAll t ds env := rfl
theorem sa_nil {env : Env} : setAll [] [] env = some env := rfl
theorem sa_cons {i : Nat} {is : List Nat} {d : D} {ds : List D} {env : Env} : setAll (i :: is) (d :: ds) env = setAll is ds (env.set i (some d)) := rfl
def ownAt (d : Option D) : Bool := match d with | some d => noOwn d | none => true
theorem ownAt_some {d : D} : ownAt (some d) = noOwn d := rfl
theorem ap_nil {env : Env} : apart [] env = true := rfl
theorem ap_val {d : D} {os : List Op} {env : Env} : apart (.val d :: os) env = apart os env := rfl
theorem ap_ref {i : Nat} {os : List Op} {env : Env} : apart (.ref i :: os) env = ((ownAt (gt env i) || !hasRef i os) && apart os env) := by
  rw [apart]
  unfold ownAt
  rfl
theorem hr_nil {i : Nat} : hasRef i [] = false := rfl
theorem hr_val {i : Nat} {d : D} {os : List Op} : hasRef i (.val d :: os) = hasRef i os := rfl
theorem hr_ref {i j : Nat} {os : List Op} : hasRef i (.ref j :: os) = (j == i || hasRef i os) := rfl
theorem pb_nil {ds env : Env} : putBack [] ds env = env := by unfold putBack; rfl
theorem pb_ref {i : Nat} {os : List Op} {d : Option D} {ds env : Env} : putBack (.ref i :: os) (d :: ds) env = (putBack os ds env).set i d := rfl
theorem pb_val {x : D} {os : List Op} {d : Option D} {ds env : Env} : putBack (.val x :: os) (d :: ds) env = putBack os ds env := rfl
theorem okF_int {i : Int} : okF (.int i) = true := rfl
theorem okF_bl {i : Bool} : okF (.bl i) = true := rfl
theorem okF_str {i : List Nat} : okF (.str i) = true := rfl
theorem okF_non : okF .non = true := rfl
theorem okF_tup {ds : List D} : okF (.tup ds) = okFs ds := rfl
theorem okF_lst {o : Bool} {ds : List D} : okF (.lst o ds) = okFs ds := rfl
theorem okF_dic {o : Bool} {ks vs : List D} : okF (.dic o ks vs) = (okFs ks && okFs vs) := rfl
theorem okF_dtp {o : Bool} {ks vs : List D} : okF (.dtp o ks vs) = (okFs ks && okFs vs) := rfl
theorem okFs_nil : okFs [] = true := rfl
theorem okFs_cons {d : D} {ds : List D} : okFs (d :: ds) = (okF d && okFs ds) := rfl
theorem nO_int {i : Int} : noOwn (.int i) = true := rfl
theorem nO_bl {i : Bool} : noOwn (.bl i) = true := rfl
theorem nO_str {i : List Nat} : noOwn (.str i) = true := rfl
theorem nO_non : noOwn .non = true := rfl
theorem nO_tup {ds : List D} : noOwn (.tup ds) = noOwns ds := rfl
theorem nO_lst {o : Bool} {ds : List D} : noOwn (.lst o ds) = (!o && noOwns ds) := rfl
theorem nO_dic {o : Bool} {ks vs : List D} : noOwn (.dic o ks vs) = (!o && (noOwns ks && noOwns vs)) := rfl
theorem nO_dtp {o : Bool} {ks vs : List D} : noOwn (.dtp o ks vs) = (!o && (noOwns ks && noOwns vs)) := rfl
theorem nOs_nil : noOwns [] = true := rfl
theorem nOs_cons {d : D} {ds : List D} : noOwns (d :: ds) = (noOwn d && noOwns ds) := rfl
theorem fz_int {i : Int} : frz (.int i) = .int i := rfl
theorem fz_bl {i : Bool} : frz (.bl i) = .bl i := rfl
theorem fz_str {i : List Nat} : frz (.str i) = .str i := rfl
theorem fz_non : frz .non = .non := rfl
theorem fz_tup {ds : List D} : frz (.tup ds) = .tup (frzs ds) := rfl
theorem fz_lst {o : Bool} {ds : List D} : frz (.lst o ds) = .lst false (frzs ds) := rfl
theorem fz_dic {o : Bool} {ks vs : List D} : frz (.dic o ks vs) = .dic false (frzs ks) (frzs vs) := rfl
theorem fz_dtp {o : Bool} {ks vs : List D} : frz (.dtp o ks vs) = .dtp false (frzs ks) (frzs vs) := rfl
theorem fzs_nil : frzs [] = [] := rfl
theorem fzs_cons {d : D} {ds : List D} : frzs (d :: ds) = frz d :: frzs ds := rfl
theorem nOs_append {xs ys : List D} : noOwns (xs ++ ys) = (noOwns xs && noOwns ys) := by
  induction xs with
  | nil => rfl
  | cons a r ih => rw [List.cons_append, nOs_cons, nOs_cons, ih, Bool.and_assoc]
theorem okFs_append {xs ys : List D} : okFs (xs ++ ys) = (okFs xs && okFs ys) := by
  induction xs with
  | nil => rfl
  | cons a r ih => rw [List.cons_append, okFs_cons, okFs_cons, ih, Bool.and_assoc]
theorem fzs_append {xs ys : List D} : frzs (xs ++ ys) = frzs xs ++ frzs ys := by
  induction xs with
  | nil => rfl
  | cons a r ih => rw [List.cons_append, fzs_cons, fzs_cons, ih, List.cons_append]
mutual
theorem fz_of : ∀ d : D, noOwn d = true → frz d = d
  | .non, _ => rfl
  | .bl _, _ => rfl
  | .int _, _ => rfl
  | .str _, _ => rfl
  | .ins _ _, _ => rfl
  | .fn _, _ => rfl
  | .tup ds, h => by rw [fz_tup, fzs_of ds h]
  | .lst o ds, h => by
    rw [nO_lst, Bool.and_eq_true] at h
    rw [fz_lst, fzs_of ds h.2]
    cases o
    · rfl
    · cases h.1
  | .dic o ks vs, h => by
    rw [nO_dic, Bool.and_eq_true, Bool.and_eq_true] at h
    rw [fz_dic, fzs_of ks h.2.1, fzs_of vs h.2.2]
    cases o
    · rfl
    · cases h.1
  | .dtp o ks vs, h => by
    rw [nO_dtp, Bool.and_eq_true, Bool.and_eq_true] at h
    rw [fz_dtp, fzs_of ks h.2.1, fzs_of vs h.2.2]
    cases o
    · rfl
    · cases h.1
theorem fzs_of : ∀ ds : List D, noOwns ds = true → frzs ds = ds
  | [], _ => rfl
  | d :: ds, h => by
    rw [nOs_cons, Bool.and_eq_true] at h
    rw [fzs_cons, fz_of d h.1, fzs_of ds h.2]
end
mutual
theorem okF_of : ∀ d : D, noOwn d = true → okF d = true
  | .non, _ => rfl
  | .bl _, _ => rfl
  | .int _, _ => rfl
  | .str _, _ => rfl
  | .ins _ _, h => h
  | .fn _, _ => rfl
  | .tup ds, h => okFs_of ds h
  | .lst o ds, h => by
    rw [nO_lst, Bool.and_eq_true] at h
    exact okFs_of ds h.2
  | .dic o ks vs, h => by
    rw [nO_dic, Bool.and_eq_true, Bool.and_eq_true] at h
    rw [okF_dic, okFs_of ks h.2.1, okFs_of vs h.2.2]
    rfl
  | .dtp o ks vs, h => by
    rw [nO_dtp, Bool.and_eq_true, Bool.and_eq_true] at h
    rw [okF_dtp, okFs_of ks h.2.1, okFs_of vs h.2.2]
    rfl
theorem okFs_of : ∀ ds : List D, noOwns ds = true → okFs ds = true
  | [], _ => rfl
  | d :: ds, h => by
    rw [nOs_cons, Bool.and_eq_true] at h
    rw [okFs_cons, okF_of d h.1, okFs_of ds h.2]
    rfl
end
theorem nOs_all {ds : List D} (h : ∀ d ∈ ds, noOwn d = true) : noOwns ds = true := by
  induction ds with
  | nil => rfl
  | cons a r ih => rw [nOs_cons, h a (List.mem_cons_self ..), ih fun d hd => h d (List.mem_cons_of_mem _ hd)]; rfl
theorem nOs_map {α : Type} {f : α → D} {xs : List α} (h : ∀ a ∈ xs, noOwn (f a) = true) : noOwns (xs.map f) = true := nOs_all fun d hd => by
  obtain ⟨a, ha, rfl⟩ := List.mem_map.mp hd
  exact h a ha
theorem nOs_get {ds : List D} {k : Nat} {d : D} (h : noOwns ds = true) (e : ds[k]? = some d) : noOwn d = true := by
  induction ds generalizing k with
  | nil => cases e
  | cons a r ih =>
    rw [nOs_cons, Bool.and_eq_true] at h
    cases k with
    | zero =>
      cases e
      exact h.1
    | succ k => exact ih h.2 (by simpa using e)
theorem wp_E0 {e : Env} {own : List Nat} : wipeE e [] = e := rfl
theorem wp_E1 {e : Env} {v : Nat} {vs : List Nat} : wipeE e (v :: vs) = (wipeE e vs).set v none := rfl
theorem bk_E0 {o e : Env} : backE o e [] = e := rfl
def backV (d : Option D) : Option D := match d with | some d => if noOwn d then some d else none | none => none
theorem backV_none : backV none = none := rfl
theorem backV_some {d : D} : backV (some d) = if noOwn d = true then some d else none := rfl
theorem bk_E1 {o e : Env} {v : Nat} {vs : List Nat} : backE o e (v :: vs) = (backE o e vs).set v (backV (gt o v)) := by
  rw [backE]
  unfold backV
  rfl
theorem items_l {o : Bool} {ds : List D} {P : List D → Prop} : wo (itemsOf (.lst o ds)) P = (noOwns ds = true ∧ P ds) := by
  show wo (if noOwns ds then some ds else none) P = _
  rw [wo_if]
  rfl
theorem items_t {ds : List D} {P : List D → Prop} : wo (itemsOf (.tup ds)) P = (noOwns ds = true ∧ P ds) := by
  show wo (if noOwns ds then some ds else none) P = _
  rw [wo_if]
  rfl
theorem items_p {ks vs : List D} {P : List D → Prop} : wo (itemsOf (.dtp false ks vs)) P = (noOwns ks = true ∧ P ks) := by
  show wo (if (!false && noOwns ks) = true then some ks else none) P = _
  rw [wo_if]
  rfl
theorem items_s {cs : List Nat} {P : List D → Prop} : wo (itemsOf (.str cs)) P = P (cs.map fun c => .str [c]) := rfl
theorem seq_l {o : Bool} {ds : List D} {P : List D → Prop} : wo (seqOf (.lst o ds)) P = (noOwns ds = true ∧ P ds) := by
  show wo (if noOwns ds then some ds else none) P = _
  rw [wo_if]
  rfl
theorem seq_t {ds : List D} {P : List D → Prop} : wo (seqOf (.tup ds)) P = (noOwns ds = true ∧ P ds) := by
  show wo (if noOwns ds then some ds else none) P = _
  rw [wo_if]
  rfl
theorem sp_non {d : D} : sPart .non d = some none := rfl
theorem sp_cst {c : D} {i : Int} : sPart (.cst c) (.int i) = some (some i) := rfl
theorem sp_var {k : Nat} {i : Int} : sPart (.var k) (.int i) = some (some i) := rfl
theorem sp_bin {o : BO} {a b : E} {i : Int} : sPart (.bin o a b) (.int i) = some (some i) := rfl
theorem sp_sp {o : SK} {a : Es} {i : Int} : sPart (.sp o a) (.int i) = some (some i) := rfl
theorem sp_blt {o : BF} {a : Es} {i : Int} : sPart (.blt o a) (.int i) = some (some i) := rfl
theorem sp_neg {a : E} {i : Int} : sPart (.neg a) (.int i) = some (some i) := rfl
section
variable {P : D → Prop} {lo hi : Option Int}
theorem v_cutL {o : Bool} {ds : List D} : wo (dCut (.lst o ds) lo hi) P = (noOwns ds = true ∧ P (.lst true (cutD ds lo hi))) := by
  show wo (if noOwns ds then some (.lst true (cutD ds lo hi)) else none) P = _
  rw [wo_if]
  rfl
theorem v_cutT {ds : List D} : wo (dCut (.tup ds) lo hi) P = (noOwns ds = true ∧ P (.tup (cutD ds lo hi))) := by
  show wo (if noOwns ds then some (.tup (cutD ds lo hi)) else none) P = _
  rw [wo_if]
  rfl
theorem v_cutS {ds : List Nat} : wo (dCut (.str ds) lo hi) P = (ds.length ≤ SZ ∧ P (.str (cutD ds lo hi))) := by
  show wo (if ds.length ≤ SZ then some (.str (cutD ds lo hi)) else none) P = _
  rw [wo_if]
  rfl
end
/-- xs[1:] -/
theorem cut_1 {α : Type} {xs : List α} : cutD xs (some 1) none = xs.drop 1 := by
  unfold cutD
  show (xs.drop (HT.sIx xs.length 0 (some ((1 : Nat) : Int)))).take (xs.length - HT.sIx xs.length 0 (some ((1 : Nat) : Int))) = _
  rw [HT.sIx_nat]
  cases xs with
  | nil => rfl
  | cons a r =>
    have e : min 1 (a :: r).length = 1 := by simp
    rw [e]
    simp
theorem ib_and {b : Bool} {p q : Prop} (h : b = true) (k : q) : b = true ∧ q := ⟨h, k⟩
theorem opChk_ref {i : Nat} {e e' : Env} : opChk (.ref i) e e' = (gt e' i = gt e i) := rfl
theorem opChk_val {d : D} {e e' : Env} : opChk (.val d) e e' = True := rfl
theorem opChk_refp {i k : Nat} {e e' : Env} : opChk (.refp i k) e e' = True := rfl
/-! ### operands that are not names -/
section
variable {r : Env → R D} {env : Env} {P : Op → Env → Prop}
theorem wo_mv {i : Nat} : wp (opd (.mv i) r env) P = wp (r env) fun d e => okF d = true ∧ P (.val (frz d)) e := wp_oval rfl
theorem wo_fz {i : Nat} : wp (opd (.fz i) r env) P = wp (r env) fun d e => okF d = true ∧ P (.val (frz d)) e := wp_oval rfl
theorem wo_cst {c : D} : wp (opd (.cst c) r env) P = wp (r env) fun d e => okF d = true ∧ P (.val (frz d)) e := wp_oval rfl
theorem wo_glo {i : Nat} : wp (opd (.glo i) r env) P = wp (r env) fun d e => okF d = true ∧ P (.val (frz d)) e := wp_oval rfl
theorem wo_bin {o : BO} {a b : E} : wp (opd (.bin o a b) r env) P = wp (r env) fun d e => okF d = true ∧ P (.val (frz d)) e := wp_oval rfl
theorem wo_neg {a : E} : wp (opd (.neg a) r env) P = wp (r env) fun d e => okF d = true ∧ P (.val (frz d)) e := wp_oval rfl
theorem wo_cmp {o : CO} {a b : E} : wp (opd (.cmp o a b) r env) P = wp (r env) fun d e => okF d = true ∧ P (.val (frz d)) e := wp_oval rfl
theorem wo_chn {o o2 : CO} {a b c : E} : wp (opd (.chn o o2 a b c) r env) P = wp (r env) fun d e => okF d = true ∧ P (.val (frz d)) e := wp_oval rfl
theorem wo_and_ {es : Es} : wp (opd (.and_ es) r env) P = wp (r env) fun d e => okF d = true ∧ P (.val (frz d)) e := wp_oval rfl
theorem wo_or_ {es : Es} : wp (opd (.or_ es) r env) P = wp (r env) fun d e => okF d = true ∧ P (.val (frz d)) e := wp_oval rfl
theorem wo_not_ {a : E} : wp (opd (.not_ a) r env) P = wp (r env) fun d e => okF d = true ∧ P (.val (frz d)) e := wp_oval rfl
theorem wo_ite {a b c : E} : wp (opd (.ite a b c) r env) P = wp (r env) fun d e => okF d = true ∧ P (.val (frz d)) e := wp_oval rfl
theorem wo_tup {es : Es} : wp (opd (.tup es) r env) P = wp (r env) fun d e => okF d = true ∧ P (.val (frz d)) e := wp_oval rfl
theorem wo_lst {es : Es} : wp (opd (.lst es) r env) P = wp (r env) fun d e => okF d = true ∧ P (.val (frz d)) e := wp_oval rfl
theorem wo_dct {es : Es} : wp (opd (.dct es) r env) P = wp (r env) fun d e => okF d = true ∧ P (.val (frz d)) e := wp_oval rfl
theorem wo_tdc {a b : E} : wp (opd (.tdc a b) r env) P = wp (r env) fun d e => okF d = true ∧ P (.val (frz d)) e := wp_oval rfl
theorem wo_idx {a b : E} : wp (opd (.idx a b) r env) P = wp (r env) fun d e => okF d = true ∧ P (.val (frz d)) e := wp_oval rfl
theorem wo_slc {a b c : E} : wp (opd (.slc a b c) r env) P = wp (r env) fun d e => okF d = true ∧ P (.val (frz d)) e := wp_oval rfl
theorem wo_call {i : Nat} {es : Es} : wp (opd (.call i es) r env) P = wp (r env) fun d e => okF d = true ∧ P (.val (frz d)) e := wp_oval rfl
theorem wo_blt {m : BF} {es : Es} : wp (opd (.blt m es) r env) P = wp (r env) fun d e => okF d = true ∧ P (.val (frz d)) e := wp_oval rfl
theorem wo_sp {m : SK} {es : Es} : wp (opd (.sp m es) r env) P = wp (r env) fun d e => okF d = true ∧ P (.val (frz d)) e := wp_oval rfl
theorem wo_met {m : MF} {a : E} {es : Es} : wp (opd (.met m a es) r env) P = wp (r env) fun d e => okF d = true ∧ P (.val (frz d)) e := wp_oval rfl
theorem wo_lc {i1 i2 : List Nat} {tt : Bool} {it : It} {c a : E} : wp (opd (.lc i1 i2 tt it c a) r env) P = wp (r env) fun d e => okF d = true ∧ P (.val (frz d)) e := wp_oval rfl
theorem wa_mv {i : Nat} : wp (arg (.mv i) r env) P = wp (r env) fun d e => P (.val d) e := wp_aval rfl
theorem wa_fz {i : Nat} : wp (arg (.fz i) r env) P = wp (r env) fun d e => P (.val d) e := wp_aval rfl
theorem wa_cst {c : D} : wp (arg (.cst c) r env) P = wp (r env) fun d e => P (.val d) e := wp_aval rfl
theorem wa_glo {i : Nat} : wp (arg (.glo i) r env) P = wp (r env) fun d e => P (.val d) e := wp_aval rfl
theorem wa_bin {o : BO} {a b : E} : wp (arg (.bin o a b) r env) P = wp (r env) fun d e => P (.val d) e := wp_aval rfl
theorem wa_neg {a : E} : wp (arg (.neg a) r env) P = wp (r env) fun d e => P (.val d) e := wp_aval rfl
theorem wa_cmp {o : CO} {a b : E} : wp (arg (.cmp o a b) r env) P = wp (r env) fun d e => P (.val d) e := wp_aval rfl
theorem wa_chn {o o2 : CO} {a b c : E} : wp (arg (.chn o o2 a b c) r env) P = wp (r env) fun d e => P (.val d) e := wp_aval rfl
theorem wa_and_ {es : Es} : wp (arg (.and_ es) r env) P = wp (r env) fun d e => P (.val d) e := wp_aval rfl
theorem wa_or_ {es : Es} : wp (arg (.or_ es) r env) P = wp (r env) fun d e => P (.val d) e := wp_aval rfl
theorem wa_not_ {a : E} : wp (arg (.not_ a) r env) P = wp (r env) fun d e => P (.val d) e := wp_aval rfl
theorem wa_ite {a b c : E} : wp (arg (.ite a b c) r env) P = wp (r env) fun d e => P (.val d) e := wp_aval rfl
theorem wa_tup {es : Es} : wp (arg (.tup es) r env) P = wp (r env) fun d e => P (.val d) e := wp_aval rfl
theorem wa_lst {es : Es} : wp (arg (.lst es) r env) P = wp (r env) fun d e => P (.val d) e := wp_aval rfl
theorem wa_dct {es : Es} : wp (arg (.dct es) r env) P = wp (r env) fun d e => P (.val d) e := wp_aval rfl
theorem wa_tdc {a b : E} : wp (arg (.tdc a b) r env) P = wp (r env) fun d e => P (.val d) e := wp_aval rfl
theorem wa_idx {a b : E} : wp (arg (.idx a b) r env) P = wp (r env) fun d e => P (.val d) e := wp_aval rfl
theorem wa_slc {a b c : E} : wp (arg (.slc a b c) r env) P = wp (r env) fun d e => P (.val d) e := wp_aval rfl
theorem wa_call {i : Nat} {es : Es} : wp (arg (.call i es) r env) P = wp (r env) fun d e => P (.val d) e := wp_aval rfl
theorem wa_blt {m : BF} {es : Es} : wp (arg (.blt m es) r env) P = wp (r env) fun d e => P (.val d) e := wp_aval rfl
theorem wa_sp {m : SK} {es : Es} : wp (arg (.sp m es) r env) P = wp (r env) fun d e => P (.val d) e := wp_aval rfl
theorem wa_met {m : MF} {a : E} {es : Es} : wp (arg (.met m a es) r env) P = wp (r env) fun d e => P (.val d) e := wp_aval rfl
theorem wa_lc {i1 i2 : List Nat} {tt : Bool} {it : It} {c a : E} : wp (arg (.lc i1 i2 tt it c a) r env) P = wp (r env) fun d e => P (.val d) e := wp_aval rfl
theorem wa_pth {i k : Nat} : wp (arg (.pth i k) r env) P = wp (r env) fun d e => P (.val d) e := wp_aval rfl
end
section
variable {Q : Nat → List D → R D} {G : Nat → D} {env : Env} {P : D → Env → Prop} {f : MF} {gs : Es}
theorem wm_mv {i : Nat} : wp (eval Q G (.met f (.mv i) gs) env) P = wp (eval Q G (.mv i) env) fun p e1 => (kdo f (some p) && okF p) = true ∧ wp (evalFs Q G gs e1) fun ds e2 => wo (dMet f (frz p) ds) fun r => P r.1 e2 := wp_mval rfl
theorem wm_fz {i : Nat} : wp (eval Q G (.met f (.fz i) gs) env) P = wp (eval Q G (.fz i) env) fun p e1 => (kdo f (some p) && okF p) = true ∧ wp (evalFs Q G gs e1) fun ds e2 => wo (dMet f (frz p) ds) fun r => P r.1 e2 := wp_mval rfl
theorem wm_cst {c : D} : wp (eval Q G (.met f (.cst c) gs) env) P = wp (eval Q G (.cst c) env) fun p e1 => (kdo f (some p) && okF p) = true ∧ wp (evalFs Q G gs e1) fun ds e2 => wo (dMet f (frz p) ds) fun r => P r.1 e2 := wp_mval rfl
theorem wm_glo {i : Nat} : wp (eval Q G (.met f (.glo i) gs) env) P = wp (eval Q G (.glo i) env) fun p e1 => (kdo f (some p) && okF p) = true ∧ wp (evalFs Q G gs e1) fun ds e2 => wo (dMet f (frz p) ds) fun r => P r.1 e2 := wp_mval rfl
theorem wm_bin {o : BO} {a b : E} : wp (eval Q G (.met f (.bin o a b) gs) env) P = wp (eval Q G (.bin o a b) env) fun p e1 => (kdo f (some p) && okF p) = true ∧ wp (evalFs Q G gs e1) fun ds e2 => wo (dMet f (frz p) ds) fun r => P r.1 e2 := wp_mval rfl
theorem wm_neg {a : E} : wp (eval Q G (.met f (.neg a) gs) env) P = wp (eval Q G (.neg a) env) fun p e1 => (kdo f (some p) && okF p) = true ∧ wp (evalFs Q G gs e1) fun ds e2 => wo (dMet f (frz p) ds) fun r => P r.1 e2 := wp_mval rfl
theorem wm_cmp {o : CO} {a b : E} : wp (eval Q G (.met f (.cmp o a b) gs) env) P = wp (eval Q G (.cmp o a b) env) fun p e1 => (kdo f (some p) && okF p) = true ∧ wp (evalFs Q G gs e1) fun ds e2 => wo (dMet f (frz p) ds) fun r => P r.1 e2 := wp_mval rfl
theorem wm_chn {o o2 : CO} {a b c : E} : wp (eval Q G (.met f (.chn o o2 a b c) gs) env) P = wp (eval Q G (.chn o o2 a b c) env) fun p e1 => (kdo f (some p) && okF p) = true ∧ wp (evalFs Q G gs e1) fun ds e2 => wo (dMet f (frz p) ds) fun r => P r.1 e2 := wp_mval rfl
theorem wm_and_ {es : Es} : wp (eval Q G (.met f (.and_ es) gs) env) P = wp (eval Q G (.and_ es) env) fun p e1 => (kdo f (some p) && okF p) = true ∧ wp (evalFs Q G gs e1) fun ds e2 => wo (dMet f (frz p) ds) fun r => P r.1 e2 := wp_mval rfl
theorem wm_or_ {es : Es} : wp (eval Q G (.met f (.or_ es) gs) env) P = wp (eval Q G (.or_ es) env) fun p e1 => (kdo f (some p) && okF p) = true ∧ wp (evalFs Q G gs e1) fun ds e2 => wo (dMet f (frz p) ds) fun r => P r.1 e2 := wp_mval rfl
theorem wm_not_ {a : E} : wp (eval Q G (.met f (.not_ a) gs) env) P = wp (eval Q G (.not_ a) env) fun p e1 => (kdo f (some p) && okF p) = true ∧ wp (evalFs Q G gs e1) fun ds e2 => wo (dMet f (frz p) ds) fun r => P r.1 e2 := wp_mval rfl
theorem wm_ite {a b c : E} : wp (eval Q G (.met f (.ite a b c) gs) env) P = wp (eval Q G (.ite a b c) env) fun p e1 => (kdo f (some p) && okF p) = true ∧ wp (evalFs Q G gs e1) fun ds e2 => wo (dMet f (frz p) ds) fun r => P r.1 e2 := wp_mval rfl
theorem wm_tup {es : Es} : wp (eval Q G (.met f (.tup es) gs) env) P = wp (eval Q G (.tup es) env) fun p e1 => (kdo f (some p) && okF p) = true ∧ wp (evalFs Q G gs e1) fun ds e2 => wo (dMet f (frz p) ds) fun r => P r.1 e2 := wp_mval rfl
theorem wm_lst {es : Es} : wp (eval Q G (.met f (.lst es) gs) env) P = wp (eval Q G (.lst es) env) fun p e1 => (kdo f (some p) && okF p) = true ∧ wp (evalFs Q G gs e1) fun ds e2 => wo (dMet f (frz p) ds) fun r => P r.1 e2 := wp_mval rfl
theorem wm_dct {es : Es} : wp (eval Q G (.met f (.dct es) gs) env) P = wp (eval Q G (.dct es) env) fun p e1 => (kdo f (some p) && okF p) = true ∧ wp (evalFs Q G gs e1) fun ds e2 => wo (dMet f (frz p) ds) fun r => P r.1 e2 := wp_mval rfl
theorem wm_tdc {a b : E} : wp (eval Q G (.met f (.tdc a b) gs) env) P = wp (eval Q G (.tdc a b) env) fun p e1 => (kdo f (some p) && okF p) = true ∧ wp (evalFs Q G gs e1) fun ds e2 => wo (dMet f (frz p) ds) fun r => P r.1 e2 := wp_mval rfl
theorem wm_idx {a b : E} : wp (eval Q G (.met f (.idx a b) gs) env) P = wp (eval Q G (.idx a b) env) fun p e1 => (kdo f (some p) && okF p) = true ∧ wp (evalFs Q G gs e1) fun ds e2 => wo (dMet f (frz p) ds) fun r => P r.1 e2 := wp_mval rfl
theorem wm_slc {a b c : E} : wp (eval Q G (.met f (.slc a b c) gs) env) P = wp (eval Q G (.slc a b c) env) fun p e1 => (kdo f (some p) && okF p) = true ∧ wp (evalFs Q G gs e1) fun ds e2 => wo (dMet f (frz p) ds) fun r => P r.1 e2 := wp_mval rfl
theorem wm_call {i : Nat} {es : Es} : wp (eval Q G (.met f (.call i es) gs) env) P = wp (eval Q G (.call i es) env) fun p e1 => (kdo f (some p) && okF p) = true ∧ wp (evalFs Q G gs e1) fun ds e2 => wo (dMet f (frz p) ds) fun r => P r.1 e2 := wp_mval rfl
theorem wm_blt {m : BF} {es : Es} : wp (eval Q G (.met f (.blt m es) gs) env) P = wp (eval Q G (.blt m es) env) fun p e1 => (kdo f (some p) && okF p) = true ∧ wp (evalFs Q G gs e1) fun ds e2 => wo (dMet f (frz p) ds) fun r => P r.1 e2 := wp_mval rfl
theorem wm_sp {m : SK} {es : Es} : wp (eval Q G (.met f (.sp m es) gs) env) P = wp (eval Q G (.sp m es) env) fun p e1 => (kdo f (some p) && okF p) = true ∧ wp (evalFs Q G gs e1) fun ds e2 => wo (dMet f (frz p) ds) fun r => P r.1 e2 := wp_mval rfl
theorem wm_met {m : MF} {a : E} {es : Es} : wp (eval Q G (.met f (.met m a es) gs) env) P = wp (eval Q G (.met m a es) env) fun p e1 => (kdo f (some p) && okF p) = true ∧ wp (evalFs Q G gs e1) fun ds e2 => wo (dMet f (frz p) ds) fun r => P r.1 e2 := wp_mval rfl
theorem wm_lc {i1 i2 : List Nat} {tt : Bool} {it : It} {c a : E} : wp (eval Q G (.met f (.lc i1 i2 tt it c a) gs) env) P = wp (eval Q G (.lc i1 i2 tt it c a) env) fun p e1 => (kdo f (some p) && okF p) = true ∧ wp (evalFs Q G gs e1) fun ds e2 => wo (dMet f (frz p) ds) fun r => P r.1 e2 := wp_mval rfl
end
/-! ### all of it, as one rule each -/
theorem awO : type_of% @wo_mv ∧ type_of% @wo_fz ∧ type_of% @wo_cst ∧ type_of% @wo_glo ∧ type_of% @wo_bin ∧ type_of% @wo_neg ∧ type_of% @wo_cmp ∧ type_of% @wo_chn ∧ type_of% @wo_and_ ∧ type_of% @wo_or_ ∧ type_of% @wo_not_ ∧ type_of% @wo_ite ∧ type_of% @wo_tup ∧ type_of% @wo_lst ∧ type_of% @wo_dct ∧ type_of% @wo_tdc ∧ type_of% @wo_idx ∧ type_of% @wo_slc ∧ type_of% @wo_call ∧ type_of% @wo_blt ∧ type_of% @wo_sp ∧ type_of% @wa_sp ∧ type_of% @wm_sp ∧ type_of% @wo_met ∧ type_of% @wo_lc ∧ type_of% @wa_mv ∧ type_of% @wa_fz ∧ type_of% @wa_cst ∧ type_of% @wa_glo ∧ type_of% @wa_bin ∧ type_of% @wa_neg ∧ type_of% @wa_cmp ∧ type_of% @wa_chn ∧ type_of% @wa_and_ ∧ type_of% @wa_or_ ∧ type_of% @wa_not_ ∧ type_of% @wa_ite ∧ type_of% @wa_tup ∧ type_of% @wa_lst ∧ type_of% @wa_dct ∧ type_of% @wa_tdc ∧ type_of% @wa_idx ∧ type_of% @wa_slc ∧ type_of% @wa_call ∧ type_of% @wa_blt ∧ type_of% @wa_met ∧ type_of% @wa_lc ∧ type_of% @wa_pth ∧ type_of% @wm_mv ∧ type_of% @wm_fz ∧ type_of% @wm_cst ∧ type_of% @wm_glo ∧ type_of% @wm_bin ∧ type_of% @wm_neg ∧ type_of% @wm_cmp ∧ type_of% @wm_chn ∧ type_of% @wm_and_ ∧ type_of% @wm_or_ ∧ type_of% @wm_not_ ∧ type_of% @wm_ite ∧ type_of% @wm_tup ∧ type_of% @wm_lst ∧ type_of% @wm_dct ∧ type_of% @wm_tdc ∧ type_of% @wm_idx ∧ type_of% @wm_slc ∧ type_of% @wm_call ∧ type_of% @wm_blt ∧ type_of% @wm_met ∧ type_of% @wm_lc := ⟨@wo_mv, @wo_fz, @wo_cst, @wo_glo, @wo_bin, @wo_neg, @wo_cmp, @wo_chn, @wo_and_, @wo_or_, @wo_not_, @wo_ite, @wo_tup, @wo_lst, @wo_dct, @wo_tdc, @wo_idx, @wo_slc, @wo_call, @wo_blt, @wo_sp, @wa_sp, @wm_sp, @wo_met, @wo_lc, @wa_mv, @wa_fz, @wa_cst, @wa_glo, @wa_bin, @wa_neg, @wa_cmp, @wa_chn, @wa_and_, @wa_or_, @wa_not_, @wa_ite, @wa_tup, @wa_lst, @wa_dct, @wa_tdc, @wa_idx, @wa_slc, @wa_call, @wa_blt, @wa_met, @wa_lc, @wa_pth, @wm_mv, @wm_fz, @wm_cst, @wm_glo, @wm_bin, @wm_neg, @wm_cmp, @wm_chn, @wm_and_, @wm_or_, @wm_not_, @wm_ite, @wm_tup, @wm_lst, @wm_dct, @wm_tdc, @wm_idx, @wm_slc, @wm_call, @wm_blt, @wm_met, @wm_lc⟩
theorem awW : type_of% @wp_ok ∧ type_of% @wp_no ∧ type_of% @wp_var ∧ type_of% @wp_fz ∧ type_of% @wp_mv ∧ type_of% @wp_pth ∧ type_of% @wp_cst ∧ type_of% @wp_glo ∧ type_of% @wp_non ∧ type_of% @wp_ovar ∧ type_of% @wp_opth ∧ type_of% @wp_avar ∧ type_of% @wp_bin ∧ type_of% @wp_neg ∧ type_of% @wp_cmp ∧ type_of% @wp_chn ∧ type_of% @wp_not ∧ type_of% @wp_ite ∧ type_of% @wp_tup ∧ type_of% @wp_lst ∧ type_of% @wp_dct ∧ type_of% @wp_tdc ∧ type_of% @wp_idx ∧ type_of% @wp_slc ∧ type_of% @wp_call ∧ type_of% @wp_blt ∧ type_of% @wp_sp ∧ type_of% @wp_mvar ∧ type_of% @wp_mpth ∧ type_of% @wp_lc ∧ type_of% @wp_and1 ∧ type_of% @wp_and2 ∧ type_of% @wp_or1 ∧ type_of% @wp_or2 ∧ type_of% @wp_and ∧ type_of% @wp_or ∧ type_of% @wp_dct0 ∧ type_of% @wp_dct2 ∧ type_of% @wp_vs0 ∧ type_of% @wp_vs1 ∧ type_of% @wp_fs0 ∧ type_of% @wp_fs1 ∧ type_of% @wp_as0 ∧ type_of% @wp_as1 ∧ type_of% @wp_os0 ∧ type_of% @wp_os1 ∧ type_of% @gets_nil ∧ type_of% @gets_cons ∧ type_of% @wp_seq ∧ type_of% @wp_enum ∧ type_of% @wp_zip ∧ type_of% @wn_int ∧ type_of% @wp_rng1 ∧ type_of% @wp_rng2 ∧ type_of% @cn_ret ∧ type_of% @cn_brk ∧ type_of% @cn_cnt ∧ type_of% @wp_asg ∧ type_of% @wp_stk ∧ type_of% @wp_exp ∧ type_of% @wp_iff ∧ type_of% @wp_for ∧ type_of% @wp_whl ∧ type_of% @wp_ret ∧ type_of% @wp_retN ∧ type_of% @wp_brk ∧ type_of% @wp_cnt ∧ type_of% @wp_pss ∧ type_of% @wp_bad ∧ type_of% @wp_rse ∧ type_of% @wp_par ∧ type_of% @fin_ret ∧ type_of% @fin_next ∧ type_of% @get_val ∧ type_of% @get_ref ∧ type_of% @get_refp ∧ type_of% @wo_some ∧ type_of% @wo_none ∧ type_of% @wb_bl ∧ type_of% @wi_true ∧ type_of% @wi_false ∧ type_of% @wi_dec ∧ type_of% @wi_not := ⟨@wp_ok, @wp_no, @wp_var, @wp_fz, @wp_mv, @wp_pth, @wp_cst, @wp_glo, @wp_non, @wp_ovar, @wp_opth, @wp_avar, @wp_bin, @wp_neg, @wp_cmp, @wp_chn, @wp_not, @wp_ite, @wp_tup, @wp_lst, @wp_dct, @wp_tdc, @wp_idx, @wp_slc, @wp_call, @wp_blt, @wp_sp, @wp_mvar, @wp_mpth, @wp_lc, @wp_and1, @wp_and2, @wp_or1, @wp_or2, @wp_and, @wp_or, @wp_dct0, @wp_dct2, @wp_vs0, @wp_vs1, @wp_fs0, @wp_fs1, @wp_as0, @wp_as1, @wp_os0, @wp_os1, @gets_nil, @gets_cons, @wp_seq, @wp_enum, @wp_zip, @wn_int, @wp_rng1, @wp_rng2, @cn_ret, @cn_brk, @cn_cnt, @wp_asg, @wp_stk, @wp_exp, @wp_iff, @wp_for, @wp_whl, @wp_ret, @wp_retN, @wp_brk, @wp_cnt, @wp_pss, @wp_bad, @wp_rse, @wp_par, @fin_ret, @fin_next, @get_val, @get_ref, @get_refp, @wo_some, @wo_none, @wb_bl, @wi_true, @wi_false, @wi_dec, @wi_not⟩
theorem awV : type_of% @v_lenP ∧ type_of% @v_listP ∧ type_of% @v_boolB ∧ type_of% @v_boolI ∧ type_of% @v_edt ∧ type_of% @v_rev ∧ type_of% @v_sumv ∧ type_of% @items_p ∧ type_of% @v_lrng1 ∧ type_of% @v_lrng2 ∧ type_of% @v_lrng ∧ type_of% @sp_sp ∧ type_of% @v_getP1 ∧ type_of% @v_getP2 ∧ type_of% @v_addI ∧ type_of% @v_subI ∧ type_of% @v_mulI ∧ type_of% @v_fdivI ∧ type_of% @v_modI ∧ type_of% @v_powI ∧ type_of% @v_shlI ∧ type_of% @v_bandI ∧ type_of% @v_borI ∧ type_of% @v_bxorI ∧ type_of% @v_addS ∧ type_of% @v_addL ∧ type_of% @v_addT ∧ type_of% @v_neg ∧ type_of% @v_idxL ∧ type_of% @v_idxT ∧ type_of% @v_idxD ∧ type_of% @v_idxS ∧ type_of% @v_ltI ∧ type_of% @v_leI ∧ type_of% @v_gtI ∧ type_of% @v_geI ∧ type_of% @v_ne ∧ type_of% @v_notN ∧ type_of% @v_nin ∧ type_of% @v_eqI ∧ type_of% @v_isNon ∧ type_of% @v_isBl ∧ type_of% @v_eqN ∧ type_of% @v_inDs ∧ type_of% @v_inDi ∧ type_of% @v_inP ∧ type_of% @v_inT ∧ type_of% @v_inL ∧ type_of% @v_lenL ∧ type_of% @v_lenT ∧ type_of% @v_lenD ∧ type_of% @v_lenS ∧ type_of% @v_abs ∧ type_of% @v_intI ∧ type_of% @v_intB ∧ type_of% @v_listL ∧ type_of% @v_listT ∧ type_of% @v_listD ∧ type_of% @v_tupL ∧ type_of% @v_tupT ∧ type_of% @v_sum ∧ type_of% @v_all ∧ type_of% @v_any ∧ type_of% @v_str ∧ type_of% @v_repr ∧ type_of% @v_max2 ∧ type_of% @v_min2 ∧ type_of% @v_isInt ∧ type_of% @v_isBool ∧ type_of% @v_isStr ∧ type_of% @v_isTup ∧ type_of% @v_isLst ∧ type_of% @v_append ∧ type_of% @v_pop0 ∧ type_of% @v_pop1 ∧ type_of% @v_clear ∧ type_of% @v_get2 ∧ type_of% @v_setL ∧ type_of% @v_setDs ∧ type_of% @v_setDi ∧ type_of% @v_setP ∧ type_of% @v_idxP ∧ type_of% @ixN_0 ∧ type_of% @ixN_1 ∧ type_of% @ixN_2 ∧ type_of% @kdo_append ∧ type_of% @kdo_pop0 ∧ type_of% @kdo_pop1 ∧ type_of% @kdo_clear ∧ type_of% @kdo_get1 ∧ type_of% @kdo_get2 ∧ type_of% @part_l ∧ type_of% @bind_1 ∧ type_of% @bind_t ∧ type_of% @bind_l ∧ type_of% @sa_nil ∧ type_of% @sa_cons ∧ type_of% @ownAt_some ∧ type_of% @ap_nil ∧ type_of% @ap_val ∧ type_of% @ap_ref ∧ type_of% @hr_nil ∧ type_of% @hr_val ∧ type_of% @hr_ref ∧ type_of% @pb_nil ∧ type_of% @pb_ref ∧ type_of% @pb_val ∧ type_of% @okF_int ∧ type_of% @okF_bl ∧ type_of% @okF_str ∧ type_of% @okF_non ∧ type_of% @okF_tup ∧ type_of% @okF_lst ∧ type_of% @okF_dic ∧ type_of% @okFs_nil ∧ type_of% @okFs_cons ∧ type_of% @nO_int ∧ type_of% @nO_bl ∧ type_of% @nO_str ∧ type_of% @nO_non ∧ type_of% @nO_tup ∧ type_of% @nO_lst ∧ type_of% @nO_dic ∧ type_of% @nOs_nil ∧ type_of% @nOs_cons ∧ type_of% @fz_int ∧ type_of% @fz_bl ∧ type_of% @fz_str ∧ type_of% @fz_non ∧ type_of% @fz_tup ∧ type_of% @fz_lst ∧ type_of% @fz_dic ∧ type_of% @fzs_nil ∧ type_of% @fzs_cons ∧ type_of% @nOs_append ∧ type_of% @okFs_append ∧ type_of% @fzs_append ∧ type_of% @backV_none ∧ type_of% @backV_some ∧ type_of% @bk_E0 ∧ type_of% @bk_E1 ∧ type_of% @wp_E1 ∧ type_of% @items_l ∧ type_of% @items_t ∧ type_of% @items_s ∧ type_of% @seq_l ∧ type_of% @seq_t ∧ type_of% @sp_non ∧ type_of% @sp_cst ∧ type_of% @sp_var ∧ type_of% @sp_bin ∧ type_of% @sp_blt ∧ type_of% @sp_neg ∧ type_of% @v_cutL ∧ type_of% @v_cutT ∧ type_of% @v_cutS ∧ type_of% @cut_1 ∧ type_of% @opChk_ref ∧ type_of% @opChk_val ∧ type_of% @opChk_refp ∧ type_of% @gt_zero ∧ type_of% @gt_succ ∧ type_of% @v_extend ∧ type_of% @v_join ∧ type_of% @v_index ∧ type_of% @v_count ∧ type_of% @v_mulL ∧ type_of% @v_max1 ∧ type_of% @v_min1 ∧ type_of% @kdo_extend ∧ type_of% @kdo_join ∧ type_of% @kdo_index ∧ type_of% @kdo_count := ⟨@v_lenP, @v_listP, @v_boolB, @v_boolI, @v_edt, @v_rev, @v_sumv, @items_p, @v_lrng1, @v_lrng2, @v_lrng, @sp_sp, @v_getP1, @v_getP2, @v_addI, @v_subI, @v_mulI, @v_fdivI, @v_modI, @v_powI, @v_shlI, @v_bandI, @v_borI, @v_bxorI, @v_addS, @v_addL, @v_addT, @v_neg, @v_idxL, @v_idxT, @v_idxD, @v_idxS, @v_ltI, @v_leI, @v_gtI, @v_geI, @v_ne, @v_notN, @v_nin, @v_eqI, @v_isNon, @v_isBl, @v_eqN, @v_inDs, @v_inDi, @v_inP, @v_inT, @v_inL, @v_lenL, @v_lenT, @v_lenD, @v_lenS, @v_abs, @v_intI, @v_intB, @v_listL, @v_listT, @v_listD, @v_tupL, @v_tupT, @v_sum, @v_all, @v_any, @v_str, @v_repr, @v_max2, @v_min2, @v_isInt, @v_isBool, @v_isStr, @v_isTup, @v_isLst, @v_append, @v_pop0, @v_pop1, @v_clear, @v_get2, @v_setL, @v_setDs, @v_setDi, @v_setP, @v_idxP, @ixN_0, @ixN_1, @ixN_2, @kdo_append, @kdo_pop0, @kdo_pop1, @kdo_clear, @kdo_get1, @kdo_get2, @part_l, @bind_1, @bind_t, @bind_l, @sa_nil, @sa_cons, @ownAt_some, @ap_nil, @ap_val, @ap_ref, @hr_nil, @hr_val, @hr_ref, @pb_nil, @pb_ref, @pb_val, @okF_int, @okF_bl, @okF_str, @okF_non, @okF_tup, @okF_lst, @okF_dic, @okFs_nil, @okFs_cons, @nO_int, @nO_bl, @nO_str, @nO_non, @nO_tup, @nO_lst, @nO_dic, @nOs_nil, @nOs_cons, @fz_int, @fz_bl, @fz_str, @fz_non, @fz_tup, @fz_lst, @fz_dic, @fzs_nil, @fzs_cons, @nOs_append, @okFs_append, @fzs_append, @backV_none, @backV_some, @bk_E0, @bk_E1, @wp_E1, @items_l, @items_t, @items_s, @seq_l, @seq_t, @sp_non, @sp_cst, @sp_var, @sp_bin, @sp_blt, @sp_neg, @v_cutL, @v_cutT, @v_cutS, @cut_1, @opChk_ref, @opChk_val, @opChk_refp, @gt_zero, @gt_succ, @v_extend, @v_join, @v_index, @v_count, @v_mulL, @v_max1, @v_min1, @kdo_extend, @kdo_join, @kdo_index, @kdo_count⟩
end AW

/-! AWHook: what is looked at in the module, once it is laid: the errors' classes, its constants. -/
namespace AW
open PySem L2 PyProof.Rows He
section
variable {K : PySem.W.Frag} {h : Heap} {mg : Str → Option Value}
def oneB (K : PySem.W.Frag) (C : Addr) : Bool :=
  (PySem.W.excIn K C veBase "ValueError.__new__" && (PySem.W.keepIn K (.ref C) && (decide (PySem.W.subIn K (.ref C) (.type "BaseException") = some true) && decide (PySem.W.typeIn K (.ref C) = some (.type "type"))))) &&
  ((decide (PySem.W.findIn K (.ref C) "__getattribute__" = some (some (.builtin "BaseException.__getattribute__"))) && (decide (PySem.W.findIn K (.ref C) "__getattr__" = some none) && (PySem.W.hasDictIn K C && decide (PySem.W.findIn K (.ref C) "__class__" = some (some (.builtin "object.__class__")))))) &&
  (decide (PySem.W.specialIn K (.builtin "object.__class__") "__get__" = some (some (.builtin "getset_descriptor.__get__"))) && (decide (PySem.W.takesIn K (.builtin "object.__class__") = some true) && decide (PySem.W.mroIn K C (.type "object") = some true))))
theorem oneB_ok {C : Addr} (e : oneB K C = true) : EX1 K C := by
  obtain ⟨a, e⟩ := ba e
  obtain ⟨b, c⟩ := ba e
  obtain ⟨a1, a⟩ := ba a
  obtain ⟨a2, a⟩ := ba a
  obtain ⟨a3, a4⟩ := ba a
  obtain ⟨b1, b⟩ := ba b
  obtain ⟨b2, b⟩ := ba b
  obtain ⟨b3, b4⟩ := ba b
  obtain ⟨c1, c⟩ := ba c
  obtain ⟨c2, c3⟩ := ba c
  exact ⟨a1, a2, of_decide_eq_true a3, of_decide_eq_true a4, ⟨of_decide_eq_true b1, of_decide_eq_true b2, of_decide_eq_true a3, b3, of_decide_eq_true b4, of_decide_eq_true c1, of_decide_eq_true c2, of_decide_eq_true c3⟩⟩
def hasB (K : PySem.W.Frag) (c : Nat) : Bool := decide (PySem.W.nsIn K mainGlobals (exN c) = some (some (.ref (exA K c))))
def kitQ (K : PySem.W.Frag) (t u : Value) (b : Bool) : Bool := decide (PySem.W.kitOne K t u = some b)
/-- the module's classes are just these -/
def exB (K : PySem.W.Frag) (ns : List Nat) : Bool :=
  (kitQ K (.type "NoneType") (.type "ValueError") false) && (List.range 8).all fun c => match ns.contains c with
    | false => decide (PySem.W.nsIn K mainGlobals (exN c) = some none)
    | true => (hasB K c && (oneB K (exA K c) && decide (PySem.W.exmOne K (.ref (exA K c)) (.ref (exA K 0)) = some true))) && ((kitQ K (.type "NoneType") (.ref (exA K c)) false && kitQ K (.ref (exA K c)) (.type "ValueError") true) && ns.all fun d => kitQ K (.ref (exA K c)) (.ref (exA K d)) (isSub c d))
theorem exB_at {ns : List Nat} (e : exB K ns = true) {c : Nat} (h8 : c < 8) (kn : KN K c) : c ∈ ns ∧ EX1 K (exA K c) ∧ PySem.W.exmOne K (.ref (exA K c)) (.ref (exA K 0)) = some true ∧ PySem.W.kitOne K (.type "NoneType") (.ref (exA K c)) = some false ∧ PySem.W.kitOne K (.ref (exA K c)) (.type "ValueError") = some true ∧ ∀ d ∈ ns, PySem.W.kitOne K (.ref (exA K c)) (.ref (exA K d)) = some (isSub c d) := by
  have z := List.all_eq_true.mp (ba e).2 c (List.mem_range.mpr h8)
  cases hc : ns.contains c with
  | false =>
    rw [hc] at z
    have z := of_decide_eq_true z
    rcases kn with ⟨_, k⟩ | k
    · rw [z] at k
      cases k
    · omega
  | true =>
    rw [hc] at z
    obtain ⟨a, b⟩ := ba z
    obtain ⟨a1, a⟩ := ba a
    obtain ⟨a2, a3⟩ := ba a
    obtain ⟨b, b3⟩ := ba b
    obtain ⟨b1, b2⟩ := ba b
    exact ⟨by simpa using hc, oneB_ok a2, of_decide_eq_true a3, of_decide_eq_true b1, of_decide_eq_true b2, fun d hd => of_decide_eq_true (List.all_eq_true.mp b3 d hd)⟩
theorem exB_has {ns : List Nat} (e : exB K ns = true) {c : Nat} (h8 : c < 8) (hc : ns.contains c = true) : KN K c := by
  have z := List.all_eq_true.mp (ba e).2 c (List.mem_range.mpr h8)
  rw [hc] at z
  exact .inl ⟨h8, of_decide_eq_true (ba (ba z).1).1⟩
theorem exB_ok {ns : List Nat} (e : exB K ns = true) : EX K where
  one := fun c h8 kn => (exB_at e h8 kn).2.1
  two := fun c d h8 kn kd => by
    obtain ⟨_, _, _, _, h4, h5⟩ := exB_at e h8 kn
    rcases kd with ⟨d8, k⟩ | rfl
    · unfold clsU
      rw [if_pos d8]
      exact h5 d (exB_at e d8 (.inl ⟨d8, k⟩)).1
    · unfold clsU
      rw [if_neg (by decide), h4]
      unfold isSub
      simp
  non := fun d kd => by
    rcases kd with ⟨d8, k⟩ | rfl
    · unfold clsU
      rw [if_pos d8]
      exact (exB_at e d8 (.inl ⟨d8, k⟩)).2.2.2.1
    · unfold clsU
      rw [if_neg (by decide)]
      exact of_decide_eq_true (ba e).1
  top := fun c h8 kn => (exB_at e h8 kn).2.2.1
theorem gl_cls {ns : List Nat} {c : Nat} (e : exB K ns = true) (h8 : c < 8) (hc : ns.contains c = true) (g : mg (exN c) = some (.ref (He.ga K (exN c)))) : GlOk K mg (exN c) (.fn (2 * c)) := by
  refine ⟨_, clsV K c, .inl g, ?_, rfl, fun F H => ⟨exB_ok e, ?_, fun _ => ?_, fun z => by omega⟩⟩
  · unfold clsV
    rw [if_pos h8]
    rfl
  · rw [show 2 * c / 2 = c by omega]
    exact exB_has e h8 hc
  · rw [show 2 * c / 2 = c by omega]
theorem gl_ve {ns : List Nat} (e : exB K ns = true) (g : mg "ValueError" = none) : GlOk K mg "ValueError" (.fn 16) :=
  ⟨.type "ValueError", .ty "ValueError", .inr ⟨rfl, g, by decide +kernel, by decide⟩, rfl, rfl, fun F H => ⟨exB_ok e, .inr rfl, fun _ => rfl, fun z => by omega⟩⟩
end
/-! ### constants of any depth -/
section
variable {K : PySem.W.Frag} {h : Heap} {mg : Str → Option Value}
mutual
def vB (K : PySem.W.Frag) : D → Value → Bool
  | .int i, .int j _ => decide (i = j)
  | .bl b, .bool c => b == c
  | .str s, .str y _ => decide (tx s = y)
  | .tup ds, .ref p => (match K.lookup p with
    | some ⟨.type c, _, .seq its _, _⟩ => decide (c = "tuple") && (decide (its.size ≤ sizeLine) && vsB K ds its.toList)
    | _ => false)
  | .lst false ds, .ref p => (match K.lookup p with
    | some ⟨.type c, none, .seq its _, _⟩ => decide (c = "list") && (decide (its.size ≤ sizeLine) && vsB K ds its.toList)
    | _ => false)
  | _, _ => false
def vsB (K : PySem.W.Frag) : List D → List Value → Bool
  | [], [] => true
  | d :: ds, u :: us => vB K d u && vsB K ds us
  | _, _ => false
end
mutual
theorem vB_ok : ∀ (d : D) (u : Value), vB K d u = true → ∃ v, L2.RelV v u ∧ noOwn d = true ∧ ∀ F H, Rp K F H d v No
  | .int i, .int j t, e => ⟨.int i, ⟨t, by rw [of_decide_eq_true (show decide (i = j) = true from e)]⟩, rfl, fun _ _ => rfl⟩
  | .bl b, .bool c, e => by
    have e : b = c := by simpa using (show (b == c) = true from e)
    subst e
    exact ⟨.bl b, rfl, rfl, fun _ _ => rfl⟩
  | .str s, .str y t, e => ⟨.str (tx s), ⟨t, by rw [of_decide_eq_true (show decide (tx s = y) = true from e)]⟩, rfl, fun _ _ => rfl⟩
  | .tup ds, .ref p, e => by
    have e : (match K.lookup p with
      | some ⟨.type c, _, .seq its _, _⟩ => decide (c = "tuple") && (decide (its.size ≤ sizeLine) && vsB K ds its.toList)
      | _ => false) = true := by
      unfold vB at e
      exact e
    cases q : K.lookup p with
    | none =>
      rw [q] at e
      cases e
    | some o =>
      obtain ⟨oc, od, dt, osl⟩ := o
      rw [q] at e
      cases oc with
      | type c =>
        cases dt with
        | seq its n =>
          obtain ⟨h1, h2⟩ := ba (show (decide (c = "tuple") && (decide (its.size ≤ sizeLine) && vsB K ds its.toList)) = true from e)
          obtain ⟨h3, h4⟩ := ba h2
          obtain ⟨vs, r, no, rp⟩ := vsB_ok ds its.toList h4
          exact ⟨.ref p, rfl, no, fun F H => ⟨p, vs, rfl, .inr ⟨_, its, n, q, congrArg Value.type (of_decide_eq_true h1), rfl, of_decide_eq_true h3, r⟩, rp F H⟩⟩
        | _ => cases e
      | _ => cases dt <;> cases e
  | .lst false ds, .ref p, e => by
    have e : (match K.lookup p with
      | some ⟨.type c, none, .seq its _, _⟩ => decide (c = "list") && (decide (its.size ≤ sizeLine) && vsB K ds its.toList)
      | _ => false) = true := by
      unfold vB at e
      exact e
    cases q : K.lookup p with
    | none =>
      rw [q] at e
      cases e
    | some o =>
      obtain ⟨oc, od, dt, osl⟩ := o
      rw [q] at e
      cases oc with
      | type c =>
        cases od with
        | none =>
          cases dt with
          | seq its n =>
            obtain ⟨h1, h2⟩ := ba (show (decide (c = "list") && (decide (its.size ≤ sizeLine) && vsB K ds its.toList)) = true from e)
            obtain ⟨h3, h4⟩ := ba h2
            obtain ⟨vs, r, no, rp⟩ := vsB_ok ds its.toList h4
            refine ⟨.ref p, rfl, no, fun F H => ⟨p, vs, rfl, ?_, RpL.mono (Ex.refl F) (Tu.refl H) _ _ No _ (fun _ z => z.elim) (fun _ _ z => z.elim) (rp F H)⟩⟩
            rw [if_neg (by decide)]
            exact .inr ⟨_, its, n, q, congrArg Value.type (of_decide_eq_true h1), rfl, rfl, of_decide_eq_true h3, r⟩
          | _ => cases e
        | some a => cases dt <;> cases e
      | _ => cases od <;> cases dt <;> cases e
  | .non, u, e => by unfold vB at e; cases e
  | .lst true ds, u, e => by unfold vB at e; cases e
  | .dic _ _ _, u, e => by unfold vB at e; cases e
  | .dtp _ _ _, u, e => by unfold vB at e; cases e
  | .ins _ _, u, e => by unfold vB at e; cases e
  | .fn _, u, e => by unfold vB at e; cases e
  | .int i, .none, e => by unfold vB at e; cases e
  | .int i, .bool _, e => by unfold vB at e; cases e
  | .int i, .str _ _, e => by unfold vB at e; cases e
  | .int i, .bytes _ _, e => by unfold vB at e; cases e
  | .int i, .float _ _, e => by unfold vB at e; cases e
  | .int i, .ref _, e => by unfold vB at e; cases e
  | .int i, .type _, e => by unfold vB at e; cases e
  | .int i, .builtin _, e => by unfold vB at e; cases e
theorem vsB_ok : ∀ (ds : List D) (us : List Value), vsB K ds us = true → ∃ vs, Vals vs us ∧ noOwns ds = true ∧ ∀ F H, RpL K F H ds vs No
  | [], [], _ => ⟨[], .nil, rfl, fun _ _ => rfl⟩
  | [], _ :: _, e => by unfold vsB at e; cases e
  | _ :: _, [], e => by unfold vsB at e; cases e
  | d :: ds, u :: us, e => by
    unfold vsB at e
    obtain ⟨e1, e2⟩ := ba e
    obtain ⟨v, r, n, rp⟩ := vB_ok d u e1
    obtain ⟨vs, r2, n2, rp2⟩ := vsB_ok ds us e2
    exact ⟨v :: vs, .cons r r2, by
      show (noOwn d && noOwns ds) = true
      rw [n, n2]
      rfl, fun F H => ⟨v, vs, No, No, rfl, fun _ q => q, fun _ q => q, fun _ q => q.elim, rp F H, rp2 F H⟩⟩
end
def cstB (K : PySem.W.Frag) (x : Str) (d : D) : Bool := match PySem.W.nsIn K mainGlobals x with
  | some (some u) => vB K d u
  | _ => false
theorem gl_cst (X : K.In h) (G : h.Ns mainGlobals mg) {x : Str} {d : D} (e : cstB K x d = true) : GlOk K mg x d := by
  unfold cstB at e
  cases q : PySem.W.nsIn K mainGlobals x with
  | none =>
    rw [q] at e
    cases e
  | some o =>
    rw [q] at e
    cases o with
    | none => cases e
    | some u =>
      obtain ⟨v, r, n, rp⟩ := vB_ok d u e
      exact ⟨u, v, .inl (PySem.W.mg_of X G q), r, n, rp⟩
end
/-! ### the Hook -/
abbrev AlX : Type := AlD × Bool
def obsX (fa : List Fa) (fn : List DefD) (xs : PySem.W.Frag → Bool) (K : PySem.W.Frag) : AlX := (obsD fa fn K, xs K)
def valX (fn : List DefD) : AlX := (valD fn, true)
def obsXG (n : Nat) (fa : List Fa) (fn : List DefD) (xs : PySem.W.Frag → Bool) (g : Addr → Option Obj) : AlX := obsX fa fn xs (frG g (asD g n))
def SaysX (fa : List Fa) (fn : List DefD) (xs : PySem.W.Frag → Bool) (K : PySem.W.Frag) : Prop := obsX fa fn xs K = valX fn
def hookX (n : Nat) (fa : List Fa) (fn : List DefD) (xs : PySem.W.Frag → Bool) : PySem.W.Hook where
  α := AlX
  obs := fun s => obsXG n fa fn xs s.heap.get?
  val := fun _ => valX fn
  says := fun _ h => ∃ K : PySem.W.Frag, K.In h ∧ SaysX fa fn xs K
  of := fun _ _ e => ⟨_, frG_in, e⟩
  keeps := fun _ _ _ ⟨K, hK, c⟩ k => ⟨K, PySem.W.Frag.In.keeps hK k, c⟩
theorem obsXG_eq {n : Nat} {fa : List Fa} {fn : List DefD} {xs : PySem.W.Frag → Bool} {g : Addr → Option Obj} {s : Shared} (h : ∀ a, g a = s.heap.get? a) : obsXG n fa fn xs g = (hookX n fa fn xs).obs s := by
  have e : g = s.heap.get? := funext h
  rw [e] <;> rfl
section
variable {fa : List Fa} {fn : List DefD} {xs : PySem.W.Frag → Bool} {K : PySem.W.Frag}
theorem SaysX.d (c : SaysX fa fn xs K) : SaysD fa fn K := congrArg (fun z : AlX => z.1) c
theorem SaysX.x (c : SaysX fa fn xs K) : xs K = true := congrArg (fun z : AlX => z.2) c
end
end AW

/-! AWWx: a term that lets an error out; a term that catches one. -/
namespace AW
open PySem
section
variable {α β : Type} {Q : Nat → List D → R D} {G : Nat → D} {fu : Nat} {env : Env} {c : Nat} {X : Env → Prop}
def wx {α : Type} (r : R α) (c : Nat) (X : Env → Prop) : Prop := ∃ e, r = .exc c e ∧ X e
theorem wp_ok_of {r : R α} {P : α → Env → Prop} (h : wp r P) : ∃ a e, r = .ok a e ∧ P a e := by
  rw [wp_d] at h
  cases r with
  | ok a e => exact ⟨a, e, rfl, h⟩
  | exc c e => exact h.elim
  | no => exact h.elim
theorem wx_bind {r : R α} {f : α → Env → R β} (h : wx r c X) : wx (r.bind f) c X := by
  obtain ⟨e, rfl, h⟩ := h
  exact ⟨e, rfl, h⟩
theorem wx_bind2 {r : R α} {f : α → Env → R β} (h : wp r fun a e => wx (f a e) c X) : wx (r.bind f) c X := by
  obtain ⟨a, e, e1, h2⟩ := wp_ok_of h
  rw [e1]
  exact h2
theorem wx_head {s : S} {ss : List S} (h : wx (exec Q G fu s env) c X) : wx (execs Q G fu (s :: ss) env) c X := by
  rw [execs]
  exact wx_bind h
theorem wx_tail {s : S} {ss : List S} (h : wp (exec Q G fu s env) fun f e => f = .next ∧ wx (execs Q G fu ss e) c X) : wx (execs Q G fu (s :: ss) env) c X := by
  rw [execs]
  refine wx_bind2 (wp_mono h ?_)
  rintro f e ⟨rfl, h⟩
  exact h
theorem wx_exp {e : E} (h : wx (eval Q G e env) c X) : wx (exec Q G fu (.exp e) env) c X := by
  rw [exec]
  exact wx_bind h
theorem wx_asg {t : List Nat} {tt : Bool} {e : E} (h : wx (eval Q G e env) c X) : wx (exec Q G fu (.asg t tt e) env) c X := by
  rw [exec]
  exact wx_bind h
theorem wx_ret {e : E} (h : wx (eval Q G e env) c X) : wx (exec Q G fu (.ret e) env) c X := by
  rw [exec]
  exact wx_bind h
theorem wx_iff {t : E} {a b : List S} (h : wp (eval Q G t env) fun d e => (d = .bl true ∧ wx (execs Q G fu a e) c X) ∨ (d = .bl false ∧ wx (execs Q G fu b e) c X)) : wx (exec Q G fu (.iff t a b) env) c X := by
  rw [exec]
  refine wx_bind2 (wp_mono h ?_)
  rintro d e (⟨rfl, h⟩ | ⟨rfl, h⟩)
  · exact h
  · exact h
theorem wx_rse {g : Nat} (hG : G g = .fn (2 * c)) (h8 : c < 8) (h : X env) : wx (exec Q G fu (.rse g) env) c X := by
  refine ⟨env, ?_, h⟩
  rw [exec, hG]
  show (if (2 * c) % 2 = 0 ∧ 2 * c / 2 < 8 then (R.exc (2 * c / 2) env : R Fl) else .no) = _
  rw [if_pos ⟨by omega, by omega⟩, show 2 * c / 2 = c by omega]
theorem wx_call {f : Nat} {es : Es} (h : wp (evalArgs Q G es env) fun os e1 => apart os e1 = true ∧ wo (gets e1 os) fun ds => wx (Q f ds) c fun outs => X (putBack os outs e1)) : wx (eval Q G (.call f es) env) c X := by
  rw [eval]
  refine wx_bind2 (wp_mono h ?_)
  rintro os e1 ⟨ha, h⟩
  rw [if_pos ha]
  cases hg : gets e1 os with
  | none =>
    rw [hg] at h
    exact h.elim
  | some ds =>
    rw [hg] at h
    obtain ⟨outs, e, h⟩ := (show wx (Q f ds) c fun outs => X (putBack os outs e1) from h)
    refine ⟨putBack os outs e1, ?_, h⟩
    show (match Q f ds with | .ok d outs => R.ok d (putBack os outs e1) | .exc c outs => .exc c (putBack os outs e1) | .no => .no) = _
    rw [e]
theorem wx_run {ns np : Nat} {body : List S} {ds : List D} (hl : ds.length = np) (h : wx (execs Q G fu body (ds.map some ++ List.replicate (ns - np) none)) c fun e => X (outF (asgSs body) ds e)) : wx (runF Q G fu ns np body ds) c X := by
  obtain ⟨e, h1, h2⟩ := h
  unfold runF
  rw [if_pos hl, h1]
  exact ⟨_, rfl, h2⟩
/-- a try whose body lets nothing out -/
theorem wp_try_ok {b : List S} {g n i : Nat} {P : Fl → Env → Prop} (h : wp (execs Q G fu b env) P) : wp (exec Q G fu (.tr b g n i) env) P := by
  obtain ⟨f, e, h1, h2⟩ := wp_ok_of h
  have z : exec Q G fu (.tr b g n i) env = .ok f e := by
    rw [exec, h1]
    rfl
  rw [z, wp_ok]
  exact h2
/-- a try whose body lets an error out -/
theorem wp_try_exc {b : List S} {g n i : Nat} {P : Fl → Env → Prop} (hG : G g = .fn 0) (h8 : c < 8) (h : wx (execs Q G fu b env) c fun e => i < e.length ∧ n < e.length ∧ P .next ((e.set i (some (.fn (2 * c + 1)))).set n none)) : wp (exec Q G fu (.tr b g n i) env) P := by
  obtain ⟨e, h1, hi, hn, h2⟩ := h
  have z : exec Q G fu (.tr b g n i) env = .ok .next ((e.set i (some (.fn (2 * c + 1)))).set n none) := by
    rw [exec, h1, hG]
    exact if_pos ⟨rfl, h8, hi, hn⟩
  rw [z, wp_ok]
  exact h2
theorem v_isX {x d : D} {P : D → Prop} : wo (dBlt .isX [x, d]) P = wo (dIsX x d) P := rfl
end
end AW

/-! Base: what every def's text leans on. -/
namespace AW
open PySem
/-! ### bounds -/
theorem powOk_of {i j : Int} (n : Nat) (h : i.natAbs < 2 ^ n) (h0 : 0 ≤ j) (hj : (n : Int) * j ≤ 2 ^ 27) : powOk i j = true := by
  have b : (Builtin.Int.intBits i : Int) ≤ (n : Int) := by exact_mod_cast PyProof.Rows.intBits_le h
  exact decide_eq_true ⟨h0, Int.le_trans (Int.mul_le_mul_of_nonneg_right b h0) hj⟩
theorem mulOk_l {i j : Int} (h : -(2 ^ 64) < i) (h2 : i < 2 ^ 64) : mulOk i j = true := decide_eq_true (.inl ⟨h, h2⟩)
theorem mulOk_r {i j : Int} (h : -(2 ^ 64) < j) (h2 : j < 2 ^ 64) : mulOk i j = true := decide_eq_true (.inr ⟨h, h2⟩)
theorem divOk_of {j : Int} (h : 0 < j) (h2 : j < 2 ^ 64) : divOk j = true := by
  refine decide_eq_true ⟨h, ?_⟩
  have e : j.natAbs < 2 ^ 64 := by omega
  have e2 : j.natAbs ≠ 0 := by omega
  have z := (Nat.log2_lt e2).mpr e
  omega
theorem shlOk_of {i j : Int} (h : 0 ≤ j) (h2 : j ≤ 1000000) (h3 : i.natAbs < 2 ^ 64) : shlOk i j = true := decide_eq_true ⟨h, h2, h3⟩
theorem mod_in {a m : Int} (h : 0 < m) : 0 ≤ a % m ∧ a % m < m := ⟨Int.emod_nonneg _ (by omega), Int.emod_lt_of_pos _ h⟩
/-! ### shapes -/
theorem isPs_map {α : Type} {f : α → D} {xs : List α} (h : ∀ a ∈ xs, isP (f a) = true) : isPs (xs.map f) = true := by
  induction xs with
  | nil => rfl
  | cons a r ih =>
    rw [List.map_cons]
    show (isP (f a) && isPs (r.map f)) = true
    rw [h a (List.mem_cons_self ..), ih fun d hd => h d (List.mem_cons_of_mem _ hd)]
    rfl
theorem toPs_map : ∀ ds : List D, toPs ds = ds.map toP
  | [] => rfl
  | d :: ds => by
    show toP d :: toPs ds = _
    rw [toPs_map ds]
    rfl
theorem canLay_all {xs : List PyData} (h : ∀ x ∈ xs, x.canLay0 = true) : PyData.canLayAll0 xs = true := by
  induction xs with
  | nil => rfl
  | cons a r ih =>
    show (a.canLay0 && PyData.canLayAll0 r) = true
    rw [h a (List.mem_cons_self ..), ih fun d hd => h d (List.mem_cons_of_mem _ hd)]
    rfl
theorem depth_all {n : Nat} {xs : List PyData} (h : ∀ x ∈ xs, x.depth ≤ n) : PyData.depthAll xs ≤ n := by
  induction xs with
  | nil => exact Nat.zero_le _
  | cons a r ih =>
    show max a.depth (PyData.depthAll r) ≤ n
    have h1 := h a (List.mem_cons_self ..)
    have h2 := ih fun d hd => h d (List.mem_cons_of_mem _ hd)
    omega
/-- shaped at a depth -/
def shN (n : Nat) (d : D) : Prop := isP d = true ∧ (toP d).canLay0 = true ∧ (toP d).depth ≤ n
theorem shN.shp {n : Nat} {d : D} (h : shN n d) (hn : n ≤ 64) : shp d = true := by
  obtain ⟨h1, h2, h3⟩ := h
  unfold AW.shp SeqAt.shaped
  rw [h1, h2]
  exact decide_eq_true (Nat.le_trans h3 hn)
theorem shN.mono {n m : Nat} {d : D} (h : shN n d) (hn : n ≤ m) : shN m d := ⟨h.1, h.2.1, Nat.le_trans h.2.2 hn⟩
theorem shN_int {i : Int} : shN 0 (.int i) := ⟨rfl, by unfold toP PyData.canLay0; rfl, by unfold toP PyData.depth; exact Nat.le_refl _⟩
theorem shN_bl {i : Bool} : shN 0 (.bl i) := ⟨rfl, by unfold toP PyData.canLay0; rfl, by unfold toP PyData.depth; exact Nat.le_refl _⟩
theorem shN_non : shN 0 .non := ⟨rfl, by unfold toP PyData.canLay0; rfl, by unfold toP PyData.depth; exact Nat.le_refl _⟩
theorem shN_str {s : List Nat} (h : PyData.strOk (tx s) = true) : shN 0 (.str s) := ⟨rfl, by unfold toP PyData.canLay0; exact h, by unfold toP PyData.depth; exact Nat.le_refl _⟩
theorem isPs_all {ds : List D} (h : ∀ d ∈ ds, isP d = true) : isPs ds = true := by
  have z := isPs_map (f := id) h
  rwa [List.map_id] at z
theorem shN_lst {n : Nat} {o : Bool} {ds : List D} (h : ∀ d ∈ ds, shN n d) : shN (n + 1) (.lst o ds) := by
  refine ⟨isPs_all fun d hd => (h d hd).1, ?_, ?_⟩
  · show PyData.canLay0 (.list (toPs ds)) = true
    unfold PyData.canLay0
    rw [toPs_map]
    exact canLay_all fun x hx => by
      obtain ⟨d, hd, rfl⟩ := List.mem_map.mp hx
      exact (h d hd).2.1
  · show PyData.depth (.list (toPs ds)) ≤ n + 1
    unfold PyData.depth
    rw [toPs_map]
    have z := depth_all (n := n) (xs := ds.map toP) fun x hx => by
      obtain ⟨d, hd, rfl⟩ := List.mem_map.mp hx
      exact (h d hd).2.2
    omega
theorem shN_tup {n : Nat} {ds : List D} (h : ∀ d ∈ ds, shN n d) : shN (n + 1) (.tup ds) := by
  refine ⟨isPs_all fun d hd => (h d hd).1, ?_, ?_⟩
  · show PyData.canLay0 (.tuple (toPs ds)) = true
    unfold PyData.canLay0
    rw [toPs_map]
    exact canLay_all fun x hx => by
      obtain ⟨d, hd, rfl⟩ := List.mem_map.mp hx
      exact (h d hd).2.1
  · show PyData.depth (.tuple (toPs ds)) ≤ n + 1
    unfold PyData.depth
    rw [toPs_map]
    have z := depth_all (n := n) (xs := ds.map toP) fun x hx => by
      obtain ⟨d, hd, rfl⟩ := List.mem_map.mp hx
      exact (h d hd).2.2
    omega
theorem shp_ints {o : Bool} {xs : List Int} : shp (.lst o (xs.map .int)) = true := by
  refine (shN_lst (n := 0) fun d hd => ?_).shp (by decide)
  obtain ⟨i, _, rfl⟩ := List.mem_map.mp hd
  exact shN_int
theorem nOs_ints {xs : List Int} : noOwns (xs.map .int) = true := nOs_map fun _ _ => rfl
theorem okFs_ints {xs : List Int} : okFs (xs.map .int) = true := okFs_of _ nOs_ints
theorem fzs_ints {xs : List Int} : frzs (xs.map .int) = xs.map .int := fzs_of _ nOs_ints
theorem allInts_map {xs : List Int} : allInts (xs.map .int) = some xs := by
  induction xs with
  | nil => rfl
  | cons a r ih =>
    show (allInts (r.map .int)).map (a :: ·) = _
    rw [ih]
    rfl
theorem allBls_map {xs : List Bool} : allBls (xs.map .bl) = some xs := by
  induction xs with
  | nil => rfl
  | cons a r ih =>
    show (allBls (r.map .bl)).map (a :: ·) = _
    rw [ih]
    rfl
/-! ### equal data -/
mutual
theorem eqv_same : ∀ d : D, isP d = true → PyData.eqv (toP d) (toP d) = true
  | .non, _ => by unfold toP PyData.eqv; rfl
  | .bl _, _ => by unfold toP PyData.eqv; simp
  | .int _, _ => by unfold toP PyData.eqv; simp
  | .str _, _ => by unfold toP PyData.eqv; simp
  | .tup ds, h => by
    unfold toP PyData.eqv
    exact eqv_sames ds h
  | .lst _ ds, h => by
    unfold toP PyData.eqv
    exact eqv_sames ds h
  | .dic _ _ _, h => by cases h
  | .ins _ _, h => by cases h
  | .fn _, h => by cases h
theorem eqv_sames : ∀ ds : List D, isPs ds = true → PyData.eqvAll (toPs ds) (toPs ds) = true
  | [], _ => by unfold toPs PyData.eqvAll; rfl
  | d :: ds, h => by
    have h : (isP d && isPs ds) = true := h
    rw [Bool.and_eq_true] at h
    unfold toPs PyData.eqvAll
    rw [eqv_same d h.1, eqv_sames ds h.2]
    rfl
end
theorem deq_same {d : D} (h : isP d = true) : deq d d = true := eqv_same d h
theorem deq_ints {o o' : Bool} : ∀ {xs ys : List Int}, deq (.lst o (xs.map .int)) (.lst o' (ys.map .int)) = decide (xs = ys)
  | [], [] => by unfold deq toP toPs PyData.eqv PyData.eqvAll; rfl
  | [], y :: ys => by unfold deq toP toPs PyData.eqv PyData.eqvAll; rfl
  | x :: xs, [] => by unfold deq toP toPs PyData.eqv PyData.eqvAll; rfl
  | x :: xs, y :: ys => by
    have ih := deq_ints (o := o) (o' := o') (xs := xs) (ys := ys)
    unfold deq toP PyData.eqv at ih ⊢
    show PyData.eqvAll (toP (.int x) :: toPs (xs.map .int)) (toP (.int y) :: toPs (ys.map .int)) = _
    unfold PyData.eqvAll
    rw [ih]
    show (deq (.int x) (.int y) && decide (xs = ys)) = _
    rw [deq_I]
    by_cases h1 : x = y <;> by_cases h2 : xs = ys <;> simp [h1, h2]
theorem v_eqLI {o o' : Bool} {xs ys : List Int} {P : Bool → Prop} : wo (dCmp .eq (.lst o (xs.map .int)) (.lst o' (ys.map .int))) P = P (decide (xs = ys)) := by
  rw [v_eq rfl, shp_ints, shp_ints, deq_ints]
  exact propext ⟨fun h => h.2, fun h => ⟨rfl, h⟩⟩
/-! ### loops -/
section
variable {Q : Nat → List D → R D} {G : Nat → D} {fu : Nat}
/-- what is wanted behind a turn -/
def lp (I : Env → Prop) (P : Fl → Env → Prop) (f : Fl) (e : Env) : Prop := match f with
  | .next => I e
  | .cnt => I e
  | .brk => P .next e
  | .ret d => P (.ret d) e
theorem lp_next {I : Env → Prop} {P : Fl → Env → Prop} {e : Env} : lp I P .next e = I e := rfl
theorem lp_cnt {I : Env → Prop} {P : Fl → Env → Prop} {e : Env} : lp I P .cnt e = I e := rfl
theorem lp_brk {I : Env → Prop} {P : Fl → Env → Prop} {e : Env} : lp I P .brk e = P .next e := rfl
theorem lp_ret {I : Env → Prop} {P : Fl → Env → Prop} {d : D} {e : Env} : lp I P (.ret d) e = P (.ret d) e := rfl
/-- a loop by what holds with so many items left -/
theorem forL_inv {t : List Nat} {tt : Bool} {chk : Env → Prop} {b : Env → R Fl} {P : Fl → Env → Prop} (I : List D → Env → Prop) (he : ∀ e, I [] e → chk e ∧ P .next e)
    (hs : ∀ d ds e, I (d :: ds) e → chk e ∧ wo (bindT t tt d e) fun e1 => wp (b e1) (lp (I ds) P)) :
    ∀ {items : List D} {env : Env}, I items env → wp (forL t tt chk b items env) P
  | [], env, h => by
    obtain ⟨h1, h2⟩ := he env h
    unfold forL
    rw [if_pos h1, wp_ok]
    exact h2
  | d :: ds, env, h => by
    obtain ⟨h1, h2⟩ := hs d ds env h
    unfold forL
    rw [if_pos h1]
    cases hb : bindT t tt d env with
    | none =>
      rw [hb] at h2
      exact h2.elim
    | some e1 =>
      rw [hb] at h2
      show wp ((b e1).bind _) P
      rw [wp_bind]
      refine wp_mono h2 fun f e2 h3 => ?_
      cases f with
      | next => exact forL_inv I he hs h3
      | cnt => exact forL_inv I he hs h3
      | brk => with_unfolding_all exact h3
      | ret d => with_unfolding_all exact h3
/-- over the pictures of a list -/
theorem forL_map {α : Type} {g : α → D} {xs : List α} {t : List Nat} {tt : Bool} {chk : Env → Prop} {b : Env → R Fl} {P : Fl → Env → Prop} {env : Env} (I : List α → Env → Prop) (h0 : I xs env) (he : ∀ e, I [] e → chk e ∧ P .next e)
    (hs : ∀ a as e, (∃ pre, xs = pre ++ a :: as) → I (a :: as) e → chk e ∧ wo (bindT t tt (g a) e) fun e1 => wp (b e1) (lp (I as) P)) :
    wp (forL t tt chk b (xs.map g) env) P := by
  refine forL_inv (fun ds e => ∃ pre as, xs = pre ++ as ∧ ds = as.map g ∧ I as e) ?_ ?_ ⟨[], xs, rfl, rfl, h0⟩
  · rintro e ⟨pre, as, e1, e2, h⟩
    have : as = [] := by
      cases as with
      | nil => rfl
      | cons a r => cases e2
    subst this
    exact he e h
  · rintro d ds e ⟨pre, as, e1, e2, h⟩
    cases as with
    | nil => cases e2
    | cons a as =>
      obtain ⟨rfl, rfl⟩ := List.cons.inj (show d :: ds = g a :: as.map g from e2)
      obtain ⟨h1, h2⟩ := hs a as e ⟨pre, e1⟩ h
      refine ⟨h1, wo_mono h2 fun e1' h3 => wp_mono h3 fun f e2 h4 => ?_⟩
      cases f with
      | next => exact ⟨pre ++ [a], as, by rw [e1, List.append_assoc]; rfl, rfl, h4⟩
      | cnt => exact ⟨pre ++ [a], as, by rw [e1, List.append_assoc]; rfl, rfl, h4⟩
      | brk => exact h4
      | ret d => exact h4
theorem rngD_cons {lo : Int} {n : Nat} : rngD lo (n + 1) = .int lo :: rngD (lo + 1) n := by
  unfold rngD
  rw [List.range_succ_eq_map, List.map_cons, List.map_map]
  congr 1
  · simp
  · refine List.map_congr_left fun k _ => ?_
    show D.int (lo + ((k + 1 : Nat) : Int)) = D.int (lo + 1 + (k : Int))
    congr 1
    omega
/-- for k in range(lo, lo + n) -/
theorem forL_rng {lo : Int} {n : Nat} {t : List Nat} {tt : Bool} {chk : Env → Prop} {b : Env → R Fl} {P : Fl → Env → Prop} {env : Env} (I : Nat → Env → Prop) (h0 : I 0 env) (he : ∀ e, I n e → chk e ∧ P .next e)
    (hs : ∀ k e, k < n → I k e → chk e ∧ wo (bindT t tt (.int (lo + (k : Int))) e) fun e1 => wp (b e1) (lp (I (k + 1)) P)) :
    wp (forL t tt chk b (rngD lo n) env) P := by
  refine forL_inv (fun ds e => ∃ k m, k + m = n ∧ ds = rngD (lo + (k : Int)) m ∧ I k e) ?_ ?_ ⟨0, n, by omega, by simp, h0⟩
  · rintro e ⟨k, m, e1, e2, h⟩
    cases m with
    | zero =>
      obtain rfl : k = n := by omega
      exact he e h
    | succ m =>
      rw [rngD_cons] at e2
      cases e2
  · rintro d ds e ⟨k, m, e1, e2, h⟩
    cases m with
    | zero => cases e2
    | succ m =>
      rw [rngD_cons] at e2
      obtain ⟨rfl, rfl⟩ := List.cons.inj e2
      obtain ⟨h1, h2⟩ := hs k e (by omega) h
      have ez : lo + (k : Int) + 1 = lo + ((k + 1 : Nat) : Int) := by omega
      refine ⟨h1, wo_mono h2 fun e1' h3 => wp_mono h3 fun f e2 h4 => ?_⟩
      cases f with
      | next => exact ⟨k + 1, m, by omega, by rw [ez], h4⟩
      | cnt => exact ⟨k + 1, m, by omega, by rw [ez], h4⟩
      | brk => exact h4
      | ret d => exact h4
/-- a while by a number that falls -/
theorem whl_inv {c : Env → R D} {b : Env → R Fl} {P : Fl → Env → Prop} (I : Nat → Env → Prop) (hs : ∀ m e, I m e → wp (c e) fun d e1 => wb d fun t => wi t (wp (b e1) (lp (fun e2 => ∃ k, k < m ∧ I k e2) P)) (P .next e1)) :
    ∀ {n m : Nat} {env : Env}, m < n → I m env → wp (whlL c b n env) P
  | 0, m, env, hm, h => absurd hm (Nat.not_lt_zero _)
  | n + 1, m, env, hm, h => by
    unfold whlL
    rw [wp_bind]
    refine wp_mono (hs m env h) fun d e1 h1 => ?_
    cases d with
    | bl t =>
      cases t with
      | true =>
        have h2 := h1.1 rfl
        show wp ((b e1).bind _) P
        rw [wp_bind]
        refine wp_mono h2 fun f e2 h3 => ?_
        cases f with
        | next =>
          obtain ⟨k, hk, h4⟩ := h3
          exact whl_inv I hs (by omega) h4
        | cnt =>
          obtain ⟨k, hk, h4⟩ := h3
          exact whl_inv I hs (by omega) h4
        | brk => with_unfolding_all exact h3
        | ret d => with_unfolding_all exact h3
      | false => with_unfolding_all exact h1.2 rfl
    | _ => exact h1.elim
/-- a comprehension by what holds with so many items left -/
theorem lcL_inv {own t : List Nat} {tt : Bool} {chk : Env → Prop} {c e : Env → R D} {P : List D → Env → Prop} (I : List D → List D → Env → Prop) (he : ∀ acc env, I [] acc env → chk env ∧ P acc env)
    (hs : ∀ d ds acc env, I (d :: ds) acc env → chk env ∧ wo (bindT t tt d env) fun e1 => wp (c e1) fun b e2 => wb b fun b => wi b (wp (e e2) fun x e3 => okF x = true ∧ I ds (acc ++ [frz x]) (wipeE e3 own)) (I ds acc (wipeE e2 own))) :
    ∀ {items acc : List D} {env : Env}, I items acc env → wp (lcL own t tt chk c e items acc env) P
  | [], acc, env, h => by
    obtain ⟨h1, h2⟩ := he acc env h
    unfold lcL
    rw [if_pos h1, wp_ok]
    exact h2
  | d :: ds, acc, env, h => by
    obtain ⟨h1, h2⟩ := hs d ds acc env h
    unfold lcL
    rw [if_pos h1]
    cases hb : bindT t tt d env with
    | none =>
      rw [hb] at h2
      exact h2.elim
    | some e1 =>
      rw [hb] at h2
      show wp ((c e1).nx.bind _) P
      rw [wp_bind, wp_nx]
      refine wp_mono h2 fun b e2 h3 => ?_
      cases b with
      | bl b =>
        cases b with
        | true =>
          show wp ((e e2).nx.bind _) P
          rw [wp_bind, wp_nx]
          refine wp_mono (h3.1 rfl) fun x e3 h4 => ?_
          rw [if_pos h4.1]
          exact lcL_inv I he hs h4.2
        | false => exact lcL_inv I he hs (h3.2 rfl)
      | _ => exact h3.elim
/-- over the pictures of a list; what is made so far is given up already -/
theorem lcL_map {α : Type} {g : α → D} {xs : List α} {own t : List Nat} {tt : Bool} {chk : Env → Prop} {c e : Env → R D} {P : List D → Env → Prop} {env : Env} (I : List α → List α → List D → Env → Prop) (h0 : I [] xs [] env) (he : ∀ acc env, I xs [] acc env → chk env ∧ P acc env)
    (hs : ∀ pre a as acc env, xs = pre ++ a :: as → I pre (a :: as) acc env → chk env ∧ wo (bindT t tt (g a) env) fun e1 => wp (c e1) fun b e2 => wb b fun b => wi b (wp (e e2) fun x e3 => okF x = true ∧ I (pre ++ [a]) as (acc ++ [frz x]) (wipeE e3 own)) (I (pre ++ [a]) as acc (wipeE e2 own))) :
    wp (lcL own t tt chk c e (xs.map g) [] env) P := by
  refine lcL_inv (fun ds acc e => ∃ pre as, xs = pre ++ as ∧ ds = as.map g ∧ I pre as acc e) ?_ ?_ ⟨[], xs, rfl, rfl, h0⟩
  · rintro acc e ⟨pre, as, e1, e2, h⟩
    have : as = [] := by
      cases as with
      | nil => rfl
      | cons a r => cases e2
    subst this
    rw [List.append_nil] at e1
    subst e1
    exact he acc e h
  · rintro d ds acc e ⟨pre, as, e1, e2, h⟩
    cases as with
    | nil => cases e2
    | cons a as =>
      obtain ⟨rfl, rfl⟩ := List.cons.inj (show d :: ds = g a :: as.map g from e2)
      obtain ⟨h1, h2⟩ := hs pre a as acc e e1 h
      have ea : xs = (pre ++ [a]) ++ as := by rw [e1, List.append_assoc]; rfl
      refine ⟨h1, wo_mono h2 fun e1' h3 => wp_mono h3 fun b e2 h4 => ?_⟩
      cases b with
      | bl b =>
        cases b with
        | true => exact ⟨fun _ => wp_mono (h4.1 rfl) fun x e3 h5 => ⟨h5.1, pre ++ [a], as, ea, rfl, h5.2⟩, fun z => by cases z⟩
        | false => exact ⟨fun z => (by cases z), fun _ => ⟨pre ++ [a], as, ea, rfl, h4.2 rfl⟩⟩
      | _ => exact h4.elim
/-- one value for each item, the names stay -/
theorem lcL_all {α : Type} {g : α → D} {k : α → D} {xs : List α} {own t : List Nat} {tt : Bool} {chk : Env → Prop} {c e : Env → R D} {P : List D → Env → Prop} {env : Env} (hc : chk env) (hp : P (xs.map k) env)
    (hs : ∀ a, a ∈ xs → wo (bindT t tt (g a) env) fun e1 => wp (c e1) fun b e2 => b = .bl true ∧ wp (e e2) fun x e3 => okF x = true ∧ frz x = k a ∧ wipeE e3 own = env) :
    wp (lcL own t tt chk c e (xs.map g) [] env) P := by
  refine lcL_map (fun pre as acc e => acc = pre.map k ∧ e = env) ⟨rfl, rfl⟩ ?_ ?_
  · rintro acc e ⟨rfl, rfl⟩
    exact ⟨hc, hp⟩
  · rintro pre a as acc e e1 ⟨rfl, rfl⟩
    refine ⟨hc, wo_mono (hs a (by rw [e1]; simp)) fun e1' h3 => wp_mono h3 fun b e2 h4 => ?_⟩
    obtain ⟨rfl, h4⟩ := h4
    refine ⟨fun _ => wp_mono h4 fun x e3 h5 => ⟨h5.1, ?_, h5.2.2⟩, fun z => by cases z⟩
    rw [h5.2.1, List.map_append]
    rfl
theorem rng_map {lo : Int} {n : Nat} : rngD lo n = (List.range n).map fun k : Nat => .int (lo + (k : Int)) := rfl
theorem qL_0 {f : List D → R D} {l : List (List D → R D)} : qL (f :: l) 0 = f := rfl
theorem qL_1 {f : List D → R D} {l : List (List D → R D)} {i : Nat} : qL (f :: l) (i + 1) = qL l i := rfl
theorem gL_0 {f : D} {l : List D} : gL (f :: l) 0 = f := rfl
theorem gL_1 {f : D} {l : List D} {i : Nat} : gL (f :: l) (i + 1) = gL l i := rfl
theorem oF_nil {ds : List D} {env : Env} : outF [] ds env = env.take ds.length := rfl
theorem oF_def {asg : List Nat} {ds : List D} {env : Env} : outF asg ds env = backE (ds.map some) (env.take ds.length) asg := rfl
theorem rep0 {α : Type} {a : α} : List.replicate 0 a = [] := rfl
theorem rep1 {α : Type} {a : α} {n : Nat} : List.replicate (n + 1) a = a :: List.replicate n a := rfl
theorem take0 {α : Type} {l : List α} : l.take 0 = [] := List.take_zero
theorem take1 {α : Type} {a : α} {l : List α} {n : Nat} : (a :: l).take (n + 1) = a :: l.take n := rfl
theorem wpE_nil {e : Env} : wipeE e [] = e := rfl
theorem fst_eq {α β : Type} {a : α} {b : β} : (a, b).1 = a := rfl
theorem snd_eq {α β : Type} {a : α} {b : β} : (a, b).2 = b := rfl
theorem len0 {α : Type} : ([] : List α).length = 0 := rfl
end
/-! ### loops over written lists -/
def fl (t : List Nat) (tt : Bool) (chk : Env → Prop) (b : Env → R Fl) (ds : List D) (P : Fl → Env → Prop) (f : Fl) (e : Env) : Prop := match f with
  | .next => wp (forL t tt chk b ds e) P
  | .cnt => wp (forL t tt chk b ds e) P
  | .brk => P .next e
  | .ret d => P (.ret d) e
section
variable {t : List Nat} {tt : Bool} {chk : Env → Prop} {b : Env → R Fl} {d : D} {ds : List D} {P : Fl → Env → Prop} {env : Env}
theorem wp_for0 : wp (forL t tt chk b [] env) P = (chk env ∧ P .next env) := by
  unfold forL
  by_cases h : chk env <;> simp [h, wp, wp0]
theorem wp_for1 : wp (forL t tt chk b (d :: ds) env) P = (chk env ∧ wo (bindT t tt d env) fun e1 => wp (b e1) (fl t tt chk b ds P)) := by
  rw [forL]
  by_cases h : chk env
  · simp only [if_pos h, h, true_and]
    cases bindT t tt d env with
    | none => with_unfolding_all rfl
    | some e1 =>
      show wp ((b e1).bind _) P = _
      rw [wp_bind, wo_some]
      refine wpf fun f e2 => ?_
      cases f <;> with_unfolding_all rfl
  · simp only [if_neg h, h, false_and]
    with_unfolding_all rfl
theorem fl_next : fl t tt chk b ds P .next env = wp (forL t tt chk b ds env) P := rfl
theorem fl_cnt : fl t tt chk b ds P .cnt env = wp (forL t tt chk b ds env) P := rfl
theorem fl_brk : fl t tt chk b ds P .brk env = P .next env := rfl
theorem fl_ret : fl t tt chk b ds P (.ret d) env = P (.ret d) env := rfl
end
theorem awF : type_of% @wp_for0 ∧ type_of% @wp_for1 ∧ type_of% @fl_next ∧ type_of% @fl_cnt ∧ type_of% @fl_brk ∧ type_of% @fl_ret := ⟨@wp_for0, @wp_for1, @fl_next, @fl_cnt, @fl_brk, @fl_ret⟩
theorem awX : type_of% @lp_next ∧ type_of% @lp_cnt ∧ type_of% @lp_brk ∧ type_of% @lp_ret ∧ type_of% @atI_0 ∧ type_of% @atI_1 ∧ type_of% @atI_2 ∧ type_of% @qL_0 ∧ type_of% @qL_1 ∧ type_of% @gL_0 ∧ type_of% @gL_1 ∧ type_of% @oF_def ∧ type_of% @rep0 ∧ type_of% @rep1 ∧ type_of% @take0 ∧ type_of% @take1 ∧ type_of% @wp_E1 ∧ type_of% @wpE_nil := ⟨@lp_next, @lp_cnt, @lp_brk, @lp_ret, @atI_0, @atI_1, @atI_2, @qL_0, @qL_1, @gL_0, @gL_1, @oF_def, @rep0, @rep1, @take0, @take1, @wp_E1, @wpE_nil⟩
theorem awZ : type_of% @true_and ∧ type_of% @and_true ∧ type_of% @and_self ∧ type_of% @true_implies ∧ type_of% @false_implies ∧ type_of% @Bool.and_self ∧ type_of% @Bool.and_true ∧ type_of% @Bool.true_and ∧ type_of% @Bool.and_false ∧ type_of% @Bool.false_and ∧ type_of% @Bool.or_true ∧ type_of% @Bool.true_or ∧ type_of% @Bool.or_false ∧ type_of% @Bool.false_or ∧ type_of% @Bool.not_true ∧ type_of% @Bool.not_false ∧ type_of% @decide_true ∧ type_of% @decide_false ∧ type_of% @not_true_eq_false ∧ type_of% @not_false_eq_true ∧ type_of% @Option.isSome_some.{0} ∧ type_of% @Option.isSome_none.{0} ∧ type_of% @List.length_cons.{0} ∧ type_of% @List.length_nil.{0} ∧ type_of% @Nat.zero_add ∧ type_of% @Int.zero_add ∧ type_of% @List.set_nil.{0} ∧ type_of% @gt_nil ∧ type_of% @List.set_cons_zero.{0} ∧ type_of% @List.set_cons_succ.{0} ∧ type_of% @List.getElem?_cons_zero.{0} ∧ type_of% @List.getElem?_cons_succ.{0} ∧ type_of% @List.map_cons.{0,0} ∧ type_of% @List.map_nil.{0,0} ∧ type_of% @List.nil_append.{0} ∧ type_of% @List.cons_append.{0} ∧ type_of% @List.append_nil.{0} ∧ type_of% @List.append_assoc.{0} ∧ type_of% @bne_self_eq_false.{0} ∧ type_of% @wp_ss0 ∧ type_of% @wp_ss1 ∧ type_of% @cn_next := ⟨@true_and, @and_true, @and_self, @true_implies, @false_implies, @Bool.and_self, @Bool.and_true, @Bool.true_and, @Bool.and_false, @Bool.false_and, @Bool.or_true, @Bool.true_or, @Bool.or_false, @Bool.false_or, @Bool.not_true, @Bool.not_false, @decide_true, @decide_false, @not_true_eq_false, @not_false_eq_true, @Option.isSome_some.{0}, @Option.isSome_none.{0}, @List.length_cons.{0}, @List.length_nil.{0}, @Nat.zero_add, @Int.zero_add, @List.set_nil.{0}, @gt_nil, @List.set_cons_zero.{0}, @List.set_cons_succ.{0}, @List.getElem?_cons_zero.{0}, @List.getElem?_cons_succ.{0}, @List.map_cons.{0,0}, @List.map_nil.{0,0}, @List.nil_append.{0}, @List.cons_append.{0}, @List.append_nil.{0}, @List.append_assoc.{0}, @bne_self_eq_false.{0}, @wp_ss0, @wp_ss1, @cn_next⟩
end AW

/-! Row: words, deeds, rows, and the data that stands for them. -/
namespace AW
open PySem
inductive Wd where
  | none | one | all | not | neg | twice | and | or | xor | add | sub
  deriving DecidableEq
def Wd.txt : Wd → List Nat
  | .none => [110, 111, 110, 101]
  | .one => [111, 110, 101]
  | .all => [97, 108, 108]
  | .not => [110, 111, 116]
  | .neg => [110, 101, 103]
  | .twice => [116, 119, 105, 99, 101]
  | .and => [97, 110, 100]
  | .or => [111, 114]
  | .xor => [120, 111, 114]
  | .add => [97, 100, 100]
  | .sub => [115, 117, 98]
def Wd.ar : Wd → Nat
  | .none => 0 | .one => 0 | .all => 0
  | .not => 1 | .neg => 1 | .twice => 1
  | .and => 2 | .or => 2 | .xor => 2 | .add => 2 | .sub => 2
theorem Wd.txt_inj {a b : Wd} : (a.txt = b.txt) = (a = b) := by
  apply propext
  constructor
  · intro h
    cases a <;> cases b <;> first | rfl | (exact absurd h (by decide))
  · intro h
    rw [h]

theorem Wd.ok (w : Wd) : PyData.strOk (tx w.txt) = true := by cases w <;> decide +kernel
structure Dd where
  w : Wd
  ns : List Int
structure Row where
  many : Int
  deeds : List Dd
  out : Int
def wS (w : Wd) : D := .str w.txt
def encD (d : Dd) : D := .tup (.str d.w.txt :: d.ns.map .int)
def encR (r : Row) : D := .tup [.int r.many, .tup (r.deeds.map encD), .int r.out]
def DOk (a : Int) (d : Dd) : Prop := d.ns.length = d.w.ar ∧ ∀ n ∈ d.ns, 0 ≤ n ∧ n < a
structure RowOk (r : Row) : Prop where
  m1 : 1 ≤ r.many
  m3 : r.many ≤ 3
  l8 : r.deeds.length ≤ 8
  ds : ∀ (i : Nat) (d : Dd), r.deeds[i]? = some d → DOk (r.many + (i : Int)) d
  o0 : 0 ≤ r.out
  o1 : r.out < r.many + (r.deeds.length : Int)
theorem nO_encD {d : Dd} : noOwn (encD d) = true := by
  unfold encD
  rw [nO_tup, nOs_cons, nOs_ints]
  rfl
theorem nOs_deeds {ds : List Dd} : noOwns (ds.map encD) = true := nOs_map fun _ _ => nO_encD
theorem nO_encR {r : Row} : noOwn (encR r) = true := by
  unfold encR
  rw [nO_tup, nOs_cons, nOs_cons, nO_tup, nOs_deeds]
  rfl
theorem okF_encD {d : Dd} : okF (encD d) = true := okF_of _ nO_encD
theorem okF_encR {r : Row} : okF (encR r) = true := okF_of _ nO_encR
theorem fz_encD {d : Dd} : frz (encD d) = encD d := fz_of _ nO_encD
theorem fz_encR {r : Row} : frz (encR r) = encR r := fz_of _ nO_encR
theorem okFs_deeds {ds : List Dd} : okFs (ds.map encD) = true := okFs_of _ nOs_deeds
theorem fzs_deeds {ds : List Dd} : frzs (ds.map encD) = ds.map encD := fzs_of _ nOs_deeds
theorem shN_wd {w : Wd} : shN 0 (.str w.txt) := shN_str w.ok
theorem shN_encD {d : Dd} : shN 1 (encD d) := shN_tup fun x hx => by
  rcases List.mem_cons.mp hx with e | hx
  · subst e
    exact shN_wd
  · obtain ⟨i, _, rfl⟩ := List.mem_map.mp hx
    exact shN_int
theorem shN_encR {r : Row} : shN 3 (encR r) := shN_tup fun x hx => by
  simp only [List.mem_cons, List.not_mem_nil, or_false] at hx
  rcases hx with e | e | e
  · subst e
    exact shN_int.mono (by decide)
  · subst e
    refine shN_tup fun y hy => ?_
    obtain ⟨d, _, rfl⟩ := List.mem_map.mp hy
    exact shN_encD
  · subst e
    exact shN_int.mono (by decide)
/-! ### what is read of a row -/
theorem enR_idx0 {r : Row} {P : D → Prop} : wo (dIdx (encR r) (.int 0)) P = P (.int r.many) := by
  unfold encR
  rw [v_idxT, atI_0]
  exact propext ⟨fun h => h.2, fun h => ⟨rfl, h⟩⟩
theorem enR_idx1 {r : Row} {P : D → Prop} : wo (dIdx (encR r) (.int 1)) P = P (.tup (r.deeds.map encD)) := by
  unfold encR
  rw [v_idxT, atI_1]
  exact propext ⟨fun h => h.2, fun h => ⟨nOs_deeds, h⟩⟩
theorem enR_idx2 {r : Row} {P : D → Prop} : wo (dIdx (encR r) (.int 2)) P = P (.int r.out) := by
  unfold encR
  rw [v_idxT, atI_2]
  exact propext ⟨fun h => h.2, fun h => ⟨rfl, h⟩⟩
theorem enD_idx0 {d : Dd} {P : D → Prop} : wo (dIdx (encD d) (.int 0)) P = P (.str d.w.txt) := by
  unfold encD
  rw [v_idxT, atI_0]
  exact propext ⟨fun h => h.2, fun h => ⟨rfl, h⟩⟩
theorem enD_cut1 {d : Dd} {P : D → Prop} : wo (dCut (encD d) (some 1) none) P = P (.tup (d.ns.map .int)) := by
  unfold encD
  rw [v_cutT, nOs_cons, nOs_ints, cut_1]
  exact propext ⟨fun h => h.2, fun h => ⟨rfl, h⟩⟩
theorem len_encD {d : Dd} {P : D → Prop} : wo (dBlt .len [encD d]) P = P (.int (d.ns.length + 1 : Nat)) := by
  unfold encD
  rw [v_lenT, List.length_cons, List.length_map]
/-! ### the eleven words -/
def words11 : List Wd := [.none, .one, .all, .not, .neg, .twice, .and, .or, .xor, .add, .sub]
def dW11 (o : Bool) : D := .dic o (words11.map wS) (words11.map fun w => .int w.ar)
theorem keyOf_str {a b : List Nat} : (keyOf (.str a) = keyOf (.str b)) = (a = b) := by
  unfold keyOf
  apply propext
  constructor
  · intro h
    have := congrArg (fun s : Str => s.cps.toList) (Sum.inr.inj (Option.some.inj h))
    simpa using this
  · intro h
    rw [h]
theorem keyOf_int {a b : Int} : (keyOf (.int a) = keyOf (.int b)) = (a = b) := by
  unfold keyOf
  apply propext
  constructor
  · intro h
    exact Sum.inl.inj (Option.some.inj h)
  · intro h
    rw [h]
theorem keyS {a : List Nat} : (keyOf (.str a)).isSome = true := rfl
theorem keyI {a : Int} : (keyOf (.int a)).isSome = true := rfl
theorem dGet_nil {k : D} : dGet [] [] k = none := rfl
theorem dGet_cons {a v : D} {ks vs : List D} {k : D} : dGet (a :: ks) (v :: vs) k = if keyOf a = keyOf k then some v else dGet ks vs k := rfl
theorem dGet_map {α : Type} {f g : α → D} {xs : List α} {a : α} (ha : a ∈ xs) (hi : ∀ x ∈ xs, keyOf (f x) = keyOf (f a) → g x = g a) : dGet (xs.map f) (xs.map g) (f a) = some (g a) := by
  induction xs with
  | nil => cases ha
  | cons x r ih =>
    rw [List.map_cons, List.map_cons, dGet_cons]
    by_cases h : keyOf (f x) = keyOf (f a)
    · rw [if_pos h, hi x (List.mem_cons_self ..) h]
    · rw [if_neg h]
      rcases List.mem_cons.mp ha with e | e
      · exact absurd (by rw [e]) h
      · exact ih e fun y hy => hi y (List.mem_cons_of_mem _ hy)
theorem mem_words11 (w : Wd) : w ∈ words11 := by cases w <;> decide
theorem dGet_w11 (w : Wd) : dGet (words11.map wS) (words11.map fun w => .int w.ar) (.str w.txt) = some (.int w.ar) :=
  dGet_map (f := wS) (g := fun w => .int w.ar) (mem_words11 w) fun x _ h => by
    have e := Wd.txt_inj.mp (keyOf_str.mp h)
    rw [e]
theorem nOs_w11 : noOwns (words11.map wS) = true := nOs_map fun _ _ => rfl
theorem dHas_str {x : List Nat} {ks : List D} : dHas (.str x :: ks) (.str y) = (decide (x = y) || dHas ks (.str y)) := by
  unfold dHas
  rw [List.any_cons]
  congr 1
  exact decide_eq_decide.mpr (by rw [keyOf_str])
theorem dHas_nil {k : D} : dHas [] k = false := rfl
theorem dPut_def {ks vs : List D} {k v : D} : dPut ks vs k v = if dHas ks k = true then (ks, dRep ks vs k v) else (ks ++ [k], vs ++ [v]) := rfl
theorem dRep_nil {k v : D} : dRep [] [] k v = [] := rfl
theorem dRep_cons {a u : D} {ks vs : List D} {k v : D} : dRep (a :: ks) (u :: vs) k v = (if keyOf a = keyOf k then v else u) :: dRep ks vs k v := rfl
/-- dicts with written keys -/
theorem awD : type_of% @dPut_def ∧ type_of% @dHas_nil ∧ type_of% @dHas_str ∧ type_of% @dRep_nil ∧ type_of% @dRep_cons ∧ type_of% @dGet_nil ∧ type_of% @dGet_cons ∧ type_of% @keyOf_str ∧ type_of% @keyS ∧ type_of% @keyI ∧ type_of% @keyOf_int := ⟨@dPut_def, @dHas_nil, @dHas_str, @dRep_nil, @dRep_cons, @dGet_nil, @dGet_cons, @keyOf_str, @keyS, @keyI, @keyOf_int⟩
/-! ### written words -/
theorem tx_none : D.str [110, 111, 110, 101] = .str (Wd.txt .none) := rfl
theorem tx_one : D.str [111, 110, 101] = .str (Wd.txt .one) := rfl
theorem tx_all : D.str [97, 108, 108] = .str (Wd.txt .all) := rfl
theorem tx_not : D.str [110, 111, 116] = .str (Wd.txt .not) := rfl
theorem tx_neg : D.str [110, 101, 103] = .str (Wd.txt .neg) := rfl
theorem tx_twice : D.str [116, 119, 105, 99, 101] = .str (Wd.txt .twice) := rfl
theorem tx_and : D.str [97, 110, 100] = .str (Wd.txt .and) := rfl
theorem tx_or : D.str [111, 114] = .str (Wd.txt .or) := rfl
theorem tx_xor : D.str [120, 111, 114] = .str (Wd.txt .xor) := rfl
theorem tx_add : D.str [97, 100, 100] = .str (Wd.txt .add) := rfl
theorem tx_sub : D.str [115, 117, 98] = .str (Wd.txt .sub) := rfl
theorem awT : type_of% @tx_none ∧ type_of% @tx_one ∧ type_of% @tx_all ∧ type_of% @tx_not ∧ type_of% @tx_neg ∧ type_of% @tx_twice ∧ type_of% @tx_and ∧ type_of% @tx_or ∧ type_of% @tx_xor ∧ type_of% @tx_add ∧ type_of% @tx_sub := ⟨@tx_none, @tx_one, @tx_all, @tx_not, @tx_neg, @tx_twice, @tx_and, @tx_or, @tx_xor, @tx_add, @tx_sub⟩
theorem eqW {a b : Wd} {P : Bool → Prop} : wo (dCmp .eq (.str a.txt) (.str b.txt)) P = P (decide (a = b)) := by
  rw [v_eqS]
  have e : decide (a.txt = b.txt) = decide (a = b) := decide_eq_decide.mpr (by rw [Wd.txt_inj])
  rw [e]
theorem deq_W {a b : Wd} : deq (.str a.txt) (.str b.txt) = decide (a = b) := by
  rw [deq_S]
  exact decide_eq_decide.mpr (by rw [Wd.txt_inj])
theorem kW {a b : Wd} : (keyOf (.str a.txt) = keyOf (.str b.txt)) = (a = b) := by rw [keyOf_str, Wd.txt_inj]
theorem dHas_W {x y : Wd} {ks : List D} : dHas (.str x.txt :: ks) (.str y.txt) = (decide (x = y) || dHas ks (.str y.txt)) := by
  rw [dHas_str]
  congr 1
  exact decide_eq_decide.mpr (by rw [Wd.txt_inj])
theorem isFlat_s {s : List Nat} : isFlat (.str s) = true := rfl
/-- written dicts by words -/
theorem awE : type_of% @dPut_def ∧ type_of% @dHas_nil ∧ type_of% @dHas_W ∧ type_of% @dRep_nil ∧ type_of% @dRep_cons ∧ type_of% @dGet_nil ∧ type_of% @dGet_cons ∧ type_of% @kW ∧ type_of% @keyS ∧ type_of% @keyI ∧ type_of% @eqW ∧ type_of% @deq_W ∧ type_of% @isFlat_s := ⟨@dPut_def, @dHas_nil, @dHas_W, @dRep_nil, @dRep_cons, @dGet_nil, @dGet_cons, @kW, @keyS, @keyI, @eqW, @deq_W, @isFlat_s⟩
theorem enR_bind {r : Row} {t : List Nat} {env : Env} {P : Env → Prop} : wo (bindT t true (encR r) env) P = wo (setAll t [.int r.many, .tup (r.deeds.map encD), .int r.out] env) P := rfl
/-- rows, deeds, lists of numbers -/
theorem awR : type_of% @enR_bind ∧ type_of% @enR_idx0 ∧ type_of% @enR_idx1 ∧ type_of% @enR_idx2 ∧ type_of% @enD_idx0 ∧ type_of% @enD_cut1 ∧ type_of% @nOs_deeds ∧ type_of% @okFs_deeds ∧ type_of% @fzs_deeds ∧ type_of% @okF_encD ∧ type_of% @nO_encD ∧ type_of% @fz_encD ∧ type_of% @okF_encR ∧ type_of% @nO_encR ∧ type_of% @fz_encR ∧ type_of% @nOs_ints ∧ type_of% @okFs_ints ∧ type_of% @fzs_ints := ⟨@enR_bind, @enR_idx0, @enR_idx1, @enR_idx2, @enD_idx0, @enD_cut1, @nOs_deeds, @okFs_deeds, @fzs_deeds, @okF_encD, @nO_encD, @fz_encD, @okF_encR, @nO_encR, @fz_encR, @nOs_ints, @okFs_ints, @fzs_ints⟩
end AW

/-! Bits: and, or, xor of words. -/
namespace AW
open PySem
theorem and_in {a b : Int} {w : Nat} (ha : 0 ≤ a ∧ a < 2 ^ w) (hb : 0 ≤ b ∧ b < 2 ^ w) : 0 ≤ Builtin.bitAnd a b ∧ Builtin.bitAnd a b < 2 ^ w := by
  obtain ⟨x, rfl⟩ := Int.eq_ofNat_of_zero_le ha.1
  obtain ⟨y, rfl⟩ := Int.eq_ofNat_of_zero_le hb.1
  rw [PySem.W.os_band]
  refine ⟨by omega, ?_⟩
  have h := Nat.and_lt_two_pow x (show y < 2 ^ w by exact_mod_cast hb.2)
  exact_mod_cast h
theorem or_in {a b : Int} {w : Nat} (ha : 0 ≤ a ∧ a < 2 ^ w) (hb : 0 ≤ b ∧ b < 2 ^ w) : 0 ≤ Builtin.bitOr a b ∧ Builtin.bitOr a b < 2 ^ w := by
  rw [Bits.bitOr_pp ha.1 hb.1]
  obtain ⟨x, rfl⟩ := Int.eq_ofNat_of_zero_le ha.1
  obtain ⟨y, rfl⟩ := Int.eq_ofNat_of_zero_le hb.1
  refine ⟨by omega, ?_⟩
  have h := Nat.or_lt_two_pow (show x < 2 ^ w by exact_mod_cast ha.2) (show y < 2 ^ w by exact_mod_cast hb.2)
  exact_mod_cast h
theorem xor_in {a b : Int} {w : Nat} (ha : 0 ≤ a ∧ a < 2 ^ w) (hb : 0 ≤ b ∧ b < 2 ^ w) : 0 ≤ Builtin.bitXor a b ∧ Builtin.bitXor a b < 2 ^ w := by
  rw [Bits.bitXor_pp ha.1 hb.1]
  obtain ⟨x, rfl⟩ := Int.eq_ofNat_of_zero_le ha.1
  obtain ⟨y, rfl⟩ := Int.eq_ofNat_of_zero_le hb.1
  refine ⟨by omega, ?_⟩
  have h := Nat.xor_lt_two_pow (show x < 2 ^ w by exact_mod_cast ha.2) (show y < 2 ^ w by exact_mod_cast hb.2)
  exact_mod_cast h
/-- the lowest bits -/
theorem and_full (x : Int) (w : Nat) : Builtin.bitAnd x (2 ^ w - 1) = x % 2 ^ w := PySem.W.kbt_mask x w
end AW

/-! Worth: the values of a row for words below top. -/
namespace AW
open PySem
/-- a deed's value by what is handed to it -/
def dv (w : Wd) (top : Int) (h : List Int) : Int := match w, h with
  | .none, _ => 0
  | .one, _ => 1
  | .all, _ => top - 1
  | .not, [a] => top - 1 - a
  | .neg, [a] => (0 - a) % top
  | .twice, [a] => (a + a) % top
  | .and, [a, b] => Builtin.bitAnd a b
  | .or, [a, b] => Builtin.bitOr a b
  | .xor, [a, b] => Builtin.bitXor a b
  | .add, [a, b] => (a + b) % top
  | .sub, [a, b] => (a - b) % top
  | _, _ => 0
def hand (f : List Int) (ns : List Int) : List Int := ns.map fun n => f.getD n.toNat 0
def valsF (top : Int) : List Dd → List Int → List Int
  | [], f => f
  | d :: ds, f => valsF top ds (f ++ [dv d.w top (hand f d.ns)])
def vals (top : Int) (r : Row) (words : List Int) : List Int := valsF top r.deeds words
def worthOf (top : Int) (r : Row) (words : List Int) : Int := (vals top r words).getD r.out.toNat 0
/-- words of a width -/
def InT (top : Int) (f : List Int) : Prop := ∀ x ∈ f, 0 ≤ x ∧ x < top
theorem InT.append {top : Int} {f : List Int} {x : Int} (h : InT top f) (hx : 0 ≤ x ∧ x < top) : InT top (f ++ [x]) := fun y hy => by
  rcases List.mem_append.mp hy with hy | hy
  · exact h y hy
  · rw [List.mem_singleton.mp hy]
    exact hx
theorem InT.getD {top : Int} {f : List Int} {k : Nat} (h : InT top f) (h0 : 0 < top) : 0 ≤ f.getD k 0 ∧ f.getD k 0 < top := by
  rw [List.getD_eq_getElem?_getD]
  cases e : f[k]? with
  | none => exact ⟨Int.le_refl _, h0⟩
  | some x => exact h x (List.mem_of_getElem? e)
theorem InT.hand {top : Int} {f ns : List Int} (h : InT top f) (h0 : 0 < top) : InT top (hand f ns) := fun x hx => by
  obtain ⟨n, _, rfl⟩ := List.mem_map.mp hx
  exact h.getD h0
theorem hand_len {f ns : List Int} : (hand f ns).length = ns.length := List.length_map ..
theorem dv_in {w : Wd} {k : Nat} {h : List Int} (hl : h.length = w.ar) (hh : InT (2 ^ k) h) (hk : 1 ≤ k) : 0 ≤ dv w (2 ^ k) h ∧ dv w (2 ^ k) h < 2 ^ k := by
  have t1 : (2 : Int) ≤ 2 ^ k := by
    have z := Nat.pow_le_pow_right (n := 2) (by decide) hk
    have z2 : (2 : Nat) ≤ 2 ^ k := by simpa using z
    exact_mod_cast z2
  have md : ∀ x : Int, 0 ≤ x % 2 ^ k ∧ x % 2 ^ k < 2 ^ k := fun x => mod_in (by omega)
  match w, h, hl with
  | .none, _, _ => exact ⟨Int.le_refl _, by show (0 : Int) < 2 ^ k; omega⟩
  | .one, _, _ => exact ⟨by show (0 : Int) ≤ 1; omega, by show (1 : Int) < 2 ^ k; omega⟩
  | .all, _, _ => exact ⟨by show (0 : Int) ≤ 2 ^ k - 1; omega, by show (2 : Int) ^ k - 1 < 2 ^ k; omega⟩
  | .not, [a], _ =>
    have ha := hh a (by simp)
    exact ⟨by show (0 : Int) ≤ 2 ^ k - 1 - a; omega, by show (2 : Int) ^ k - 1 - a < 2 ^ k; omega⟩
  | .neg, [a], _ => exact md _
  | .twice, [a], _ => exact md _
  | .add, [a, b], _ => exact md _
  | .sub, [a, b], _ => exact md _
  | .and, [a, b], _ => exact and_in (hh a (by simp)) (hh b (by simp))
  | .or, [a, b], _ => exact or_in (hh a (by simp)) (hh b (by simp))
  | .xor, [a, b], _ => exact xor_in (hh a (by simp)) (hh b (by simp))
theorem valsF_in {k : Nat} (hk : 1 ≤ k) : ∀ {ds : List Dd} {f : List Int}, InT (2 ^ k) f → (∀ (i : Nat) (d : Dd), ds[i]? = some d → d.ns.length = d.w.ar) → InT (2 ^ k) (valsF (2 ^ k) ds f)
  | [], f, h, _ => h
  | d :: ds, f, h, hd => by
    have hp : (0 : Int) < 2 ^ k := Int.pow_pos (by decide)
    refine valsF_in (ds := ds) hk (h.append (dv_in ?_ (h.hand hp) hk)) fun i x hx => hd (i + 1) x (by simpa using hx)
    rw [hand_len]
    exact hd 0 d rfl
theorem valsF_len {top : Int} : ∀ {ds : List Dd} {f : List Int}, (valsF top ds f).length = f.length + ds.length
  | [], f => rfl
  | d :: ds, f => by
    rw [valsF, valsF_len, List.length_append, List.length_cons]
    simp
    omega
theorem valsF_append {top : Int} : ∀ {ds es : List Dd} {f : List Int}, valsF top (ds ++ es) f = valsF top es (valsF top ds f)
  | [], es, f => rfl
  | d :: ds, es, f => by
    rw [List.cons_append, valsF, valsF, valsF_append]
theorem vals_in {k : Nat} {r : Row} {words : List Int} (hk : 1 ≤ k) (hr : RowOk r) (h : InT (2 ^ k) words) : InT (2 ^ k) (vals (2 ^ k) r words) := valsF_in hk h fun i d hd => (hr.ds i d hd).1
theorem vals_len {top : Int} {r : Row} {words : List Int} : (vals top r words).length = words.length + r.deeds.length := valsF_len
/-- the elder values stay -/
theorem valsF_pre {top : Int} : ∀ {ds : List Dd} {f : List Int} {k : Nat}, k < f.length → (valsF top ds f).getD k 0 = f.getD k 0
  | [], f, k, h => rfl
  | d :: ds, f, k, h => by
    rw [valsF, valsF_pre (by rw [List.length_append]; omega)]
    rw [List.getD_eq_getElem?_getD, List.getD_eq_getElem?_getD, List.getElem?_append_left h]
/-- what a number of a value looks up -/
theorem look {f : List Int} {n : Int} (h0 : 0 ≤ n) (h1 : n < f.length) : L2.atI (f.map D.int) n = some (.int (f.getD n.toNat 0)) := by
  rw [atI_int h0, List.getElem?_map, List.getElem?_eq_getElem (show n.toNat < f.length by omega)]
  simp [List.getD_eq_getElem?_getD, show n.toNat < f.length by omega]
end AW

/-! Shown: what repr tells of. -/
namespace AW
open PySem
def rp (d : D) : List Nat := (toP d).shown.cps.toList
structure ShwK (K n L : Nat) (d : D) : Prop where
  p : isP d = true
  s : (toP d).showable = true
  dep : (toP d).depth ≤ n
  lv : (toP d).leavesShort K = true
  w : (toP d).weight ≤ L
abbrev Shw (n L : Nat) (d : D) : Prop := ShwK 25 n L d
theorem ShwK.mono {K n m L M : Nat} {d : D} (h : ShwK K n L d) (hn : n ≤ m) (hL : L ≤ M) : ShwK K m M d := ⟨h.p, h.s, Nat.le_trans h.dep hn, h.lv, Nat.le_trans h.w hL⟩
theorem Shw_big {i : Int} (h : i.natAbs < 2 ^ 200) : ShwK 70 0 200 (.int i) where
  p := rfl
  s := by
    show PyData.showable (.int i) = true
    unfold PyData.showable
    refine decide_eq_true ?_
    by_cases e : i.natAbs = 0
    · rw [e]
      decide
    · have z := (Nat.log2_lt e).mpr h
      omega
  dep := by
    show PyData.depth (.int i) ≤ 0
    unfold PyData.depth
    exact Nat.le_refl _
  lv := by
    show PyData.leavesShort 70 (.int i) = true
    unfold PyData.leavesShort
    refine decide_eq_true ?_
    have e : i.natAbs < 10 ^ 69 := Nat.lt_trans h (by decide)
    show (Str.ofString (toString i)).length ≤ 70
    rw [ofString_length]
    exact int_text_length_le10 (k := 69) (by decide) e
  w := by
    show PyData.weight (.int i) ≤ 200
    unfold PyData.weight
    split
    · decide
    · rename_i e
      have e2 : i.natAbs ≠ 0 := by
        intro z
        have : i = 0 := by omega
        exact e (by rw [this]; rfl)
      have z := (Nat.log2_lt e2).mpr h
      omega
theorem Shw_int {i : Int} (h : i.natAbs < 2 ^ 64) : Shw 0 64 (.int i) where
  p := rfl
  s := by
    show PyData.showable (.int i) = true
    unfold PyData.showable
    refine decide_eq_true ?_
    by_cases e : i.natAbs = 0
    · rw [e]
      decide
    · have z := (Nat.log2_lt e).mpr h
      omega
  dep := by
    show PyData.depth (.int i) ≤ 0
    unfold PyData.depth
    exact Nat.le_refl _
  lv := by
    show PyData.leavesShort 25 (.int i) = true
    unfold PyData.leavesShort
    refine decide_eq_true ?_
    have e : i.natAbs < 10 ^ 24 := Nat.lt_trans h (by decide)
    show (Str.ofString (toString i)).length ≤ 25
    rw [ofString_length]
    exact int_text_length_le10 (k := 24) (by decide) e
  w := by
    show PyData.weight (.int i) ≤ 64
    unfold PyData.weight
    split
    · decide
    · rename_i e
      have e2 : i.natAbs ≠ 0 := by
        intro z
        have : i = 0 := by omega
        exact e (by rw [this]; rfl)
      have z := (Nat.log2_lt e2).mpr h
      omega
theorem Shw.mono {n m L M : Nat} {d : D} (h : Shw n L d) (hn : n ≤ m) (hL : L ≤ M) : Shw m M d := ShwK.mono h hn hL
theorem Shw_bl {b : Bool} : Shw 0 0 (.bl b) := ⟨rfl, by show PyData.showable (.bool b) = true; unfold PyData.showable; rfl, by show PyData.depth (.bool b) ≤ 0; unfold PyData.depth; exact Nat.le_refl _, by show PyData.leavesShort 25 (.bool b) = true; unfold PyData.leavesShort; rfl, by show PyData.weight (.bool b) ≤ 0; unfold PyData.weight; exact Nat.le_refl _⟩
theorem Shw_non : Shw 0 0 .non := ⟨rfl, by show PyData.showable .none = true; unfold PyData.showable; rfl, by show PyData.depth .none ≤ 0; unfold PyData.depth; exact Nat.le_refl _, by show PyData.leavesShort 25 .none = true; unfold PyData.leavesShort; rfl, by show PyData.weight .none ≤ 0; unfold PyData.weight; exact Nat.le_refl _⟩
theorem Shw_str {cs : List Nat} (h : ∀ c ∈ cs, c < 0x110000) : Shw 0 cs.length (.str cs) where
  p := rfl
  s := by show PyData.showable (.str (tx cs)) = true; unfold PyData.showable; rfl
  dep := by show PyData.depth (.str (tx cs)) ≤ 0; unfold PyData.depth; exact Nat.le_refl _
  lv := by
    show PyData.leavesShort 25 (.str (tx cs)) = true
    unfold PyData.leavesShort
    simp only [List.all_eq_true, decide_eq_true_eq]
    intro c hc
    have z := h c (by simpa using hc)
    have e : (16 : Nat) ^ 8 = 4294967296 := by decide
    omega
  w := by
    show PyData.weight (.str (tx cs)) ≤ cs.length
    unfold PyData.weight
    simp
theorem showable_all {xs : List PyData} (h : ∀ x ∈ xs, x.showable = true) : PyData.showableAll xs = true := by
  induction xs with
  | nil => unfold PyData.showableAll; rfl
  | cons a r ih =>
    unfold PyData.showableAll
    rw [h a (List.mem_cons_self ..), ih fun d hd => h d (List.mem_cons_of_mem _ hd)]
    rfl
theorem short_all {K : Nat} {xs : List PyData} (h : ∀ x ∈ xs, x.leavesShort K = true) : PyData.leavesShortAll K xs = true := by
  induction xs with
  | nil => unfold PyData.leavesShortAll; rfl
  | cons a r ih =>
    unfold PyData.leavesShortAll
    rw [h a (List.mem_cons_self ..), ih fun d hd => h d (List.mem_cons_of_mem _ hd)]
    rfl
theorem weight_all {L : Nat} {xs : List PyData} (h : ∀ x ∈ xs, x.weight ≤ L) : PyData.weightAll xs ≤ xs.length * (L + 1) := by
  induction xs with
  | nil => unfold PyData.weightAll; exact Nat.zero_le _
  | cons a r ih =>
    unfold PyData.weightAll
    have h1 := h a (List.mem_cons_self ..)
    have h2 := ih fun d hd => h d (List.mem_cons_of_mem _ hd)
    rw [List.length_cons, Nat.add_mul]
    omega
theorem Shw_seq {K n L k : Nat} {ds : List D} (hk : ds.length ≤ k) (h : ∀ d ∈ ds, ShwK K n L d) : isPs ds = true ∧ PyData.showableAll (toPs ds) = true ∧ PyData.depthAll (toPs ds) ≤ n ∧ PyData.leavesShortAll K (toPs ds) = true ∧ PyData.weightAll (toPs ds) ≤ k * (L + 1) := by
  have m : ∀ x ∈ toPs ds, ∃ d ∈ ds, x = toP d := fun x hx => by
    rw [toPs_map] at hx
    obtain ⟨d, hd, rfl⟩ := List.mem_map.mp hx
    exact ⟨d, hd, rfl⟩
  refine ⟨isPs_all fun d hd => (h d hd).p, showable_all fun x hx => ?_, depth_all fun x hx => ?_, short_all fun x hx => ?_, Nat.le_trans (weight_all (L := L) fun x hx => ?_) ?_⟩
  · obtain ⟨d, hd, rfl⟩ := m x hx
    exact (h d hd).s
  · obtain ⟨d, hd, rfl⟩ := m x hx
    exact (h d hd).dep
  · obtain ⟨d, hd, rfl⟩ := m x hx
    exact (h d hd).lv
  · obtain ⟨d, hd, rfl⟩ := m x hx
    exact (h d hd).w
  · rw [toPs_map, List.length_map]
    exact Nat.mul_le_mul_right _ hk
theorem Shw_lst {K n L : Nat} {o : Bool} {ds : List D} (k : Nat) (hk : ds.length ≤ k) (h : ∀ d ∈ ds, ShwK K n L d) : ShwK K (n + 1) (k * (L + 1)) (.lst o ds) := by
  obtain ⟨h1, h2, h3, h4, h5⟩ := Shw_seq hk h
  refine ⟨h1, ?_, ?_, ?_, ?_⟩
  · show PyData.showable (.list (toPs ds)) = true
    unfold PyData.showable
    exact h2
  · show PyData.depth (.list (toPs ds)) ≤ n + 1
    unfold PyData.depth
    omega
  · show PyData.leavesShort K (.list (toPs ds)) = true
    unfold PyData.leavesShort
    exact h4
  · show PyData.weight (.list (toPs ds)) ≤ _
    unfold PyData.weight
    exact h5
theorem Shw_tup {K n L : Nat} {ds : List D} (k : Nat) (hk : ds.length ≤ k) (h : ∀ d ∈ ds, ShwK K n L d) : ShwK K (n + 1) (k * (L + 1)) (.tup ds) := by
  obtain ⟨h1, h2, h3, h4, h5⟩ := Shw_seq hk h
  refine ⟨h1, ?_, ?_, ?_, ?_⟩
  · show PyData.showable (.tuple (toPs ds)) = true
    unfold PyData.showable
    exact h2
  · show PyData.depth (.tuple (toPs ds)) ≤ n + 1
    unfold PyData.depth
    omega
  · show PyData.leavesShort K (.tuple (toPs ds)) = true
    unfold PyData.leavesShort
    exact h4
  · show PyData.weight (.tuple (toPs ds)) ≤ _
    unfold PyData.weight
    exact h5
theorem dRepr_big {n L : Nat} {d : D} (h : ShwK 70 n L d) (hn : n ≤ 64) (hL : L ≤ 200000) : dRepr d = some (.str (rp d)) := by
  have z := PyData.shown_le 70 (by decide) (toP d) h.lv
  have e : (toP d).shown.length ≤ 16777216 := by
    have w := h.w
    have m := Nat.mul_le_mul_left 72 (Nat.le_trans w hL)
    omega
  unfold dRepr
  rw [h.p, h.s]
  rw [if_pos (by
    rw [Bool.true_and, Bool.true_and, Bool.and_eq_true]
    exact ⟨decide_eq_true e, decide_eq_true (Nat.le_trans h.dep hn)⟩)]
  rfl
theorem dRepr_of {n L : Nat} {d : D} (h : Shw n L d) (hn : n ≤ 64) (hL : L ≤ 600000) : dRepr d = some (.str (rp d)) := by
  have z := PyData.shown_le 25 (by decide) (toP d) h.lv
  have e : (toP d).shown.length ≤ 16777216 := by
    have w := h.w
    have m := Nat.mul_le_mul_left 27 (Nat.le_trans w hL)
    omega
  unfold dRepr
  rw [h.p, h.s]
  rw [if_pos (by
    rw [Bool.true_and, Bool.true_and, Bool.and_eq_true]
    exact ⟨decide_eq_true e, decide_eq_true (Nat.le_trans h.dep hn)⟩)]
  rfl
theorem Shw_ints {o : Bool} {xs : List Int} (k : Nat) (hk : xs.length ≤ k) (h : ∀ x ∈ xs, x.natAbs < 2 ^ 64) : Shw 1 (k * 65) (.lst o (xs.map .int)) := Shw_lst k (by rw [List.length_map]; exact hk) fun d hd => by
  obtain ⟨i, hi, rfl⟩ := List.mem_map.mp hd
  exact Shw_int (h i hi)
theorem Wd.low (w : Wd) : ∀ c ∈ w.txt, c < 0x110000 := by cases w <;> decide
theorem Wd.len (w : Wd) : w.txt.length ≤ 5 := by cases w <;> decide
theorem Shw_encD {d : Dd} {a : Int} (h : DOk a d) (ha : a ≤ 100) : Shw 1 195 (encD d) := by
  refine (Shw_tup (n := 0) (L := 64) 3 ?_ fun x hx => ?_).mono (Nat.le_refl _) (by decide)
  · rw [List.length_cons, List.length_map, h.1]
    cases d.w <;> decide
  · rcases List.mem_cons.mp hx with e | hx
    · subst e
      exact (Shw_str d.w.low).mono (Nat.le_refl _) (Nat.le_trans d.w.len (by decide))
    · obtain ⟨i, hi, rfl⟩ := List.mem_map.mp hx
      have z := h.2 i hi
      exact Shw_int (by have : (2 : Nat) ^ 64 = 18446744073709551616 := by decide
                        omega)
theorem Shw_encR {r : Row} (h : RowOk r) : Shw 3 5000 (encR r) := by
  refine (Shw_tup (n := 2) (L := 1600) 3 (Nat.le_refl _) fun x hx => ?_).mono (Nat.le_refl _) (by decide)
  have h64 : (2 : Nat) ^ 64 = 18446744073709551616 := by decide
  have m1 := h.m1
  have m3 := h.m3
  have o0 := h.o0
  have o1 := h.o1
  have l8 := h.l8
  simp only [List.mem_cons, List.not_mem_nil, or_false] at hx
  rcases hx with e | e | e
  · subst e
    exact (Shw_int (by omega)).mono (by decide) (by decide)
  · subst e
    refine (Shw_tup (n := 1) (L := 195) 8 (by rw [List.length_map]; exact l8) fun y hy => ?_).mono (by decide) (by decide)
    obtain ⟨d, hd, rfl⟩ := List.mem_map.mp hy
    obtain ⟨i, hi⟩ := List.getElem?_of_mem hd
    have z := (List.getElem?_eq_some_iff.mp hi).1
    exact Shw_encD (h.ds i d hi) (by omega)
  · subst e
    exact (Shw_int (by omega)).mono (by decide) (by decide)
end AW

/-! Put: rows put together. -/
namespace AW
open PySem
theorem getD_l {α : Type} {l m : List α} {x : α} {n : Nat} (h : n < l.length) : (l ++ m).getD n x = l.getD n x := by
  rw [List.getD_eq_getElem?_getD, List.getD_eq_getElem?_getD, List.getElem?_append_left h]
theorem getD_r {α : Type} {l m : List α} {x : α} {n : Nat} (h : l.length ≤ n) : (l ++ m).getD n x = m.getD (n - l.length) x := by
  rw [List.getD_eq_getElem?_getD, List.getD_eq_getElem?_getD, List.getElem?_append_right h]
def ren (nums : List Int) (d : Dd) : Dd := ⟨d.w, d.ns.map fun n => nums.getD n.toNat 0⟩
/-- so many whole numbers from one on -/
def rgI (a : Int) (n : Nat) : List Int := (List.range n).map fun (k : Nat) => a + (k : Int)
theorem rgI_len {a : Int} {n : Nat} : (rgI a n).length = n := by simp [rgI]
theorem rgI_get {a : Int} {n k : Nat} (h : k < n) : (rgI a n).getD k 0 = a + (k : Int) := by
  simp [rgI, List.getD_eq_getElem?_getD, h]
/-- the numbers of a row's values -/
def numsI (many : Int) (at_ : Nat) (one : Row) : List Int := rgI 0 many.toNat ++ rgI (many + (at_ : Int)) one.deeds.length
def putS (many : Int) (st : List Dd × List Int) (one : Row) : List Dd × List Int :=
  (st.1 ++ one.deeds.map (ren (numsI many st.1.length one)), st.2 ++ [(numsI many st.1.length one).getD one.out.toNat 0])
def putA (many : Int) (rows : List Row) : List Dd × List Int := rows.foldl (putS many) ([], [])
def numsL (many : Int) (row : Row) (rows : List Row) : List Int := (putA many rows).2 ++ rgI (many + ((putA many rows).1.length : Int)) row.deeds.length
/-- the row put together -/
def putR (row : Row) (rows : List Row) (many : Int) : Row := ⟨many, (putA many rows).1 ++ row.deeds.map (ren (numsL many row rows)), (numsL many row rows).getD row.out.toNat 0⟩
theorem numsI_len {many : Int} {a : Nat} {one : Row} : (numsI many a one).length = many.toNat + one.deeds.length := by
  unfold numsI
  rw [List.length_append, rgI_len, rgI_len]
theorem numsI_get {many : Int} {a : Nat} {one : Row} (hm : 0 ≤ many) {n : Int} (h0 : 0 ≤ n) (h1 : n < many + (one.deeds.length : Int)) : (numsI many a one).getD n.toNat 0 = if n < many then n else n + (a : Int) := by
  unfold numsI
  by_cases h : n < many
  · rw [if_pos h, getD_l (by rw [rgI_len]; omega), rgI_get (by omega)]
    omega
  · rw [if_neg h, getD_r (by rw [rgI_len]; omega), rgI_len, rgI_get (by omega)]
    omega
theorem ren_ok {nums : List Int} {a b : Int} {d : Dd} (hd : DOk a d) (h : ∀ n : Int, 0 ≤ n → n < a → 0 ≤ nums.getD n.toNat 0 ∧ nums.getD n.toNat 0 < b) : DOk b (ren nums d) := by
  refine ⟨by show (d.ns.map _).length = d.w.ar; rw [← hd.1]; exact List.length_map .., fun n hn => ?_⟩
  obtain ⟨m, hm, rfl⟩ := List.mem_map.mp (show n ∈ d.ns.map _ from hn)
  exact h m (hd.2 m hm).1 (hd.2 m hm).2
/-- what is put together so far stands as it ought to -/
structure PutOk (many : Int) (st : List Dd × List Int) : Prop where
  ds : ∀ (i : Nat) (d : Dd), st.1[i]? = some d → DOk (many + (i : Int)) d
  os : ∀ x ∈ st.2, 0 ≤ x ∧ x < many + (st.1.length : Int)
theorem PutOk.step {many : Int} {st : List Dd × List Int} {one : Row} (h : PutOk many st) (hr : RowOk one) (hm : one.many = many) : PutOk many (putS many st one) := by
  have m1 := hr.m1
  refine ⟨fun i d hi => ?_, fun x hx => ?_⟩
  · have hi : (st.1 ++ one.deeds.map (ren (numsI many st.1.length one)))[i]? = some d := hi
    by_cases hl : i < st.1.length
    · rw [List.getElem?_append_left hl] at hi
      exact h.ds i d hi
    · rw [List.getElem?_append_right (by omega), List.getElem?_map] at hi
      obtain ⟨d0, h0, rfl⟩ := Option.map_eq_some_iff.mp hi
      have hb := (List.getElem?_eq_some_iff.mp h0).1
      refine ren_ok (hr.ds _ _ h0) fun n n0 n1 => ?_
      rw [numsI_get (by omega) n0 (by omega)]
      split <;> omega
  · have hx : x ∈ st.2 ++ [(numsI many st.1.length one).getD one.out.toNat 0] := hx
    have hl : ((putS many st one).1.length : Int) = st.1.length + one.deeds.length := by
      show ((st.1 ++ one.deeds.map _).length : Int) = _
      rw [List.length_append, List.length_map]
      omega
    rw [hl]
    rcases List.mem_append.mp hx with hx | hx
    · have := h.os x hx
      omega
    · rw [List.mem_singleton.mp hx]
      have o0 := hr.o0
      have o1 := hr.o1
      rw [numsI_get (by omega) o0 (by omega)]
      split <;> omega
theorem putA_ok {many : Int} {rows : List Row} (hr : ∀ r ∈ rows, RowOk r ∧ r.many = many) : PutOk many (putA many rows) := by
  have key : ∀ (rows : List Row) (st : List Dd × List Int), PutOk many st → (∀ r ∈ rows, RowOk r ∧ r.many = many) → PutOk many (rows.foldl (putS many) st) := by
    intro rows
    induction rows with
    | nil => exact fun st h _ => h
    | cons a r ih => exact fun st h hr => ih _ (h.step (hr a (by simp)).1 (hr a (by simp)).2) fun x hx => hr x (by simp [hx])
  exact key rows _ ⟨fun i d h => by simp at h, fun x hx => by cases hx⟩ hr
theorem putA_append {many : Int} {rows : List Row} {one : Row} : putA many (rows ++ [one]) = putS many (putA many rows) one := by
  unfold putA
  rw [List.foldl_append]
  rfl
theorem putA_out : ∀ {many : Int} {rows : List Row}, (putA many rows).2.length = rows.length := fun {many rows} => by
  have key : ∀ (rows : List Row) (st : List Dd × List Int), (rows.foldl (putS many) st).2.length = st.2.length + rows.length := by
    intro rows
    induction rows with
    | nil => exact fun st => rfl
    | cons a r ih =>
      intro st
      rw [List.foldl_cons, ih]
      show (st.2 ++ [_]).length + r.length = _
      rw [List.length_append, List.length_cons, List.length_cons]
      simp
      omega
  have z := key rows ([], [])
  rw [show (([], []) : List Dd × List Int).2.length = 0 from rfl, Nat.zero_add] at z
  exact z
theorem putA_len : ∀ {many : Int} {rows : List Row}, (putA many rows).1.length = (rows.map (·.deeds.length)).sum := fun {many rows} => by
  have key : ∀ (rows : List Row) (st : List Dd × List Int), (rows.foldl (putS many) st).1.length = st.1.length + (rows.map (·.deeds.length)).sum := by
    intro rows
    induction rows with
    | nil => exact fun st => rfl
    | cons a r ih =>
      intro st
      rw [List.foldl_cons, ih, List.map_cons, List.sum_cons]
      show (st.1 ++ a.deeds.map _).length + _ = _
      rw [List.length_append, List.length_map]
      omega
  have z := key rows ([], [])
  rw [show (([], []) : List Dd × List Int).1.length = 0 from rfl, Nat.zero_add] at z
  exact z
theorem numsL_get {many : Int} {row : Row} {rows : List Row} (hr : ∀ r ∈ rows, RowOk r ∧ r.many = many) (hl : (rows.length : Int) = row.many) {n : Int} (h0 : 0 ≤ n) (h1 : n < row.many + (row.deeds.length : Int)) :
    (n < row.many → 0 ≤ (numsL many row rows).getD n.toNat 0 ∧ (numsL many row rows).getD n.toNat 0 < many + ((putA many rows).1.length : Int)) ∧ (row.many ≤ n → (numsL many row rows).getD n.toNat 0 = many + ((putA many rows).1.length : Int) + (n - row.many)) := by
  have ho : (putA many rows).2.length = rows.length := putA_out
  have h2 : n < row.many → 0 ≤ (numsL many row rows).getD n.toNat 0 ∧ (numsL many row rows).getD n.toNat 0 < many + ((putA many rows).1.length : Int) := fun h => by
    unfold numsL
    rw [getD_l (by omega)]
    refine (putA_ok hr).os _ ?_
    rw [List.getD_eq_getElem?_getD, List.getElem?_eq_getElem (show n.toNat < (putA many rows).2.length by omega)]
    exact List.getElem_mem _
  have h3 : row.many ≤ n → (numsL many row rows).getD n.toNat 0 = many + ((putA many rows).1.length : Int) + (n - row.many) := fun h => by
    unfold numsL
    rw [getD_r (by omega), rgI_get (by omega)]
    omega
  exact ⟨h2, h3⟩
theorem putR_ok {row : Row} {rows : List Row} {many : Int} (h : RowOk row) (hr : ∀ r ∈ rows, RowOk r ∧ r.many = many) (hl : (rows.length : Int) = row.many) (hm1 : 1 ≤ many) (hm3 : many ≤ 3) (h8 : (rows.map (·.deeds.length)).sum + row.deeds.length ≤ 8) : RowOk (putR row rows many) := by
  have lA : (putA many rows).1.length = (rows.map (·.deeds.length)).sum := putA_len
  have ln : (putR row rows many).deeds.length = (putA many rows).1.length + row.deeds.length := by
    show ((putA many rows).1 ++ row.deeds.map _).length = _
    rw [List.length_append, List.length_map]
  refine ⟨hm1, hm3, by omega, fun i d hi => ?_, ?_, ?_⟩
  · have hi : ((putA many rows).1 ++ row.deeds.map (ren (numsL many row rows)))[i]? = some d := hi
    show DOk (many + (i : Int)) d
    by_cases hlt : i < (putA many rows).1.length
    · rw [List.getElem?_append_left hlt] at hi
      exact (putA_ok hr).ds i d hi
    · rw [List.getElem?_append_right (by omega), List.getElem?_map] at hi
      obtain ⟨d0, h0, rfl⟩ := Option.map_eq_some_iff.mp hi
      have hb := (List.getElem?_eq_some_iff.mp h0).1
      refine ren_ok (h.ds _ _ h0) fun n n0 n1 => ?_
      obtain ⟨a2, a3⟩ := numsL_get hr hl n0 (by omega)
      by_cases hn : n < row.many
      · have := a2 hn
        omega
      · rw [a3 (by omega)]
        omega
  · show 0 ≤ (numsL many row rows).getD row.out.toNat 0
    obtain ⟨a2, a3⟩ := numsL_get hr hl h.o0 h.o1
    by_cases hn : row.out < row.many
    · exact (a2 hn).1
    · rw [a3 (by omega)]
      omega
  · show (numsL many row rows).getD row.out.toNat 0 < many + _
    rw [ln]
    obtain ⟨a2, a3⟩ := numsL_get hr hl h.o0 h.o1
    have o1 := h.o1
    by_cases hn : row.out < row.many
    · have := a2 hn
      omega
    · rw [a3 (by omega)]
      omega
end AW

namespace AW
open PySem
def T_renumbered : Tb := ⟨[], [], ["tuple"]⟩
def N_renumbered : List Str := ["deeds", "numbers", "deed", "one"]
def B_renumbered : List S := [
  .ret (.lc [2] [2] false (.seq (.var 0)) (.cst (.bl true)) (.bin .add (.tup (.cons (.idx (.var 2) (.cst (.int 0))) .nil)) (.blt .tuple1 (.cons (.lc [3] [3] false (.seq (.slc (.var 2) (.cst (.int 1)) .non)) (.cst (.bl true)) (.idx (.var 1) (.var 3))) .nil))))]
noncomputable def q_renumbered : Nat → List D → R D := qL []
theorem qe_renumbered : True := trivial
noncomputable def F_renumbered : List D → R D := runF q_renumbered (G0) 70000 4 2 B_renumbered
theorem o_renumbered {x0 x1 : D} {K : D → Env → Prop} (h : wp (execs (q_renumbered) (G0) 70000 B_renumbered [some x0, some x1, none, none]) (fin [] [x0, x1] K)) : wp (F_renumbered [x0, x1]) K := wp_run rfl h
end AW
namespace AW
open PySem
theorem look2 {nums : List Int} {n : Int} (h0 : 0 ≤ n) (h1 : n < nums.length) : L2.atI (nums.map D.int) n = some (.int (nums.getD n.toNat 0)) := look h0 h1
theorem enD_ren {nums : List Int} {d : Dd} : encD (ren nums d) = .tup (.str d.w.txt :: (d.ns.map fun n => nums.getD n.toNat 0).map .int) := rfl
theorem renumbered_ok {t o : Bool} {ds : List Dd} {nums : List Int} {xd : D} {K : D → Env → Prop} (hx : xd = .tup (ds.map encD) ∨ xd = .lst t (ds.map encD)) (hl : ds.length ≤ 8) (hd : ∀ d ∈ ds, d.ns.length = d.w.ar ∧ ∀ n ∈ d.ns, 0 ≤ n ∧ n < nums.length) (k : K (.lst true ((ds.map (ren nums)).map encD)) [some xd, some (.lst o (nums.map .int))]) : wp (F_renumbered [xd, .lst o (nums.map .int)]) K := by
  refine o_renumbered ?_
  unfold B_renumbered
  have hi : ∀ P : List D → Prop, wo (itemsOf xd) P = P (ds.map encD) := fun P => by
    rcases hx with e | e <;> rw [e]
    · rw [items_t, nOs_deeds]; exact propext ⟨fun h => h.2, fun h => ⟨rfl, h⟩⟩
    · rw [items_l, nOs_deeds]; exact propext ⟨fun h => h.2, fun h => ⟨rfl, h⟩⟩
  simp only [awW, awV, awO, awX, awZ, forall_const, implies_true, ↓reduceIte, reduceCtorEq, Nat.reduceAdd, Nat.reduceSub, Nat.reduceBEq, Nat.reduceEqDiff, Int.reduceNeg, qe_renumbered, hi, awR]
  refine ⟨by rw [List.length_map]; show ds.length ≤ 16777216; omega, ?_⟩
  refine lcL_all (g := encD) (k := fun d => encD (ren nums d)) ?_ ?_ ?_
  · exact rfl
  · rw [List.map_map] at k
    simp only [awW, awV, awO, awX, awZ, forall_const, implies_true, ↓reduceIte, reduceCtorEq, Nat.reduceAdd, Nat.reduceSub, Nat.reduceBEq, Nat.reduceEqDiff, Int.reduceNeg, qe_renumbered]
    exact k
  · intro d hdm
    obtain ⟨h1, h2⟩ := hd d hdm
    have h3 : d.w.ar ≤ 2 := by cases d.w <;> decide
    simp only [awW, awV, awO, awX, awZ, forall_const, implies_true, ↓reduceIte, reduceCtorEq, Nat.reduceAdd, Nat.reduceSub, Nat.reduceBEq, Nat.reduceEqDiff, Int.reduceNeg, qe_renumbered, awR]
    refine ⟨by rw [List.length_map]; show d.ns.length ≤ 16777216; omega, ?_⟩
    refine lcL_all (g := .int) (k := fun n => .int (nums.getD n.toNat 0)) trivial ?_ ?_
    · have n1 : noOwns (d.ns.map fun n => D.int (nums.getD n.toNat 0)) = true := nOs_map fun _ _ => rfl
      simp only [awW, awV, awO, awX, awZ, forall_const, implies_true, ↓reduceIte, reduceCtorEq, Nat.reduceAdd, Nat.reduceSub, Nat.reduceBEq, Nat.reduceEqDiff, Int.reduceNeg, qe_renumbered, okFs_of _ n1, fzs_of _ n1, n1]
      refine ⟨decide_eq_true (by rw [List.length_map]; show 1 + d.ns.length ≤ 16777216; omega), ?_⟩
      rw [enD_ren, List.map_map]
      rfl
    · intro n hn
      simp only [awW, awV, awO, awX, awZ, forall_const, implies_true, ↓reduceIte, reduceCtorEq, Nat.reduceAdd, Nat.reduceSub, Nat.reduceBEq, Nat.reduceEqDiff, Int.reduceNeg, qe_renumbered, look2 (h2 n hn).1 (h2 n hn).2]
end AW

namespace AW
open PySem
def T_put_together : Tb := ⟨["renumbered"], ["NoPair", "MOST_DEEDS", "TooMany"], ["all", "len", "sum", "list", "range", "tuple"]⟩
def N_put_together : List Str := ["row", "rows", "many", "deeds", "outs", "one", "numbers", "k"]
def B_put_together_1 : List S := [
  .rse 0]
def B_put_together_2 : List S := [
  .rse 2]
def B_put_together_3 : List S := [
  .asg [6] false (.bin .add (.sp .lrng1 (.cons (.var 2) .nil)) (.lc [7] [7] false (.rng1 (.blt .len (.cons (.idx (.var 5) (.cst (.int 1))) .nil))) (.cst (.bl true)) (.bin .add (.bin .add (.var 2) (.blt .len (.cons (.var 3) .nil))) (.var 7)))),
  .exp (.met .extend1 (.var 3) (.cons (.call 0 (.cons (.idx (.var 5) (.cst (.int 1))) (.cons (.var 6) .nil))) .nil)),
  .exp (.met .append (.var 4) (.cons (.idx (.var 6) (.idx (.var 5) (.cst (.int 2)))) .nil))]
def B_put_together_4 : List S := [
  .asg [6] false (.bin .add (.var 4) (.lc [7] [7] false (.rng1 (.blt .len (.cons (.idx (.var 0) (.cst (.int 1))) .nil))) (.cst (.bl true)) (.bin .add (.bin .add (.var 2) (.blt .len (.cons (.var 3) .nil))) (.var 7)))),
  .exp (.met .extend1 (.var 3) (.cons (.call 0 (.cons (.idx (.var 0) (.cst (.int 1))) (.cons (.var 6) .nil))) .nil)),
  .ret (.tup (.cons (.mv 2) (.cons (.blt .tuple1 (.cons (.var 3) .nil)) (.cons (.idx (.var 6) (.idx (.var 0) (.cst (.int 2)))) .nil))))]
def B_put_together_5 : List S := 
  .asg [2] false (.idx (.idx (.var 1) (.cst (.int 0))) (.cst (.int 0))) ::
  .asg [3] false (.lst .nil) ::
  .asg [4] false (.lst .nil) ::
  .for_ [5] false (.seq (.var 1)) B_put_together_3 ::
  B_put_together_4
def B_put_together_6 : List S := 
  .iff (.cmp .gt (.bin .add (.blt .sum1 (.cons (.lc [5] [5] false (.seq (.var 1)) (.cst (.bl true)) (.blt .len (.cons (.idx (.var 5) (.cst (.int 1))) .nil))) .nil)) (.blt .len (.cons (.idx (.var 0) (.cst (.int 1))) .nil))) (.glo 1)) B_put_together_2 [] ::
  B_put_together_5
def B_put_together : List S := 
  .iff (.or_ (.cons (.cmp .ne (.blt .len (.cons (.var 1) .nil)) (.idx (.var 0) (.cst (.int 0)))) (.cons (.not_ (.blt .all1 (.cons (.lc [5] [5] false (.seq (.var 1)) (.cst (.bl true)) (.cmp .eq (.idx (.var 5) (.cst (.int 0))) (.idx (.idx (.var 1) (.cst (.int 0))) (.cst (.int 0))))) .nil))) .nil))) B_put_together_1 [] ::
  B_put_together_6
noncomputable def q_put_together : Nat → List D → R D := qL [F_renumbered]
theorem qe_put_together : q_put_together 0 = F_renumbered := rfl
noncomputable def F_put_together : List D → R D := runF q_put_together (gL [.fn 2, .int (8), .fn 10]) 70000 8 2 B_put_together
theorem o_put_together {x0 x1 : D} {K : D → Env → Prop} (h : wp (execs (q_put_together) (gL [.fn 2, .int (8), .fn 10]) 70000 B_put_together [some x0, some x1, none, none, none, none, none, none]) (fin [2, 3, 4, 5, 6, 6] [x0, x1] K)) : wp (F_put_together [x0, x1]) K := wp_run rfl h
end AW
namespace AW
open PySem
theorem sum_lens {rs : List Row} : (rs.map fun r => (r.deeds.length : Int)).sum = ((rs.map (·.deeds.length)).sum : Nat) := by
  induction rs with
  | nil => rfl
  | cons a r ih =>
    rw [List.map_cons, List.sum_cons, ih, List.map_cons, List.sum_cons]
    omega
theorem rngD_rgI {a : Int} {n : Nat} : rngD a n = (rgI a n).map .int := by
  unfold rngD rgI
  rw [List.map_map]
  rfl
theorem rgI_add {c : Int} {n : Nat} : ((rgI 0 n).map fun j => D.int (c + j)) = (rgI c n).map .int := by
  unfold rgI
  rw [List.map_map, List.map_map]
  refine List.map_congr_left fun k _ => ?_
  show D.int (c + (0 + (k : Int))) = .int (c + (k : Int))
  rw [Int.zero_add]
theorem put_together_ok {o : Bool} {row : Row} {r0 : Row} {rs : List Row} {K : D → Env → Prop} (h : RowOk row) (hr : ∀ r ∈ r0 :: rs, RowOk r ∧ r.many = r0.many) (hl : ((r0 :: rs).length : Int) = row.many) (h8 : ((r0 :: rs).map (·.deeds.length)).sum + row.deeds.length ≤ 8) (k : K (encR (putR row (r0 :: rs) r0.many)) [some (encR row), some (.lst o ((r0 :: rs).map encR))]) : wp (F_put_together [encR row, .lst o ((r0 :: rs).map encR)]) K := by
  refine o_put_together ?_
  unfold B_put_together
  have m0 := (hr r0 (by simp)).1
  have m1 := m0.m1
  have m3 := m0.m3
  have rm3 := h.m3
  have hn : noOwns ((r0 :: rs).map encR) = true := nOs_map fun _ _ => nO_encR
  have e0 : L2.atI ((r0 :: rs).map encR) 0 = some (encR r0) := by rw [atI_int (by decide)]; rfl
  have hll : ((r0 :: rs).map encR).length ≤ 16777216 := by rw [List.length_map]; omega
  have hlen : (((r0 :: rs).map encR).length : Int) = row.many := by rw [List.length_map]; exact hl
  have hall : ∀ (rs' : List Row), (∀ r ∈ rs', r.many = r0.many) → (rs'.map fun r => decide (r.many = r0.many)) = rs'.map fun _ => true := fun rs' hh => List.map_congr_left fun r hx => decide_eq_true (hh r hx)
  generalize hR : r0 :: rs = R at *
  have hrm : ∀ r ∈ R, r.many = r0.many := fun r hx => (hr r hx).2
  simp only [awW, awV, awO, awX, awZ, forall_const, implies_true, ↓reduceIte, reduceCtorEq, Nat.reduceAdd, Nat.reduceSub, Nat.reduceBEq, Nat.reduceEqDiff, Int.reduceNeg, qe_put_together, v_lenL, awR, hlen, v_ne]
  refine ⟨hn, hll, ?_⟩
  refine lcL_all (g := encR) (k := fun _ => .bl true) rfl ?_ ?_
  · have ea : (R.map fun _ => D.bl true) = (R.map fun _ => true).map .bl := by rw [List.map_map]; rfl
    have n1 : noOwns ((R.map fun _ => true).map D.bl) = true := nOs_map fun _ _ => rfl
    have al : ((R.map fun _ => true).all id) = true := List.all_eq_true.mpr fun x hx => by
      obtain ⟨_, _, rfl⟩ := List.mem_map.mp hx
      rfl
    rw [ea]
    simp only [awW, awV, awO, awX, awZ, forall_const, implies_true, ↓reduceIte, reduceCtorEq, Nat.reduceAdd, Nat.reduceSub, Nat.reduceBEq, Nat.reduceEqDiff, Int.reduceNeg, qe_put_together, okFs_of _ n1, fzs_of _ n1, allBls_map, al]
    unfold B_put_together_6
    simp only [awW, awV, awO, awX, awZ, forall_const, implies_true, ↓reduceIte, reduceCtorEq, Nat.reduceAdd, Nat.reduceSub, Nat.reduceBEq, Nat.reduceEqDiff, Int.reduceNeg, qe_put_together, awR]
    refine ⟨hn, hll, ?_⟩
    refine lcL_all (g := encR) (k := fun r => .int (r.deeds.length : Nat)) rfl ?_ ?_
    · have ea : (R.map fun r => D.int ((r.deeds.length : Nat) : Int)) = (R.map fun r => ((r.deeds.length : Nat) : Int)).map .int := by rw [List.map_map]; rfl
      rw [ea]
      simp only [awW, awV, awO, awX, awZ, forall_const, implies_true, ↓reduceIte, reduceCtorEq, Nat.reduceAdd, Nat.reduceSub, Nat.reduceBEq, Nat.reduceEqDiff, Int.reduceNeg, qe_put_together, okFs_ints, fzs_ints, allInts_map, sum_lens, awR, List.length_map, show gL [D.fn 2, D.int 8, D.fn 10] 1 = .int 8 from rfl]
      refine ⟨fun hz => absurd hz (by omega), fun _ => ?_⟩
      unfold B_put_together_5
      simp only [awW, awV, awO, awX, awZ, forall_const, implies_true, ↓reduceIte, reduceCtorEq, Nat.reduceAdd, Nat.reduceSub, Nat.reduceBEq, Nat.reduceEqDiff, Int.reduceNeg, qe_put_together, awR, e0]
      refine ⟨hn, ?_⟩
      have sz : ∀ pre : List Row, (∃ as, R = pre ++ as) → (putA r0.many pre).1.length ≤ 8 ∧ (putA r0.many pre).2.length ≤ 3 := fun pre ⟨as, e⟩ => by
        rw [putA_len, putA_out]
        rw [e, List.map_append, List.sum_append] at h8
        rw [e, List.length_append] at hl
        omega
      refine forL_map (fun as e => ∃ pre x5 x6, R = pre ++ as ∧ e = [some (encR row), some (.lst o (R.map encR)), some (.int r0.many), some (.lst true ((putA r0.many pre).1.map encD)), some (.lst true ((putA r0.many pre).2.map .int)), x5, x6, none]) ⟨[], none, none, rfl, rfl⟩ ?_ ?_
      · rintro e ⟨pre, x5, x6, hp, rfl⟩
        refine ⟨rfl, ?_⟩
        rw [List.append_nil] at hp
        obtain ⟨z1, z2⟩ := sz pre ⟨[], by rw [hp, List.append_nil]⟩
        unfold B_put_together_4
        rw [← hp]
        have hz8 := h.l8
        have hnr : ∀ d ∈ row.deeds, d.ns.length = d.w.ar ∧ ∀ n ∈ d.ns, 0 ≤ n ∧ n < (numsL r0.many row R).length := fun d hd => by
          obtain ⟨i, hi⟩ := List.getElem?_of_mem hd
          have hb := (List.getElem?_eq_some_iff.mp hi).1
          obtain ⟨a1, a2⟩ := h.ds i d hi
          refine ⟨a1, fun n hn => ⟨(a2 n hn).1, ?_⟩⟩
          have := (a2 n hn).2
          unfold numsL
          rw [List.length_append, rgI_len, putA_out]
          omega
        have hlo : L2.atI ((numsL r0.many row R).map D.int) row.out = some (.int ((numsL r0.many row R).getD row.out.toNat 0)) := look2 h.o0 (by
          have := h.o1
          unfold numsL
          rw [List.length_append, rgI_len, putA_out]
          omega)
        rw [← hp] at z1 z2
        simp only [awW, awV, awO, awX, awZ, forall_const, implies_true, ↓reduceIte, reduceCtorEq, Nat.reduceAdd, Nat.reduceSub, Nat.reduceBEq, Nat.reduceEqDiff, Int.reduceNeg, qe_put_together, awR, List.length_map, rngD_rgI]
        refine ⟨by omega, by rw [rgI_len]; show ((row.deeds.length : Nat) : Int).toNat ≤ 16777216; omega, ?_⟩
        refine lcL_all (g := .int) (k := fun j => .int (r0.many + ((putA r0.many R).1.length : Nat) + j)) trivial ?_ ?_
        · rw [rgI_add, Int.toNat_natCast]
          simp only [awW, awV, awO, awX, awZ, forall_const, implies_true, ↓reduceIte, reduceCtorEq, Nat.reduceAdd, Nat.reduceSub, Nat.reduceBEq, Nat.reduceEqDiff, Int.reduceNeg, qe_put_together, awR, okFs_ints, fzs_ints, nOs_ints, ← List.map_append, show (putA r0.many R).2 ++ rgI (r0.many + ((putA r0.many R).1.length : Nat)) row.deeds.length = numsL r0.many row R from rfl]
          refine ⟨decide_eq_true (by rw [List.length_map, List.length_map, rgI_len]; show _ ≤ 16777216; omega), ?_⟩
          refine renumbered_ok (t := true) (.inl rfl) hz8 hnr ?_
          have nD : noOwns ((row.deeds.map (ren (numsL r0.many row R))).map encD) = true := nOs_deeds
          simp only [awW, awV, awO, awX, awZ, forall_const, implies_true, ↓reduceIte, reduceCtorEq, Nat.reduceAdd, Nat.reduceSub, Nat.reduceBEq, Nat.reduceEqDiff, Int.reduceNeg, qe_put_together, awR, nD, fzs_of _ nD, okFs_of _ nD]
          refine ⟨decide_eq_true (by rw [List.length_map, List.length_map, List.length_map]; show _ ≤ 16777216; omega), ?_⟩
          rw [← List.map_append]
          simp only [awW, awV, awO, awX, awZ, forall_const, implies_true, ↓reduceIte, reduceCtorEq, Nat.reduceAdd, Nat.reduceSub, Nat.reduceBEq, Nat.reduceEqDiff, Int.reduceNeg, qe_put_together, nOs_deeds, okFs_deeds, fzs_deeds, hlo]
          exact k
        · intro j hj
          simp only [awW, awV, awO, awX, awZ, forall_const, implies_true, ↓reduceIte, reduceCtorEq, Nat.reduceAdd, Nat.reduceSub, Nat.reduceBEq, Nat.reduceEqDiff, Int.reduceNeg, qe_put_together, List.length_map]
      · rintro one as e _ ⟨pre, x5, x6, hp, rfl⟩
        refine ⟨rfl, ?_⟩
        obtain ⟨z1, z2⟩ := sz pre ⟨one :: as, hp⟩
        obtain ⟨ho, hm⟩ := hr one (by rw [hp]; simp)
        have hz8 := ho.l8
        unfold B_put_together_3
        have hr1 : (r0.many < 2 ^ 62 ∧ -(2 ^ 62) < r0.many ∧ (0 : Int) < 2 ^ 62 ∧ -(2 ^ 62) < (0 : Int) ∧ r0.many - 0 ≤ SZ) := ⟨by omega, by omega, by decide, by decide, by show r0.many - 0 ≤ 16777216; omega⟩
        have hnr : ∀ d ∈ one.deeds, d.ns.length = d.w.ar ∧ ∀ n ∈ d.ns, 0 ≤ n ∧ n < (numsI r0.many (putA r0.many pre).1.length one).length := fun d hd => by
          obtain ⟨i, hi⟩ := List.getElem?_of_mem hd
          have hb := (List.getElem?_eq_some_iff.mp hi).1
          obtain ⟨a1, a2⟩ := ho.ds i d hi
          refine ⟨a1, fun n hn => ⟨(a2 n hn).1, ?_⟩⟩
          have := (a2 n hn).2
          rw [numsI_len]
          omega
        have hlo : L2.atI ((numsI r0.many (putA r0.many pre).1.length one).map D.int) one.out = some (.int ((numsI r0.many (putA r0.many pre).1.length one).getD one.out.toNat 0)) := look2 ho.o0 (by
          have := ho.o1
          rw [numsI_len]
          omega)
        simp only [awW, awV, awO, awX, awZ, forall_const, implies_true, ↓reduceIte, reduceCtorEq, Nat.reduceAdd, Nat.reduceSub, Nat.reduceBEq, Nat.reduceEqDiff, Int.reduceNeg, qe_put_together, hr1, awR, List.length_map, rngD_rgI, okFs_ints, show (r0.many - 0).toNat = r0.many.toNat by rw [Int.sub_zero]]
        refine ⟨⟨by omega, by omega⟩, by rw [rgI_len]; show ((one.deeds.length : Nat) : Int).toNat ≤ 16777216; omega, ?_⟩
        refine lcL_all (g := .int) (k := fun j => .int (r0.many + ((putA r0.many pre).1.length : Nat) + j)) trivial ?_ ?_
        · rw [rgI_add, Int.toNat_natCast]
          simp only [awW, awV, awO, awX, awZ, forall_const, implies_true, ↓reduceIte, reduceCtorEq, Nat.reduceAdd, Nat.reduceSub, Nat.reduceBEq, Nat.reduceEqDiff, Int.reduceNeg, qe_put_together, awR, rngD_rgI, show (r0.many - 0).toNat = r0.many.toNat by rw [Int.sub_zero], okFs_ints, fzs_ints, nOs_ints, ← List.map_append, show rgI 0 r0.many.toNat ++ rgI (r0.many + ((putA r0.many pre).1.length : Nat)) one.deeds.length = numsI r0.many (putA r0.many pre).1.length one from rfl]
          refine ⟨decide_eq_true (by rw [List.length_map, List.length_map, rgI_len, rgI_len]; show _ ≤ 16777216; omega), ?_⟩
          refine renumbered_ok (t := true) (.inl rfl) hz8 hnr ?_
          have nD : noOwns ((one.deeds.map (ren (numsI r0.many (putA r0.many pre).1.length one))).map encD) = true := nOs_deeds
          simp only [awW, awV, awO, awX, awZ, forall_const, implies_true, ↓reduceIte, reduceCtorEq, Nat.reduceAdd, Nat.reduceSub, Nat.reduceBEq, Nat.reduceEqDiff, Int.reduceNeg, qe_put_together, awR, nD, fzs_of _ nD, okFs_of _ nD, hlo]
          refine ⟨decide_eq_true (by rw [List.length_map, List.length_map, List.length_map]; show _ ≤ 16777216; omega), ?_⟩
          refine ⟨by rw [List.length_map]; show (putA r0.many pre).2.length < 16777216; omega, pre ++ [one], some (encR one), some (.lst true ((numsI r0.many (putA r0.many pre).1.length one).map .int)), by rw [hp, List.append_assoc]; rfl, ?_⟩
          have q1 : (putA r0.many (pre ++ [one])).1.map encD = (putA r0.many pre).1.map encD ++ (one.deeds.map (ren (numsI r0.many (putA r0.many pre).1.length one))).map encD := by
            rw [putA_append]
            exact List.map_append
          have q2 : (putA r0.many (pre ++ [one])).2.map D.int = (putA r0.many pre).2.map .int ++ [.int ((numsI r0.many (putA r0.many pre).1.length one).getD one.out.toNat 0)] := by
            rw [putA_append]
            exact List.map_append
          rw [q1, q2]
        · intro j hj
          simp only [awW, awV, awO, awX, awZ, forall_const, implies_true, ↓reduceIte, reduceCtorEq, Nat.reduceAdd, Nat.reduceSub, Nat.reduceBEq, Nat.reduceEqDiff, Int.reduceNeg, qe_put_together, List.length_map]
    · intro r hrm'
      simp only [awW, awV, awO, awX, awZ, forall_const, implies_true, ↓reduceIte, reduceCtorEq, Nat.reduceAdd, Nat.reduceSub, Nat.reduceBEq, Nat.reduceEqDiff, Int.reduceNeg, qe_put_together, awR, List.length_map]
  · intro r hrm'
    have e1 := hrm r hrm'
    simp only [awW, awV, awO, awX, awZ, forall_const, implies_true, ↓reduceIte, reduceCtorEq, Nat.reduceAdd, Nat.reduceSub, Nat.reduceBEq, Nat.reduceEqDiff, Int.reduceNeg, qe_put_together, awR, e0, decide_eq_true e1]
end AW
namespace AW
open PySem
/-- the rows do not go together -/
theorem put_together_pair {o : Bool} {row : Row} {rs : List Row} (h : RowOk row) (hz : rs.length ≤ 10) (hr : ∀ r ∈ rs, RowOk r) (hb : (rs.length : Int) ≠ row.many ∨ ∃ r0 q, rs = r0 :: q ∧ ∃ r ∈ q, r.many ≠ r0.many) : wx (F_put_together [encR row, .lst o (rs.map encR)]) 1 fun e => e = [some (encR row), some (.lst o (rs.map encR))] := by
  refine wx_run rfl ?_
  have key : ∀ X : Env → Prop, X [some (encR row), some (.lst o (rs.map encR)), none, none, none, none, none, none] → wx (execs q_put_together (gL [.fn 2, .int 8, .fn 10]) 70000 B_put_together [some (encR row), some (.lst o (rs.map encR)), none, none, none, none, none, none]) 1 X := fun X hX => ?_
  · exact key _ rfl
  unfold B_put_together
  refine wx_head (wx_iff ?_)
  have hn : noOwns (rs.map encR) = true := nOs_map fun _ _ => nO_encR
  have end_ : wx (execs q_put_together (gL [.fn 2, .int 8, .fn 10]) 70000 B_put_together_1 [some (encR row), some (.lst o (rs.map encR)), none, none, none, none, none, none]) 1 X := by
    unfold B_put_together_1
    exact wx_head (wx_rse (c := 1) rfl (by decide) hX)
  by_cases hl : (rs.length : Int) = row.many
  · obtain ⟨r0, q, hq, r1, hr1, hne⟩ := hb.resolve_left (fun z => z hl)
    have e0 : L2.atI (rs.map encR) 0 = some (encR r0) := by rw [hq, atI_int (by decide)]; rfl
    have hlen : ((rs.map encR).length : Int) = row.many := by rw [List.length_map]; exact hl
    simp only [awW, awV, awO, awX, awZ, forall_const, implies_true, ↓reduceIte, reduceCtorEq, Nat.reduceAdd, Nat.reduceSub, Nat.reduceBEq, Nat.reduceEqDiff, Int.reduceNeg, qe_put_together, v_lenL, awR, hlen, v_ne]
    refine ⟨hn, by rw [List.length_map]; show _ ≤ 16777216; omega, ?_⟩
    refine lcL_all (g := encR) (k := fun r => .bl (decide (r.many = r0.many))) (by first | trivial | rfl) ?_ ?_
    · have ea : (rs.map fun r => D.bl (decide (r.many = r0.many))) = (rs.map fun r => decide (r.many = r0.many)).map .bl := by rw [List.map_map]; rfl
      have n1 : noOwns ((rs.map fun r => decide (r.many = r0.many)).map D.bl) = true := nOs_map fun _ _ => rfl
      have al : ((rs.map fun r => decide (r.many = r0.many)).all id) = false := by
        refine Bool.eq_false_iff.mpr fun z => hne ?_
        have w := List.all_eq_true.mp z (decide (r1.many = r0.many)) (List.mem_map_of_mem (by rw [hq]; exact List.mem_cons_of_mem _ hr1))
        exact of_decide_eq_true w
      rw [ea]
      simp only [awW, awV, awO, awX, awZ, forall_const, implies_true, ↓reduceIte, reduceCtorEq, Nat.reduceAdd, Nat.reduceSub, Nat.reduceBEq, Nat.reduceEqDiff, Int.reduceNeg, qe_put_together, okFs_of _ n1, fzs_of _ n1, allBls_map, al]
      exact .inl end_
    · intro r hr2
      simp only [awW, awV, awO, awX, awZ, forall_const, implies_true, ↓reduceIte, reduceCtorEq, Nat.reduceAdd, Nat.reduceSub, Nat.reduceBEq, Nat.reduceEqDiff, Int.reduceNeg, qe_put_together, awR, e0, hn]
  · have hlen : ¬ ((rs.map encR).length : Int) = row.many := by rw [List.length_map]; exact hl
    simp only [awW, awV, awO, awX, awZ, forall_const, implies_true, ↓reduceIte, reduceCtorEq, Nat.reduceAdd, Nat.reduceSub, Nat.reduceBEq, Nat.reduceEqDiff, Int.reduceNeg, qe_put_together, v_lenL, awR, hlen, v_ne]
    exact .inl end_
end AW
namespace AW
open PySem
/-- too many deeds -/
theorem put_together_many {o : Bool} {row r0 : Row} {rs : List Row} (h : RowOk row) (hr : ∀ r ∈ r0 :: rs, RowOk r ∧ r.many = r0.many) (hl : ((r0 :: rs).length : Int) = row.many) (h8 : 8 < ((r0 :: rs).map (·.deeds.length)).sum + row.deeds.length) : wx (F_put_together [encR row, .lst o ((r0 :: rs).map encR)]) 5 fun e => e = [some (encR row), some (.lst o ((r0 :: rs).map encR))] := by
  refine wx_run rfl ?_
  have key : ∀ X : Env → Prop, X [some (encR row), some (.lst o ((r0 :: rs).map encR)), none, none, none, none, none, none] → wx (execs q_put_together (gL [.fn 2, .int 8, .fn 10]) 70000 B_put_together [some (encR row), some (.lst o ((r0 :: rs).map encR)), none, none, none, none, none, none]) 5 X := fun X hX => ?_
  · exact key _ rfl
  have m0 := (hr r0 (by simp)).1
  have rm3 := h.m3
  have hn : noOwns ((r0 :: rs).map encR) = true := nOs_map fun _ _ => nO_encR
  have e0 : L2.atI ((r0 :: rs).map encR) 0 = some (encR r0) := by rw [atI_int (by decide)]; rfl
  have hll : ((r0 :: rs).map encR).length ≤ 16777216 := by rw [List.length_map]; omega
  have hlen : (((r0 :: rs).map encR).length : Int) = row.many := by rw [List.length_map]; exact hl
  generalize hR : r0 :: rs = R at *
  have hrm : ∀ r ∈ R, r.many = r0.many := fun r hx => (hr r hx).2
  unfold B_put_together
  refine wx_tail ?_
  simp only [awW, awV, awO, awX, awZ, forall_const, implies_true, ↓reduceIte, reduceCtorEq, Nat.reduceAdd, Nat.reduceSub, Nat.reduceBEq, Nat.reduceEqDiff, Int.reduceNeg, qe_put_together, v_lenL, awR, hlen, v_ne]
  refine ⟨hn, hll, ?_⟩
  refine lcL_all (g := encR) (k := fun _ => .bl true) (by first | trivial | rfl) ?_ ?_
  · have ea : (R.map fun _ => D.bl true) = (R.map fun _ => true).map .bl := by rw [List.map_map]; rfl
    have n1 : noOwns ((R.map fun _ => true).map D.bl) = true := nOs_map fun _ _ => rfl
    have al : ((R.map fun _ => true).all id) = true := List.all_eq_true.mpr fun x hx => by
      obtain ⟨_, _, rfl⟩ := List.mem_map.mp hx
      rfl
    rw [ea]
    simp only [awW, awV, awO, awX, awZ, forall_const, implies_true, ↓reduceIte, reduceCtorEq, Nat.reduceAdd, Nat.reduceSub, Nat.reduceBEq, Nat.reduceEqDiff, Int.reduceNeg, qe_put_together, okFs_of _ n1, fzs_of _ n1, allBls_map, al]
    unfold B_put_together_6
    refine wx_head (wx_iff ?_)
    simp only [awW, awV, awO, awX, awZ, forall_const, implies_true, ↓reduceIte, reduceCtorEq, Nat.reduceAdd, Nat.reduceSub, Nat.reduceBEq, Nat.reduceEqDiff, Int.reduceNeg, qe_put_together, awR]
    refine ⟨hn, hll, ?_⟩
    refine lcL_all (g := encR) (k := fun r => .int (r.deeds.length : Nat)) (by first | trivial | rfl) ?_ ?_
    · have ea : (R.map fun r => D.int ((r.deeds.length : Nat) : Int)) = (R.map fun r => ((r.deeds.length : Nat) : Int)).map .int := by rw [List.map_map]; rfl
      rw [ea]
      have hgt : (8 : Int) < ((R.map (·.deeds.length)).sum : Nat) + (row.deeds.length : Int) := by omega
      simp only [awW, awV, awO, awX, awZ, forall_const, implies_true, ↓reduceIte, reduceCtorEq, Nat.reduceAdd, Nat.reduceSub, Nat.reduceBEq, Nat.reduceEqDiff, Int.reduceNeg, qe_put_together, okFs_ints, fzs_ints, allInts_map, sum_lens, awR, List.length_map, show gL [D.fn 2, D.int 8, D.fn 10] 1 = .int 8 from rfl, hgt]
      refine .inl ?_
      unfold B_put_together_2
      exact wx_head (wx_rse (c := 5) rfl (by decide) hX)
    · intro r hr2
      simp only [awW, awV, awO, awX, awZ, forall_const, implies_true, ↓reduceIte, reduceCtorEq, Nat.reduceAdd, Nat.reduceSub, Nat.reduceBEq, Nat.reduceEqDiff, Int.reduceNeg, qe_put_together, awR, List.length_map]
  · intro r hrm'
    have e1 := hrm r hrm'
    simp only [awW, awV, awO, awX, awZ, forall_const, implies_true, ↓reduceIte, reduceCtorEq, Nat.reduceAdd, Nat.reduceSub, Nat.reduceBEq, Nat.reduceEqDiff, Int.reduceNeg, qe_put_together, awR, e0, hn, e1]
end AW

/-! Well: what is drawn from. -/
namespace AW
open PySem
def encW (cs : List Int) (c s : Int) : D := .lst true [.lst true (cs.map .int), .int c, .int s]
/-- a well -/
def IsW (d : D) : Prop := ∃ cs c s, d = encW cs c s ∧ (∀ i ∈ cs, 0 ≤ i) ∧ 0 ≤ c ∧ 0 ≤ s ∧ s < 2 ^ 31
theorem encW_eq (cs : List Int) (c s : Int) : encW cs c s = .lst true [.lst true (cs.map .int), .int c, .int s] := rfl
theorem map_eraseIdx0 {cs : List Int} {a : Int} : ((a :: cs).map D.int).eraseIdx 0 = cs.map .int := rfl
theorem seqIx0 {n : Nat} : seqIndex? 0 (n + 1) = some 0 := by
  unfold seqIndex?
  simp
end AW

namespace AW
open PySem
def T_u_law_well : Tb := ⟨[], [], ["abs"]⟩
def N_u_law_well : List Str := ["script", "seed", "cell"]
def B_u_law_well_1 : List S := [
  .asg [1] false (.bin .add (.bin .mod (.bin .pow (.bin .add (.bin .mul (.var 1) (.cst (.int 50021))) (.var 2)) (.cst (.int 3))) (.cst (.int 2147483629))) (.cst (.int 1)))]
def B_u_law_well_2 : List S := [
  .ret (.lst (.cons (.lc [2] [2] false (.seq (.var 0)) (.cst (.bl true)) (.blt .abs (.cons (.var 2) .nil))) (.cons (.cst (.int 0)) (.cons (.mv 1) .nil))))]
def B_u_law_well : List S := 
  .asg [1] false (.cst (.int 1)) ::
  .for_ [2] false (.seq (.var 0)) B_u_law_well_1 ::
  B_u_law_well_2
noncomputable def q_u_law_well : Nat → List D → R D := qL []
theorem qe_u_law_well : True := trivial
noncomputable def F_u_law_well : List D → R D := runF q_u_law_well (G0) 70000 3 1 B_u_law_well
theorem o_u_law_well {x0 : D} {K : D → Env → Prop} (h : wp (execs (q_u_law_well) (G0) 70000 B_u_law_well [some x0, none, none]) (fin [1, 2, 1] [x0] K)) : wp (F_u_law_well [x0]) K := wp_run rfl h
end AW
namespace AW
open PySem
theorem u_law_well_ok {ns : List Int} {K : D → Env → Prop} (hb : ∀ i ∈ ns, Builtin.Int.intBits i ≤ 1048576) (hl : ns.length ≤ 63) (k : ∀ d, IsW d → K d [some (scr ns)]) : wp (F_u_law_well [scr ns]) K := by
  unfold scr
  refine o_u_law_well ?_
  unfold B_u_law_well
  simp only [awW, awV, awO, awX, awZ, forall_const, implies_true, ↓reduceIte, reduceCtorEq, Nat.reduceAdd, Nat.reduceSub, Nat.reduceBEq, Nat.reduceEqDiff, Int.reduceNeg, qe_u_law_well, nOs_ints]
  refine forL_map (fun as e => ∃ s c, 0 ≤ s ∧ s < 2 ^ 31 ∧ e = [some (.lst false (ns.map .int)), some (.int s), c]) ⟨1, none, by decide, by decide, rfl⟩ ?_ ?_
  · rintro e ⟨s, c, h0, h1, rfl⟩
    refine ⟨rfl, ?_⟩
    unfold B_u_law_well_2
    simp only [awW, awV, awO, awX, awZ, forall_const, implies_true, ↓reduceIte, reduceCtorEq, Nat.reduceAdd, Nat.reduceSub, Nat.reduceBEq, Nat.reduceEqDiff, Int.reduceNeg, qe_u_law_well, nOs_ints]
    refine ⟨?_, ?_⟩
    · rw [List.length_map]
      exact Nat.le_trans hl (by decide)
    refine lcL_all (g := .int) (k := fun i => .int (if i < 0 then -i else i)) (by rfl) ?_ ?_
    · simp only [awW, awV, awO, awX, awZ, forall_const, implies_true, ↓reduceIte, reduceCtorEq, Nat.reduceAdd, Nat.reduceSub, Nat.reduceBEq, Nat.reduceEqDiff, Int.reduceNeg, qe_u_law_well]
      refine k _ ⟨ns.map fun i => if i < 0 then -i else i, 0, s, ?_, ?_, by decide, h0, h1⟩
      · rw [encW_eq, List.map_map]
        rfl
      · intro i hi
        obtain ⟨j, _, rfl⟩ := List.mem_map.mp hi
        omega
    · intro a ha
      simp only [awW, awV, awO, awX, awZ, forall_const, implies_true, ↓reduceIte, reduceCtorEq, Nat.reduceAdd, Nat.reduceSub, Nat.reduceBEq, Nat.reduceEqDiff, Int.reduceNeg, qe_u_law_well]
  · rintro a as e ⟨pre, hp⟩ ⟨s, c, h0, h1, rfl⟩
    refine ⟨rfl, ?_⟩
    have ha : Builtin.Int.intBits a ≤ 1048576 := hb a (by rw [hp]; simp)
    have e1 : mulOk s 50021 = true := mulOk_r (by decide) (by decide)
    have hlt : a.natAbs < 2 ^ 1048576 := by
      unfold Builtin.Int.intBits at ha
      by_cases h : a = 0
      · rw [h]
        exact Nat.two_pow_pos _
      · rw [if_neg (by simpa using h)] at ha
        refine (Nat.log2_lt (by omega)).mp ?_
        omega
    have e2 : powOk (s * 50021 + a) 3 = true := by
      refine powOk_of 1048577 ?_ (by decide) (by decide)
      have z : (s * 50021).natAbs < 2 ^ 1048576 := by
        have z1 : (s * 50021).natAbs < 2 ^ 64 := by omega
        exact Nat.lt_of_lt_of_le z1 (Nat.pow_le_pow_right (by decide) (by decide))
      have z3 : (2 : Nat) ^ 1048577 = 2 ^ 1048576 + 2 ^ 1048576 := by rw [Nat.pow_succ, Nat.mul_two]
      rw [z3]
      generalize (2 : Nat) ^ 1048576 = T at *
      omega
    unfold B_u_law_well_1
    have e3 := mod_in (a := (s * 50021 + a) ^ (3 : Int).toNat) (m := 2147483629) (by decide)
    generalize he : (s * 50021 + a) ^ (3 : Int).toNat % 2147483629 = z at e3
    simp only [awW, awV, awO, awX, awZ, forall_const, implies_true, ↓reduceIte, reduceCtorEq, Nat.reduceAdd, Nat.reduceSub, Nat.reduceBEq, Nat.reduceEqDiff, Int.reduceNeg, qe_u_law_well, e1, e2, he]
    refine ⟨by decide, _, _, ?_, ?_, rfl⟩ <;> omega
end AW

namespace AW
open PySem
def T_u_law_draw : Tb := ⟨[], [], []⟩
def N_u_law_draw : List Str := ["well", "many", "cell", "found"]
def B_u_law_draw_1 : List S := [
  .ret (.bin .mod (.var 2) (.var 1))]
def B_u_law_draw_2 : List S := [
  .stk 0 (.cst (.int 1)) (.var 2)]
def B_u_law_draw_3 : List S := 
  .asg [2] false (.met .pop1 (.pth 0 0) (.cons (.cst (.int 0)) .nil)) ::
  .iff (.cmp .lt (.var 2) (.bin .pow (.cst (.int 10)) (.cst (.int 18)))) B_u_law_draw_1 [] ::
  B_u_law_draw_2
def B_u_law_draw_4 : List S := [
  .asg [3] false (.bin .mod (.idx (.var 0) (.cst (.int 1))) (.var 1)),
  .stk 0 (.cst (.int 1)) (.bin .fdiv (.idx (.var 0) (.cst (.int 1))) (.var 1)),
  .ret (.mv 3)]
def B_u_law_draw_5 : List S := [
  .stk 0 (.cst (.int 2)) (.bin .mod (.bin .add (.bin .mul (.idx (.var 0) (.cst (.int 2))) (.cst (.int 48271))) (.cst (.int 12345))) (.cst (.int 2147483647))),
  .ret (.bin .mod (.bin .fdiv (.bin .mod (.bin .pow (.bin .mod (.bin .pow (.idx (.var 0) (.cst (.int 2))) (.cst (.int 3))) (.cst (.int 2147483629))) (.cst (.int 5))) (.cst (.int 1000000007))) (.cst (.int 7))) (.var 1))]
def B_u_law_draw_6 : List S := 
  .iff (.cmp .gt (.idx (.var 0) (.cst (.int 1))) (.cst (.int 0))) B_u_law_draw_4 [] ::
  B_u_law_draw_5
def B_u_law_draw : List S := 
  .iff (.and_ (.cons (.cmp .eq (.idx (.var 0) (.cst (.int 1))) (.cst (.int 0))) (.cons (.cmp .ne (.pth 0 0) (.lst .nil)) .nil))) B_u_law_draw_3 [] ::
  B_u_law_draw_6
noncomputable def q_u_law_draw : Nat → List D → R D := qL []
theorem qe_u_law_draw : True := trivial
noncomputable def F_u_law_draw : List D → R D := runF q_u_law_draw (G0) 70000 4 2 B_u_law_draw
theorem o_u_law_draw {x0 x1 : D} {K : D → Env → Prop} (h : wp (execs (q_u_law_draw) (G0) 70000 B_u_law_draw [some x0, some x1, none, none]) (fin [2, 3] [x0, x1] K)) : wp (F_u_law_draw [x0, x1]) K := wp_run rfl h
end AW
namespace AW
open PySem
theorem u_law_draw_ok {d : D} {m : Int} {K : D → Env → Prop} (h : IsW d) (h1 : 0 < m) (h2 : m < 2 ^ 64) (k : ∀ r d', 0 ≤ r → r < m → IsW d' → K (.int r) [some d', some (.int m)]) : wp (F_u_law_draw [d, .int m]) K := by
  obtain ⟨cs, c, s, rfl, hcs, hc, hs, hs2⟩ := h
  have hd := divOk_of h1 h2
  have hp : powOk 10 18 = true := by decide
  have hd7 : divOk 7 = true := divOk_of (by decide) (by decide)
  rw [encW_eq]
  refine o_u_law_draw ?_
  unfold B_u_law_draw
  -- what comes of a well behind the first test
  have rest : ∀ (d0 : D) (cs : List Int), (∀ i ∈ cs, 0 ≤ i) → ∀ c : Int, 0 ≤ c → ∀ e2 e3, wp (execs q_u_law_draw (G0) 70000 B_u_law_draw_6 [some (.lst true [.lst true (cs.map .int), .int c, .int s]), some (.int m), e2, e3]) (fin [2, 3] [d0, .int m] K) := by
    intro d0 cs hcs c hc e2 e3
    unfold B_u_law_draw_6
    simp only [awW, awV, awO, awX, awZ, forall_const, implies_true, ↓reduceIte, reduceCtorEq, Nat.reduceAdd, Nat.reduceSub, Nat.reduceBEq, Nat.reduceEqDiff, Int.reduceNeg, qe_u_law_draw]
    refine ⟨fun hc0 => ?_, fun hc0 => ?_⟩
    · unfold B_u_law_draw_4
      simp only [awW, awV, awO, awX, awZ, forall_const, implies_true, ↓reduceIte, reduceCtorEq, Nat.reduceAdd, Nat.reduceSub, Nat.reduceBEq, Nat.reduceEqDiff, Int.reduceNeg, qe_u_law_draw, hd, h1]
      refine k _ _ (mod_in h1).1 (mod_in h1).2 ⟨cs, c / m, s, rfl, hcs, Int.ediv_nonneg hc (by omega), hs, hs2⟩
    · unfold B_u_law_draw_5
      have e1 : mulOk s 48271 = true := mulOk_r (by decide) (by decide)
      have e2 := mod_in (a := s * 48271 + 12345) (m := 2147483647) (by decide)
      generalize he : (s * 48271 + 12345) % 2147483647 = z at e2
      have e3 : powOk z 3 = true := powOk_of 31 (by omega) (by decide) (by decide)
      have e4 := mod_in (a := z ^ (3 : Int).toNat) (m := 2147483629) (by decide)
      generalize he2 : z ^ (3 : Int).toNat % 2147483629 = y at e4
      have e5 : powOk y 5 = true := powOk_of 31 (by omega) (by decide) (by decide)
      simp only [awW, awV, awO, awX, awZ, forall_const, implies_true, ↓reduceIte, reduceCtorEq, Nat.reduceAdd, Nat.reduceSub, Nat.reduceBEq, Nat.reduceEqDiff, Int.reduceNeg, qe_u_law_draw, e1, he, e3, he2, e5, hd7, h1]
      refine ⟨by decide, by decide, by decide, ?_⟩
      exact k _ _ (mod_in h1).1 (mod_in h1).2 ⟨cs, c, z, rfl, hcs, hc, e2.1, by omega⟩
  simp only [awW, awV, awO, awX, awZ, forall_const, implies_true, ↓reduceIte, reduceCtorEq, Nat.reduceAdd, Nat.reduceSub, Nat.reduceBEq, Nat.reduceEqDiff, Int.reduceNeg, qe_u_law_draw, shp_ints]
  refine ⟨fun hc0 => ?_, fun hc0 => rest _ cs hcs c hc _ _⟩
  cases cs with
  | nil =>
    simp only [awW, awV, awO, awX, awZ, forall_const, implies_true, ↓reduceIte, reduceCtorEq, Nat.reduceAdd, Nat.reduceSub, Nat.reduceBEq, Nat.reduceEqDiff, Int.reduceNeg, qe_u_law_draw, List.isEmpty_nil]
    exact rest _ [] hcs c hc _ _
  | cons a r =>
    have ha : 0 ≤ a := hcs a (List.mem_cons_self ..)
    have hr : ∀ i ∈ r, 0 ≤ i := fun i hi => hcs i (List.mem_cons_of_mem _ hi)
    unfold B_u_law_draw_3
    simp only [awW, awV, awO, awX, awZ, forall_const, implies_true, ↓reduceIte, reduceCtorEq, Nat.reduceAdd, Nat.reduceSub, Nat.reduceBEq, Nat.reduceEqDiff, Int.reduceNeg, qe_u_law_draw, List.isEmpty_cons, List.length_cons, seqIx0, List.eraseIdx_cons_zero, hp]
    refine ⟨by decide, fun hl => ?_, fun hl => ?_⟩
    · unfold B_u_law_draw_1
      simp only [awW, awV, awO, awX, awZ, forall_const, implies_true, ↓reduceIte, reduceCtorEq, Nat.reduceAdd, Nat.reduceSub, Nat.reduceBEq, Nat.reduceEqDiff, Int.reduceNeg, qe_u_law_draw, h1]
      exact k _ _ (mod_in h1).1 (mod_in h1).2 ⟨r, c, s, rfl, hr, hc, hs, hs2⟩
    · unfold B_u_law_draw_2
      simp only [awW, awV, awO, awX, awZ, forall_const, implies_true, ↓reduceIte, reduceCtorEq, Nat.reduceAdd, Nat.reduceSub, Nat.reduceBEq, Nat.reduceEqDiff, Int.reduceNeg, qe_u_law_draw]
      exact rest _ r hr a ha _ _
end AW

namespace AW
open PySem
def T_u_law_first_words : Tb := ⟨[], [], []⟩
def N_u_law_first_words : List Str := ["found", "word"]
def B_u_law_first_words_1 : List S := [
  .stk 0 (.var 1) (.cst (.int 2))]
def B_u_law_first_words_2 : List S := [
  .ret (.mv 0)]
def B_u_law_first_words : List S := 
  .asg [0] false (.dct (.cons (.cst (.str [110, 111, 110, 101])) (.cons (.cst (.int 0)) (.cons (.cst (.str [111, 110, 101])) (.cons (.cst (.int 0)) (.cons (.cst (.str [97, 108, 108])) (.cons (.cst (.int 0)) (.cons (.cst (.str [110, 111, 116])) (.cons (.cst (.int 1)) (.cons (.cst (.str [110, 101, 103])) (.cons (.cst (.int 1)) (.cons (.cst (.str [116, 119, 105, 99, 101])) (.cons (.cst (.int 1)) .nil))))))))))))) ::
  .for_ [1] false (.seq (.lst (.cons (.cst (.str [97, 110, 100])) (.cons (.cst (.str [111, 114])) (.cons (.cst (.str [120, 111, 114])) (.cons (.cst (.str [97, 100, 100])) (.cons (.cst (.str [115, 117, 98])) .nil))))))) B_u_law_first_words_1 ::
  B_u_law_first_words_2
noncomputable def q_u_law_first_words : Nat → List D → R D := qL []
theorem qe_u_law_first_words : True := trivial
noncomputable def F_u_law_first_words : List D → R D := runF q_u_law_first_words (G0) 70000 2 0 B_u_law_first_words
theorem o_u_law_first_words {K : D → Env → Prop} (h : wp (execs (q_u_law_first_words) (G0) 70000 B_u_law_first_words [none, none]) (fin [0, 1] [] K)) : wp (F_u_law_first_words []) K := wp_run rfl h
end AW
namespace AW
open PySem
theorem u_law_first_words_ok {K : D → Env → Prop} (k : K (dW11 true) []) : wp (F_u_law_first_words []) K := by
  refine o_u_law_first_words ?_
  unfold B_u_law_first_words
  simp only [awW, awV, awO, awX, awZ, forall_const, implies_true, ↓reduceIte, reduceCtorEq, Nat.reduceAdd, Nat.reduceSub, Nat.reduceBEq, Nat.reduceEqDiff, Int.reduceNeg, qe_u_law_first_words, awF, awD, List.cons.injEq, Nat.reduceEqDiff, false_and, and_false, List.cons_ne_nil, reduceCtorEq, B_u_law_first_words_1, B_u_law_first_words_2]
  exact ⟨by decide, by decide, by decide, by decide, by decide, k⟩
end AW

namespace AW
open PySem
def T_u_law_deed : Tb := ⟨["_law_first_words", "_law_draw"], [], ["list", "tuple", "range"]⟩
def N_u_law_deed : List Str := ["well", "ahead", "words", "word", "k"]
def B_u_law_deed : List S := [
  .asg [2] false (.call 0 .nil),
  .asg [3] false (.idx (.blt .list1 (.cons (.var 2) .nil)) (.call 1 (.cons (.var 0) (.cons (.cst (.int 11)) .nil)))),
  .ret (.bin .add (.tup (.cons (.var 3) .nil)) (.blt .tuple1 (.cons (.lc [4] [4] false (.rng1 (.idx (.var 2) (.var 3))) (.cst (.bl true)) (.call 1 (.cons (.var 0) (.cons (.var 1) .nil)))) .nil)))]
noncomputable def q_u_law_deed : Nat → List D → R D := qL [F_u_law_first_words, F_u_law_draw]
theorem qe_u_law_deed : q_u_law_deed 0 = F_u_law_first_words ∧ q_u_law_deed 1 = F_u_law_draw := ⟨rfl, rfl⟩
noncomputable def F_u_law_deed : List D → R D := runF q_u_law_deed (G0) 70000 5 2 B_u_law_deed
theorem o_u_law_deed {x0 x1 : D} {K : D → Env → Prop} (h : wp (execs (q_u_law_deed) (G0) 70000 B_u_law_deed [some x0, some x1, none, none, none]) (fin [2, 3] [x0, x1] K)) : wp (F_u_law_deed [x0, x1]) K := wp_run rfl h
end AW
namespace AW
open PySem
theorem u_law_deed_ok {d : D} {a : Int} {K : D → Env → Prop} (h : IsW d) (h1 : 0 < a) (h2 : a < 2 ^ 64) (k : ∀ x d', DOk a x → IsW d' → K (encD x) [some d', some (.int a)]) : wp (F_u_law_deed [d, .int a]) K := by
  refine o_u_law_deed ?_
  unfold B_u_law_deed
  simp only [awW, awV, awO, awX, awZ, forall_const, implies_true, ↓reduceIte, reduceCtorEq, Nat.reduceAdd, Nat.reduceSub, Nat.reduceBEq, Nat.reduceEqDiff, Int.reduceNeg, qe_u_law_deed]
  refine u_law_first_words_ok ?_
  unfold dW11
  simp only [awW, awV, awO, awX, awZ, forall_const, implies_true, ↓reduceIte, reduceCtorEq, Nat.reduceAdd, Nat.reduceSub, Nat.reduceBEq, Nat.reduceEqDiff, Int.reduceNeg, qe_u_law_deed, nOs_w11, okFs_of _ nOs_w11]
  refine u_law_draw_ok h (by decide) (by decide) fun r d' r0 r1 h' => ?_
  obtain ⟨w, hw⟩ : ∃ w, words11[r.toNat]? = some w := ⟨_, List.getElem?_eq_getElem (show r.toNat < 11 by omega)⟩
  have e1 : L2.atI (frzs (words11.map wS)) r = some (.str w.txt) := by
    rw [fzs_of _ nOs_w11, atI_int r0, List.getElem?_map, hw]
    rfl
  simp only [awW, awV, awO, awX, awZ, forall_const, implies_true, ↓reduceIte, reduceCtorEq, Nat.reduceAdd, Nat.reduceSub, Nat.reduceBEq, Nat.reduceEqDiff, Int.reduceNeg, qe_u_law_deed, e1, dGet_w11, keyS, rng_map]
  refine ⟨by cases w <;> decide, by cases w <;> decide, ?_⟩
  refine lcL_map (fun pre as acc e => ∃ d'' ns c, IsW d'' ∧ (∀ n ∈ ns, 0 ≤ n ∧ n < a) ∧ ns.length = pre.length ∧ acc = ns.map .int ∧ e = [some d'', some (.int a), some (.dic true (words11.map wS) (words11.map fun w => .int w.ar)), some (.str w.txt), c]) ⟨d', [], none, h', fun _ h => (by cases h), rfl, rfl, rfl⟩ ?_ ?_
  · rintro acc e ⟨d'', ns, c, h3, h4, h5, rfl, rfl⟩
    refine ⟨trivial, ?_⟩
    simp only [awW, awV, awO, awX, awZ, forall_const, implies_true, ↓reduceIte, reduceCtorEq, Nat.reduceAdd, Nat.reduceSub, Nat.reduceBEq, Nat.reduceEqDiff, Int.reduceNeg, qe_u_law_deed, okFs_ints, fzs_ints, nOs_ints]
    refine ⟨?_, k ⟨w, ns⟩ d'' ⟨?_, h4⟩ h3⟩
    · refine decide_eq_true ?_
      rw [List.length_map, h5, List.length_range]
      cases w <;> decide
    · show ns.length = w.ar
      rw [h5, List.length_range]
      omega
  · rintro pre i as acc e hp ⟨d'', ns, c, h3, h4, h5, rfl, rfl⟩
    refine ⟨trivial, ?_⟩
    simp only [awW, awV, awO, awX, awZ, forall_const, implies_true, ↓reduceIte, reduceCtorEq, Nat.reduceAdd, Nat.reduceSub, Nat.reduceBEq, Nat.reduceEqDiff, Int.reduceNeg, qe_u_law_deed]
    refine u_law_draw_ok h3 h1 h2 fun r d3 r0 r1 h' => ?_
    simp only [awW, awV, awO, awX, awZ, forall_const, implies_true, ↓reduceIte, reduceCtorEq, Nat.reduceAdd, Nat.reduceSub, Nat.reduceBEq, Nat.reduceEqDiff, Int.reduceNeg, qe_u_law_deed]
    refine ⟨d3, ns ++ [r], none, h', ?_, ?_, ?_, rfl⟩
    · intro n hn
      rcases List.mem_append.mp hn with hn | hn
      · exact h4 n hn
      · rw [List.mem_singleton.mp hn]
        exact ⟨r0, r1⟩
    · simp [h5]
    · simp
end AW

namespace AW
open PySem
def T_u_law_row : Tb := ⟨["_law_draw", "_law_deed"], [], ["range", "tuple"]⟩
def N_u_law_row : List Str := ["well", "many", "most", "size", "last", "deeds", "k", "out"]
def B_u_law_row_1 : List S := [
  .exp (.met .append (.var 5) (.cons (.call 1 (.cons (.var 0) (.cons (.bin .add (.var 1) (.var 6)) .nil))) .nil))]
def B_u_law_row_2 : List S := [
  .asg [7] false (.call 0 (.cons (.var 0) (.cons (.bin .add (.var 1) (.var 3)) .nil)))]
def B_u_law_row_3 : List S := [
  .ret (.tup (.cons (.var 1) (.cons (.blt .tuple1 (.cons (.var 5) .nil)) (.cons (.mv 7) .nil))))]
def B_u_law_row_4 : List S := 
  .asg [7] false (.bin .sub (.bin .add (.var 1) (.var 3)) (.cst (.int 1))) ::
  .iff (.not_ (.var 4)) B_u_law_row_2 [] ::
  B_u_law_row_3
def B_u_law_row : List S := 
  .asg [3] false (.call 0 (.cons (.var 0) (.cons (.bin .add (.var 2) (.cst (.int 1))) .nil))) ::
  .asg [4] false (.cmp .gt (.call 0 (.cons (.var 0) (.cons (.cst (.int 4)) .nil))) (.cst (.int 0))) ::
  .asg [5] false (.lst .nil) ::
  .for_ [6] false (.rng1 (.var 3)) B_u_law_row_1 ::
  B_u_law_row_4
noncomputable def q_u_law_row : Nat → List D → R D := qL [F_u_law_draw, F_u_law_deed]
theorem qe_u_law_row : q_u_law_row 0 = F_u_law_draw ∧ q_u_law_row 1 = F_u_law_deed := ⟨rfl, rfl⟩
noncomputable def F_u_law_row : List D → R D := runF q_u_law_row (G0) 70000 8 3 B_u_law_row
theorem o_u_law_row {x0 x1 x2 : D} {K : D → Env → Prop} (h : wp (execs (q_u_law_row) (G0) 70000 B_u_law_row [some x0, some x1, some x2, none, none, none, none, none]) (fin [3, 4, 5, 6, 7, 7] [x0, x1, x2] K)) : wp (F_u_law_row [x0, x1, x2]) K := wp_run rfl h
end AW
namespace AW
open PySem
theorem u_law_row_ok {d : D} {many most : Int} {K : D → Env → Prop} (h : IsW d) (h1 : 1 ≤ many) (h2 : many ≤ 3) (h3 : 0 ≤ most) (h4 : most ≤ 8) (k : ∀ r d', RowOk r → r.many = many → (r.deeds.length : Int) ≤ most → IsW d' → K (encR r) [some d', some (.int many), some (.int most)]) : wp (F_u_law_row [d, .int many, .int most]) K := by
  refine o_u_law_row ?_
  unfold B_u_law_row
  simp only [awW, awV, awO, awX, awZ, forall_const, implies_true, ↓reduceIte, reduceCtorEq, Nat.reduceAdd, Nat.reduceSub, Nat.reduceBEq, Nat.reduceEqDiff, Int.reduceNeg, qe_u_law_row]
  refine u_law_draw_ok h (by omega) (by omega) fun n d1 n0 n1 h => ?_
  simp only [awW, awV, awO, awX, awZ, forall_const, implies_true, ↓reduceIte, reduceCtorEq, Nat.reduceAdd, Nat.reduceSub, Nat.reduceBEq, Nat.reduceEqDiff, Int.reduceNeg, qe_u_law_row]
  refine u_law_draw_ok h (by omega) (by omega) fun q d2 _ _ h => ?_
  simp only [awW, awV, awO, awX, awZ, forall_const, implies_true, ↓reduceIte, reduceCtorEq, Nat.reduceAdd, Nat.reduceSub, Nat.reduceBEq, Nat.reduceEqDiff, Int.reduceNeg, qe_u_law_row]
  refine ⟨by omega, ?_⟩
  refine forL_rng (fun i e => ∃ d' ds c, IsW d' ∧ ds.length = i ∧ (∀ (j : Nat) (x : Dd), ds[j]? = some x → DOk (many + (j : Int)) x) ∧ e = [some d', some (.int many), some (.int most), some (.int n), some (.bl (decide (0 < q))), some (.lst true (ds.map encD)), c, none]) ⟨d2, [], none, h, rfl, fun j x hj => by simp at hj, rfl⟩ ?_ ?_
  · rintro e ⟨d', ds, c, h, hl, hd, rfl⟩
    refine ⟨trivial, ?_⟩
    have hl2 : (ds.length : Int) = n := by omega
    have fin : ∀ (d0 : D) (o : Int) d' c b, 0 ≤ o → o < many + n → IsW d' → wp (execs q_u_law_row (G0) 70000 B_u_law_row_3 [some d', some (.int many), some (.int most), some (.int n), some (.bl b), some (.lst true (ds.map encD)), c, some (.int o)]) (fin [3, 4, 5, 6, 7, 7] [d0, .int many, .int most] K) := by
      intro d0 o d' c b o0 o1 h
      unfold B_u_law_row_3
      simp only [awW, awV, awO, awX, awZ, forall_const, implies_true, ↓reduceIte, reduceCtorEq, Nat.reduceAdd, Nat.reduceSub, Nat.reduceBEq, Nat.reduceEqDiff, Int.reduceNeg, qe_u_law_row, nOs_deeds]
      exact k ⟨many, ds, o⟩ d' ⟨h1, h2, by show ds.length ≤ 8; omega, hd, o0, by show o < many + (ds.length : Int); omega⟩ rfl (by show (ds.length : Int) ≤ most; omega) h
    unfold B_u_law_row_4
    simp only [awW, awV, awO, awX, awZ, forall_const, implies_true, ↓reduceIte, reduceCtorEq, Nat.reduceAdd, Nat.reduceSub, Nat.reduceBEq, Nat.reduceEqDiff, Int.reduceNeg, qe_u_law_row]
    refine ⟨fun _ => fin _ _ _ _ _ (by omega) (by omega) h, fun _ => ?_⟩
    unfold B_u_law_row_2
    simp only [awW, awV, awO, awX, awZ, forall_const, implies_true, ↓reduceIte, reduceCtorEq, Nat.reduceAdd, Nat.reduceSub, Nat.reduceBEq, Nat.reduceEqDiff, Int.reduceNeg, qe_u_law_row]
    refine u_law_draw_ok h (by omega) (by omega) fun o d3 o0 o1 h => ?_
    simp only [awW, awV, awO, awX, awZ, forall_const, implies_true, ↓reduceIte, reduceCtorEq, Nat.reduceAdd, Nat.reduceSub, Nat.reduceBEq, Nat.reduceEqDiff, Int.reduceNeg, qe_u_law_row]
    exact fin _ _ _ _ _ o0 o1 h
  · rintro i e hi ⟨d', ds, c, h, hl, hd, rfl⟩
    refine ⟨trivial, ?_⟩
    unfold B_u_law_row_1
    simp only [awW, awV, awO, awX, awZ, forall_const, implies_true, ↓reduceIte, reduceCtorEq, Nat.reduceAdd, Nat.reduceSub, Nat.reduceBEq, Nat.reduceEqDiff, Int.reduceNeg, qe_u_law_row]
    refine u_law_deed_ok h (by omega) (by omega) fun x d3 hx h => ?_
    simp only [awW, awV, awO, awX, awZ, forall_const, implies_true, ↓reduceIte, reduceCtorEq, Nat.reduceAdd, Nat.reduceSub, Nat.reduceBEq, Nat.reduceEqDiff, Int.reduceNeg, qe_u_law_row, okF_encD, fz_encD]
    refine ⟨?_, d3, ds ++ [x], some (.int i), h, by simp [hl], fun j y hj => ?_, by simp⟩
    · rw [List.length_map, hl]
      show i < 16777216
      omega
    · rcases Nat.lt_trichotomy j ds.length with hj2 | hj2 | hj2
      · rw [List.getElem?_append_left hj2] at hj
        exact hd j y hj
      · rw [hj2, List.getElem?_append_right (Nat.le_refl _)] at hj
        simp at hj
        rw [← hj, hj2, hl]
        exact hx
      · rw [List.getElem?_eq_none (by simp; omega)] at hj
        cases hj
end AW

/-! Errs: what isinstance answers of an error that was caught. -/
namespace AW
open PySem
theorem okF_fn {n : Nat} : okF (.fn n) = true := rfl
theorem frz_fn {n : Nat} : frz (.fn n) = .fn n := rfl
theorem nO_fn {n : Nat} : noOwn (.fn n) = true := rfl
theorem isN_fn {n : Nat} {P : Bool → Prop} : wo (dCmp .isN (.fn n) .non) P = P false := rfl
theorem isN_non {P : Bool → Prop} : wo (dCmp .isN .non .non) P = P true := rfl
theorem wx_mono {α : Type} {r : R α} {c : Nat} {P Q : Env → Prop} (h : wx r c P) (k : ∀ e, P e → Q e) : wx r c Q := by
  obtain ⟨e, h1, h2⟩ := h
  exact ⟨e, h1, k e h2⟩
theorem isX_0 : (∀ P : D → Prop, wo (dBlt .isX [.fn 1, .fn 0]) P = P (.bl true)) ∧ (∀ P : D → Prop, wo (dBlt .isX [.fn 1, .fn 2]) P = P (.bl false)) ∧ (∀ P : D → Prop, wo (dBlt .isX [.fn 1, .fn 4]) P = P (.bl false)) ∧ (∀ P : D → Prop, wo (dBlt .isX [.fn 1, .fn 6]) P = P (.bl false)) ∧ (∀ P : D → Prop, wo (dBlt .isX [.fn 1, .fn 8]) P = P (.bl false)) ∧ (∀ P : D → Prop, wo (dBlt .isX [.fn 1, .fn 10]) P = P (.bl false)) ∧ (∀ P : D → Prop, wo (dBlt .isX [.fn 1, .fn 12]) P = P (.bl false)) ∧ (∀ P : D → Prop, wo (dBlt .isX [.fn 1, .fn 14]) P = P (.bl false)) ∧ (∀ P : D → Prop, wo (dBlt .isX [.fn 1, .fn 16]) P = P (.bl true)) := ⟨fun _ => rfl, fun _ => rfl, fun _ => rfl, fun _ => rfl, fun _ => rfl, fun _ => rfl, fun _ => rfl, fun _ => rfl, fun _ => rfl⟩
theorem isX_1 : (∀ P : D → Prop, wo (dBlt .isX [.fn 3, .fn 0]) P = P (.bl true)) ∧ (∀ P : D → Prop, wo (dBlt .isX [.fn 3, .fn 2]) P = P (.bl true)) ∧ (∀ P : D → Prop, wo (dBlt .isX [.fn 3, .fn 4]) P = P (.bl false)) ∧ (∀ P : D → Prop, wo (dBlt .isX [.fn 3, .fn 6]) P = P (.bl false)) ∧ (∀ P : D → Prop, wo (dBlt .isX [.fn 3, .fn 8]) P = P (.bl false)) ∧ (∀ P : D → Prop, wo (dBlt .isX [.fn 3, .fn 10]) P = P (.bl false)) ∧ (∀ P : D → Prop, wo (dBlt .isX [.fn 3, .fn 12]) P = P (.bl false)) ∧ (∀ P : D → Prop, wo (dBlt .isX [.fn 3, .fn 14]) P = P (.bl false)) ∧ (∀ P : D → Prop, wo (dBlt .isX [.fn 3, .fn 16]) P = P (.bl true)) := ⟨fun _ => rfl, fun _ => rfl, fun _ => rfl, fun _ => rfl, fun _ => rfl, fun _ => rfl, fun _ => rfl, fun _ => rfl, fun _ => rfl⟩
theorem isX_2 : (∀ P : D → Prop, wo (dBlt .isX [.fn 5, .fn 0]) P = P (.bl true)) ∧ (∀ P : D → Prop, wo (dBlt .isX [.fn 5, .fn 2]) P = P (.bl false)) ∧ (∀ P : D → Prop, wo (dBlt .isX [.fn 5, .fn 4]) P = P (.bl true)) ∧ (∀ P : D → Prop, wo (dBlt .isX [.fn 5, .fn 6]) P = P (.bl false)) ∧ (∀ P : D → Prop, wo (dBlt .isX [.fn 5, .fn 8]) P = P (.bl false)) ∧ (∀ P : D → Prop, wo (dBlt .isX [.fn 5, .fn 10]) P = P (.bl false)) ∧ (∀ P : D → Prop, wo (dBlt .isX [.fn 5, .fn 12]) P = P (.bl false)) ∧ (∀ P : D → Prop, wo (dBlt .isX [.fn 5, .fn 14]) P = P (.bl false)) ∧ (∀ P : D → Prop, wo (dBlt .isX [.fn 5, .fn 16]) P = P (.bl true)) := ⟨fun _ => rfl, fun _ => rfl, fun _ => rfl, fun _ => rfl, fun _ => rfl, fun _ => rfl, fun _ => rfl, fun _ => rfl, fun _ => rfl⟩
theorem isX_3 : (∀ P : D → Prop, wo (dBlt .isX [.fn 7, .fn 0]) P = P (.bl true)) ∧ (∀ P : D → Prop, wo (dBlt .isX [.fn 7, .fn 2]) P = P (.bl false)) ∧ (∀ P : D → Prop, wo (dBlt .isX [.fn 7, .fn 4]) P = P (.bl false)) ∧ (∀ P : D → Prop, wo (dBlt .isX [.fn 7, .fn 6]) P = P (.bl true)) ∧ (∀ P : D → Prop, wo (dBlt .isX [.fn 7, .fn 8]) P = P (.bl false)) ∧ (∀ P : D → Prop, wo (dBlt .isX [.fn 7, .fn 10]) P = P (.bl false)) ∧ (∀ P : D → Prop, wo (dBlt .isX [.fn 7, .fn 12]) P = P (.bl false)) ∧ (∀ P : D → Prop, wo (dBlt .isX [.fn 7, .fn 14]) P = P (.bl false)) ∧ (∀ P : D → Prop, wo (dBlt .isX [.fn 7, .fn 16]) P = P (.bl true)) := ⟨fun _ => rfl, fun _ => rfl, fun _ => rfl, fun _ => rfl, fun _ => rfl, fun _ => rfl, fun _ => rfl, fun _ => rfl, fun _ => rfl⟩
theorem isX_4 : (∀ P : D → Prop, wo (dBlt .isX [.fn 9, .fn 0]) P = P (.bl true)) ∧ (∀ P : D → Prop, wo (dBlt .isX [.fn 9, .fn 2]) P = P (.bl false)) ∧ (∀ P : D → Prop, wo (dBlt .isX [.fn 9, .fn 4]) P = P (.bl false)) ∧ (∀ P : D → Prop, wo (dBlt .isX [.fn 9, .fn 6]) P = P (.bl false)) ∧ (∀ P : D → Prop, wo (dBlt .isX [.fn 9, .fn 8]) P = P (.bl true)) ∧ (∀ P : D → Prop, wo (dBlt .isX [.fn 9, .fn 10]) P = P (.bl false)) ∧ (∀ P : D → Prop, wo (dBlt .isX [.fn 9, .fn 12]) P = P (.bl false)) ∧ (∀ P : D → Prop, wo (dBlt .isX [.fn 9, .fn 14]) P = P (.bl false)) ∧ (∀ P : D → Prop, wo (dBlt .isX [.fn 9, .fn 16]) P = P (.bl true)) := ⟨fun _ => rfl, fun _ => rfl, fun _ => rfl, fun _ => rfl, fun _ => rfl, fun _ => rfl, fun _ => rfl, fun _ => rfl, fun _ => rfl⟩
theorem isX_5 : (∀ P : D → Prop, wo (dBlt .isX [.fn 11, .fn 0]) P = P (.bl true)) ∧ (∀ P : D → Prop, wo (dBlt .isX [.fn 11, .fn 2]) P = P (.bl false)) ∧ (∀ P : D → Prop, wo (dBlt .isX [.fn 11, .fn 4]) P = P (.bl false)) ∧ (∀ P : D → Prop, wo (dBlt .isX [.fn 11, .fn 6]) P = P (.bl false)) ∧ (∀ P : D → Prop, wo (dBlt .isX [.fn 11, .fn 8]) P = P (.bl false)) ∧ (∀ P : D → Prop, wo (dBlt .isX [.fn 11, .fn 10]) P = P (.bl true)) ∧ (∀ P : D → Prop, wo (dBlt .isX [.fn 11, .fn 12]) P = P (.bl false)) ∧ (∀ P : D → Prop, wo (dBlt .isX [.fn 11, .fn 14]) P = P (.bl false)) ∧ (∀ P : D → Prop, wo (dBlt .isX [.fn 11, .fn 16]) P = P (.bl true)) := ⟨fun _ => rfl, fun _ => rfl, fun _ => rfl, fun _ => rfl, fun _ => rfl, fun _ => rfl, fun _ => rfl, fun _ => rfl, fun _ => rfl⟩
theorem isX_6 : (∀ P : D → Prop, wo (dBlt .isX [.fn 13, .fn 0]) P = P (.bl true)) ∧ (∀ P : D → Prop, wo (dBlt .isX [.fn 13, .fn 2]) P = P (.bl false)) ∧ (∀ P : D → Prop, wo (dBlt .isX [.fn 13, .fn 4]) P = P (.bl false)) ∧ (∀ P : D → Prop, wo (dBlt .isX [.fn 13, .fn 6]) P = P (.bl false)) ∧ (∀ P : D → Prop, wo (dBlt .isX [.fn 13, .fn 8]) P = P (.bl false)) ∧ (∀ P : D → Prop, wo (dBlt .isX [.fn 13, .fn 10]) P = P (.bl false)) ∧ (∀ P : D → Prop, wo (dBlt .isX [.fn 13, .fn 12]) P = P (.bl true)) ∧ (∀ P : D → Prop, wo (dBlt .isX [.fn 13, .fn 14]) P = P (.bl false)) ∧ (∀ P : D → Prop, wo (dBlt .isX [.fn 13, .fn 16]) P = P (.bl true)) := ⟨fun _ => rfl, fun _ => rfl, fun _ => rfl, fun _ => rfl, fun _ => rfl, fun _ => rfl, fun _ => rfl, fun _ => rfl, fun _ => rfl⟩
theorem isX_7 : (∀ P : D → Prop, wo (dBlt .isX [.fn 15, .fn 0]) P = P (.bl true)) ∧ (∀ P : D → Prop, wo (dBlt .isX [.fn 15, .fn 2]) P = P (.bl false)) ∧ (∀ P : D → Prop, wo (dBlt .isX [.fn 15, .fn 4]) P = P (.bl false)) ∧ (∀ P : D → Prop, wo (dBlt .isX [.fn 15, .fn 6]) P = P (.bl false)) ∧ (∀ P : D → Prop, wo (dBlt .isX [.fn 15, .fn 8]) P = P (.bl false)) ∧ (∀ P : D → Prop, wo (dBlt .isX [.fn 15, .fn 10]) P = P (.bl false)) ∧ (∀ P : D → Prop, wo (dBlt .isX [.fn 15, .fn 12]) P = P (.bl false)) ∧ (∀ P : D → Prop, wo (dBlt .isX [.fn 15, .fn 14]) P = P (.bl true)) ∧ (∀ P : D → Prop, wo (dBlt .isX [.fn 15, .fn 16]) P = P (.bl true)) := ⟨fun _ => rfl, fun _ => rfl, fun _ => rfl, fun _ => rfl, fun _ => rfl, fun _ => rfl, fun _ => rfl, fun _ => rfl, fun _ => rfl⟩
theorem isX_n : (∀ P : D → Prop, wo (dBlt .isX [.non, .fn 0]) P = P (.bl false)) ∧ (∀ P : D → Prop, wo (dBlt .isX [.non, .fn 2]) P = P (.bl false)) ∧ (∀ P : D → Prop, wo (dBlt .isX [.non, .fn 4]) P = P (.bl false)) ∧ (∀ P : D → Prop, wo (dBlt .isX [.non, .fn 6]) P = P (.bl false)) ∧ (∀ P : D → Prop, wo (dBlt .isX [.non, .fn 8]) P = P (.bl false)) ∧ (∀ P : D → Prop, wo (dBlt .isX [.non, .fn 10]) P = P (.bl false)) ∧ (∀ P : D → Prop, wo (dBlt .isX [.non, .fn 12]) P = P (.bl false)) ∧ (∀ P : D → Prop, wo (dBlt .isX [.non, .fn 14]) P = P (.bl false)) ∧ (∀ P : D → Prop, wo (dBlt .isX [.non, .fn 16]) P = P (.bl false)) := ⟨fun _ => rfl, fun _ => rfl, fun _ => rfl, fun _ => rfl, fun _ => rfl, fun _ => rfl, fun _ => rfl, fun _ => rfl, fun _ => rfl⟩
theorem isNn_fn {n : Nat} : isNon (.fn n) = false := rfl
theorem isNn_non : isNon .non = true := rfl
theorem lt24 : (2 < 5) = True := by decide
theorem lt45 : (4 < 5) = True := by decide
theorem lt35 : (3 < 5) = True := by decide
theorem awQ : type_of% @isNn_fn ∧ type_of% @isNn_non ∧ type_of% @lt24 ∧ type_of% @lt45 ∧ type_of% @lt35 ∧ type_of% @okF_fn ∧ type_of% @frz_fn ∧ type_of% @nO_fn ∧ type_of% @isN_fn ∧ type_of% @isN_non := ⟨@isNn_fn, @isNn_non, @lt24, @lt45, @lt35, @okF_fn, @frz_fn, @nO_fn, @isN_fn, @isN_non⟩
end AW

namespace AW
open PySem
def T_u_law_kind : Tb := ⟨["put_together"], ["WideError", "ValueError", "Nothing", "NoText", "NoRule", "NoRow", "NoName", "NoPair", "TooMany"], ["str", "len", "isinstance", "int"]⟩
def N_u_law_kind : List Str := ["row", "rows", "caught", "found", "e"]
def B_u_law_kind_1 : List S := [
  .asg [3] false (.call 0 (.cons (.var 0) (.cons (.var 1) .nil)))]
def B_u_law_kind_2 : List S := [
  .ret (.blt .str1 (.cons (.blt .len (.cons (.idx (.var 3) (.cst (.int 1))) .nil)) .nil))]
def B_u_law_kind_3 : List S := [
  .ret (.cst (.str [111, 100, 100]))]
def B_u_law_kind_4 : List S := [
  .ret (.idx (.lst (.cons (.cst (.str [])) (.cons (.cst (.str [112, 97, 105, 114])) (.cons (.cst (.str [109, 97, 110, 121])) (.cons (.cst (.str [111, 100, 100])) .nil))))) (.bin .add (.blt .int1 (.cons (.blt .isX (.cons (.var 2) (.cons (.glo 7) .nil))) .nil)) (.bin .mul (.cst (.int 2)) (.blt .int1 (.cons (.blt .isX (.cons (.var 2) (.cons (.glo 8) .nil))) .nil)))))]
def B_u_law_kind_5 : List S := 
  .iff (.or_ (.cons (.blt .isX (.cons (.var 2) (.cons (.tup (.cons (.glo 6) (.cons (.glo 5) (.cons (.glo 4) (.cons (.glo 3) (.cons (.glo 2) .nil)))))) .nil))) (.cons (.not_ (.blt .isX (.cons (.var 2) (.cons (.glo 1) .nil)))) .nil))) B_u_law_kind_3 [] ::
  B_u_law_kind_4
def B_u_law_kind : List S := 
  .asg [2] false (.cst .non) ::
  .asg [3] false (.cst .non) ::
  .tr B_u_law_kind_1 0 4 2 ::
  .iff (.cmp .isN (.var 2) (.cst .non)) B_u_law_kind_2 [] ::
  B_u_law_kind_5
noncomputable def q_u_law_kind : Nat → List D → R D := qL [F_put_together]
theorem qe_u_law_kind : q_u_law_kind 0 = F_put_together := rfl
noncomputable def F_u_law_kind : List D → R D := runF q_u_law_kind (gL [.fn 0, .fn 16, .fn 12, .fn 14, .fn 6, .fn 4, .fn 8, .fn 2, .fn 10]) 70000 5 2 B_u_law_kind
theorem o_u_law_kind {x0 x1 : D} {K : D → Env → Prop} (h : wp (execs (q_u_law_kind) (gL [.fn 0, .fn 16, .fn 12, .fn 14, .fn 6, .fn 4, .fn 8, .fn 2, .fn 10]) 70000 B_u_law_kind [some x0, some x1, none, none, none]) (fin [2, 3, 4, 2, 3] [x0, x1] K)) : wp (F_u_law_kind [x0, x1]) K := wp_run rfl h
end AW
namespace AW
open PySem
/-- what is told of an error that was caught -/
theorem u_law_kind_exc {o : Bool} {row : Row} {rs : List Row} {c : Nat} {w : List Nat} {K : D → Env → Prop} (hc : c = 1 ∧ w = [112, 97, 105, 114] ∨ c = 5 ∧ w = [109, 97, 110, 121])
    (h : wx (F_put_together [encR row, .lst o (rs.map encR)]) c fun e => e = [some (encR row), some (.lst o (rs.map encR))]) (k : K (.str w) [some (encR row), some (.lst o (rs.map encR))]) : wp (F_u_law_kind [encR row, .lst o (rs.map encR)]) K := by
  refine o_u_law_kind ?_
  unfold B_u_law_kind
  simp only [awW, awV, awO, awX, awZ, forall_const, implies_true, ↓reduceIte, reduceCtorEq, Nat.reduceAdd, Nat.reduceSub, Nat.reduceBEq, Nat.reduceEqDiff, Int.reduceNeg, qe_u_law_kind]
  refine wp_try_exc (c := c) rfl (by omega) ?_
  unfold B_u_law_kind_1
  refine wx_head (wx_asg (wx_call ?_))
  simp only [awW, awV, awO, awX, awZ, forall_const, implies_true, ↓reduceIte, reduceCtorEq, Nat.reduceAdd, Nat.reduceSub, Nat.reduceBEq, Nat.reduceEqDiff, Int.reduceNeg, qe_u_law_kind]
  refine wx_mono h fun e he => ?_
  subst he
  rcases hc with ⟨rfl, rfl⟩ | ⟨rfl, rfl⟩
  · have tx : ∀ P : D → Prop, wo (dBlt .isX [.fn 3, .tup [.fn 8, .fn 4, .fn 6, .fn 14, .fn 12]]) P = P (.bl false) := fun _ => rfl
    simp only [awW, awV, awO, awX, awZ, forall_const, implies_true, ↓reduceIte, reduceCtorEq, Nat.reduceAdd, Nat.reduceSub, Nat.reduceBEq, Nat.reduceEqDiff, Int.reduceNeg, qe_u_law_kind, awQ, isX_1, tx, Nat.reduceMul, true_and]
    unfold B_u_law_kind_5
    simp only [awW, awV, awO, awX, awZ, forall_const, implies_true, ↓reduceIte, reduceCtorEq, Nat.reduceAdd, Nat.reduceSub, Nat.reduceBEq, Nat.reduceEqDiff, Int.reduceNeg, qe_u_law_kind, awQ, isX_1, tx, Nat.reduceMul]
    unfold B_u_law_kind_4
    simp only [awW, awV, awO, awX, awZ, forall_const, implies_true, ↓reduceIte, reduceCtorEq, Nat.reduceAdd, Nat.reduceSub, Nat.reduceBEq, Nat.reduceEqDiff, Int.reduceNeg, qe_u_law_kind, awQ, isX_1, tx, Nat.reduceMul]
    have ia : L2.atI [D.str [], D.str [112, 97, 105, 114], D.str [109, 97, 110, 121], D.str [111, 100, 100]] (1 + 2 * 0) = some (.str [112, 97, 105, 114]) := by
      rw [show (1 + 2 * 0 : Int) = 1 from rfl, atI_int (by decide)]
      rfl
    refine ⟨by decide, ?_⟩
    simp only [awW, awV, awO, awX, awZ, forall_const, implies_true, ↓reduceIte, reduceCtorEq, Nat.reduceAdd, Nat.reduceSub, Nat.reduceBEq, Nat.reduceEqDiff, Int.reduceNeg, qe_u_law_kind, ia]
    exact k
  · have tx : ∀ P : D → Prop, wo (dBlt .isX [.fn 11, .tup [.fn 8, .fn 4, .fn 6, .fn 14, .fn 12]]) P = P (.bl false) := fun _ => rfl
    simp only [awW, awV, awO, awX, awZ, forall_const, implies_true, ↓reduceIte, reduceCtorEq, Nat.reduceAdd, Nat.reduceSub, Nat.reduceBEq, Nat.reduceEqDiff, Int.reduceNeg, qe_u_law_kind, awQ, isX_5, tx, Nat.reduceMul, true_and]
    unfold B_u_law_kind_5
    simp only [awW, awV, awO, awX, awZ, forall_const, implies_true, ↓reduceIte, reduceCtorEq, Nat.reduceAdd, Nat.reduceSub, Nat.reduceBEq, Nat.reduceEqDiff, Int.reduceNeg, qe_u_law_kind, awQ, isX_5, tx, Nat.reduceMul]
    unfold B_u_law_kind_4
    simp only [awW, awV, awO, awX, awZ, forall_const, implies_true, ↓reduceIte, reduceCtorEq, Nat.reduceAdd, Nat.reduceSub, Nat.reduceBEq, Nat.reduceEqDiff, Int.reduceNeg, qe_u_law_kind, awQ, isX_5, tx, Nat.reduceMul]
    have ia : L2.atI [D.str [], D.str [112, 97, 105, 114], D.str [109, 97, 110, 121], D.str [111, 100, 100]] (2 * 1) = some (.str [109, 97, 110, 121]) := by
      rw [show (2 * 1 : Int) = 2 from rfl, atI_int (by decide)]
      rfl
    refine ⟨by decide, ?_⟩
    simp only [awW, awV, awO, awX, awZ, forall_const, implies_true, ↓reduceIte, reduceCtorEq, Nat.reduceAdd, Nat.reduceSub, Nat.reduceBEq, Nat.reduceEqDiff, Int.reduceNeg, qe_u_law_kind, ia, Int.zero_add]
    exact k
theorem u_law_kind_ok {o : Bool} {row r0 : Row} {rs : List Row} {K : D → Env → Prop} (h : RowOk row) (hr : ∀ r ∈ r0 :: rs, RowOk r ∧ r.many = r0.many) (hl : ((r0 :: rs).length : Int) = row.many) (h8 : ((r0 :: rs).map (·.deeds.length)).sum + row.deeds.length ≤ 8)
    (k : K (.str (digits (((r0 :: rs).map (·.deeds.length)).sum + row.deeds.length : Nat))) [some (encR row), some (.lst o ((r0 :: rs).map encR))]) : wp (F_u_law_kind [encR row, .lst o ((r0 :: rs).map encR)]) K := by
  refine o_u_law_kind ?_
  unfold B_u_law_kind
  simp only [awW, awV, awO, awX, awZ, forall_const, implies_true, ↓reduceIte, reduceCtorEq, Nat.reduceAdd, Nat.reduceSub, Nat.reduceBEq, Nat.reduceEqDiff, Int.reduceNeg, qe_u_law_kind]
  refine wp_try_ok ?_
  unfold B_u_law_kind_1
  simp only [awW, awV, awO, awX, awZ, forall_const, implies_true, ↓reduceIte, reduceCtorEq, Nat.reduceAdd, Nat.reduceSub, Nat.reduceBEq, Nat.reduceEqDiff, Int.reduceNeg, qe_u_law_kind]
  refine put_together_ok h hr hl h8 ?_
  simp only [awW, awV, awO, awX, awZ, forall_const, implies_true, ↓reduceIte, reduceCtorEq, Nat.reduceAdd, Nat.reduceSub, Nat.reduceBEq, Nat.reduceEqDiff, Int.reduceNeg, qe_u_law_kind, awQ]
  unfold B_u_law_kind_2
  simp only [awW, awV, awO, awX, awZ, forall_const, implies_true, ↓reduceIte, reduceCtorEq, Nat.reduceAdd, Nat.reduceSub, Nat.reduceBEq, Nat.reduceEqDiff, Int.reduceNeg, qe_u_law_kind, awR]
  have ln : (putR row (r0 :: rs) r0.many).deeds.length = ((r0 :: rs).map (·.deeds.length)).sum + row.deeds.length := by
    show ((putA r0.many (r0 :: rs)).1 ++ row.deeds.map _).length = _
    rw [List.length_append, List.length_map, putA_len]
  rw [List.length_map, ln]
  refine ⟨?_, k⟩
  rw [Int.natAbs_natCast]
  have := Nat.log2_le_self (((r0 :: rs).map (·.deeds.length)).sum + row.deeds.length)
  omega
end AW

/-! Carry: one bit of every deed, and what it hands on. -/
namespace AW
open PySem
def bv (b : Bool) : Int := if b then 1 else 0
def bi (b : Bool) : D := .int (bv b)
theorem bv_t : bv true = 1 := rfl
theorem bv_f : bv false = 0 := rfl
theorem bi_def {b : Bool} : bi b = .int (bv b) := rfl
theorem bv_01 {x : Int} (h0 : 0 ≤ x) (h1 : x < 2) : ∃ b, x = bv b := by
  rcases (by omega : x = 0 ∨ x = 1) with e | e
  · exact ⟨false, e⟩
  · exact ⟨true, e⟩
theorem mu00 : mulOk 0 0 = true := mulOk_l (by decide) (by decide)
theorem mu01 : mulOk 0 1 = true := mulOk_l (by decide) (by decide)
theorem mu10 : mulOk 1 0 = true := mulOk_l (by decide) (by decide)
theorem mu11 : mulOk 1 1 = true := mulOk_l (by decide) (by decide)
theorem di2 : divOk 2 = true := divOk_of (by decide) (by decide)
theorem v_eqB {a b : Bool} {P : Bool → Prop} : wo (dCmp .eq (.bl a) (.bl b)) P = P (decide (a = b)) := by
  rw [v_eq rfl]
  cases a <;> cases b <;> exact propext ⟨fun h => h.2, fun h => ⟨rfl, h⟩⟩
/-- the two numbers -/
theorem bvs : type_of% @bv_t ∧ type_of% @bv_f ∧ type_of% @mu00 ∧ type_of% @mu01 ∧ type_of% @mu10 ∧ type_of% @mu11 ∧ type_of% @di2 ∧ type_of% @v_eqB := ⟨@bv_t, @bv_f, @mu00, @mu01, @mu10, @mu11, @di2, @v_eqB⟩
/-- held bits: a list or a tuple that nobody else may change -/
def Bs (d : D) (h : List Bool) : Prop := d = .lst true (h.map bi) ∨ d = .lst false (h.map bi) ∨ d = .tup (h.map bi)
def lk (h : List Bool) (n : Int) : Bool := h.getD n.toNat false
theorem nOs_bi {h : List Bool} : noOwns (h.map bi) = true := nOs_map fun _ _ => rfl
theorem okFs_bi {h : List Bool} : okFs (h.map bi) = true := okFs_of _ nOs_bi
theorem fzs_bi {h : List Bool} : frzs (h.map bi) = h.map bi := fzs_of _ nOs_bi
theorem atI_bi {h : List Bool} {n : Int} (h0 : 0 ≤ n) (h1 : n < h.length) : L2.atI (h.map bi) n = some (.int (bv (lk h n))) := by
  rw [atI_int h0, List.getElem?_map, List.getElem?_eq_getElem (show n.toNat < h.length by omega)]
  simp [lk, bi, List.getD_eq_getElem?_getD, show n.toNat < h.length by omega]
theorem Bs.idx {d : D} {h : List Bool} (hd : Bs d h) {n : Int} (h0 : 0 ≤ n) (h1 : n < h.length) (P : D → Prop) : wo (dIdx d (.int n)) P = P (.int (bv (lk h n))) := by
  rcases hd with e | e | e
  · rw [e, v_idxL, atI_bi h0 h1]
    exact propext ⟨fun h => h.2, fun h => ⟨rfl, h⟩⟩
  · rw [e, v_idxL, atI_bi h0 h1]
    exact propext ⟨fun h => h.2, fun h => ⟨rfl, h⟩⟩
  · rw [e, v_idxT, atI_bi h0 h1]
    exact propext ⟨fun h => h.2, fun h => ⟨rfl, h⟩⟩
theorem Bs.list {d : D} {h : List Bool} (hd : Bs d h) (P : D → Prop) : wo (dBlt .list1 [d]) P = P (.lst true (h.map bi)) := by
  rcases hd with e | e | e
  · rw [e, v_listL, nOs_bi]
    exact propext ⟨fun h => h.2, fun h => ⟨rfl, h⟩⟩
  · rw [e, v_listL, nOs_bi]
    exact propext ⟨fun h => h.2, fun h => ⟨rfl, h⟩⟩
  · rw [e, v_listT, nOs_bi]
    exact propext ⟨fun h => h.2, fun h => ⟨rfl, h⟩⟩
theorem DOk.shape {a : Int} {d : Dd} (h : DOk a d) : (d.w.ar = 0 ∧ d.ns = []) ∨ (d.w.ar = 1 ∧ ∃ n, d.ns = [n] ∧ 0 ≤ n ∧ n < a) ∨ (d.w.ar = 2 ∧ ∃ n m, d.ns = [n, m] ∧ 0 ≤ n ∧ n < a ∧ 0 ≤ m ∧ m < a) := by
  obtain ⟨w, ns⟩ := d
  obtain ⟨h1, h2⟩ := h
  have h1 : ns.length = w.ar := h1
  have h2 : ∀ n ∈ ns, 0 ≤ n ∧ n < a := h2
  have h3 : w.ar = 0 ∨ w.ar = 1 ∨ w.ar = 2 := by cases w <;> decide
  rcases h3 with e | e | e
  · exact .inl ⟨e, List.eq_nil_of_length_eq_zero (h1.trans e)⟩
  · obtain ⟨n, hn⟩ := List.length_eq_one_iff.mp (h1.trans e)
    exact .inr (.inl ⟨e, n, hn, h2 n (by rw [hn]; simp)⟩)
  · match ns, h1.trans e, h2 with
    | [n, m], _, h2 => exact .inr (.inr ⟨e, n, m, rfl, (h2 n (by simp)).1, (h2 n (by simp)).2, h2 m (by simp)⟩)
/-- the bit a word gives -/
def outB (w : Wd) (c a b : Bool) : Bool := match w with
  | .none => false
  | .one => c
  | .all => true
  | .twice => c
  | .not => !a
  | .neg => (!a) != c
  | .and => a && b
  | .or => a || b
  | .xor => a != b
  | .add => (a != b) != c
  | .sub => (a != b) != c
/-- the carry it hands on -/
def carB (w : Wd) (c a b : Bool) : Bool := match w with
  | .neg => !a && c
  | .twice => a
  | .add => (a && b) || (a && c) || (b && c)
  | .sub => (!a && b) || (!a && c) || (b && c)
  | _ => false
def ag (h : List Bool) (d : Dd) (i : Nat) : Bool := lk h (d.ns.getD i 0)
def bitD (d : Dd) (c : Bool) (h : List Bool) : Bool := outB d.w c (ag h d 0) (ag h d 1)
def carD (d : Dd) (c : Bool) (h : List Bool) : Bool := carB d.w c (ag h d 0) (ag h d 1)
/-- all bits -/
def bitsF : List Dd → List Bool → List Bool → List Bool
  | d :: ds, c :: cs, h => bitsF ds cs (h ++ [bitD d c h])
  | _, _, h => h
def nextF (ds : List Dd) (cs h : List Bool) : List Bool := List.zipWith (fun d c => carD d c h) ds cs
def firstF (ds : List Dd) : List Bool := ds.map fun d => decide (d.w = .neg) || decide (d.w = .one)
theorem bitsF_len : ∀ {ds : List Dd} {cs h : List Bool}, ds.length = cs.length → (bitsF ds cs h).length = h.length + ds.length
  | [], [], h, _ => rfl
  | d :: ds, c :: cs, h, e => by
    rw [bitsF, bitsF_len (by simpa using e), List.length_append, List.length_cons]
    simp
    omega
theorem bitsF_append : ∀ {ds es : List Dd} {cs fs h : List Bool}, ds.length = cs.length → bitsF (ds ++ es) (cs ++ fs) h = bitsF es fs (bitsF ds cs h)
  | [], es, [], fs, h, _ => rfl
  | d :: ds, es, c :: cs, fs, h, e => by
    rw [List.cons_append, List.cons_append, bitsF, bitsF, bitsF_append (by simpa using e)]
theorem nextF_len {ds : List Dd} {cs h : List Bool} (e : ds.length = cs.length) : (nextF ds cs h).length = ds.length := by
  unfold nextF
  rw [List.length_zipWith]
  omega
theorem firstF_len {ds : List Dd} : (firstF ds).length = ds.length := List.length_map ..
theorem eq_bi {a b : Bool} {P : Bool → Prop} : wo (dCmp .eq (.int (bv a)) (.int (bv b))) P = P (a == b) := by
  rw [v_eqI]
  congr 1
  cases a <;> cases b <;> rfl
theorem zip_map {α β : Type} {f : α → D} {g : β → D} : ∀ {xs : List α} {ys : List β}, zipD (xs.map f) (ys.map g) = (xs.zip ys).map fun p => .tup [f p.1, g p.2]
  | [], ys => rfl
  | x :: xs, [] => rfl
  | x :: xs, y :: ys => by
    rw [List.map_cons, List.map_cons, List.zip_cons_cons, List.map_cons, ← zip_map]
    rfl
theorem zip2_tt {xs ys : List D} (hx : noOwns xs = true) (hy : noOwns ys = true) {P : List D × List D → Prop} : wo (zip2D (.tup xs) (.tup ys)) P = P (xs, ys) := by
  have e1 : seqOf (.tup xs) = some xs := by
    show (if noOwns xs = true then some xs else none) = _
    rw [hx]
    rfl
  have e2 : seqOf (.tup ys) = some ys := by
    show (if noOwns ys = true then some ys else none) = _
    rw [hy]
    rfl
  have e : zip2D (.tup xs) (.tup ys) = some (xs, ys) := by
    unfold zip2D
    rw [e1, e2]
    rfl
  rw [e]
  rfl
/-- a row's deeds beside carries -/
theorem zip_dc {ds : List Dd} {cs : List Bool} {P : List D × List D → Prop} : wo (zip2D (.tup (ds.map encD)) (.tup (cs.map bi))) P = P (ds.map encD, cs.map bi) := zip2_tt nOs_deeds nOs_bi
theorem zip_eq {ds : List Dd} {cs : List Bool} : zipD (ds.map encD) (cs.map bi) = (ds.zip cs).map fun p => .tup [encD p.1, bi p.2] := zip_map
end AW

/-! AllBits: every tuple of so many bits. -/
namespace AW
open PySem
def encB (b : List Bool) : D := .tup (b.map bi)
def lvl : Nat → List (List Bool)
  | 0 => [[]]
  | n + 1 => (lvl n).map (· ++ [false]) ++ (lvl n).map (· ++ [true])
def allB : Nat → List (List Bool)
  | 0 => [[]]
  | n + 1 => (allB n).map (false :: ·) ++ (allB n).map (true :: ·)
theorem nO_encB {b : List Bool} : noOwn (encB b) = true := nOs_bi
theorem nOs_encB {bs : List (List Bool)} : noOwns (bs.map encB) = true := nOs_map fun _ _ => nO_encB
theorem okFs_encB {bs : List (List Bool)} : okFs (bs.map encB) = true := okFs_of _ nOs_encB
theorem fzs_encB {bs : List (List Bool)} : frzs (bs.map encB) = bs.map encB := fzs_of _ nOs_encB
theorem tups_encB : ∀ {bs : List (List Bool)}, allTups (bs.map encB) = some (bs.map (·.map bv))
  | [] => rfl
  | b :: bs => by
    have e : tupInts (encB b) = some (b.map bv) := by
      show allInts (b.map bi) = _
      have e2 : b.map bi = (b.map bv).map D.int := by
        rw [List.map_map]
        rfl
      rw [e2, allInts_map]
    show (tupInts (encB b)).bind (fun t => (allTups (bs.map encB)).map (t :: ·)) = _
    rw [e, tups_encB]
    rfl
theorem sort_lvl {n : Nat} (h1 : 1 ≤ n) (h3 : n ≤ 3) : (decide (((lvl n).map (·.map bv)).length < 64 ∧ 1 ≤ lenOf ((lvl n).map (·.map bv))) && ((lvl n).map (·.map bv)).all (bitsOf (lenOf ((lvl n).map (·.map bv))))) = true ∧ sortT ((lvl n).map (·.map bv)) = (allB n).map (·.map bv) := by
  have : n = 1 ∨ n = 2 ∨ n = 3 := by omega
  rcases this with rfl | rfl | rfl <;> exact ⟨by decide, by decide +kernel⟩
theorem encB_eq {bs : List (List Bool)} : (bs.map (·.map bv)).map (fun t => D.tup (t.map .int)) = bs.map encB := by
  rw [List.map_map]
  refine List.map_congr_left fun b _ => ?_
  show D.tup ((b.map bv).map .int) = .tup (b.map bi)
  rw [List.map_map]
  rfl
theorem allB_len : ∀ {n : Nat} {b : List Bool}, b ∈ allB n → b.length = n
  | 0, b, h => by
    rw [List.mem_singleton.mp h]
    rfl
  | n + 1, b, h => by
    rcases List.mem_append.mp h with h | h <;>
    · obtain ⟨c, hc, rfl⟩ := List.mem_map.mp h
      rw [List.length_cons, allB_len hc]
theorem lvl_mem : ∀ {n : Nat} {b : List Bool}, b ∈ lvl n → b.length = n
  | 0, b, h => by
    rw [List.mem_singleton.mp h]
    rfl
  | n + 1, b, h => by
    rcases List.mem_append.mp h with h | h <;>
    · obtain ⟨c, hc, rfl⟩ := List.mem_map.mp h
      rw [List.length_append, lvl_mem hc]
      rfl
theorem one_more {n : Nat} {b : List Bool} (h : b ∈ lvl n) (hn : n ≤ 3) (c : Bool) : decide ((b.map bi).length + 1 ≤ SZ) = true ∧ okFs (b.map bi) = true ∧ D.tup (frzs (b.map bi) ++ [.int (bv c)]) = D.tup ((b ++ [c]).map bi) := by
  refine ⟨decide_eq_true ?_, okFs_bi, ?_⟩
  · rw [List.length_map, lvl_mem h]
    show n + 1 ≤ 16777216
    omega
  · rw [fzs_bi, List.map_append]
    rfl
theorem lvl_len : ∀ {n : Nat}, (lvl n).length = 2 ^ n
  | 0 => rfl
  | n + 1 => by
    show ((lvl n).map (· ++ [false]) ++ (lvl n).map (· ++ [true])).length = _
    rw [List.length_append, List.length_map, List.length_map, lvl_len, Nat.pow_succ]
    omega
theorem allB_size : ∀ {n : Nat}, (allB n).length = 2 ^ n
  | 0 => rfl
  | n + 1 => by
    show ((allB n).map (false :: ·) ++ (allB n).map (true :: ·)).length = _
    rw [List.length_append, List.length_map, List.length_map, allB_size, Nat.pow_succ]
    omega
theorem Shw_bi {cs : List Bool} {k : Nat} (h : cs.length ≤ k) : Shw 1 (k * 65) (.tup (cs.map bi)) := Shw_tup k (by rw [List.length_map]; exact h) fun d hd => by
  obtain ⟨b, _, rfl⟩ := List.mem_map.mp hd
  exact Shw_int (by cases b <;> decide)
theorem repr_bi {cs : List Bool} (h : cs.length ≤ 100) : dRepr (.tup (cs.map bi)) = some (.str (rp (.tup (cs.map bi)))) := dRepr_of (Shw_bi h) (by decide) (by decide)
theorem repr_R {r : Row} (h : RowOk r) : dRepr (encR r) = some (.str (rp (encR r))) := dRepr_of (Shw_encR h) (by decide) (by decide)
theorem okF_encB {b : List Bool} : okF (encB b) = true := okFs_bi
theorem fz_encB {b : List Bool} : frz (encB b) = encB b := fz_of _ nO_encB
/-- tuples of bits -/
theorem awB : type_of% @nOs_bi ∧ type_of% @okFs_bi ∧ type_of% @fzs_bi ∧ type_of% @nOs_encB ∧ type_of% @okFs_encB ∧ type_of% @fzs_encB ∧ type_of% @zip_dc ∧ type_of% @zip_eq ∧ type_of% @nO_encB ∧ type_of% @okF_encB ∧ type_of% @fz_encB := ⟨@nOs_bi, @okFs_bi, @fzs_bi, @nOs_encB, @okFs_encB, @fzs_encB, @zip_dc, @zip_eq, @nO_encB, @okF_encB, @fz_encB⟩
/-- one of all tuples -/
theorem atI_allB {n : Nat} {i : Int} (h0 : 0 ≤ i) (h1 : i < (2 ^ n : Nat)) : ∃ b, b ∈ allB n ∧ L2.atI ((allB n).map encB) i = some (encB b) := by
  have hl : i.toNat < (allB n).length := by
    rw [allB_size]
    omega
  refine ⟨(allB n)[i.toNat], List.getElem_mem hl, ?_⟩
  rw [atI_int h0, List.getElem?_map, List.getElem?_eq_getElem hl]
  rfl
end AW

/-! Keys: tuples as keys of dicts; sorted lists of them. -/
namespace AW
open PySem
/-- a way to write something as a key -/
structure KEnc {α : Type} (enc : α → D) : Prop where
  inj : ∀ a b, nkOf (enc a) = nkOf (enc b) → a = b
  tk : ∀ a, isTK (enc a) = true
  no : ∀ a, noOwn (enc a) = true
section
variable {α : Type} [DecidableEq α] {enc : α → D}
def lkp (l : List (α × D)) (a : α) : Option D := match l with
  | [] => none
  | p :: r => if p.1 = a then some p.2 else lkp r a
def kys (enc : α → D) (l : List (α × D)) : List D := l.map fun p => enc p.1
def vls (l : List (α × D)) : List D := l.map (·.2)
/-- stored at an old or a new key -/
def put (l : List (α × D)) (a : α) (v : D) : List (α × D) := if (lkp l a).isSome then l.map fun p => if p.1 = a then (p.1, v) else p else l ++ [(a, v)]
theorem tGet_enc (h : KEnc enc) (a : α) : ∀ l : List (α × D), tGet (kys enc l) (vls l) (enc a) = lkp l a
  | [] => rfl
  | p :: r => by
    show (if nkOf (enc p.1) = nkOf (enc a) then some p.2 else tGet (kys enc r) (vls r) (enc a)) = if p.1 = a then some p.2 else lkp r a
    rw [tGet_enc h a r]
    by_cases e : p.1 = a
    · rw [if_pos e, if_pos (by rw [e])]
    · rw [if_neg e, if_neg fun z => e (h.inj _ _ z)]
theorem tHas_enc (h : KEnc enc) (a : α) : ∀ l : List (α × D), tHas (kys enc l) (enc a) = (lkp l a).isSome
  | [] => rfl
  | p :: r => by
    show (decide (nkOf (enc p.1) = nkOf (enc a)) || tHas (kys enc r) (enc a)) = (if p.1 = a then some p.2 else lkp r a).isSome
    rw [tHas_enc h a r]
    by_cases e : p.1 = a
    · rw [if_pos e, decide_eq_true (by rw [e])]
      rfl
    · rw [if_neg e, decide_eq_false fun z => e (h.inj _ _ z)]
      rfl
theorem tRep_enc (h : KEnc enc) (a : α) (v : D) : ∀ l : List (α × D), tRep (kys enc l) (vls l) (enc a) v = vls (l.map fun p => if p.1 = a then (p.1, v) else p)
  | [] => rfl
  | p :: r => by
    show (if nkOf (enc p.1) = nkOf (enc a) then v else p.2) :: tRep (kys enc r) (vls r) (enc a) v = (if p.1 = a then (p.1, v) else p).2 :: vls (r.map fun p => if p.1 = a then (p.1, v) else p)
    rw [tRep_enc h a v r]
    by_cases e : p.1 = a
    · rw [if_pos e, if_pos (by rw [e])]
    · rw [if_neg e, if_neg fun z => e (h.inj _ _ z)]
theorem kys_rep {a : α} {v : D} : ∀ l : List (α × D), kys enc (l.map fun p => if p.1 = a then (p.1, v) else p) = kys enc l
  | [] => rfl
  | p :: r => by
    show enc (if p.1 = a then (p.1, v) else p).1 :: kys enc (r.map fun p => if p.1 = a then (p.1, v) else p) = enc p.1 :: kys enc r
    rw [kys_rep r]
    split <;> rfl
theorem tPut_enc (h : KEnc enc) (a : α) (v : D) (l : List (α × D)) : tPut (kys enc l) (vls l) (enc a) v = (kys enc (put l a v), vls (put l a v)) := by
  unfold tPut put
  rw [tHas_enc h]
  by_cases e : (lkp l a).isSome = true
  · rw [if_pos e, if_pos e, tRep_enc h, kys_rep]
  · rw [if_neg e, if_neg e]
    simp [kys, vls]
/-- the same, as a pair each -/
theorem tPut1 (h : KEnc enc) (a : α) (v : D) (l : List (α × D)) : (tPut (kys enc l) (vls l) (enc a) v).1 = kys enc (put l a v) := by rw [tPut_enc h]
theorem tPut2 (h : KEnc enc) (a : α) (v : D) (l : List (α × D)) : (tPut (kys enc l) (vls l) (enc a) v).2 = vls (put l a v) := by rw [tPut_enc h]
theorem kys_len {l : List (α × D)} : (kys enc l).length = l.length := List.length_map ..
theorem nOs_kys (h : KEnc enc) {l : List (α × D)} : noOwns (kys enc l) = true := nOs_map fun _ _ => h.no _
theorem lkp_none {a : α} : ∀ {l : List (α × D)}, lkp l a = none ↔ a ∉ l.map (·.1)
  | [] => by simp [lkp]
  | p :: r => by
    unfold lkp
    by_cases e : p.1 = a
    · rw [if_pos e]
      simp [e]
    · rw [if_neg e, lkp_none, List.map_cons, List.mem_cons]
      simp [Ne.symm e]
theorem lkp_some {a : α} {l : List (α × D)} : (lkp l a).isSome = true ↔ a ∈ l.map (·.1) := by
  by_cases e : a ∈ l.map (·.1)
  · refine ⟨fun _ => e, fun _ => ?_⟩
    cases z : lkp l a with
    | none => exact absurd e (lkp_none.mp z)
    | some v => rfl
  · rw [lkp_none.mpr e]
    exact ⟨fun z => (by cases z), fun z => absurd z e⟩
theorem lkp_dec {a : α} {l : List (α × D)} : (lkp l a).isSome = decide (a ∈ l.map (·.1)) := by
  by_cases e : a ∈ l.map (·.1)
  · rw [decide_eq_true e]
    exact lkp_some.mpr e
  · rw [decide_eq_false e, lkp_none.mpr e]
    rfl
theorem put_new {a : α} {v : D} {l : List (α × D)} (h : a ∉ l.map (·.1)) : put l a v = l ++ [(a, v)] := by
  unfold put
  rw [lkp_none.mpr h]
  rfl
end
/-! ### tuples of bits -/
theorem nkOf_encB : ∀ b : List Bool, nkOf (encB b) = some (.tup (b.map fun x => .num (bv x)))
  | b => by
    have z : ∀ b : List Bool, nksOf (b.map bi) = some (b.map fun x => .num (bv x)) := fun b => by
      induction b with
      | nil => rfl
      | cons x r ih =>
        show (nkOf (bi x)).bind (fun k => (nksOf (r.map bi)).map (k :: ·)) = _
        rw [ih]
        rfl
    show (nksOf (b.map bi)).map NestedKey.tup = _
    rw [z]
    rfl
theorem bv_inj {a b : Bool} (h : bv a = bv b) : a = b := by
  cases a <;> cases b <;> first | rfl | (cases h)
theorem nums_inj : ∀ {a b : List Bool}, (a.map fun x => NestedKey.num (bv x)) = (b.map fun x => .num (bv x)) → a = b
  | [], [], _ => rfl
  | [], _ :: _, h => by cases h
  | _ :: _, [], h => by cases h
  | x :: r, y :: s, h => by
    rw [List.map_cons, List.map_cons] at h
    have h1 := NestedKey.num.inj (List.cons.inj h).1
    rw [bv_inj h1, nums_inj (List.cons.inj h).2]
theorem encB_inj {a b : List Bool} (h : nkOf (encB a) = nkOf (encB b)) : a = b := by
  rw [nkOf_encB, nkOf_encB] at h
  exact nums_inj (NestedKey.tup.inj (Option.some.inj h))
theorem depth_nums : ∀ b : List Bool, NestedKey.depthAll (b.map fun x => .num (bv x)) ≤ 0
  | [] => by simp [NestedKey.depthAll]
  | x :: r => by
    have := depth_nums r
    simp [NestedKey.depthAll, NestedKey.depth]
    omega
theorem kenc_B : KEnc encB where
  inj := fun a b => encB_inj
  tk := fun b => by
    unfold isTK
    rw [nkOf_encB]
    refine decide_eq_true ?_
    have := depth_nums b
    simp [NestedKey.depth]
    omega
  no := fun _ => nO_encB
end AW

/-! Sorts: sorted lists of tuples of bits, and of anything that is ordered by data. -/
namespace AW
open PySem
theorem dle_total : PySem.W.TotalLe dle := show PySem.W.TotalLe (PySem.W.dataLe false toP) from PySem.W.sortLe_total _ _ _
/-- sorted is one list for all orders of the same items -/
theorem sort_one {l m : List D} (hp : l.Perm m) (ha : ∀ a ∈ l, ∀ b ∈ l, dle a b = true → dle b a = true → a = b) : l.mergeSort dle = m.mergeSort dle := by
  refine List.Perm.eq_of_pairwise (fun a b h1 h2 h3 h4 => ha a ((List.mergeSort_perm l dle).mem_iff.mp h1) b (hp.mem_iff.mpr ((List.mergeSort_perm m dle).mem_iff.mp h2)) h3 h4) (PySem.W.sort_pairwise dle_total l) (PySem.W.sort_pairwise dle_total m) ?_
  exact ((List.mergeSort_perm l dle).trans hp).trans (List.mergeSort_perm m dle).symm
theorem sort_is {l m : List D} (hp : l.Perm m) (hs : m.Pairwise fun a b => dle a b = true) (ha : ∀ a ∈ l, ∀ b ∈ l, dle a b = true → dle b a = true → a = b) : l.mergeSort dle = m := by
  refine List.Perm.eq_of_pairwise (fun a b h1 h2 h3 h4 => ha a ((List.mergeSort_perm l dle).mem_iff.mp h1) b (hp.mem_iff.mpr h2) h3 h4) (PySem.W.sort_pairwise dle_total l) hs ((List.mergeSort_perm l dle).trans hp)
theorem toP_bi : ∀ b : List Bool, toPs (b.map bi) = (b.map bv).map PyData.int
  | [] => rfl
  | x :: r => by
    show toP (bi x) :: toPs (r.map bi) = _
    rw [toP_bi r]
    rfl
theorem dle_encB (a b : List Bool) : dle (encB a) (encB b) = !decide (b.map bv < a.map bv) := by
  show PySem.W.dataLe false toP (encB a) (encB b) = _
  rw [PySem.W.dataLe_eq]
  show (!PySem.W.dataLt (.tuple (toPs (b.map bi))) (.tuple (toPs (a.map bi)))) = _
  rw [PySem.W.dataLt_tuple, toP_bi, toP_bi]
  have z := PySem.W.dataLt_ints (b.map bv) (a.map bv)
  unfold PySem.W.rowLt at z
  rw [z]
theorem bvs_inj : ∀ {a b : List Bool}, a.map bv = b.map bv → a = b
  | [], [], _ => rfl
  | [], _ :: _, h => by cases h
  | _ :: _, [], h => by cases h
  | x :: r, y :: s, h => by
    rw [List.map_cons, List.map_cons] at h
    rw [bv_inj (List.cons.inj h).1, bvs_inj (List.cons.inj h).2]
theorem dle_anti {a b : List Bool} (h1 : dle (encB a) (encB b) = true) (h2 : dle (encB b) (encB a) = true) : a = b := by
  rw [dle_encB] at h1 h2
  have h1 : ¬ b.map bv < a.map bv := by simpa using h1
  have h2 : ¬ a.map bv < b.map bv := by simpa using h2
  exact bvs_inj (List.le_antisymm h1 h2)
theorem anti_encB {l : List (List Bool)} : ∀ a ∈ l.map encB, ∀ b ∈ l.map encB, dle a b = true → dle b a = true → a = b := by
  intro a ha b hb h1 h2
  obtain ⟨x, _, rfl⟩ := List.mem_map.mp ha
  obtain ⟨y, _, rfl⟩ := List.mem_map.mp hb
  rw [dle_anti h1 h2]
/-- sorted tuples of bits -/
def sortB (l : List (List Bool)) : List (List Bool) := l.mergeSort fun a b => dle (encB a) (encB b)
theorem sortB_enc (l : List (List Bool)) : (l.map encB).mergeSort dle = (sortB l).map encB := by
  have z := List.map_mergeSort (r := fun a b => dle (encB a) (encB b)) (s := dle) (f := encB) (l := l) fun _ _ _ _ => rfl
  exact z.symm
theorem sortB_perm (l : List (List Bool)) : (sortB l).Perm l := List.mergeSort_perm _ _
theorem encB_mapinj : ∀ {l m : List (List Bool)}, l.map encB = m.map encB → l = m
  | [], [], _ => rfl
  | [], _ :: _, h => by cases h
  | _ :: _, [], h => by cases h
  | x :: r, y :: s, h => by
    rw [List.map_cons, List.map_cons] at h
    rw [encB_inj (congrArg nkOf (List.cons.inj h).1), encB_mapinj (List.cons.inj h).2]
theorem sortB_one {l m : List (List Bool)} (hp : l.Perm m) : sortB l = sortB m := by
  refine encB_mapinj ?_
  rw [← sortB_enc, ← sortB_enc]
  exact sort_one (hp.map encB) anti_encB
/-- it may be sorted -/
theorem srtOk_of {l : List D} {n : Nat} (h1 : ∀ d ∈ l, shN n d) (hn : n ≤ 60) (h2 : noOwns l = true) (h3 : ∀ a ∈ l, ∀ b ∈ l, PySem.W.alike (toP a) (toP b) = true) (h4 : ((l.all neTup || l.all flatS) || (decide (l.length ≤ 1) && l.all notNon)) = true) : srtOk l = true := by
  unfold srtOk
  rw [isPs_all fun d hd => (h1 d hd).1, h2, h4]
  simp only [Bool.true_and, Bool.and_true, Bool.and_eq_true, List.all_eq_true, decide_eq_true_eq]
  exact ⟨h3, fun d hd => Nat.le_trans (h1 d hd).2.2 hn⟩
theorem shN_bi {x : Bool} : shN 0 (bi x) := shN_int
theorem shN_encB {b : List Bool} : shN 1 (encB b) := shN_tup fun d hd => by
  obtain ⟨x, _, rfl⟩ := List.mem_map.mp hd
  exact shN_bi
theorem alike_encB (a b : List Bool) : PySem.W.alike (toP (encB a)) (toP (encB b)) = true := by
  show PySem.W.alike (.tuple (toPs (a.map bi))) (.tuple (toPs (b.map bi))) = true
  rw [toP_bi, toP_bi]
  unfold PySem.W.alike
  exact PySem.W.alike_ints _ _
theorem srtOk_encB {l : List (List Bool)} {n : Nat} (hl : ∀ b ∈ l, b.length = n) (h : 1 ≤ n ∨ l.length ≤ 1) : srtOk (l.map encB) = true := by
  refine srtOk_of (n := 1) (fun d hd => ?_) (by decide) nOs_encB (fun a ha b hb => ?_) ?_
  · obtain ⟨x, _, rfl⟩ := List.mem_map.mp hd
    exact shN_encB
  · obtain ⟨x, _, rfl⟩ := List.mem_map.mp ha
    obtain ⟨y, _, rfl⟩ := List.mem_map.mp hb
    exact alike_encB x y
  · rcases h with h | h
    · have z : (l.map encB).all neTup = true := List.all_eq_true.mpr fun d hd => by
        obtain ⟨x, hx, rfl⟩ := List.mem_map.mp hd
        have hz := hl x hx
        cases x with
        | nil =>
          rw [List.length_nil] at hz
          omega
        | cons a r => rfl
      rw [z]
      rfl
    · have z : (l.map encB).all notNon = true := List.all_eq_true.mpr fun d hd => by
        obtain ⟨x, hx, rfl⟩ := List.mem_map.mp hd
        rfl
      rw [z, List.length_map, decide_eq_true h]
      simp
/-- all tuples of bits, as they are made, sorted -/
theorem sort_lvl2 {n : Nat} (h1 : 1 ≤ n) (h3 : n ≤ 3) : ((lvl n).map encB).mergeSort dle = (allB n).map encB := by
  refine sort_is (List.Perm.map encB ?_) ?_ anti_encB
  · rcases (by omega : n = 1 ∨ n = 2 ∨ n = 3) with rfl | rfl | rfl <;> decide
  · rw [List.pairwise_map]
    have z : ∀ l : List (List Bool), l.Pairwise (fun a b => ¬ b.map bv < a.map bv) → l.Pairwise fun a b => dle (encB a) (encB b) = true := fun l h => h.imp fun {a b} h => by
      rw [dle_encB]
      simpa using h
    refine z _ ?_
    rcases (by omega : n = 1 ∨ n = 2 ∨ n = 3) with rfl | rfl | rfl <;> decide +kernel
theorem srtOk_lvl {n : Nat} (h1 : 1 ≤ n) : srtOk ((lvl n).map encB) = true := srtOk_encB (fun b hb => lvl_mem hb) (.inl h1)
end AW

/-! Reach: what comes from a first one on; a search that meets all of it. -/
namespace AW
open PySem
inductive Rch {α : Type} (nx : α → List α) (a : α) : α → Prop
  | refl : Rch nx a a
  | step {b c : α} : Rch nx a b → c ∈ nx b → Rch nx a c
/-- a search half done: met so far, of these still to be looked at -/
structure Grow {α : Type} (nx : α → List α) (a : α) (met todo : List α) : Prop where
  nd : met.Nodup
  rc : ∀ x ∈ met, Rch nx a x
  st : a ∈ met
  sub : ∀ w ∈ todo, w ∈ met
  cl : ∀ x ∈ met, x ∈ todo ∨ ∀ y ∈ nx x, y ∈ met
section
variable {α : Type} {nx : α → List α} {a : α} {met todo : List α}
theorem Grow.one : Grow nx a [a] [a] := ⟨by simp, fun x hx => by rw [List.mem_singleton.mp hx]; exact .refl, by simp, fun w h => h, fun x hx => .inl hx⟩
theorem Grow.add (g : Grow nx a met todo) {c y : α} (hc : c ∈ met) (hy : y ∈ nx c) (hn : y ∉ met) {todo' : List α} (ht : ∀ w, w ∈ todo' ↔ w ∈ todo ∨ w = y) : Grow nx a (met ++ [y]) todo' where
  nd := List.nodup_append.mpr ⟨g.nd, by simp, fun u hu v hv e => by
    rw [List.mem_singleton.mp hv] at e
    rw [e] at hu
    exact hn hu⟩
  rc := fun x hx => by
    rcases List.mem_append.mp hx with hx | hx
    · exact g.rc x hx
    · rw [List.mem_singleton.mp hx]
      exact .step (g.rc c hc) hy
  st := List.mem_append.mpr (.inl g.st)
  sub := fun w hw => by
    rcases (ht w).mp hw with h | h
    · exact List.mem_append.mpr (.inl (g.sub w h))
    · rw [h]
      simp
  cl := fun x hx => by
    rcases List.mem_append.mp hx with hx | hx
    · rcases g.cl x hx with h | h
      · exact .inl ((ht x).mpr (.inl h))
      · exact .inr fun y hy => List.mem_append.mpr (.inl (h y hy))
    · exact .inl ((ht x).mpr (.inr (List.mem_singleton.mp hx)))
theorem Grow.done (g : Grow nx a met todo) {c : α} {todo' : List α} (ht : ∀ w, w ∈ todo → w ∈ todo' ∨ w = c) (hs : ∀ w ∈ todo', w ∈ todo) (hc : ∀ y ∈ nx c, y ∈ met) : Grow nx a met todo' where
  nd := g.nd
  rc := g.rc
  st := g.st
  sub := fun w hw => g.sub w (hs w hw)
  cl := fun x hx => by
    rcases g.cl x hx with h | h
    · rcases ht x h with h | h
      · exact .inl h
      · rw [h]
        exact .inr hc
    · exact .inr h
theorem Grow.same (g : Grow nx a met todo) {todo' : List α} (ht : ∀ w, w ∈ todo' ↔ w ∈ todo) : Grow nx a met todo' := ⟨g.nd, g.rc, g.st, fun w hw => g.sub w ((ht w).mp hw), fun x hx => (g.cl x hx).imp (fun h => (ht x).mpr h) id⟩
theorem Grow.all (g : Grow nx a met []) (x : α) : x ∈ met ↔ Rch nx a x := by
  refine ⟨g.rc x, fun h => ?_⟩
  induction h with
  | refl => exact g.st
  | step _ hy ih =>
    rcases g.cl _ ih with h | h
    · cases h
    · exact h _ hy
/-- two searches met the same -/
theorem Grow.perm {met' : List α} (g : Grow nx a met []) (g' : Grow nx a met' []) : met.Perm met' := (List.perm_ext_iff_of_nodup g.nd g'.nd).mpr fun x => (g.all x).trans (g'.all x).symm
end
/-! ### the carries of a row -/
theorem mem_allB : ∀ {n : Nat} {b : List Bool}, b.length = n → b ∈ allB n
  | 0, b, h => by
    rw [List.eq_nil_of_length_eq_zero h]
    simp [allB]
  | n + 1, b, h => by
    cases b with
    | nil => cases h
    | cons x r =>
      have z := mem_allB (n := n) (b := r) (by simpa using h)
      unfold allB
      cases x
      · exact List.mem_append.mpr (.inl (List.mem_map.mpr ⟨r, z, rfl⟩))
      · exact List.mem_append.mpr (.inr (List.mem_map.mpr ⟨r, z, rfl⟩))
theorem nodup_len {n : Nat} {l : List (List Bool)} (hn : l.Nodup) (hl : ∀ b ∈ l, b.length = n) : l.length ≤ 2 ^ n := by
  rw [← allB_size]
  exact List.Nodup.length_le_of_subset hn fun b hb => mem_allB (hl b hb)
/-- the next carries -/
def nxs (r : Row) (c : List Bool) : List (List Bool) := (allB r.many.toNat).map fun b => nextF r.deeds c (bitsF r.deeds c b)
theorem rch_len {r : Row} {c : List Bool} (h : Rch (nxs r) (firstF r.deeds) c) : c.length = r.deeds.length := by
  induction h with
  | refl => exact firstF_len
  | step _ hy ih =>
    obtain ⟨b, _, rfl⟩ := List.mem_map.mp hy
    exact nextF_len ih.symm
/-- lists of tuples of bits -/
theorem shp_encBs {o : Bool} {l : List (List Bool)} : shp (.lst o (l.map encB)) = true := (shN_lst (n := 1) fun d hd => by
  obtain ⟨x, _, rfl⟩ := List.mem_map.mp hd
  exact shN_encB).shp (by decide)
theorem shp_nil {o : Bool} : shp (.lst o []) = true := (shN_lst (n := 0) fun d hd => by cases hd).shp (by decide)
theorem deq_nil {o o' : Bool} : ∀ {l : List D}, deq (.lst o l) (.lst o' []) = l.isEmpty
  | [] => by unfold deq toP toPs PyData.eqv PyData.eqvAll; rfl
  | d :: l => by unfold deq toP toPs PyData.eqv PyData.eqvAll; rfl
theorem v_neE {o o' : Bool} {l : List D} {P : Bool → Prop} : wo (dCmp .ne (.lst o l) (.lst o' [])) P = (shp (.lst o l) = true ∧ P (!l.isEmpty)) := by
  show wo ((dEq (.lst o l) (.lst o' [])).map not) P = _
  unfold dEq
  rw [show (isSt (.lst o l) && isSt (.lst o' [])) = false from rfl, if_neg (by decide), shp_nil, Bool.and_true, wo_map, wo_if, deq_nil]
  rfl
theorem last_map {α : Type} {f : α → D} {ws : List α} {c : α} : ((ws ++ [c]).map f)[((ws ++ [c]).map f).length - 1]? = some (f c) := by simp
theorem drop_map {α : Type} {f : α → D} {ws : List α} {c : α} : ((ws ++ [c]).map f).dropLast = ws.map f := by simp
theorem isE_map {α : Type} {f : α → D} {ws : List α} : (ws.map f).isEmpty = ws.isEmpty := by cases ws <;> rfl
end AW

/-! Rows2: a list of rows shown. -/
namespace AW
open PySem
theorem okF_encRs {o : Bool} {l : List Row} : okF (.lst o (l.map encR)) = true := okFs_of _ (nOs_map fun _ _ => nO_encR)
theorem fz_encRs {o : Bool} {l : List Row} : frz (.lst o (l.map encR)) = .lst false (l.map encR) := by
  show D.lst false (frzs (l.map encR)) = _
  rw [fzs_of _ (nOs_map fun _ _ => nO_encR)]
theorem nO_encRs {o : Bool} {l : List Row} : noOwn (.lst o (l.map encR)) = !o := by
  show (!o && noOwns (l.map encR)) = _
  rw [nOs_map fun _ _ => nO_encR, Bool.and_true]
theorem repr_rows {o : Bool} {r : Row} {l : List Row} (h : RowOk r) (hl : ∀ x ∈ l, RowOk x) (hz : l.length ≤ 10) : dRepr (.tup [encR r, .lst o (l.map encR)]) = some (.str (rp (.tup [encR r, .lst o (l.map encR)]))) :=
  dRepr_of (n := 5) (L := 2 * (50010 + 1)) (Shw_tup (n := 4) (L := 50010) 2 (by simp) fun d hd => by
    rcases List.mem_cons.mp hd with rfl | hd
    · exact (Shw_encR h).mono (by decide) (by decide)
    · rw [List.mem_singleton.mp hd]
      exact (Shw_lst (n := 3) (L := 5000) 10 (by rw [List.length_map]; exact hz) fun d hd => by
        obtain ⟨x, hx, rfl⟩ := List.mem_map.mp hd
        exact Shw_encR (hl x hx)).mono (by decide) (by decide)) (by decide) (by decide)
end AW

/-! Deeds: rows changed at one place; rows compared. -/
namespace AW
open PySem
theorem sIx_none {n : Nat} {d : Nat} : HT.sIx n d none = d := rfl
theorem sIx_nn {n a d : Nat} (h : a ≤ n) : HT.sIx n d (some (a : Int)) = a := by
  show (if (a : Int) < 0 then ((a : Int) + n).toNat else min a n) = a
  rw [if_neg (by omega)]
  omega
theorem cut_to {α : Type} {xs : List α} {a : Nat} (h : a ≤ xs.length) : cutD xs none (some (a : Int)) = xs.take a := by
  unfold cutD
  rw [sIx_none, sIx_nn h]
  simp
theorem cut_from {α : Type} {xs : List α} {a : Nat} (h : a ≤ xs.length) : cutD xs (some (a : Int)) none = xs.drop a := by
  unfold cutD
  rw [sIx_none, sIx_nn h, List.take_of_length_le (by rw [List.length_drop]; omega)]
theorem cutD_map {α β : Type} {f : α → β} {xs : List α} {lo hi : Option Int} : cutD (xs.map f) lo hi = (cutD xs lo hi).map f := by
  unfold cutD
  rw [List.length_map, ← List.map_drop, ← List.map_take]
theorem set_cut {α : Type} {xs : List α} {a : Nat} {x : α} (h : a < xs.length) : xs.take a ++ [x] ++ xs.drop (a + 1) = xs.set a x := by
  rw [List.set_eq_take_append_cons_drop, if_pos h, List.append_assoc]
  rfl
theorem shN_encDs {ds : List Dd} : shN 2 (.tup (ds.map encD)) := shN_tup fun x hx => by
  obtain ⟨i, _, rfl⟩ := List.mem_map.mp hx
  exact shN_encD
theorem deq_nilT : ∀ {l : List D}, deq (.tup l) (.tup []) = l.isEmpty
  | [] => by unfold deq toP toPs PyData.eqv PyData.eqvAll; rfl
  | d :: l => by unfold deq toP toPs PyData.eqv PyData.eqvAll; rfl
/-- deeds == () -/
theorem v_eqDN {ds : List Dd} {P : Bool → Prop} : wo (dCmp .eq (.tup (ds.map encD)) (.tup [])) P = P ds.isEmpty := by
  have e : ((ds.map encD).isEmpty) = ds.isEmpty := by cases ds <;> rfl
  rw [v_eq rfl, deq_nilT, e, shN_encDs.shp (by decide), (shN_tup (n := 0) (ds := []) fun d hd => by cases hd).shp (by decide)]
  exact propext ⟨fun h => h.2, fun h => ⟨rfl, h⟩⟩
theorem RowOk.set {r : Row} (hr : RowOk r) {a : Nat} {x : Dd} (hx : DOk (r.many + (a : Int)) x) : RowOk ⟨r.many, r.deeds.set a x, r.out⟩ := by
  refine ⟨hr.m1, hr.m3, by rw [List.length_set]; exact hr.l8, fun i d hd => ?_, hr.o0, by have := hr.o1; show r.out < r.many + ((r.deeds.set a x).length : Int); rw [List.length_set]; exact this⟩
  have hd : (r.deeds.set a x)[i]? = some d := hd
  rw [List.getElem?_set] at hd
  by_cases e : a = i
  · rw [if_pos e] at hd
    split at hd
    · cases hd
      rw [← e]
      exact hx
    · cases hd
  · rw [if_neg e] at hd
    exact hr.ds i d hd
end AW

namespace AW
open PySem
def T_law_k66 : Tb := ⟨["_law_well", "_law_draw", "_law_row", "_law_kind"], [], ["range", "int", "len", "sum", "str", "repr"]⟩
def N_law_k66 : List Str := ["script", "well", "turn", "way", "great", "many", "inputs", "row", "rows", "due", "size", "kept", "k", "one"]
def B_law_k66_1 : List S := [
  .asg [8] false (.idx (.lst (.cons (.slc (.var 8) (.cst (.int 1)) .non) (.cons (.bin .add (.var 8) (.slc (.var 8) .non (.cst (.int 1)))) (.cons (.lst .nil) .nil)))) (.var 3)),
  .asg [9] false (.cst (.str [112, 97, 105, 114]))]
def B_law_k66_2 : List S := [
  .stk 8 (.call 1 (.cons (.var 1) (.cons (.var 5) .nil))) (.call 2 (.cons (.var 1) (.cons (.bin .add (.cst (.int 1)) (.bin .mod (.var 6) (.cst (.int 3)))) (.cons (.idx (.lst (.cons (.cst (.int 2)) (.cons (.cst (.int 8)) .nil))) (.blt .int1 (.cons (.var 4) .nil))) .nil)))),
  .asg [9] false (.cst (.str [112, 97, 105, 114]))]
def B_law_k66_3 : List S := [
  .asg [9] false (.idx (.lst (.cons (.blt .str1 (.cons (.var 10) .nil)) (.cons (.cst (.str [109, 97, 110, 121])) .nil))) (.blt .int1 (.cons (.cmp .gt (.var 10) (.cst (.int 8))) .nil)))]
def B_law_k66_4 : List S := [
  .ret (.cst (.bl false))]
def B_law_k66_5 : List S := [
  .asg [11] false (.blt .repr1 (.cons (.tup (.cons (.var 7) (.cons (.var 8) .nil))) .nil)),
  .iff (.or_ (.cons (.cmp .ne (.call 3 (.cons (.var 7) (.cons (.var 8) .nil))) (.var 9)) (.cons (.cmp .ne (.blt .repr1 (.cons (.tup (.cons (.var 7) (.cons (.var 8) .nil))) .nil)) (.var 11)) .nil))) B_law_k66_4 []]
def B_law_k66_6 : List S := 
  .asg [10] false (.bin .add (.blt .len (.cons (.idx (.var 7) (.cst (.int 1))) .nil)) (.blt .sum1 (.cons (.lc [13] [13] false (.seq (.var 8)) (.cst (.bl true)) (.blt .len (.cons (.idx (.var 13) (.cst (.int 1))) .nil))) .nil))) ::
  .iff (.cmp .eq (.var 9) (.cst (.str []))) B_law_k66_3 [] ::
  B_law_k66_5
def B_law_k66_7 : List S := 
  .iff (.and_ (.cons (.chn .lt .lt (.cst (.int 2)) (.var 3) (.cst (.int 5))) (.cons (.cmp .gt (.var 5) (.cst (.int 1))) .nil))) B_law_k66_2 [] ::
  B_law_k66_6
def B_law_k66_8 : List S := 
  .asg [3] false (.call 1 (.cons (.var 1) (.cons (.cst (.int 7)) .nil))) ::
  .asg [4] false (.cmp .eq (.call 1 (.cons (.var 1) (.cons (.cst (.int 2)) .nil))) (.cst (.int 0))) ::
  .asg [5] false (.bin .add (.cst (.int 1)) (.call 1 (.cons (.var 1) (.cons (.cst (.int 3)) .nil)))) ::
  .asg [6] false (.bin .add (.cst (.int 1)) (.call 1 (.cons (.var 1) (.cons (.cst (.int 3)) .nil)))) ::
  .asg [7] false (.call 2 (.cons (.var 1) (.cons (.var 5) (.cons (.idx (.lst (.cons (.cst (.int 3)) (.cons (.cst (.int 8)) .nil))) (.blt .int1 (.cons (.var 4) .nil))) .nil)))) ::
  .asg [8] false (.lc [12] [12] false (.rng1 (.var 5)) (.cst (.bl true)) (.call 2 (.cons (.var 1) (.cons (.var 6) (.cons (.idx (.lst (.cons (.cst (.int 2)) (.cons (.cst (.int 8)) .nil))) (.blt .int1 (.cons (.var 4) .nil))) .nil))))) ::
  .asg [9] false (.cst (.str [])) ::
  .iff (.cmp .lt (.var 3) (.cst (.int 3))) B_law_k66_1 [] ::
  B_law_k66_7
def B_law_k66_9 : List S := [
  .ret (.cst (.bl true))]
def B_law_k66 : List S := 
  .asg [1] false (.call 0 (.cons (.var 0) .nil)) ::
  .for_ [2] false (.rng1 (.cst (.int 8))) B_law_k66_8 ::
  B_law_k66_9
noncomputable def q_law_k66 : Nat → List D → R D := qL [F_u_law_well, F_u_law_draw, F_u_law_row, F_u_law_kind]
theorem qe_law_k66 : q_law_k66 0 = F_u_law_well ∧ q_law_k66 1 = F_u_law_draw ∧ q_law_k66 2 = F_u_law_row ∧ q_law_k66 3 = F_u_law_kind := ⟨rfl, rfl, rfl, rfl⟩
noncomputable def F_law_k66 : List D → R D := runF q_law_k66 (G0) 70000 14 1 B_law_k66
theorem o_law_k66 {x0 : D} {K : D → Env → Prop} (h : wp (execs (q_law_k66) (G0) 70000 B_law_k66 [some x0, none, none, none, none, none, none, none, none, none, none, none, none, none]) (fin [1, 2, 3, 4, 5, 6, 7, 8, 9, 8, 9, 9, 10, 9, 11] [x0] K)) : wp (F_law_k66 [x0]) K := wp_run rfl h
end AW
namespace AW
open PySem
def AllR (m : Int) (rs : List Row) : Prop := ∀ r ∈ rs, RowOk r ∧ r.many = m
theorem main_k66 {ns : List Int} (hl : ns.length ≤ 63) (hb : ∀ i ∈ ns, Builtin.Int.intBits i ≤ 1048576) : wp (F_law_k66 [scr ns]) fun d _ => d = .bl true := by
  refine o_law_k66 ?_
  unfold B_law_k66
  simp only [awW, awV, awO, awX, awZ, forall_const, implies_true, ↓reduceIte, reduceCtorEq, Nat.reduceAdd, Nat.reduceSub, Nat.reduceBEq, Nat.reduceEqDiff, Int.reduceNeg, qe_law_k66]
  refine u_law_well_ok hb hl fun d hw => ?_
  simp only [awW, awV, awO, awX, awZ, forall_const, implies_true, ↓reduceIte, reduceCtorEq, Nat.reduceAdd, Nat.reduceSub, Nat.reduceBEq, Nat.reduceEqDiff, Int.reduceNeg, qe_law_k66]
  refine ⟨by decide, ?_⟩
  refine forL_rng (fun i e => ∃ d' x2 x3 x4 x5 x6 x7 x8 x9 x10 x11, IsW d' ∧ e = [some (scr ns), some d', x2, x3, x4, x5, x6, x7, x8, x9, x10, x11, none, none]) ⟨d, none, none, none, none, none, none, none, none, none, none, hw, rfl⟩ ?_ ?_
  · rintro e ⟨d', x2, x3, x4, x5, x6, x7, x8, x9, x10, x11, _, rfl⟩
    refine ⟨trivial, ?_⟩
    unfold B_law_k66_9
    simp only [awW, awV, awO, awX, awZ, forall_const, implies_true, ↓reduceIte, reduceCtorEq, Nat.reduceAdd, Nat.reduceSub, Nat.reduceBEq, Nat.reduceEqDiff, Int.reduceNeg, qe_law_k66]
  · rintro i e hi ⟨d', x2, x3, x4, x5, x6, x7, x8, x9, x10, x11, hw, rfl⟩
    refine ⟨trivial, ?_⟩
    unfold B_law_k66_8
    simp only [awW, awV, awO, awX, awZ, forall_const, implies_true, ↓reduceIte, reduceCtorEq, Nat.reduceAdd, Nat.reduceSub, Nat.reduceBEq, Nat.reduceEqDiff, Int.reduceNeg, qe_law_k66]
    refine u_law_draw_ok hw (by decide) (by decide) fun way d2 w0 w1 hw => ?_
    simp only [awW, awV, awO, awX, awZ, forall_const, implies_true, ↓reduceIte, reduceCtorEq, Nat.reduceAdd, Nat.reduceSub, Nat.reduceBEq, Nat.reduceEqDiff, Int.reduceNeg, qe_law_k66]
    refine u_law_draw_ok hw (by decide) (by decide) fun q d3 q0 q1 hw => ?_
    simp only [awW, awV, awO, awX, awZ, forall_const, implies_true, ↓reduceIte, reduceCtorEq, Nat.reduceAdd, Nat.reduceSub, Nat.reduceBEq, Nat.reduceEqDiff, Int.reduceNeg, qe_law_k66]
    generalize hg : decide (q = 0) = great
    refine u_law_draw_ok hw (by decide) (by decide) fun n d4 n0 n1 hw => ?_
    simp only [awW, awV, awO, awX, awZ, forall_const, implies_true, ↓reduceIte, reduceCtorEq, Nat.reduceAdd, Nat.reduceSub, Nat.reduceBEq, Nat.reduceEqDiff, Int.reduceNeg, qe_law_k66]
    refine u_law_draw_ok hw (by decide) (by decide) fun u d5 u0 u1 hw => ?_
    obtain ⟨a, ea, a0, a8⟩ : ∃ a : Int, L2.atI ([.int 3, .int 8] : List D) (if great = true then 1 else 0) = some (.int a) ∧ 0 ≤ a ∧ a ≤ 8 := by
      cases great
      · exact ⟨3, by rw [if_neg (by decide), atI_int (by decide)]; rfl, by decide, by decide⟩
      · exact ⟨8, by rw [if_pos rfl, atI_int (by decide)]; rfl, by decide, by decide⟩
    obtain ⟨b, eb, b0, b8⟩ : ∃ a : Int, L2.atI ([.int 2, .int 8] : List D) (if great = true then 1 else 0) = some (.int a) ∧ 0 ≤ a ∧ a ≤ 8 := by
      cases great
      · exact ⟨2, by rw [if_neg (by decide), atI_int (by decide)]; rfl, by decide, by decide⟩
      · exact ⟨8, by rw [if_pos rfl, atI_int (by decide)]; rfl, by decide, by decide⟩
    simp only [awW, awV, awO, awX, awZ, forall_const, implies_true, ↓reduceIte, reduceCtorEq, Nat.reduceAdd, Nat.reduceSub, Nat.reduceBEq, Nat.reduceEqDiff, Int.reduceNeg, qe_law_k66, ea, eb]
    refine u_law_row_ok hw (by omega) (by omega) a0 a8 fun r d6 hr hrm hrl hw => ?_
    simp only [awW, awV, awO, awX, awZ, forall_const, implies_true, ↓reduceIte, reduceCtorEq, Nat.reduceAdd, Nat.reduceSub, Nat.reduceBEq, Nat.reduceEqDiff, Int.reduceNeg, qe_law_k66, ea, eb]
    refine ⟨by omega, ?_⟩
    -- the end of a turn
    have last5 : ∀ (d6 : D) (ow : Bool) (rs : List Row) (w : List Nat) (x10 x11 : Option D), IsW d6 → (∀ x ∈ rs, RowOk x) → rs.length ≤ 10 → (∀ {o : Bool} {K : D → Env → Prop}, K (.str w) [some (encR r), some (.lst o (rs.map encR))] → wp (F_u_law_kind [encR r, .lst o (rs.map encR)]) K) →
        wp (execs q_law_k66 G0 70000 B_law_k66_5 [some (scr ns), some d6, some (.int (i : Int)), some (.int way), some (.bl great), some (.int (1 + n)), some (.int (1 + u)), some (encR r), some (.lst ow (rs.map encR)), some (.str w), x10, x11, none, none]) (lp (fun e => ∃ d' x2 x3 x4 x5 x6 x7 x8 x9 x10 x11, IsW d' ∧ e = [some (scr ns), some d', x2, x3, x4, x5, x6, x7, x8, x9, x10, x11, none, none]) (cn q_law_k66 G0 70000 B_law_k66_9 (fin [1, 2, 3, 4, 5, 6, 7, 8, 9, 8, 9, 9, 10, 9, 11] [scr ns] fun d x => d = D.bl true))) := by
      intro d6 ow rs w x10 x11 hw hrs hz hk
      unfold B_law_k66_5
      have nR : noOwns (rs.map encR) = true := nOs_map fun _ _ => nO_encR
      have rr := fun o => repr_rows (o := o) hr hrs hz
      cases ow
      · simp only [awW, awV, awO, awX, awZ, forall_const, implies_true, ↓reduceIte, reduceCtorEq, Nat.reduceAdd, Nat.reduceSub, Nat.reduceBEq, Nat.reduceEqDiff, Int.reduceNeg, qe_law_k66, awR, nR, okFs_of _ nR, fzs_of _ nR, rr]
        refine hk ?_
        simp only [awW, awV, awO, awX, awZ, forall_const, implies_true, ↓reduceIte, reduceCtorEq, Nat.reduceAdd, Nat.reduceSub, Nat.reduceBEq, Nat.reduceEqDiff, Int.reduceNeg, qe_law_k66, awR, nR, okFs_of _ nR, fzs_of _ nR, rr, v_ne, v_eqS]
        exact ⟨_, _, _, _, _, _, _, _, _, _, _, hw, rfl⟩
      · simp only [awW, awV, awO, awX, awZ, forall_const, implies_true, ↓reduceIte, reduceCtorEq, Nat.reduceAdd, Nat.reduceSub, Nat.reduceBEq, Nat.reduceEqDiff, Int.reduceNeg, qe_law_k66, awR, nR, okFs_of _ nR, fzs_of _ nR, rr]
        refine hk ?_
        simp only [awW, awV, awO, awX, awZ, forall_const, implies_true, ↓reduceIte, reduceCtorEq, Nat.reduceAdd, Nat.reduceSub, Nat.reduceBEq, Nat.reduceEqDiff, Int.reduceNeg, qe_law_k66, awR, nR, okFs_of _ nR, fzs_of _ nR, rr, v_ne, v_eqS]
        exact ⟨_, _, _, _, _, _, _, _, _, _, _, hw, rfl⟩
    -- told to be a pair
    have lastP : ∀ (d6 : D) (ow : Bool) (rs : List Row) (x10 x11 : Option D), IsW d6 → (∀ x ∈ rs, RowOk x) → rs.length ≤ 10 → ((rs.length : Int) ≠ r.many ∨ ∃ r0 q, rs = r0 :: q ∧ ∃ r ∈ q, r.many ≠ r0.many) →
        wp (execs q_law_k66 G0 70000 B_law_k66_6 [some (scr ns), some d6, some (.int (i : Int)), some (.int way), some (.bl great), some (.int (1 + n)), some (.int (1 + u)), some (encR r), some (.lst ow (rs.map encR)), some (.str [112, 97, 105, 114]), x10, x11, none, none]) (lp (fun e => ∃ d' x2 x3 x4 x5 x6 x7 x8 x9 x10 x11, IsW d' ∧ e = [some (scr ns), some d', x2, x3, x4, x5, x6, x7, x8, x9, x10, x11, none, none]) (cn q_law_k66 G0 70000 B_law_k66_9 (fin [1, 2, 3, 4, 5, 6, 7, 8, 9, 8, 9, 9, 10, 9, 11] [scr ns] fun d x => d = D.bl true))) := by
      intro d6 ow rs x10 x11 hw hrs hz hb
      have nR : noOwns (rs.map encR) = true := nOs_map fun _ _ => nO_encR
      unfold B_law_k66_6
      simp only [awW, awV, awO, awX, awZ, forall_const, implies_true, ↓reduceIte, reduceCtorEq, Nat.reduceAdd, Nat.reduceSub, Nat.reduceBEq, Nat.reduceEqDiff, Int.reduceNeg, qe_law_k66, awR, nR, List.length_map]
      refine ⟨by show _ ≤ 16777216; omega, ?_⟩
      refine lcL_all (g := encR) (k := fun r => .int (r.deeds.length : Nat)) (by cases ow <;> first | trivial | rfl) ?_ ?_
      · have ea : (rs.map fun r => D.int ((r.deeds.length : Nat) : Int)) = (rs.map fun r => ((r.deeds.length : Nat) : Int)).map .int := by rw [List.map_map]; rfl
        rw [ea]
        simp only [awW, awV, awO, awX, awZ, forall_const, implies_true, ↓reduceIte, reduceCtorEq, Nat.reduceAdd, Nat.reduceSub, Nat.reduceBEq, Nat.reduceEqDiff, Int.reduceNeg, qe_law_k66, okFs_ints, fzs_ints, allInts_map, v_eqS]
        exact last5 d6 ow rs _ _ _ hw hrs hz fun {o K} k => u_law_kind_exc (.inl ⟨rfl, rfl⟩) (put_together_pair hr hz hrs hb) k
      · intro x hx
        simp only [awW, awV, awO, awX, awZ, forall_const, implies_true, ↓reduceIte, reduceCtorEq, Nat.reduceAdd, Nat.reduceSub, Nat.reduceBEq, Nat.reduceEqDiff, Int.reduceNeg, qe_law_k66, awR, List.length_map]
    -- they go together
    have lastO : ∀ (d6 : D) (ow : Bool) (rs : List Row) (x10 x11 : Option D), IsW d6 → AllR (1 + u) rs → (rs.length : Int) = r.many →
        wp (execs q_law_k66 G0 70000 B_law_k66_6 [some (scr ns), some d6, some (.int (i : Int)), some (.int way), some (.bl great), some (.int (1 + n)), some (.int (1 + u)), some (encR r), some (.lst ow (rs.map encR)), some (.str []), x10, x11, none, none]) (lp (fun e => ∃ d' x2 x3 x4 x5 x6 x7 x8 x9 x10 x11, IsW d' ∧ e = [some (scr ns), some d', x2, x3, x4, x5, x6, x7, x8, x9, x10, x11, none, none]) (cn q_law_k66 G0 70000 B_law_k66_9 (fin [1, 2, 3, 4, 5, 6, 7, 8, 9, 8, 9, 9, 10, 9, 11] [scr ns] fun d x => d = D.bl true))) := by
      intro d6 ow rs x10 x11 hw hrs hz
      have rm := hr.m3
      have rm1 := hr.m1
      have r8 := hr.l8
      obtain ⟨r0, q, rfl⟩ : ∃ r0 q, rs = r0 :: q := by
        cases rs with
        | nil => simp at hz; omega
        | cons r0 q => exact ⟨r0, q, rfl⟩
      have hrs2 : ∀ r ∈ r0 :: q, RowOk r ∧ r.many = r0.many := fun x hx => ⟨(hrs x hx).1, (hrs x hx).2.trans (hrs r0 (by simp)).2.symm⟩
      generalize hR : r0 :: q = rs at *
      have nR : noOwns (rs.map encR) = true := nOs_map fun _ _ => nO_encR
      unfold B_law_k66_6
      simp only [awW, awV, awO, awX, awZ, forall_const, implies_true, ↓reduceIte, reduceCtorEq, Nat.reduceAdd, Nat.reduceSub, Nat.reduceBEq, Nat.reduceEqDiff, Int.reduceNeg, qe_law_k66, awR, nR, List.length_map]
      refine ⟨by show _ ≤ 16777216; omega, ?_⟩
      refine lcL_all (g := encR) (k := fun r => .int (r.deeds.length : Nat)) (by cases ow <;> first | trivial | rfl) ?_ ?_
      · have ea : (rs.map fun r => D.int ((r.deeds.length : Nat) : Int)) = (rs.map fun r => ((r.deeds.length : Nat) : Int)).map .int := by rw [List.map_map]; rfl
        rw [ea]
        have e10 : ((r.deeds.length : Nat) : Int) + (rs.map fun r => ((r.deeds.length : Nat) : Int)).sum = (((rs.map (·.deeds.length)).sum + r.deeds.length : Nat) : Int) := by
          rw [sum_lens]
          omega
        simp only [awW, awV, awO, awX, awZ, forall_const, implies_true, ↓reduceIte, reduceCtorEq, Nat.reduceAdd, Nat.reduceSub, Nat.reduceBEq, Nat.reduceEqDiff, Int.reduceNeg, qe_law_k66, okFs_ints, fzs_ints, allInts_map, v_eqS, List.length_map, e10]
        unfold B_law_k66_3
        generalize hN : (rs.map (·.deeds.length)).sum + r.deeds.length = N at *
        have hN2 : N ≤ 40 := by
          have : ∀ l : List Row, AllR (1 + u) l → (l.map (·.deeds.length)).sum ≤ 8 * l.length := by
            intro l
            induction l with
            | nil => exact fun _ => Nat.zero_le _
            | cons a l ih =>
              intro h
              have h1 := (h a (by simp)).1.l8
              have h2 := ih fun x hx => h x (by simp [hx])
              rw [List.map_cons, List.sum_cons, List.length_cons]
              omega
          have := this rs hrs
          omega
        have hlog : ((N : Int).natAbs).log2 < 1920 := by
          rw [Int.natAbs_natCast]
          have := Nat.log2_le_self N
          omega
        by_cases h8 : (8 : Int) < (N : Int)
        · have ia : L2.atI [D.str (digits (N : Int)), D.str [109, 97, 110, 121]] 1 = some (.str [109, 97, 110, 121]) := by
            rw [atI_int (by decide)]
            rfl
          simp only [awW, awV, awO, awX, awZ, forall_const, implies_true, ↓reduceIte, reduceCtorEq, Nat.reduceAdd, Nat.reduceSub, Nat.reduceBEq, Nat.reduceEqDiff, Int.reduceNeg, qe_law_k66, h8, ia]
          refine ⟨hlog, ?_⟩
          exact last5 d6 ow rs _ _ _ hw (fun x hx => (hrs x hx).1) (by omega) fun {o K} k => u_law_kind_exc (.inr ⟨rfl, rfl⟩) (by
            rw [← hR] at hN hz ⊢
            exact put_together_many hr (by rw [hR]; exact hrs2) hz (by omega)) k
        · have ia : L2.atI [D.str (digits (N : Int)), D.str [109, 97, 110, 121]] 0 = some (.str (digits (N : Int))) := by
            rw [atI_int (by decide)]
            rfl
          simp only [awW, awV, awO, awX, awZ, forall_const, implies_true, ↓reduceIte, reduceCtorEq, Nat.reduceAdd, Nat.reduceSub, Nat.reduceBEq, Nat.reduceEqDiff, Int.reduceNeg, qe_law_k66, h8, ia]
          refine ⟨hlog, ?_⟩
          exact last5 d6 ow rs _ _ _ hw (fun x hx => (hrs x hx).1) (by omega) fun {o K} k => by
            rw [← hR] at hN hz k ⊢
            refine u_law_kind_ok hr (by rw [hR]; exact hrs2) hz (by omega) ?_
            rw [hN]
            exact k
      · intro x hx
        simp only [awW, awV, awO, awX, awZ, forall_const, implies_true, ↓reduceIte, reduceCtorEq, Nat.reduceAdd, Nat.reduceSub, Nat.reduceBEq, Nat.reduceEqDiff, Int.reduceNeg, qe_law_k66, awR, List.length_map]
    refine ⟨by rw [rng_map, List.length_map, List.length_range]; show _ ≤ 16777216; omega, ?_⟩
    rw [rng_map]
    refine lcL_map (fun pre as acc e => ∃ (rs : List Row) (d' : D), acc = rs.map encR ∧ rs.length = pre.length ∧ AllR (1 + u) rs ∧ IsW d' ∧ e = [some (scr ns), some d', some (.int (i : Int)), some (.int way), some (.bl great), some (.int (1 + n)), some (.int (1 + u)), some (encR r), x8, x9, x10, x11, none, none]) ⟨[], d6, rfl, rfl, fun _ hx => (by cases hx), hw, rfl⟩ ?_ ?_
    · rintro acc e ⟨rs, d7, rfl, rl, hrs, hw, rfl⟩
      refine ⟨trivial, ?_⟩
      rw [List.length_range] at rl
      have nR : noOwns (rs.map encR) = true := nOs_map fun _ _ => nO_encR
      have rz : (rs.length : Int) = r.many := by omega
      have hrs1 : ∀ x ∈ rs, RowOk x := fun x hx => (hrs x hx).1
      simp only [awW, awV, awO, awX, awZ, forall_const, implies_true, ↓reduceIte, reduceCtorEq, Nat.reduceAdd, Nat.reduceSub, Nat.reduceBEq, Nat.reduceEqDiff, Int.reduceNeg, qe_law_k66, nR]
      refine ⟨fun h3 => ?_, fun h3 => ?_⟩
      · unfold B_law_k66_1
        have c1 : cutD (rs.map encR) (some 1) none = (rs.drop 1).map encR := by rw [cutD_map]; exact congrArg _ (cut_from (xs := rs) (a := 1) (by omega))
        have c2 : cutD (rs.map encR) none (some 1) = (rs.take 1).map encR := by rw [cutD_map]; exact congrArg _ (cut_to (xs := rs) (a := 1) (by omega))
        have nA : ∀ m : List Row, noOwns (m.map encR) = true := fun m => nOs_map fun _ _ => nO_encR
        have fA : ∀ m : List Row, frzs (m.map encR) = m.map encR := fun m => fzs_of _ (nA m)
        have oA : ∀ m : List Row, okFs (m.map encR) = true := fun m => okFs_of _ (nA m)
        have eA : ∀ m n : List Row, m.map encR ++ n.map encR = (m ++ n).map encR := fun m n => List.map_append.symm
        have tl : (rs.take 1).length = 1 := by rw [List.length_take]; omega
        have wn : (if 2 < way then decide (way < 5) else false) = false := by
          rw [if_neg (by omega)]
        have key : ∀ (l : List Row), (∀ x ∈ l, RowOk x) → l.length ≤ 10 → (l.length : Int) ≠ r.many → wp (execs q_law_k66 G0 70000 B_law_k66_7 [some (scr ns), some d7, some (.int (i : Int)), some (.int way), some (.bl great), some (.int (1 + n)), some (.int (1 + u)), some (encR r), some (.lst false (l.map encR)), some (.str [112, 97, 105, 114]), x10, x11, none, none])
            (lp (fun e => ∃ d' x2 x3 x4 x5 x6 x7 x8 x9 x10 x11, IsW d' ∧ e = [some (scr ns), some d', x2, x3, x4, x5, x6, x7, x8, x9, x10, x11, none, none]) (cn q_law_k66 G0 70000 B_law_k66_9 (fin [1, 2, 3, 4, 5, 6, 7, 8, 9, 8, 9, 9, 10, 9, 11] [scr ns] fun d x => d = D.bl true))) := by
          intro l hl1 hl2 hl3
          unfold B_law_k66_7
          have h2 : ¬ 2 < way := by omega
          simp only [awW, awV, awO, awX, awZ, forall_const, implies_true, ↓reduceIte, reduceCtorEq, Nat.reduceAdd, Nat.reduceSub, Nat.reduceBEq, Nat.reduceEqDiff, Int.reduceNeg, qe_law_k66, h2]
          exact lastP d7 false l _ _ hw hl1 hl2 (.inl hl3)
        simp only [awW, awV, awO, awX, awZ, forall_const, implies_true, ↓reduceIte, reduceCtorEq, Nat.reduceAdd, Nat.reduceSub, Nat.reduceBEq, Nat.reduceEqDiff, Int.reduceNeg, qe_law_k66, nR, c1, c2, nA, fA, oA, eA, List.length_map, tl]
        refine ⟨decide_eq_true (by show _ ≤ 16777216; omega), ?_⟩
        obtain rfl | rfl | rfl : way = 0 ∨ way = 1 ∨ way = 2 := by omega
        · have ia : ∀ x y z : D, L2.atI [x, y, z] 0 = some x := fun x y z => by rw [atI_int (by decide)]; rfl
          simp only [awW, awV, awO, awX, awZ, forall_const, implies_true, ↓reduceIte, reduceCtorEq, Nat.reduceAdd, Nat.reduceSub, Nat.reduceBEq, Nat.reduceEqDiff, Int.reduceNeg, qe_law_k66, ia, nA]
          exact key (rs.drop 1) (fun x hx => hrs1 x (List.mem_of_mem_drop hx)) (by rw [List.length_drop]; omega) (by rw [List.length_drop]; omega)
        · have ia : ∀ x y z : D, L2.atI [x, y, z] 1 = some y := fun x y z => by rw [atI_int (by decide)]; rfl
          simp only [awW, awV, awO, awX, awZ, forall_const, implies_true, ↓reduceIte, reduceCtorEq, Nat.reduceAdd, Nat.reduceSub, Nat.reduceBEq, Nat.reduceEqDiff, Int.reduceNeg, qe_law_k66, ia, nA]
          exact key (rs ++ rs.take 1) (fun x hx => (List.mem_append.mp hx).elim (hrs1 x) fun hx => hrs1 x (List.mem_of_mem_take hx)) (by rw [List.length_append, tl]; omega) (by rw [List.length_append, tl]; omega)
        · have ia : ∀ x y z : D, L2.atI [x, y, z] 2 = some z := fun x y z => by rw [atI_int (by decide)]; rfl
          simp only [awW, awV, awO, awX, awZ, forall_const, implies_true, ↓reduceIte, reduceCtorEq, Nat.reduceAdd, Nat.reduceSub, Nat.reduceBEq, Nat.reduceEqDiff, Int.reduceNeg, qe_law_k66, ia, nA]
          exact key [] (fun x hx => by cases hx) (Nat.zero_le _) (by have := hr.m1; show ((0 : Nat) : Int) ≠ _; omega)
      · unfold B_law_k66_7
        by_cases hb2 : (2 < way ∧ way < 5) ∧ 1 < 1 + n
        · obtain ⟨⟨hb2, hb3⟩, hb4⟩ := hb2
          simp only [awW, awV, awO, awX, awZ, forall_const, implies_true, ↓reduceIte, reduceCtorEq, Nat.reduceAdd, Nat.reduceSub, Nat.reduceBEq, Nat.reduceEqDiff, Int.reduceNeg, qe_law_k66, hb2, hb3, hb4]
          unfold B_law_k66_2
          simp only [awW, awV, awO, awX, awZ, forall_const, implies_true, ↓reduceIte, reduceCtorEq, Nat.reduceAdd, Nat.reduceSub, Nat.reduceBEq, Nat.reduceEqDiff, Int.reduceNeg, qe_law_k66, eb]
          refine ⟨by decide, ?_⟩
          refine u_law_row_ok hw (by omega) (by omega) b0 b8 fun x d8 hx hxm _ hw => ?_
          simp only [awW, awV, awO, awX, awZ, forall_const, implies_true, ↓reduceIte, reduceCtorEq, Nat.reduceAdd, Nat.reduceSub, Nat.reduceBEq, Nat.reduceEqDiff, Int.reduceNeg, qe_law_k66, awR]
          refine u_law_draw_ok hw (by omega) (by omega) fun j d9 j0 j1 hw => ?_
          obtain ⟨j, rfl⟩ := Int.eq_ofNat_of_zero_le j0
          have hjl : j < rs.length := by omega
          have ix : L2.ixN (rs.map encR).length (j : Int) = some j := by
            rw [List.length_map]
            unfold L2.ixN
            rw [if_pos (by omega), if_pos (by omega)]
            rfl
          have es : (rs.map encR).set j (encR x) = (rs.set j x).map encR := List.map_set.symm
          simp only [awW, awV, awO, awX, awZ, forall_const, implies_true, ↓reduceIte, reduceCtorEq, Nat.reduceAdd, Nat.reduceSub, Nat.reduceBEq, Nat.reduceEqDiff, Int.reduceNeg, qe_law_k66, awR, v_setL, ix, es]
          have sl : (rs.set j x).length = rs.length := List.length_set
          refine lastP d9 true (rs.set j x) _ _ hw (fun y hy => ?_) (by omega) (.inr ?_)
          · rcases List.mem_or_eq_of_mem_set hy with hy | rfl
            · exact hrs1 y hy
            · exact hx
          · have hne : x.many ≠ 1 + u := by omega
            cases rs with
            | nil => simp at hjl
            | cons r0 q =>
              cases q with
              | nil =>
                rw [List.length_cons] at rl rz
                simp at rl
                omega
              | cons r1 q =>
                cases j with
                | zero => exact ⟨x, r1 :: q, rfl, r1, by simp, by rw [(hrs r1 (by simp)).2]; exact fun z => hne z.symm⟩
                | succ j =>
                  refine ⟨r0, (r1 :: q).set j x, rfl, x, ?_, by rw [(hrs r0 (by simp)).2]; exact hne⟩
                  exact List.mem_set (by simpa using hjl) _
        · have h2 : 2 < way := by omega
          by_cases h5 : way < 5
          · have h1n : ¬ 1 < 1 + n := fun z => hb2 ⟨⟨h2, h5⟩, z⟩
            simp only [awW, awV, awO, awX, awZ, forall_const, implies_true, ↓reduceIte, reduceCtorEq, Nat.reduceAdd, Nat.reduceSub, Nat.reduceBEq, Nat.reduceEqDiff, Int.reduceNeg, qe_law_k66, h2, h5, h1n]
            exact lastO d7 true rs _ _ hw hrs rz
          · simp only [awW, awV, awO, awX, awZ, forall_const, implies_true, ↓reduceIte, reduceCtorEq, Nat.reduceAdd, Nat.reduceSub, Nat.reduceBEq, Nat.reduceEqDiff, Int.reduceNeg, qe_law_k66, h2, h5]
            exact lastO d7 true rs _ _ hw hrs rz
    · rintro pre a as acc e _ ⟨rs, d7, rfl, rl, hrs, hw, rfl⟩
      refine ⟨trivial, ?_⟩
      simp only [awW, awV, awO, awX, awZ, forall_const, implies_true, ↓reduceIte, reduceCtorEq, Nat.reduceAdd, Nat.reduceSub, Nat.reduceBEq, Nat.reduceEqDiff, Int.reduceNeg, qe_law_k66, eb]
      refine u_law_row_ok hw (by omega) (by omega) b0 b8 fun x d8 hx hxm _ hw => ?_
      simp only [awW, awV, awO, awX, awZ, forall_const, implies_true, ↓reduceIte, reduceCtorEq, Nat.reduceAdd, Nat.reduceSub, Nat.reduceBEq, Nat.reduceEqDiff, Int.reduceNeg, qe_law_k66, awR]
      refine ⟨rs ++ [x], d8, by rw [List.map_append]; rfl, by rw [List.length_append, List.length_append, rl]; rfl, fun y hy => ?_, hw, rfl⟩
      rcases List.mem_append.mp hy with hy | hy
      · exact hrs y hy
      · rw [List.mem_singleton.mp hy]
        exact ⟨hx, hxm⟩
end AW

namespace L_k66
open PySem L2 PyProof.Rows AW
abbrev PG : Program := PySem.Challenge.pw_anywide_k66_rows_that_dont_go_together
def tp (i : Nat) : Stmt := PG.main.body.getD i (.Pass ⟨0, 0, 0, 0⟩)
def dd (x : Str) (i : Nat) : He.DefD := ⟨(x, none), x, x, C8.fnArgs (tp i), C8.fnBody (tp i), C8.fnScope (tp i), [], []⟩
theorem s_renumbered : FnScope N_renumbered ["deeds", "numbers"] (C8.fnScope (tp 11)) := ⟨rfl, rfl, rfl, by decide +kernel, rfl, by decide +kernel, by decide +kernel⟩
theorem m_renumbered : mSs T_renumbered N_renumbered (C8.fnScope (tp 11)) (fun _ => true) B_renumbered (C8.fnBody (tp 11)) = true := by decide +kernel
theorem s_put_together : FnScope N_put_together ["row", "rows"] (C8.fnScope (tp 12)) := ⟨rfl, rfl, rfl, by decide +kernel, rfl, by decide +kernel, by decide +kernel⟩
theorem m_put_together : mSs T_put_together N_put_together (C8.fnScope (tp 12)) (fun _ => true) B_put_together (C8.fnBody (tp 12)) = true := by decide +kernel
theorem s_u_law_well : FnScope N_u_law_well ["script"] (C8.fnScope (tp 14)) := ⟨rfl, rfl, rfl, by decide +kernel, rfl, by decide +kernel, by decide +kernel⟩
theorem m_u_law_well : mSs T_u_law_well N_u_law_well (C8.fnScope (tp 14)) (fun _ => true) B_u_law_well (C8.fnBody (tp 14)) = true := by decide +kernel
theorem s_u_law_draw : FnScope N_u_law_draw ["well", "many"] (C8.fnScope (tp 15)) := ⟨rfl, rfl, rfl, by decide +kernel, rfl, by decide +kernel, by decide +kernel⟩
theorem m_u_law_draw : mSs T_u_law_draw N_u_law_draw (C8.fnScope (tp 15)) (fun _ => true) B_u_law_draw (C8.fnBody (tp 15)) = true := by decide +kernel
theorem s_u_law_first_words : FnScope N_u_law_first_words [] (C8.fnScope (tp 16)) := ⟨rfl, rfl, rfl, by decide +kernel, rfl, by decide +kernel, by decide +kernel⟩
theorem m_u_law_first_words : mSs T_u_law_first_words N_u_law_first_words (C8.fnScope (tp 16)) (fun _ => true) B_u_law_first_words (C8.fnBody (tp 16)) = true := by decide +kernel
theorem s_u_law_deed : FnScope N_u_law_deed ["well", "ahead"] (C8.fnScope (tp 17)) := ⟨rfl, rfl, rfl, by decide +kernel, rfl, by decide +kernel, by decide +kernel⟩
theorem m_u_law_deed : mSs T_u_law_deed N_u_law_deed (C8.fnScope (tp 17)) (fun _ => true) B_u_law_deed (C8.fnBody (tp 17)) = true := by decide +kernel
theorem s_u_law_row : FnScope N_u_law_row ["well", "many", "most"] (C8.fnScope (tp 18)) := ⟨rfl, rfl, rfl, by decide +kernel, rfl, by decide +kernel, by decide +kernel⟩
theorem m_u_law_row : mSs T_u_law_row N_u_law_row (C8.fnScope (tp 18)) (fun _ => true) B_u_law_row (C8.fnBody (tp 18)) = true := by decide +kernel
theorem s_u_law_kind : FnScope N_u_law_kind ["row", "rows"] (C8.fnScope (tp 19)) := ⟨rfl, rfl, rfl, by decide +kernel, rfl, by decide +kernel, by decide +kernel⟩
theorem m_u_law_kind : mSs T_u_law_kind N_u_law_kind (C8.fnScope (tp 19)) (fun _ => true) B_u_law_kind (C8.fnBody (tp 19)) = true := by decide +kernel
theorem s_law_k66 : FnScope N_law_k66 ["script"] (C8.fnScope (tp 20)) := ⟨rfl, rfl, rfl, by decide +kernel, rfl, by decide +kernel, by decide +kernel⟩
theorem m_law_k66 : mSs T_law_k66 N_law_k66 (C8.fnScope (tp 20)) (fun _ => true) B_law_k66 (C8.fnBody (tp 20)) = true := by decide +kernel
def fn : List He.DefD := [dd "renumbered" 11, dd "put_together" 12, dd "_law_well" 14, dd "_law_draw" 15, dd "_law_first_words" 16, dd "_law_deed" 17, dd "_law_row" 18, dd "_law_kind" 19, dd "law" 20]
def fa : List He.Fa := [.glo "renumbered", .glo "put_together", .glo "_law_well", .glo "_law_draw", .glo "_law_first_words", .glo "_law_deed", .glo "_law_row", .glo "_law_kind", .glo "law", .free "tuple", .free "all", .free "len", .free "sum", .free "list", .free "range", .free "abs", .free "str", .free "isinstance", .free "int", .free "repr", .int "MOST_DEEDS" (8), .glo "NoPair", .glo "TooMany", .glo "WideError", .glo "Nothing", .glo "NoText", .glo "NoRule", .glo "NoRow", .glo "NoName", .free "ValueError"]
abbrev RR : PySem.W.OpenRow := PySem.W.OpenLaw.row PySem.Challenge.rw_anywide_k66_rows_that_dont_go_together
def xs (K : PySem.W.Frag) : Bool := exB K [0, 2, 1, 3, 4, 7, 5, 6] && true
abbrev hk : PySem.W.Hook := hookX 4 fa fn xs
def ob (s : PySem.W.SharedT) : AlX := obsXG 4 fa fn xs (HandSHeadRun.getT s)
theorem ob_eq (s : PySem.W.SharedT) : ob s = hk.obs s.abs := obsXG_eq (HandSHeadRun.getT_eq s)
def nm0 : List PySem.Str := ["WideError", "NoRow", "NoPair", "NoRule", "NoName", "NoText", "TooMany", "Nothing", "MOST_DEEDS", "renumbered", "put_together", "_law_well", "_law_draw", "_law_first_words", "_law_deed", "_law_row", "_law_kind"]
abbrev nms : List PySem.Str := nm0
theorem run (w : World) : HandSHeadRun.RunEq RR (PySem.W.view RR.prog [20]) hk ob 2000 nms w := by
  intro os
  kernel_rfl
theorem facts {w : World} {K : PySem.W.Frag} {h : Heap} {mg : Str → Option Value} {f : Addr} (X : K.In h) (G : h.Ns mainGlobals mg) (hfa : mg ("law" : Str) = some (.ref f)) (c : He.SaysD fa fn K) (cx : xs K = true) :
    ∃ fd : FuncData, (∀ (s : Shared) (v : Value), BindsTo s fd ⟨[v], []⟩ [("script", v)]) ∧ ∀ base : Heap, K.In base → base.Ns mainGlobals mg → FnG PG w K mg base (L2.CX PG w) 4 f fd ["script"] (spF K (exA K) F_law_k66) := by
  obtain ⟨d_renumbered, f_renumbered⟩ := c.def_ 0 (d := dd "renumbered" 11) rfl
  have g_renumbered := He.glo_ok X G (c.fact 0 (f := .glo "renumbered") rfl)
  have b_renumbered : Binds K d_renumbered ["deeds", "numbers"] [] := f_renumbered.bindsN fun _ _ _ _ _ _ us hl => match us, hl with | [_, _], _ => rfl
  obtain ⟨d_put_together, f_put_together⟩ := c.def_ 1 (d := dd "put_together" 12) rfl
  have g_put_together := He.glo_ok X G (c.fact 1 (f := .glo "put_together") rfl)
  have b_put_together : Binds K d_put_together ["row", "rows"] [] := f_put_together.bindsN fun _ _ _ _ _ _ us hl => match us, hl with | [_, _], _ => rfl
  obtain ⟨d_u_law_well, f_u_law_well⟩ := c.def_ 2 (d := dd "_law_well" 14) rfl
  have g_u_law_well := He.glo_ok X G (c.fact 2 (f := .glo "_law_well") rfl)
  have b_u_law_well : Binds K d_u_law_well ["script"] [] := f_u_law_well.bindsN fun _ _ _ _ _ _ us hl => match us, hl with | [_], _ => rfl
  obtain ⟨d_u_law_draw, f_u_law_draw⟩ := c.def_ 3 (d := dd "_law_draw" 15) rfl
  have g_u_law_draw := He.glo_ok X G (c.fact 3 (f := .glo "_law_draw") rfl)
  have b_u_law_draw : Binds K d_u_law_draw ["well", "many"] [] := f_u_law_draw.bindsN fun _ _ _ _ _ _ us hl => match us, hl with | [_, _], _ => rfl
  obtain ⟨d_u_law_first_words, f_u_law_first_words⟩ := c.def_ 4 (d := dd "_law_first_words" 16) rfl
  have g_u_law_first_words := He.glo_ok X G (c.fact 4 (f := .glo "_law_first_words") rfl)
  have b_u_law_first_words : Binds K d_u_law_first_words [] [] := f_u_law_first_words.bindsN fun _ _ _ _ _ _ us hl => match us, hl with | [], _ => rfl
  obtain ⟨d_u_law_deed, f_u_law_deed⟩ := c.def_ 5 (d := dd "_law_deed" 17) rfl
  have g_u_law_deed := He.glo_ok X G (c.fact 5 (f := .glo "_law_deed") rfl)
  have b_u_law_deed : Binds K d_u_law_deed ["well", "ahead"] [] := f_u_law_deed.bindsN fun _ _ _ _ _ _ us hl => match us, hl with | [_, _], _ => rfl
  obtain ⟨d_u_law_row, f_u_law_row⟩ := c.def_ 6 (d := dd "_law_row" 18) rfl
  have g_u_law_row := He.glo_ok X G (c.fact 6 (f := .glo "_law_row") rfl)
  have b_u_law_row : Binds K d_u_law_row ["well", "many", "most"] [] := f_u_law_row.bindsN fun _ _ _ _ _ _ us hl => match us, hl with | [_, _, _], _ => rfl
  obtain ⟨d_u_law_kind, f_u_law_kind⟩ := c.def_ 7 (d := dd "_law_kind" 19) rfl
  have g_u_law_kind := He.glo_ok X G (c.fact 7 (f := .glo "_law_kind") rfl)
  have b_u_law_kind : Binds K d_u_law_kind ["row", "rows"] [] := f_u_law_kind.bindsN fun _ _ _ _ _ _ us hl => match us, hl with | [_, _], _ => rfl
  obtain ⟨d_law_k66, f_law_k66⟩ := c.def_ 8 (d := dd "law" 20) rfl
  have g_law_k66 := He.glo_ok X G (c.fact 8 (f := .glo "law") rfl)
  have b_law_k66 : Binds K d_law_k66 ["script"] [] := f_law_k66.bindsN fun _ _ _ _ _ _ us hl => match us, hl with | [_], _ => rfl
  have z_tuple := He.free_ok X G (c.fact 9 (f := .free "tuple") rfl)
  have z_all := He.free_ok X G (c.fact 10 (f := .free "all") rfl)
  have z_len := He.free_ok X G (c.fact 11 (f := .free "len") rfl)
  have z_sum := He.free_ok X G (c.fact 12 (f := .free "sum") rfl)
  have z_list := He.free_ok X G (c.fact 13 (f := .free "list") rfl)
  have z_range := He.free_ok X G (c.fact 14 (f := .free "range") rfl)
  have z_abs := He.free_ok X G (c.fact 15 (f := .free "abs") rfl)
  have z_str := He.free_ok X G (c.fact 16 (f := .free "str") rfl)
  have z_isinstance := He.free_ok X G (c.fact 17 (f := .free "isinstance") rfl)
  have z_int := He.free_ok X G (c.fact 18 (f := .free "int") rfl)
  have z_repr := He.free_ok X G (c.fact 19 (f := .free "repr") rfl)
  have y_MOST_DEEDS : GlOk K mg "MOST_DEEDS" (.int (8)) := gl_int (He.int_ok X G (c.fact 20 rfl))
  have y_NoPair : GlOk K mg "NoPair" (.fn 2) := gl_cls (He.ba cx).1 (c := 1) (by decide) (by decide) (He.glo_ok X G (c.fact 21 (f := .glo "NoPair") rfl))
  have y_TooMany : GlOk K mg "TooMany" (.fn 10) := gl_cls (He.ba cx).1 (c := 5) (by decide) (by decide) (He.glo_ok X G (c.fact 22 (f := .glo "TooMany") rfl))
  have y_WideError : GlOk K mg "WideError" (.fn 0) := gl_cls (He.ba cx).1 (c := 0) (by decide) (by decide) (He.glo_ok X G (c.fact 23 (f := .glo "WideError") rfl))
  have y_Nothing : GlOk K mg "Nothing" (.fn 12) := gl_cls (He.ba cx).1 (c := 6) (by decide) (by decide) (He.glo_ok X G (c.fact 24 (f := .glo "Nothing") rfl))
  have y_NoText : GlOk K mg "NoText" (.fn 14) := gl_cls (He.ba cx).1 (c := 7) (by decide) (by decide) (He.glo_ok X G (c.fact 25 (f := .glo "NoText") rfl))
  have y_NoRule : GlOk K mg "NoRule" (.fn 6) := gl_cls (He.ba cx).1 (c := 3) (by decide) (by decide) (He.glo_ok X G (c.fact 26 (f := .glo "NoRule") rfl))
  have y_NoRow : GlOk K mg "NoRow" (.fn 4) := gl_cls (He.ba cx).1 (c := 2) (by decide) (by decide) (He.glo_ok X G (c.fact 27 (f := .glo "NoRow") rfl))
  have y_NoName : GlOk K mg "NoName" (.fn 8) := gl_cls (He.ba cx).1 (c := 4) (by decide) (by decide) (He.glo_ok X G (c.fact 28 (f := .glo "NoName") rfl))
  have y_ValueError : GlOk K mg "ValueError" (.fn 16) := gl_ve (He.ba cx).1 (He.free_ok X G (c.fact 29 (f := .free "ValueError") rfl))
  have e := hfa.symm.trans g_law_k66
  cases e
  have bi := FunD.bindsA (ps := ["script"]) f_law_k66 fun _ _ _ _ _ _ us hl => match us, hl with | [_], _ => rfl
  refine ⟨d_law_k66, fun s v => bi s [v] rfl, fun base _ _ => ?_⟩
  have c_renumbered : CalG PG w K mg base (exA K) 1 "renumbered" F_renumbered := calG f_renumbered g_renumbered s_renumbered (T := T_renumbered) ⟨fns_nil, gls_nil, (bls_cons z_tuple bls_nil)⟩ m_renumbered b_renumbered
  have c_put_together : CalG PG w K mg base (exA K) 2 "put_together" F_put_together := calG f_put_together g_put_together s_put_together (T := T_put_together) ⟨(fns_cons (c_renumbered.mono (by decide)) fns_nil), (gls_cons y_NoPair (gls_cons y_MOST_DEEDS (gls_cons y_TooMany gls_nil))), (bls_cons z_all (bls_cons z_len (bls_cons z_sum (bls_cons z_list (bls_cons z_range (bls_cons z_tuple bls_nil))))))⟩ m_put_together b_put_together
  have c_u_law_well : CalG PG w K mg base (exA K) 1 "_law_well" F_u_law_well := calG f_u_law_well g_u_law_well s_u_law_well (T := T_u_law_well) ⟨fns_nil, gls_nil, (bls_cons z_abs bls_nil)⟩ m_u_law_well b_u_law_well
  have c_u_law_draw : CalG PG w K mg base (exA K) 1 "_law_draw" F_u_law_draw := calG f_u_law_draw g_u_law_draw s_u_law_draw (T := T_u_law_draw) ⟨fns_nil, gls_nil, bls_nil⟩ m_u_law_draw b_u_law_draw
  have c_u_law_first_words : CalG PG w K mg base (exA K) 1 "_law_first_words" F_u_law_first_words := calG f_u_law_first_words g_u_law_first_words s_u_law_first_words (T := T_u_law_first_words) ⟨fns_nil, gls_nil, bls_nil⟩ m_u_law_first_words b_u_law_first_words
  have c_u_law_deed : CalG PG w K mg base (exA K) 2 "_law_deed" F_u_law_deed := calG f_u_law_deed g_u_law_deed s_u_law_deed (T := T_u_law_deed) ⟨(fns_cons (c_u_law_first_words.mono (by decide)) (fns_cons (c_u_law_draw.mono (by decide)) fns_nil)), gls_nil, (bls_cons z_list (bls_cons z_tuple (bls_cons z_range bls_nil)))⟩ m_u_law_deed b_u_law_deed
  have c_u_law_row : CalG PG w K mg base (exA K) 3 "_law_row" F_u_law_row := calG f_u_law_row g_u_law_row s_u_law_row (T := T_u_law_row) ⟨(fns_cons (c_u_law_draw.mono (by decide)) (fns_cons (c_u_law_deed.mono (by decide)) fns_nil)), gls_nil, (bls_cons z_range (bls_cons z_tuple bls_nil))⟩ m_u_law_row b_u_law_row
  have c_u_law_kind : CalG PG w K mg base (exA K) 3 "_law_kind" F_u_law_kind := calG f_u_law_kind g_u_law_kind s_u_law_kind (T := T_u_law_kind) ⟨(fns_cons (c_put_together.mono (by decide)) fns_nil), (gls_cons y_WideError (gls_cons y_ValueError (gls_cons y_Nothing (gls_cons y_NoText (gls_cons y_NoRule (gls_cons y_NoRow (gls_cons y_NoName (gls_cons y_NoPair (gls_cons y_TooMany gls_nil))))))))), (bls_cons z_str (bls_cons z_len (bls_cons z_isinstance (bls_cons z_int bls_nil))))⟩ m_u_law_kind b_u_law_kind
  obtain ⟨oc, od, dV, kV, doc, pm, an, cdv, ct, osl, e, lk, hcd, _, _⟩ := f_law_k66.ex
  exact def_ok (T := T_law_k66) (st := tp 20) ⟨oc, od, dV, kV, doc, pm, an, cdv, ct, osl, e, lk, hcd⟩ rfl s_law_k66 ⟨(fns_cons (c_u_law_well.mono (by decide)) (fns_cons (c_u_law_draw.mono (by decide)) (fns_cons (c_u_law_row.mono (by decide)) (fns_cons (c_u_law_kind.mono (by decide)) fns_nil)))), gls_nil, (bls_cons z_range (bls_cons z_int (bls_cons z_len (bls_cons z_sum (bls_cons z_str (bls_cons z_repr bls_nil))))))⟩ m_law_k66

theorem main : ∀ ns : List Int, ns.length ≤ 63 → (∀ i ∈ ns, Builtin.Int.intBits i ≤ 1048576) → ∃ outs, F_law_k66 [scr ns] = .ok (.bl true) outs := fun ns h1 h2 => by
  obtain ⟨d, e, h, rfl⟩ := wp_out (main_k66 h1 h2)
  exact ⟨e, h⟩
end L_k66
open PySem PySem.W PySem.Calls PyProof.Rows
theorem PySem.Challenge.cw_anywide_k66_rows_that_dont_go_together_holds : PySem.Challenge.rw_anywide_k66_rows_that_dont_go_together.Holds := by
  w_on; o_law
  refine HandSHeadRun.head_any (r := OpenLaw.row PySem.Challenge.rw_anywide_k66_rows_that_dont_go_together) (q := view (OpenLaw.row PySem.Challenge.rw_anywide_k66_rows_that_dont_go_together).prog [20]) (H := L_k66.hk) (ob := L_k66.ob) (M := 2000) (loose := L_k66.nms) (d := HandSHeadRun.topDef (OpenLaw.row PySem.Challenge.rw_anywide_k66_rows_that_dont_go_together).prog 20) (kwd := []) L_k66.ob_eq
    (by kernel_rfl) (fun s => by kernel_rfl) L_k66.run (by kernel_rfl) (by kernel_rfl) (by kernel_rfl) (by rfl) (by first | assumption | decide +kernel) (by decide +kernel) ⟨rfl, rfl, rfl, rfl, rfl, by decide +kernel⟩ ?hw ?hc
  case hw => w_witness2
  case hc =>
    refine AW.walkG (l := PySem.Challenge.rw_anywide_k66_rows_that_dont_go_together) (n := 63) (k := 4) (x := "script") (f := AW.F_law_k66) rfl (by decide) (by kernel_rfl) ⟨rfl, by decide, by decide⟩ L_k66.main ?F
    intro w mg fa h Y G hmg0
    obtain ⟨K, KX, c⟩ := Y
    have hmg : mg ("law" : PySem.Str) = some (.ref fa) := by
      have e : (HandSHeadRun.topDef (OpenLaw.row PySem.Challenge.rw_anywide_k66_rows_that_dont_go_together).prog 20).name = ("law" : PySem.Str) := by kernel_rfl
      rw [← e]
      exact hmg0
    obtain ⟨fd, hb, hG⟩ := L_k66.facts (w := w) KX G hmg c.d c.x
    exact ⟨K, fd, KX, hb, hG⟩
