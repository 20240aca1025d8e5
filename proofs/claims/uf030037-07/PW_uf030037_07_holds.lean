import PyProof.Rows.All
import PyProof.Meets
import PyProof.Ns1
import PyProof.ListIndex
import PyProof.ForAny
import PyProof.CallRoads
import PyProof.CallType
import PyProof.Cells
import PyProof.PlainList
import PyProof.StrWalks
import PyProof.CompFree
import PyProof.PureInt
import PyProof.MeetsSeq
import PyProof.DictKinds
import PyProof.MeetsDictList
import PyProof.DictStraight
import PyProof.TupleKey
import PyProof.DictWalks
import PyProof.EqAt
import PyProof.EqKinds
import PyProof.P3Statements
import PyProof.ExcClass
import PyProof.ExcArgsOwn
import PyProof.ExcAttrAll.ValueError
import PyProof.RaisesMany
import PyProof.StationsW
import PyProof.StrBlockL
import PyProof.StrLawsChain
import PyProof.RangeIter
import PyProof.WalksMore
import PyProof.RangeFor
import PyProof.InstLoad
import PyProof.InstStoreFacts
import PyProof.IsiHeapPairs
import PyProof.IsiPairs
import PyProof.IsiSeqPairs
import PyProof.ListIndexNeg
import PyProof.NsDelKeeps
import PyProof.ObjNew
import PyProof.StrCalls2
import PyProof.Rows.AttrNodeAny
import PyProof.Rows.StrItems
import PyProof.StrLawsTight
import PyProof.RulesAssignMore
import PyProof.Rows.SortWalk
import PyProof.Rows.Range3
import PyProof.Rows.SetFrom
import OpenK.KCall
import OpenK.KMake
import OpenK.TopRead
import OpenK.KWalk
import OpenK.KLine
import KE.KPop
import KE.KDictSum
import KE.KEqDict
import KE.KIntText
import OpenK.KOwn
import KE.KIsAll
import KE.KTryMore
import Wide.Txt2
import Wide.All
import OpenK.AllK
import Wide.FinOn
import PySem.Challenge.RW_uf030037_07
set_option Elab.async false
set_option maxRecDepth 100000
set_option maxHeartbeats 8000000
set_option autoImplicit false
set_option linter.all false
set_option genSizeOf false
set_option genInjectivity false
set_option bootstrap.genMatcherCode false
/-! The small language: values, objects, core trees, and what they mean. -/
namespace Mini
open PySem

inductive V where
  | none | bool (b : Bool) | int (i : Int) | str (s : Str) | tup (xs : List V) | ref (n : Nat) | fn (k : Nat) | exc (c : Nat) | scr (ns : List Int)

inductive Ky where
  | int (i : Int) | str (s : Str) | tup (ks : List (Sum Int Str))
  deriving DecidableEq

inductive MObj where
  | list (xs : List V)
  | dict (kvs : List (Ky × V)) (e : Nat)
  | inst (c : Nat) (fs : List (Nat × V))

noncomputable abbrev MH := List MObj

inductive Res (α : Type) where
  | ok (a : α) (m : MH)
  | exc (c : Nat) (m : MH)
  | bad

noncomputable abbrev Mn (α : Type) := MH → Res α

noncomputable def Res.bind {α β : Type} (r : Res α) (f : α → Mn β) : Res β := match r with
  | .ok a m => f a m
  | .exc c m => .exc c m
  | .bad => .bad

/-- no exception leaves a loop -/
noncomputable def Res.nox {α : Type} (r : Res α) : Res α := match r with
  | .exc _ _ => .bad
  | r => r
noncomputable def ret {α : Type} (a : α) : Mn α := fun m => .ok a m
noncomputable def bad {α : Type} : Mn α := fun _ => .bad
noncomputable def bnd {α β : Type} (x : Mn α) (f : α → Mn β) : Mn β := fun m => (x m).bind f
noncomputable def ofO {α : Type} : Option α → Mn α
  | some a => ret a
  | Option.none => bad

/-! ## data, equality, keys -/
noncomputable def Ky.val : Ky → V
  | .int i => .int i
  | .str s => .str s
  | .tup ks => .tup (ks.map fun x => match x with | .inl i => .int i | .inr s => .str s)
noncomputable def Ky.sort : Ky → Nat
  | .int _ => 0
  | .str _ => 1
  | .tup _ => 2

noncomputable def allO {α β : Type} (g : α → Option β) : List α → Option (List β)
  | [] => some []
  | x :: xs => match g x, allO g xs with
    | some d, some ds => some (d :: ds)
    | _, _ => Option.none

noncomputable def rd : Nat → MH → V → Option PyData
  | 0, _, _ => Option.none
  | f + 1, m, v => match v with
    | .none => some .none
    | .bool b => some (.bool b)
    | .int i => some (.int i)
    | .str s => some (.str s)
    | .tup xs => (allO (rd f m) xs).map .tuple
    | .ref n => match m[n]? with
      | some (.list xs) => (allO (rd f m) xs).map .list
      | _ => Option.none
    | _ => Option.none

noncomputable def atom : V → Option (Sum Int Str)
  | .int i => some (.inl i)
  | .str s => some (.inr s)
  | _ => Option.none
noncomputable def toKey : V → Option Ky
  | .int i => some (.int i)
  | .tup xs => (allO atom xs).map .tup
  | _ => Option.none

/-- the fuel of a reading -/
noncomputable def deep : Nat := 12
noncomputable def look (k : Ky) : List (Ky × V) → Option V
  | [] => Option.none
  | (k', v) :: r => if k' = k then some v else look k r
/-- two lists of things, pair by pair -/
noncomputable def zipO (g : V → V → Option Bool) : List V → List V → Option Bool
  | [], ys => match ys with
    | [] => some true
    | _ :: _ => Option.none
  | x :: xs, ys => match ys with
    | [] => Option.none
    | y :: ys => match g x y with
      | some a => match zipO g xs ys with
        | some b => some (a && b)
        | Option.none => Option.none
      | Option.none => Option.none
/-- the pairs of a dict in another one -/
noncomputable def dictE (m : MH) (ls : List (Ky × V)) : List (Ky × V) → Option Bool
  | [] => some true
  | (k, v) :: r => match look k ls with
    | Option.none => some false
    | some u => match rd deep m v with
      | some x => match rd deep m u with
        | some y => match dictE m ls r with
          | some b => some (PyData.eqv x y && b)
          | Option.none => Option.none
        | Option.none => Option.none
      | Option.none => Option.none
noncomputable def intK (kvs : List (Ky × V)) : Bool := kvs.all fun p => p.1.sort == 0
/-- equality of what holds dicts -/
noncomputable def eqN (m : MH) (g : V → V → Option Bool) (a b : V) : Option Bool := match a with
  | .ref p => match b with
    | .ref q => match m[p]? with
      | some (.list xs) => match m[q]? with
        | some (.list ys) => if p ≠ q ∧ xs.length = ys.length then zipO g xs ys else Option.none
        | _ => Option.none
      | some (.dict ks _) => match m[q]? with
        | some (.dict ls _) => if p ≠ q ∧ ks.length = ls.length ∧ (intK ks && intK ls) = true then dictE m ls ks else Option.none
        | _ => Option.none
      | _ => Option.none
    | _ => Option.none
  | _ => Option.none
noncomputable def eqX : Nat → MH → V → V → Option Bool
  | 0, _, _, _ => Option.none
  | f + 1, m, a, b => match rd deep m a, rd deep m b with
    | some x, some y => some (PyData.eqv x y)
    | _, _ => eqN m (eqX f m) a b
noncomputable def eqV (a b : V) : Mn Bool := fun m => match rd deep m a, rd deep m b with
  | some x, some y => .ok (PyData.eqv x y) m
  | _, _ => match eqN m (eqX 8 m) a b with
    | some c => .ok c m
    | Option.none => .bad

/-! ## places in sequences -/
noncomputable def at_ {α : Type} (xs : List α) (i : Int) : Option α :=
  if 0 ≤ i then xs[i.toNat]? else if 0 ≤ i + xs.length then xs[(i + xs.length).toNat]? else Option.none
/-- the clamped bound of a cut by ones -/
noncomputable def clampU (n : Nat) (i : Int) : Nat := if 0 ≤ i then min i.toNat n else (i + n).toNat
noncomputable def cut {α : Type} (xs : List α) (lo hi : Option Int) : List α :=
  let a := match lo with | some i => clampU xs.length i | Option.none => 0
  let b := match hi with | some i => clampU xs.length i | Option.none => xs.length
  (xs.take b).drop a

/-! ## dicts -/
noncomputable def put (k : Ky) (v : V) : List (Ky × V) → List (Ky × V)
  | [] => [(k, v)]
  | (k', v') :: r => if k' = k then (k', v) :: r else (k', v') :: put k v r
noncomputable def drop_ (k : Ky) : List (Ky × V) → List (Ky × V)
  | [] => []
  | (k', v') :: r => if k' = k then r else (k', v') :: drop_ k r
noncomputable def sorted1 (k : Ky) (kvs : List (Ky × V)) : Bool := kvs.all fun p => p.1.sort == k.sort

noncomputable def fget (i : Nat) : List (Nat × V) → Option V
  | [] => Option.none
  | (j, v) :: r => if j = i then some v else fget i r
noncomputable def fput (i : Nat) (v : V) : List (Nat × V) → List (Nat × V)
  | [] => [(i, v)]
  | (j, v') :: r => if j = i then (j, v) :: r else (j, v') :: fput i v r

/-! ## core trees -/
inductive Bi where
  | len | abs | int | str | list | tuple | dict | sorted | max2 | min2 | max1 | lenset
  deriving DecidableEq
inductive Sm where
  | append | pop | clear | get | join | split | count | index
  deriving DecidableEq
inductive Ty where
  | int | bool | str | list | tuple | dict | cls (c : Nat)
  deriving DecidableEq
inductive IK where
  | expr | range | enum
  deriving DecidableEq
inductive CT where
  | one (i : Nat) | many (is : List Nat)
  deriving DecidableEq
inductive Lt where
  | none | bool (b : Bool) | int (i : Int) | str (s : Str)
  deriving DecidableEq
noncomputable def Lt.val : Lt → V
  | .none => .none
  | .bool b => .bool b
  | .int i => .int i
  | .str s => .str s

mutual
inductive CE where
  | cnst (v : Lt)
  | var (i : Nat)
  | glob (i : Nat)
  | fnv (k : Nat)
  | bin (op : Operator) (a b : CE)
  | neg (a : CE)
  | not (a : CE)
  | boolop (isAnd : Bool) (as : List CE)
  | cmp (a : CE) (ops : List CmpOp) (bs : List CE)
  | ite (c : CB) (a b : CE)
  | tup (as : List CE)
  | list (as : List CE)
  | dict (ks : List Str) (vs : List CE)
  | idx (a i : CE)
  | slice (a lo hi st : CE)
  | attr (a : CE) (n : Nat)
  | call (k : Nat) (as : List CE)
  | callv (f : CE) (as : List CE)
  | new (c : Nat) (as : List CE)
  | meth (o : CE) (n : Nat) (as : List CE)
  | smeth (o : CE) (n : Sm) (as : List CE)
  | bi (b : Bi) (as : List CE)
  | listrange (as : List CE)
  | isi (a : CE) (t : Ty)
  | comp (elt : CE) (t : CT) (nl : Nat) (k : IK) (src : List CE) (ifs : List CB)
/-- tests -/
inductive CB where
  | not (b : CB)
  | all (isAnd : Bool) (bs : List CB)
  | val (e : CE)
end

inductive CTgt where
  | one (t : CT) | attr (o : CE) (n : Nat) | idx (o i : CE) | idx2 (o i o' i' : CE)

inductive CS where
  | asg (t : CTgt) (e : CE)
  | exp (e : CE)
  | ite (c : CB) (a b : List CS)
  | for_ (k : IK) (t : CT) (src : List CE) (body : List CS)
  | wh (c : CB) (body : List CS)
  | ret (e : CE)
  | rse (c : Nat) (msg : Str)
  | try_ (body : List CS) (c : Nat) (nm : Option Nat) (h : CE)
  | cont
  | pass

structure FnD where
  name : Str
  np : Nat
  names : List Str
  body : List CS
structure ClsD where
  name : Str
  init : Option Nat
  meths : List (Nat × Nat)
  exc : Bool
  supers : List Nat
structure Sig where
  fns : List FnD
  cls : List ClsD
  attrs : List Str
  globs : List (Str × Lt)

noncomputable abbrev Lo := List (Option V)

/-! ## operations -/
/-- the greatest length of a text or a list that is made -/
noncomputable def lid : Nat := 4194304
noncomputable def truth (v : V) : Mn Bool := fun m => match v with
  | .none => .ok false m
  | .bool b => .ok b m
  | .int i => .ok (i != 0) m
  | .str s => if s.length ≤ lid then .ok (s.length != 0) m else .bad
  | .tup xs => if xs.length ≤ lid then .ok (!xs.isEmpty) m else .bad
  | .ref n => match m[n]? with
    | some (.list xs) => .ok (!xs.isEmpty) m
    | _ => .bad
  | _ => .bad

noncomputable def alloc (o : MObj) : Mn V := fun m => .ok (.ref m.length) (m ++ [o])
noncomputable def binV (op : Operator) (a b : V) : Mn V := fun m => match op, a, b with
  | .Add, .int i, .int j => .ok (.int (i + j)) m
  | .Sub, .int i, .int j => .ok (.int (i - j)) m
  | .Mult, .int i, .int j => if i.natAbs < 1073741824 ∨ j.natAbs < 1073741824 then .ok (.int (i * j)) m else .bad
  | .FloorDiv, .int i, .int j => if 0 < j ∧ j.natAbs < 1073741824 then .ok (.int (i / j)) m else .bad
  | .Mod, .int i, .int j => if 0 < j then .ok (.int (i % j)) m else .bad
  | .Add, .str x, .str y => if x.length + y.length ≤ lid then .ok (.str (x ++ y)) m else .bad
  | .Add, .ref p, .ref q => match m[p]?, m[q]? with
    | some (.list x), some (.list y) => if x.length + y.length ≤ lid then alloc (.list (x ++ y)) m else .bad
    | _, _ => .bad
  | _, _, _ => .bad

noncomputable def inV (x c : V) : Mn Bool := fun m => match c with
  | .str y => match x with
    | .str s => match s.cps.toList with
      | [c] => .ok (decide (c ∈ y.cps.toList)) m
      | _ => .bad
    | _ => .bad
  | .ref n => match m[n]? with
    | some (.dict kvs _) => match toKey x with
      | some k => if sorted1 k kvs then .ok (look k kvs).isSome m else .bad
      | Option.none => .bad
    | _ => .bad
  | _ => .bad

noncomputable def cmpV (op : CmpOp) (a b : V) : Mn Bool := match op with
  | .Eq => eqV a b
  | .NotEq => bnd (eqV a b) fun c => ret (!c)
  | .In => inV a b
  | .NotIn => bnd (inV a b) fun c => ret (!c)
  | .Is => bad
  | .IsNot => bad
  | .Lt => match a, b with | .int i, .int j => ret (decide (i < j)) | _, _ => bad
  | .LtE => match a, b with | .int i, .int j => ret (decide (i ≤ j)) | _, _ => bad
  | .Gt => match a, b with | .int i, .int j => ret (decide (i > j)) | _, _ => bad
  | .GtE => match a, b with | .int i, .int j => ret (decide (i ≥ j)) | _, _ => bad

noncomputable def idxV (a i : V) : Mn V := fun m => match a with
  | .tup xs => match i with
    | .int k => if k.natAbs < 2 ^ 60 then ofO (at_ xs k) m else .bad
    | _ => .bad
  | .str s => match i with
    | .int k => if k.natAbs < 2 ^ 60 then ofO ((at_ s.cps.toList k).map fun c => .str ⟨#[c]⟩) m else .bad
    | _ => .bad
  | .ref n => match m[n]? with
    | some (.list xs) => match i with
      | .int k => if k.natAbs < 2 ^ 60 then ofO (at_ xs k) m else .bad
      | _ => .bad
    | some (.dict kvs _) => match toKey i with
      | some k => if sorted1 k kvs then ofO (look k kvs) m else .bad
      | Option.none => .bad
    | _ => .bad
  | .scr ns => match i with
    | .int k => if 0 ≤ k then ofO ((ns[k.toNat]?).map .int) m else .bad
    | _ => .bad
  | _ => .bad

noncomputable def bound (v : V) : Option (Option Int) := match v with
  | .none => some Option.none
  | .int i => if i.natAbs < 2 ^ 60 then some (some i) else Option.none
  | _ => Option.none
noncomputable def sliceL {α : Type} (xs : List α) (lo hi st : V) : Option (List α) :=
  match st with
  | .none => match bound lo, bound hi with
    | some a, some b => some (cut xs a b)
    | _, _ => Option.none
  | _ => Option.none
noncomputable def sliceV (a lo hi st : V) : Mn V := fun m => match a with
  | .str s => match st with
    | .none => if s.length ≤ lid then ofO ((sliceL s.cps.toList lo hi .none).map fun l => .str ⟨l.toArray⟩) m else .bad
    | _ => .bad
  | .scr ns => match st with
    | .none => match sliceL (ns.map V.int) lo hi .none with
      | some l => alloc (.list l) m
      | Option.none => .bad
    | _ => .bad
  | _ => .bad

noncomputable def attrV (a : V) (n : Nat) : Mn V := fun m => match a with
  | .ref p => match m[p]? with
    | some (.inst _ fs) => ofO (fget n fs) m
    | _ => .bad
  | _ => .bad

noncomputable def isKeyI : List (Ky × V) → Option (List Int)
  | [] => some []
  | (.int i, _) :: r => (isKeyI r).map (i :: ·)
  | _ :: _ => Option.none
noncomputable def insI (i : Int) : List Int → List Int
  | [] => [i]
  | j :: r => if i ≤ j then i :: j :: r else j :: insI i r
noncomputable def sortI : List Int → List Int
  | [] => []
  | i :: r => insI i (sortI r)
noncomputable def rangeL (lo hi : Int) : List V := (List.range (hi - lo).toNat).map fun (k : Nat) => V.int (lo + k)
noncomputable def rangeV : List V → Option (List V)
  | [.int n] => if n.natAbs < 2 ^ 30 then some (rangeL 0 n) else Option.none
  | _ => Option.none

noncomputable def intText (i : Int) : Str := Str.ofString (toString i)
/-- the pieces of a text between two signs -/
noncomputable def splitC (c : Nat) : List Nat → List (List Nat)
  | [] => [[]]
  | x :: l => if x = c then [] :: splitC c l else match splitC c l with
    | [] => [[x]]
    | p :: ps => (x :: p) :: ps
noncomputable def isDig (c : Nat) : Bool := decide (48 ≤ c) && decide (c ≤ 57)
noncomputable def digV (l : List Nat) : Nat := l.foldl (fun acc c => acc * 10 + (c - 48)) 0

noncomputable def biV (b : Bi) (as : List V) : Mn V := fun m => match b, as with
  | .len, [.str s] => if s.length ≤ lid then .ok (.int s.length) m else .bad
  | .len, [.tup xs] => if xs.length ≤ lid then .ok (.int xs.length) m else .bad
  | .len, [.scr ns] => .ok (.int ns.length) m
  | .len, [.ref n] => match m[n]? with
    | some (.list xs) => .ok (.int xs.length) m
    | _ => .bad
  | .abs, [.int i] => .ok (.int (if i < 0 then -i else i)) m
  | .int, [.bool c] => .ok (.int (if c then 1 else 0)) m
  | .int, [.str x] => if x.cps.toList.all isDig && (!x.cps.toList.isEmpty && decide (x.length ≤ 600)) then .ok (.int (digV x.cps.toList)) m else .bad
  | .str, [.int i] => if i.natAbs < 1000000 then .ok (.str (intText i)) m else .bad
  | .list, [.ref n] => match m[n]? with
    | some (.list xs) => alloc (.list xs) m
    | _ => .bad
  | .tuple, [.ref n] => match m[n]? with
    | some (.list xs) => .ok (.tup xs) m
    | _ => .bad
  | .dict, [.ref n] => match m[n]? with
    | some (.dict kvs _) => alloc (.dict kvs 0) m
    | _ => .bad
  | .sorted, [.ref n] => match m[n]? with
    | some (.dict kvs _) => match isKeyI kvs with
      | some is => if is.length < 64 then alloc (.list ((sortI is).map .int)) m else .bad
      | Option.none => .bad
    | _ => .bad
  | .max2, [.int i, .int j] => .ok (.int (if j > i then j else i)) m
  | .min2, [.int i, .int j] => .ok (.int (if j < i then j else i)) m
  | _, _ => .bad

noncomputable def isiV (S : Sig) (a : V) (t : Ty) : Mn Bool := fun m => match t, a with
  | .cls c, .exc d => match S.cls[d]? with
    | some x => if x.exc then .ok (x.supers.contains c) m else .bad
    | Option.none => .bad
  | .cls _, _ => .bad
  | .int, .int _ => .ok true m
  | .int, .bool _ => .ok true m
  | .bool, .bool _ => .ok true m
  | .str, .str _ => .ok true m
  | .tuple, .tup _ => .ok true m
  | t, .ref n => match m[n]? with
    | some (.list _) => .ok (t == .list) m
    | some (.dict _ _) => .ok (t == .dict) m
    | _ => .bad
  | _, .fn _ => .bad
  | _, .exc _ => .bad
  | _, .scr _ => .bad
  | _, _ => .ok false m

noncomputable def isStrL : List V → Option (List Str)
  | [] => some []
  | .str x :: r => (isStrL r).map (x :: ·)
  | _ :: _ => Option.none
noncomputable def isBoolL : List V → Option (List Bool)
  | [] => some []
  | .bool x :: r => (isBoolL r).map (x :: ·)
  | _ :: _ => Option.none
noncomputable def joinS (sep : Str) : List Str → Str
  | [] => Str.empty
  | x :: r => r.foldl (fun acc p => acc ++ sep ++ p) x
noncomputable def sumLen (sep : Str) (l : List Str) : Nat := l.foldl (fun k x => k + x.length + sep.length) 0
/-- the kind of a method's owner: a list, a dict, a text -/
noncomputable def smK (o : V) (m : MH) : Option Nat := match o with
  | .ref p => match m[p]? with
    | some (.list _) => some 0
    | some (.dict _ _) => some 1
    | _ => Option.none
  | .str _ => some 2
  | _ => Option.none
/-- the methods that are served -/
noncomputable def smH (k : Nat) (n : Sm) : Bool := match k, n with
  | 0, .append => true
  | 0, .count => true
  | 0, .index => true
  | 2, .join => true
  | _, _ => false
/-- the methods of lists, dicts and texts -/
noncomputable def listM (p : Nat) (xs : List V) (n : Sm) (as : List V) : Mn V := fun m => match n with
  | .append => (match as with | [v] => (if xs.length < lid then .ok .none (m.set p (.list (xs ++ [v]))) else .bad) | _ => .bad)
  | .pop => (match as with
    | [i] => (match i with
      | .int k => if 0 ≤ k then (match xs[k.toNat]? with
          | some v => if k.natAbs < 2 ^ 60 then .ok v (m.set p (.list (xs.eraseIdx k.toNat))) else .bad
          | Option.none => .bad)
        else .bad
      | _ => .bad)
    | _ => .bad)
  | .clear => (match as with | [] => .ok .none (m.set p (.list [])) | _ => .bad)
  | .count => (match as with
    | [i] => (match i with
      | .bool b => (match isBoolL xs with | some bs => .ok (.int (bs.count b)) m | Option.none => .bad)
      | _ => .bad)
    | _ => .bad)
  | .index => (match as with
    | [i] => (match i with
      | .bool b => (match isBoolL xs with | some bs => if bs.contains b then .ok (.int (bs.idxOf b)) m else .bad | Option.none => .bad)
      | _ => .bad)
    | _ => .bad)
  | _ => .bad
noncomputable def dictM (p : Nat) (kvs : List (Ky × V)) (e : Nat) (n : Sm) (as : List V) : Mn V := fun m => match n with
  | .get => (match as with
    | [k, d] => (match toKey k with
      | some k => if sorted1 k kvs then .ok ((look k kvs).getD d) m else .bad
      | Option.none => .bad)
    | _ => .bad)
  | .pop => (match as with
    | [k] => (match k with
      | .int i => if sorted1 (.int i) kvs then (match look (.int i) kvs with
          | some v => .ok v (m.set p (.dict (drop_ (.int i) kvs) (e + 1)))
          | Option.none => .bad)
        else .bad
      | _ => .bad)
    | _ => .bad)
  | .clear => (match as with | [] => .ok .none (m.set p (.dict [] (e + 1))) | _ => .bad)
  | _ => .bad
noncomputable def strM (s : Str) (n : Sm) (as : List V) : Mn V := fun m => match n with
  | .join => (match as with
    | [v] => (match v with
      | .ref p => (match m[p]? with
        | some (.list xs) => (match isStrL xs with
          | some l => if sumLen s l ≤ lid then .ok (.str (joinS s l)) m else .bad
          | Option.none => .bad)
        | _ => .bad)
      | _ => .bad)
    | _ => .bad)
  | .split => (match as with
    | [v] => (match v with
      | .str sep => (match sep.cps.toList with
        | [c] => if s.length ≤ 4000 then alloc (.list ((splitC c s.cps.toList).map fun l => .str ⟨l.toArray⟩)) m else .bad
        | _ => .bad)
      | _ => .bad)
    | _ => .bad)
  | _ => .bad
noncomputable def smethV (k : Nat) (o : V) (n : Sm) (as : List V) : Mn V := fun m => match k with
  | 0 => (match o with
    | .ref p => (match m[p]? with | some (.list xs) => listM p xs n as m | _ => .bad)
    | _ => .bad)
  | 1 => (match o with
    | .ref p => (match m[p]? with | some (.dict kvs e) => dictM p kvs e n as m | _ => .bad)
    | _ => .bad)
  | 2 => (match o with
    | .str s => strM s n as m
    | _ => .bad)
  | _ => .bad

/-! ## what a for goes over -/
mutual
noncomputable def V.same : V → V → Bool
  | .none, y => match y with | .none => true | _ => false
  | .bool a, y => match y with | .bool b => a == b | _ => false
  | .int a, y => match y with | .int b => a == b | _ => false
  | .str a, y => match y with | .str b => a == b | _ => false
  | .tup xs, y => match y with | .tup ys => V.sames xs ys | _ => false
  | .ref a, y => match y with | .ref b => a == b | _ => false
  | .fn a, y => match y with | .fn b => a == b | _ => false
  | .exc a, y => match y with | .exc b => a == b | _ => false
  | .scr a, y => match y with | .scr b => a == b | _ => false
noncomputable def V.sames : List V → List V → Bool
  | [], ys => ys.isEmpty
  | x :: xs, ys => match ys with
    | [] => false
    | y :: ys => V.same x y && V.sames xs ys
end
mutual
theorem same_self : ∀ v : V, V.same v v = true
  | .none => rfl
  | .bool b => beq_self_eq_true b
  | .int i => beq_self_eq_true i
  | .str s => beq_self_eq_true s
  | .tup xs => sames_self xs
  | .ref n => beq_self_eq_true n
  | .fn n => beq_self_eq_true n
  | .exc n => beq_self_eq_true n
  | .scr n => beq_self_eq_true n
theorem sames_self : ∀ xs : List V, V.sames xs xs = true
  | [] => rfl
  | x :: xs => by show (V.same x x && V.sames xs xs) = true; rw [same_self x, sames_self xs]; rfl
end

inductive Gd where
  | none | list (n : Nat) (xs : List V) | dict (n : Nat) (e : Nat)
/-- the object that is gone over stays -/
noncomputable def Gd.stays (g : Gd) (m : MH) : Bool := match g with
  | .none => true
  | .list n xs => match m[n]? with
    | some (.list ys) => V.sames xs ys
    | _ => false
  | .dict n e => match m[n]? with
    | some (.dict _ e') => e == e'
    | _ => false

noncomputable def itemsV (v : V) : Mn (List V × Gd) := fun m => match v with
  | .str s => .ok (s.cps.toList.map fun c => .str ⟨#[c]⟩, .none) m
  | .ref n => match m[n]? with
    | some (.list xs) => .ok (xs, .list n xs) m
    | some (.dict kvs e) => .ok (kvs.map fun p => p.1.val, .dict n e) m
    | _ => .bad
  | _ => .bad
noncomputable def enumL : Nat → List V → List V
  | _, [] => []
  | k, x :: xs => .tup [.int k, x] :: enumL (k + 1) xs
noncomputable def enumV (v : V) : Mn (List V × Gd) := fun m => match v with
  | .ref n => match m[n]? with
    | some (.list xs) => .ok (enumL 0 xs, .list n xs) m
    | _ => .bad
  | _ => .bad
noncomputable def srcV (k : IK) (vs : List V) : Mn (List V × Gd) := match k, vs with
  | .expr, [v] => itemsV v
  | .range, vs => match rangeV vs with
    | some l => ret (l, .none)
    | Option.none => bad
  | .enum, [v] => enumV v
  | _, _ => bad

noncomputable def setMany : List Nat → List V → Lo → Option Lo
  | [], [], r => some r
  | i :: is, v :: vs, r => setMany is vs (r.set i (some v))
  | _, _, _ => Option.none
/-- a target of names takes a value -/
noncomputable def setT (t : CT) (v : V) (r : Lo) : Mn Lo := fun m => match t with
  | .one i => .ok (r.set i (some v)) m
  | .many is => match v with
    | .tup vs => ofO (setMany is vs r) m
    | _ => .bad

noncomputable def putAttr (o : V) (n : Nat) (v : V) : Mn Unit := fun m => match o with
  | .ref p => match m[p]? with
    | some (.inst c fs) => .ok () (m.set p (.inst c (fput n v fs)))
    | _ => .bad
  | _ => .bad
noncomputable def putIdx (o i v : V) : Mn Unit := fun m => match o with
  | .ref p => match m[p]? with
    | some (.dict kvs e) => match toKey i with
      | some k => if sorted1 k kvs && kvs.length < lid then .ok () (m.set p (.dict (put k v kvs) (e + 1))) else .bad
      | Option.none => .bad
    | _ => .bad
  | _ => .bad

inductive Fl where
  | next | cont | ret (v : V)

/-- a for: the turns -/
noncomputable def forD (g : Gd) (step : V → Lo → Mn (Fl × Lo)) : List V → Lo → Mn (Fl × Lo)
  | [], r => fun m => if g.stays m then .ok (.next, r) m else .bad
  | v :: vs, r => fun m => if g.stays m then (step v r m).bind (fun p => match p.1 with
      | .ret x => ret (.ret x, p.2)
      | _ => forD g step vs p.2) else .bad
noncomputable def consO (o : Option V) (r : List V) : List V := match o with
  | some x => x :: r
  | Option.none => r
/-- a comprehension: the turns, the items so far behind -/
noncomputable def compD (g : Gd) (step : V → Mn (Option V)) : List V → Mn (List V)
  | [] => fun m => if g.stays m then .ok [] m else .bad
  | v :: vs => fun m => if g.stays m then (step v m).nox.bind (fun o => bnd (compD g step vs) fun r => ret (consO o r)) else .bad
noncomputable def whileD (c : Lo → Mn Bool) (body : Lo → Mn (Fl × Lo)) : Nat → Lo → Mn (Fl × Lo)
  | 0, _ => bad
  | n + 1, r => bnd (fun m => (c r m).nox) fun b => if b then bnd (fun m => (body r m).nox) fun p => match p.1 with
      | .ret x => ret (.ret x, p.2)
      | _ => whileD c body n p.2
    else ret (.next, r)
noncomputable def fuelW : Nat := 1000000

noncomputable abbrev Fns := Nat → List V → Mn V
/-- a call of a value -/
noncomputable def callvD (F : Fns) (N : Nat) (as : Mn (List V)) (x : V) : Mn V := match x with
  | .fn k => if k < N then bnd as fun vs => F k vs else bad
  | _ => bad

/-- a new instance -/
noncomputable def newR (v u : V) : Mn V := match u with
  | .none => ret v
  | _ => bad
noncomputable def newD (S : Sig) (F : Fns) (c : Nat) (vs : List V) : Mn V := match S.cls[c]? with
  | some d => if d.exc then bad else match d.init with
    | some k => bnd (alloc (.inst c [])) fun x => bnd (F k (x :: vs)) (newR x)
    | Option.none => bad
  | Option.none => bad
/-- the method of an instance -/
noncomputable def methK (S : Sig) (n : Nat) (x : V) : Mn Nat := fun m => match x with
  | .ref p => match m[p]? with
    | some (.inst c fs) => match S.cls[c]? with
      | some d => match fget n fs with
        | Option.none => ofO (d.meths.lookup n) m
        | some _ => .bad
      | Option.none => .bad
    | _ => .bad
  | _ => .bad

mutual
noncomputable def ev (S : Sig) (F : Fns) : CE → Lo → Mn V
  | .cnst v, _ => ret v.val
  | .var i, r => match r[i]? with
    | some (some v) => ret v
    | _ => bad
  | .glob i, _ => match S.globs[i]? with
    | some p => ret p.2.val
    | Option.none => bad
  | .fnv k, _ => ret (.fn k)
  | .bin op a b, r => bnd (ev S F a r) fun x => bnd (ev S F b r) fun y => binV op x y
  | .neg a, r => bnd (ev S F a r) fun x => match x with
    | .int i => ret (.int (-i))
    | _ => bad
  | .not a, r => bnd (ev S F a r) fun x => bnd (truth x) fun b => ret (.bool (!b))
  | .boolop c as, r => evB S F c as r
  | .cmp a ops bs, r => bnd (ev S F a r) fun x => evC S F x ops bs r
  | .ite c a b, r => bnd (evT S F c r) fun t => if t then ev S F a r else ev S F b r
  | .tup as, r => bnd (evs S F as r) fun vs => ret (.tup vs)
  | .list as, r => bnd (evs S F as r) fun vs => alloc (.list vs)
  | .dict ks vs, r => evD S F ks vs r []
  | .idx a i, r => bnd (ev S F a r) fun x => bnd (ev S F i r) fun y => idxV x y
  | .slice a lo hi st, r => bnd (ev S F a r) fun x => bnd (ev S F lo r) fun l => bnd (ev S F hi r) fun h => bnd (ev S F st r) fun t => sliceV x l h t
  | .attr a n, r => bnd (ev S F a r) fun x => attrV x n
  | .call k as, r => bnd (evs S F as r) fun vs => F k vs
  | .callv f as, r => bnd (ev S F f r) fun x => callvD F S.fns.length (evs S F as r) x
  | .new c as, r => bnd (evs S F as r) fun vs => newD S F c vs
  | .meth o n as, r => bnd (ev S F o r) fun x => bnd (methK S n x) fun k => bnd (evs S F as r) fun vs => F k (x :: vs)
  | .smeth o n as, r => bnd (ev S F o r) fun x => fun m => match smK x m with
    | some k => if smH k n then bnd (evs S F as r) (fun vs => smethV k x n vs) m else .bad
    | Option.none => .bad
  | .bi b as, r => bnd (evs S F as r) fun vs => biV b vs
  | .listrange as, r => bnd (evs S F as r) fun vs => match rangeV vs with
    | some l => if l.length ≤ lid then alloc (.list l) else bad
    | Option.none => bad
  | .isi a t, r => bnd (ev S F a r) fun x => bnd (isiV S x t) fun b => ret (.bool b)
  | .comp elt t nl k src ifs, r => bnd (evs S F src r) fun vs => bnd (srcV k vs) fun p =>
      bnd (compD p.2 (fun v => bnd (setT t v (r ++ List.replicate nl Option.none)) fun r' => bnd (evIf S F ifs r') fun b =>
        if b then bnd (ev S F elt r') fun x => ret (some x) else ret Option.none) p.1) fun l => if l.length ≤ lid then alloc (.list l) else bad
/-- a test -/
noncomputable def evT (S : Sig) (F : Fns) : CB → Lo → Mn Bool
  | .not a, r => bnd (evT S F a r) fun b => ret (!b)
  | .all c as, r => evTs S F c as r
  | .val e, r => bnd (ev S F e r) truth
noncomputable def evTs (S : Sig) (F : Fns) (c : Bool) : List CB → Lo → Mn Bool
  | [], _ => ret c
  | a :: as, r => bnd (evT S F a r) fun b => if b == c then evTs S F c as r else ret b
/-- the tests of a comprehension -/
noncomputable def evIf (S : Sig) (F : Fns) : List CB → Lo → Mn Bool
  | [], _ => ret true
  | a :: as, r => bnd (evT S F a r) fun b => if b then evIf S F as r else ret false
noncomputable def evs (S : Sig) (F : Fns) : List CE → Lo → Mn (List V)
  | [], _ => ret []
  | a :: as, r => bnd (ev S F a r) fun x => bnd (evs S F as r) fun xs => ret (x :: xs)
noncomputable def evB (S : Sig) (F : Fns) (c : Bool) : List CE → Lo → Mn V
  | [], _ => bad
  | a :: as, r => match as with
    | [] => ev S F a r
    | _ :: _ => bnd (ev S F a r) fun x => bnd (truth x) fun b => if b == c then evB S F c as r else ret x
noncomputable def evC (S : Sig) (F : Fns) (x : V) (ops : List CmpOp) : List CE → Lo → Mn V
  | [], _ => bad
  | a :: as, r => match ops with
    | [] => bad
    | op :: ops' => bnd (ev S F a r) fun y => bnd (cmpV op x y) fun b => match as with
      | [] => (match ops' with | [] => ret (.bool b) | _ => bad)
      | _ :: _ => if b then evC S F y ops' as r else ret (.bool false)
/-- a dict's display: the values first, then the stores -/
noncomputable def evD (S : Sig) (F : Fns) (ks : List Str) : List CE → Lo → List (Ky × V) → Mn V
  | [], _, acc => match ks with
    | [] => alloc (.dict acc 0)
    | _ => bad
  | v :: vs, r, acc => match ks with
    | [] => bad
    | s :: ks' => bnd (ev S F v r) fun y => evD S F ks' vs r (put (.str s) y acc)
end

noncomputable def asgT (S : Sig) (F : Fns) (t : CTgt) (v : V) (r : Lo) : Mn Lo := match t with
  | .one t => setT t v r
  | .attr o n => bnd (ev S F o r) fun x => bnd (putAttr x n v) fun _ => ret r
  | .idx o i => bnd (ev S F o r) fun x => bnd (ev S F i r) fun y => bnd (putIdx x y v) fun _ => ret r
  | .idx2 o i o' i' => match v with
    | .tup [a, b] => bnd (ev S F o r) fun x => bnd (ev S F i r) fun y => bnd (putIdx x y a) fun _ =>
        bnd (ev S F o' r) fun x' => bnd (ev S F i' r) fun y' => bnd (putIdx x' y' b) fun _ => ret r
    | _ => bad

noncomputable def exR (nm : Option Nat) (d : Nat) (r : Lo) : Lo := match nm with
  | some i => r.set i (some (.exc d))
  | Option.none => r
noncomputable def exN (nm : Option Nat) (r : Lo) : Lo := match nm with
  | some i => r.set i Option.none
  | Option.none => r
/-- the clause of a try takes it -/
noncomputable def tryX (S : Sig) (c : Nat) (nm : Option Nat) (h : Lo → Mn V) (r : Lo) (d : Nat) : Mn (Fl × Lo) := fun m =>
  if ((S.cls[d]?).any fun k => k.supers.contains c) = true then ((h (exR nm d r) m).nox).bind fun v => ret (.ret v, exN nm r) else .bad
/-- a try with one clause that returns -/
noncomputable def tryD (S : Sig) (x : Mn (Fl × Lo)) (c : Nat) (nm : Option Nat) (h : Lo → Mn V) (r : Lo) : Mn (Fl × Lo) := fun m => match x m with
  | .ok a m' => .ok a m'
  | .exc d m' => tryX S c nm h r d m'
  | .bad => .bad

mutual
noncomputable def ex (S : Sig) (F : Fns) : CS → Lo → Mn (Fl × Lo)
  | .asg t e, r => bnd (ev S F e r) fun v => bnd (asgT S F t v r) fun r' => ret (.next, r')
  | .exp e, r => bnd (ev S F e r) fun _ => ret (.next, r)
  | .ite c a b, r => bnd (evT S F c r) fun t => if t then exs S F a r else exs S F b r
  | .for_ k t src body, r => bnd (evs S F src r) fun vs => bnd (srcV k vs) fun p => forD p.2 (fun v r' => bnd (setT t v r') fun r'' => exs S F body r'') p.1 r
  | .wh c body, r => whileD (fun r' => evT S F c r') (fun r' => exs S F body r') fuelW r
  | .ret e, r => bnd (ev S F e r) fun v => ret (.ret v, r)
  | .rse c _, _ => fun m => .exc c m
  | .try_ body c nm h, r => tryD S (exs S F body r) c nm (fun r' => ev S F h r') r
  | .cont, r => ret (.cont, r)
  | .pass, r => ret (.next, r)
noncomputable def exs (S : Sig) (F : Fns) : List CS → Lo → Mn (Fl × Lo)
  | [], r => ret (.next, r)
  | s :: ss, r => bnd (ex S F s r) fun p => match p.1 with
    | .next => exs S F ss p.2
    | f => ret (f, p.2)
end

noncomputable def finF (p : Fl × Lo) : Mn V := match p.1 with
  | .ret v => ret v
  | .next => ret .none
  | .cont => bad
noncomputable def callF (S : Sig) (F : Fns) (k : Nat) (vs : List V) : Mn V := match S.fns[k]? with
  | some d => if vs.length = d.np then bnd (exs S F d.body (vs.map some ++ List.replicate (d.names.length - d.np) Option.none)) finF else bad
  | Option.none => bad
/-- the calls, so deep -/
noncomputable def run (S : Sig) : Nat → Fns
  | 0 => fun _ _ => bad
  | n + 1 => callF S (run S n)

end Mini

/-! How a heap of the model bears a small heap. -/
namespace Mini
open PySem

theorem hide {C : Prop} (h : ∀ G : Prop, (C → G) → G) : C := h C id
structure Wd where
  prog : Program
  w : World
  S : Sig
  fa : Nat → Addr
  ca : Nat → Addr
  base : Heap

noncomputable abbrev Io := List (Addr × Addr)
noncomputable def Foot (io : Io) (b : Addr) : Prop := ∃ p ∈ io, b = p.1 ∨ b = p.2
theorem foot_append {io new : Io} {b : Addr} (x : Foot (io ++ new) b) : Foot io b ∨ Foot new b := by
  refine hide fun GOAL hGOAL => ?_
  obtain ⟨p, hp, e⟩ := x
  refine hGOAL ?_
  clear hGOAL GOAL
  rcases List.mem_append.mp hp with h | h
  · exact .inl ⟨p, h, e⟩
  · exact .inr ⟨p, h, e⟩

inductive IntsR : List Int → List Value → Prop
  | nil : IntsR [] []
  | cons (i : Int) (t : Tok) {ns : List Int} {vs : List Value} : IntsR ns vs → IntsR (i :: ns) (.int i t :: vs)

noncomputable abbrev tupO (vs : Array Value) (n : Nat) : Obj := { cls := .type "tuple", data := .seq vs n }
noncomputable abbrev lstO (vs : Array Value) (n : Nat) : Obj := { cls := .type "list", data := .seq vs n }
mutual
inductive VR (W : Wd) (h : Heap) (io : Io) : V → Value → Prop
  | none : VR W h io .none .none
  | bool (b : Bool) : VR W h io (.bool b) (.bool b)
  | int (i : Int) (t : Tok) : VR W h io (.int i) (.int i t)
  | str (s : Str) (t : Tok) : PyData.strOk s = true → VR W h io (.str s) (.str s t)
  | tup {a : Addr} {vs : Array Value} {n : Nat} {xs : List V} : h.get? a = some (tupO vs n) → VRs W h io xs vs.toList → VR W h io (.tup xs) (.ref a)
  | ref {n : Nat} {a d : Addr} : io[n]? = some (a, d) → VR W h io (.ref n) (.ref a)
  | fn (k : Nat) : VR W h io (.fn k) (.ref (W.fa k))
  | exc {c : Nat} {a : Addr} {o : Obj} {vs : Array Value} : h.get? a = some o → o.cls = .ref (W.ca c) → o.data = .fields vs → VR W h io (.exc c) (.ref a)
  | scr {ns : List Int} {l : Addr} {o : Obj} {vs : Array Value} {n : Nat} : W.base.get? l = some o → o.cls = .type "list" → o.data = .seq vs n → IntsR ns vs.toList → ns.length ≤ lid → VR W h io (.scr ns) (.ref l)
inductive VRs (W : Wd) (h : Heap) (io : Io) : List V → List Value → Prop
  | nil : VRs W h io [] []
  | cons {x : V} {v : Value} {xs : List V} {vs : List Value} : VR W h io x v → VRs W h io xs vs → VRs W h io (x :: xs) (v :: vs)
end

noncomputable def atHash (w : World) : Sum Int Str → Int
  | .inl i => hashInt i
  | .inr s => hashStr w s
noncomputable def kyHash (w : World) : Ky → Int
  | .int i => hashInt i
  | .str s => hashStr w s
  | .tup ks => reduceHash (Builtin.Tuple.tupleHashOf (ks.map (atHash w)))

inductive ERs (W : Wd) (h : Heap) (io : Io) : List (Ky × V) → List DictEntry → Prop
  | nil : ERs W h io [] []
  | cons {k : Ky} {v : V} {key u : Value} {kvs : List (Ky × V)} {es : List DictEntry} : VR W h io k.val key → VR W h io v u → ERs W h io kvs es → ERs W h io ((k, v) :: kvs) (⟨kyHash W.w k, key, u⟩ :: es)
/-- the fields of an instance, by their names -/
noncomputable def FEs (W : Wd) (h : Heap) (io : Io) (fs : List (Nat × V)) (mA : Str → Option Value) : Prop :=
  (∀ x u, mA x = some u → ∃ i v, W.S.attrs[i]? = some x ∧ fget i fs = some v ∧ VR W h io v u) ∧ (∀ i v, fget i fs = some v → ∃ x u, W.S.attrs[i]? = some x ∧ mA x = some u ∧ VR W h io v u)

/-- a plain class of the program's own -/
structure ClsOk (W : Wd) (c : Nat) (D : ClsD) (N : Addr) (mN : Str → Option Value) : Prop where
  dat : W.S.cls[c]? = some D
  exc : D.exc = false
  obj : ∃ nm q bs sn sub col dd k0 k1 k2 k3 k5, W.base.get? (W.ca c) = some (excClassObj nm q (W.ca c) N bs [.type "object"] true sn sub false col dd k0 k1 k2 k3 k5 "object.__new__")
  ns : W.base.Ns N mN
  ga : mN "__getattribute__" = none
  gh : mN "__getattr__" = none
  sa : mN "__setattr__" = none
  has : ∀ (i : Nat) (x : Str), W.S.attrs[i]? = some x → mN x = (D.meths.lookup i).map fun k => .ref (W.fa k)
  low : ∀ (i : Nat) (x : Str), W.S.attrs[i]? = some x → typeLookup (.type "object") x = pure none
  uniq : ∀ (i j : Nat) (x : Str), W.S.attrs[i]? = some x → W.S.attrs[j]? = some x → i = j
  few : W.S.attrs.length ≤ 1000
  mlt : ∀ (i k : Nat), D.meths.lookup i = some k → k < W.S.fns.length
noncomputable abbrev instO (C dx : Addr) : Obj := { cls := .ref C, dict := some dx, data := .plain }
noncomputable abbrev dictO (es : List DictEntry) (n : Nat) : Obj := { cls := .type "dict", data := .dict es.toArray n }

noncomputable def OR (W : Wd) (h : Heap) (io : Io) (a d : Addr) : MObj → Prop
  | .list xs => a = d ∧ ∃ vs n, h.get? a = some (lstO vs n) ∧ VRs W h io xs vs.toList ∧ xs.length ≤ lid
  | .dict kvs _ => a = d ∧ ∃ o es n, h.get? a = some o ∧ o.ExactDict ∧ o.data = .dict es n ∧ ERs W h io kvs es.toList ∧ (kvs.map (·.1)).Nodup ∧ kvs.length ≤ lid
  | .inst c fs => a ≠ d ∧ ∃ mA, h.get? a = some (instO (W.ca c) d) ∧ h.Ns1 d mA ∧ FEs W h io fs mA ∧ ∃ D N mN, ClsOk W c D N mN

structure HR (W : Wd) (h : Heap) (io : Io) (m : MH) : Prop where
  keep : W.base.StaysIn h
  len : io.length = m.length
  obj : ∀ (n : Nat) (p : Addr × Addr) (o : MObj), io[n]? = some p → m[n]? = some o → OR W h io p.1 p.2 o
  fresh : ∀ b, Foot io b → W.base.get? b = none
  apart : ∀ (i j : Nat) (p q : Addr × Addr), i ≠ j → io[i]? = some p → io[j]? = some q → p.1 ≠ q.1 ∧ p.1 ≠ q.2 ∧ p.2 ≠ q.2

/-- what no statement changes -/
noncomputable def Solid (o : Obj) : Prop := (o.cls = .type "tuple" ∧ ∃ vs n, o.data = .seq vs n) ∨ (∃ C vs, o.cls = .ref C ∧ o.data = .fields vs)

structure Step (own fr : List Addr) (h : Heap) (io : Io) (m : MH) (h' : Heap) (io' : Io) (m' : MH) : Prop where
  alive : ∀ b o, h.get? b = some o → ∃ o', h'.get? b = some o'
  solid : ∀ b o, h.get? b = some o → Solid o → h'.get? b = some o
  keep : ∀ b o, h.get? b = some o → ¬ Foot io b → b ∉ own → b ∉ fr → h'.get? b = some o
  slots : ∀ b o, h.get? b = some o → ¬ Foot io b → b ∉ own → ∃ sl, h'.get? b = some { o with slots := sl }
  grow : ∃ new, io' = io ++ new ∧ ∀ p ∈ new, h.get? p.1 = none ∧ h.get? p.2 = none
  dicts : ∀ (n : Nat) (p : Addr × Addr) (kvs : List (Ky × V)) (e : Nat), io[n]? = some p → m[n]? = some (.dict kvs e) → ∃ (kvs' : List (Ky × V)) (e' : Nat), m'[n]? = some (.dict kvs' e') ∧ e ≤ e' ∧ (e' = e → h'.get? p.1 = h.get? p.1 ∧ kvs' = kvs)

section
variable {W : Wd} {h h' h'' : Heap} {io io' io'' : Io} {m m' m'' : MH} {own fr : List Addr}

theorem Step.refl : Step own fr h io m h io m where
  alive := fun _ o e => ⟨o, e⟩
  solid := fun _ _ e _ => e
  keep := fun _ _ e _ _ _ => e
  slots := fun _ o e _ _ => ⟨o.slots, e⟩
  grow := ⟨[], by simp, fun _ hp => nomatch hp⟩
  dicts := fun _ _ kvs e _ hm => ⟨kvs, e, hm, Nat.le_refl _, fun _ => ⟨rfl, rfl⟩⟩

theorem Step.nofoot (x : Step own fr h io m h' io' m') {b : Addr} {o : Obj} (hb : h.get? b = some o) (hf : ¬ Foot io b) : ¬ Foot io' b := by
  refine hide fun GOAL hGOAL => ?_
  obtain ⟨new, rfl, hn⟩ := x.grow
  refine hGOAL ?_
  clear hGOAL GOAL
  intro q
  rcases foot_append q with q | ⟨p, hp, e⟩
  · exact hf q
  · rcases e with e | e
    · rw [e, (hn p hp).1] at hb; cases hb
    · rw [e, (hn p hp).2] at hb; cases hb

theorem Step.trans (x : Step own fr h io m h' io' m') (y : Step own fr h' io' m' h'' io'' m'') : Step own fr h io m h'' io'' m'' where
  alive := fun b o e => let ⟨o', e'⟩ := x.alive b o e; y.alive b o' e'
  solid := fun b o e s => y.solid b o (x.solid b o e s) s
  keep := fun b o e f1 f2 f3 => y.keep b o (x.keep b o e f1 f2 f3) (x.nofoot e f1) f2 f3
  slots := fun b o e f1 f2 => by
    obtain ⟨sl, e'⟩ := x.slots b o e f1 f2
    obtain ⟨sl', e''⟩ := y.slots b _ e' (x.nofoot e f1) f2
    exact ⟨sl', e''⟩
  grow := by
    refine hide fun GOAL hGOAL => ?_
    obtain ⟨n1, rfl, h1⟩ := x.grow
    refine hGOAL ?_
    clear hGOAL GOAL
    refine hide fun GOAL hGOAL => ?_
    obtain ⟨n2, rfl, h2⟩ := y.grow
    refine hGOAL ?_
    clear hGOAL GOAL
    refine ⟨n1 ++ n2, by simp, fun p hp => ?_⟩
    rcases List.mem_append.mp hp with hp | hp
    · exact h1 p hp
    · have back : ∀ b, h'.get? b = none → h.get? b = none := fun b e => by
        cases q : h.get? b with
        | none => rfl
        | some o => obtain ⟨o', e'⟩ := x.alive b o q; rw [e] at e'; cases e'
      exact ⟨back _ (h2 p hp).1, back _ (h2 p hp).2⟩
  dicts := fun n p kvs e hi hm => by
    refine hide fun GOAL hGOAL => ?_
    obtain ⟨k1, e1, hm1, l1, s1⟩ := x.dicts n p kvs e hi hm
    refine hGOAL ?_
    clear hGOAL GOAL
    have hi' : io'[n]? = some p := by
      refine hide fun GOAL hGOAL => ?_
      obtain ⟨new, rfl, _⟩ := x.grow
      refine hGOAL ?_
      clear hGOAL GOAL
      rw [List.getElem?_append_left (by exact (List.getElem?_eq_some_iff.mp hi).1)]; exact hi
    refine hide fun GOAL hGOAL => ?_
    obtain ⟨k2, e2, hm2, l2, s2⟩ := y.dicts n p k1 e1 hi' hm1
    refine hGOAL ?_
    clear hGOAL GOAL
    refine ⟨k2, e2, hm2, Nat.le_trans l1 l2, fun q => ?_⟩
    have q1 : e1 = e := by omega
    have q2 : e2 = e1 := by omega
    exact ⟨(s2 q2).1.trans (s1 q1).1, (s2 q2).2.trans (s1 q1).2⟩

theorem Step.io_get (x : Step own fr h io m h' io' m') {n : Nat} {p : Addr × Addr} (hi : io[n]? = some p) : io'[n]? = some p := by
  refine hide fun GOAL hGOAL => ?_
  obtain ⟨new, rfl, _⟩ := x.grow
  refine hGOAL ?_
  clear hGOAL GOAL
  rw [List.getElem?_append_left (List.getElem?_eq_some_iff.mp hi).1]; exact hi

/-- what solid things and the table keep -/
theorem VR.mono (x : ∀ b o, h.get? b = some o → Solid o → h'.get? b = some o) (y : ∀ (n : Nat) (p : Addr × Addr), io[n]? = some p → io'[n]? = some p) {v : V} {u : Value} (k : VR W h io v u) : VR W h' io' v u :=
  VR.rec (motive_1 := fun v u _ => VR W h' io' v u) (motive_2 := fun v u _ => VRs W h' io' v u) .none .bool .int .str (fun h1 _ ih => .tup (x _ _ h1 (.inl ⟨rfl, _, _, rfl⟩)) ih) (fun h1 => .ref (y _ _ h1)) .fn (fun h1 h2 h3 => .exc (x _ _ h1 (.inr ⟨_, _, h2, h3⟩)) h2 h3) .scr .nil (fun _ _ h1 h2 => .cons h1 h2) k
theorem VRs.mono (x : ∀ b o, h.get? b = some o → Solid o → h'.get? b = some o) (y : ∀ (n : Nat) (p : Addr × Addr), io[n]? = some p → io'[n]? = some p) {v : List V} {u : List Value} (k : VRs W h io v u) : VRs W h' io' v u :=
  VRs.rec (motive_1 := fun v u _ => VR W h' io' v u) (motive_2 := fun v u _ => VRs W h' io' v u) .none .bool .int .str (fun h1 _ ih => .tup (x _ _ h1 (.inl ⟨rfl, _, _, rfl⟩)) ih) (fun h1 => .ref (y _ _ h1)) .fn (fun h1 h2 h3 => .exc (x _ _ h1 (.inr ⟨_, _, h2, h3⟩)) h2 h3) .scr .nil (fun _ _ h1 h2 => .cons h1 h2) k
theorem ERs.mono (x : ∀ b o, h.get? b = some o → Solid o → h'.get? b = some o) (y : ∀ (n : Nat) (p : Addr × Addr), io[n]? = some p → io'[n]? = some p) {kvs : List (Ky × V)} {es : List DictEntry} (e : ERs W h io kvs es) : ERs W h' io' kvs es := by
  induction e with
  | nil => exact .nil
  | cons h1 h2 _ ih => exact .cons (h1.mono x y) (h2.mono x y) ih
theorem FEs.mono (x : ∀ b o, h.get? b = some o → Solid o → h'.get? b = some o) (y : ∀ (n : Nat) (p : Addr × Addr), io[n]? = some p → io'[n]? = some p) {fs : List (Nat × V)} {mA : Str → Option Value} (e : FEs W h io fs mA) : FEs W h' io' fs mA :=
  ⟨fun z u q => (e.1 z u q).imp fun _ q => q.imp fun _ q => ⟨q.1, q.2.1, q.2.2.mono x y⟩, fun i v q => (e.2 i v q).imp fun _ q => q.imp fun _ q => ⟨q.1, q.2.1, q.2.2.mono x y⟩⟩
theorem VR.step (x : Step own fr h io m h' io' m') {v : V} {u : Value} (k : VR W h io v u) : VR W h' io' v u := k.mono x.solid fun _ _ => x.io_get
theorem VRs.step (x : Step own fr h io m h' io' m') {v : List V} {u : List Value} (k : VRs W h io v u) : VRs W h' io' v u := k.mono x.solid fun _ _ => x.io_get
theorem ERs.step (x : Step own fr h io m h' io' m') {kvs : List (Ky × V)} {es : List DictEntry} (e : ERs W h io kvs es) : ERs W h' io' kvs es := e.mono x.solid fun _ _ => x.io_get
theorem FEs.step (x : Step own fr h io m h' io' m') {fs : List (Nat × V)} {mA : Str → Option Value} (e : FEs W h io fs mA) : FEs W h' io' fs mA := e.mono x.solid fun _ _ => x.io_get

theorem VRs.length {xs : List V} {vs : List Value} (x : VRs W h io xs vs) : vs.length = xs.length := by
  induction xs generalizing vs with
  | nil => cases x; rfl
  | cons y ys ih => cases x with | cons _ r => simp [ih r]
theorem VRs.get {xs : List V} {vs : List Value} (x : VRs W h io xs vs) {k : Nat} {v : V} (hk : xs[k]? = some v) : ∃ u, vs[k]? = some u ∧ VR W h io v u := by
  induction xs generalizing vs k with
  | nil => simp at hk
  | cons y ys ih =>
    cases x with
    | cons h1 r =>
      cases k with
      | zero => simp at hk; subst hk; exact ⟨_, rfl, h1⟩
      | succ k => simp at hk; simpa using ih r hk
theorem VRs.append {xs ys : List V} {vs us : List Value} (x : VRs W h io xs vs) (y : VRs W h io ys us) : VRs W h io (xs ++ ys) (vs ++ us) := by
  induction xs generalizing vs with
  | nil => cases x; exact y
  | cons z zs ih => cases x with | cons h1 r => exact .cons h1 (ih r)
theorem VRs.snoc {xs : List V} {vs : List Value} {v : V} {u : Value} (x : VRs W h io xs vs) (y : VR W h io v u) : VRs W h io (xs ++ [v]) (vs ++ [u]) := x.append (.cons y .nil)
theorem VRs.take {xs : List V} {vs : List Value} (x : VRs W h io xs vs) (k : Nat) : VRs W h io (xs.take k) (vs.take k) := by
  induction xs generalizing vs k with
  | nil => cases x; simp; exact .nil
  | cons z zs ih => cases x with | cons h1 r => cases k with
    | zero => exact .nil
    | succ k => exact .cons h1 (ih r k)
theorem VRs.drop {xs : List V} {vs : List Value} (x : VRs W h io xs vs) (k : Nat) : VRs W h io (xs.drop k) (vs.drop k) := by
  induction xs generalizing vs k with
  | nil => cases x; simp; exact .nil
  | cons z zs ih => cases x with | cons h1 r => cases k with
    | zero => exact .cons h1 r
    | succ k => exact ih r k
theorem IntsR.length {ns : List Int} {vs : List Value} (x : IntsR ns vs) : vs.length = ns.length := by
  induction x with
  | nil => rfl
  | cons _ _ _ ih => simp [ih]
theorem IntsR.vrs {ns : List Int} {vs : List Value} (x : IntsR ns vs) : VRs W h io (ns.map .int) vs := by
  induction x with
  | nil => exact .nil
  | cons i t _ ih => exact .cons (.int i t) ih

theorem OR.step_same (x : Step own fr h io m h' io' m') {a d : Addr} {o : MObj} (k : OR W h io a d o) (ha : ∀ o, h.get? a = some o → h'.get? a = some o) (hd : ∀ o, h.get? d = some o → h'.get? d = some o) : OR W h' io' a d o := by
  cases o with
  | list xs =>
    refine hide fun GOAL hGOAL => ?_
    obtain ⟨e, vs, n, h1, h4, h5⟩ := k
    refine hGOAL ?_
    clear hGOAL GOAL
    exact ⟨e, vs, n, ha _ h1, h4.step x, h5⟩
  | dict kvs ep =>
    refine hide fun GOAL hGOAL => ?_
    obtain ⟨e, o, es, n, h1, h2, h3, h4, h5⟩ := k
    refine hGOAL ?_
    clear hGOAL GOAL
    exact ⟨e, o, es, n, ha _ h1, h2, h3, h4.step x, h5⟩
  | inst c fs =>
    refine hide fun GOAL hGOAL => ?_
    obtain ⟨e, mA, h1, h2, h3, h4⟩ := k
    refine hGOAL ?_
    clear hGOAL GOAL
    exact ⟨e, mA, ha _ h1, h2.at hd, h3.step x, h4⟩

/-- the objects of the footing are there, and of these kinds -/
theorem HR.foot {b : Addr} (x : HR W h io m) (f : Foot io b) : ∃ o, h.get? b = some o ∧ ¬ Solid o ∧ (∀ v, o.data ≠ .cell v) ∧ (∀ vs, o.data ≠ .fields vs) ∧ (∀ f, o.data ≠ .func f) := by
  refine hide fun GOAL hGOAL => ?_
  obtain ⟨p, hp, e⟩ := f
  refine hGOAL ?_
  clear hGOAL GOAL
  obtain ⟨n, hn⟩ := List.getElem?_of_mem hp
  have hlt : n < m.length := by rw [← x.len]; exact (List.getElem?_eq_some_iff.mp hn).1
  have hm : m[n]? = some m[n] := List.getElem?_eq_getElem hlt
  have k := x.obj n p _ hn hm
  have sd : ∀ o : Obj, o.ExactDict → ∀ es ep, o.data = .dict es ep → ¬ Solid o := by
    rintro o hx es ep hd (⟨hc, vs, n, hs⟩ | ⟨C, vs, hc, hs⟩)
    · rw [hd] at hs; cases hs
    · rw [hd] at hs; cases hs
  cases hq : m[n] with
  | list xs =>
    rw [hq] at k
    refine hide fun GOAL hGOAL => ?_
    obtain ⟨e', vs, n', h1, _⟩ := k
    refine hGOAL ?_
    clear hGOAL GOAL
    refine ⟨lstO vs n', ?_, ?_, ?_, ?_, ?_⟩
    · rcases e with e | e
      · rw [e]; exact h1
      · rw [e, ← e']; exact h1
    · rintro (⟨hc, _⟩ | ⟨C, ws, hc, hs⟩)
      · simp at hc
      · cases hs
    all_goals (intro v q; cases q)
  | dict kvs ep =>
    rw [hq] at k
    refine hide fun GOAL hGOAL => ?_
    obtain ⟨e', o, es, n', h1, h2, h3, _⟩ := k
    refine hGOAL ?_
    clear hGOAL GOAL
    refine ⟨o, ?_, sd o h2 _ _ h3, ?_, ?_, ?_⟩
    · rcases e with e | e
      · rw [e]; exact h1
      · rw [e, ← e']; exact h1
    · intro v q; rw [h3] at q; cases q
    · intro v q; rw [h3] at q; cases q
    · intro v q; rw [h3] at q; cases q
  | inst c fs =>
    rw [hq] at k
    refine hide fun GOAL hGOAL => ?_
    obtain ⟨e', mA, h1, ⟨od, es, n', h2, h3, _⟩, _⟩ := k
    refine hGOAL ?_
    clear hGOAL GOAL
    rcases e with e | e
    · refine ⟨_, by rw [e]; exact h1, ?_, ?_, ?_, ?_⟩
      · rintro (⟨hc, _⟩ | ⟨C, ws, hc, hs⟩)
        · cases hc
        · cases hs
      all_goals (intro v q; cases q)
    · refine ⟨_, by rw [e]; exact h2, ?_, ?_, ?_, ?_⟩
      · rintro (⟨_, vs, n, hs⟩ | ⟨C, vs, hc, hs⟩)
        · rw [h3] at hs; cases hs
        · rw [h3] at hs; cases hs
      all_goals (intro v q; rw [h3] at q; cases q)

theorem HR.nofoot_of_solid {b : Addr} {o : Obj} (x : HR W h io m) (hb : h.get? b = some o) (hs : Solid o) : ¬ Foot io b := fun f => by
  refine hide fun GOAL hGOAL => ?_
  obtain ⟨o', h1, h2, _⟩ := x.foot f
  refine hGOAL ?_
  clear hGOAL GOAL
  rw [hb] at h1; cases h1; exact h2 hs
theorem HR.nofoot_of_cell {b : Addr} {o : Obj} {v : Option Value} (x : HR W h io m) (hb : h.get? b = some o) (hs : o.data = .cell v) : ¬ Foot io b := fun f => by
  refine hide fun GOAL hGOAL => ?_
  obtain ⟨o', h1, _, h2, _⟩ := x.foot f
  refine hGOAL ?_
  clear hGOAL GOAL
  rw [hb] at h1; cases h1; exact h2 _ hs
theorem HR.there {n : Nat} {p : Addr × Addr} (x : HR W h io m) (hn : io[n]? = some p) : ∃ o, h.get? p.1 = some o := by
  refine hide fun GOAL hGOAL => ?_
  obtain ⟨o, ho, _⟩ := x.foot ⟨p, List.mem_of_getElem? hn, .inl rfl⟩
  refine hGOAL ?_
  clear hGOAL GOAL
  exact ⟨o, ho⟩
/-- nothing but new objects -/
theorem Step.of_keeps (x : HR W h io m) (hk : ∀ b o, h.get? b = some o → h'.get? b = some o) : Step own fr h io m h' io m where
  alive := fun b o e => ⟨o, hk b o e⟩
  solid := fun b o e _ => hk b o e
  keep := fun b o e _ _ _ => hk b o e
  slots := fun b o e _ _ => ⟨o.slots, hk b o e⟩
  grow := ⟨[], by simp, fun _ hp => nomatch hp⟩
  dicts := fun n p kvs e hi hm => ⟨kvs, e, hm, Nat.le_refl _, fun _ => ⟨by
    obtain ⟨o, ho⟩ := x.there hi
    rw [ho]; exact hk _ _ ho, rfl⟩⟩
theorem HR.of_keeps (x : HR W h io m) (hk : ∀ b o, h.get? b = some o → h'.get? b = some o) : HR W h' io m where
  keep := fun b o e => hk b o (x.keep b o e)
  len := x.len
  obj := fun n p o hi hm => (x.obj n p o hi hm).step_same (Step.of_keeps (own := []) (fr := []) x hk) (hk _) (hk _)
  fresh := x.fresh
  apart := x.apart

theorem HR.of_foot (x : HR W h io m) (st : Step own fr h io m h' io m) (hf : ∀ b o, Foot io b → h.get? b = some o → h'.get? b = some o) (hb : W.base.StaysIn h') : HR W h' io m where
  keep := hb
  len := x.len
  obj := fun n p o hi hm => (x.obj n p o hi hm).step_same st (fun o e => hf _ o ⟨p, List.mem_of_getElem? hi, .inl rfl⟩ e) (fun o e => hf _ o ⟨p, List.mem_of_getElem? hi, .inr rfl⟩ e)
  fresh := x.fresh
  apart := x.apart

/-- an address of the frame's own changes -/
theorem step_own {L : Addr} (x : HR W h io m) (hL : L ∈ own) (hk : ∀ b o, b ≠ L → h.get? b = some o → h'.get? b = some o) (hs : ∀ o, h.get? L = some o → ¬ Solid o ∧ ∃ o', h'.get? L = some o') (hf : ¬ Foot io L) :
    Step own fr h io m h' io m where
  alive := fun b o e => by
    by_cases q : b = L
    · subst q; exact (hs o e).2
    · exact ⟨o, hk b o q e⟩
  solid := fun b o e so => by
    by_cases q : b = L
    · subst q; exact absurd so (hs o e).1
    · exact hk b o q e
  keep := fun b o e _ ho _ => hk b o (fun q => ho (q ▸ hL)) e
  slots := fun b o e _ ho => ⟨o.slots, hk b o (fun q => ho (q ▸ hL)) e⟩
  grow := ⟨[], by simp, fun _ hp => nomatch hp⟩
  dicts := fun n p kvs e hi hm => ⟨kvs, e, hm, Nat.le_refl _, fun _ => ⟨by
    obtain ⟨o, ho⟩ := x.there hi
    rw [ho]; exact hk _ _ (fun q => hf ⟨p, List.mem_of_getElem? hi, .inl q.symm⟩) ho, rfl⟩⟩
theorem HR.ofOwn {L : Addr} (x : HR W h io m) (hL : L ∈ own) (hk : ∀ b o, b ≠ L → h.get? b = some o → h'.get? b = some o) (hs : ∀ o, h.get? L = some o → ¬ Solid o ∧ ∃ o', h'.get? L = some o') (hf : ¬ Foot io L) (hb : W.base.get? L = none) :
    HR W h' io m := x.of_foot (fr := []) (step_own x hL hk hs hf) (fun b o f e => hk b o (fun q => hf (q ▸ f)) e) fun b o e => hk b o (fun q => by rw [q, hb] at e; cases e) (x.keep b o e)

/-- a new object -/
theorem step_alloc (x : HR W h io m) {a d : Addr} {o : MObj} (hk : ∀ b o, h.get? b = some o → h'.get? b = some o) (ha : h.get? a = none) (hd : h.get? d = none) :
    Step own fr h io m h' (io ++ [(a, d)]) (m ++ [o]) where
  alive := fun b o e => ⟨o, hk b o e⟩
  solid := fun b o e _ => hk b o e
  keep := fun b o e _ _ _ => hk b o e
  slots := fun b o e _ _ => ⟨o.slots, hk b o e⟩
  grow := ⟨[(a, d)], rfl, fun p hp => by rw [List.mem_singleton.mp hp]; exact ⟨ha, hd⟩⟩
  dicts := fun n p kvs e hi hm => ⟨kvs, e, by rw [List.getElem?_append_left (List.getElem?_eq_some_iff.mp hm).1]; exact hm, Nat.le_refl _, fun _ => ⟨by
    obtain ⟨o, ho⟩ := x.there hi
    rw [ho]; exact hk _ _ ho, rfl⟩⟩
theorem HR.alloc (x : HR W h io m) {a d : Addr} {o : MObj} (hk : ∀ b o, h.get? b = some o → h'.get? b = some o) (ha : h.get? a = none) (hd : h.get? d = none)
    (k : OR W h' (io ++ [(a, d)]) a d o) : HR W h' (io ++ [(a, d)]) (m ++ [o]) where
  keep := fun b o e => hk b o (x.keep b o e)
  len := by simp [x.len]
  obj := fun n p o' hi hm => by
    by_cases q : n < io.length
    · rw [List.getElem?_append_left q] at hi
      rw [List.getElem?_append_left (x.len ▸ q)] at hm
      exact (x.obj n p o' hi hm).step_same (step_alloc (own := []) (fr := []) (o := o) x hk ha hd) (hk _) (hk _)
    · have q1 : n = io.length := by
        have := (List.getElem?_eq_some_iff.mp hi).1
        simp at this; omega
      subst q1
      rw [List.getElem?_append_right (Nat.le_refl _)] at hi
      rw [x.len, List.getElem?_append_right (Nat.le_refl _)] at hm
      simp at hi hm
      subst hi hm
      exact k
  fresh := fun b f => by
    rcases foot_append f with f | ⟨p, hp, e⟩
    · exact x.fresh b f
    · rw [List.mem_singleton.mp hp] at e
      cases q : W.base.get? b with
      | none => rfl
      | some o =>
        have := x.keep b o q
        rcases e with e | e <;> subst e
        · rw [ha] at this; cases this
        · rw [hd] at this; cases this
  apart := fun i j p q hij hi hj => by
    have lo : ∀ (n : Nat) (p : Addr × Addr), (io ++ [(a, d)])[n]? = some p → (n < io.length ∧ io[n]? = some p) ∨ (n = io.length ∧ p = (a, d)) := fun n p hn => by
      by_cases q : n < io.length
      · rw [List.getElem?_append_left q] at hn; exact .inl ⟨q, hn⟩
      · have q1 : n = io.length := by
          have := (List.getElem?_eq_some_iff.mp hn).1
          simp at this; omega
        subst q1
        rw [List.getElem?_append_right (Nat.le_refl _)] at hn
        simp at hn
        exact .inr ⟨rfl, hn.symm⟩
    have off : ∀ (n : Nat) (p : Addr × Addr), io[n]? = some p → p.1 ≠ a ∧ p.1 ≠ d ∧ p.2 ≠ a ∧ p.2 ≠ d := fun n p hn => by
      refine hide fun GOAL hGOAL => ?_
      obtain ⟨o1, h1, _⟩ := x.foot ⟨p, List.mem_of_getElem? hn, .inl rfl⟩
      refine hGOAL ?_
      clear hGOAL GOAL
      refine hide fun GOAL hGOAL => ?_
      obtain ⟨o2, h2, _⟩ := x.foot ⟨p, List.mem_of_getElem? hn, .inr rfl⟩
      refine hGOAL ?_
      clear hGOAL GOAL
      refine ⟨fun e => ?_, fun e => ?_, fun e => ?_, fun e => ?_⟩
      · rw [e, ha] at h1; cases h1
      · rw [e, hd] at h1; cases h1
      · rw [e, ha] at h2; cases h2
      · rw [e, hd] at h2; cases h2
    rcases lo i p hi with ⟨_, hi⟩ | ⟨ei, rfl⟩ <;> rcases lo j q hj with ⟨_, hj⟩ | ⟨ej, rfl⟩
    · exact x.apart i j p q hij hi hj
    · refine hide fun GOAL hGOAL => ?_
      obtain ⟨h1, h2, h3, h4⟩ := off i p hi
      refine hGOAL ?_
      clear hGOAL GOAL
      exact ⟨h1, h2, h4⟩
    · refine hide fun GOAL hGOAL => ?_
      obtain ⟨h1, h2, h3, h4⟩ := off j q hj
      refine hGOAL ?_
      clear hGOAL GOAL
      exact ⟨Ne.symm h1, Ne.symm h3, Ne.symm h4⟩
    · exact absurd (ei.trans ej.symm) hij

/-- an object changes -/
theorem step_set (x : HR W h io m) {n : Nat} {p : Addr × Addr} {o o1 : MObj} (hi : io[n]? = some p) (hm : m[n]? = some o) (hk : ∀ b o, b ≠ p.1 → b ≠ p.2 → h.get? b = some o → h'.get? b = some o)
    (h1 : ∃ o', h'.get? p.1 = some o') (h2 : ∃ o', h'.get? p.2 = some o') (hd : ∀ kvs e, o = .dict kvs e → ∃ kvs' e', o1 = .dict kvs' e' ∧ e < e') : Step own fr h io m h' io (m.set n o1) where
  alive := fun b o e => by
    by_cases q : b = p.1
    · subst q; exact h1
    · by_cases q2 : b = p.2
      · subst q2; exact h2
      · exact ⟨o, hk b o q q2 e⟩
  solid := fun b o e s => hk b o (fun q => x.nofoot_of_solid e s ⟨p, List.mem_of_getElem? hi, .inl q⟩) (fun q => x.nofoot_of_solid e s ⟨p, List.mem_of_getElem? hi, .inr q⟩) e
  keep := fun b o e f _ _ => hk b o (fun q => f ⟨p, List.mem_of_getElem? hi, .inl q⟩) (fun q => f ⟨p, List.mem_of_getElem? hi, .inr q⟩) e
  slots := fun b o e f _ => ⟨o.slots, hk b o (fun q => f ⟨p, List.mem_of_getElem? hi, .inl q⟩) (fun q => f ⟨p, List.mem_of_getElem? hi, .inr q⟩) e⟩
  grow := ⟨[], by simp, fun _ hp => nomatch hp⟩
  dicts := fun k q kvs e hq hmk => by
    by_cases z : k = n
    · subst z
      rw [hm] at hmk; cases hmk
      refine hide fun GOAL hGOAL => ?_
      obtain ⟨kvs', e', rfl, hlt⟩ := hd kvs e rfl
      refine hGOAL ?_
      clear hGOAL GOAL
      refine ⟨kvs', e', by simp [(List.getElem?_eq_some_iff.mp hm).1], by omega, fun w => by omega⟩
    · refine ⟨kvs, e, by rw [List.getElem?_set_ne (Ne.symm z)]; exact hmk, Nat.le_refl _, fun _ => ⟨?_, rfl⟩⟩
      obtain ⟨o, ho⟩ := x.there hq
      refine hide fun GOAL hGOAL => ?_
      obtain ⟨a1, a2, a3⟩ := x.apart k n q p z hq hi
      refine hGOAL ?_
      clear hGOAL GOAL
      rw [ho]; exact hk _ _ a1 a2 ho
theorem HR.set (x : HR W h io m) {n : Nat} {p : Addr × Addr} {o o1 : MObj} (hi : io[n]? = some p) (hm : m[n]? = some o) (hk : ∀ b o, b ≠ p.1 → b ≠ p.2 → h.get? b = some o → h'.get? b = some o)
    (hd : ∀ kvs e, o = .dict kvs e → ∃ kvs' e', o1 = .dict kvs' e' ∧ e < e') (h1 : ∃ o', h'.get? p.1 = some o') (h2 : ∃ o', h'.get? p.2 = some o') (k : OR W h' io p.1 p.2 o1) : HR W h' io (m.set n o1) where
  keep := fun b o e => hk b o (fun q => by rw [x.fresh b ⟨p, List.mem_of_getElem? hi, .inl q⟩] at e; cases e) (fun q => by rw [x.fresh b ⟨p, List.mem_of_getElem? hi, .inr q⟩] at e; cases e) (x.keep b o e)
  len := by simp [x.len]
  obj := fun j q o' hj hmj => by
    by_cases z : j = n
    · subst z
      rw [hi] at hj; cases hj
      rw [List.getElem?_set_self (List.getElem?_eq_some_iff.mp hm).1] at hmj; cases hmj
      exact k
    · rw [List.getElem?_set_ne (Ne.symm z)] at hmj
      refine hide fun GOAL hGOAL => ?_
      obtain ⟨a1, a2, a3⟩ := x.apart j n q p z hj hi
      refine hGOAL ?_
      clear hGOAL GOAL
      refine hide fun GOAL hGOAL => ?_
      obtain ⟨b1, b2, b3⟩ := x.apart n j p q (Ne.symm z) hi hj
      refine hGOAL ?_
      clear hGOAL GOAL
      exact (x.obj j q o' hj hmj).step_same (step_set (own := []) (fr := []) x hi hm hk h1 h2 hd) (fun o e => hk _ o a1 a2 e) (fun o e => hk _ o (Ne.symm b2) a3 e)
  fresh := x.fresh
  apart := x.apart
end
end Mini

/-! The store of an item in a list. -/
namespace Mini
open PySem PySem.Calls

section
variable {prog : Program} {w : World} {A : Around} {E : Value → Shared → Prop} {s : Shared}
end
end Mini

/-! Frames, and what a step of the walk says. -/
namespace Mini
open PySem

noncomputable def frs (fs : List Env) : List Addr := fs.filterMap (·.frame)

structure FR (W : Wd) (h : Heap) (io : Io) (env : Env) (vis : List (Option Str)) (r : Lo) : Prop where
  kind : env.scope.kind = .function
  glob : env.globals = mainGlobals
  blt : env.builtins = builtinsNs
  nofoot : ¬ Foot io env.locals
  fresh : W.base.get? env.locals = none
  loc : ∃ mp, h.Ns env.locals mp ∧ ∀ (i : Nat) (x : Str) (v : V), vis[i]? = some (some x) → r[i]? = some (some v) → env.kindOf x = some .local → ∃ u, mp x = some u ∧ VR W h io v u
  cel : ∀ (i : Nat) (x : Str) (v : V), vis[i]? = some (some x) → r[i]? = some (some v) → (env.kindOf x = some .cell ∨ env.kindOf x = some .free) → ∃ c u, env.cells.lookup x = some c ∧ h.IsCell c (some u) ∧ VR W h io v u
  cells : ∀ (x : Str) (c : Addr), env.cells.lookup x = some c → (∃ o, h.IsCell c o) ∧ W.base.get? c = none ∧ c ≠ env.locals
  celex : ∀ (i : Nat) (x : Str), vis[i]? = some (some x) → (env.kindOf x = some .cell ∨ env.kindOf x = some .free) → ∃ c, env.cells.lookup x = some c
  apart : ∀ (x y : Str) (c : Addr), env.cells.lookup x = some c → env.cells.lookup y = some c → x = y
  inj : ∀ (i j : Nat) (x : Str), vis[i]? = some (some x) → vis[j]? = some (some x) → i = j
  len : r.length = vis.length

noncomputable def FF (W : Wd) (h : Heap) (io : Io) (fs : List Env) : Prop :=
  ∀ env ∈ fs, env.scope.kind ≠ .module ∧ ∃ L o es n, env.frame = some L ∧ W.base.get? L = none ∧ ¬ Foot io L ∧ h.get? L = some o ∧ o.data = .dict es n

structure AR (A : Around) (fs : List Env) (n : Nat) : Prop where
  frames : A.frames = some fs
  depth : A.depth + 4 * n ≤ 900
  units : A.units + 40 * n + 400 ≤ 9000

noncomputable def Same (s s' : Shared) : Prop := s'.gens = s.gens ∧ s'.os = s.os
theorem Same.refl (s : Shared) : Same s s := ⟨rfl, rfl⟩
theorem Same.trans {a b c : Shared} (x : Same a b) (y : Same b c) : Same a c := ⟨y.1.trans x.1, y.2.trans x.2⟩

/-- the end of an expression -/
noncomputable def NP (W : Wd) (own fr : List Addr) (s : Shared) (io : Io) (m : MH) {α β : Type} (P : Heap → Io → α → β → Prop) (R : Res α) (u : β) (s' : Shared) : Prop :=
  ∃ v m' io', R = .ok v m' ∧ Step own fr s.heap io m s'.heap io' m' ∧ HR W s'.heap io' m' ∧ P s'.heap io' v u ∧ Same s s'
/-- what stays while an exception flies -/
noncomputable def Kp (W : Wd) (h0 : Heap) (io : Io) (fs : List Env) (g B : Heap) : Prop :=
  ∀ b o, g.get? b = some o → (Foot io b ∨ Solid o ∨ W.base.get? b = some o ∨ ((∃ o', h0.get? b = some o') ∧ b ∉ frs fs)) → B.get? b = some o
/-- an exception came from a callee, or it was made here -/
noncomputable def Fly (W : Wd) (fs : List Env) (h0 : Heap) (io : Io) (g : Heap) (a : Addr) (c : Nat) (h' : Heap) : Prop :=
  ∃ B, Kp W h0 io fs g B ∧ ((∃ a0, Heap.FlyingW B fs a (.ref (W.ca c)) a0 h' ∧ g.UpToSlots h') ∨ (∃ a0 L env, fs.head? = some env ∧ env.frame = some L ∧ Heap.HeldW B fs a (.ref (W.ca c)) a0 L h' ∧ g.UpToSlots h') ∨ (∃ args, B.StaysIn g ∧ g.FunFrames B fs ∧ Heap.MadeExcOf g h' a (.ref (W.ca c)) args))
/-- an exception that flies -/
noncomputable def XP (W : Wd) (own : List Addr) (fs : List Env) (s : Shared) (io : Io) (m : MH) {α : Type} (R : Res α) (e : Value) (s' : Shared) : Prop :=
  ∃ c m' io' a g, R = .exc c m' ∧ e = .ref a ∧ Step own (frs fs) s.heap io m g io' m' ∧ HR W g io' m' ∧ Fly W fs s.heap io' g a c s'.heap ∧ Same s s'

noncomputable abbrev VP (W : Wd) : Heap → Io → V → Value → Prop := fun h io v u => VR W h io v u
noncomputable abbrev VsP (W : Wd) : Heap → Io → List V → List Value → Prop := fun h io v u => VRs W h io v u
noncomputable abbrev BP : Heap → Io → Bool → Bool → Prop := fun _ _ b c => b = c

section
variable {W : Wd} {h h' : Heap} {io io' : Io} {m m' : MH} {own fr : List Addr} {env : Env} {vis : List (Option Str)} {r : Lo} {fs : List Env} {s s' : Shared}

theorem ns_slots {h h' : Heap} {L : Addr} {mp : Str → Option Value} (x : h.Ns L mp) (k : ∀ o, h.get? L = some o → ∃ sl, h'.get? L = some { o with slots := sl }) : h'.Ns L mp := by
  refine hide fun GOAL hGOAL => ?_
  obtain ⟨o, es, ep, ho, hd, r⟩ := x
  refine hGOAL ?_
  clear hGOAL GOAL
  obtain ⟨sl, e⟩ := k o ho
  exact ⟨_, es, ep, e, hd, r⟩
theorem cell_slots {h h' : Heap} {c : Addr} {v : Option Value} (x : h.IsCell c v) (k : ∀ o, h.get? c = some o → ∃ sl, h'.get? c = some { o with slots := sl }) : h'.IsCell c v := by
  refine hide fun GOAL hGOAL => ?_
  obtain ⟨o, ho, hd⟩ := x
  refine hGOAL ?_
  clear hGOAL GOAL
  obtain ⟨sl, e⟩ := k o ho
  exact ⟨_, e, hd⟩

theorem FR.step (F : FR W h io env vis r) (H : HR W h io m) (x : Step own fr h io m h' io' m') (hL : env.locals ∉ own) (hc : ∀ y c, env.cells.lookup y = some c → c ∉ own) : FR W h' io' env vis r := by
  have sc : ∀ y c, env.cells.lookup y = some c → ∀ o, h.get? c = some o → ∃ sl, h'.get? c = some { o with slots := sl } := fun y c hy o ho => by
    refine hide fun GOAL hGOAL => ?_
    obtain ⟨⟨v, oc, hoc, hd⟩, _⟩ := F.cells y c hy
    refine hGOAL ?_
    clear hGOAL GOAL
    refine x.slots c o ho ?_ (hc y c hy)
    exact H.nofoot_of_cell hoc hd
  refine hide fun GOAL hGOAL => ?_
  obtain ⟨mp, hn, hl⟩ := F.loc
  refine hGOAL ?_
  clear hGOAL GOAL
  refine hide fun GOAL hGOAL => ?_
  obtain ⟨oL, _, _, hoL, _⟩ := id hn
  refine hGOAL ?_
  clear hGOAL GOAL
  refine ⟨F.kind, F.glob, F.blt, x.nofoot hoL F.nofoot, F.fresh, ⟨mp, ns_slots hn fun o ho => x.slots _ o ho F.nofoot hL, fun i y v h1 h2 h3 => ?_⟩, fun i y v h1 h2 h3 => ?_, fun y c hy => ?_, F.celex, F.apart, F.inj, F.len⟩
  · refine hide fun GOAL hGOAL => ?_
    obtain ⟨u, e, k⟩ := hl i y v h1 h2 h3
    refine hGOAL ?_
    clear hGOAL GOAL
    exact ⟨u, e, k.step x⟩
  · refine hide fun GOAL hGOAL => ?_
    obtain ⟨c, u, e, k1, k2⟩ := F.cel i y v h1 h2 h3
    refine hGOAL ?_
    clear hGOAL GOAL
    exact ⟨c, u, e, cell_slots k1 (sc y c e), k2.step x⟩
  · refine hide fun GOAL hGOAL => ?_
    obtain ⟨⟨o, k1⟩, k2, k3⟩ := F.cells y c hy
    refine hGOAL ?_
    clear hGOAL GOAL
    exact ⟨⟨o, cell_slots k1 (sc y c hy)⟩, k2, k3⟩
theorem FR.step0 (F : FR W h io env vis r) (H : HR W h io m) (x : Step [] fr h io m h' io' m') : FR W h' io' env vis r := F.step H x (fun q => nomatch q) fun _ _ _ q => nomatch q

theorem FF.step (F : FF W h io fs) (x : Step own fr h io m h' io' m') (ho : ∀ L ∈ frs fs, L ∉ own) : FF W h' io' fs := by
  intro env he
  refine hide fun GOAL hGOAL => ?_
  obtain ⟨hk, L, o, es, n, h1, h2, h3, h4, h5⟩ := F env he
  refine hGOAL ?_
  clear hGOAL GOAL
  obtain ⟨sl, e⟩ := x.slots L o h4 h3 (ho L (List.mem_filterMap.mpr ⟨env, he, h1⟩))
  exact ⟨hk, L, _, es, n, h1, h2, x.nofoot h4 h3, e, h5⟩
theorem FF.step0 (F : FF W h io fs) (x : Step [] fr h io m h' io' m') : FF W h' io' fs := F.step x fun _ _ q => nomatch q
theorem FF.funFrames (F : FF W h io fs) : h.FunFrames W.base fs := by
  induction fs with
  | nil => trivial
  | cons env fs ih =>
    refine hide fun GOAL hGOAL => ?_
    obtain ⟨hk, L, o, es, n, h1, h2, h3, h4, h5⟩ := F env (.head _)
    refine hGOAL ?_
    clear hGOAL GOAL
    exact ⟨hk, ⟨L, o, h1, h2, h4, fun vs q => by rw [h5] at q; cases q⟩, ih fun e he => F e (.tail _ he)⟩

theorem AR.cline {A : Around} {n : Nat} (x : AR A fs n) : A.units + 400 < cLine := by have := x.units; simp only [cLine]; omega

/-- a first part's exception is the whole's -/
theorem XP.bind {α β : Type} {R : Res α} {f : α → Mn β} {e : Value} {s₁ : Shared} {io₁ : Io} {m₁ : MH} (x : XP W own fs s₁ io₁ m₁ R e s') (st : Step own (frs fs) s.heap io m s₁.heap io₁ m₁) (sm : Same s s₁) : XP W own fs s io m (R.bind f) e s' := by
  refine hide fun GOAL hGOAL => ?_
  obtain ⟨c, m', io', a, g, rfl, h2, h3, h4, ⟨B, h5, h6⟩, h7⟩ := x
  refine hGOAL ?_
  clear hGOAL GOAL
  exact ⟨c, m', io', a, g, rfl, h2, st.trans h3, h4, ⟨B, fun b o e q => h5 b o e (q.imp id (Or.imp id (Or.imp id fun ⟨⟨o', e'⟩, q⟩ => ⟨st.alive b o' e', q⟩))), h6⟩, sm.trans h7⟩
theorem XP.mono {α : Type} {R : Res α} {e : Value} {s₁ : Shared} {io₁ : Io} {m₁ : MH} (x : XP W own fs s₁ io₁ m₁ R e s') (st : Step own (frs fs) s.heap io m s₁.heap io₁ m₁) (sm : Same s s₁) : XP W own fs s io m R e s' := by
  refine hide fun GOAL hGOAL => ?_
  obtain ⟨c, m', io', a, g, rfl, h2, h3, h4, ⟨B, h5, h6⟩, h7⟩ := x
  refine hGOAL ?_
  clear hGOAL GOAL
  exact ⟨c, m', io', a, g, rfl, h2, st.trans h3, h4, ⟨B, fun b o e q => h5 b o e (q.imp id (Or.imp id (Or.imp id fun ⟨⟨o', e'⟩, q⟩ => ⟨st.alive b o' e', q⟩))), h6⟩, sm.trans h7⟩
theorem NP.mono {α β : Type} {P : Heap → Io → α → β → Prop} {R : Res α} {u : β} {s₁ : Shared} {io₁ : Io} {m₁ : MH} (x : NP W own fr s₁ io₁ m₁ P R u s') (st : Step own fr s.heap io m s₁.heap io₁ m₁) (sm : Same s s₁) : NP W own fr s io m P R u s' := by
  refine hide fun GOAL hGOAL => ?_
  obtain ⟨v, m', io', rfl, h2, h3, h4, h5⟩ := x
  refine hGOAL ?_
  clear hGOAL GOAL
  exact ⟨v, m', io', rfl, st.trans h2, h3, h4, sm.trans h5⟩

/-- a tree bears a meaning -/
noncomputable def Si (W : Wd) (own : List Addr) (A : Around) (fs : List Env) {α β : Type} (P : Heap → Io → α → β → Prop) (t : Sem β) (s : Shared) (io : Io) (m : MH) (R : Res α) : Prop :=
  R ≠ .bad → wpAny (model W.prog W.w) A t (NP W own (frs fs) s io m P R) (XP W own fs s io m R) s

section
variable {α α' β β' γ : Type} {A : Around} {P : Heap → Io → α → β → Prop} {P' : Heap → Io → α' → β' → Prop}
theorem Res.bind_ne {R : Res α} {f : α → Mn α'} (h : R.bind f ≠ .bad) : R ≠ .bad := fun q => h (by rw [q]; rfl)

/-- one after the other -/
theorem Si.bind {t : Sem β} {k : β → Sem β'} {R : Res α} {f : α → Mn α'} (x : Si W own A fs P t s io m R)
    (y : ∀ u s₁ io₁ m₁ v, R = .ok v m₁ → Step own (frs fs) s.heap io m s₁.heap io₁ m₁ → HR W s₁.heap io₁ m₁ → P s₁.heap io₁ v u → Same s s₁ → Si W own A fs P' (k u) s₁ io₁ m₁ (f v m₁)) :
    Si W own A fs P' (t >>= k) s io m (R.bind f) := by
  intro hne
  refine wpAny_bind (wpAny_mono (x (Res.bind_ne hne)) (fun u s₁ hp => ?_) fun e s₁ hp => hp.bind .refl (.refl _))
  refine hide fun GOAL hGOAL => ?_
  obtain ⟨v, m₁, io₁, rfl, st, hr, hp, sm⟩ := hp
  refine hGOAL ?_
  clear hGOAL GOAL
  exact wpAny_mono (y u s₁ io₁ m₁ v rfl st hr hp sm hne) (fun _ _ z => z.mono st sm) fun _ _ z => z.mono st sm
theorem Si.pure {u : β} {v : α} (H : HR W s.heap io m) (p : P s.heap io v u) : Si W own A fs P (Pure.pure u) s io m (.ok v m) :=
  fun _ => wpAny_pure ⟨v, m, io, rfl, .refl, H, p, .refl _⟩
theorem Si.bad {t : Sem β} : Si W own A fs P t s io m .bad := fun h => absurd rfl h
/-- a step that only turns the state without a word -/
theorem Si.standAt {pos : Pos} {k : Unit → Sem β} {R : Res α} (x : Si W own A fs P (k ()) s io m R) : Si W own A fs P (PySem.standAt pos >>= k) s io m R :=
  fun h => wpAny_bind (wpAny_standAt (x h))
theorem Si.holding {vs : List Value} {t : Sem β} {R : Res α} (x : Si W own A fs P t s io m R) : Si W own A fs P (holding vs t) s io m R := fun h => wpAny_holding (x h)
theorem wpAny_operate {M : Model} {A : Around} {E : Value → Shared → Prop} {s : Shared} {vs : List Value} {t : Sem Value} {Q : Value → Shared → Prop} (h : wpAny M A t Q E s) : wpAny M A (operate vs t) Q E s :=
  fun Γ p hΓ => by rw [Sem.wp_operate]; exact h Γ p hΓ
theorem Si.operate {vs : List Value} {t : Sem Value} {P : Heap → Io → α → Value → Prop} {R : Res α} (x : Si W own A fs P t s io m R) : Si W own A fs P (operate vs t) s io m R := fun h => wpAny_operate (x h)
end
end
end Mini

/-! An exception is noted in a frame. -/
namespace Mini
open PySem
section
variable {M : Model} {A : Around} {E : Value → Shared → Prop} {s : Shared} {W : Wd} {fs : List Env} {env : Env}
theorem looks_made {base h : Heap} {outer : List Env} {L e : Addr} {cls : Value} {args : List Value} {Q : Unit → Shared → Prop}
    (hfr : A.frames = some (env :: outer)) (hf : env.frame = some L) (hkb : base.StaysIn h) (hl : h.FunFrames base (env :: outer)) (hx : Heap.MadeExcOf h s.heap e cls args)
    (hQ : ∀ h' t, Heap.HeldW base (env :: outer) e cls (.ref t) L h' → s.heap.UpToSlots h' → Q () { s with heap := h' }) : wpAny M A (noteFrame (.ref e) env) Q E s := by
  refine hide fun GOAL hGOAL => ?_
  obtain ⟨t, he, htn, ht⟩ := hx.there
  refine hGOAL ?_
  clear hGOAL GOAL
  have fresh : ∀ b, h.get? b = none → base.get? b = none := fun b hb => by
    cases hq : base.get? b with
    | none => rfl
    | some o' => have := hkb b o' hq; rw [hb] at this; cases this
  unfold noteFrame
  simp only [hf]
  refine wpAny_bind (wpAny_field (x := .none) he rfl rfl ?_)
  rw [if_neg (by decide)]
  refine wpAny_entryW (a0 := .ref t) hfr (hl.of_keeps fun b o hb _ => ⟨o, hx.keeps b o hb, rfl⟩) hf he (fun b o hb => hx.keeps b o (hkb b o hb)) (fresh e hx.new) rfl (show 1 < 6 by decide) rfl fun h' hN => ?_
  refine hide fun GOAL hGOAL => ?_
  obtain ⟨k1, k2, k3, k4⟩ := hN
  refine hGOAL ?_
  clear hGOAL GOAL
  exact hQ h' t ⟨k1, fresh e hx.new, k2, k3⟩ k4
/-- the flight of a held one -/
theorem setFlight_held {base : Heap} {l : List Env} {e L L' : Addr} {cls a0 : Value} {Q : Unit → Shared → Prop} (R : Heap.HeldW base l e cls a0 L' s.heap)
    (h : ∀ h', Heap.HeldW base l e cls a0 L h' → s.heap.UpToSlots h' → Q () { s with heap := h' }) : wpAny M A (setFlight (.ref e) (some L)) Q E s := by
  refine hide fun GOAL hGOAL => ?_
  obtain ⟨hkb, hen, hl, oe, vs, T, oT, ts, he, hcls, hd, h1, hnT, hTe, hT, hdT, h3⟩ := R
  refine hGOAL ?_
  clear hGOAL GOAL
  have hsz3 : 3 < ts.size := (Array.getElem?_eq_some_iff.mp h3).1
  have other : ∀ b, b ≠ T → (s.heap.update T (Obj.mapFields (·.setIfInBounds 3 ((some L).elim Value.none fun f => rawInt f)))).get? b = s.heap.get? b :=
    fun b hb => Heap.get?_update_other _ _ (Ne.symm hb)
  have noRecord : ∀ b o, s.heap.get? b = some o → (∀ vs, o.data ≠ .fields vs) → b ≠ T := fun b o hb hnf q => by
    rw [q, hT] at hb; injection hb with hb; subst hb; exact hnf ts hdT
  unfold setFlight
  refine wpAny_bind (wpAny_field he hd h1 ?_)
  rw [if_pos (show (Value.ref T != Value.none) = true from by simp)]
  refine wpAny_setField hT hdT hsz3 (h _ ⟨fun b o hbo => (other b fun q => by rw [q, hnT] at hbo; cases hbo).trans (hkb b o hbo), hen,
    hl.of_keeps fun b o hb hnf => ⟨o, (other b (noRecord b o hb hnf)).trans hb, rfl⟩, ?_⟩ fun b o hb hnf => ⟨o.slots, (other b (noRecord b o hb hnf)).trans hb⟩)
  exact ⟨oe, vs, T, _, _, (other e (Ne.symm hTe)).trans he, hcls, hd, h1, hnT, hTe, Heap.get?_update_self _ hT (Obj.isFreed_of_fields (Obj.data_mapFields hdT _)), Obj.data_mapFields hdT _, by simp [hsz3]⟩
/-- however it came, it is noted -/
theorem note_any {h0 : Heap} {io : Io} {g : Heap} {a c : Nat} {Q : Unit → Shared → Prop} {L : Addr} (hA : A.frames = some (env :: fs)) (hf : env.frame = some L) (x : Fly W (env :: fs) h0 io g a c s.heap)
    (k : ∀ B h' a0, Kp W h0 io (env :: fs) g B → Heap.HeldW B (env :: fs) a (.ref (W.ca c)) a0 L h' → g.UpToSlots h' → Q () { s with heap := h' }) : wpAny M A (noteFrame (.ref a) env) Q E s := by
  refine hide fun GOAL hGOAL => ?_
  obtain ⟨B, kp, fly⟩ := x
  refine hGOAL ?_
  clear hGOAL GOAL
  rcases fly with ⟨a0, f1, f2⟩ | ⟨a0, L', env', f0, f0', f1, f2⟩ | ⟨args, f1, f2, f3⟩
  · exact wpAny_looks_onW hA hf f1 fun h' q1 q2 => k B h' a0 kp q1 (f2.trans q2)
  · cases f0
    rw [hf] at f0'; cases f0'
    exact wpAny_noteFrame_againW hf f1.2.2.2 (k B _ a0 kp f1 f2)
  · exact looks_made hA hf f1 f2 f3 fun h' t q1 q2 => k B h' _ kp q1 ((Heap.UpToSlots.of_keeps f3.keeps).trans q2)
/-- it comes back through a block of the frame's own -/
theorem noted_back {io : Io} {m : MH} {own : List Addr} {α : Type} {R : Res α} {e : Value} {s₀ : Shared} {L : Addr} (hA : A.frames = some (env :: fs)) (hf : env.frame = some L) (x : XP W own (env :: fs) s₀ io m R e s) :
    notedBy M A env (cameBackBy M A env (XP W own (env :: fs) s₀ io m R)) e s := by
  refine hide fun GOAL hGOAL => ?_
  obtain ⟨c, m', io', a, g, h1, rfl, st, Hg, fly, sm⟩ := x
  refine hGOAL ?_
  clear hGOAL GOAL
  refine note_any hA hf fly fun B h' a0 kp hh up => ?_
  refine hide fun GOAL hGOAL => ?_
  obtain ⟨oe, vs, T, oT, ts, he, hcls, hd, hv, _⟩ := id hh.2.2.2
  refine hGOAL ?_
  clear hGOAL GOAL
  unfold cameBackBy
  refine wpAny_bind (wpAny_field he hd hv ?_)
  rw [if_neg (show ¬ ((Value.ref T == Value.none) = true) from by simp)]
  rw [hf]
  first
    | refine wpAny_bind (wpAny_pure ?_)
    | skip
  refine setFlight_held (L := L) hh fun h₂ hh₂ up₂ => ?_
  exact ⟨c, m', io', a, g, h1, rfl, st, Hg, ⟨B, kp, .inr (.inl ⟨a0, L, env, rfl, hf, hh₂, up.trans up₂⟩)⟩, sm⟩
end
end Mini

namespace Mini
open PySem

theorem lid_eq : lid = 4194304 := rfl
section
variable {W : Wd} {own : List Addr} {A : Around} {fs : List Env} {s : Shared} {io : Io} {m : MH} {n : Nat}

/-! ## reading -/
theorem allO_cons {α β : Type} {g : α → Option β} {x : α} {xs : List α} {ds : List β} (h : allO g (x :: xs) = some ds) : ∃ d r, ds = d :: r ∧ g x = some d ∧ allO g xs = some r := by
  have h : (match g x, allO g xs with | some d, some ds => some (d :: ds) | _, _ => none) = some ds := h
  cases h1 : g x with
  | none => rw [h1] at h; cases h
  | some d =>
    cases h2 : allO g xs with
    | none => rw [h1, h2] at h; cases h
    | some r => rw [h1, h2] at h; cases h; exact ⟨d, r, rfl, rfl, rfl⟩

theorem readsAll_of {f : Nat} (one : ∀ (v : V) (u : Value) (d : PyData), rd f m v = some d → VR W s.heap io v u → (∃ as, Reads s.heap u d as) ∧ d.canLay0 = true ∧ d.depth ≤ f) : ∀ (xs : List V) (us : List Value) (ds : List PyData), allO (rd f m) xs = some ds → VRs W s.heap io xs us → (∃ as, ReadsAll s.heap us ds as) ∧ PyData.canLayAll0 ds = true ∧ PyData.depthAll ds ≤ f
  | [], us, ds, h, k => by
    cases k
    have h : some [] = some ds := h
    cases h
    exact ⟨⟨_, .nil⟩, rfl, by simp [PyData.depthAll]⟩
  | x :: xs, us, ds, h, k => by
    refine hide fun GOAL hGOAL => ?_
    obtain ⟨d, r, rfl, h1, h2⟩ := allO_cons h
    refine hGOAL ?_
    clear hGOAL GOAL
    cases k with
    | cons k1 k2 =>
      refine hide fun GOAL hGOAL => ?_
      obtain ⟨⟨as, r1⟩, c1, d1⟩ := one x _ d h1 k1
      refine hGOAL ?_
      clear hGOAL GOAL
      refine hide fun GOAL hGOAL => ?_
      obtain ⟨⟨bs, r2⟩, c2, d2⟩ := readsAll_of one xs _ r h2 k2
      refine hGOAL ?_
      clear hGOAL GOAL
      exact ⟨⟨_, .cons r1 r2⟩, by simp [PyData.canLayAll0, c1, c2], by simp only [PyData.depthAll]; omega⟩
theorem reads_of (H : HR W s.heap io m) : ∀ (f : Nat) (v : V) (u : Value) (d : PyData), rd f m v = some d → VR W s.heap io v u → (∃ as, Reads s.heap u d as) ∧ d.canLay0 = true ∧ d.depth ≤ f
  | 0, _, _, _, h, _ => nomatch (show none = some _ from h)
  | f + 1, v, u, d, h, k => by
    cases k with
    | none => have h : some PyData.none = some d := h; cases h; exact ⟨⟨_, .none⟩, rfl, by simp [PyData.depth]⟩
    | bool b => have h : some (PyData.bool b) = some d := h; cases h; exact ⟨⟨_, .bool b⟩, rfl, by simp [PyData.depth]⟩
    | int i t => have h : some (PyData.int i) = some d := h; cases h; exact ⟨⟨_, .int i t⟩, rfl, by simp [PyData.depth]⟩
    | str x t ok => have h : some (PyData.str x) = some d := h; cases h; exact ⟨⟨_, .str x t⟩, by simpa [PyData.canLay0] using ok, by simp [PyData.depth]⟩
    | tup h1 h4 =>
      have h := Option.map_eq_some_iff.mp (show (allO (rd f m) _).map PyData.tuple = some d from h)
      refine hide fun GOAL hGOAL => ?_
      obtain ⟨ds, hds, rfl⟩ := h
      refine hGOAL ?_
      clear hGOAL GOAL
      refine hide fun GOAL hGOAL => ?_
      obtain ⟨⟨as, hr⟩, hc, hd⟩ := readsAll_of (reads_of H f) _ _ ds hds h4
      refine hGOAL ?_
      clear hGOAL GOAL
      exact ⟨⟨_, .tuple h1 rfl rfl hr⟩, by simpa [PyData.canLay0] using hc, by simp only [PyData.depth]; omega⟩
    | ref h1 =>
      rename_i k a d'
      have h : (match m[k]? with | some (.list xs) => (allO (rd f m) xs).map PyData.list | _ => none) = some d := h
      split at h
      · rename_i xs hx
        simp only [Option.map_eq_some_iff] at h
        refine hide fun GOAL hGOAL => ?_
        obtain ⟨ds, hds, rfl⟩ := h
        refine hGOAL ?_
        clear hGOAL GOAL
        refine hide fun GOAL hGOAL => ?_
        obtain ⟨_, vs, n', g1, g4, _⟩ := H.obj _ _ _ h1 hx
        refine hGOAL ?_
        clear hGOAL GOAL
        refine hide fun GOAL hGOAL => ?_
        obtain ⟨⟨as, hr⟩, hc, hd⟩ := readsAll_of (reads_of H f) _ _ ds hds g4
        refine hGOAL ?_
        clear hGOAL GOAL
        exact ⟨⟨_, .list g1 rfl rfl hr⟩, by simpa [PyData.canLay0] using hc, by simp only [PyData.depth]; omega⟩
      · cases h
    | fn k => exact nomatch (show none = some d from h)
    | exc _ _ _ => exact nomatch (show none = some d from h)
    | scr _ _ _ _ _ => exact nomatch (show none = some d from h)

/-- a bool's value -/
noncomputable abbrev BV : Heap → Io → Bool → Value → Prop := fun _ _ b u => u = .bool b

theorem ne_zero_int (k : Nat) : ((k : Int) != 0) = (k != 0) := by
  rw [Bool.eq_iff_iff]; simp
theorem empty_of {xs : List V} {vs : Array Value} (e : vs.toList.length = xs.length) : (!vs.isEmpty) = !xs.isEmpty := by
  rw [Array.length_toList] at e
  cases xs with
  | nil => have : vs = #[] := Array.eq_empty_of_size_eq_zero e; subst this; rfl
  | cons x xs =>
    have : vs.isEmpty = false := by
      rw [Array.isEmpty_eq_false_iff]; intro q; subst q; simp at e
    rw [this]; rfl
theorem truth_sim (H : HR W s.heap io m) {v : V} {u : Value} (k : VR W s.heap io v u) : Si W own A fs BP (truthy u) s io m (truth v m) := by
  cases k with
  | none => exact fun _ => wpAny_pure (a := false) ⟨false, m, io, rfl, .refl, H, rfl, .refl _⟩
  | bool b => exact fun _ => wpAny_truthy_bool ⟨b, m, io, rfl, .refl, H, rfl, .refl _⟩
  | int i t => exact fun _ => P.truthy_int ⟨_, m, io, rfl, .refl, H, rfl, .refl _⟩
  | str x t ok =>
    simp only [truth]
    split
    · rename_i hl
      exact fun _ => P.truthy_str (by rw [lid_eq] at hl; omega) ⟨_, m, io, rfl, .refl, H, (ne_zero_int _).symm, rfl, rfl⟩
    · exact Si.bad
  | tup h1 h4 =>
    simp only [truth]
    split
    · rename_i hl
      have e := h4.length
      exact fun _ => PyProof.Rows.truthy_tuple ⟨_, h1, rfl, _, rfl⟩ (by rw [lid_eq] at hl; rw [Array.length_toList] at e; omega) ⟨_, m, io, rfl, .refl, H, (empty_of e).symm, rfl, rfl⟩
    · exact Si.bad
  | ref h1 =>
    simp only [truth]
    split
    · rename_i xs hx
      refine hide fun GOAL hGOAL => ?_
      obtain ⟨_, vs, n', g1, g4, g5⟩ := H.obj _ _ _ h1 hx
      refine hGOAL ?_
      clear hGOAL GOAL
      have e := g4.length
      exact fun _ => wpAny_truthy_list ⟨_, g1, rfl, _, rfl⟩ (by rw [lid_eq] at g5; rw [Array.length_toList] at e; omega) ⟨_, m, io, rfl, .refl, H, (empty_of e).symm, rfl, rfl⟩
    · exact Si.bad
  | fn k => exact Si.bad
  | exc _ _ _ => exact Si.bad
  | scr _ _ _ _ _ => exact Si.bad

/-! ## new objects -/
theorem push_keeps {h : Heap} (o : Obj) : ∀ b o', h.get? b = some o' → (h.push o).get? b = some o' := fun _ _ e => Heap.get?_push_of_some o e
theorem get_size (h : Heap) : h.get? h.objs.size = none := by
  cases q : h.get? h.objs.size with
  | none => rfl
  | some o => exact absurd (Heap.lt_size q) (Nat.lt_irrefl _)
theorem np_list {fr : List Addr} (H : HR W s.heap io m) {vs : Array Value} {xs : List V} {k tk : Nat} (hv : VRs W s.heap io xs vs.toList) (hl : xs.length ≤ lid) :
    NP W own fr s io m (VP W) (alloc (.list xs) m) (.ref s.heap.objs.size) { s with heap := s.heap.push (lstO vs k), toks := tk } := by
  have st : Step own fr s.heap io m (s.heap.push (lstO vs k)) (io ++ [(s.heap.objs.size, s.heap.objs.size)]) (m ++ [.list xs]) := step_alloc H (push_keeps _) (get_size _) (get_size _)
  refine ⟨_, _, _, rfl, st, H.alloc (push_keeps _) (get_size _) (get_size _) ⟨rfl, vs, k, Heap.get?_push_size _ rfl, hv.step st, hl⟩, .ref (d := s.heap.objs.size) ?_, rfl, rfl⟩
  rw [← H.len]; simp
theorem np_tup {fr : List Addr} (H : HR W s.heap io m) {vs : Array Value} {xs : List V} {k tk : Nat} (hv : VRs W s.heap io xs vs.toList) :
    NP W own fr s io m (VP W) (.ok (.tup xs) m) (.ref s.heap.objs.size) { s with heap := s.heap.push (tupO vs k), toks := tk } := by
  have st : Step own fr s.heap io m (s.heap.push (tupO vs k)) io m := .of_keeps H (push_keeps _)
  exact ⟨_, _, _, rfl, st, H.of_keeps (push_keeps _), .tup (Heap.get?_push_size _ rfl) (hv.step st), rfl, rfl⟩
theorem np_val {fr : List Addr} (H : HR W s.heap io m) {v : V} {u : Value} {tk : Nat} (hv : VR W s.heap io v u) : NP W own fr s io m (VP W) (.ok v m) u { s with toks := tk } :=
  ⟨v, m, io, rfl, .refl, H, hv, rfl, rfl⟩
theorem np_dict {fr : List Addr} (H : HR W s.heap io m) {k tk : Nat} :
    NP W own fr s io m (VP W) (alloc (.dict [] 0) m) (.ref s.heap.objs.size) { s with heap := s.heap.push (dictO [] k), toks := tk } := by
  have st : Step own fr s.heap io m (s.heap.push (dictO [] k)) (io ++ [(s.heap.objs.size, s.heap.objs.size)]) (m ++ [.dict [] 0]) := step_alloc H (push_keeps _) (get_size _) (get_size _)
  refine ⟨_, _, _, rfl, st, H.alloc (push_keeps _) (get_size _) (get_size _) ⟨rfl, _, _, k, Heap.get?_push_size _ rfl, ⟨rfl, rfl, rfl⟩, rfl, .nil, .nil, by simp [lid]⟩, .ref (d := s.heap.objs.size) ?_, rfl, rfl⟩
  rw [← H.len]; simp

theorem strOk_append {x y : Str} (hx : PyData.strOk x = true) (hy : PyData.strOk y = true) : PyData.strOk (x ++ y) = true := by
  unfold PyData.strOk at *
  rw [Str.cps_append]
  simp only [Array.all_append, hx, hy, Bool.and_self]

theorem sizeLine_lid {k : Nat} (h : k ≤ lid) : k ≤ sizeLine := by rw [lid_eq] at h; show k ≤ 2 ^ 24; omega

/-! ## operators -/
theorem bits_small {i : Int} (h : i.natAbs < 1073741824) : Builtin.Int.intBits i ≤ 64 := by
  unfold Builtin.Int.intBits
  split
  · omega
  · rename_i h0
    have h1 : i.natAbs ≠ 0 := by
      intro q
      have : i = 0 := by omega
      subst this; simp at h0
    have := (Nat.log2_lt h1 (k := 30)).mpr (by omega)
    omega
theorem bin_cases {Pr : Operator → V → V → Prop} (a1 : ∀ i j, Pr .Add (.int i) (.int j)) (a2 : ∀ i j, Pr .Sub (.int i) (.int j)) (a3 : ∀ i j, Pr .Mult (.int i) (.int j)) (a4 : ∀ i j, Pr .FloorDiv (.int i) (.int j)) (a5 : ∀ i j, Pr .Mod (.int i) (.int j))
    (a6 : ∀ x y, Pr .Add (.str x) (.str y)) (a8 : ∀ p q, Pr .Add (.ref p) (.ref q)) (bad : ∀ op a b, binV op a b = (fun _ => .bad) → Pr op a b) (op : Operator) (a b : V) : Pr op a b := by
  cases op <;> first | (exact bad _ _ _ rfl) | skip
  all_goals cases a <;> first | (exact bad _ _ _ rfl) | skip
  all_goals cases b <;> first | (exact a1 _ _) | (exact a2 _ _) | (exact a3 _ _) | (exact a4 _ _) | (exact a5 _ _) | (exact a6 _ _) | (exact a8 _ _) | (exact bad _ _ _ rfl)
theorem bin_sim (H : HR W s.heap io m) {op : Operator} {v x : V} {u y : Value} (k : VR W s.heap io v u) (l : VR W s.heap io x y) :
    Si W own A fs (VP W) (binaryOp op u y) s io m (binV op v x m) := by
  revert k l
  refine bin_cases (Pr := fun op v x => VR W s.heap io v u → VR W s.heap io x y → Si W own A fs (VP W) (binaryOp op u y) s io m (binV op v x m)) ?_ ?_ ?_ ?_ ?_ ?_ ?_ ?_ op v x
  · intro i j k l; cases k; cases l; exact fun _ => P.add_int (np_val H (.int _ _))
  · intro i j k l; cases k; cases l; exact fun _ => P.sub_int (np_val H (.int _ _))
  · intro i j k l; cases k; cases l
    show Si W own A fs (VP W) _ s io m (if i.natAbs < 1073741824 ∨ j.natAbs < 1073741824 then .ok (.int (i * j)) m else .bad)
    split
    · rename_i hc
      intro _
      refine P.mul_int (np_val H (.int _ _)) ?_
      rcases hc with hc | hc
      · exact IntMulOk.of_left (bits_small hc)
      · exact IntMulOk.of_right (bits_small hc)
    · exact Si.bad
  · intro i j k l; cases k; cases l
    show Si W own A fs (VP W) _ s io m (if 0 < j ∧ j.natAbs < 1073741824 then .ok (.int (i / j)) m else .bad)
    split
    · rename_i hj
      rw [← Int.fdiv_eq_ediv_of_nonneg _ (Int.le_of_lt hj.1)]
      exact fun _ => PyProof.Rows.floordiv_int (Int.ne_of_gt hj.1) (np_val H (.int _ _)) (.inl (PyProof.noPylong_small hj.2))
    · exact Si.bad
  · intro i j k l; cases k; cases l
    show Si W own A fs (VP W) _ s io m (if 0 < j then .ok (.int (i % j)) m else .bad)
    split
    · rename_i hj
      rw [← Int.fmod_eq_emod_of_nonneg _ (Int.le_of_lt hj)]
      exact fun _ => PyProof.Rows.mod_int (Int.ne_of_gt hj) (np_val H (.int _ _))
    · exact Si.bad
  · intro x y k l
    cases k with | str _ _ k1 => cases l with | str _ _ l1 =>
    show Si W own A fs (VP W) _ s io m (if x.length + y.length ≤ lid then .ok (.str (x ++ y)) m else .bad)
    split
    · rename_i hl
      exact fun _ => PyProof.Rows.add_str (fun t' tk => np_val H (.str _ _ (strOk_append k1 l1))) (sizeLine_lid hl)
    · exact Si.bad
  · intro p q k l
    cases k with | ref h1 => cases l with | ref g1 =>
    show Si W own A fs (VP W) _ s io m (match m[p]?, m[q]? with | some (.list x), some (.list y) => if x.length + y.length ≤ lid then alloc (.list (x ++ y)) m else .bad | _, _ => .bad)
    split
    · rename_i x y hx hy
      refine hide fun GOAL hGOAL => ?_
      obtain ⟨_, vs, n', a1, a4, a5⟩ := H.obj _ _ _ h1 hx
      refine hGOAL ?_
      clear hGOAL GOAL
      refine hide fun GOAL hGOAL => ?_
      obtain ⟨_, ws, n2, b1, b4, b5⟩ := H.obj _ _ _ g1 hy
      refine hGOAL ?_
      clear hGOAL GOAL
      split
      · rename_i hl
        have e1 := a4.length
        have e2 := b4.length
        rw [Array.length_toList] at e1 e2
        exact fun _ => P.add_list a1 b1 (np_list H (by rw [Array.toList_append]; exact a4.append b4) (by simpa using hl)) (sizeLine_lid (by omega))
      · exact Si.bad
    · exact Si.bad
  · intro op a b e k l; rw [e]; exact Si.bad

theorem np_bool {fr : List Addr} (H : HR W s.heap io m) {b : Bool} {tk : Nat} : NP W own fr s io m BV (.ok b m) (.bool b) { s with toks := tk } := ⟨b, m, io, rfl, .refl, H, rfl, rfl, rfl⟩

/-- «not in» by «in» -/
theorem notIn_of_in {M : Model} {A : Around} {E : Value → Shared → Prop} {s : Shared} {a b : Value} {Q : Value → Shared → Prop} (h : wpAny M A (compareOp .In a b) (fun v s' => ∃ c, v = .bool c ∧ Q (.bool (!c)) s') E s) :
    wpAny M A (compareOp .NotIn a b) Q E s := by
  intro Γ p hΓ
  have h1 := h Γ p hΓ
  show Sem.wp M Γ (contains b a >>= fun c => pure (Value.bool (!c))) _ _ p s
  have h2 : Sem.wp M Γ (contains b a >>= fun c => pure (Value.bool c)) (fun v _ s' => ∃ c, v = .bool c ∧ Q (.bool (!c)) s') (fun e _ s' => E e s') p s := h1
  rw [Sem.wp_bind'] at h2 ⊢
  refine Sem.wp_mono M Γ _ (fun c p' s' h' => ?_) (fun _ _ _ x => x) p s h2
  refine hide fun GOAL hGOAL => ?_
  obtain ⟨c', e, q⟩ := h'
  refine hGOAL ?_
  clear hGOAL GOAL
  cases e
  exact q

/-- the turned word from the plain one -/
theorem Si.not {t t' : Sem Value} {R : Res Bool} (x : Si W own A fs BV t s io m R)
    (k : ∀ (E : Value → Shared → Prop) (Q : Value → Shared → Prop), wpAny (model W.prog W.w) A t (fun v s' => ∃ c, v = .bool c ∧ Q (.bool (!c)) s') E s → wpAny (model W.prog W.w) A t' Q E s) : Si W own A fs BV t' s io m (R.bind fun c => ret (!c)) := by
  intro hne
  refine k _ _ (wpAny_mono (x (Res.bind_ne hne)) (fun u s' p => ?_) fun e s' p => p.bind .refl (.refl _))
  refine hide fun GOAL hGOAL => ?_
  obtain ⟨v, m', io', rfl, a1, a2, a3, a4⟩ := p
  refine hGOAL ?_
  clear hGOAL GOAL
  exact ⟨v, a3, _, m', io', rfl, a1, a2, rfl, a4⟩

end
end Mini

namespace Mini
open PySem

noncomputable def mixIs : Sum Int Str → Value → Bool
  | .inl i, v => Value.isInt i v
  | .inr x, v => Value.isStrOf x v
theorem mixIs_shape {k : Sum Int Str} {v : Value} (h : mixIs k v = true) : (∃ i t, k = .inl i ∧ v = .int i t) ∨ (∃ x t, k = .inr x ∧ v = .str x t) := by
  cases k with
  | inl j => obtain ⟨u, e⟩ := Value.isInt_shape (k := j) (v := v) h; exact .inl ⟨j, u, rfl, e⟩
  | inr x => obtain ⟨u, e⟩ := Value.isStrOf_shape (x := x) (v := v) h; exact .inr ⟨x, u, rfl, e⟩
theorem mix_eqBool {prog : Program} {w : World} {A : Around} {E : Value → Shared → Prop} {s : Shared} {a b : Sum Int Str} {u v : Value} {Q : Bool → Shared → Prop} (hu : mixIs a u = true) (hv : mixIs b v = true) (h : Q (decide (a = b)) s) :
    wpAny (model prog w) A (PySem.eqBool u v) Q E s := by
  rcases mixIs_shape hu with ⟨i, t, rfl, rfl⟩ | ⟨x, t, rfl, rfl⟩ <;> rcases mixIs_shape hv with ⟨j, t', rfl, rfl⟩ | ⟨y, t', rfl, rfl⟩
  · have e : decide (Sum.inl (β := Str) i = .inl j) = (i == j) := by
      by_cases q : i = j <;> simp [q]
    rw [e] at h
    exact wpAny_eqBool_int h
  · have e : decide (Sum.inl (β := Str) i = .inr y) = false := by simp
    rw [e] at h
    unfold eqBool
    show wpAny _ _ (richCompare .Eq (Value.int i t) (Value.str y t') >>= truthOfDropped) Q E s
    exact wpAny_bind (EqMixed.eq_int_str (wpAny_truthy_bool h))
  · have e : decide (Sum.inr (α := Int) x = .inl j) = false := by simp
    rw [e] at h
    unfold eqBool
    show wpAny _ _ (richCompare .Eq (Value.str x t) (Value.int j t') >>= truthOfDropped) Q E s
    exact wpAny_bind (EqMixed.eq_str_int (wpAny_truthy_bool h))
  · have e : decide (Sum.inr (α := Int) x = .inr y) = decide (x = y) := by
      by_cases q : x = y <;> simp [q]
    rw [e] at h
    exact wpAny_eqBool_str h
theorem mix_hash {prog : Program} {w : World} {A : Around} {E : Value → Shared → Prop} {s : Shared} {k : Sum Int Str} {v : Value} {Q : Int → Shared → Prop} (hv : mixIs k v = true) (h : Q (atHash w k) { s with toks := s.toks + 1 }) :
    wpAny (model prog w) A (PySem.pyHash v) Q E s := by
  rcases mixIs_shape hv with ⟨i, t, rfl, rfl⟩ | ⟨x, t, rfl, rfl⟩
  · exact wpAny_pyHash_int h
  · exact wpAny_pyHash_str h
theorem mix_inj (v : Value) (a b : Sum Int Str) (ha : mixIs a v = true) (hb : mixIs b v = true) : a = b := by
  rcases mixIs_shape ha with ⟨i, t, rfl, rfl⟩ | ⟨x, t, rfl, rfl⟩ <;> rcases mixIs_shape hb with ⟨j, u, rfl, e⟩ | ⟨y, u, rfl, e⟩ <;> cases e <;> rfl
theorem mix_byValue (k : Sum Int Str) (v : Value) (h : mixIs k v = true) : carriedByValue v = true := by
  rcases mixIs_shape h with ⟨i, t, rfl, rfl⟩ | ⟨x, t, rfl, rfl⟩ <;> rfl
theorem mix_strs (k : Sum Int Str) (x : Str) (t : Tok) (v : Value) (h : mixIs k (.str x t) = true) : mixIs k v = v.isStr x := by
  rcases mixIs_shape h with ⟨i, u, rfl, e⟩ | ⟨y, u, rfl, e⟩
  · cases e
  · cases e; cases v <;> rfl

noncomputable def mixKind (prog : Program) (w : World) : KeyKind prog w (Sum Int Str) where
  is := mixIs
  hash := atHash w
  inj := mix_inj
  byValue := mix_byValue
  pyHash := mix_hash
  eqBool := mix_eqBool
  «strs» := mix_strs

section
variable {W : Wd} {h : Heap} {io : Io}

theorem itemsAre_of {ks : List (Sum Int Str)} {vs : List Value} (x : VRs W h io (ks.map fun x => match x with | .inl i => V.int i | .inr s => V.str s) vs) : ItemsAre (mixKind W.prog W.w) ks vs := by
  induction ks generalizing vs with
  | nil => cases x; exact .nil
  | cons k ks ih =>
    cases x with
    | cons h1 r =>
      refine .cons ?_ (ih r)
      cases k with
      | inl i => cases h1; simp [mixKind, mixIs, Value.isInt]
      | inr s => cases h1; simp [mixKind, mixIs, Value.isStrOf]
theorem tupKey_of {ks : List (Sum Int Str)} {u : Value} (x : VR W h io (Ky.tup ks).val u) : ∃ a, u = .ref a ∧ IsTupleKey (mixKind W.prog W.w) h ks a := by
  cases x with
  | tup h1 h2 => exact ⟨_, rfl, _, _, _, h1, rfl, rfl, itemsAre_of h2⟩

/-! ## dicts with keys that are carried by value -/
section
variable {K : Type} [DecidableEq K] (knd : KeyKind W.prog W.w K) (emb : K → Ky)
structure Emb : Prop where
  inj : ∀ a b, emb a = emb b → a = b
  is : ∀ {h : Heap} {io : Io} k u, VR W h io (emb k).val u → knd.is k u = true
  hash : ∀ k, kyHash W.w (emb k) = knd.hash k
  back : ∀ {h h' : Heap} {io : Io} k u, VR W h io (emb k).val u → VR W h' io (emb k).val u

variable {knd emb}
theorem ERs.keysOf (E : Emb knd emb) {kvs : List (Ky × V)} {es : List DictEntry} (x : ERs W h io kvs es) (hk : ∀ p ∈ kvs, ∃ k, p.1 = emb k) : ∀ e ∈ es, ∃ k, knd.is k e.key = true ∧ e.hash = knd.hash k := by
  induction x with
  | nil => intro e he; cases he
  | cons h1 h2 _ ih =>
    intro e he
    cases he with
    | head =>
      obtain ⟨k, e⟩ := hk _ (.head _)
      simp only at e
      subst e
      exact ⟨k, E.is k _ h1, E.hash k⟩
    | tail _ he => exact ih (fun p hp => hk p (.tail _ hp)) e he

theorem ERs.find (E : Emb knd emb) {kvs : List (Ky × V)} {es : List DictEntry} (x : ERs W h io kvs es) (hk : ∀ p ∈ kvs, ∃ k, p.1 = emb k) (k : K) :
    (∃ v u, look (emb k) kvs = some v ∧ (es.find? fun e => knd.is k e.key).map (·.val) = some u ∧ VR W h io v u) ∨ (look (emb k) kvs = none ∧ (es.find? fun e => knd.is k e.key).map (·.val) = none) := by
  induction x with
  | nil => exact .inr ⟨rfl, rfl⟩
  | @cons k' v key u kvs es h1 h2 _ ih =>
    obtain ⟨j, e⟩ := hk _ (.head _)
    simp only at e
    subst e
    have hj := E.is j _ h1
    by_cases q : j = k
    · subst q
      exact .inl ⟨v, u, by simp [look], by simp [List.find?, hj], h2⟩
    · have n1 : ¬ emb j = emb k := fun z => q (E.inj _ _ z)
      have n2 : knd.is k key = false := by
        cases z : knd.is k key with
        | false => rfl
        | true => exact absurd (knd.inj _ _ _ hj z) q
      simp only [look, n1, if_false, List.find?_cons, n2]
      exact ih fun p hp => hk p (.tail _ hp)

theorem ERs.mapOf (E : Emb knd emb) {kvs : List (Ky × V)} {a : Addr} {o : Obj} {es : Array DictEntry} {n : Nat} (h1 : h.get? a = some o) (h2 : o.ExactDict) (h3 : o.data = .dict es n) (x : ERs W h io kvs es.toList) (hk : ∀ p ∈ kvs, ∃ k, p.1 = emb k) :
    h.MapOf knd a (findBy knd.is es) := ⟨o, es, n, h1, h2, h3, fun e he => x.keysOf E hk e (Array.mem_toList_iff.mpr he), fun _ => rfl⟩
theorem ERs.findBy (E : Emb knd emb) {kvs : List (Ky × V)} {es : Array DictEntry} (x : ERs W h io kvs es.toList) (hk : ∀ p ∈ kvs, ∃ k, p.1 = emb k) (k : K) :
    (∃ v u, look (emb k) kvs = some v ∧ findBy knd.is es k = some u ∧ VR W h io v u) ∨ (look (emb k) kvs = none ∧ PySem.findBy knd.is es k = none) := by
  have := x.find E hk k
  unfold PySem.findBy
  obtain ⟨l⟩ := es
  rw [List.find?_toArray]
  exact this

/-- as pairs -/
theorem ERs.pairs (E : Emb knd emb) {kvs : List (Ky × V)} {es : List DictEntry} (x : ERs W h io kvs es) (hk : ∀ p ∈ kvs, ∃ k, p.1 = emb k) :
    ∃ l : List (K × Value), Pairs knd es l ∧ l.map (fun p => emb p.1) = kvs.map (·.1) ∧ VRs W h io (kvs.map (·.2)) (l.map (·.2)) := by
  induction x with
  | nil => exact ⟨[], .nil, rfl, .nil⟩
  | @cons k' v key u kvs es h1 h2 _ ih =>
    obtain ⟨j, e⟩ := hk _ (.head _)
    simp only at e
    subst e
    refine hide fun GOAL hGOAL => ?_
    obtain ⟨l, p1, p2, p3⟩ := ih fun p hp => hk p (.tail _ hp)
    refine hGOAL ?_
    clear hGOAL GOAL
    exact ⟨(j, u) :: l, .cons (E.is j _ h1) rfl p1, by simp [p2], .cons h2 p3⟩
end


/-! ## the pure dict -/
theorem look_put_none {k : Ky} {v : V} : ∀ {kvs : List (Ky × V)}, look k kvs = none → put k v kvs = kvs ++ [(k, v)]
  | [], _ => rfl
  | (k', v') :: r, h => by
    simp only [look] at h
    split at h
    · cases h
    · rename_i q
      simp only [put, q, if_false, List.cons_append, look_put_none h]
theorem look_none {k : Ky} : ∀ {kvs : List (Ky × V)}, look k kvs = none → ∀ p ∈ kvs, p.1 ≠ k
  | [], _, _, hp => nomatch hp
  | (k', v') :: r, h, p, hp => by
    simp only [look] at h
    split at h
    · cases h
    · rename_i q
      cases hp with
      | head => exact q
      | tail _ hp => exact look_none h p hp
theorem look_put_some {k : Ky} {v : V} : ∀ {kvs : List (Ky × V)} {u : V}, look k kvs = some u → (kvs.map (·.1)).Nodup → put k v kvs = kvs.map fun p => if p.1 = k then (p.1, v) else p
  | [], _, h, _ => by simp [look] at h
  | (k', v') :: r, u, h, hn => by
    simp only [List.map_cons, List.nodup_cons] at hn
    simp only [look] at h
    split at h
    · rename_i q
      subst q
      simp only [put, if_true, List.map_cons]
      congr 1
      have e : ∀ p ∈ r, (if p.1 = k' then (p.1, v) else p) = p := fun p hp => by
        rw [if_neg]; intro z; exact hn.1 (z ▸ List.mem_map_of_mem hp)
      rw [List.map_congr_left e, List.map_id']
    · rename_i q
      simp only [put, q, if_false, List.map_cons, look_put_some h hn.2]
theorem put_keys {k : Ky} {v : V} {kvs : List (Ky × V)} (hn : (kvs.map (·.1)).Nodup) : ((put k v kvs).map (·.1)).Nodup := by
  cases h : look k kvs with
  | none =>
    rw [look_put_none h, List.map_append]
    refine List.nodup_append.mpr ⟨hn, by simp, ?_⟩
    intro x hx y hy e
    refine hide fun GOAL hGOAL => ?_
    obtain ⟨p, hp, rfl⟩ := List.mem_map.mp hx
    refine hGOAL ?_
    clear hGOAL GOAL
    simp at hy
    subst hy
    exact look_none h p hp e
  | some u =>
    rw [look_put_some h hn, List.map_map]
    have e : ((fun x : Ky × V => x.1) ∘ fun p : Ky × V => if p.1 = k then (p.1, v) else p) = fun p => p.1 := by
      funext p; simp only [Function.comp]; split <;> rfl
    rw [e]; exact hn
theorem put_length {k : Ky} {v : V} : ∀ (kvs : List (Ky × V)), (put k v kvs).length ≤ kvs.length + 1
  | [] => by simp [put]
  | (k', v') :: r => by
    simp only [put]
    split
    · simp
    · simpa using put_length r

theorem toKey_val {x : V} {k : Ky} (h : toKey x = some k) : k.val = x := by
  cases x with
  | int i => simp [toKey] at h; subst h; rfl
  | tup xs =>
    simp only [toKey, Option.map_eq_some_iff] at h
    refine hide fun GOAL hGOAL => ?_
    obtain ⟨ks, hks, rfl⟩ := h
    refine hGOAL ?_
    clear hGOAL GOAL
    refine congrArg V.tup ?_
    induction xs generalizing ks with
    | nil => have hks : some [] = some _ := hks; cases hks; rfl
    | cons x xs ih =>
      refine hide fun GOAL hGOAL => ?_
      obtain ⟨d, r, rfl, h1, h2⟩ := allO_cons hks
      refine hGOAL ?_
      clear hGOAL GOAL
      simp only [List.map_cons, List.cons.injEq]
      refine ⟨?_, ih r h2⟩
      cases x <;> simp [atom] at h1 <;> subst h1 <;> rfl
  | _ => simp [toKey] at h

theorem sorted1_all {k : Ky} {kvs : List (Ky × V)} (h : sorted1 k kvs = true) : ∀ p ∈ kvs, p.1.sort = k.sort := fun p hp => by
  have := List.all_eq_true.mp h p hp
  simpa using this

theorem intEmb : Emb (W := W) (intKind W.prog W.w) Ky.int where
  inj := fun a b e => by cases e; rfl
  is := fun k u x => by cases x; simp [intKind, Value.isInt]
  hash := fun _ => rfl
  back := fun k u x => by cases x; exact .int _ _
theorem sort_int {kvs : List (Ky × V)} {i : Int} (h : sorted1 (.int i) kvs = true) : ∀ p ∈ kvs, ∃ k, p.1 = Ky.int k := fun p hp => by
  have := sorted1_all h p hp
  cases q : p.1 with
  | int k => exact ⟨k, rfl⟩
  | _ => rw [q] at this; simp [Ky.sort] at this
theorem sort_tup {kvs : List (Ky × V)} {i : List (Sum Int Str)} (h : sorted1 (.tup i) kvs = true) : ∀ p ∈ kvs, ∃ k, p.1 = Ky.tup k := fun p hp => by
  have := sorted1_all h p hp
  cases q : p.1 with
  | tup k => exact ⟨k, rfl⟩
  | _ => rw [q] at this; simp [Ky.sort] at this

/-! ## tuples as keys -/
noncomputable abbrev TK := List (Sum Int Str) × Addr × Value
noncomputable abbrev tkd (W : Wd) := tupleKind (mixKind W.prog W.w)
theorem ERs.heapKeys {kvs : List (Ky × V)} {es : List DictEntry} (x : ERs W h io kvs es) (hk : ∀ p ∈ kvs, ∃ k, p.1 = Ky.tup k) :
    ∃ l : List TK, es = l.map (entryOfKey (tkd W)) ∧ (∀ y ∈ l, (tkd W).is h y.1 y.2.1) ∧ l.map (fun p => Ky.tup p.1) = kvs.map (·.1) ∧ VRs W h io (kvs.map (·.2)) (l.map (·.2.2)) ∧ (∀ y ∈ l, VR W h io (Ky.tup y.1).val (.ref y.2.1)) := by
  induction x with
  | nil => exact ⟨[], rfl, (fun _ h => nomatch h), rfl, .nil, fun _ h => nomatch h⟩
  | @cons k' v key u kvs es h1 h2 _ ih =>
    obtain ⟨j, e⟩ := hk _ (.head _)
    simp only at e
    subst e
    refine hide fun GOAL hGOAL => ?_
    obtain ⟨l, p1, p2, p3, p4, p5⟩ := ih fun p hp => hk p (.tail _ hp)
    refine hGOAL ?_
    clear hGOAL GOAL
    refine hide fun GOAL hGOAL => ?_
    obtain ⟨a, rfl, ka⟩ := tupKey_of h1
    refine hGOAL ?_
    clear hGOAL GOAL
    refine ⟨(j, a, u) :: l, by rw [p1]; rfl, fun y hy => ?_, by simp [p3], .cons h2 p4, fun y hy => ?_⟩
    · cases hy with
      | head => exact ka
      | tail _ hy => exact p2 y hy
    · cases hy with
      | head => exact h1
      | tail _ hy => exact p5 y hy
theorem atKey_look {k : List (Sum Int Str)} : ∀ {l : List TK} {kvs : List (Ky × V)}, l.map (fun p => Ky.tup p.1) = kvs.map (·.1) → VRs W h io (kvs.map (·.2)) (l.map (·.2.2)) →
    (∃ v a u, look (.tup k) kvs = some v ∧ atKey l k = some (a, u) ∧ VR W h io v u) ∨ (look (.tup k) kvs = none ∧ atKey l k = none)
  | [], kvs, e, _ => by
    have : kvs = [] := by cases kvs with | nil => rfl | cons => simp at e
    subst this
    exact .inr ⟨rfl, rfl⟩
  | (j, a, u) :: l, kvs, e, x => by
    cases kvs with
    | nil => simp at e
    | cons q kvs =>
      obtain ⟨k', v⟩ := q
      simp only [List.map_cons, List.cons.injEq] at e
      obtain ⟨e1, e2⟩ := e
      subst e1
      cases x with
      | cons x1 x2 =>
        by_cases z : j = k
        · subst z
          exact .inl ⟨v, a, u, by simp [look], by simp [atKey], x1⟩
        · have z' : ¬ Ky.tup j = Ky.tup k := fun w => z (by cases w; rfl)
          simp only [look, z', if_false]
          have : atKey ((j, a, u) :: l) k = atKey l k := by simp [atKey, z]
          rw [this]
          exact atKey_look e2 x2
theorem nodup_of_map {l : List TK} {kvs : List (Ky × V)} (e : l.map (fun p => Ky.tup p.1) = kvs.map (·.1)) (hn : (kvs.map (·.1)).Nodup) : (l.map (·.1)).Nodup := by
  rw [← e] at hn
  have : (l.map (·.1)).map Ky.tup = l.map fun p => Ky.tup p.1 := by rw [List.map_map]; rfl
  rw [← this] at hn
  exact List.Pairwise.of_map Ky.tup (fun a b h e => h (congrArg _ e)) hn
end

structure WOk (W : Wd) : Prop where
  sys : ∃ o, W.base.get? sysModules = some o
  nolimit : W.base.NoLimit

section
variable {W : Wd} {own : List Addr} {A : Around} {fs : List Env} {s : Shared} {io : Io} {m : MH} {n : Nat}
theorem HR.notSys (ok : WOk W) (H : HR W s.heap io m) {b : Addr} (f : Foot io b) : (b == sysModules) = false := by
  have h1 := H.fresh b f
  obtain ⟨o, ho⟩ := ok.sys
  cases q : b == sysModules with
  | false => rfl
  | true => rw [beq_iff_eq.mp q, ho] at h1; cases h1

theorem in_dict {E : Value → Shared → Prop} {Q : Value → Shared → Prop} (ok : WOk W) (H : HR W s.heap io m) (R : AR A fs n) {i : Nat} {p : Addr × Addr} {kvs : List (Ky × V)} {e : Nat} (hi : io[i]? = some p) (hm : m[i]? = some (.dict kvs e)) {x : V} {u : Value} (hx : VR W s.heap io x u) {k : Ky} (hk : toKey x = some k) (hs : sorted1 k kvs = true)
    (h : ∀ tk, Q (.bool (look k kvs).isSome) { s with toks := tk }) : wpAny (model W.prog W.w) A (compareOp .In u (.ref p.1)) Q E s := by
  refine hide fun GOAL hGOAL => ?_
  obtain ⟨_, o, es, n', g1, g2, g3, g4, g5, _⟩ := H.obj _ _ _ hi hm
  refine hGOAL ?_
  clear hGOAL GOAL
  have ns := H.notSys ok ⟨p, List.mem_of_getElem? hi, .inl rfl⟩
  have hv := toKey_val hk
  subst hv
  cases k with
  | int j =>
    have hh := sort_int hs
    refine wpAny_in_of (intEmb.is j u hx) ns (g4.mapOf intEmb g1 g2 g3 hh) ?_
    rcases g4.findBy intEmb hh j with ⟨v, u', e1, e2, _⟩ | ⟨e1, e2⟩
    · rw [e2]; have := h (s.toks + 1); rw [e1] at this; exact this
    · rw [e2]; have := h (s.toks + 1); rw [e1] at this; exact this
  | str j => cases hk
  | tup j =>
    have hh := sort_tup hs
    refine hide fun GOAL hGOAL => ?_
    obtain ⟨l, p1, p2, p3, p4, p5⟩ := g4.heapKeys hh
    refine hGOAL ?_
    clear hGOAL GOAL
    refine hide fun GOAL hGOAL => ?_
    obtain ⟨a, rfl, ka⟩ := tupKey_of hx
    refine hGOAL ?_
    clear hGOAL GOAL
    refine wpAny_in_heap (knd := tkd W) (xs := l) (k := j) (show A.in1.units < cLine by have := R.cline; simp only [Around.in1_units]; omega) ka ns ⟨o, es, n', g1, g2, g3, p1, p2, nodup_of_map p3 g5⟩ ?_
    rcases atKey_look (k := j) p3 p4 with ⟨v, a', u', e1, e2, _⟩ | ⟨e1, e2⟩
    · rw [e2]; have := h (s.toks + (tkd W).draws j); rw [e1] at this; exact this
    · rw [e2]; have := h (s.toks + (tkd W).draws j); rw [e1] at this; exact this

theorem get_dict {E : Value → Shared → Prop} {Q : Value → Shared → Prop} (H : HR W s.heap io m) (R : AR A fs n) {i : Nat} {p : Addr × Addr} {kvs : List (Ky × V)} {e : Nat} (hi : io[i]? = some p) (hm : m[i]? = some (.dict kvs e)) {x : V} {u : Value} (hx : VR W s.heap io x u) {k : Ky} (hk : toKey x = some k) (hs : sorted1 k kvs = true) {v : V} (hl : look k kvs = some v)
    (h : ∀ u' tk, VR W s.heap io v u' → Q u' { s with toks := tk }) : wpAny (model W.prog W.w) A (getItem (.ref p.1) u) Q E s := by
  refine hide fun GOAL hGOAL => ?_
  obtain ⟨_, o, es, n', g1, g2, g3, g4, g5, _⟩ := H.obj _ _ _ hi hm
  refine hGOAL ?_
  clear hGOAL GOAL
  have hv := toKey_val hk
  subst hv
  cases k with
  | int j =>
    have hh := sort_int hs
    rcases g4.findBy intEmb hh j with ⟨v', u', e1, e2, e3⟩ | ⟨e1, e2⟩
    · rw [hl] at e1; cases e1
      exact wpAny_getItem_of (intEmb.is j u hx) (g4.mapOf intEmb g1 g2 g3 hh) e2 (h _ _ e3)
    · rw [hl] at e1; cases e1
  | str j => cases hk
  | tup j =>
    have hh := sort_tup hs
    refine hide fun GOAL hGOAL => ?_
    obtain ⟨l, p1, p2, p3, p4, p5⟩ := g4.heapKeys hh
    refine hGOAL ?_
    clear hGOAL GOAL
    refine hide fun GOAL hGOAL => ?_
    obtain ⟨a, rfl, ka⟩ := tupKey_of hx
    refine hGOAL ?_
    clear hGOAL GOAL
    rcases atKey_look (k := j) p3 p4 with ⟨v', a', u', e1, e2, e3⟩ | ⟨e1, e2⟩
    · rw [hl] at e1; cases e1
      exact wpAny_getItem_heap (knd := tkd W) (xs := l) (k := j) (show A.in1.units < cLine by have := R.cline; simp only [Around.in1_units]; omega) ka ⟨o, es, n', g1, g2, g3, p1, p2, nodup_of_map p3 g5⟩ e2 (h _ _ e3)
    · rw [hl] at e1; cases e1

section
variable {h : Heap} {K : Type} [DecidableEq K] {knd : KeyKind W.prog W.w K} {emb : K → Ky}
theorem ERs.of_pairs (E : Emb knd emb) {es : List DictEntry} {l : List (K × Value)} {kvs : List (Ky × V)} (hk : ∀ e ∈ es, ∃ k, knd.is k e.key = true ∧ e.hash = knd.hash k) (hp : Pairs knd es l) (e : kvs.map (·.1) = l.map (fun p => emb p.1))
    (x : VRs W h io (kvs.map (·.2)) (l.map (·.2))) (hv : ∀ k u, emb k ∈ kvs.map (·.1) → knd.is k u = true → VR W h io (emb k).val u) : ERs W h io kvs es := by
  induction hp generalizing kvs with
  | nil =>
    have : kvs = [] := by cases kvs with | nil => rfl | cons => simp at e
    subst this; exact .nil
  | @cons en kv es l p1 p2 p3 ih =>
    cases kvs with
    | nil => simp at e
    | cons q kvs =>
      obtain ⟨k', v⟩ := q
      simp only [List.map_cons, List.cons.injEq] at e
      obtain ⟨e1, e2⟩ := e
      refine hide fun GOAL hGOAL => ?_
      obtain ⟨j, j1, j2⟩ := hk en (.head _)
      refine hGOAL ?_
      clear hGOAL GOAL
      have : j = kv.1 := knd.inj _ _ _ j1 p1
      subst this
      cases x with
      | cons x1 x2 =>
        refine hide fun GOAL hGOAL => ?_
        obtain ⟨hs, ky, vl⟩ := en
        refine hGOAL ?_
        clear hGOAL GOAL
        simp only at j1 j2 p1 p2
        subst j2 p2
        subst e1
        rw [← E.hash]
        exact .cons (hv _ _ (by simp) p1) x1 (ih (fun e he => hk e (.tail _ he)) e2 x2 fun k u hm hi => hv k u (by simp only [List.map_cons, List.mem_cons]; exact .inr hm) hi)
theorem any_key {l : List (K × Value)} {kvs : List (Ky × V)} (E : Emb knd emb) (e : kvs.map (·.1) = l.map fun p => emb p.1) (k : K) : l.any (fun kv => decide (kv.1 = k)) = (look (emb k) kvs).isSome := by
  induction l generalizing kvs with
  | nil =>
    have : kvs = [] := by cases kvs with | nil => rfl | cons => simp at e
    subst this; rfl
  | cons p l ih =>
    cases kvs with
    | nil => simp at e
    | cons q kvs =>
      obtain ⟨k', v⟩ := q
      simp only [List.map_cons, List.cons.injEq] at e
      obtain ⟨e1, e2⟩ := e
      subst e1
      by_cases z : p.1 = k
      · simp [z, look]
      · have z' : ¬ emb p.1 = emb k := fun w => z (E.inj _ _ w)
        simp only [List.any_cons, z, decide_false, Bool.false_or, look, z', if_false]
        exact ih e2
theorem stored_put (E : Emb knd emb) {l : List (K × Value)} {kvs : List (Ky × V)} (e : kvs.map (·.1) = l.map fun p => emb p.1) (x : VRs W h io (kvs.map (·.2)) (l.map (·.2))) (hn : (kvs.map (·.1)).Nodup) (k : K) {v : V} {u : Value} (y : VR W h io v u) :
    (put (emb k) v kvs).map (·.1) = (stored l k u).map (fun p => emb p.1) ∧ VRs W h io ((put (emb k) v kvs).map (·.2)) ((stored l k u).map (·.2)) := by
  unfold stored
  rw [any_key E e k]
  cases q : look (emb k) kvs with
  | none =>
    rw [look_put_none q, if_neg (by simp)]
    exact ⟨by simp [e], by simp only [List.map_append, List.map_cons, List.map_nil]; exact x.snoc y⟩
  | some z =>
    rw [look_put_some q hn, if_pos (by rfl)]
    clear q hn
    induction l generalizing kvs with
    | nil =>
      have : kvs = [] := by cases kvs with | nil => rfl | cons => simp at e
      subst this; exact ⟨rfl, .nil⟩
    | cons p l ih =>
      cases kvs with
      | nil => simp at e
      | cons q kvs =>
        obtain ⟨k', v'⟩ := q
        simp only [List.map_cons, List.cons.injEq] at e
        obtain ⟨e1, e2⟩ := e
        subst e1
        cases x with
        | cons x1 x2 =>
          obtain ⟨i1, i2⟩ := ih e2 x2
          by_cases w : p.1 = k
          · have w' : emb p.1 = emb k := by rw [w]
            simp only [List.map_cons, w, w', if_true]
            exact ⟨by rw [i1], .cons y i2⟩
          · have w' : ¬ emb p.1 = emb k := fun c => w (E.inj _ _ c)
            simp only [List.map_cons, w, w', if_false]
            exact ⟨by rw [i1], .cons x1 i2⟩
end

theorem sameBut_keeps {h h' : Heap} {d : Addr} (hs : Heap.SameBut d h h') : ∀ b o, b ≠ d → h.get? b = some o → h'.get? b = some o := fun b _ hb e => (hs.2 b hb).trans e

/-- what a store into a dict leaves -/
theorem np_setDict {fr : List Addr} (H : HR W s.heap io m) {i : Nat} {p : Addr × Addr} {kvs kvs' : List (Ky × V)} {e : Nat} (hi : io[i]? = some p) (hm : m[i]? = some (.dict kvs e)) {h' : Heap} {tk : Nat} (hs : Heap.SameBut p.1 s.heap h')
    {o' : Obj} {es' : Array DictEntry} {n' : Nat} (h1 : h'.get? p.1 = some o') (h2 : o'.ExactDict) (h3 : o'.data = .dict es' n') (h4 : Step own fr s.heap io m h' io (m.set i (.dict kvs' (e + 1))) → ERs W h' io kvs' es'.toList) (h5 : (kvs'.map (·.1)).Nodup) (h6 : kvs'.length ≤ lid) :
    NP W own fr s io m (fun _ _ (_ _ : Unit) => True) (.ok () (m.set i (.dict kvs' (e + 1)))) () { s with heap := h', toks := tk } := by
  obtain ⟨hpp, _⟩ := H.obj _ _ _ hi hm
  have hk : ∀ b o, b ≠ p.1 → b ≠ p.2 → s.heap.get? b = some o → h'.get? b = some o := fun b o q _ ho => sameBut_keeps hs b o q ho
  have hd : ∀ kv ep, MObj.dict kvs e = .dict kv ep → ∃ kvs2 e2, MObj.dict kvs' (e + 1) = .dict kvs2 e2 ∧ ep < e2 := fun kv ep q => by cases q; exact ⟨kvs', e + 1, rfl, by omega⟩
  have st : Step own fr s.heap io m h' io (m.set i (.dict kvs' (e + 1))) := step_set H hi hm hk ⟨_, h1⟩ ⟨_, hpp ▸ h1⟩ hd
  exact ⟨(), _, io, rfl, st, H.set hi hm hk hd ⟨_, h1⟩ ⟨_, hpp ▸ h1⟩ ⟨hpp, o', es', n', h1, h2, h3, h4 st, h5, h6⟩, trivial, rfl, rfl⟩

theorem vrs_putAt {h : Heap} {j : List (Sum Int Str)} {v : V} {y : Value} (hv : VR W h io v y) : ∀ {l : List TK} {kvs : List (Ky × V)}, l.map (fun p => Ky.tup p.1) = kvs.map (·.1) → VRs W h io (kvs.map (·.2)) (l.map (·.2.2)) →
    VRs W h io ((kvs.map fun p => if p.1 = Ky.tup j then (p.1, v) else p).map (·.2)) ((l.map (putAt j y)).map (·.2.2)) := by
  intro l
  induction l with
  | nil => intro kvs p3 _; have : kvs = [] := by { cases kvs with | nil => rfl | cons => simp at p3 }; subst this; exact .nil
  | cons q l ih =>
    intro kvs p3 p4
    cases kvs with
    | nil => simp at p3
    | cons r kvs =>
      obtain ⟨k', v'⟩ := r
      simp only [List.map_cons, List.cons.injEq] at p3
      obtain ⟨z1, z2⟩ := p3
      subst z1
      cases p4 with
      | cons x1 x2 =>
        simp only [List.map_cons]
        refine .cons ?_ (ih z2 x2)
        by_cases w : q.1 = j
        · simp only [w, if_true, putAt]; exact hv
        · have w' : ¬ Ky.tup q.1 = Ky.tup j := fun c => w (by cases c; rfl)
          simp only [w', if_false, putAt, w]; exact x1
theorem set_dict (H : HR W s.heap io m) (R : AR A fs n) {i : Nat} {p : Addr × Addr} {kvs : List (Ky × V)} {e : Nat} (hi : io[i]? = some p) (hm : m[i]? = some (.dict kvs e)) {x v : V} {u y : Value} (hx : VR W s.heap io x u) (hv : VR W s.heap io v y) {k : Ky} (hk : toKey x = some k) (hs : sorted1 k kvs = true) (hl : kvs.length < lid) :
    Si W own A fs (fun _ _ (_ _ : Unit) => True) (setItem (.ref p.1) u y) s io m (.ok () (m.set i (.dict (put k v kvs) (e + 1)))) := by
  refine hide fun GOAL hGOAL => ?_
  obtain ⟨_, o, es, n', g1, g2, g3, g4, g5, g6⟩ := H.obj _ _ _ hi hm
  refine hGOAL ?_
  clear hGOAL GOAL
  have hv' := toKey_val hk
  subst hv'
  have hl' : (put k v kvs).length ≤ lid := Nat.le_trans (put_length kvs) hl
  intro _
  cases k with
  | int j =>
    have hh := sort_int hs
    refine hide fun GOAL hGOAL => ?_
    obtain ⟨l, l1, l2, l3⟩ := g4.pairs intEmb hh
    refine hGOAL ?_
    clear hGOAL GOAL
    have ll : l.length = kvs.length := by have := congrArg List.length l2; simpa using this
    refine wpAny_setItem_pairs (kvs := l) (intEmb.is j u hx) ⟨o, es, n', g1, g2, g3, fun e he => g4.keysOf intEmb hh e (Array.mem_toList_iff.mpr he), l1, ?_⟩ (fun h' hd hsb => ?_) (sizeLine_lid (by omega))
    · refine List.Pairwise.of_map (S := (· ≠ ·)) Ky.int (fun a b h e => h (congrArg Ky.int e)) ?_
      rw [List.map_map]
      exact (by rw [← l2] at g5; exact g5)
    · refine hide fun GOAL hGOAL => ?_
      obtain ⟨o', es', n2, d1, d2, d3, d4, d5, d6⟩ := hd
      refine hGOAL ?_
      clear hGOAL GOAL
      refine np_setDict H hi hm hsb d1 d2 d3 (fun st => ?_) (put_keys g5) hl'
      obtain ⟨a1, a2⟩ := stored_put (W := W) intEmb l2.symm l3 g5 j hv
      exact ERs.of_pairs intEmb (fun e he => d4 e (Array.mem_toList_iff.mp he)) d5 a1 (a2.step st) fun k u _ hi => by
        obtain ⟨t, rfl⟩ := Value.isInt_shape (k := k) (v := u) hi; exact .int _ _
  | str j => cases hk
  | tup j =>
    have hh := sort_tup hs
    refine hide fun GOAL hGOAL => ?_
    obtain ⟨l, p1, p2, p3, p4, p5⟩ := g4.heapKeys hh
    refine hGOAL ?_
    clear hGOAL GOAL
    refine hide fun GOAL hGOAL => ?_
    obtain ⟨a, rfl, ka⟩ := tupKey_of hx
    refine hGOAL ?_
    clear hGOAL GOAL
    have ll : l.length = kvs.length := by have := congrArg List.length p3; simpa using this
    have lnd := nodup_of_map p3 g5
    refine wpAny_setItem_heap (knd := tkd W) (xs := l) (k := j) (show A.in1.units < cLine by have := R.cline; show A.units + 1 < cLine; omega) ka ⟨o, es, n', g1, g2, g3, p1, p2, lnd⟩ (fun h' hd hsb => ?_) (sizeLine_lid (by omega))
    refine hide fun GOAL hGOAL => ?_
    obtain ⟨o', es', n2, d1, d2, d3, d4, d5, d6⟩ := hd
    refine hGOAL ?_
    clear hGOAL GOAL
    refine np_setDict H hi hm hsb d1 d2 d3 (fun st => ?_) (put_keys g5) hl'
    rw [d4]
    have build : ∀ {l : List TK} {kvs : List (Ky × V)}, l.map (fun p => Ky.tup p.1) = kvs.map (·.1) → VRs W h' io (kvs.map (·.2)) (l.map (·.2.2)) → (∀ y ∈ l, VR W h' io (Ky.tup y.1).val (.ref y.2.1)) → ERs W h' io kvs (l.map (entryOfKey (tkd W))) := by
      intro l
      induction l with
      | nil => intro kvs e x _; have : kvs = [] := by { cases kvs with | nil => rfl | cons => simp at e }; subst this; exact .nil
      | cons q l ih =>
        intro kvs e x y
        cases kvs with
        | nil => simp at e
        | cons r kvs =>
          obtain ⟨k', v'⟩ := r
          simp only [List.map_cons, List.cons.injEq] at e
          obtain ⟨e1, e2⟩ := e
          subst e1
          cases x with
          | cons x1 x2 => exact .cons (y q (.head _)) x1 (ih e2 x2 fun z hz => y z (.tail _ hz))
    rcases atKey_look (k := j) p3 p4 with ⟨v', a', u', e1, e2, e3⟩ | ⟨e1, e2⟩
    · rw [storedH_old e2, look_put_some e1 g5]
      refine build ?_ ?_ ?_
      · rw [List.map_map, List.map_map]
        have f1 : ((fun p : TK => Ky.tup p.1) ∘ putAt j y) = fun p : TK => Ky.tup p.1 := by funext q; simp only [Function.comp, putAt]; split <;> rfl
        have f2 : ((fun p : Ky × V => p.1) ∘ fun p : Ky × V => if p.1 = Ky.tup j then (p.1, v) else p) = fun p => p.1 := by funext q; simp only [Function.comp]; split <;> rfl
        rw [f1, f2]; exact p3
      · exact vrs_putAt (hv.step st) p3 (p4.step st)
      · intro y' hy'
        refine hide fun GOAL hGOAL => ?_
        obtain ⟨z, hz, rfl⟩ := List.mem_map.mp hy'
        refine hGOAL ?_
        clear hGOAL GOAL
        have := (p5 z hz).step st
        unfold putAt; split <;> exact this
    · rw [storedH_new e2, look_put_none e1]
      refine build (by simp [p3]) ?_ ?_
      · simp only [List.map_append, List.map_cons, List.map_nil]
        exact (p4.step st).snoc (hv.step st)
      · intro y' hy'
        rcases List.mem_append.mp hy' with hy' | hy'
        · exact (p5 y' hy').step st
        · rw [List.mem_singleton.mp hy']; exact hx.step st
end
end Mini

/-! Equality, of what holds dicts too. -/
namespace Mini
open PySem PySem.W

theorem no_none {α : Type} {a : α} {C : Prop} (h : (none : Option α) = some a) : C := by cases h
section
variable {W : Wd} {own : List Addr} {A : Around} {fs : List Env} {s : Shared} {io : Io} {m : MH} {n : Nat}

theorem eqX_cases {f : Nat} {v x : V} {b : Bool} (h : eqX (f + 1) m v x = some b) : (∃ d e, rd deep m v = some d ∧ rd deep m x = some e ∧ b = PyData.eqv d e) ∨ eqN m (eqX f m) v x = some b := by
  have h : (match rd deep m v, rd deep m x with | some a, some c => some (PyData.eqv a c) | _, _ => eqN m (eqX f m) v x) = some b := h
  cases h1 : rd deep m v with
  | none => rw [h1] at h; exact .inr h
  | some d =>
    cases h2 : rd deep m x with
    | none => rw [h1, h2] at h; exact .inr h
    | some e => rw [h1, h2] at h; cases h; exact .inl ⟨d, e, rfl, rfl, rfl⟩
theorem zip_cons {g : V → V → Option Bool} {x y : V} {xs ys : List V} {b : Bool} (h : zipO g (x :: xs) (y :: ys) = some b) : ∃ c d, g x y = some c ∧ zipO g xs ys = some d ∧ b = (c && d) := by
  have h : (match g x y with | some a => (match zipO g xs ys with | some b => some (a && b) | none => none) | none => none) = some b := h
  cases h1 : g x y with
  | none => rw [h1] at h; cases h
  | some c =>
    cases h2 : zipO g xs ys with
    | none => rw [h1, h2] at h; cases h
    | some d => rw [h1, h2] at h; cases h; exact ⟨c, d, rfl, rfl, rfl⟩
/-- what eqN looks at -/
inductive EqN (m : MH) (g : V → V → Option Bool) (b : Bool) : V → V → Prop
  | list {p q : Nat} {xs ys : List V} : m[p]? = some (.list xs) → m[q]? = some (.list ys) → p ≠ q → xs.length = ys.length → zipO g xs ys = some b → EqN m g b (.ref p) (.ref q)
  | dict {p q e e' : Nat} {ks ls : List (Ky × V)} : m[p]? = some (.dict ks e) → m[q]? = some (.dict ls e') → p ≠ q → ks.length = ls.length → intK ks = true → intK ls = true → dictE m ls ks = some b → EqN m g b (.ref p) (.ref q)
theorem eqN_of {g : V → V → Option Bool} {v x : V} {b : Bool} (h : eqN m g v x = some b) : EqN m g b v x := by
  cases v with
  | ref p =>
    cases x with
    | ref q =>
      have h : (match m[p]? with
        | some (.list xs) => (match m[q]? with | some (.list ys) => (if p ≠ q ∧ xs.length = ys.length then zipO g xs ys else none) | _ => none)
        | some (.dict ks _) => (match m[q]? with | some (.dict ls _) => (if p ≠ q ∧ ks.length = ls.length ∧ (intK ks && intK ls) = true then dictE m ls ks else none) | _ => none)
        | _ => none) = some b := h
      cases mp : m[p]? with
      | none => rw [mp] at h; cases h
      | some o =>
      cases mq : m[q]? with
      | none => rw [mp, mq] at h; cases o <;> cases h
      | some o' =>
      rw [mp, mq] at h
      cases o with
      | inst _ _ => cases h
      | list xs =>
        cases o' with
        | inst _ _ => cases h
        | dict _ _ => cases h
        | list ys =>
          have h : (if p ≠ q ∧ xs.length = ys.length then zipO g xs ys else none) = some b := h
          by_cases e : p ≠ q ∧ xs.length = ys.length
          · rw [if_pos e] at h; exact .list mp mq e.1 e.2 h
          · rw [if_neg e] at h; cases h
      | dict ks ep =>
        cases o' with
        | inst _ _ => cases h
        | list _ => cases h
        | dict ls ep' =>
          have h : (if p ≠ q ∧ ks.length = ls.length ∧ (intK ks && intK ls) = true then dictE m ls ks else none) = some b := h
          by_cases e : p ≠ q ∧ ks.length = ls.length ∧ (intK ks && intK ls) = true
          · rw [if_pos e] at h; exact .dict mp mq e.1 e.2.1 (Bool.and_eq_true_iff.mp e.2.2).1 (Bool.and_eq_true_iff.mp e.2.2).2 h
          · rw [if_neg e] at h; cases h
    | _ => exact no_none h
  | _ => exact no_none h
/-- one value bears two small ones -/
theorem same_true (H : HR W s.heap io m) : ∀ (f : Nat) {v x : V} {u : Value} {b : Bool}, VR W s.heap io v u → VR W s.heap io x u → eqX f m v x = some b → b = true
  | 0, _, _, _, _, _, _, h => no_none h
  | f + 1, v, x, u, b, k, l, h => by
    have apart : ∀ {p q : Nat}, p ≠ q → VR W s.heap io (.ref p) u → VR W s.heap io (.ref q) u → b = true := fun e k l => by
      cases k with | ref hp => cases l with | ref hq => exact absurd rfl (H.apart _ _ _ _ e hp hq).1
    rcases eqX_cases h with ⟨d, e, h1, h2, rfl⟩ | h
    · obtain ⟨⟨as, r1⟩, c1, _⟩ := reads_of H _ _ _ _ h1 k
      obtain ⟨⟨bs, r2⟩, c2, _⟩ := reads_of H _ _ _ _ h2 l
      cases SeqAt.Reads.unique _ _ _ _ _ c1 r1 r2
      exact SeqAt.eqv_refl _ c1
    · cases eqN_of h with
      | list _ _ e _ _ => exact apart e k l
      | dict _ _ e _ _ _ _ => exact apart e k l

/-- the pairs of two lists -/
theorem zip_at {g : V → V → Option Bool} (hg : ∀ {x y : V} {u w : Value} {b : Bool}, VR W s.heap io x u → VR W s.heap io y w → g x y = some b → SeqAt.EqAt A s u w b) : ∀ {xs ys : List V} {us ws : List Value} {b : Bool}, VRs W s.heap io xs us → VRs W s.heap io ys ws → zipO g xs ys = some b →
    ∃ e : Nat → Bool, (∀ j (h1 : j < us.length) (h2 : j < ws.length), SeqAt.EqAt A s us[j] ws[j] (e j)) ∧ (List.range us.length).all e = b ∧ us.length = ws.length := by
  intro xs
  induction xs with
  | nil =>
    intro ys us ws b x1 x2 h
    cases x1
    cases x2 with
    | nil => cases h; exact ⟨fun _ => true, fun j h1 => absurd h1 (Nat.not_lt_zero _), rfl, rfl⟩
    | cons _ _ => exact no_none h
  | cons x xs ih =>
    intro ys us ws b x1 x2 h
    cases x1 with | cons h1 h2 =>
    cases x2 with
    | nil => exact no_none h
    | cons k1 k2 =>
      obtain ⟨c, d, e1, e2, rfl⟩ := zip_cons h
      obtain ⟨e, q1, q2, q3⟩ := ih h2 k2 e2
      refine ⟨fun j => Nat.rec c (fun j _ => e j) j, fun j j1 j2 => ?_, ?_, congrArg (· + 1) q3⟩
      · cases j with
        | zero => exact hg h1 k1 e1
        | succ j => exact q1 j (Nat.lt_of_succ_lt_succ j1) (Nat.lt_of_succ_lt_succ j2)
      · rw [List.length_cons, List.range_succ_eq_map, List.all_cons, List.all_map, ← q2]; rfl

theorem value_look {ls : List (Ky × V)} : ∀ {kb : List (Int × Value)}, kb.map (fun p => Ky.int p.1) = ls.map (·.1) → VRs W s.heap io (ls.map (·.2)) (kb.map (·.2)) → ∀ k : Int,
    (∃ v u, look (.int k) ls = some v ∧ valueAt kb k = some u ∧ VR W s.heap io v u) ∨ (look (.int k) ls = none ∧ valueAt kb k = none) := by
  induction ls with
  | nil => intro kb e x k; cases kb with
    | nil => exact .inr ⟨rfl, rfl⟩
    | cons _ _ => cases e
  | cons q r ih =>
    intro kb e x k
    cases kb with
    | nil => cases e
    | cons q' r' =>
      obtain ⟨k1, v1⟩ := q
      obtain ⟨k2, u2⟩ := q'
      have e1 : Ky.int k2 = k1 := (List.cons.inj e).1
      subst e1
      cases x with | cons x1 x2 =>
      by_cases hk : k2 = k
      · subst hk
        exact .inl ⟨v1, u2, by simp [look], by simp [valueAt], x1⟩
      · have hk' : ¬ Ky.int k2 = Ky.int k := fun e => hk (by cases e; rfl)
        have a1 : look (.int k) ((Ky.int k2, v1) :: r) = look (.int k) r := if_neg hk'
        have a2 : valueAt ((k2, u2) :: r') k = valueAt r' k := by simp [valueAt, List.find?_cons, hk]
        rw [a1, a2]
        exact ih (List.cons.inj e).2 x2 k
theorem dict_hits (H : HR W s.heap io m) (hu : A.units + deep < cLine) {ls : List (Ky × V)} {kb : List (Int × Value)} (e : kb.map (fun p => Ky.int p.1) = ls.map (·.1)) (hv : VRs W s.heap io (ls.map (·.2)) (kb.map (·.2))) :
    ∀ {ks : List (Ky × V)} {ka : List (Int × Value)} {b : Bool}, ka.map (fun p => Ky.int p.1) = ks.map (·.1) → VRs W s.heap io (ks.map (·.2)) (ka.map (·.2)) → dictE m ls ks = some b → KeqHits A s kb ka b := by
  intro ks
  induction ks with
  | nil => intro ka b e1 x h; cases ka with
    | nil => cases h; exact .nil
    | cons _ _ => cases e1
  | cons q r ih =>
    intro ka b e1 x h
    cases ka with
    | nil => cases e1
    | cons q' r' =>
      obtain ⟨k1, v1⟩ := q
      obtain ⟨k2, u2⟩ := q'
      have e2 : Ky.int k2 = k1 := (List.cons.inj e1).1
      subst e2
      cases x with | cons x1 x2 =>
      have h : (match look (.int k2) ls with | none => some false | some u => (match rd deep m v1 with | some x => (match rd deep m u with | some y => (match dictE m ls r with | some b => some (PyData.eqv x y && b) | none => none) | none => none) | none => none)) = some b := h
      rcases value_look e hv k2 with ⟨v, u, l1, l2, l3⟩ | ⟨l1, l2⟩
      · rw [l1] at h
        dsimp only at h
        cases h1 : rd deep m v1 with
        | none => rw [h1] at h; cases h
        | some d1 =>
          cases h2 : rd deep m v with
          | none => rw [h1, h2] at h; cases h
          | some d2 =>
            cases h3 : dictE m ls r with
            | none => rw [h1, h2, h3] at h; cases h
            | some c =>
              rw [h1, h2, h3] at h; cases h
              obtain ⟨⟨as, r1⟩, c1, p1⟩ := reads_of H _ _ _ _ h1 x1
              obtain ⟨⟨bs, r2⟩, c2, p2⟩ := reads_of H _ _ _ _ h2 l3
              refine .hit l2 (SeqAt.eqAt_reads _ _ _ _ _ _ _ _ r1 r2 c1 c2 ?_) (ih (List.cons.inj e1).2 x2 h3)
              have : min d1.depth d2.depth ≤ deep := Nat.le_trans (Nat.min_le_left _ _) p1
              omega
      · rw [l1] at h; cases h; exact .miss l2

theorem pairs_any {p p' : Program} {w w' : World} {es : List DictEntry} {l : List (Int × Value)} (h : Pairs (intKind p w) es l) : Pairs (intKind p' w') es l := by
  induction h with
  | nil => exact .nil
  | cons h1 h2 _ ih => exact .cons h1 h2 ih
/-- a dict with keys that are whole numbers, as the kit sees it -/
theorem int_dictOf (H : HR W s.heap io m) {k : Nat} {p : Addr × Addr} {kvs : List (Ky × V)} {e : Nat} (hi : io[k]? = some p) (hm : m[k]? = some (.dict kvs e)) (hk : intK kvs = true) :
    ∃ l : List (Int × Value), (∀ prog w, s.heap.DictOf (intKind prog w) p.1 l) ∧ l.map (fun p => Ky.int p.1) = kvs.map (·.1) ∧ VRs W s.heap io (kvs.map (·.2)) (l.map (·.2)) := by
  obtain ⟨_, o, es, c, h1, h2, h3, h4, h5, h6⟩ := H.obj _ _ _ hi hm
  have hall := sort_int (i := 0) hk
  obtain ⟨l, p1, p2, p3⟩ := h4.pairs intEmb hall
  have nd : (l.map (·.1)).Nodup := by
    have q : ((l.map (·.1)).map Ky.int).Nodup := by rw [List.map_map]; exact (show List.map (fun p => Ky.int p.1) l = _ from p2) ▸ h5
    exact (List.pairwise_map.mp q).imp fun h e => h (congrArg Ky.int e)
  exact ⟨l, fun prog w => ⟨o, es, c, h1, h2, h3, fun e he => h4.keysOf intEmb hall e (Array.mem_toList_iff.mpr he), pairs_any p1, nd⟩, p2, p3⟩

/-- what eqN says, as an equality, as an inequality, and of items -/
structure EqAll (A : Around) (s : Shared) (u y : Value) (b : Bool) : Prop where
  eq : SeqAt.RcAt A s u y b
  ne : SeqAt.RcNeAt A s u y (!b)
theorem eqn_at (ok : WOk W) (H : HR W s.heap io m) (hu : A.units + 1 + deep < cLine) {g : V → V → Option Bool} (hg : ∀ {x y : V} {u w : Value} {b : Bool}, VR W s.heap io x u → VR W s.heap io y w → g x y = some b → SeqAt.EqAt A.in1 s u w b)
    {v x : V} {u y : Value} {b : Bool} (k : VR W s.heap io v u) (l : VR W s.heap io x y) (h : EqN m g b v x) : EqAll A s u y b := by
  have hA : A.units < cLine := Nat.lt_of_le_of_lt (Nat.le_trans (Nat.le_succ _) (Nat.le_add_right _ _)) hu
  have zips : ∀ {xs ys : List V} {vs vs' : Array Value}, VRs W s.heap io xs vs.toList → VRs W s.heap io ys vs'.toList → zipO g xs ys = some b → ∃ e : Nat → Bool, (∀ j (h1 : j < vs.size) (h2 : j < vs'.size), SeqAt.EqAt A.in1 s vs[j] vs'[j] (e j)) ∧ (List.range vs.size).all e = b ∧ vs.size = vs'.size := fun h4 g4 h => by
    obtain ⟨e, q1, q2, q3⟩ := zip_at hg h4 g4 h
    exact ⟨e, fun j j1 j2 => q1 j j1 j2, q2, q3⟩
  cases h with
  | list mp mq e hl z =>
    cases k with | @ref p a d hp =>
    cases l with | @ref q a' d' hq =>
    refine hide fun GOAL hGOAL => ?_
    obtain ⟨_, vs, c, h1, h4, _⟩ := H.obj _ _ _ hp mp
    obtain ⟨_, vs', c', g1, g4, _⟩ := H.obj _ _ _ hq mq
    obtain ⟨e, he, q2, q3⟩ := zips h4 g4 z
    have r1 := SeqAt.RcAt.lists (e := e) ⟨_, h1, rfl, c, rfl⟩ ⟨_, g1, rfl, c', rfl⟩ q3 hA he
    have r2 := SeqAt.RcNeAt.lists (e := e) ⟨_, h1, rfl, c, rfl⟩ ⟨_, g1, rfl, c', rfl⟩ q3 hA he
    rw [q2] at r1 r2
    exact hGOAL ⟨r1, r2⟩
  | dict mp mq e hl i1 i2 z =>
    cases k with | @ref p a d hp =>
    cases l with | @ref q a' d' hq =>
    have n1 := H.notSys ok ⟨_, List.mem_of_getElem? hp, .inl rfl⟩
    have n2 := H.notSys ok ⟨_, List.mem_of_getElem? hq, .inl rfl⟩
    refine hide fun GOAL hGOAL => ?_
    obtain ⟨ka, d1, d2, d3⟩ := int_dictOf H hp mp i1
    obtain ⟨kb, e1, e2, e3⟩ := int_dictOf H hq mq i2
    have la : ka.length = _ := (List.length_map (fun p => Ky.int p.1)).symm.trans ((congrArg List.length d2).trans (List.length_map _))
    have lb : kb.length = _ := (List.length_map (fun p => Ky.int p.1)).symm.trans ((congrArg List.length e2).trans (List.length_map _))
    have hits := dict_hits (A := A.in1) H hu e2 e3 d2 d3 z
    have zz : (ka.length == kb.length && b) = b := by rw [la, lb, hl, beq_self_eq_true, Bool.true_and]
    exact hGOAL ⟨fun prog w E Q hQ => keq_eq n1 n2 (d1 prog w) (e1 prog w) hA (fun _ => hits) (zz.symm ▸ hQ), fun prog w E Q hQ => keq_ne n1 n2 (d1 prog w) (e1 prog w) hA (fun _ => hits) (zz.symm ▸ hQ)⟩

theorem eqx_at (ok : WOk W) (H : HR W s.heap io m) : ∀ (f : Nat) {A : Around}, A.units + f + deep + 2 < cLine → ∀ {v x : V} {u y : Value} {b : Bool}, VR W s.heap io v u → VR W s.heap io x y → eqX f m v x = some b → SeqAt.EqAt A s u y b
  | 0, _, _, _, _, _, _, _, _, _, h => no_none h
  | f + 1, A, hu, v, x, u, y, b, k, l, h => by
    by_cases hs : u = y
    · subst hs
      rw [same_true H (f + 1) k l h]
      exact SeqAt.EqAt.same u
    · rcases eqX_cases h with ⟨d, e, h1, h2, rfl⟩ | h
      · obtain ⟨⟨as, r1⟩, c1, p1⟩ := reads_of H _ _ _ _ h1 k
        obtain ⟨⟨bs, r2⟩, c2, p2⟩ := reads_of H _ _ _ _ h2 l
        refine SeqAt.eqAt_reads _ _ _ _ _ _ _ _ r1 r2 c1 c2 ?_
        have : min d.depth e.depth ≤ deep := Nat.le_trans (Nat.min_le_left _ _) p1
        omega
      · have h := eqN_of h
        have hq := eqn_at (A := A) ok H (by omega) (g := eqX f m) (fun a b c => eqx_at ok H f (A := A.in1) (by show A.units + 1 + f + deep + 2 < cLine; omega) a b c) k l h
        have rr : ∀ {a a' : Addr}, u = .ref a → y = .ref a' → SeqAt.EqAt A s u y b := fun e1 e2 => by
          subst e1; subst e2
          exact SeqAt.EqAt.of_refs (fun q => hs (by rw [q])) hq.eq
        cases h with
        | list _ _ _ _ _ => cases k with | ref _ => cases l with | ref _ => exact rr rfl rfl
        | dict _ _ _ _ _ _ _ => cases k with | ref _ => cases l with | ref _ => exact rr rfl rfl

theorem eqV_cases (v x : V) : (∃ d e, rd deep m v = some d ∧ rd deep m x = some e ∧ eqV v x m = .ok (PyData.eqv d e) m) ∨ (∃ c, eqN m (eqX 8 m) v x = some c ∧ eqV v x m = .ok c m) ∨ eqV v x m = .bad := by
  have e : eqV v x m = (match rd deep m v, rd deep m x with | some a, some c => .ok (PyData.eqv a c) m | _, _ => (match eqN m (eqX 8 m) v x with | some c => .ok c m | none => .bad)) := rfl
  rw [e]
  have key : (∃ c, eqN m (eqX 8 m) v x = some c ∧ (match eqN m (eqX 8 m) v x with | some c => (.ok c m : Res Bool) | none => .bad) = .ok c m) ∨ (match eqN m (eqX 8 m) v x with | some c => (.ok c m : Res Bool) | none => .bad) = .bad := by
    cases eqN m (eqX 8 m) v x with
    | none => exact .inr rfl
    | some c => exact .inl ⟨c, rfl, rfl⟩
  cases h1 : rd deep m v with
  | none => exact .inr key
  | some d =>
    cases h2 : rd deep m x with
    | none => exact .inr key
    | some e => exact .inl ⟨d, e, rfl, rfl, rfl⟩

theorem eq_sim (ok : WOk W) (H : HR W s.heap io m) (R : AR A fs n) {v x : V} {u y : Value} (k : VR W s.heap io v u) (l : VR W s.heap io x y) :
    Si W own A fs BV (compareOp .Eq u y) s io m (cmpV .Eq v x m) := by
  show Si W own A fs BV (compareOp .Eq u y) s io m (eqV v x m)
  have hc := R.cline
  rcases eqV_cases (m := m) v x with ⟨d, e, h1, h2, q⟩ | ⟨c, h1, q⟩ | q
  · rw [q]
    obtain ⟨⟨as, r1⟩, c1, d1⟩ := reads_of H _ _ _ _ h1 k
    obtain ⟨⟨bs, r2⟩, c2, d2⟩ := reads_of H _ _ _ _ h2 l
    intro _
    refine SeqAt.compareEq_reads r1 r2 c1 c2 ?_ ⟨_, m, io, rfl, .refl, H, rfl, .refl _⟩
    have h3 : min d.depth e.depth ≤ 12 := Nat.le_trans (Nat.min_le_left _ _) d1
    omega
  · rw [q]
    intro _
    exact (eqn_at (A := A) ok H (by show A.units + 1 + 12 < cLine; omega) (fun a b c => eqx_at ok H 8 (A := A.in1) (by show A.units + 1 + 8 + 12 + 2 < cLine; omega) a b c) k l (eqN_of h1)).eq _ _ _ _ ⟨_, m, io, rfl, .refl, H, rfl, .refl _⟩
  · rw [q]; exact Si.bad
theorem ne_sim (ok : WOk W) (H : HR W s.heap io m) (R : AR A fs n) {v x : V} {u y : Value} (k : VR W s.heap io v u) (l : VR W s.heap io x y) :
    Si W own A fs BV (compareOp .NotEq u y) s io m (cmpV .NotEq v x m) := by
  show Si W own A fs BV (compareOp .NotEq u y) s io m ((eqV v x m).bind fun c => ret (!c))
  have hc := R.cline
  rcases eqV_cases (m := m) v x with ⟨d, e, h1, h2, q⟩ | ⟨c, h1, q⟩ | q
  · rw [q]
    obtain ⟨⟨as, r1⟩, c1, d1⟩ := reads_of H _ _ _ _ h1 k
    obtain ⟨⟨bs, r2⟩, c2, d2⟩ := reads_of H _ _ _ _ h2 l
    intro _
    refine SeqAt.compareNe_reads r1 r2 c1 c2 ?_ ⟨_, m, io, rfl, .refl, H, rfl, .refl _⟩
    have h3 : min d.depth e.depth ≤ 12 := Nat.le_trans (Nat.min_le_left _ _) d1
    omega
  · rw [q]
    intro _
    exact (eqn_at (A := A) ok H (by show A.units + 1 + 12 < cLine; omega) (fun a b c => eqx_at ok H 8 (A := A.in1) (by show A.units + 1 + 8 + 12 + 2 < cLine; omega) a b c) k l (eqN_of h1)).ne _ _ _ _ ⟨_, m, io, rfl, .refl, H, rfl, .refl _⟩
  · rw [q]; exact Si.bad
end
end Mini

/-! dict.pop of a key that is a whole number. -/
namespace Mini
open PySem
section
variable {W : Wd} {h h' : Heap} {fs : List Env} {s s' : Shared} {io io' : Io} {m m' : MH} {own fr : List Addr} {A : Around} {n : Nat}

end
end Mini

namespace Mini
open PySem
section
variable {W : Wd} {own : List Addr} {A : Around} {fs : List Env} {s : Shared} {io : Io} {m : MH} {n : Nat}

theorem in_sim (ok : WOk W) (H : HR W s.heap io m) (R : AR A fs n) {v x : V} {u y : Value} (k : VR W s.heap io v u) (l : VR W s.heap io x y) :
    Si W own A fs BV (compareOp .In u y) s io m (inV v x m) := by
  have hc := R.cline
  unfold inV
  split
  · cases l with | str _ t okk =>
    split
    · rename_i z
      cases k with | str _ t' okz =>
      split
      · rename_i c hz
        have e : z = ⟨#[c]⟩ := by
          obtain ⟨⟨z'⟩⟩ := z
          simp only at hz
          subst hz; rfl
        subst e
        intro _
        refine P.in_str ?_
        rw [StrLaws.found_one]
        exact ⟨_, m, io, rfl, .refl, H, rfl, .refl _⟩
      · exact Si.bad
    · exact Si.bad
  · cases l with | ref g1 =>
    split
    · rename_i kvs e hy
      split
      · rename_i ky hk
        split
        · rename_i hs
          exact fun _ => in_dict ok H R g1 hy k hk hs fun tk => ⟨_, m, io, rfl, .refl, H, rfl, rfl, rfl⟩
        · exact Si.bad
      · exact Si.bad
    · exact Si.bad
  · exact Si.bad

theorem cmp_sim (ok : WOk W) (H : HR W s.heap io m) (R : AR A fs n) {op : CmpOp} {v x : V} {u y : Value} (k : VR W s.heap io v u) (l : VR W s.heap io x y) :
    Si W own A fs BV (compareOp op u y) s io m (cmpV op v x m) := by
  cases op with
  | Eq => exact eq_sim ok H R k l
  | NotEq => exact ne_sim ok H R k l
  | In => exact in_sim ok H R k l
  | NotIn => exact (in_sim ok H R k l).not fun _ _ h => notIn_of_in h
  | Is => exact Si.bad
  | IsNot => exact Si.bad
  | Lt =>
    simp only [cmpV]
    split
    · cases k; cases l; exact fun _ => P.lt_int ⟨_, m, io, rfl, .refl, H, rfl, rfl, rfl⟩
    · exact Si.bad
  | LtE =>
    simp only [cmpV]
    split
    · cases k; cases l; exact fun _ => P.le_int ⟨_, m, io, rfl, .refl, H, rfl, rfl, rfl⟩
    · exact Si.bad
  | Gt =>
    simp only [cmpV]
    split
    · cases k; cases l; exact fun _ => P.gt_int ⟨_, m, io, rfl, .refl, H, rfl, rfl, rfl⟩
    · exact Si.bad
  | GtE =>
    simp only [cmpV]
    split
    · cases k; cases l; exact fun _ => P.ge_int ⟨_, m, io, rfl, .refl, H, rfl, rfl, rfl⟩
    · exact Si.bad

/-! ## items -/
theorem at_seq {α : Type} {xs : List α} {i : Int} {v : α} (h : at_ xs i = some v) : ∃ k, seqIndex? i xs.length = some k ∧ xs[k]? = some v := by
  unfold at_ at h
  unfold seqIndex?
  split at h
  · rename_i h0
    have hlt := (List.getElem?_eq_some_iff.mp h).1
    refine ⟨i.toNat, ?_, h⟩
    simp only [show ¬ i < 0 by omega, if_false]
    rw [if_pos]
    simp only [Bool.and_eq_true, decide_eq_true_eq]; omega
  · split at h
    · rename_i h0 h1
      have hlt := (List.getElem?_eq_some_iff.mp h).1
      refine ⟨(i + xs.length).toNat, ?_, h⟩
      simp only [show i < 0 by omega, if_true]
      rw [if_pos]
      simp only [Bool.and_eq_true, decide_eq_true_eq]; omega
    · cases h
theorem sub_operate (slice : Expr) (o i : Value) : ∃ ops, subscripted slice false o i = operate ops (getItem o i) := by
  cases slice <;> first | (exact ⟨_, rfl⟩) | skip
  rename_i st _
  cases st <;> exact ⟨_, rfl⟩

theorem si_tail {value slice : Expr} {u y : Value} {T id : String} {α : Type} {P : Heap → Io → α → Value → Prop} {R : Res α} (x : Si W own A fs P (getItem u y) s io m R) (hT : s.TypeIs u T) (hl : typeLookup (.type T) "__getitem__" = pure (some (.builtin id))) :
    Si W own A fs P (PyProof.Rows.subscriptTail value slice u y) s io m R := by
  intro hne
  obtain ⟨ops, e⟩ := sub_operate slice u y
  exact PyProof.Rows.tail_any hT hl (x hne) e

theorem VRs.get_arr {h : Heap} {xs : List V} {vs : Array Value} (x : VRs W h io xs vs.toList) {k : Nat} {v : V} (hk : xs[k]? = some v) : ∃ u, vs[k]? = some u ∧ VR W h io v u := by
  refine hide fun GOAL hGOAL => ?_
  obtain ⟨u, e, r⟩ := x.get hk
  refine hGOAL ?_
  clear hGOAL GOAL
  exact ⟨u, by rw [← Array.getElem?_toList]; exact e, r⟩
theorem VRs.size {h : Heap} {xs : List V} {vs : Array Value} (x : VRs W h io xs vs.toList) : vs.size = xs.length := by
  have := x.length; rw [Array.length_toList] at this; exact this
theorem strOk_get {x : Str} {c k : Nat} (ok : PyData.strOk x = true) (h : x.cps[k]? = some c) : PyData.strOk ⟨#[c]⟩ = true := by
  unfold PyData.strOk at *
  have := Array.all_eq_true.mp ok k (Array.getElem?_eq_some_iff.mp h).1
  rw [(Array.getElem?_eq_some_iff.mp h).2] at this
  simpa using this

theorem idx_sim (H : HR W s.heap io m) (R : AR A fs n) {value slice : Expr} {v x : V} {u y : Value} (k : VR W s.heap io v u) (l : VR W s.heap io x y) :
    Si W own A fs (VP W) (PyProof.Rows.subscriptTail value slice u y) s io m (idxV v x m) := by
  unfold idxV
  split
  · rename_i xs
    cases k with | @tup a vs n' _ g1 g2 =>
    split
    · rename_i k
      cases l
      split
      · rename_i hk
        cases q : at_ xs k with
        | none => exact Si.bad
        | some z =>
          refine hide fun GOAL hGOAL => ?_
          obtain ⟨j, e1, e2⟩ := at_seq q
          refine hGOAL ?_
          clear hGOAL GOAL
          refine hide fun GOAL hGOAL => ?_
          obtain ⟨z', f1, f2⟩ := g2.get_arr e2
          refine hGOAL ?_
          clear hGOAL GOAL
          refine si_tail (T := "tuple") (fun _ => P.getItem_tuple g1 (by omega) (by omega) (by rw [g2.size]; exact e1) f1 (np_val (tk := s.toks) H f2)) ⟨_, g1, rfl⟩ F.slot_tuple_getitem.lookup
      · exact Si.bad
    · exact Si.bad
  · rename_i z
    cases k with | @str _ t okz =>
    split
    · rename_i k
      cases l
      split
      · rename_i hk
        cases q : at_ z.cps.toList k with
        | none => exact Si.bad
        | some c =>
          refine hide fun GOAL hGOAL => ?_
          obtain ⟨j, e1, e2⟩ := at_seq q
          refine hGOAL ?_
          clear hGOAL GOAL
          rw [Array.getElem?_toList] at e2
          refine si_tail (T := "str") (fun _ => P.getItem_str (c := c) (by simp; omega) ?_ (np_val H (.str _ _ (strOk_get okz e2)))) rfl F.slot_str_getitem.lookup
          rw [Array.length_toList] at e1
          show (seqIndex? k z.cps.size).bind _ = _
          rw [e1]; exact e2
      · exact Si.bad
    · exact Si.bad
  · cases k with | ref g1 =>
    split
    · rename_i xs hx
      refine hide fun GOAL hGOAL => ?_
      obtain ⟨_, vs, n', a1, a2, a3⟩ := H.obj _ _ _ g1 hx
      refine hGOAL ?_
      clear hGOAL GOAL
      split
      · rename_i k
        cases l
        split
        · rename_i hk
          cases q : at_ xs k with
          | none => exact Si.bad
          | some z =>
            refine si_tail (T := "list") (fun _ => ?_) ⟨_, a1, rfl⟩ slot_list_getitem.lookup
            unfold at_ at q
            split at q
            · rename_i h0
              refine hide fun GOAL hGOAL => ?_
              obtain ⟨z', f1, f2⟩ := a2.get_arr q
              refine hGOAL ?_
              clear hGOAL GOAL
              exact wpAny_getItem_list ⟨_, a1, rfl, _, rfl⟩ h0 (by omega) f1 (np_val (tk := s.toks) H f2)
            · split at q
              · rename_i h0 h1
                refine hide fun GOAL hGOAL => ?_
                obtain ⟨z', f1, f2⟩ := a2.get_arr q
                refine hGOAL ?_
                clear hGOAL GOAL
                exact wpAny_getItem_list_neg ⟨_, a1, rfl, _, rfl⟩ (by omega) (by rw [a2.size]; omega) (by omega) (by rw [a2.size]; exact f1) (np_val (tk := s.toks) H f2)
              · cases q
        · exact Si.bad
      · exact Si.bad
    · rename_i kvs e hx
      refine hide fun GOAL hGOAL => ?_
      obtain ⟨_, o, es, n', a1, a2, a3, _⟩ := H.obj _ _ _ g1 hx
      refine hGOAL ?_
      clear hGOAL GOAL
      split
      · rename_i ky hk
        split
        · rename_i hs
          cases q : look ky kvs with
          | none => exact Si.bad
          | some z =>
            exact si_tail (T := "dict") (fun _ => get_dict H R g1 hx l hk hs q fun u' tk hu => np_val H hu) ⟨_, a1, a2.1⟩ slot_dict_getitem.lookup
        · exact Si.bad
      · exact Si.bad
    · exact Si.bad
  · rename_i ns
    cases k with | @scr _ l' o vs n' h1 h2 h3 h4 h5 =>
    split
    · rename_i k
      cases l
      split
      · rename_i hk
        cases q : (ns[k.toNat]?).map V.int with
        | none => exact Si.bad
        | some z =>
          have q' : (ns.map V.int)[k.toNat]? = some z := by rw [List.getElem?_map]; exact q
          refine hide fun GOAL hGOAL => ?_
          obtain ⟨z', f1, f2⟩ := (h4.vrs (W := W) (h := s.heap) (io := io)).get_arr q'
          refine hGOAL ?_
          clear hGOAL GOAL
          have hlt : k.toNat < ns.length := by have := (List.getElem?_eq_some_iff.mp q').1; simpa using this
          refine si_tail (T := "list") (fun _ => wpAny_getItem_list ⟨_, H.keep _ _ h1, h2, _, h3⟩ hk (by rw [lid_eq] at h5; omega) f1 (np_val (tk := s.toks) H f2)) ⟨_, H.keep _ _ h1, h2⟩ slot_list_getitem.lookup
      · exact Si.bad
    · exact Si.bad
  · exact Si.bad
end
end Mini

namespace Mini
open PySem

/-! ## cuts: the model's picks -/
theorem pick_run {α : Type} (xs : List α) (a : Nat) : ∀ c, (List.range c).filterMap (fun k => xs[a + k]?) = (xs.drop a).take c := by
  intro c
  induction c with
  | zero => simp
  | succ c ih =>
    rw [List.range_succ, List.filterMap_append, ih, List.take_add_one]
    congr 1
    rw [List.getElem?_drop, List.filterMap_cons, List.filterMap_nil]
    cases xs[a + c]? <;> rfl
theorem run_cut {α : Type} (xs : List α) {a b : Nat} (hb : b ≤ xs.length) : (List.range (b - a)).filterMap (fun k => xs[a + k]?) = (xs.take b).drop a := by
  rw [pick_run, List.drop_take]
noncomputable def lowB (n : Nat) (lo : Option Int) : Nat := match lo with | some i => clampU n i | Option.none => 0
noncomputable def highB (n : Nat) (hi : Option Int) : Nat := match hi with | some i => clampU n i | Option.none => n
theorem cut_eq {α : Type} (xs : List α) (lo hi : Option Int) : cut xs lo hi = (xs.take (highB xs.length hi)).drop (lowB xs.length lo) := rfl
theorem highB_le (n : Nat) (hi : Option Int) : highB n hi ≤ n := by
  unfold highB clampU; split
  · split <;> omega
  · exact Nat.le_refl _
theorem clip_eq (n : Nat) (i : Int) : (max 0 (min (if i < 0 then i + n else i) (n : Int))) = (clampU n i : Int) := by
  unfold clampU
  by_cases h : 0 ≤ i
  · rw [if_neg (Int.not_lt.mpr h), if_pos h]
    rcases Int.le_total i (n : Int) with z | z
    · rw [Int.min_eq_left z, Int.max_eq_right h, Nat.min_eq_left (Int.toNat_le.mpr z), Int.toNat_of_nonneg h]
    · rw [Int.min_eq_right z, Int.max_eq_right (Int.natCast_nonneg n), Nat.min_eq_right ((Int.le_toNat h).mpr z)]
  · have h' : i < 0 := Int.not_le.mp h
    rw [if_pos h', if_neg h, Int.min_eq_left (Int.le_of_lt (by have := Int.add_lt_add_right h' (n : Int); rwa [Int.zero_add] at this)), Int.toNat_eq_max, Int.max_comm]
theorem bounds_eq (lo hi : Option Int) (n : Nat) : sliceBounds lo hi none n = ((lowB n lo : Int), (highB n hi : Int), 1) := by
  unfold sliceBounds lowB highB
  cases lo <;> cases hi <;> simp [clip_eq]
theorem range_one (a b : Nat) : sliceRange (a : Int) (b : Int) 1 = (List.range (b - a)).map fun k => a + k := by
  unfold sliceRange
  have e : (if (1 : Int) > 0 then (if (a : Int) < b then ((b : Int) - a + 1 - 1) / 1 else 0) else (if (a : Int) > b then ((a : Int) - b - 1 - 1) / (-1) else 0)).toNat = b - a := by
    rw [if_pos (by decide)]
    by_cases h : (a : Int) < b
    · rw [if_pos h, Int.ediv_one, Int.add_sub_cancel]; exact Int.toNat_sub b a
    · rw [if_neg h]; exact (Nat.sub_eq_zero_of_le (Int.ofNat_le.mp (Int.not_lt.mp h))).symm
  simp only [e]
  refine List.map_congr_left fun k _ => by omega
theorem pick_cut (items : Array Value) (lo hi : Option Int) : (slicePick items lo hi none).toList = cut items.toList lo hi := by
  unfold slicePick
  rw [bounds_eq, cut_eq]
  simp only [range_one, List.filterMap_map]
  rw [Array.length_toList]
  rw [← run_cut items.toList (b := highB items.size hi) (a := lowB items.size lo) (by rw [Array.length_toList]; exact highB_le _ _)]
  congr 1
  funext k
  simp only [Function.comp, Array.getElem?_toList]
theorem str_cut (x : Str) (t : Tok) (l u : Option (Int × Tok)) {Q : Value → Shared → Prop} {s : Shared} (h : ∀ t' tk, Q (.str ⟨(cut x.cps.toList (l.map (·.1)) (u.map (·.1))).toArray⟩ t') { s with toks := tk }) (hsz : x.length ≤ sizeLine) : (sliceMade x t l u none).post Q s := by
  have e1 : slicePicked x l u none = (List.range (highB x.length (u.map (·.1)) - lowB x.length (l.map (·.1)))).map fun k => lowB x.length (l.map (·.1)) + k := by
    unfold slicePicked
    have : Builtin.Str.strSliceIndices (l.map (·.1)) (u.map (·.1)) ((Option.map (·.1) (none : Option (Int × Tok))).getD 1) x.length = sliceRange (sliceBounds (l.map (·.1)) (u.map (·.1)) none x.length).1 (sliceBounds (l.map (·.1)) (u.map (·.1)) none x.length).2.1 1 := by
      cases l <;> cases u <;> rfl
    rw [this, bounds_eq]
    exact range_one _ _
  have e2 : (slicePicked x l u none).filterMap (x.cps[·]?) = cut x.cps.toList (l.map (·.1)) (u.map (·.1)) := by
    rw [e1, List.filterMap_map, cut_eq, Array.length_toList]
    rw [← run_cut x.cps.toList (b := highB x.cps.size (u.map (·.1))) (a := lowB x.cps.size (l.map (·.1))) (by rw [Array.length_toList]; exact highB_le _ _)]
    refine congrArg (fun f => List.filterMap f _) ?_
    funext k
    simp only [Function.comp, Array.getElem?_toList]
    rfl
  unfold sliceMade
  split
  · rename_i hc
    have hlen : (slicePicked x l u none).length = x.length := by simpa using hc
    have : cut x.cps.toList (l.map (·.1)) (u.map (·.1)) = x.cps.toList := by
      rw [cut_eq, Array.length_toList]
      rw [e1] at hlen
      simp only [List.length_map, List.length_range] at hlen
      have h1 := highB_le x.length (u.map (·.1))
      have h2 : lowB x.cps.size (l.map (·.1)) = 0 ∧ highB x.cps.size (u.map (·.1)) = x.cps.size ∨ x.cps.size = 0 := by
        change highB x.cps.size _ - lowB x.cps.size _ = x.cps.size at hlen
        change highB x.cps.size _ ≤ x.cps.size at h1
        omega
      rcases h2 with ⟨h2, h3⟩ | h2
      · rw [h2, h3, ← Array.length_toList, List.drop_zero, List.take_length]
      · have : x.cps.toList = [] := List.eq_nil_of_length_eq_zero (by rw [Array.length_toList]; exact h2)
        rw [this]; simp
    have h' := h t s.toks
    rw [this] at h'
    exact h'
  · rw [e2]
    refine ⟨?_, h _ _⟩
    show (cut x.cps.toList (l.map (·.1)) (u.map (·.1))).toArray.size ≤ sizeLine
    rw [List.size_toArray, cut_eq, List.length_drop, List.length_take, Array.length_toList]
    change x.cps.size ≤ sizeLine at hsz
    omega

section
variable {W : Wd} {own : List Addr} {A : Around} {fs : List Env} {s : Shared} {io : Io} {m : MH} {n : Nat}

theorem VRs.cut {h : Heap} {xs : List V} {vs : List Value} (x : VRs W h io xs vs) (lo hi : Option Int) : VRs W h io (Mini.cut xs lo hi) (Mini.cut vs lo hi) := by
  rw [cut_eq, cut_eq, x.length]; exact (x.take _).drop _
theorem cut_length {α : Type} (xs : List α) (lo hi : Option Int) : (Mini.cut xs lo hi).length ≤ xs.length := by
  rw [cut_eq, List.length_drop, List.length_take]; omega
theorem strOk_cut {x : Str} (ok : PyData.strOk x = true) (lo hi : Option Int) : PyData.strOk ⟨(Mini.cut x.cps.toList lo hi).toArray⟩ = true := by
  unfold PyData.strOk at *
  rw [List.all_toArray, List.all_eq_true]
  intro c hc
  rw [cut_eq] at hc
  have := List.mem_of_mem_take (List.mem_of_mem_drop hc)
  exact Array.all_eq_true_iff_forall_mem.mp ok c (Array.mem_toList_iff.mp this)

theorem part_of {v : V} {u : Value} {o : Option Int} (k : VR W s.heap io v u) (h : bound v = some o) : IsPart u o := by
  unfold bound at h
  split at h
  · cases h; cases k; exact .none
  · cases k
    split at h
    · cases h; exact .int _ _
    · cases h
  · cases h
theorem si_getItem {value slice : Expr} {u y : Value} {T id : String} {α : Type} {P : Heap → Io → α → Value → Prop} {R : Res α} (hT : s.TypeIs u T) (hl : typeLookup (.type T) "__getitem__" = pure (some (.builtin id)))
    (x : wpAny (model W.prog W.w) A (getItem u y) (NP W own (frs fs) s io m P R) (XP W own fs s io m R) s) : Si W own A fs P (PyProof.Rows.subscriptTail value slice u y) s io m R := si_tail (fun _ => x) hT hl
theorem partOf_vr {v : V} {u : Value} {o : Option Int} (k : VR W s.heap io v u) (h : bound v = some o) : ∃ q : Option (Int × Tok), u = partValue q ∧ q.map (·.1) = o := by
  cases part_of k h with
  | none => exact ⟨none, rfl, rfl⟩
  | int i t => exact ⟨some (i, t), rfl, rfl⟩

theorem sliceL_none {α : Type} {xs l : List α} {lo hi : V} (h : sliceL xs lo hi .none = some l) : ∃ a b, bound lo = some a ∧ bound hi = some b ∧ l = Mini.cut xs a b := by
  have h : (match bound lo, bound hi with | some a, some b => some (cut xs a b) | _, _ => none) = some l := h
  cases h1 : bound lo with
  | none => rw [h1] at h; cases h
  | some a =>
    cases h2 : bound hi with
    | none => rw [h1, h2] at h; cases h
    | some b => rw [h1, h2] at h; cases h; exact ⟨a, b, rfl, rfl, rfl⟩

theorem slice_sim (H : HR W s.heap io m) {value slice : Expr} {v lo hi st : V} {u ul uh us : Value} {sl : Addr} (k : VR W s.heap io v u) (kl : VR W s.heap io lo ul) (kh : VR W s.heap io hi uh) (ks : VR W s.heap io st us) (hs : s.heap.IsSliceOf sl ul uh us) :
    Si W own A fs (VP W) (PyProof.Rows.subscriptTail value slice u (.ref sl)) s io m (sliceV v lo hi st m) := by
  unfold sliceV
  split
  · rename_i z
    cases k with | @str _ t okz =>
    split
    · cases ks
      split
      · rename_i hl
        cases q : sliceL z.cps.toList lo hi .none with
        | none => exact Si.bad
        | some l =>
          refine hide fun GOAL hGOAL => ?_
          obtain ⟨a, b, h1, h2, rfl⟩ := sliceL_none q
          refine hGOAL ?_
          clear hGOAL GOAL
          refine hide fun GOAL hGOAL => ?_
          obtain ⟨ql, rfl, rfl⟩ := partOf_vr kl h1
          refine hGOAL ?_
          clear hGOAL GOAL
          refine hide fun GOAL hGOAL => ?_
          obtain ⟨qh, rfl, rfl⟩ := partOf_vr kh h2
          refine hGOAL ?_
          clear hGOAL GOAL
          refine si_getItem (T := "str") rfl F.slot_str_getitem.lookup ?_
          refine hide fun GOAL hGOAL => ?_
          obtain ⟨o, ho, hc, hd⟩ := hs
          refine hGOAL ?_
          clear hGOAL GOAL
          refine wpAny_getItem_str_slice (l := ql) (u := qh) (st := none) ⟨o, ho, hc, hd⟩ (by decide) ?_
          exact str_cut z t ql qh (fun t' tk => np_val H (.str _ _ (strOk_cut okz _ _))) (sizeLine_lid hl)
      · exact Si.bad
    · exact Si.bad
  · rename_i ns
    cases k with | @scr _ l' o vs n' h1 h2 h3 h4 h5 =>
    split
    · cases ks
      cases q : sliceL (ns.map V.int) lo hi .none with
      | none => exact Si.bad
      | some l =>
        refine hide fun GOAL hGOAL => ?_
        obtain ⟨a, b, e1, e2, rfl⟩ := sliceL_none q
        refine hGOAL ?_
        clear hGOAL GOAL
        have ll : vs.size = ns.length := by have := h4.length; rw [Array.length_toList] at this; exact this
        refine si_getItem (T := "list") ⟨_, H.keep _ _ h1, h2⟩ slot_list_getitem.lookup ?_
        refine wpAny_getItem_list_slice ⟨_, H.keep _ _ h1, h2, _, h3⟩ hs (part_of kl e1) (part_of kh e2) .none (by simp) (np_list H ?_ ?_) (sizeLine_lid (by omega))
        · rw [pick_cut]; exact h4.vrs.cut _ _
        · exact Nat.le_trans (cut_length _ _ _) (by simpa using h5)
    · exact Si.bad
  · exact Si.bad
end
end Mini

/-! Expressions: the rules that put a walk together. -/
namespace Mini
open PySem PySem.W

/-- where an expression is evaluated -/
structure Sit (W : Wd) (fs : List Env) (env : Env) (vis : List (Option Str)) (s : Shared) (io : Io) (m : MH) (r : Lo) : Prop where
  H : HR W s.heap io m
  F : FR W s.heap io env vis r
  G : FF W s.heap io fs

section
variable {W : Wd} {fs : List Env} {env : Env} {vis : List (Option Str)} {s s' : Shared} {io io' : Io} {m m' : MH} {r : Lo} {fr : List Addr} {A : Around} {n : Nat}
theorem Sit.step (Z : Sit W fs env vis s io m r) (H : HR W s'.heap io' m') (st : Step [] fr s.heap io m s'.heap io' m') : Sit W fs env vis s' io' m' r := ⟨H, Z.F.step0 Z.H st, Z.G.step0 st⟩

noncomputable def SiE (W : Wd) (A : Around) (fs : List Env) (env : Env) (vis : List (Option Str)) (t : Sem Value) (c : Lo → Mn V) : Prop :=
  ∀ (s : Shared) (io : Io) (m : MH) (r : Lo), Sit W fs env vis s io m r → Si W [] A fs (VP W) t s io m (c r m)
noncomputable def SiB (W : Wd) (A : Around) (fs : List Env) (env : Env) (vis : List (Option Str)) (t : Sem Bool) (c : Lo → Mn Bool) : Prop :=
  ∀ (s : Shared) (io : Io) (m : MH) (r : Lo), Sit W fs env vis s io m r → Si W [] A fs BP t s io m (c r m)
noncomputable def SiL (W : Wd) (A : Around) (fs : List Env) (env : Env) (vis : List (Option Str)) (t : Sem (List Value)) (c : Lo → Mn (List V)) : Prop :=
  ∀ (s : Shared) (io : Io) (m : MH) (r : Lo), Sit W fs env vis s io m r → Si W [] A fs (VsP W) t s io m (c r m)

variable {a b c : Expr} {pos : Pos} {ca cb cc : Lo → Mn V}

theorem e_const {v : Lt} {k : Const} {j : Nat} (h : (match v, k with | .none, .none => true | .bool b, .bool d => b == d | .int i, .int j => i == j | .str x, .str y => x == y && PyData.strOk x | _, _ => false) = true) : SiE W A fs env vis (eval (.Constant k j pos) env) (fun _ => ret v.val) := by
  intro s io m r Z
  cases v <;> cases k <;> first | (exact absurd h Bool.false_ne_true) | skip
  · exact fun _ => wpAny_Constant_none (np_val (tk := s.toks) Z.H .none)
  · rw [beq_iff_eq.mp h]
    exact fun _ => wpAny_Constant_bool (np_val (tk := s.toks) Z.H (.bool _))
  · rw [beq_iff_eq.mp h]
    exact fun _ => wpAny_Constant_int (np_val Z.H (.int _ _))
  · simp only [Bool.and_eq_true, beq_iff_eq] at h
    rw [← h.1]
    exact fun _ => wpAny_Constant_str (np_val Z.H (.str _ _ h.2))

theorem e_var {i : Nat} {x : Str} (hv : vis[i]? = some (some x)) (hk : env.kindOf x = some .local ∨ env.kindOf x = some .cell ∨ env.kindOf x = some .free) (hd : (x == ("__debug__" : Str)) = false) (hc : (x == ("__classdict__" : Str)) = false) :
    SiE W A fs env vis (eval (.Name x pos) env) (fun r => match r[i]? with | some (some v) => ret v | _ => bad) := by
  intro s io m r Z
  have key : ∀ o : Option (Option V), r[i]? = o → Si W [] A fs (VP W) (eval (.Name x pos) env) s io m ((match o with | some (some v) => ret v | _ => bad : Mn V) m) := by
   intro o hr
   match o, hr with
   | none, _ => exact .bad
   | some none, _ => exact .bad
   | some (some v), hr =>
    intro _
    refine wpAny_Name ?_ hd
    rcases hk with hk | hk | hk
    · refine hide fun GOAL hGOAL => ?_
      obtain ⟨mp, hn, hl⟩ := Z.F.loc
      refine hGOAL ?_
      clear hGOAL GOAL
      refine hide fun GOAL hGOAL => ?_
      obtain ⟨u, e, k⟩ := hl i x v hv hr hk
      refine hGOAL ?_
      clear hGOAL GOAL
      exact wpAny_loadName_local Z.F.kind hk hn e (np_val (tk := s.toks) Z.H k)
    · refine hide fun GOAL hGOAL => ?_
      obtain ⟨c, u, e, k1, k2⟩ := Z.F.cel i x v hv hr (.inl hk)
      refine hGOAL ?_
      clear hGOAL GOAL
      exact wpAny_loadName_cell Z.F.kind hk e k1 (np_val (tk := s.toks) Z.H k2)
    · refine hide fun GOAL hGOAL => ?_
      obtain ⟨c, u, e, k1, k2⟩ := Z.F.cel i x v hv hr (.inr hk)
      refine hGOAL ?_
      clear hGOAL GOAL
      exact wpAny_loadName_free Z.F.kind hk e k1 (np_val (tk := s.toks) Z.H k2) hc
  exact key _ rfl

theorem e_bin {op : Operator} (ha : SiE W A fs env vis (eval a env) ca) (hb : SiE W A fs env vis (eval b env) cb) :
    SiE W A fs env vis (eval (.BinOp a op b pos) env) (fun r => bnd (ca r) fun x => bnd (cb r) fun y => binV op x y) := by
  intro s io m r Z
  rw [eval_BinOp]
  refine Si.bind (ha s io m r Z) fun u s₁ io₁ m₁ v _ st H₁ k sm => ?_
  refine Si.bind (Si.holding (hb _ _ _ r (Z.step H₁ st))) fun u' s₂ io₂ m₂ v' _ st₂ H₂ k₂ sm₂ => ?_
  exact .standAt (.operate (bin_sim H₂ (VR.step st₂ k) k₂))

theorem e_neg (ha : SiE W A fs env vis (eval a env) ca) : SiE W A fs env vis (eval (.UnaryOp .USub a pos) env) (fun r => bnd (ca r) fun x => match x with | .int i => ret (.int (-i)) | _ => bad) := by
  intro s io m r Z
  rw [arm_eval_UnaryOp]
  refine Si.bind (ha s io m r Z) fun u s₁ io₁ m₁ v _ st H₁ k sm => .standAt (.holding ?_)
  cases k with
  | int i t => exact fun _ => P.neg_int (np_val H₁ (.int _ _))
  | none => exact .bad
  | bool b => exact .bad
  | str s t => exact .bad
  | tup => exact .bad
  | ref => exact .bad
  | fn k => exact .bad
  | exc => exact .bad
  | scr => exact .bad

theorem e_not (ha : SiE W A fs env vis (eval a env) ca) : SiE W A fs env vis (eval (.UnaryOp .Not a pos) env) (fun r => bnd (ca r) fun x => bnd (truth x) fun b => ret (.bool (!b))) := by
  intro s io m r Z
  rw [arm_eval_UnaryOp]
  refine Si.bind (ha s io m r Z) fun u s₁ io₁ m₁ v _ st H₁ k sm => .standAt (.holding ?_)
  refine Si.holding (t := truthy u >>= fun b => Pure.pure (Value.bool (!b))) ?_
  refine Si.bind (truth_sim H₁ k) fun b s₂ io₂ m₂ b' _ _ H₂ k₂ _ => ?_
  cases k₂
  exact .pure H₂ (.bool _)

theorem e_idx (R : AR A fs n) (ha : SiE W A fs env vis (eval a env) ca) (hb : SiE W A fs env vis (eval b env) cb) :
    SiE W A fs env vis (eval (.Subscript a b pos) env) (fun r => bnd (ca r) fun x => bnd (cb r) fun y => idxV x y) := by
  intro s io m r Z
  rw [arm_eval_Subscript]
  refine Si.bind (ha s io m r Z) fun u s₁ io₁ m₁ v _ st H₁ k sm => ?_
  refine Si.bind (Si.holding (hb _ _ _ r (Z.step H₁ st))) fun u' s₂ io₂ m₂ v' _ st₂ H₂ k₂ sm₂ => ?_
  exact .standAt (idx_sim H₂ R (VR.step st₂ k) k₂)

theorem bnd_assoc {α β γ : Type} (x : Mn α) (f : α → Mn β) (g : β → Mn γ) : bnd (bnd x f) g = bnd x fun a => bnd (f a) g := by
  funext m
  show ((x m).bind f).bind g = (x m).bind fun a m => (f a m).bind g
  cases x m <;> rfl

/-! ### lists of expressions -/
theorem l_nil : SiL W A fs env vis (spliced (backTo pos (starEach [] env))) (fun _ => ret []) := fun _ _ _ _ Z => .pure Z.H .nil
theorem l_cons {rest : List Expr} {cl : Lo → Mn (List V)} (ha : SiE W A fs env vis (eval a env) ca) (hl : SiL W A fs env vis (spliced (backTo pos (starEach rest env))) cl) (he : starEach (a :: rest) env = (false, eval a env) :: starEach rest env) :
    SiL W A fs env vis (spliced (backTo pos (starEach (a :: rest) env))) (fun r => bnd (ca r) fun x => bnd (cl r) fun xs => ret (x :: xs)) := by
  intro s io m r Z
  rw [he]
  show Si W [] A fs (VsP W) (eval a env >>= fun v => (PySem.holding [v] (spliced (backTo pos (starEach rest env)))) >>= fun vs => Pure.pure (v :: vs)) s io m _
  refine Si.bind (ha s io m r Z) fun u s₁ io₁ m₁ v _ st H₁ k sm => ?_
  refine Si.bind (Si.holding (hl _ _ _ r (Z.step H₁ st))) fun u' s₂ io₂ m₂ v' _ st₂ H₂ k₂ sm₂ => ?_
  exact .pure H₂ (.cons (VR.step st₂ k) k₂)

theorem e_tup {es : List Expr} {j : Nat} {cl : Lo → Mn (List V)} (hl : SiL W A fs env vis (spliced (backTo pos (starEach es env))) cl) (hn : ∀ r m vs m', cl r m = .ok vs m' → vs.length ≤ lid) : SiE W A fs env vis (eval (.Tuple es j pos) env) (fun r => bnd (cl r) fun vs => ret (.tup vs)) := by
  intro s io m r Z
  rw [arm_eval_Tuple]
  refine .standAt (Si.bind (hl s io m r Z) fun u s₁ io₁ m₁ v e st H₁ k sm => ?_)
  exact fun _ => wpAny_newTuple (np_tup (tk := s₁.toks) H₁ k) (by have := hn _ _ _ _ e; rw [← k.length] at this; exact sizeLine_lid this)
theorem e_list {es : List Expr} {cl : Lo → Mn (List V)} (hl : SiL W A fs env vis (spliced (backTo pos (starEach es env))) cl) (hn : ∀ r m vs m', cl r m = .ok vs m' → vs.length ≤ lid) : SiE W A fs env vis (eval (.List es pos) env) (fun r => bnd (cl r) fun vs => alloc (.list vs)) := by
  intro s io m r Z
  rw [arm_eval_List]
  refine .standAt (Si.bind (hl s io m r Z) fun u s₁ io₁ m₁ v e st H₁ k sm => ?_)
  exact fun _ => wpAny_newList (np_list (tk := s₁.toks) H₁ k (hn _ _ _ _ e)) (by have := hn _ _ _ _ e; rw [← k.length] at this; exact sizeLine_lid this)

/-! ### and, or -/
theorem b_one {op : BoolOp} (ha : SiE W A fs env vis (eval a env) ca) : SiE W A fs env vis (boolOp pos op (evalEach [a] env)) ca := ha
theorem b_cons {op : BoolOp} {c : Bool} {rest : List Expr} {cb : Lo → Mn V} (hop : (op = .And ∧ c = true) ∨ (op = .Or ∧ c = false)) (ha : SiE W A fs env vis (eval a env) ca) (hb : SiE W A fs env vis (boolOp pos op (evalEach (b :: rest) env)) cb) :
    SiE W A fs env vis (boolOp pos op (evalEach (a :: b :: rest) env)) (fun r => bnd (ca r) fun x => bnd (truth x) fun t => if t == c then cb r else ret x) := by
  intro s io m r Z
  rcases hop with ⟨rfl, rfl⟩ | ⟨rfl, rfl⟩ <;>
  refine Si.bind (ha s io m r Z) fun u s₁ io₁ m₁ v _ st H₁ k sm => .standAt ?_ <;>
  refine Si.bind (Si.holding (truth_sim H₁ k)) fun t s₂ io₂ m₂ t' _ st₂ H₂ k₂ sm₂ => ?_ <;>
  cases k₂ <;> cases t
  · exact .pure H₂ (VR.step st₂ k)
  · exact hb _ _ _ r ((Z.step H₁ st).step H₂ st₂)
  · exact hb _ _ _ r ((Z.step H₁ st).step H₂ st₂)
  · exact .pure H₂ (VR.step st₂ k)

/-! ### comparisons -/
noncomputable def SiC (W : Wd) (A : Around) (fs : List Env) (env : Env) (vis : List (Option Str)) (t : Value → Sem Value) (c : V → Lo → Mn V) : Prop :=
  ∀ (s : Shared) (io : Io) (m : MH) (r : Lo) (x : V) (u : Value), Sit W fs env vis s io m r → VR W s.heap io x u → Si W [] A fs (VP W) (t u) s io m (c x r m)
noncomputable def SiCB (W : Wd) (A : Around) (fs : List Env) (env : Env) (vis : List (Option Str)) (t : Value → Sem Bool) (c : V → Lo → Mn V) : Prop :=
  ∀ (s : Shared) (io : Io) (m : MH) (r : Lo) (x : V) (u : Value), Sit W fs env vis s io m r → VR W s.heap io x u → Si W [] A fs BP (t u) s io m (bnd (c x r) truth m)

theorem marked_one {op : CmpOp} (hb : behindInMarks op b = false) : markedEach [op] [b] (evalEach [b] env) = [eval b env] := by
  show [markedBehindIn op b (eval b env)] = _
  rw [markedBehindIn_of_false hb]
theorem c_one (ok : WOk W) (R : AR A fs n) {op : CmpOp} (hm : behindInMarks op b = false) (hb : SiE W A fs env vis (eval b env) cb) :
    SiC W A fs env vis (fun u => compareChain pos u [op] (markedEach [op] [b] (evalEach [b] env))) (fun x r => bnd (cb r) fun y => bnd (cmpV op x y) fun c => ret (.bool c)) := by
  intro s io m r x u Z k
  show Si W [] A fs (VP W) (compareChain pos u [op] (markedEach [op] [b] (evalEach [b] env))) s io m _
  rw [marked_one hm]
  refine Si.bind (Si.holding (hb _ _ _ r Z)) fun u' s₂ io₂ m₂ v' _ st₂ H₂ k₂ sm₂ => .standAt (.operate ?_)
  have := cmp_sim (own := []) ok H₂ R (op := op) (VR.step st₂ k) k₂
  intro hne
  refine wpAny_mono (this (Res.bind_ne hne)) (fun u s' p => ?_) fun e s' p => p.bind .refl (.refl _)
  refine hide fun GOAL hGOAL => ?_
  obtain ⟨v, m', io', e, a1, a2, a3, a4⟩ := p
  refine hGOAL ?_
  clear hGOAL GOAL
  cases a3
  exact ⟨.bool v, m', io', by show (cmpV op x v' m₂).bind _ = _; rw [e]; rfl, a1, a2, .bool v, a4⟩
theorem c_more (ok : WOk W) (R : AR A fs n) {op : CmpOp} {op' : CmpOp} {ops : List CmpOp} {b' : Expr} {rest : List Expr} {cc : V → Lo → Mn V} (hb : SiE W A fs env vis (eval b env) cb)
    (hc : SiC W A fs env vis (fun u => compareChain pos u (op' :: ops) (markedEach (op' :: ops) (b' :: rest) (evalEach (b' :: rest) env))) cc) :
    SiC W A fs env vis (fun u => compareChain pos u (op :: op' :: ops) (markedEach (op :: op' :: ops) (b :: b' :: rest) (evalEach (b :: b' :: rest) env))) (fun x r => bnd (cb r) fun y => bnd (cmpV op x y) fun c => if c then cc y r else ret (.bool false)) := by
  intro s io m r x u Z k
  show Si W [] A fs (VP W) (PySem.holding [u] (eval b env) >>= fun rv => PySem.standAt pos >>= fun _ => PySem.holding [u, rv] (compareOp op u rv) >>= fun c => release [u, rv] [c] >>= fun _ => PySem.holding [c, rv] (truthy c) >>= fun t => if t then compareChain pos rv (op' :: ops) (markedEach (op' :: ops) (b' :: rest) (evalEach (b' :: rest) env)) else Pure.pure c) s io m _
  refine Si.bind (Si.holding (hb _ _ _ r Z)) fun u' s₂ io₂ m₂ v' _ st₂ H₂ k₂ sm₂ => .standAt ?_
  refine Si.bind (Si.holding (cmp_sim ok H₂ R (VR.step st₂ k) k₂)) fun u₃ s₃ io₃ m₃ v₃ _ st₃ H₃ k₃ sm₃ => ?_
  cases k₃
  have : Si W [] A fs (VP W) (PySem.holding [.bool v₃, u'] (truthy (.bool v₃)) >>= fun t => if t then compareChain pos u' (op' :: ops) (markedEach (op' :: ops) (b' :: rest) (evalEach (b' :: rest) env)) else Pure.pure (.bool v₃)) s₃ io₃ m₃ ((if v₃ then cc v' r else ret (.bool false)) m₃) := by
    intro hne
    refine wpAny_bind (wpAny_holding (wpAny_truthy_bool ?_))
    cases v₃
    · exact Si.pure (own := []) (A := A) (fs := fs) H₃ (.bool false) hne
    · exact hc _ _ _ r v' u' ((Z.step H₂ st₂).step H₃ st₃) (VR.step st₃ k₂) hne
  exact fun hne => wpAny_bind (wpAny_release (this hne))

theorem t_one (ok : WOk W) (R : AR A fs n) {op : CmpOp} (hm : behindInMarks op b = false) (hb : SiE W A fs env vis (eval b env) cb) :
    SiCB W A fs env vis (fun u => testChain pos u [op] (markedEach [op] [b] (evalEach [b] env))) (fun x r => bnd (cb r) fun y => bnd (cmpV op x y) fun c => ret (.bool c)) := by
  intro s io m r x u Z k
  show Si W [] A fs BP (testChain pos u [op] (markedEach [op] [b] (evalEach [b] env))) s io m _
  rw [marked_one hm, bnd_assoc]
  refine Si.bind (Si.holding (hb _ _ _ r Z)) fun u' s₂ io₂ m₂ v' _ st₂ H₂ k₂ sm₂ => .standAt ?_
  rw [bnd_assoc]
  refine Si.bind (Si.operate (cmp_sim ok H₂ R (VR.step st₂ k) k₂)) fun u₃ s₃ io₃ m₃ v₃ _ st₃ H₃ k₃ sm₃ => .holding ?_
  cases k₃
  exact fun _ => wpAny_truthy_bool ⟨v₃, m₃, io₃, rfl, .refl, H₃, rfl, .refl _⟩
theorem t_more (ok : WOk W) (R : AR A fs n) {op : CmpOp} {op' : CmpOp} {ops : List CmpOp} {b' : Expr} {rest : List Expr} {cc : V → Lo → Mn V} (hb : SiE W A fs env vis (eval b env) cb)
    (hc : SiCB W A fs env vis (fun u => testChain pos u (op' :: ops) (markedEach (op' :: ops) (b' :: rest) (evalEach (b' :: rest) env))) cc) :
    SiCB W A fs env vis (fun u => testChain pos u (op :: op' :: ops) (markedEach (op :: op' :: ops) (b :: b' :: rest) (evalEach (b :: b' :: rest) env))) (fun x r => bnd (cb r) fun y => bnd (cmpV op x y) fun c => if c then cc y r else ret (.bool false)) := by
  intro s io m r x u Z k
  show Si W [] A fs BP (PySem.holding [u] (eval b env) >>= fun rv => PySem.standAt pos >>= fun _ => PySem.holding [u, rv] (compareOp op u rv) >>= fun c => release [u, rv] [c] >>= fun _ => PySem.holding [c, rv] (truthy c) >>= fun t => if t then testChain pos rv (op' :: ops) (markedEach (op' :: ops) (b' :: rest) (evalEach (b' :: rest) env)) else Pure.pure false) s io m _
  rw [bnd_assoc]
  refine Si.bind (Si.holding (hb _ _ _ r Z)) fun u' s₂ io₂ m₂ v' _ st₂ H₂ k₂ sm₂ => .standAt ?_
  rw [bnd_assoc]
  refine Si.bind (Si.holding (cmp_sim ok H₂ R (VR.step st₂ k) k₂)) fun u₃ s₃ io₃ m₃ v₃ _ st₃ H₃ k₃ sm₃ => ?_
  cases k₃
  have : Si W [] A fs BP (PySem.holding [.bool v₃, u'] (truthy (.bool v₃)) >>= fun t => if t then testChain pos u' (op' :: ops) (markedEach (op' :: ops) (b' :: rest) (evalEach (b' :: rest) env)) else Pure.pure false) s₃ io₃ m₃ (bnd (if v₃ then cc v' r else ret (.bool false)) truth m₃) := by
    intro hne
    refine wpAny_bind (wpAny_holding (wpAny_truthy_bool ?_))
    cases v₃
    · exact Si.pure (own := []) (A := A) (fs := fs) (v := false) H₃ rfl hne
    · exact hc _ _ _ r v' u' ((Z.step H₂ st₂).step H₃ st₃) (VR.step st₃ k₂) hne
  exact fun hne => wpAny_bind (wpAny_release (this hne))

theorem e_cmp {ops : List CmpOp} {bs : List Expr} {cc : V → Lo → Mn V} (ha : SiE W A fs env vis (eval a env) ca) (hc : SiC W A fs env vis (fun u => compareChain pos u ops (markedEach ops bs (evalEach bs env))) cc) :
    SiE W A fs env vis (eval (.Compare a ops bs pos) env) (fun r => bnd (ca r) fun x => cc x r) := by
  intro s io m r Z
  rw [arm_eval_Compare]
  exact Si.bind (ha s io m r Z) fun u s₁ io₁ m₁ v _ st H₁ k sm => hc _ _ _ r v u (Z.step H₁ st) k
theorem t_cmp {ops : List CmpOp} {bs : List Expr} {cc : V → Lo → Mn V} {whole : Sem Value} (ha : SiE W A fs env vis (eval a env) ca) (hc : SiCB W A fs env vis (fun u => testChain pos u ops (markedEach ops bs (evalEach bs env))) cc) :
    SiB W A fs env vis (isTrue (.Compare a ops bs pos) env whole) (fun r => bnd (bnd (ca r) fun x => cc x r) truth) := by
  intro s io m r Z
  show Si W [] A fs BP _ s io m (bnd (bnd (ca r) fun x => cc x r) truth m)
  rw [bnd_assoc]
  show Si W [] A fs BP (eval a env >>= fun u => testChain pos u ops (markedEach ops bs (evalEach bs env))) s io m _
  exact Si.bind (ha s io m r Z) fun u s₁ io₁ m₁ v _ st H₁ k sm => hc _ _ _ r v u (Z.step H₁ st) k

/-! ### tests -/
theorem t_val (ha : SiE W A fs env vis (eval a env) ca) (hs : isTrue a env (eval a env) = (do let v ← eval a env; PySem.standAt a.pos; PySem.holding [v] (truthy v))) : SiB W A fs env vis (isTrue a env (eval a env)) (fun r => bnd (ca r) truth) := by
  intro s io m r Z
  rw [hs]
  exact Si.bind (ha s io m r Z) fun u s₁ io₁ m₁ v _ st H₁ k sm => .standAt (.holding (truth_sim H₁ k))
theorem t_not {ct : Lo → Mn Bool} {whole : Sem Value} (ha : SiB W A fs env vis (isTrue a env (eval a env)) ct) : SiB W A fs env vis (isTrue (.UnaryOp .Not a pos) env whole) (fun r => bnd (ct r) fun b => ret (!b)) := by
  intro s io m r Z
  show Si W [] A fs BP (isTrue a env (eval a env) >>= fun b => Pure.pure (!b)) s io m _
  refine Si.bind (ha s io m r Z) fun u s₁ io₁ m₁ v _ st H₁ k sm => ?_
  cases k
  exact .pure H₁ rfl
theorem t_nil {op : BoolOp} {c : Bool} (hop : (op = .And ∧ c = true) ∨ (op = .Or ∧ c = false)) : SiB W A fs env vis (allTrue op [] env) (fun _ => ret c) := by
  intro s io m r Z
  rcases hop with ⟨rfl, rfl⟩ | ⟨rfl, rfl⟩
  · exact .pure (u := true) Z.H rfl
  · exact .pure (u := false) Z.H rfl
theorem t_cons {op : BoolOp} {c : Bool} {rest : List Expr} {ct cts : Lo → Mn Bool} (hop : (op = .And ∧ c = true) ∨ (op = .Or ∧ c = false)) (ha : SiB W A fs env vis (isTrue a env (eval a env)) ct) (hb : SiB W A fs env vis (allTrue op rest env) cts) :
    SiB W A fs env vis (allTrue op (a :: rest) env) (fun r => bnd (ct r) fun b => if b == c then cts r else ret b) := by
  intro s io m r Z
  rcases hop with ⟨rfl, rfl⟩ | ⟨rfl, rfl⟩ <;>
  refine Si.bind (ha s io m r Z) fun t s₁ io₁ m₁ v _ st H₁ k sm => ?_ <;>
  cases k <;> cases t
  · exact .pure H₁ rfl
  · exact hb _ _ _ r (Z.step H₁ st)
  · exact hb _ _ _ r (Z.step H₁ st)
  · exact .pure H₁ rfl
theorem t_all {op : BoolOp} {es : List Expr} {whole : Sem Value} {ct : Lo → Mn Bool} (h : SiB W A fs env vis (allTrue op es env) ct) : SiB W A fs env vis (isTrue (.BoolOp op es pos) env whole) ct := h

/-! ### slices -/
noncomputable def SiO (W : Wd) (A : Around) (fs : List Env) (env : Env) (vis : List (Option Str)) (o : Option Expr) (c : Lo → Mn V) : Prop := SiE W A fs env vis (valueOrNone (evalOpt o env)) c
theorem o_none : SiO W A fs env vis none (fun _ => ret .none) := fun _ _ _ _ Z => .pure Z.H .none
theorem o_some (ha : SiE W A fs env vis (eval a env) ca) : SiO W A fs env vis (some a) ca := ha
noncomputable def SlP (W : Wd) (h : Heap) (io : Io) (p : V × V × V) (u : Value) : Prop := ∃ sl ul uh us, u = .ref sl ∧ h.IsSliceOf sl ul uh us ∧ VR W h io p.1 ul ∧ VR W h io p.2.1 uh ∧ VR W h io p.2.2 us
theorem e_slice3 {lo hi st : Option Expr} {cl ch cs : Lo → Mn V} (hl : SiO W A fs env vis lo cl) (hh : SiO W A fs env vis hi ch) (hs : SiO W A fs env vis st cs) (Z : Sit W fs env vis s io m r) :
    Si W [] A fs (SlP W) (eval (.Slice lo hi st pos) env) s io m (bnd (cl r) (fun l => bnd (ch r) fun h => bnd (cs r) fun t => ret (l, h, t)) m) := by
  rw [arm_eval_Slice]
  refine Si.bind (hl _ _ _ r Z) fun ul s₁ io₁ m₁ vl _ st₁ H₁ k₁ _ => ?_
  have Z₁ := Z.step H₁ st₁
  refine Si.bind (Si.holding (hh _ _ _ r Z₁)) fun uh s₂ io₂ m₂ vh _ st₂ H₂ k₂ _ => ?_
  have Z₂ := Z₁.step H₂ st₂
  refine Si.bind (Si.holding (hs _ _ _ r Z₂)) fun us s₃ io₃ m₃ vs _ st₃ H₃ k₃ _ => ?_
  have st4 : Step [] (frs fs) s₃.heap io₃ m₃ (s₃.heap.push { cls := .type "slice", data := .fields #[ul, uh, us] }) io₃ m₃ := .of_keeps H₃ (push_keeps _)
  exact fun _ => wpAny_mono (Q := fun v s' => v = .ref s₃.heap.objs.size ∧ s' = { s₃ with heap := s₃.heap.push { cls := .type "slice", data := .fields #[ul, uh, us] } }) (fun _ _ _ => ⟨rfl, rfl⟩) (fun v s' q => by
    obtain ⟨rfl, rfl⟩ := q
    exact ⟨_, m₃, io₃, rfl, st4, H₃.of_keeps (push_keeps _), ⟨_, ul, uh, us, rfl, .new _ _ _ _, ((VR.step st₂ k₁).step st₃).step st4, (VR.step st₃ k₂).step st4, VR.step st4 k₃⟩, .refl _⟩) fun _ _ q => q
theorem e_slice {lo hi st : Option Expr} {cl ch cs : Lo → Mn V} {pos' : Pos} (ha : SiE W A fs env vis (eval a env) ca) (hl : SiO W A fs env vis lo cl) (hh : SiO W A fs env vis hi ch) (hs : SiO W A fs env vis st cs) :
    SiE W A fs env vis (eval (.Subscript a (.Slice lo hi st pos') pos) env) (fun r => bnd (ca r) fun x => bnd (cl r) fun l => bnd (ch r) fun h => bnd (cs r) fun t => sliceV x l h t) := by
  intro s io m r Z
  rw [arm_eval_Subscript]
  refine Si.bind (ha s io m r Z) fun u s₁ io₁ m₁ v _ st₁ H₁ k₁ _ => ?_
  have e : (bnd (cl r) fun l => bnd (ch r) fun h => bnd (cs r) fun t => sliceV v l h t) = bnd (bnd (cl r) fun l => bnd (ch r) fun h => bnd (cs r) fun t => ret (l, h, t)) fun p => sliceV v p.1 p.2.1 p.2.2 := by
    simp only [bnd_assoc]; rfl
  rw [e]
  refine Si.bind (Si.holding (e_slice3 hl hh hs (Z.step H₁ st₁))) fun u' s₂ io₂ m₂ p _ st₂ H₂ k₂ sm₂ => .standAt ?_
  refine hide fun GOAL hGOAL => ?_
  obtain ⟨sl, ul, uh, us, rfl, q1, q2, q3, q4⟩ := k₂
  refine hGOAL ?_
  clear hGOAL GOAL
  exact slice_sim H₂ (VR.step st₂ k₁) q2 q3 q4 q1
end
end Mini

/-! Names of the module, and calls. -/
namespace Mini
open PySem PySem.W

structure Gl (W : Wd) (K : Frag) : Prop where
  ok : WOk W
  X : K.In W.base
  top : ∃ mg mb, W.base.Ns mainGlobals mg ∧ W.base.Ns builtinsNs mb ∧ (∀ x : Str, x ≠ "__name__" → mb x = bootBuiltins x) ∧ ∃ pp loose, TopRead pp loose mg mb W.base

section
variable {W : Wd} {K : Frag} {fs : List Env} {env : Env} {vis : List (Option Str)} {s s' : Shared} {io io' : Io} {m m' : MH} {r : Lo} {fr : List Addr} {A : Around} {n : Nat} {pos p : Pos}

theorem HR.get (H : HR W s.heap io m) (gl : Gl W K) {a : Addr} {o : Obj} (h : K.lookup a = some o) : s.heap.get? a = some o := H.keep _ _ (gl.X _ _ h)

theorem name_K {x : Str} {v : Value} {Q : Value → Shared → Prop} {E : Value → Shared → Prop} {M : Model} (gl : Gl W K) (Z : Sit W fs env vis s io m r) (e : nsIn K mainGlobals x = some (some v)) (hx : env.kindOf x = some .globalImplicit) (hd : (x == ("__debug__" : Str)) = false) (h : Q v s) : wpAny M A (eval (.Name x p) env) Q E s := by
  refine hide fun GOAL hGOAL => ?_
  obtain ⟨mg, mb, g, b, _⟩ := gl.top
  refine hGOAL ?_
  clear hGOAL GOAL
  refine Calls.Name_function_global Z.F.kind hx (Calls.loadGlobal_global (mg := mg) ?_ (mg_of gl.X g e) h) hd
  rw [Z.F.glob]; exact g.keeps Z.H.keep
theorem name_B {x : Str} {v : Value} {Q : Value → Shared → Prop} {E : Value → Shared → Prop} {M : Model} (gl : Gl W K) (Z : Sit W fs env vis s io m r) (e : nsIn K mainGlobals x = some none) (hv : bootBuiltins x = some v) (hn : (x == ("__name__" : Str)) = false) (hx : env.kindOf x = some .globalImplicit) (hd : (x == ("__debug__" : Str)) = false) (h : Q v s) : wpAny M A (eval (.Name x p) env) Q E s := by
  refine hide fun GOAL hGOAL => ?_
  obtain ⟨mg, mb, g, b, hb, _⟩ := gl.top
  refine hGOAL ?_
  clear hGOAL GOAL
  have hn' : x ≠ "__name__" := fun q => by rw [q] at hn; simp at hn
  refine Calls.Name_function_global Z.F.kind hx (Calls.loadGlobal_builtin (mg := mg) (mb := mb) ?_ (mg_none_of gl.X g e) ?_ (by rw [hb x hn', hv]) h) hd
  · rw [Z.F.glob]; exact g.keeps Z.H.keep
  · rw [Z.F.blt]; exact b.keeps Z.H.keep

/-- no starred ones -/
noncomputable def noStar : List Expr → Bool
  | [] => true
  | .Starred _ _ :: _ => false
  | _ :: r => noStar r
theorem star_cons {e : Expr} {rest : List Expr} (h : noStar (e :: rest) = true) : starEach (e :: rest) env = (false, eval e env) :: starEach rest env := by
  cases e <;> first | rfl | (exact absurd h Bool.false_ne_true)
theorem noStar_tail {e : Expr} {rest : List Expr} (h : noStar (e :: rest) = true) : noStar rest = true := by
  cases e <;> first | exact h | (exact absurd h Bool.false_ne_true)
theorem plain_of {es : List Expr} (h : noStar es = true) : (backTo pos (starEach es env)).any (·.1) = false := by
  induction es with
  | nil => rfl
  | cons e rest ih => rw [star_cons h]; exact ih (noStar_tail h)

theorem args_of {M : Model} {E : Value → Shared → Prop} {f : Value} {es : List Expr} {Q : Args → Shared → Prop} (hs : noStar es = true) (h : wpAny M A (spliced (backTo pos (starEach es env))) (fun vs s' => Q ⟨vs, []⟩ s') E s) :
    wpAny M A (evalArgs f true (backTo pos (starEach es env)) []) Q E s := by
  cases es with
  | nil =>
    unfold evalArgs
    show wpAny M A (spliced [] >>= _) Q E s
    refine wpAny_bind (wpAny_mono (show wpAny M A (spliced []) (fun vs s' => Q ⟨vs, []⟩ s') E s from h) (fun vs s' q => ?_) fun _ _ x => x)
    refine wpAny_bind (wpAny_pure ?_)
    refine wpAny_holding ?_
    exact wpAny_bind (wpAny_pure (wpAny_bind (wpAny_pure (wpAny_pure q))))
  | cons e rest =>
    rw [star_cons hs] at h ⊢
    exact Calls.evalArgs_plain h

variable {es : List Expr} {cl : Lo → Mn (List V)} {Fk : List V → Mn V}
/-- what a callee does -/
noncomputable def SiF (W : Wd) (A : Around) (fs : List Env) (f : Value) (Fk : List V → Mn V) : Prop :=
  ∀ (s : Shared) (io : Io) (m : MH) (vs : List V) (us : List Value), HR W s.heap io m → FF W s.heap io fs → VRs W s.heap io vs us → Si W [] A fs (VP W) (call f us) s io m (Fk vs m)

/-- the same, as code -/
noncomputable def SiK (W : Wd) (A : Around) (fs : List Env) (f : Value) (Fk : List V → Mn V) : Prop :=
  ∀ (s : Shared) (io : Io) (m : MH) (vs : List V) (us : List Value), HR W s.heap io m → FF W s.heap io fs → VRs W s.heap io vs us → Fk vs m ≠ .bad →
    codeAny (model W.prog W.w) A (.call f ⟨us, []⟩) (fun r s' => match r with | .ok (.ret v) => NP W [] (frs fs) s io m (VP W) (Fk vs m) v s' | .ok _ => False | .error e => XP W [] fs s io m (Fk vs m) e s') s
theorem SiK.f {f : Value} {Fk : List V → Mn V} (x : SiK W A fs f Fk) : SiF W A fs f Fk := fun s io m vs us H G hu hne => wpAny_call (x s io m vs us H G hu hne)
/-- inside the call of a class -/
noncomputable def born (A : Around) : Around := { A with depth := A.depth + 1, units := A.units + 1 }
theorem e_callB {x : Str} {id : String} (gl : Gl W K) (e : nsIn K mainGlobals x = some none) (hv : bootBuiltins x = some (.builtin id)) (hn : (x == ("__name__" : Str)) = false) (hx : env.kindOf x = some .globalImplicit) (hd : (x == ("__debug__" : Str)) = false) (hs : noStar es = true)
    (hl : SiL W A fs env vis (spliced (backTo pos (starEach es env))) cl) (hf : SiF W A fs (.builtin id) Fk) : SiE W A fs env vis (eval (.Call (.Name x p) es [] pos) env) (fun r => bnd (cl r) fun vs => Fk vs) := by
  intro s io m r Z hne
  refine wpAny_Call_NameR (name_B gl Z e hv hn hx hd (Calls.callWith_builtin (plain_of hs) (args_of hs ?_)))
  refine wpAny_mono (hl s io m r Z (Res.bind_ne hne)) (fun us s' q => ?_) fun _ _ q => q.bind .refl (.refl _)
  refine hide fun GOAL hGOAL => ?_
  obtain ⟨vs, m', io', e', st, H, k, sm⟩ := q
  refine hGOAL ?_
  clear hGOAL GOAL
  have hne' : Fk vs m' ≠ .bad := fun q => hne (by show (cl r m).bind _ = _; rw [e']; exact q)
  have ee : bnd (cl r) (fun vs => Fk vs) m = Fk vs m' := by show (cl r m).bind _ = _; rw [e']; rfl
  show wpAny (model W.prog W.w) A (call (.builtin id) us) (NP W [] (frs fs) s io m (VP W) (bnd (cl r) (fun vs => Fk vs) m)) (XP W [] fs s io m (bnd (cl r) (fun vs => Fk vs) m)) s'
  rw [ee]
  exact wpAny_mono (hf _ _ _ _ _ H (Z.G.step0 st) k hne') (fun _ _ z => z.mono st sm) fun _ _ z => z.mono st sm
theorem e_callT {x : Str} {id : String} (gl : Gl W K) (e : nsIn K mainGlobals x = some none) (hv : bootBuiltins x = some (.type id)) (hn : (x == ("__name__" : Str)) = false) (hx : env.kindOf x = some .globalImplicit) (hd : (x == ("__debug__" : Str)) = false) (hs : noStar es = true)
    (hl : SiL W A fs env vis (spliced (backTo pos (starEach es env))) cl) (hf : SiF W A fs (.type id) Fk) : SiE W A fs env vis (eval (.Call (.Name x p) es [] pos) env) (fun r => bnd (cl r) fun vs => Fk vs) := by
  intro s io m r Z hne
  refine wpAny_Call_NameR (name_B gl Z e hv hn hx hd (callWith_type (plain_of hs) (args_of hs ?_)))
  refine wpAny_mono (hl s io m r Z (Res.bind_ne hne)) (fun us s' q => ?_) fun _ _ q => q.bind .refl (.refl _)
  refine hide fun GOAL hGOAL => ?_
  obtain ⟨vs, m', io', e', st, H, k, sm⟩ := q
  refine hGOAL ?_
  clear hGOAL GOAL
  have hne' : Fk vs m' ≠ .bad := fun q => hne (by show (cl r m).bind _ = _; rw [e']; exact q)
  have ee : bnd (cl r) (fun vs => Fk vs) m = Fk vs m' := by show (cl r m).bind _ = _; rw [e']; rfl
  show wpAny (model W.prog W.w) A (call (.type id) us) (NP W [] (frs fs) s io m (VP W) (bnd (cl r) (fun vs => Fk vs) m)) (XP W [] fs s io m (bnd (cl r) (fun vs => Fk vs) m)) s'
  rw [ee]
  exact wpAny_mono (hf _ _ _ _ _ H (Z.G.step0 st) k hne') (fun _ _ z => z.mono st sm) fun _ _ z => z.mono st sm
theorem e_callF {x : Str} {a : Addr} {o : Obj} {fd : FuncData} (gl : Gl W K) (e : nsIn K mainGlobals x = some (some (.ref a))) (ho : K.lookup a = some o) (hdata : o.data = .func fd) (hx : env.kindOf x = some .globalImplicit) (hd : (x == ("__debug__" : Str)) = false) (hs : noStar es = true)
    (hl : SiL W A fs env vis (spliced (backTo pos (starEach es env))) cl) (hf : SiF W A fs (.ref a) Fk) : SiE W A fs env vis (eval (.Call (.Name x p) es [] pos) env) (fun r => bnd (cl r) fun vs => Fk vs) := by
  intro s io m r Z hne
  refine wpAny_Call_NameR (name_K gl Z e hx hd (Calls.callWith_function (o := o) (fd := fd) (args_of hs ?_)))
  refine wpAny_mono (hl s io m r Z (Res.bind_ne hne)) (fun us s' q => ?_) fun _ _ q => q.bind .refl (.refl _)
  refine hide fun GOAL hGOAL => ?_
  obtain ⟨vs, m', io', e', st, H, k, sm⟩ := q
  refine hGOAL ?_
  clear hGOAL GOAL
  have hne' : Fk vs m' ≠ .bad := fun q => hne (by show (cl r m).bind _ = _; rw [e']; exact q)
  have ee : bnd (cl r) (fun vs => Fk vs) m = Fk vs m' := by show (cl r m).bind _ = _; rw [e']; rfl
  refine ⟨⟨H.get gl ho, hdata⟩, ?_⟩
  show wpAny (model W.prog W.w) A (call (.ref a) us) (NP W [] (frs fs) s io m (VP W) (bnd (cl r) (fun vs => Fk vs) m)) (XP W [] fs s io m (bnd (cl r) (fun vs => Fk vs) m)) s'
  rw [ee]
  exact wpAny_mono (hf _ _ _ _ _ H (Z.G.step0 st) k hne') (fun _ _ z => z.mono st sm) fun _ _ z => z.mono st sm
end
end Mini

/-! Statements. -/
namespace Mini
open PySem PySem.W

noncomputable def ownOf (env : Env) : List Addr := env.locals :: env.cells.filterMap fun q => env.cells.lookup q.1

structure Stt (W : Wd) (fs : List Env) (env : Env) (vis : List (Option Str)) (s : Shared) (io : Io) (m : MH) (r : Lo) : Prop where
  H : HR W s.heap io m
  F : FR W s.heap io env vis r
  G : FF W s.heap io fs
  fr : env.frame = some env.locals
  dis : ∀ L ∈ frs fs, L ∉ ownOf env

inductive FlR (W : Wd) (h : Heap) (io : Io) : Fl → Flow → Prop
  | next : FlR W h io .next .next
  | cont : FlR W h io .cont .cont
  | ret {v : V} {u : Value} : VR W h io v u → FlR W h io (.ret v) (.ret u)

noncomputable abbrev SP (W : Wd) (env : Env) (vis : List (Option Str)) : Heap → Io → Fl × Lo → Flow → Prop := fun h io p f => FlR W h io p.1 f ∧ FR W h io env vis p.2
noncomputable abbrev RP (W : Wd) (env : Env) (vis : List (Option Str)) : Heap → Io → Lo → Unit → Prop := fun h io r _ => FR W h io env vis r

section
variable {W : Wd} {fs : List Env} {env : Env} {vis : List (Option Str)} {s s' : Shared} {io io' : Io} {m m' : MH} {r r' : Lo} {fr own own' : List Addr} {A : Around} {n : Nat} {pos p : Pos}

theorem Step.wk {h h' : Heap} (x : Step own fr h io m h' io' m') (k : ∀ b ∈ own, b ∈ own') : Step own' fr h io m h' io' m' :=
  ⟨x.alive, x.solid, fun b o e f1 f2 => x.keep b o e f1 fun q => f2 (k b q), fun b o e f1 f2 => x.slots b o e f1 fun q => f2 (k b q), x.grow, x.dicts⟩
theorem Stt.sit (Z : Stt W fs env vis s io m r) : Sit W (env :: fs) env vis s io m r := by
  refine ⟨Z.H, Z.F, fun e he => ?_⟩
  rcases List.mem_cons.mp he with rfl | he
  · refine hide fun GOAL hGOAL => ?_
    obtain ⟨mp, ⟨o, es, ep, ho, hd, _⟩, _⟩ := Z.F.loc
    refine hGOAL ?_
    clear hGOAL GOAL
    exact ⟨by rw [Z.F.kind]; simp, e.locals, o, es, ep, Z.fr, Z.F.fresh, Z.F.nofoot, ho, hd⟩
  · exact Z.G e he
theorem Stt.step (Z : Stt W fs env vis s io m r) (H : HR W s'.heap io' m') (st : Step [] fr s.heap io m s'.heap io' m') : Stt W fs env vis s' io' m' r := ⟨H, Z.F.step0 Z.H st, Z.G.step0 st, Z.fr, Z.dis⟩
theorem Stt.stepO (Z : Stt W fs env vis s io m r) (H : HR W s'.heap io' m') (st : Step (ownOf env) fr s.heap io m s'.heap io' m') (F : FR W s'.heap io' env vis r') : Stt W fs env vis s' io' m' r' := ⟨H, F, Z.G.step st Z.dis, Z.fr, Z.dis⟩

theorem not_solid_dict {o : Obj} {es : Array DictEntry} {k : Nat} (h : o.data = .dict es k) : ¬ Solid o := by
  rintro (⟨_, _, _, e⟩ | ⟨_, _, _, e⟩) <;> rw [h] at e <;> cases e
theorem not_solid_cell {o : Obj} {v : Option Value} (h : o.data = .cell v) : ¬ Solid o := by
  rintro (⟨_, _, _, e⟩ | ⟨_, _, _, e⟩) <;> rw [h] at e <;> cases e

/-- a name takes a value -/
theorem store_sim (Z : Stt W fs env vis s io m r) {i : Nat} {x : Str} {v : V} {u : Value} (hv : vis[i]? = some (some x)) (hk : env.kindOf x = some .local ∨ env.kindOf x = some .cell) (k : VR W s.heap io v u) :
    Si W (ownOf env) A (env :: fs) (RP W env vis) (storeName env x u) s io m (.ok (r.set i (some v)) m) := by
  intro _
  have hi : i < vis.length := (List.getElem?_eq_some_iff.mp hv).1
  have F := Z.F
  -- the new row
  have row : ∀ (j : Nat) (y : Str) (w : V), vis[j]? = some (some y) → (r.set i (some v))[j]? = some (some w) → (y = x ∧ w = v) ∨ (y ≠ x ∧ r[j]? = some (some w)) := by
    intro j y w h1 h2
    by_cases q : i = j
    · subst q
      rw [List.getElem?_set_self (by rw [F.len]; exact hi)] at h2
      rw [hv] at h1
      cases h1; cases h2; exact .inl ⟨rfl, rfl⟩
    · rw [List.getElem?_set_ne q] at h2
      refine .inr ⟨fun e => q (F.inj i j x hv (e ▸ h1)), h2⟩
  rcases hk with hk | hk
  · refine hide fun GOAL hGOAL => ?_
    obtain ⟨mp, hn, hl⟩ := F.loc
    refine hGOAL ?_
    clear hGOAL GOAL
    refine hide fun GOAL hGOAL => ?_
    obtain ⟨oL, esL, epL, hoL, hdL, _⟩ := id hn
    refine hGOAL ?_
    clear hGOAL GOAL
    refine wpAny_storeName_local hk hn (fun h' hn' hs => ?_) (by rw [F.kind]; rfl)
    have kk : ∀ b o, b ≠ env.locals → s.heap.get? b = some o → h'.get? b = some o := fun b o q e => (hs.2 b q).trans e
    have lv : ∀ o, s.heap.get? env.locals = some o → ¬ Solid o ∧ ∃ o', h'.get? env.locals = some o' := fun o ho => by
      rw [hoL] at ho; cases ho
      refine hide fun GOAL hGOAL => ?_
      obtain ⟨o', _, _, ho', _⟩ := id hn'
      refine hGOAL ?_
      clear hGOAL GOAL
      exact ⟨not_solid_dict hdL, o', ho'⟩
    have st : Step (ownOf env) (frs (env :: fs)) s.heap io m h' io m := step_own Z.H (L := env.locals) (by simp [ownOf]) kk lv F.nofoot
    have H' : HR W h' io m := Z.H.ofOwn (own := ownOf env) (L := env.locals) (by simp [ownOf]) kk lv F.nofoot F.fresh
    refine ⟨_, m, io, rfl, st, H', ?_, rfl, rfl⟩
    refine ⟨F.kind, F.glob, F.blt, F.nofoot, F.fresh, ⟨_, hn', fun j y w h1 h2 h3 => ?_⟩, fun j y w h1 h2 h3 => ?_, fun y c hy => ?_, F.celex, F.apart, F.inj, by simp [F.len]⟩
    · rcases row j y w h1 h2 with ⟨rfl, rfl⟩ | ⟨q, h2⟩
      · exact ⟨u, by simp, k.step st⟩
      · refine hide fun GOAL hGOAL => ?_
        obtain ⟨u', e, k'⟩ := hl j y w h1 h2 h3
        refine hGOAL ?_
        clear hGOAL GOAL
        exact ⟨u', by simp [q, e], k'.step st⟩
    · rcases row j y w h1 h2 with ⟨rfl, rfl⟩ | ⟨q, h2⟩
      · rw [hk] at h3; simp at h3
      · refine hide fun GOAL hGOAL => ?_
        obtain ⟨c, u', e, k1, k2⟩ := F.cel j y w h1 h2 h3
        refine hGOAL ?_
        clear hGOAL GOAL
        refine ⟨c, u', e, ?_, k2.step st⟩
        refine hide fun GOAL hGOAL => ?_
        obtain ⟨oc, hoc, hdc⟩ := k1
        refine hGOAL ?_
        clear hGOAL GOAL
        exact ⟨oc, kk c oc (F.cells y c e).2.2 hoc, hdc⟩
    · refine hide fun GOAL hGOAL => ?_
      obtain ⟨⟨o, oc, hoc, hdc⟩, k2, k3⟩ := F.cells y c hy
      refine hGOAL ?_
      clear hGOAL GOAL
      exact ⟨⟨o, oc, kk c oc k3 hoc, hdc⟩, k2, k3⟩
  · obtain ⟨c, hc⟩ := F.celex i x hv (.inl hk)
    refine hide fun GOAL hGOAL => ?_
    obtain ⟨⟨o0, oc, hoc, hdc⟩, c2, c3⟩ := F.cells x c hc
    refine hGOAL ?_
    clear hGOAL GOAL
    have nf : ¬ Foot io c := Z.H.nofoot_of_cell hoc hdc
    refine wpAny_storeName_cell F.kind hk hc ⟨oc, hoc, hdc⟩ fun h' hn' hs => ?_
    have kk : ∀ b o, b ≠ c → s.heap.get? b = some o → h'.get? b = some o := fun b o q e => (hs.2 b q).trans e
    have lv : ∀ o, s.heap.get? c = some o → ¬ Solid o ∧ ∃ o', h'.get? c = some o' := fun o ho => by
      rw [hoc] at ho; cases ho
      refine hide fun GOAL hGOAL => ?_
      obtain ⟨o', ho', _⟩ := id hn'
      refine hGOAL ?_
      clear hGOAL GOAL
      exact ⟨not_solid_cell hdc, o', ho'⟩
    have hin : c ∈ ownOf env := by
      exact List.mem_cons_of_mem _ (List.mem_filterMap.mpr ⟨(x, c), mem_of_lookup hc, hc⟩)
    have st : Step (ownOf env) (frs (env :: fs)) s.heap io m h' io m := step_own Z.H (L := c) hin kk lv nf
    have H' : HR W h' io m := Z.H.ofOwn (own := ownOf env) (L := c) hin kk lv nf c2
    refine ⟨_, m, io, rfl, st, H', ?_, rfl, rfl⟩
    refine hide fun GOAL hGOAL => ?_
    obtain ⟨mp, hn, hl⟩ := F.loc
    refine hGOAL ?_
    clear hGOAL GOAL
    have other : ∀ y c', env.cells.lookup y = some c' → y ≠ x → c' ≠ c := fun y c' hy q e => q (F.apart y x c (e ▸ hy) hc)
    refine ⟨F.kind, F.glob, F.blt, F.nofoot, F.fresh, ⟨mp, ?_, fun j y w h1 h2 h3 => ?_⟩, fun j y w h1 h2 h3 => ?_, fun y c' hy => ?_, F.celex, F.apart, F.inj, by simp [F.len]⟩
    · exact hn.sameBut hs (Ne.symm c3)
    · rcases row j y w h1 h2 with ⟨rfl, rfl⟩ | ⟨q, h2⟩
      · rw [hk] at h3; simp at h3
      · refine hide fun GOAL hGOAL => ?_
        obtain ⟨u', e, k'⟩ := hl j y w h1 h2 h3
        refine hGOAL ?_
        clear hGOAL GOAL
        exact ⟨u', e, k'.step st⟩
    · rcases row j y w h1 h2 with ⟨rfl, rfl⟩ | ⟨q, h2⟩
      · exact ⟨c, u, hc, hn', k.step st⟩
      · refine hide fun GOAL hGOAL => ?_
        obtain ⟨c', u', e, k1, k2⟩ := F.cel j y w h1 h2 h3
        refine hGOAL ?_
        clear hGOAL GOAL
        refine ⟨c', u', e, ?_, k2.step st⟩
        refine hide fun GOAL hGOAL => ?_
        obtain ⟨oc', hoc', hdc'⟩ := k1
        refine hGOAL ?_
        clear hGOAL GOAL
        exact ⟨oc', kk c' oc' (other y c' e q) hoc', hdc'⟩
    · refine hide fun GOAL hGOAL => ?_
      obtain ⟨⟨o, oc', hoc', hdc'⟩, k2, k3⟩ := F.cells y c' hy
      refine hGOAL ?_
      clear hGOAL GOAL
      by_cases q : c' = c
      · subst q; exact ⟨⟨_, hn'⟩, k2, k3⟩
      · exact ⟨⟨o, oc', kk c' oc' q hoc', hdc'⟩, k2, k3⟩
end
end Mini

/-! The keys of a dict, one by one, whatever they are. -/
namespace Mini
open PySem PySem.W

section
variable {prog : Program} {w : World} {A : Around} {E : Value → Shared → Prop} {s : Shared} {it d : Addr} {i ep : Nat} {o : Obj} {es : Array DictEntry}

theorem keys_iter {Q : Value → Shared → Prop} (hd : (d == sysModules) = false) (ho : s.heap.get? d = some o) (hc : o.ExactDict) (hdat : o.data = .dict es ep)
    (hQ : Q (.ref s.heap.objs.size) { s with heap := s.heap.push { cls := .type "dict_keyiterator", data := .fields #[.ref d, .int 0 0, .int es.size 0, .int ep 0] } }) : wpAny (model prog w) A (pyIter (.ref d)) Q E s := by
  have hT : s.TypeIs (.ref d) "dict" := ⟨o, ho, hc.1⟩
  refine wpAny_pyIter_slot hT F.slot_dict_iter (wpAny_call_entry F.slot_dict_iter hT F.entry_dict_iter ?_ (F.args_dict_iter_1 _))
  unfold Builtin.«dict.__iter__»
  refine wpAny_bind ?_
  unfold Builtin.Dict.dictSlotNone
  refine wpAny_bind (wpAny_notOrdered_dict hT ?_)
  show wpAny _ _ (pure (Value.ref d)) _ _ s
  refine wpAny_pure ?_
  show wpAny _ _ (Builtin.Dict.showsAll d >>= _) _ _ s
  unfold Builtin.Dict.showsAll
  rw [if_neg (by rw [hd]; exact Bool.false_ne_true)]
  refine wpAny_bind (wpAny_pure (wpAny_bind (wpAny_dictEntries ho hdat (wpAny_bind (wpAny_dictEpoch ho hdat ?_)))))
  exact wpAny_bind (wpAny_newObj_type (wpAny_pure ⟨_, rfl, "dict_keyiterator", _, ⟨_, Heap.get?_push_size _ rfl, rfl⟩, F.slot_dict_keyiterator_next.lookup, hQ⟩))

theorem keys_next {Q : Option Value → Shared → Prop} (hit : s.heap.IsKeyIter it d i es.size ep) (ho : s.heap.get? d = some o) (hdat : o.data = .dict es ep) (hlt : i < es.size)
    (hQ : ∀ h', h'.IsKeyIter it d (i + 1) es.size ep → Heap.SameBut it s.heap h' → Q (some es[i].key) { s with heap := h' }) : wpAny (model prog w) A (pyNext (.ref it)) Q E s := by
  obtain ⟨oi, hoi, hci, hdi⟩ := id hit
  unfold pyNext
  refine wpAny_bind (wpAny_attempt (wpAny_callSpecial?_slot (name := Str.ofString "__next__") hit.typeIs F.slot_dict_keyiterator_next
    (wpAny_call_entry F.slot_dict_keyiterator_next hit.typeIs F.entry_dict_keyiterator_next ?_ (F.args_dict_keyiterator_next_1 _))))
  refine wpAny_bind (wpAny_pure (wpAny_bind (wpAny_bind ?_)))
  first | refine wpAny_bind (wpAny_typeNameOfWhole_keyiter hit.typeIs (wpAny_pure ?_)) | refine wpAny_bind (wpAny_typeNameOf_keyiter hit.typeIs (wpAny_pure ?_))
  refine wpAny_bind (wpAny_fieldsOf hoi hdi ?_)
  have hown : Builtin.Dict_items.ownsTuple "dict_keyiterator" = false := by decide
  rw [if_neg (by rw [hown]; exact Bool.false_ne_true)]
  show wpAny _ _ (if (Value.ref d == Value.none) = true then _ else _) _ _ s
  rw [if_neg (show ¬ ((Value.ref d == Value.none) = true) from Bool.false_ne_true)]
  refine wpAny_bind (wpAny_pure (wpAny_bind (wpAny_dictEntries ho hdat ?_)))
  rw [if_neg (by simp)]
  refine wpAny_bind (wpAny_pure (wpAny_bind (wpAny_dictEpoch ho hdat ?_)))
  rw [if_neg (by simp)]
  refine wpAny_pure ?_
  dsimp only
  rw [if_neg (show ¬ ((i : Int) < 0) from Int.not_lt.mpr (Int.natCast_nonneg i)), Int.toNat_natCast, Array.getElem?_eq_getElem hlt]
  refine wpAny_bind ?_
  first | refine wpAny_bind (wpAny_typeNameOfWhole_keyiter hit.typeIs (wpAny_pure ?_)) | refine wpAny_bind (wpAny_typeNameOf_keyiter hit.typeIs (wpAny_pure ?_))
  refine wpAny_bind (wpAny_isOneOf_keyiter hit.typeIs ?_)
  show wpAny _ _ (setField (.ref it) 1 (rawInt ((i : Int) + 1)) >>= _) _ _ s
  refine wpAny_bind (wpAny_setField hoi hdi (by simp) ?_)
  have hit' : (s.heap.update it (Obj.mapFields (·.setIfInBounds 1 (rawInt ((i : Int) + 1))))).IsKeyIter it d (i + 1) es.size ep :=
    ⟨_, Heap.get?_update_self _ hoi (Obj.isFreed_of_fields (Obj.data_mapFields hdi _)), (Obj.cls_mapFields ..).trans hci, by rw [Obj.data_mapFields hdi]; simp [rawInt]⟩
  refine wpAny_bind (wpAny_holding ?_)
  refine wpAny_bind (wpAny_isOneOf_keyiter (s := { s with heap := s.heap.update it (Obj.mapFields (·.setIfInBounds 1 (rawInt ((i : Int) + 1)))) }) hit'.typeIs ?_)
  show wpAny _ _ (pure es[i].key) _ _ _
  exact wpAny_pure (wpAny_pure ⟨_, rfl, wpAny_pure (hQ _ hit' (Heap.SameBut.update ..))⟩)

theorem keys_end {Q : Option Value → Shared → Prop} (hh : A.handled = none) (hit : s.heap.IsKeyIter it d i es.size ep) (ho : s.heap.get? d = some o) (hdat : o.data = .dict es ep) (hge : es.size ≤ i)
    (hQ : ∀ h', Heap.ExtBut it s.heap h' → Q none { s with heap := h' }) : wpAny (model prog w) A (pyNext (.ref it)) Q E s := by
  obtain ⟨oi, hoi, hci, hdi⟩ := id hit
  unfold pyNext
  refine wpAny_bind (wpAny_attempt (wpAny_callSpecial?_slot (name := Str.ofString "__next__") hit.typeIs F.slot_dict_keyiterator_next
    (wpAny_call_entry F.slot_dict_keyiterator_next hit.typeIs F.entry_dict_keyiterator_next ?_ (F.args_dict_keyiterator_next_1 _))))
  refine wpAny_bind (wpAny_pure (wpAny_bind (wpAny_bind ?_)))
  first | refine wpAny_bind (wpAny_typeNameOfWhole_keyiter hit.typeIs (wpAny_pure ?_)) | refine wpAny_bind (wpAny_typeNameOf_keyiter hit.typeIs (wpAny_pure ?_))
  refine wpAny_bind (wpAny_fieldsOf hoi hdi ?_)
  have hown : Builtin.Dict_items.ownsTuple "dict_keyiterator" = false := by decide
  rw [if_neg (by rw [hown]; exact Bool.false_ne_true)]
  show wpAny _ _ (if (Value.ref d == Value.none) = true then _ else _) _ _ s
  rw [if_neg (show ¬ ((Value.ref d == Value.none) = true) from Bool.false_ne_true)]
  refine wpAny_bind (wpAny_pure (wpAny_bind (wpAny_dictEntries ho hdat ?_)))
  rw [if_neg (by simp)]
  refine wpAny_bind (wpAny_pure (wpAny_bind (wpAny_dictEpoch ho hdat ?_)))
  rw [if_neg (by simp)]
  refine wpAny_pure ?_
  dsimp only
  rw [if_neg (show ¬ ((i : Int) < 0) from Int.not_lt.mpr (Int.natCast_nonneg i)), Int.toNat_natCast, Array.getElem?_eq_none hge]
  refine wpAny_bind ?_
  first | refine wpAny_bind (wpAny_typeNameOfWhole_keyiter hit.typeIs (wpAny_pure ?_)) | refine wpAny_bind (wpAny_typeNameOf_keyiter hit.typeIs (wpAny_pure ?_))
  show wpAny _ _ (setField (.ref it) 0 .none >>= _) _ _ s
  refine wpAny_bind (wpAny_setField hoi hdi (by simp) ?_)
  show wpAny _ _ (newExc (.type "StopIteration") [] >>= _) _ _ _
  refine wpAny_bind ?_
  simp only [newExc, newTuple]
  refine wpAny_bind (wpAny_newObj_type ?_ (by size_fits))
  refine wpAny_bind (m := firstArgMember _ _) (wpAny_of_eq (a := Value.none) (by first | rfl | (simp only [firstArgMember]; rfl)) ?_)
  refine wpAny_newObj_type ?_ (by size_fits)
  unfold raiseNew
  refine wpAny_bind (wpAny_handled ?_)
  rw [show A.in1.handled = none from hh]
  refine wpAny_bind (wpAny_pure (wpAny_throw ?_))
  refine wpAny_bind (wpAny_isInstance (T := "StopIteration") (b := true) ⟨_, Heap.get?_push_size _ rfl, rfl⟩ isSubtype_stop ?_)
  exact wpAny_pure (hQ _ (((Heap.SameBut.update ..).extBut.push _).push _))
end
end Mini

/-! What a loop goes over. -/
namespace Mini
open PySem PySem.W

section
variable {W : Wd} {h h' : Heap} {fs : List Env} {env : Env} {vis : List (Option Str)} {s s' : Shared} {io io' io₀ : Io} {m m' m₀ : MH} {r r' : Lo} {fr own own' : List Addr} {A : Around} {n : Nat} {pos p : Pos}

noncomputable def Sol (h h' : Heap) : Prop := ∀ b o, h.get? b = some o → Solid o → h'.get? b = some o
theorem VR.sol (x : Sol h h') {v : V} {u : Value} (k : VR W h io v u) : VR W h' io v u := k.mono x fun _ _ e => e
theorem VRs.sol (x : Sol h h') {v : List V} {u : List Value} (k : VRs W h io v u) : VRs W h' io v u := k.mono x fun _ _ e => e
theorem ERs.sol (x : Sol h h') {kvs : List (Ky × V)} {es : List DictEntry} (e : ERs W h io kvs es) : ERs W h' io kvs es := e.mono x fun _ _ e => e
theorem FEs.sol (x : Sol h h') {fs : List (Nat × V)} {mA : Str → Option Value} (e : FEs W h io fs mA) : FEs W h' io fs mA := e.mono x fun _ _ e => e
theorem OR.sol (x : Sol h h') {a d : Addr} {o : MObj} (k : OR W h io a d o) (ha : ∀ o, h.get? a = some o → h'.get? a = some o) (hd : ∀ o, h.get? d = some o → h'.get? d = some o) : OR W h' io a d o := by
  cases o with
  | list xs =>
    refine hide fun GOAL hGOAL => ?_
    obtain ⟨e, vs, n, h1, h4, h5⟩ := k
    refine hGOAL ?_
    clear hGOAL GOAL
    exact ⟨e, vs, n, ha _ h1, h4.sol x, h5⟩
  | dict kvs ep =>
    refine hide fun GOAL hGOAL => ?_
    obtain ⟨e, o, es, n, h1, h2, h3, h4, h5⟩ := k
    refine hGOAL ?_
    clear hGOAL GOAL
    exact ⟨e, o, es, n, ha _ h1, h2, h3, h4.sol x, h5⟩
  | inst c fs =>
    refine hide fun GOAL hGOAL => ?_
    obtain ⟨e, mA, h1, h2, h3, h4⟩ := k
    refine hGOAL ?_
    clear hGOAL GOAL
    exact ⟨e, mA, ha _ h1, h2.at hd, h3.sol x, h4⟩
theorem HR.sol (H : HR W h io m) (x : Sol h h') (hf : ∀ b o, Foot io b → h.get? b = some o → h'.get? b = some o) (hb : ∀ b o, W.base.get? b = some o → h'.get? b = some o) : HR W h' io m :=
  ⟨hb, H.len, fun n p o hi hm => (H.obj n p o hi hm).sol x (fun o => hf p.1 o ⟨p, List.mem_of_getElem? hi, .inl rfl⟩) fun o => hf p.2 o ⟨p, List.mem_of_getElem? hi, .inr rfl⟩, H.fresh, H.apart⟩

/-- objects that were not there at the start change -/
structure Side (W : Wd) (wr : List Addr) (h₀ h : Heap) (io : Io) (h' : Heap) : Prop where
  keep : ∀ b o, b ∉ wr → h.get? b = some o → h'.get? b = some o
  new : ∀ b ∈ wr, h₀.get? b = none
  foot : ∀ b ∈ wr, ¬ Foot io b
  soft : ∀ b ∈ wr, ∀ o, h.get? b = some o → ¬ Solid o
theorem Side.sol {wr : List Addr} {h₀ : Heap} (x : Side W wr h₀ h io h') : Sol h h' := fun b o e so => x.keep b o (fun q => x.soft b q o e so) e
theorem Side.step {wr : List Addr} {h₀ : Heap} (x : Side W wr h₀ h io h') (H : HR W h io m) (st : Step own fr h₀ io₀ m₀ h io m) : Step own fr h₀ io₀ m₀ h' io m := by
  have nw : ∀ b o, h₀.get? b = some o → b ∉ wr := fun b o e q => by rw [x.new b q] at e; cases e
  refine ⟨fun b o e => ?_, fun b o e so => ?_, fun b o e f1 f2 f3 => x.keep _ _ (nw b o e) (st.keep b o e f1 f2 f3), fun b o e f1 f2 => ?_, st.grow, fun n p kvs ep hi hm => ?_⟩
  · obtain ⟨o', e'⟩ := st.alive b o e
    exact ⟨o', x.keep _ _ (nw b o e) e'⟩
  · exact x.keep _ _ (nw b o e) (st.solid b o e so)
  · obtain ⟨sl, e'⟩ := st.slots b o e f1 f2
    exact ⟨sl, x.keep _ _ (nw b o e) e'⟩
  · refine hide fun GOAL hGOAL => ?_
    obtain ⟨k', e', q1, q2, q3⟩ := st.dicts n p kvs ep hi hm
    refine hGOAL ?_
    clear hGOAL GOAL
    refine ⟨k', e', q1, q2, fun q => ⟨?_, (q3 q).2⟩⟩
    have hi' := st.io_get hi
    obtain ⟨o, ho⟩ := H.there hi'
    rw [← (q3 q).1, ho]
    exact x.keep _ _ (fun w => x.foot _ w ⟨p, List.mem_of_getElem? hi', .inl rfl⟩) ho
theorem Side.hr {wr : List Addr} {h₀ : Heap} (x : Side W wr h₀ h io h') (H : HR W h io m) (hb : ∀ b o, W.base.get? b = some o → h₀.get? b = some o) : HR W h' io m :=
  H.sol x.sol (fun b o f e => x.keep b o (fun q => x.foot b q f) e) fun b o e => x.keep b o (fun q => by have := hb b o e; rw [x.new b q] at this; cases this) (H.keep b o e)

theorem lot_plain {target : Expr} {I : Addr} {o : Obj} {T : String} {ws : Array Value} {u : Value} {Q : Unit → Shared → Prop} {E : Value → Shared → Prop} {M : Model} (ho : s.heap.get? I = some o) (hc : o.cls = .type T) (hd : o.data = .fields ws)
    (hT : (["enumerate", "zip", "dict_itemiterator", "dict_reverseitemiterator", "odict_iterator", "itertools.zip_longest", "itertools.pairwise"].contains T) = false) (h : Q () s) : wpAny M A (letOwnedTupleGo target (.ref I) u) Q E s := by
  have key : ∀ a : Addr, wpAny M A (do
      let o ← load I
      match o.cls, o.data with
      | .type n, .fields vs =>
        if ["enumerate", "zip", "dict_itemiterator", "dict_reverseitemiterator", "odict_iterator", "itertools.zip_longest", "itertools.pairwise"].contains n && vs[0]? == some (rawInt a) then
          rule "for.unpacks-the-owned-tuple"
          updateField I 0 .none
      | _, _ => pure ()) Q E s := fun a => by
    refine wpAny_bind (wpAny_load ho ?_)
    rw [hc, hd]
    simp only [hT, Bool.false_and]
    exact wpAny_pure h
  unfold letOwnedTupleGo
  cases target <;> first | exact wpAny_pure h | skip
  all_goals
    cases u <;> first | exact wpAny_pure h | exact key _

/-- a thing that is gone over: the iterator, what it writes, the items -/
structure Wk (W : Wd) (A : Around) (I : Addr) (wr : List Addr) (g : Gd) (vs : List V) (St : Nat → Heap → Io → Prop) : Prop where
  soft : ∀ {i : Nat} {h : Heap} {io : Io}, St i h io → ∀ b ∈ wr, ¬ Foot io b ∧ ∀ o, h.get? b = some o → ¬ Solid o
  stay : ∀ {i : Nat} {h h' : Heap} {io io' : Io} {m m' : MH} {own fr : List Addr}, St i h io → HR W h io m → HR W h' io' m' → Step own fr h io m h' io' m' → (∀ b ∈ wr, b ∉ own ∧ b ∉ fr) → g.stays m = true → g.stays m' = true → St i h' io'
  item : ∀ {i : Nat} {s : Shared} {io : Io} {m : MH} {v : V} {Q : Option Value → Shared → Prop} {E : Value → Shared → Prop}, vs[i]? = some v → St i s.heap io → HR W s.heap io m → g.stays m = true →
    (∀ u h' tk, VR W s.heap io v u → St (i + 1) h' io → (∀ b o, b ∉ wr → s.heap.get? b = some o → h'.get? b = some o) → Q (some u) { s with heap := h', toks := tk }) → wpAny (model W.prog W.w) A (pyNext (.ref I)) Q E s
  alive : ∀ {i : Nat} {h : Heap} {io : Io}, St i h io → ∀ b ∈ wr, ∃ o, h.get? b = some o
  self : ∀ {i : Nat} {s : Shared} {io : Io} {Q : Value → Shared → Prop} {E : Value → Shared → Prop}, St i s.heap io → Q (.ref I) s → wpAny (model W.prog W.w) A (pyIter (.ref I)) Q E s
  lot : ∀ {i : Nat} {s : Shared} {io : Io} {target : Expr} {u : Value} {Q : Unit → Shared → Prop} {E : Value → Shared → Prop}, St i s.heap io → (∀ h', St i h' io → (∀ b o, b ∉ wr → s.heap.get? b = some o → h'.get? b = some o) → Q () { s with heap := h' }) → wpAny (model W.prog W.w) A (letOwnedTupleGo target (.ref I) u) Q E s
  done : ∀ {s : Shared} {io : Io} {m : MH} {Q : Option Value → Shared → Prop} {E : Value → Shared → Prop}, St vs.length s.heap io → HR W s.heap io m → g.stays m = true →
    (∀ h' tk, (∀ b o, b ∉ wr → s.heap.get? b = some o → h'.get? b = some o) → Q none { s with heap := h', toks := tk }) → wpAny (model W.prog W.w) A (pyNext (.ref I)) Q E s

theorem no_tf {C : Prop} (h : false = true) : C := by cases h
mutual
theorem same_eq : ∀ (x y : V), V.same x y = true → x = y
  | .none, y, h => by cases y <;> first | rfl | (exact no_tf h)
  | .bool a, y, h => by cases y <;> first | (exact no_tf h) | (exact congrArg V.bool (eq_of_beq h))
  | .int a, y, h => by cases y <;> first | (exact no_tf h) | (exact congrArg V.int (eq_of_beq h))
  | .str a, y, h => by cases y <;> first | (exact no_tf h) | (exact congrArg V.str (eq_of_beq h))
  | .tup xs, y, h => by cases y <;> first | (exact no_tf h) | (exact congrArg V.tup (sames_eq xs _ h))
  | .ref a, y, h => by cases y <;> first | (exact no_tf h) | (exact congrArg V.ref (eq_of_beq h))
  | .fn a, y, h => by cases y <;> first | (exact no_tf h) | (exact congrArg V.fn (eq_of_beq h))
  | .exc a, y, h => by cases y <;> first | (exact no_tf h) | (exact congrArg V.exc (eq_of_beq h))
  | .scr a, y, h => by cases y <;> first | (exact no_tf h) | (exact congrArg V.scr (eq_of_beq h))
theorem sames_eq : ∀ (xs ys : List V), V.sames xs ys = true → xs = ys
  | [], ys, h => by
    cases ys with
    | nil => rfl
    | cons _ _ => exact no_tf h
  | x :: xs, ys, h => by
    cases ys with
    | nil => exact no_tf h
    | cons y ys =>
      have h : (V.same x y && V.sames xs ys) = true := h
      rw [Bool.and_eq_true] at h
      rw [same_eq x y h.1, sames_eq xs ys h.2]
end

theorem fields_soft {o : Obj} {T : String} {vs : Array Value} (hc : o.cls = .type T) (hd : o.data = .fields vs) : ¬ Solid o := by
  rintro (⟨_, _, _, e⟩ | ⟨C, _, e, _⟩)
  · rw [hd] at e; cases e
  · rw [hc] at e; cases e

theorem Wk.list {I a d : Addr} {k : Nat} {xs : List V} (hh : A.handled = none) : Wk W A I [I] (.list k xs) xs (fun i h io => h.IsListIter I a i ∧ io[k]? = some (a, d) ∧ ¬ Foot io I) where
  soft := fun ⟨⟨o, ho, hc, hd⟩, _, nf⟩ b hb => by
    rw [List.mem_singleton.mp hb]
    exact ⟨nf, fun o' e => by rw [ho] at e; cases e; exact fields_soft hc hd⟩
  stay := fun ⟨⟨o, ho, hc, hd⟩, hi, nf⟩ H _ st hb _ _ => by
    have q := hb I (.head _)
    exact ⟨⟨o, st.keep _ _ ho nf q.1 q.2, hc, hd⟩, st.io_get hi, st.nofoot ho nf⟩
  item := fun {i s io m v Q E} hv ⟨hit, hi, nf⟩ H hg hQ => by
    simp only [Gd.stays] at hg
    split at hg
    · rename_i ys hm
      have e := sames_eq _ _ hg
      subst e
      refine hide fun GOAL hGOAL => ?_
      obtain ⟨_, us, c, h1, h2, h3⟩ := H.obj _ _ _ hi hm
      refine hGOAL ?_
      clear hGOAL GOAL
      refine hide fun GOAL hGOAL => ?_
      obtain ⟨u, hu, ku⟩ := h2.get hv
      refine hGOAL ?_
      clear hGOAL GOAL
      refine wpAny_pyNext_list_item hit ⟨_, h1, rfl, c, rfl⟩ (by simpa using hu) fun h' hit' hs => ?_
      exact hQ u h' s.toks ku ⟨hit', hi, nf⟩ fun b o hb e => (hs.2 b (by simpa using hb)).trans e
    · cases hg
  alive := fun ⟨⟨o, ho, _⟩, _⟩ b hb => by rw [List.mem_singleton.mp hb]; exact ⟨o, ho⟩
  self := fun st hQ => wpAny_pyIter_listiter st.1 hQ
  lot := fun {i s io target u Q E} st hQ => by
    refine hide fun GOAL hGOAL => ?_
    obtain ⟨⟨o, ho, hc, hd⟩, _⟩ := id st
    refine hGOAL ?_
    clear hGOAL GOAL
    exact lot_plain ho hc hd (by decide) (hQ _ st fun _ _ _ e => e)
  done := fun {s io m Q E} ⟨hit, hi, nf⟩ H hg hQ => by
    simp only [Gd.stays] at hg
    split at hg
    · rename_i ys hm
      have e := sames_eq _ _ hg
      subst e
      refine hide fun GOAL hGOAL => ?_
      obtain ⟨_, us, c, h1, h2, h3⟩ := H.obj _ _ _ hi hm
      refine hGOAL ?_
      clear hGOAL GOAL
      have hl := h2.length
      refine wpAny_pyNext_list_end hh hit ⟨_, h1, rfl, c, rfl⟩ (by simp at hl; simp [hl]) fun h' hs => ?_
      exact hQ h' s.toks fun b o hb e => hs b o (by simpa using hb) e
    · cases hg

/-- from the kit's walks over what stays -/
theorem Wk.of_walks {I : Addr} {fp : List Addr} {k : Nat} {P : Nat → Value → Prop} {St : Nat → Heap → Prop} {vs : List V} (hw : Walks W.prog W.w A I fp [I] k P St) (hk : k = vs.length)
    (hP : ∀ (i : Nat) (v : V) (u : Value) (h : Heap) (io : Io), vs[i]? = some v → P i u → VR W h io v u)
    (hI : ∀ i h, St i h → ∃ o T ws, h.get? I = some o ∧ o.cls = .type T ∧ o.data = .fields ws ∧ (["enumerate", "zip", "dict_itemiterator", "dict_reverseitemiterator", "odict_iterator", "itertools.zip_longest", "itertools.pairwise"].contains T) = false)
    (hfp : ∀ b ∈ fp, b = I ∨ ∃ o, W.base.get? b = some o) : Wk W A I [I] .none vs (fun i h io => St i h ∧ ¬ Foot io I) where
  soft := fun ⟨st, nf⟩ b hb => by
    rw [List.mem_singleton.mp hb]
    refine hide fun GOAL hGOAL => ?_
    obtain ⟨o, T, ws, ho, hc, hd, hT⟩ := hI _ _ st
    refine hGOAL ?_
    clear hGOAL GOAL
    exact ⟨nf, fun o' e => by rw [ho] at e; cases e; exact fields_soft hc hd⟩
  stay := fun {i h h' io io' m m' own fr} ⟨st, nf⟩ H H' x hb _ _ => by
    refine hide fun GOAL hGOAL => ?_
    obtain ⟨o, T, ws, ho, hc, hd, hT⟩ := hI _ _ st
    refine hGOAL ?_
    clear hGOAL GOAL
    have q := hb I (.head _)
    refine ⟨hw.frame i h h' st fun b hb o' e => ?_, x.nofoot ho nf⟩
    rcases hfp b hb with rfl | ⟨ob, k⟩
    · exact x.keep _ _ e nf q.1 q.2
    · rw [H.keep _ _ k] at e; cases e; exact H'.keep _ _ k
  item := fun {i s io m v Q E} hv ⟨st, nf⟩ H hg hQ => by
    have hi : i < k := by rw [hk]; exact (List.getElem?_eq_some_iff.mp hv).1
    exact hw.item i s Q E hi st fun u h' tk p st' kk => hQ u h' tk (hP i v u _ _ hv p) ⟨st', nf⟩ kk
  alive := fun ⟨st, _⟩ b hb => by
    refine hide fun GOAL hGOAL => ?_
    obtain ⟨o, _, _, ho, _⟩ := hI _ _ st
    refine hGOAL ?_
    clear hGOAL GOAL
    rw [List.mem_singleton.mp hb]; exact ⟨o, ho⟩
  self := fun {i s io Q E} st hQ => hw.self i s Q E st.1 hQ
  lot := fun {i s io target u Q E} st hQ => by
    refine hide fun GOAL hGOAL => ?_
    obtain ⟨o, T, ws, ho, hc, hd, hT⟩ := hI _ _ st.1
    refine hGOAL ?_
    clear hGOAL GOAL
    exact lot_plain ho hc hd hT (hQ _ st fun _ _ _ e => e)
  done := fun {s io m Q E} ⟨st, nf⟩ H hg hQ => hw.done s Q E (hk ▸ st) hQ

theorem ERs.keys {kvs : List (Ky × V)} {es : List DictEntry} (x : ERs W h io kvs es) : VRs W h io (kvs.map fun p => p.1.val) (es.map (·.key)) := by
  induction x with
  | nil => exact .nil
  | cons h1 _ _ ih => exact .cons h1 ih
theorem stays_dict {k e : Nat} (hg : (Gd.dict k e).stays m = true) : ∃ kvs, m[k]? = some (.dict kvs e) := by
  simp only [Gd.stays] at hg
  split at hg
  · rename_i kvs e' hm
    rw [eq_of_beq hg]; exact ⟨kvs, hm⟩
  · cases hg
theorem Wk.dict {I a d : Addr} {k e ep : Nat} {o : Obj} {es : Array DictEntry} {vs : List V} (hh : A.handled = none) (hd : o.data = .dict es ep) :
    Wk W A I [I] (.dict k e) vs (fun i h io => h.IsKeyIter I a i es.size ep ∧ io[k]? = some (a, d) ∧ h.get? a = some o ∧ VRs W h io vs (es.toList.map (·.key)) ∧ I ≠ a ∧ ¬ Foot io I) where
  soft := fun ⟨⟨oi, hoi, hci, hdi⟩, _, _, _, _, nf⟩ b hb => by
    rw [List.mem_singleton.mp hb]
    exact ⟨nf, fun o' e => by rw [hoi] at e; cases e; exact fields_soft hci hdi⟩
  stay := fun {i h h' io io' m m' own fr} ⟨⟨oi, hoi, hci, hdi⟩, hi, ha, hv, hn, nf⟩ H H' st hb g1 g2 => by
    have q := hb I (.head _)
    obtain ⟨kvs, hm⟩ := stays_dict g1
    obtain ⟨kvs', hm'⟩ := stays_dict g2
    obtain ⟨ks, e', q1, _, q3⟩ := st.dicts _ _ _ _ hi hm
    rw [hm'] at q1; cases q1
    exact ⟨⟨oi, st.keep _ _ hoi nf q.1 q.2, hci, hdi⟩, st.io_get hi, (q3 rfl).1.trans ha, hv.step st, hn, st.nofoot hoi nf⟩
  item := fun {i s io m v Q E} hv ⟨hit, hi, ha, hx, hn, nf⟩ H hg hQ => by
    refine hide fun GOAL hGOAL => ?_
    obtain ⟨u, hu, ku⟩ := hx.get hv
    refine hGOAL ?_
    clear hGOAL GOAL
    rw [List.getElem?_map, Array.getElem?_toList] at hu
    have hlt : i < es.size := by
      rcases Nat.lt_or_ge i es.size with q | q
      · exact q
      · rw [Array.getElem?_eq_none q] at hu; cases hu
    rw [Array.getElem?_eq_getElem hlt] at hu
    cases hu
    refine keys_next hit ha hd hlt fun h' hit' hs => ?_
    have kk : ∀ b o, b ∉ [I] → s.heap.get? b = some o → h'.get? b = some o := fun b o hb e => (hs.2 b (by simpa using hb)).trans e
    refine hQ _ h' s.toks ku ⟨hit', hi, kk _ _ (by simpa using Ne.symm hn) ha, hx.sol fun b o e so => ?_, hn, nf⟩ kk
    refine hide fun GOAL hGOAL => ?_
    obtain ⟨oi, hoi, hci, hdi⟩ := hit
    refine hGOAL ?_
    clear hGOAL GOAL
    exact kk b o (fun q => by rw [List.mem_singleton.mp q, hoi] at e; cases e; exact fields_soft hci hdi so) e
  alive := fun ⟨⟨o, ho, _⟩, _⟩ b hb => by rw [List.mem_singleton.mp hb]; exact ⟨o, ho⟩
  self := fun st hQ => wpAny_pyIter_keyiter st.1 hQ
  lot := fun {i s io target u Q E} st hQ => by
    refine hide fun GOAL hGOAL => ?_
    obtain ⟨⟨oi, hoi, hci, hdi⟩, _⟩ := id st
    refine hGOAL ?_
    clear hGOAL GOAL
    exact lot_plain hoi hci hdi (by decide) (hQ _ st fun _ _ _ e => e)
  done := fun {s io m Q E} ⟨hit, hi, ha, hx, hn, nf⟩ H hg hQ => by
    have hl := hx.length
    refine keys_end hh hit ha hd (by simp at hl; omega) fun h' hs => ?_
    exact hQ h' s.toks fun b o hb e => hs b o (by simpa using hb) e

/-- a source: its iterator is made, and then gone over -/
noncomputable def SrcP (W : Wd) (A : Around) (fs : List Env) (own : List Addr) (s : Shared) (io : Io) (m : MH) (p : List V × Gd) (t : Sem Value) : Prop :=
  ∀ (Q : Value → Shared → Prop) (E : Value → Shared → Prop), (∀ I wr St h' tk, Wk W A I wr p.2 p.1 St → St 0 h' io → (∀ b o, s.heap.get? b = some o → h'.get? b = some o) → (∀ b ∈ wr, s.heap.get? b = none) → (p.2.stays m = true) → Q (.ref I) { s with heap := h', toks := tk }) → wpAny (model W.prog W.w) A t Q E s
theorem nofoot_size (H : HR W s.heap io m) : ¬ Foot io s.heap.objs.size := fun f => by
  refine hide fun GOAL hGOAL => ?_
  obtain ⟨o, e, _⟩ := H.foot f
  refine hGOAL ?_
  clear hGOAL GOAL
  rw [get_size] at e; cases e
theorem iter_sim (ok : WOk W) (hh : A.handled = none) (H : HR W s.heap io m) {v : V} {u : Value} (k : VR W s.heap io v u) {p : List V × Gd} {m' : MH} (hp : itemsV v m = .ok p m') : m' = m ∧ SrcP W A fs own s io m p (pyIter u) := by
  cases k with
  | none => cases hp
  | bool b => cases hp
  | int i t => cases hp
  | fn k => cases hp
  | exc => cases hp
  | tup _ _ => cases hp
  | str x t hx =>
    cases hp
    refine ⟨rfl, fun Q E hQ => ?_⟩
    have key : ∀ (T : String) (hT : (["enumerate", "zip", "dict_itemiterator", "dict_reverseitemiterator", "odict_iterator", "itertools.zip_longest", "itertools.pairwise"].contains T) = false) (hw : Walks W.prog W.w A s.heap.objs.size [s.heap.objs.size] [s.heap.objs.size] x.cps.size (SignAt x) (fun i h => h.IsStrIter s.heap.objs.size T x t i)), Wk W A s.heap.objs.size [s.heap.objs.size] .none (x.cps.toList.map fun c => V.str ⟨#[c]⟩) (fun i h io => h.IsStrIter s.heap.objs.size T x t i ∧ ¬ Foot io s.heap.objs.size) := fun T hT hw => by
      refine Wk.of_walks hw (by simp) (fun i v u h io hv hP => ?_) (fun i h ⟨o, ho, hc, hd⟩ => ⟨o, T, _, ho, hc, hd, hT⟩) fun b hb => .inl (by simpa using hb)
      refine hide fun GOAL hGOAL => ?_
      obtain ⟨c, t', e1, rfl⟩ := hP
      refine hGOAL ?_
      clear hGOAL GOAL
      rw [List.getElem?_map, Array.getElem?_toList, e1] at hv
      cases hv
      exact .str _ _ (strOk_get hx e1)
    cases ha : x.cps.all (· < 128)
    · exact wpAny_pyIter_wide ha (hQ _ _ _ _ _ (key _ (by decide) (Walks.strWide hh _ x t)) ⟨⟨_, Heap.get?_push_size _ rfl, rfl, rfl⟩, nofoot_size H⟩ (push_keeps _) (fun b hb => by rw [List.mem_singleton.mp hb]; exact get_size _) rfl)
    · exact wpAny_pyIter_ascii ha (hQ _ _ _ _ _ (key _ (by decide) (Walks.strAscii hh _ x t)) ⟨⟨_, Heap.get?_push_size _ rfl, rfl, rfl⟩, nofoot_size H⟩ (push_keeps _) (fun b hb => by rw [List.mem_singleton.mp hb]; exact get_size _) rfl)
  | @ref n a d hi =>
    simp only [itemsV] at hp
    split at hp
    · rename_i xs hm
      cases hp
      refine hide fun GOAL hGOAL => ?_
      obtain ⟨_, us, c, h1, h2, h3⟩ := H.obj _ _ _ hi hm
      refine hGOAL ?_
      clear hGOAL GOAL
      refine ⟨rfl, fun Q E hQ => wpAny_pyIter_list ⟨_, h1, rfl, c, rfl⟩ ?_⟩
      refine hQ _ _ _ _ _ (Wk.list (a := a) (d := d) hh) ⟨⟨_, Heap.get?_push_size _ rfl, rfl, rfl⟩, hi, nofoot_size H⟩ (push_keeps _) (fun b hb => by rw [List.mem_singleton.mp hb]; exact get_size _) ?_
      simp only [Gd.stays, hm]; exact sames_self xs
    · rename_i kvs e hm
      cases hp
      refine hide fun GOAL hGOAL => ?_
      obtain ⟨_, o, es, c, h1, h2, h3, h4, h5, h6⟩ := H.obj _ _ _ hi hm
      refine hGOAL ?_
      clear hGOAL GOAL
      refine ⟨rfl, fun Q E hQ => keys_iter (H.notSys ok ⟨_, List.mem_of_getElem? hi, .inl rfl⟩) h1 h2 h3 ?_⟩
      refine hQ _ _ _ _ _ (Wk.dict (a := a) (d := d) (k := n) (e := e) hh h3) ⟨⟨_, Heap.get?_push_size _ rfl, rfl, rfl⟩, hi, push_keeps _ _ _ h1, h4.keys.step (.of_keeps (own := []) (fr := []) H (push_keeps _)), fun e => ?_, nofoot_size H⟩ (push_keeps _) (fun b hb => by rw [List.mem_singleton.mp hb]; exact get_size _) ?_
      · have h1 : s.heap.get? a = some o := h1
        rw [← e, get_size] at h1; cases h1
      · simp only [Gd.stays, hm]; exact beq_self_eq_true e
    · cases hp
  | scr _ _ _ _ _ => cases hp
end
end Mini

/-! Statements: the rules. -/
namespace Mini
open PySem PySem.W

section
variable {W : Wd} {K : Frag} {h h' : Heap} {fs : List Env} {env : Env} {vis : List (Option Str)} {s s' : Shared} {io io' io₀ : Io} {m m' m₀ : MH} {r r' : Lo} {fr own own' : List Addr} {A : Around} {n : Nat} {pos p : Pos}

noncomputable def SiS (W : Wd) (A : Around) (fs : List Env) (env : Env) (vis : List (Option Str)) (t : Sem Flow) (c : Lo → Mn (Fl × Lo)) : Prop :=
  ∀ (s : Shared) (io : Io) (m : MH) (r : Lo), Stt W fs env vis s io m r → Si W (ownOf env) A (env :: fs) (SP W env vis) t s io m (c r m)

theorem x_nil : SiS W A fs env vis (execs [] env) (fun r => ret (.next, r)) := fun _ _ _ _ Z => .pure (u := Flow.next) Z.H ⟨.next, Z.F⟩
theorem x_cons {st : Stmt} {rest : List Stmt} {c1 c2 : Lo → Mn (Fl × Lo)} (h1 : SiS W A fs env vis (exec st env) c1) (h2 : SiS W A fs env vis (execs rest env) c2) :
    SiS W A fs env vis (execs (st :: rest) env) (fun r => bnd (c1 r) fun p => match p.1 with | .next => c2 p.2 | f => ret (f, p.2)) := by
  intro s io m r Z
  rw [execs_cons]
  refine Si.bind (h1 s io m r Z) fun f s₁ io₁ m₁ p _ st H₁ k sm => ?_
  obtain ⟨q, r₁⟩ := p
  obtain ⟨kf, kF⟩ := k
  cases kf with
  | next => exact h2 _ _ _ _ (Z.stepO H₁ st kF)
  | cont => exact .pure H₁ ⟨.cont, kF⟩
  | ret kv => exact .pure H₁ ⟨.ret kv, kF⟩

theorem Si.bindE {α β α' β' : Type} {P : Heap → Io → α → β → Prop} {P' : Heap → Io → α' → β' → Prop} {t : Sem β} {k : β → Sem β'} {R : Res α} {f : α → Mn α'} (x : Si W [] A fs P t s io m R)
    (y : ∀ u s₁ io₁ m₁ v, R = .ok v m₁ → Step [] (frs fs) s.heap io m s₁.heap io₁ m₁ → HR W s₁.heap io₁ m₁ → P s₁.heap io₁ v u → Same s s₁ → Si W own A fs P' (k u) s₁ io₁ m₁ (f v m₁)) :
    Si W own A fs P' (t >>= k) s io m (R.bind f) := by
  intro hne
  refine wpAny_bind (wpAny_mono (x (Res.bind_ne hne)) (fun u s₁ hp => ?_) fun e s₁ hp => ?_)
  · refine hide fun GOAL hGOAL => ?_
    obtain ⟨v, m₁, io₁, rfl, st, hr, hp, sm⟩ := hp
    refine hGOAL ?_
    clear hGOAL GOAL
    have st' := st.wk (own' := own) fun _ q => nomatch q
    exact wpAny_mono (y u s₁ io₁ m₁ v rfl st hr hp sm hne) (fun _ _ z => z.mono st' sm) fun _ _ z => z.mono st' sm
  · refine hide fun GOAL hGOAL => ?_
    obtain ⟨c, m', io', a, g, h1, h2, h3, h4, h5, h6⟩ := hp
    refine hGOAL ?_
    clear hGOAL GOAL
    exact XP.bind (R := R) ⟨c, m', io', a, g, h1, h2, h3.wk (fun _ q => nomatch q), h4, h5, h6⟩ .refl (.refl _)

theorem x_ret {e : Expr} {c : Lo → Mn V} (he : SiE W A (env :: fs) env vis (eval e env) c) : SiS W A fs env vis (exec (.Return (some e) pos) env) (fun r => bnd (c r) fun v => ret (.ret v, r)) := by
  intro s io m r Z
  rw [exec_Return_some]
  refine .standAt (Si.bindE (he s io m r Z.sit) fun u s₁ io₁ m₁ v _ st H₁ k sm => ?_)
  exact .pure H₁ ⟨.ret k, Z.F.step0 Z.H st⟩
theorem x_pass : SiS W A fs env vis (exec (.Pass pos) env) (fun r => ret (.next, r)) := fun _ _ _ _ Z => .standAt (.pure Z.H ⟨.next, Z.F⟩)
theorem x_cont : SiS W A fs env vis (exec (.Continue pos) env) (fun r => ret (.cont, r)) := fun _ _ _ _ Z => .standAt (.pure Z.H ⟨.cont, Z.F⟩)
theorem x_if {test : Expr} {body orelse : List Stmt} {ct : Lo → Mn Bool} {ca cb : Lo → Mn (Fl × Lo)} (ht : SiB W A (env :: fs) env vis (isTrue test env (eval test env)) ct) (ha : SiS W A fs env vis (execs body env) ca) (hb : SiS W A fs env vis (execs orelse env) cb) :
    SiS W A fs env vis (exec (.If test body orelse pos) env) (fun r => bnd (ct r) fun t => if t then ca r else cb r) := by
  intro s io m r Z
  rw [exec_If]
  refine .standAt (Si.bindE (ht s io m r Z.sit) fun u s₁ io₁ m₁ v _ st H₁ k sm => ?_)
  cases k
  cases u
  · exact hb _ _ _ r (Z.step H₁ st)
  · exact ha _ _ _ r (Z.step H₁ st)

theorem x_exp {e : Expr} {c : Lo → Mn V} (hs : swapsWith e none pos.line env = Pure.pure false) (he : SiE W A (env :: fs) env vis (eval e env) c) : SiS W A fs env vis (exec (.Expr e pos) env) (fun r => bnd (c r) fun _ => ret (.next, r)) := by
  intro s io m r Z
  rw [exec_Expr env e pos (by unfold interactive; rw [Z.F.kind]; rfl) hs]
  refine .standAt (Si.bindE (he s io m r Z.sit) fun u s₁ io₁ m₁ v _ st H₁ k sm => ?_)
  exact fun _ => wpAny_dropValue ⟨_, m₁, io₁, rfl, .refl, H₁, ⟨.next, Z.F.step0 Z.H st⟩, .refl _⟩

/-! ### assignments -/
noncomputable def SiA (W : Wd) (A : Around) (fs : List Env) (env : Env) (vis : List (Option Str)) (target : Expr) (c : V → Lo → Mn Lo) : Prop :=
  ∀ (s : Shared) (io : Io) (m : MH) (r : Lo) (v : V) (u : Value), Stt W fs env vis s io m r → VR W s.heap io v u → Si W (ownOf env) A (env :: fs) (RP W env vis) (assign target env u) s io m (c v r m)
theorem Si.bindName {x : Str} {u : Value} {α : Type} {P : Heap → Io → α → Unit → Prop} {R : Res α} (h : Si W own A fs P (storeName env x u) s io m R) : Si W own A fs P (PySem.bindName env x u) s io m R := fun hne => wpAny_bindName (h hne)
theorem a_name {i : Nat} {x : Str} (hv : vis[i]? = some (some x)) (hk : env.kindOf x = some .local ∨ env.kindOf x = some .cell) : SiA W A fs env vis (.Name x pos) (fun v r m => .ok (r.set i (some v)) m) :=
  fun _ _ _ _ _ _ Z k => .standAt (.bindName (store_sim Z hv hk k))

theorem x_asg {target value : Expr} {c : Lo → Mn V} {ca : V → Lo → Mn Lo} (he : SiE W A (env :: fs) env vis (eval value env) c) (ha : SiA W A fs env vis target ca) (hs : swapsWithSole [target] value pos.line env = Pure.pure false) (hw : swappedStores [target] value env = Pure.pure none) (hst : (assignEach [target] env).map (·.2) = [assign target env]) :
    SiS W A fs env vis (exec (.Assign [target] value pos) env) (fun r => bnd (c r) fun v => bnd (ca v r) fun r' => ret (.next, r')) := by
  intro s io m r Z hne
  refine wpAny_Assign_stores ?_ hs hw
  rw [hst]
  refine wpAny_mono (he s io m r Z.sit (Res.bind_ne hne)) (fun u s₁ q => ?_) fun e s₁ hp => ?_
  · refine hide fun GOAL hGOAL => ?_
    obtain ⟨v, m₁, io₁, e1, st, H₁, k, sm⟩ := q
    refine hGOAL ?_
    clear hGOAL GOAL
    have ee : bnd (c r) (fun v => bnd (ca v r) fun r' => ret ((Fl.next, r') : Fl × Lo)) m = (ca v r m₁).bind fun r' => ret ((Fl.next, r') : Fl × Lo) := by show (c r m).bind _ = _; rw [e1]; rfl
    dsimp only at hne ⊢
    rw [ee] at hne ⊢
    have st' := st.wk (own' := ownOf env) fun _ q => nomatch q
    refine wpAny_mono (ha s₁ io₁ m₁ r v u (Z.step H₁ st) k (Res.bind_ne hne)) (fun _ s₂ q => ?_) fun e s₂ q => (q.mono st' sm).bind .refl (.refl _)
    refine hide fun GOAL hGOAL => ?_
    obtain ⟨r₂, m₂, io₂, e2, st2, H2, k2, sm2⟩ := q
    refine hGOAL ?_
    clear hGOAL GOAL
    exact ⟨(.next, r₂), m₂, io₂, by rw [e2]; rfl, st'.trans st2, H2, ⟨.next, k2⟩, sm.trans sm2⟩
  · refine hide fun GOAL hGOAL => ?_
    obtain ⟨c', m', io', a, g, h1, h2, h3, h4, h5, h6⟩ := hp
    refine hGOAL ?_
    clear hGOAL GOAL
    exact XP.bind (R := c r m) ⟨c', m', io', a, g, h1, h2, h3.wk (fun _ q => nomatch q), h4, h5, h6⟩ .refl (.refl _)

/-! ### loops -/
noncomputable def ItP (W : Wd) (A : Around) (h₀ : Heap) : Heap → Io → List V × Gd → Value → Prop := fun h io p u => ∃ I wr St, u = .ref I ∧ Wk W A I wr p.2 p.1 St ∧ St 0 h io ∧ ∀ b ∈ wr, h₀.get? b = none
noncomputable def SiSrc (W : Wd) (A : Around) (fs : List Env) (env : Env) (vis : List (Option Str)) (iter : Expr) (c : Lo → Mn (List V × Gd)) : Prop :=
  ∀ (s : Shared) (io : Io) (m : MH) (r : Lo), Sit W fs env vis s io m r → c r m ≠ .bad → wpAny (model W.prog W.w) A (eval iter env) (fun x s₁ => wpAny (model W.prog W.w) A (pyIter x) (fun it s₂ => NP W [] (frs fs) s io m (ItP W A s.heap) (c r m) it s₂) (XP W [] fs s io m (c r m)) s₁) (XP W [] fs s io m (c r m)) s

theorem dead_before {h₀ : Heap} (st : Step own fr h₀ io₀ m₀ h io m) {b : Addr} (e : h.get? b = none) : h₀.get? b = none := by
  cases q : h₀.get? b with
  | none => rfl
  | some o => obtain ⟨o', e'⟩ := st.alive b o q; rw [e] at e'; cases e'

theorem src_expr {iter : Expr} {c : Lo → Mn V} (ok : WOk W) (hh : A.handled = none) (he : SiE W A fs env vis (eval iter env) c) : SiSrc W A fs env vis iter (fun r => bnd (c r) itemsV) := by
  intro s io m r Z hne
  refine wpAny_mono (he s io m r Z (Res.bind_ne hne)) (fun u s₁ q => ?_) fun e s₁ q => q.bind .refl (.refl _)
  refine hide fun GOAL hGOAL => ?_
  obtain ⟨v, m₁, io₁, e1, st, H₁, k, sm⟩ := q
  refine hGOAL ?_
  clear hGOAL GOAL
  have ee : bnd (c r) itemsV m = itemsV v m₁ := by show (c r m).bind _ = _; rw [e1]; rfl
  dsimp only at hne ⊢
  rw [ee] at hne ⊢
  cases hq : itemsV v m₁ with
  | bad => exact absurd hq hne
  | exc c' m' => unfold itemsV at hq; split at hq <;> first | cases hq | (split at hq <;> cases hq)
  | ok p m' =>
    obtain ⟨rfl, key⟩ := iter_sim (fs := fs) (own := []) ok hh H₁ k hq
    refine key _ _ fun I wr St h' tk hw h0 hk hn hg => ?_
    have st2 : Step [] (frs fs) s₁.heap io₁ m' h' io₁ m' := .of_keeps H₁ hk
    exact ⟨p, m', io₁, rfl, st.trans st2, H₁.of_keeps hk, ⟨I, wr, St, rfl, hw, h0, fun b hb => dead_before st (hn b hb)⟩, sm⟩

theorem FR.sideN {wr : List Addr} {h₀ : Heap} (F : FR W h io env vis r) (x : Side W wr h₀ h io h') (hL : env.locals ∉ wr) (hc : ∀ y c, env.cells.lookup y = some c → c ∉ wr) : FR W h' io env vis r := by
  refine hide fun GOAL hGOAL => ?_
  obtain ⟨mp, hn, hl⟩ := F.loc
  refine hGOAL ?_
  clear hGOAL GOAL
  have sc : ∀ y c v, env.cells.lookup y = some c → h.IsCell c v → h'.IsCell c v := fun y c v hy ⟨o, ho, hd⟩ => ⟨o, x.keep _ _ (hc y c hy) ho, hd⟩
  refine ⟨F.kind, F.glob, F.blt, F.nofoot, F.fresh, ⟨mp, ?_, fun i y v h1 h2 h3 => ?_⟩, fun i y v h1 h2 h3 => ?_, fun y c hy => ?_, F.celex, F.apart, F.inj, F.len⟩
  · refine hide fun GOAL hGOAL => ?_
    obtain ⟨o, es, ep, ho, hd, q⟩ := hn
    refine hGOAL ?_
    clear hGOAL GOAL
    exact ⟨o, es, ep, x.keep _ _ hL ho, hd, q⟩
  · refine hide fun GOAL hGOAL => ?_
    obtain ⟨u, e, k⟩ := hl i y v h1 h2 h3
    refine hGOAL ?_
    clear hGOAL GOAL
    exact ⟨u, e, k.sol x.sol⟩
  · refine hide fun GOAL hGOAL => ?_
    obtain ⟨c, u, e, k1, k2⟩ := F.cel i y v h1 h2 h3
    refine hGOAL ?_
    clear hGOAL GOAL
    exact ⟨c, u, e, sc y c _ e k1, k2.sol x.sol⟩
  · refine hide fun GOAL hGOAL => ?_
    obtain ⟨⟨o, k1⟩, k2, k3⟩ := F.cells y c hy
    refine hGOAL ?_
    clear hGOAL GOAL
    exact ⟨⟨o, sc y c _ hy k1⟩, k2, k3⟩
theorem FR.side {wr : List Addr} {h₀ : Heap} (F : FR W h io env vis r) (x : Side W wr h₀ h io h') (hL : ∃ o, h₀.get? env.locals = some o) (hc : ∀ y c, env.cells.lookup y = some c → ∃ o, h₀.get? c = some o) : FR W h' io env vis r := by
  have nw : ∀ b, (∃ o, h₀.get? b = some o) → b ∉ wr := fun b ⟨o, e⟩ q => by rw [x.new b q] at e; cases e
  refine hide fun GOAL hGOAL => ?_
  obtain ⟨mp, hn, hl⟩ := F.loc
  refine hGOAL ?_
  clear hGOAL GOAL
  have sc : ∀ y c v, env.cells.lookup y = some c → h.IsCell c v → h'.IsCell c v := fun y c v hy ⟨o, ho, hd⟩ => ⟨o, x.keep _ _ (nw c (hc y c hy)) ho, hd⟩
  refine ⟨F.kind, F.glob, F.blt, F.nofoot, F.fresh, ⟨mp, ?_, fun i y v h1 h2 h3 => ?_⟩, fun i y v h1 h2 h3 => ?_, fun y c hy => ?_, F.celex, F.apart, F.inj, F.len⟩
  · refine hide fun GOAL hGOAL => ?_
    obtain ⟨o, es, ep, ho, hd, q⟩ := hn
    refine hGOAL ?_
    clear hGOAL GOAL
    exact ⟨o, es, ep, x.keep _ _ (nw _ hL) ho, hd, q⟩
  · refine hide fun GOAL hGOAL => ?_
    obtain ⟨u, e, k⟩ := hl i y v h1 h2 h3
    refine hGOAL ?_
    clear hGOAL GOAL
    exact ⟨u, e, k.sol x.sol⟩
  · refine hide fun GOAL hGOAL => ?_
    obtain ⟨c, u, e, k1, k2⟩ := F.cel i y v h1 h2 h3
    refine hGOAL ?_
    clear hGOAL GOAL
    exact ⟨c, u, e, sc y c _ e k1, k2.sol x.sol⟩
  · refine hide fun GOAL hGOAL => ?_
    obtain ⟨⟨o, k1⟩, k2, k3⟩ := F.cells y c hy
    refine hGOAL ?_
    clear hGOAL GOAL
    exact ⟨⟨o, sc y c _ hy k1⟩, k2, k3⟩

theorem forD_c {g : Gd} {step : V → Lo → Mn (Fl × Lo)} {v : V} {vs : List V} {r : Lo} {m : MH} (h : g.stays m = true) : forD g step (v :: vs) r m = (step v r m).bind (fun p => match p.1 with | .ret x => ret (.ret x, p.2) | _ => forD g step vs p.2) := if_pos h
theorem forD_n {g : Gd} {step : V → Lo → Mn (Fl × Lo)} {r : Lo} {m : MH} (h : g.stays m = true) : forD g step [] r m = .ok (.next, r) m := if_pos h
theorem forD_stays {g : Gd} {step : V → Lo → Mn (Fl × Lo)} {vs : List V} (h : forD g step vs r m ≠ .bad) : g.stays m = true := by
  cases q : g.stays m with
  | true => rfl
  | false =>
    have z : ¬ g.stays m = true := by rw [q]; exact Bool.false_ne_true
    cases vs with
    | nil => exact absurd (if_neg z) h
    | cons _ _ => exact absurd (if_neg z) h

/-- between two turns of a for -/
inductive FInv (W : Wd) (fs : List Env) (env : Env) (vis : List (Option Str)) (s : Shared) (io : Io) (m : MH) (St : Nat → Heap → Io → Prop) (g : Gd) (f : V → Lo → Mn (Fl × Lo)) (vs : List V) (R : Res (Fl × Lo)) (k : Nat) (s' : Shared) : Prop
  | mk (i : Nat) (r' : Lo) (io' : Io) (m' : MH) : k = vs.length - i → i ≤ vs.length → Step (ownOf env) (frs (env :: fs)) s.heap io m s'.heap io' m' → HR W s'.heap io' m' → FR W s'.heap io' env vis r' → St i s'.heap io' → Same s s' → forD g f (vs.drop i) r' m' = R → FInv W fs env vis s io m St g f vs R k s'
theorem x_for (hA : A.frames = some (env :: fs)) {target iter : Expr} {body : List Stmt} {c : Lo → Mn (List V × Gd)} {ca : V → Lo → Mn Lo} {cb : Lo → Mn (Fl × Lo)} (hsrc : SiSrc W A (env :: fs) env vis iter c) (ha : SiA W A fs env vis target ca) (hb : SiS W A fs env vis (execs body env) cb) (hf : ∀ x, foldedSetIterable iter env x = Pure.pure x) :
    SiS W A fs env vis (exec (.For target iter body [] pos) env) (fun r => bnd (c r) fun p => forD p.2 (fun v r' => bnd (ca v r') fun r'' => cb r'') p.1 r) := by
  intro s io m r Z hne
  refine wpAny_For (wpAny_mono (hsrc s io m r Z.sit (Res.bind_ne hne)) (fun x s₁ q => wpAny_mono q (fun it s₂ q => ?_) fun e s₁ q => ?_) fun e s₁ q => ?_) hf
  rotate_left
  · refine hide fun GOAL hGOAL => ?_
    obtain ⟨c', m', io', a, g, h1, h2, h3, h4, h5, h6⟩ := q
    refine hGOAL ?_
    clear hGOAL GOAL
    exact XP.bind (R := c r m) ⟨c', m', io', a, g, h1, h2, h3.wk (fun _ q => nomatch q), h4, h5, h6⟩ .refl (.refl _)
  · refine hide fun GOAL hGOAL => ?_
    obtain ⟨c', m', io', a, g, h1, h2, h3, h4, h5, h6⟩ := q
    refine hGOAL ?_
    clear hGOAL GOAL
    exact XP.bind (R := c r m) ⟨c', m', io', a, g, h1, h2, h3.wk (fun _ q => nomatch q), h4, h5, h6⟩ .refl (.refl _)
  refine hide fun GOAL hGOAL => ?_
  obtain ⟨⟨vs, g⟩, m₂, io₂, e2, st₂, H₂, ⟨I, wr, St, rfl, hw, h0, hnew⟩, sm₂⟩ := q
  refine hGOAL ?_
  clear hGOAL GOAL
  have ee : bnd (c r) (fun p => forD p.2 (fun v r' => bnd (ca v r') fun r'' => cb r'') p.1 r) m = forD g (fun v r' => bnd (ca v r') fun r'' => cb r'') vs r m₂ := by show (c r m).bind _ = _; rw [e2]; rfl
  dsimp only at hne ⊢
  rw [ee] at hne ⊢
  have hL : ∃ o, s.heap.get? env.locals = some o := by obtain ⟨_, ⟨o, _, _, ho, _⟩, _⟩ := Z.F.loc; exact ⟨o, ho⟩
  have hC : ∀ y c, env.cells.lookup y = some c → ∃ o, s.heap.get? c = some o := fun y c hy => by obtain ⟨⟨_, o, ho, _⟩, _⟩ := Z.F.cells y c hy; exact ⟨o, ho⟩
  have hOwn : ∀ b ∈ ownOf env, ∃ o, s.heap.get? b = some o := fun b hb => by
    rcases List.mem_cons.mp hb with rfl | hb
    · exact hL
    · refine hide fun GOAL hGOAL => ?_
      obtain ⟨⟨y, c'⟩, hm, hq⟩ := List.mem_filterMap.mp hb
      refine hGOAL ?_
      clear hGOAL GOAL
      exact hC y b hq
  have hFr : ∀ b ∈ frs (env :: fs), ∃ o, s.heap.get? b = some o := fun b hb => by
    refine hide fun GOAL hGOAL => ?_
    obtain ⟨e, he, hf⟩ := List.mem_filterMap.mp hb
    refine hGOAL ?_
    clear hGOAL GOAL
    refine hide fun GOAL hGOAL => ?_
    obtain ⟨_, L, o, _, _, h1, _, _, h4, _⟩ := Z.sit.G e he
    refine hGOAL ?_
    clear hGOAL GOAL
    rw [h1] at hf; cases hf; exact ⟨o, h4⟩
  have hwr : ∀ b ∈ wr, b ∉ ownOf env ∧ b ∉ frs (env :: fs) := fun b hb => ⟨fun q => (by obtain ⟨o, e⟩ := hOwn b q; rw [hnew b hb] at e; cases e), fun q => (by obtain ⟨o, e⟩ := hFr b q; rw [hnew b hb] at e; cases e)⟩
  have hbase : ∀ b o, W.base.get? b = some o → s.heap.get? b = some o := Z.H.keep
  refine codeAny_forLoop_any (I := FInv W fs env vis s io m St g (fun v r' => bnd (ca v r') fun r'' => cb r'') vs (forD g (fun v r' => bnd (ca v r') fun r'' => cb r'') vs r m₂)) (fun k s' hI => ?_) vs.length ⟨0, r, io₂, m₂, by simp, Nat.zero_le _, st₂.wk (fun _ q => nomatch q), H₂, Z.F.step0 Z.H st₂, h0, sm₂, by simp⟩
  refine hide fun GOAL hGOAL => ?_
  obtain ⟨i, r', io', m', hk, hi, st, H, F, hst, sm, he⟩ := hI
  refine hGOAL ?_
  clear hGOAL GOAL
  have hne' : forD g (fun v r' => bnd (ca v r') fun r'' => cb r'') (vs.drop i) r' m' ≠ .bad := by rw [he]; exact hne
  have hg := forD_stays hne'
  have sft := hw.soft hst
  by_cases hlt : i < vs.length
  · have hv : vs[i]? = some vs[i] := List.getElem?_eq_getElem hlt
    have hd : vs.drop i = vs[i] :: vs.drop (i + 1) := List.drop_eq_getElem_cons hlt
    refine hw.item hv hst H hg fun u h₁ tk ku hst₁ kk => ?_
    have sd : Side W wr s.heap s'.heap io' h₁ := ⟨kk, hnew, fun b hb => (sft b hb).1, fun b hb => (sft b hb).2⟩
    refine hw.lot (s := { s' with heap := h₁, toks := tk }) hst₁ fun h₂ hst₂ kk₂ => ?_
    have sft₁ := hw.soft hst₁
    have H1 := sd.hr H hbase
    have st1 := sd.step H st
    have sd₂ : Side W wr s.heap h₁ io' h₂ := ⟨kk₂, hnew, fun b hb => (sft₁ b hb).1, fun b hb => (sft₁ b hb).2⟩
    have H2 := sd₂.hr H1 hbase
    have st2 := sd₂.step H1 st1
    have F2 := (F.side sd hL hC).side sd₂ hL hC
    have Z2 : Stt W fs env vis { s' with heap := h₂, toks := tk } io' m' r' := ⟨H2, F2, Z.G.step st2 Z.dis, Z.fr, Z.dis⟩
    have ku2 : VR W h₂ io' vs[i] u := (ku.sol sd.sol).sol sd₂.sol
    rw [hd] at he hne'
    rw [forD_c hg] at he hne'
    have hne1 : ca vs[i] r' m' ≠ .bad := fun q => hne' (by show ((ca vs[i] r' m').bind cb).bind _ = _; rw [q]; rfl)
    refine wpAny_mono (ha _ io' m' r' vs[i] u Z2 ku2 hne1) (fun _ s₃ q => ?_) fun e s₃ q => ?_
    rotate_left
    · rw [← he]
      exact noted_back hA Z.fr ((q.bind (f := cb) .refl (.refl _)).bind st2 (sm.trans ⟨rfl, rfl⟩))
    refine hide fun GOAL hGOAL => ?_
    obtain ⟨r₃, m₃, io₃, e3, st3, H3, F3, sm3⟩ := q
    refine hGOAL ?_
    clear hGOAL GOAL
    have st3' := st2.trans st3
    have Z3 : Stt W fs env vis s₃ io₃ m₃ r₃ := ⟨H3, F3, Z.G.step st3' Z.dis, Z.fr, Z.dis⟩
    have e4 : bnd (ca vs[i] r') (fun r'' => cb r'') m' = cb r₃ m₃ := by show (ca vs[i] r' m').bind _ = _; rw [e3]; rfl
    rw [e4] at he hne'
    have hne2 : cb r₃ m₃ ≠ .bad := fun q => hne' (by rw [q]; rfl)
    refine wpAny_mono (hb s₃ io₃ m₃ r₃ Z3 hne2) (fun f s₄ q => ?_) fun e s₄ q => ?_
    rotate_left
    · rw [← he]
      exact noted_back hA Z.fr (q.bind st3' (sm.trans (Same.trans ⟨rfl, rfl⟩ sm3)))
    refine hide fun GOAL hGOAL => ?_
    obtain ⟨⟨fl, r₄⟩, m₄, io₄, e5, st4, H4, ⟨kf, F4⟩, sm4⟩ := q
    refine hGOAL ?_
    clear hGOAL GOAL
    rw [e5] at he hne'
    have st4' := st3'.trans st4
    have go : forD g (fun v r' => bnd (ca v r') fun r'' => cb r'') (vs.drop (i + 1)) r₄ m₄ = forD g (fun v r' => bnd (ca v r') fun r'' => cb r'') vs r m₂ → ∃ k', k' < k ∧ FInv W fs env vis s io m St g (fun v r' => bnd (ca v r') fun r'' => cb r'') vs (forD g (fun v r' => bnd (ca v r') fun r'' => cb r'') vs r m₂) k' s₄ := fun q => by
      have hg4 : g.stays m₄ = true := forD_stays (by rw [q]; exact hne)
      exact ⟨vs.length - (i + 1), by omega, i + 1, r₄, io₄, m₄, rfl, hlt, st4', H4, F4, hw.stay hst₂ H2 H4 (st3.trans st4) hwr hg hg4, sm.trans (Same.trans ⟨rfl, rfl⟩ (sm3.trans sm4)), q⟩
    cases kf with
    | next => exact go he
    | cont => exact go he
    | ret kv => exact ⟨_, m₄, io₄, he.symm, st4', H4, ⟨.ret kv, F4⟩, sm.trans (Same.trans ⟨rfl, rfl⟩ (sm3.trans sm4))⟩
  · have hi' : i = vs.length := by omega
    subst hi'
    refine hw.done hst H hg fun h₁ tk kk => ?_
    have sd : Side W wr s.heap s'.heap io' h₁ := ⟨kk, hnew, fun b hb => (sft b hb).1, fun b hb => (sft b hb).2⟩
    rw [List.drop_length] at he
    rw [forD_n hg] at he
    exact wpAny_execs_nil ⟨_, m', io', he.symm, sd.step H st, sd.hr H hbase, ⟨.next, F.side sd hL hC⟩, sm.trans ⟨rfl, rfl⟩⟩
end
end Mini

/-! Targets that are tuples of names. -/
namespace Mini
open PySem PySem.W

section
variable {W : Wd} {fs : List Env} {env : Env} {vis : List (Option Str)} {s s' : Shared} {io io' : Io} {m m' : MH} {r r' : Lo} {A : Around} {n : Nat} {pos p : Pos}

end
end Mini

/-! Exceptions: raise, try. -/
namespace Mini
open PySem PySem.W PyProof.Rows

/-- what no assignment stands in: the frame's own stays -/
noncomputable def SiQ (W : Wd) (A : Around) (fs : List Env) (env : Env) (vis : List (Option Str)) (t : Sem Flow) (c : Lo → Mn (Fl × Lo)) : Prop :=
  ∀ (s : Shared) (io : Io) (m : MH) (r : Lo), Stt W fs env vis s io m r → Si W [] A (env :: fs) (SP W env vis) t s io m (c r m)

section
variable {W : Wd} {K : Frag} {h h' h₀ : Heap} {fs l : List Env} {env : Env} {vis : List (Option Str)} {s s' : Shared} {io io' : Io} {m m' : MH} {r r' : Lo} {own : List Addr} {A : Around} {n : Nat} {pos p : Pos}

theorem XP.wk {α : Type} {R : Res α} {e : Value} {own' : List Addr} (x : XP W own l s io m R e s') (k : ∀ b ∈ own, b ∈ own') : XP W own' l s io m R e s' := by
  refine hide fun GOAL hGOAL => ?_
  obtain ⟨c, m', io', a, g, h1, h2, h3, h4, h5, h6⟩ := x
  refine hGOAL ?_
  clear hGOAL GOAL
  exact ⟨c, m', io', a, g, h1, h2, h3.wk k, h4, h5, h6⟩
theorem ff_mem {b : Addr} (F : FF W h io l) (hb : b ∈ frs l) : ∃ o es n, ¬ Foot io b ∧ h.get? b = some o ∧ o.data = .dict es n := by
  refine hide fun GOAL hGOAL => ?_
  obtain ⟨e, he, hf⟩ := List.mem_filterMap.mp hb
  refine hGOAL ?_
  clear hGOAL GOAL
  refine hide fun GOAL hGOAL => ?_
  obtain ⟨_, L, o, es, n, h1, _, h3, h4, h5⟩ := F e he
  refine hGOAL ?_
  clear hGOAL GOAL
  rw [h1] at hf; cases hf
  exact ⟨o, es, n, h3, h4, h5⟩

/-- the exception has landed: what was there is there -/
theorem land {g B h6 : Heap} (G0 : FF W h io l) (st : Step [] (frs l) h io m g io' m') (Hg : HR W g io' m') (kp : Kp W h io' l g B) (fl : B.StaysIn h6) (up : g.UpToSlots h6) :
    Step [] (frs l) h io m h6 io' m' ∧ HR W h6 io' m' := by
  have get : ∀ b o, g.get? b = some o → (Foot io' b ∨ Solid o ∨ W.base.get? b = some o ∨ ((∃ o', h.get? b = some o') ∧ b ∉ frs l)) → h6.get? b = some o := fun b o e q => fl b o (kp b o e q)
  have frm : ∀ b, b ∈ frs l → ∀ o, h.get? b = some o → ∃ sl, h6.get? b = some { o with slots := sl } := fun b hb o ho => by
    refine hide fun GOAL hGOAL => ?_
    obtain ⟨o1, es, n, h1, h2, h3⟩ := ff_mem G0 hb
    refine hGOAL ?_
    clear hGOAL GOAL
    rw [ho] at h2; cases h2
    obtain ⟨sl, e1⟩ := st.slots b o ho h1 (fun q => nomatch q)
    obtain ⟨sl2, e2⟩ := up b _ e1 (fun vs q => by rw [show ({ o with slots := sl } : Obj).data = o.data from rfl, h3] at q; cases q)
    exact ⟨sl2, e2⟩
  have ft : ∀ b o, Foot io' b → g.get? b = some o → h6.get? b = some o := fun b o f e => get b o e (.inl f)
  refine ⟨⟨fun b o e => ?_, fun b o e so => get b o (st.solid b o e so) (.inr (.inl so)), fun b o e f1 f2 f3 => get b o (st.keep b o e f1 f2 f3) (.inr (.inr (.inr ⟨⟨o, e⟩, f3⟩))), fun b o e f1 f2 => ?_, st.grow, fun n p kvs e hi hm => ?_⟩, ?_⟩
  · by_cases hb : b ∈ frs l
    · obtain ⟨sl, q⟩ := frm b hb o e; exact ⟨_, q⟩
    · obtain ⟨o', q⟩ := st.alive b o e; exact ⟨o', get b o' q (.inr (.inr (.inr ⟨⟨o, e⟩, hb⟩)))⟩
  · by_cases hb : b ∈ frs l
    · exact frm b hb o e
    · obtain ⟨sl, q⟩ := st.slots b o e f1 f2; exact ⟨sl, get b _ q (.inr (.inr (.inr ⟨⟨o, e⟩, hb⟩)))⟩
  · refine hide fun GOAL hGOAL => ?_
    obtain ⟨k1, e1, h1, h2, h3⟩ := st.dicts n p kvs e hi hm
    refine hGOAL ?_
    clear hGOAL GOAL
    refine ⟨k1, e1, h1, h2, fun q => ⟨?_, (h3 q).2⟩⟩
    obtain ⟨o, ho⟩ := Hg.there (st.io_get hi)
    rw [← (h3 q).1, ho]
    exact ft _ _ ⟨p, List.mem_of_getElem? (st.io_get hi), .inl rfl⟩ ho
  · refine ⟨fun b o e => get b o (Hg.keep b o e) (.inr (.inr (.inl e))), Hg.len, fun n p o hi hm => ?_, Hg.fresh, Hg.apart⟩
    exact (Hg.obj n p o hi hm).sol (fun b o e so => get b o e (.inr (.inl so))) (fun o e => ft _ o ⟨p, List.mem_of_getElem? hi, .inl rfl⟩ e) (fun o e => ft _ o ⟨p, List.mem_of_getElem? hi, .inr rfl⟩ e)

/-- raise of a class of the file -/
theorem x_raise {x : Str} {c : Nat} {args : List Expr} {np cpos : Pos} {cl : Lo → Mn (List V)} {mg mb : Str → Option Value} {pp : Program} {loose : List Str} {bmB bmN : List Value} {Bn B newId nid initId inN : String} (gl : Gl W K) (hh : A.handled = none)
    (Fn : ExcBaseFacts Bn newId inN bmN) (hBn : bmB.contains (.type Bn) = true) (F : ExcBaseFacts B nid initId bmB) (hbase : bmB.contains (.type "BaseException") = true)
    (T : TopRead pp loose mg mb W.base) (e : nsIn K mainGlobals x = some (some (.ref (W.ca c)))) (hq : excIn K (W.ca c) bmB newId = true) (hx : env.kindOf x = some .globalImplicit) (hd : (x == ("__debug__" : Str)) = false) (hs : noStar args = true)
    (hl : SiL W A (env :: fs) env vis (spliced (backTo cpos (starEach args env))) cl) (hn : ∀ r m vs m', cl r m = .ok vs m' → vs.length ≤ lid) :
    SiS W A fs env vis (exec (.Raise (some (.Call (.Name x np) args [] cpos)) none pos) env) (fun r => bnd (cl r) fun _ m => .exc c m) := by
  intro s io m r Z hne
  have OW := own_of_in gl.X T e hq
  refine hide fun GOAL hGOAL => ?_
  obtain ⟨bm, N, nm, qn, bs, hdct, sn, sub, ab, col, dd, k0, k1, k2, k3, k5, mN, hC, hN, hni, TL0⟩ := OW.obj
  refine hGOAL ?_
  clear hGOAL GOAL
  refine wpAny_Raise_call_subU Fn hBn F (mN := mN) (bm := bm) (N := N) (nm := nm) (q := qn) (bs := bs) (hdct := hdct) (sn := sn) (sub := sub) (ab := ab) (col := col) (dd := dd) (k0 := k0) (k1 := k1) (k2 := k2) (k3 := k3) (k5 := k5) (TL0.hasType hbase) hh (plain_of hs) hni (name_K gl Z.sit e hx hd ⟨rfl, args_of hs ?_⟩)
  refine wpAny_mono (hl s io m r Z.sit (Res.bind_ne hne)) (fun us s' q => ?_) fun _ _ q => (q.bind .refl (.refl _)).wk fun _ q => nomatch q
  refine hide fun GOAL hGOAL => ?_
  obtain ⟨vs, m', io', e', st, H, kv, sm⟩ := q
  refine hGOAL ?_
  clear hGOAL GOAL
  have hlen : us.length ≤ sizeLine := by rw [kv.length]; exact sizeLine_lid (hn r m vs m' e')
  have ee : bnd (cl r) (fun _ m => .exc c m) m = (.exc c m' : Res (Fl × Lo)) := by show (cl r m).bind _ = _; rw [e']; rfl
  refine ⟨rfl, hlen, H.keep _ _ hC, ?_, TL0.keeps H.keep, fun h' e0 hm => ?_⟩
  · obtain ⟨o, es, ep, ho, r⟩ := hN; exact ⟨o, es, ep, H.keep _ _ ho, r⟩
  dsimp only
  rw [ee]
  have G' : FF W s'.heap io' (env :: fs) := Z.sit.G.step0 st
  have hin : ∀ e ∈ env :: fs, ∀ b, e.frame = some b → b ∈ frs (env :: fs) := fun e he b hb => List.mem_filterMap.mpr ⟨e, he, hb⟩
  refine ⟨c, m', io', e0, s'.heap, rfl, rfl, st.wk (fun _ q => nomatch q), H, ⟨hideAll s'.heap (frs (env :: fs)), fun b o q hk => ?_, .inr (.inr ⟨us, fun b o q => of_hideAll _ q, funFrames_hide G'.funFrames hin, hm⟩)⟩, sm⟩
  refine hideAll_get _ q fun hb => ?_
  refine hide fun GOAL hGOAL => ?_
  obtain ⟨o1, es, n, h1, h2, h3⟩ := ff_mem G' hb
  refine hGOAL ?_
  clear hGOAL GOAL
  rw [q] at h2; cases h2
  rcases hk with hk | hk | hk | hk
  · exact h1 hk
  · rcases hk with ⟨_, vs, n, hv⟩ | ⟨C, vs, _, hv⟩
    · rw [h3] at hv; cases hv
    · rw [h3] at hv; cases hv
  · refine hide fun GOAL hGOAL => ?_
    obtain ⟨e1, he, hf⟩ := List.mem_filterMap.mp hb
    refine hGOAL ?_
    clear hGOAL GOAL
    refine hide fun GOAL hGOAL => ?_
    obtain ⟨_, L, _, _, _, f1, f2, _⟩ := G' e1 he
    refine hGOAL ?_
    clear hGOAL GOAL
    rw [f1] at hf; cases hf
    rw [f2] at hk; cases hk
  · exact hk.2 hb

theorem q_nil : SiQ W A fs env vis (execs [] env) (fun r => ret (.next, r)) := fun _ _ _ _ Z => .pure (u := Flow.next) Z.H ⟨.next, Z.F⟩
theorem q_cons {st : Stmt} {rest : List Stmt} {c1 c2 : Lo → Mn (Fl × Lo)} (h1 : SiQ W A fs env vis (exec st env) c1) (h2 : SiQ W A fs env vis (execs rest env) c2) :
    SiQ W A fs env vis (execs (st :: rest) env) (fun r => bnd (c1 r) fun p => match p.1 with | .next => c2 p.2 | f => ret (f, p.2)) := by
  intro s io m r Z
  rw [execs_cons]
  refine Si.bind (h1 s io m r Z) fun f s₁ io₁ m₁ p _ st H₁ k sm => ?_
  obtain ⟨q, r₁⟩ := p
  obtain ⟨kf, kF⟩ := k
  cases kf with
  | next => exact h2 _ _ _ _ (Z.stepO H₁ (st.wk fun _ q => nomatch q) kF)
  | cont => exact .pure H₁ ⟨.cont, kF⟩
  | ret kv => exact .pure H₁ ⟨.ret kv, kF⟩
theorem q_ret {e : Expr} {c : Lo → Mn V} (he : SiE W A (env :: fs) env vis (eval e env) c) : SiQ W A fs env vis (exec (.Return (some e) pos) env) (fun r => bnd (c r) fun v => ret (.ret v, r)) := by
  intro s io m r Z
  rw [exec_Return_some]
  refine .standAt (Si.bindE (he s io m r Z.sit) fun u s₁ io₁ m₁ v _ st H₁ k sm => ?_)
  exact .pure H₁ ⟨.ret k, Z.F.step0 Z.H st⟩
theorem q_if {test : Expr} {body orelse : List Stmt} {ct : Lo → Mn Bool} {ca cb : Lo → Mn (Fl × Lo)} (ht : SiB W A (env :: fs) env vis (isTrue test env (eval test env)) ct) (ha : SiQ W A fs env vis (execs body env) ca) (hb : SiQ W A fs env vis (execs orelse env) cb) :
    SiQ W A fs env vis (exec (.If test body orelse pos) env) (fun r => bnd (ct r) fun t => if t then ca r else cb r) := by
  intro s io m r Z
  rw [exec_If]
  refine .standAt (Si.bindE (ht s io m r Z.sit) fun u s₁ io₁ m₁ v _ st H₁ k sm => ?_)
  cases k
  cases u
  · exact hb _ _ _ r (Z.step H₁ st)
  · exact ha _ _ _ r (Z.step H₁ st)
theorem q_exp {e : Expr} {c : Lo → Mn V} (hs : swapsWith e none pos.line env = Pure.pure false) (he : SiE W A (env :: fs) env vis (eval e env) c) : SiQ W A fs env vis (exec (.Expr e pos) env) (fun r => bnd (c r) fun _ => ret (.next, r)) := by
  intro s io m r Z
  rw [exec_Expr env e pos (by unfold interactive; rw [Z.F.kind]; rfl) hs]
  refine .standAt (Si.bindE (he s io m r Z.sit) fun u s₁ io₁ m₁ v _ st H₁ k sm => ?_)
  exact fun _ => wpAny_dropValue ⟨_, m₁, io₁, rfl, .refl, H₁, ⟨.next, Z.F.step0 Z.H st⟩, .refl _⟩

/-- the name of a clause goes -/
theorem name_goes {i : Nat} {x : Str} {k : Pos} (Z : Stt W fs env vis s io m r) (hv : vis[i]? = some (some x)) (hk : env.kindOf x = some .local) :
    Si W (ownOf env) A (env :: fs) (RP W env vis) (do bindName env x .none; unbindBehindTheSuite env x k) s io m (.ok (r.set i none) m) := by
  intro _
  have hi : i < vis.length := (List.getElem?_eq_some_iff.mp hv).1
  have F := Z.F
  have row : ∀ (j : Nat) (y : Str) (w : V), vis[j]? = some (some y) → (r.set i none)[j]? = some (some w) → y ≠ x ∧ r[j]? = some (some w) := by
    intro j y w h1 h2
    by_cases q : i = j
    · subst q
      rw [List.getElem?_set_self (by rw [F.len]; exact hi)] at h2
      cases h2
    · rw [List.getElem?_set_ne q] at h2
      exact ⟨fun e => q (F.inj i j x hv (e ▸ h1)), h2⟩
  refine hide fun GOAL hGOAL => ?_
  obtain ⟨mp, hn, hl⟩ := F.loc
  refine hGOAL ?_
  clear hGOAL GOAL
  refine hide fun GOAL hGOAL => ?_
  obtain ⟨oL, esL, epL, hoL, hdL, _⟩ := id hn
  refine hGOAL ?_
  clear hGOAL GOAL
  refine wpAny_nameGoes_keeps hk hn (by rw [F.kind]; rfl) fun h' v' hn' hs => ?_
  have kk : ∀ b o, b ≠ env.locals → s.heap.get? b = some o → h'.get? b = some o := fun b o q e => (hs.2 b q).trans e
  have lv : ∀ o, s.heap.get? env.locals = some o → ¬ Solid o ∧ ∃ o', h'.get? env.locals = some o' := fun o ho => by
    rw [hoL] at ho; cases ho
    refine hide fun GOAL hGOAL => ?_
    obtain ⟨o', _, _, ho', _⟩ := id hn'
    refine hGOAL ?_
    clear hGOAL GOAL
    exact ⟨not_solid_dict hdL, o', ho'⟩
  have st : Step (ownOf env) (frs (env :: fs)) s.heap io m h' io m := step_own Z.H (L := env.locals) (by simp [ownOf]) kk lv F.nofoot
  have H' : HR W h' io m := Z.H.ofOwn (own := ownOf env) (L := env.locals) (by simp [ownOf]) kk lv F.nofoot F.fresh
  refine ⟨_, m, io, rfl, st, H', ?_, rfl, rfl⟩
  refine ⟨F.kind, F.glob, F.blt, F.nofoot, F.fresh, ⟨_, hn', fun j y w h1 h2 h3 => ?_⟩, fun j y w h1 h2 h3 => ?_, fun y c hy => ?_, F.celex, F.apart, F.inj, by simp [F.len]⟩
  · obtain ⟨q, h2⟩ := row j y w h1 h2
    refine hide fun GOAL hGOAL => ?_
    obtain ⟨u', e, k'⟩ := hl j y w h1 h2 h3
    refine hGOAL ?_
    clear hGOAL GOAL
    exact ⟨u', by simp [q, e], k'.step st⟩
  · obtain ⟨q, h2⟩ := row j y w h1 h2
    refine hide fun GOAL hGOAL => ?_
    obtain ⟨c, u', e, k1, k2⟩ := F.cel j y w h1 h2 h3
    refine hGOAL ?_
    clear hGOAL GOAL
    refine ⟨c, u', e, ?_, k2.step st⟩
    refine hide fun GOAL hGOAL => ?_
    obtain ⟨oc, hoc, hdc⟩ := k1
    refine hGOAL ?_
    clear hGOAL GOAL
    exact ⟨oc, kk c oc (F.cells y c e).2.2 hoc, hdc⟩
  · refine hide fun GOAL hGOAL => ?_
    obtain ⟨⟨o, oc, hoc, hdc⟩, k2, k3⟩ := F.cells y c hy
    refine hGOAL ?_
    clear hGOAL GOAL
    exact ⟨⟨o, oc, kk c oc k3 hoc, hdc⟩, k2, k3⟩

/-- the name of a clause -/
noncomputable def NmOk (env : Env) (vis : List (Option Str)) : Option Str → Option Nat → Prop
  | none, none => True
  | some x, some i => vis[i]? = some (some x) ∧ env.kindOf x = some .local
  | _, _ => False

theorem x_try {S : Sig} {x : Str} {c : Nat} {np hp rp : Pos} {body : List Stmt} {e : Expr} {nm : Option Str} {ni : Option Nat} {cb : Lo → Mn (Fl × Lo)} {ch : Lo → Mn V} (gl : Gl W K) (hA : A.frames = some (env :: fs)) (hb : SiQ W A fs env vis (execs body env) cb)
    (he : ∀ a, SiE W (A.mark (some (.ref a))) (env :: fs) env vis (eval e env) ch) (ex : nsIn K mainGlobals x = some (some (.ref (W.ca c)))) (hx : env.kindOf x = some .globalImplicit) (hd : (x == ("__debug__" : Str)) = false)
    (hm : ∀ d, ((S.cls[d]?).any fun k => k.supers.contains c) = true → exmOne K (.ref (W.ca d)) (.ref (W.ca c)) = some true) (hnm : NmOk env vis nm ni) :
    SiS W A fs env vis (exec (.Try body [.ExceptHandler (some (.Name x np)) nm [.Return (some e) rp] hp] [] [] pos) env) (fun r => tryD S (cb r) c ni ch r) := by
  intro s io m r Z hne
  have hb' : cb r m ≠ .bad := fun q => hne (by show tryD S (cb r) c ni ch r m = _; unfold tryD; rw [q])
  refine wpAny_Try_except (wpAny_mono (hb s io m r Z hb') (fun f s₁ q => ?_) fun e1 s₁ q => ?_)
  · refine hide fun GOAL hGOAL => ?_
    obtain ⟨⟨fl, r1⟩, m1, io1, e1, st, H, ⟨kf, F⟩, sm⟩ := q
    refine hGOAL ?_
    clear hGOAL GOAL
    have ee : tryD S (cb r) c ni ch r m = .ok (fl, r1) m1 := by unfold tryD; rw [e1]
    dsimp only
    rw [ee]
    have st' := st.wk (own' := ownOf env) (fun _ q => nomatch q)
    cases kf with
    | next => exact wpAny_execs_nil ⟨_, m1, io1, rfl, st', H, ⟨.next, F⟩, sm⟩
    | cont => exact ⟨_, m1, io1, rfl, st', H, ⟨.cont, F⟩, sm⟩
    | ret kv => exact ⟨_, m1, io1, rfl, st', H, ⟨.ret kv, F⟩, sm⟩
  · refine hide fun GOAL hGOAL => ?_
    obtain ⟨d, m1, io1, a, g, e1, rfl, st, Hg, fly, sm⟩ := q
    refine hGOAL ?_
    clear hGOAL GOAL
    dsimp only at hne ⊢
    have ee : tryD S (cb r) c ni ch r m = tryX S c ni ch r d m1 := by unfold tryD; rw [e1]
    rw [ee] at hne ⊢
    by_cases hs : ((S.cls[d]?).any fun k => k.supers.contains c) = true
    rotate_left
    · exact absurd (if_neg hs) hne
    · have e0 : tryX S c ni ch r d m1 = ((ch (exR ni d r) m1).nox).bind fun v => ret (.ret v, exN ni r) := if_pos hs
      rw [e0] at hne ⊢
      obtain ⟨v, m2, e2⟩ : ∃ v m2, ch (exR ni d r) m1 = .ok v m2 := by
        cases q : ch (exR ni d r) m1 with
        | ok v m2 => exact ⟨v, m2, rfl⟩
        | exc c m2 => rw [q] at hne; exact absurd rfl hne
        | bad => rw [q] at hne; exact absurd rfl hne
      have e3 : ((ch (exR ni d r) m1).nox).bind (fun v => ret (Fl.ret v, exN ni r)) = .ok (.ret v, exN ni r) m2 := by rw [e2]; rfl
      rw [e3]
      refine note_any hA Z.fr fly fun B h4 a0 kp held up4 => ?_
      refine wpAny_landsW held fun h5 fl5 up5 => ?_
      obtain ⟨st5, H5⟩ := land Z.sit.G st Hg kp fl5.1 (up4.trans up5)
      have Z5 : Sit W (env :: fs) env vis { s₁ with heap := h5 } io1 m1 r := Z.sit.step H5 st5
      have LT : Looks (model W.prog W.w) h5 (typeOf (.ref a)) (.ref (W.ca d)) := by
        refine hide fun GOAL hGOAL => ?_
        obtain ⟨ob, hob, hc⟩ := fl5.there
        refine hGOAL ?_
        clear hGOAL GOAL
        rw [← hc]; exact (Looks.ld hob).andThen .now
      refine wpAny_handleBy_cons (codeAny_handlers_test (name_K gl Z5 ex hx hd ((exm_one (gl.X.keeps H5.keep) LT (hm d hs)).here ?_))) (by intro q; cases q)
      have suite : ∀ (s' : Shared) (io' : Io) (r' : Lo), Stt W fs env vis s' io' m1 r' → r' = exR ni d r → Step (ownOf env) (frs (env :: fs)) s.heap io m s'.heap io' m1 → Same s s' → ∀ (Q : Flow → Shared → Prop) (E : Value → Shared → Prop),
          (∀ f s₂, NP W (ownOf env) (frs (env :: fs)) s io m (SP W env vis) (.ok (.ret v, r') m2) f s₂ → Q f s₂) → wpAny (model W.prog W.w) (A.mark (some (.ref a))) (execs [.Return (some e) rp] env) Q E s' := by
        intro s' io' r' Z' hr st' sm' Q E hQ
        subst hr
        have key := x_cons (x_ret (pos := rp) (he a)) (x_nil (W := W) (A := A.mark (some (.ref a))) (fs := fs) (env := env) (vis := vis)) s' io' m1 _ Z'
        have er : (bnd (bnd (ch (exR ni d r)) fun v => ret (Fl.ret v, exR ni d r)) fun p => match p.1 with | .next => ret (.next, p.2) | f => ret (f, p.2)) m1 = .ok (.ret v, exR ni d r) m2 := by
          show Res.bind (Res.bind (ch (exR ni d r) m1) _) _ = _
          rw [e2]; rfl
        have key2 : Si W (ownOf env) (A.mark (some (.ref a))) (env :: fs) (SP W env vis) (execs [.Return (some e) rp] env) s' io' m1 (.ok (.ret v, exR ni d r) m2) := by
          rw [← er]; exact key
        refine wpAny_mono (key2 (fun q => by cases q)) (fun f s₂ q => hQ f s₂ (q.mono st' sm')) fun _ _ q => ?_
        refine hide fun GOAL hGOAL => ?_
        obtain ⟨_, _, _, _, _, q, _⟩ := q
        refine hGOAL ?_
        clear hGOAL GOAL
        cases q
      cases ni with
      | none =>
        cases nm with
        | some y => exact hnm.elim
        | none =>
          refine codeAny_handlers_suite ?_
          refine lands_againW fl5 fun h6 fl6 up6 => ?_
          obtain ⟨st6, H6⟩ := land Z.sit.G st Hg kp fl6.1 ((up4.trans up5).trans up6)
          have Z6 : Stt W fs env vis { s₁ with heap := h6 } io1 m1 r := ⟨H6, Z.F.step0 Z.H st6, Z.G.step0 st6, Z.fr, Z.dis⟩
          exact suite _ _ r Z6 rfl (st6.wk fun _ q => nomatch q) ⟨sm.1, sm.2⟩ _ _ fun f s₂ q => q
      | some i =>
        cases nm with
        | none => exact hnm.elim
        | some y =>
          obtain ⟨hv, hk⟩ := hnm
          refine codeAny_handlers_suite_as ?_
          refine lands_againW fl5 fun h6 fl6 up6 => ?_
          obtain ⟨st6, H6⟩ := land Z.sit.G st Hg kp fl6.1 ((up4.trans up5).trans up6)
          have Z6 : Stt W fs env vis { s₁ with heap := h6 } io1 m1 r := ⟨H6, Z.F.step0 Z.H st6, Z.G.step0 st6, Z.fr, Z.dis⟩
          refine hide fun GOAL hGOAL => ?_
          obtain ⟨oe, ws, hoe, hoec, hoed, _⟩ := fl6.first
          refine hGOAL ?_
          clear hGOAL GOAL
          refine wpAny_mono (store_sim (A := A.mark (some (.ref a))) Z6 hv (.inl hk) (.exc (c := d) hoe hoec hoed) (fun q => by cases q)) (fun _ s₇ q => ?_) fun _ _ q => ?_
          rotate_left
          · refine hide fun GOAL hGOAL => ?_
            obtain ⟨_, _, _, _, _, q, _⟩ := q
            refine hGOAL ?_
            clear hGOAL GOAL
            cases q
          refine hide fun GOAL hGOAL => ?_
          obtain ⟨_, _, io7, e7, st7, H7, F7, sm7⟩ := q
          refine hGOAL ?_
          clear hGOAL GOAL
          cases e7
          have Z7 : Stt W fs env vis s₇ io7 m1 (r.set i (some (.exc d))) := ⟨H7, F7, (Z6.G.step st7 Z.dis), Z.fr, Z.dis⟩
          have st7' := (st6.wk (own' := ownOf env) fun _ q => nomatch q).trans st7
          refine suite _ _ _ Z7 rfl st7' (sm.trans ⟨sm7.1, sm7.2⟩) _ _ fun f s₈ q => ?_
          refine hide fun GOAL hGOAL => ?_
          obtain ⟨_, _, io8, e8, st8, H8, ⟨kf, F8⟩, sm8⟩ := q
          refine hGOAL ?_
          clear hGOAL GOAL
          cases e8
          have Z8 : Stt W fs env vis s₈ io8 m2 (r.set i (some (.exc d))) := ⟨H8, F8, Z.G.step st8 Z.dis, Z.fr, Z.dis⟩
          refine wpAny_mono (name_goes (A := A) (k := hp) Z8 hv hk (fun q => by cases q)) (fun _ s₉ q => ?_) fun _ _ q => ?_
          rotate_left
          · refine hide fun GOAL hGOAL => ?_
            obtain ⟨_, _, _, _, _, q, _⟩ := q
            refine hGOAL ?_
            clear hGOAL GOAL
            cases q
          refine hide fun GOAL hGOAL => ?_
          obtain ⟨_, _, io9, e9, st9, H9, F9, sm9⟩ := q
          refine hGOAL ?_
          clear hGOAL GOAL
          cases e9
          have st10 := st8.trans st9
          have er : (r.set i (some (V.exc d))).set i none = r.set i none := List.set_set ..
          rw [er] at F9
          cases kf with
          | ret kv => exact ⟨_, _, io9, rfl, st10, H9, ⟨.ret (kv.step st9), F9⟩, sm8.trans sm9⟩
end
end Mini

/-! while, range, stores. -/
namespace Mini
open PySem PySem.W

section
variable {W : Wd} {K : Frag} {h h' : Heap} {fs : List Env} {env : Env} {vis : List (Option Str)} {s s' : Shared} {io io' io₀ : Io} {m m' m₀ : MH} {r r' : Lo} {fr own own' : List Addr} {A : Around} {n : Nat} {pos p : Pos}

/-- between two turns of a while -/
inductive WInv (W : Wd) (fs : List Env) (env : Env) (vis : List (Option Str)) (s : Shared) (io : Io) (m : MH) (ct : Lo → Mn Bool) (cb : Lo → Mn (Fl × Lo)) (R : Res (Fl × Lo)) (k : Nat) (s' : Shared) : Prop
  | mk (r' : Lo) (io' : Io) (m' : MH) : Step (ownOf env) (frs (env :: fs)) s.heap io m s'.heap io' m' → HR W s'.heap io' m' → FR W s'.heap io' env vis r' → Same s s' → whileD ct cb k r' m' = R → WInv W fs env vis s io m ct cb R k s'
/-! ### range -/
theorem Wk.range {I : Addr} {a c : Int} {k : Nat} {vs : List V} (hh : A.handled = none) (hk : k = vs.length) (hv : ∀ (i : Nat) (v : V), vs[i]? = some v → v = .int (a + i * c)) : Wk W A I [I] .none vs (fun i h io => IsRangeIter h I (a + (i : Nat) * c) ((k : Int) - (i : Nat)) c ∧ ¬ Foot io I) :=
  Wk.of_walks (Walks.range hh I a c k) hk (fun i v u h io e ⟨t, q⟩ => by rw [hv i v e, q]; exact .int _ _) (fun i h ht => ⟨_, _, _, ht, rfl, rfl, by decide⟩) fun b hb => .inl (by simpa using hb)

theorem ranged_get {f : Nat → V} {k i : Nat} {v : V} (h : ((List.range k).map f)[i]? = some v) : v = f i := by
  rw [List.getElem?_map] at h
  cases q : (List.range k)[i]? with
  | none => rw [q] at h; cases h
  | some j =>
    rw [q] at h
    have hk : j = i := by
      obtain ⟨hlt, e⟩ := List.getElem?_eq_some_iff.mp q
      simp at e; omega
    cases h; rw [hk]
theorem range_size3 {a b c : Int} (hc : 0 < c) : Builtin.Range.rangeSize a b c = (((b - a + c - 1) / c).toNat : Int) := by
  unfold Builtin.Range.rangeSize
  simp only [show c > 0 from hc, if_true]
  have e : (b - a + c - 1) / c = (b - a - 1) / c + 1 := by
    have : b - a + c - 1 = (b - a - 1) + 1 * c := by omega
    rw [this, Int.add_mul_ediv_right _ _ (by omega)]
  split
  · have : 0 ≤ (b - a - 1) / c := Int.ediv_nonneg (by omega) (by omega)
    omega
  · rename_i hle
    have h2 : (b - a - 1) / c < 0 := Int.ediv_neg_of_neg_of_pos (by omega) hc
    omega
theorem fitL {i : Int} (h1 : -(2 ^ 40) ≤ i) (h2 : i ≤ 2 ^ 40) : Builtin.Range.rangeFitsLong i = true := by
  unfold Builtin.Range.rangeFitsLong
  rw [Bool.and_eq_true]
  exact ⟨decide_eq_true (Int.le_trans (by decide) h1), decide_eq_true (Int.lt_of_le_of_lt h2 (by decide))⟩
theorem near {a : Int} (h : a.natAbs < 2 ^ 31) : -(2 ^ 31) ≤ a ∧ a ≤ 2 ^ 31 := by omega
theorem div_near {x c : Int} (hx : 0 ≤ x) (h : x ≤ 2 ^ 32) (hc : 0 < c) : -(2 ^ 40) ≤ x / c + 1 ∧ x / c + 1 ≤ 2 ^ 40 := by
  have h1 : 0 ≤ x / c := Int.ediv_nonneg hx (Int.le_of_lt hc)
  have h2 : x / c ≤ x := Int.ediv_le_self _ hx
  clear hc
  omega
theorem gap {a b : Int} (a1 : -(2 ^ 31) ≤ a) (b2 : b ≤ 2 ^ 31) (h : a < b) : 0 ≤ b - a - 1 ∧ b - a - 1 ≤ 2 ^ 32 := by omega
theorem last_near {b c : Int} (b1 : -(2 ^ 31) ≤ b) (b2 : b ≤ 2 ^ 31) (c1 : -(2 ^ 31) ≤ c) (c2 : c ≤ 2 ^ 31) : -(2 ^ 40) ≤ b + (c - 1) ∧ b + (c - 1) ≤ 2 ^ 40 := by omega
theorem range_small {a b c : Int} (ha : a.natAbs < 2 ^ 31) (hb : b.natAbs < 2 ^ 31) (hc : c.natAbs < 2 ^ 31) (h0 : 0 < c) : Builtin.Range.small a b c = true := by
  obtain ⟨a1, a2⟩ := near ha
  obtain ⟨b1, b2⟩ := near hb
  obtain ⟨c1, c2⟩ := near hc
  have far : ∀ {i : Int}, -(2 ^ 31) ≤ i → i ≤ 2 ^ 31 → Builtin.Range.rangeFitsLong i = true := fun h1 h2 => fitL (Int.le_trans (by decide) h1) (Int.le_trans h2 (by decide))
  have hs : Builtin.Range.rangeFitsLong (Builtin.Range.rangeSize a b c) = true := by
    unfold Builtin.Range.rangeSize
    rw [if_pos h0]
    by_cases h : a < b
    · rw [if_pos h]
      have g := gap a1 b2 h
      have d := div_near g.1 g.2 h0
      exact fitL d.1 d.2
    · rw [if_neg h]; rfl
  have l := last_near b1 b2 c1 c2
  unfold Builtin.Range.small
  rw [far a1 a2, far b1 b2, far c1 c2, hs, if_pos h0, fitL l.1 l.2, Bool.or_true]; rfl

/-- the range of a loop -/
theorem call_range_sim {vs : List V} {us : List Value} {l : List V} {m : MH} (H : HR W s.heap io m) (k : VRs W s.heap io vs us) (hr : rangeV vs = some l) {Q : Value → Shared → Prop} {E : Value → Shared → Prop}
    (hQ : ∀ (a b c : Int) (o : Obj) (tk : Nat) (t u v : Tok), a.natAbs < 2 ^ 31 → b.natAbs < 2 ^ 31 → c.natAbs < 2 ^ 31 → 0 < c → (l.length : Int) = Builtin.Range.rangeSize a b c → (∀ (i : Nat) (v : V), l[i]? = some v → v = .int (a + i * c)) → IsRange (s.heap.push o) s.heap.objs.size a b c t u v → Q (.ref s.heap.objs.size) { s with heap := s.heap.push o, toks := tk }) :
    wpAny (model W.prog W.w) A (call (.type "range") us) Q E s := by
  have e30 : (2 : Nat) ^ 30 < 2 ^ 31 := by decide
  unfold rangeV at hr
  split at hr
  · split at hr <;> cases hr
    rename_i hlt
    cases k with
    | cons k1 k2 =>
      cases k2
      cases k1
      refine call_range_1 (hQ 0 _ 1 _ _ _ _ _ (by decide) (Nat.lt_trans hlt e30) (by decide) (by decide) ?_ (fun i v e => ?_) (.new _ _ _ _ _ _ _))
      · rw [range_size3 (by decide)]; simp [rangeL]
      · rw [ranged_get e, Int.mul_one]
  · cases hr

theorem src_range {x : Str} {es : List Expr} {cl : Lo → Mn (List V)} (hh : A.handled = none) (gl : Gl W K) (e : nsIn K mainGlobals x = some none) (hv : bootBuiltins x = some (.type "range")) (hn : (x == ("__name__" : Str)) = false) (hx : env.kindOf x = some .globalImplicit) (hd : (x == ("__debug__" : Str)) = false) (hs : noStar es = true)
    (hl : SiL W A fs env vis (spliced (backTo pos (starEach es env))) cl) : SiSrc W A fs env vis (.Call (.Name x p) es [] pos) (fun r => bnd (cl r) fun vs => match rangeV vs with | some l => ret (l, .none) | none => bad) := by
  intro s io m r Z hne
  dsimp only at hne ⊢
  refine wpAny_Call_NameR (name_B gl Z e hv hn hx hd (callWith_type (plain_of hs) (args_of hs ?_)))
  refine wpAny_mono (hl s io m r Z (Res.bind_ne hne)) (fun us s₁ q => ?_) fun _ _ q => q.bind .refl (.refl _)
  refine hide fun GOAL hGOAL => ?_
  obtain ⟨vs, m₁, io₁, e1, st, H, k, sm⟩ := q
  refine hGOAL ?_
  clear hGOAL GOAL
  have ee : bnd (cl r) (fun vs => match rangeV vs with | some l => ret (l, Gd.none) | none => bad) m = (match rangeV vs with | some l => ret (l, Gd.none) | none => bad) m₁ := by show (cl r m).bind _ = _; rw [e1]; rfl
  rw [ee] at hne ⊢
  show wpAny (model W.prog W.w) A (call (.type "range") us) _ _ s₁
  have fin : ∀ (a b c : Int) (o : Obj) (tk : Nat) (t u v : Tok) (l : List V), a.natAbs < 2 ^ 31 → b.natAbs < 2 ^ 31 → c.natAbs < 2 ^ 31 → 0 < c → (l.length : Int) = Builtin.Range.rangeSize a b c → (∀ (i : Nat) (v : V), l[i]? = some v → v = .int (a + i * c)) → IsRange (s₁.heap.push o) s₁.heap.objs.size a b c t u v →
      wpAny (model W.prog W.w) A (pyIter (.ref s₁.heap.objs.size)) (fun it s₂ => NP W [] (frs fs) s io m (ItP W A s.heap) (.ok (l, Gd.none) m₁) it s₂) (XP W [] fs s io m (.ok (l, Gd.none) m₁ : Res (List V × Gd))) { s₁ with heap := s₁.heap.push o, toks := tk } := by
    intro a b c o tk t u v l ha hb hc h0 hsz hle hr
    have st1 : Step [] (frs fs) s₁.heap io₁ m₁ (s₁.heap.push o) io₁ m₁ := .of_keeps H (push_keeps _)
    have H1 : HR W (s₁.heap.push o) io₁ m₁ := H.of_keeps (push_keeps _)
    refine wpAny_pyIter_range hr (range_small ha hb hc h0) ?_
    have st2 : Step [] (frs fs) (s₁.heap.push o) io₁ m₁ _ io₁ m₁ := .of_keeps H1 (push_keeps { cls := .type "range_iterator", data := .fields #[rawInt a, rawInt (Builtin.Range.rangeSize a b c), rawInt c] })
    refine ⟨(l, .none), m₁, io₁, rfl, (st.trans st1).trans st2, H1.of_keeps (push_keeps _), ⟨_, _, _, rfl, Wk.range (a := a) (c := c) (k := l.length) hh rfl hle, ⟨?_, ?_⟩, fun b hb => ?_⟩, sm⟩
    · have := Heap.get?_push_size (h := s₁.heap.push o) (o := { cls := .type "range_iterator", data := .fields #[rawInt a, rawInt (Builtin.Range.rangeSize a b c), rawInt c] }) rfl
      rw [← hsz] at this ⊢
      simpa [IsRangeIter] using this
    · exact nofoot_size (s := { s₁ with heap := s₁.heap.push o }) H1
    · rw [List.mem_singleton.mp hb]
      exact dead_before (st.trans st1) (get_size _)
  cases hr : rangeV vs with
  | none => rw [hr] at hne; exact absurd rfl hne
  | some l => exact call_range_sim H k hr fun a b c o tk t u v ha hb hc h0 hsz hle hr => fin a b c o tk t u v l ha hb hc h0 hsz hle hr
end
end Mini

/-! The calls of functions. -/
namespace Mini
open PySem PySem.W

theorem zip_lookup_none {names : List Str} {us : List Value} (h : us.length = names.length) : ∀ n ∈ names, ((names.zip us).lookup n).isNone = false := by
  induction names generalizing us with
  | nil => intro n hn; cases hn
  | cons a as ih =>
    cases us with
    | nil => cases h
    | cons u us =>
      intro n hn
      simp only [List.zip_cons_cons, List.lookup_cons]
      cases q : n == a with
      | true => rfl
      | false =>
        rcases List.mem_cons.mp hn with rfl | hn
        · simp at q
        · exact ih (by simpa using h) n hn

theorem filterMap_zip {names : List Str} {us : List Value} (h : us.length = names.length) (hd : names.Nodup) : (names.filterMap fun n => ((names.zip us).lookup n).map (n, ·)) = names.zip us := by
  have key : ∀ (ns : List Str) (vs : List Value) (g : Str → Option Value), vs.length = ns.length → ns.Nodup → (∀ n v, (n, v) ∈ ns.zip vs → g n = some v) → (ns.filterMap fun n => (g n).map (n, ·)) = ns.zip vs := by
    intro ns
    induction ns with
    | nil => intro vs g _ _ _; simp
    | cons a as ih =>
      intro vs g hl hn hg
      cases vs with
      | nil => cases hl
      | cons u us =>
        have h1 := hg a u (by simp)
        rw [List.filterMap_cons]
        simp only [h1, Option.map_some, List.zip_cons_cons]
        rw [ih us g (by simpa using hl) (List.nodup_cons.mp hn).2 fun n v e => hg n v (by simp [e])]
  refine key names us _ h hd fun n v e => ?_
  clear key
  induction names generalizing us with
  | nil => simp at e
  | cons a as ih =>
    cases us with
    | nil => simp at e
    | cons u us =>
      simp only [List.zip_cons_cons, List.mem_cons, Prod.mk.injEq] at e
      simp only [List.zip_cons_cons, List.lookup_cons]
      rcases e with ⟨rfl, rfl⟩ | e
      · simp
      · have : n ≠ a := fun q => (List.nodup_cons.mp hd).1 (q ▸ (List.of_mem_zip e).1)
        have : (n == a) = false := by simpa using this
        rw [this]
        exact ih (by simpa using h) (List.nodup_cons.mp hd).2 e

theorem bindArgs_plain {fd : FuncData} {us : List Value} (hp : fd.params.posonlyargs = []) (hk : fd.params.kwonlyargs = []) (hv : fd.params.vararg = none) (hw : fd.params.kwarg = none) (hd : fd.defaults = .none) (hn : (fd.params.args.map (·.arg)).Nodup) (hl : us.length = fd.params.args.length) :
    bindArgs fd ⟨us, []⟩ = Pure.pure ((fd.params.args.map (·.arg)).zip us) := by
  have hm : ∀ k, ((List.take k (fd.params.args.map (·.arg))).filter fun n => (((fd.params.args.map (·.arg)).zip us).lookup n).isNone) = [] := by
    intro k
    rw [List.filter_eq_nil_iff]
    intro n hn' q
    rw [zip_lookup_none (by simpa using hl) n (List.mem_of_mem_take hn')] at q
    cases q
  have hz := filterMap_zip (names := fd.params.args.map (·.arg)) (us := us) (by simpa using hl) hn
  rw [List.filterMap_map] at hz
  have e1 : seqItems? Value.none = Pure.pure none := rfl
  unfold bindArgs
  simp [hp, hk, hv, hw, hd, hl, e1, hm]
  exact congrArg Pure.pure hz
section
variable {W : Wd} {K : Frag} {h h' h₀ : Heap} {fs : List Env} {env : Env} {vis : List (Option Str)} {s s' : Shared} {io io' io₀ : Io} {m m' m₀ : MH} {r r' : Lo} {fr fr' own own' : List Addr} {A : Around} {n : Nat} {pos p : Pos}

/-- what is new counts for nothing -/
theorem Step.shrink (H : HR W h₀ io m) (x : Step own fr h io m h' io' m') (k : ∀ b o, h₀.get? b = some o → h.get? b = some o) (ho : ∀ b ∈ own, h₀.get? b = none ∨ b ∈ own') (hf : ∀ b ∈ fr, h₀.get? b = none ∨ b ∈ fr') : Step own' fr' h₀ io m h' io' m' := by
  have oo : ∀ b o, h₀.get? b = some o → b ∉ own' → b ∉ own := fun b o e q w => by
    rcases ho b w with z | z
    · rw [z] at e; cases e
    · exact q z
  have ff : ∀ b o, h₀.get? b = some o → b ∉ fr' → b ∉ fr := fun b o e q w => by
    rcases hf b w with z | z
    · rw [z] at e; cases e
    · exact q z
  refine ⟨fun b o e => x.alive b o (k b o e), fun b o e so => x.solid b o (k b o e) so, fun b o e f1 f2 f3 => x.keep b o (k b o e) f1 (oo b o e f2) (ff b o e f3), fun b o e f1 f2 => x.slots b o (k b o e) f1 (oo b o e f2), ?_, ?_⟩
  · refine hide fun GOAL hGOAL => ?_
    obtain ⟨new, e, hn⟩ := x.grow
    refine hGOAL ?_
    clear hGOAL GOAL
    have back : ∀ b, h.get? b = none → h₀.get? b = none := fun b e => by
      cases q : h₀.get? b with
      | none => rfl
      | some o => rw [k b o q] at e; cases e
    exact ⟨new, e, fun p hp => ⟨back _ (hn p hp).1, back _ (hn p hp).2⟩⟩
  · intro i p kvs e hi hm
    refine hide fun GOAL hGOAL => ?_
    obtain ⟨k', e', q1, q2, q3⟩ := x.dicts i p kvs e hi hm
    refine hGOAL ?_
    clear hGOAL GOAL
    refine ⟨k', e', q1, q2, fun q => ⟨?_, (q3 q).2⟩⟩
    obtain ⟨o, ho⟩ := H.there hi
    rw [(q3 q).1, ho, k _ _ ho]

theorem bindL_other {kind : Str → Option NameKind} {y : Str} : ∀ (binds : List (Str × Value)) (mp : Str → Option Value), y ∉ binds.map (·.1) → bindL kind binds mp y = mp y
  | [], _, _ => rfl
  | (n, v) :: r, mp, h => by
    simp only [List.map_cons, List.mem_cons, not_or] at h
    simp only [bindL]
    rw [bindL_other r _ h.2]
    split
    · simp [h.1]
    · rfl
theorem bindC_other {kind : Str → Option NameKind} {y : Str} : ∀ (binds : List (Str × Value)) (mp : Str → Option Value), y ∉ binds.map (·.1) → bindC kind binds mp y = mp y
  | [], _, _ => rfl
  | (n, v) :: r, mp, h => by
    simp only [List.map_cons, List.mem_cons, not_or] at h
    simp only [bindC]
    rw [bindC_other r _ h.2]
    split
    · rfl
    · simp [h.1]
theorem bindL_get {kind : Str → Option NameKind} {y : Str} {u : Value} (hk : kind y = some .local) : ∀ (binds : List (Str × Value)) (mp : Str → Option Value), (binds.map (·.1)).Nodup → (y, u) ∈ binds → bindL kind binds mp y = some u
  | [], _, _, h => nomatch h
  | (n, v) :: r, mp, hn, h => by
    simp only [List.map_cons, List.nodup_cons] at hn
    simp only [bindL]
    rcases List.mem_cons.mp h with e | h
    · cases e
      rw [bindL_other r _ hn.1]; simp [hk]
    · exact bindL_get hk r _ hn.2 h
theorem bindC_get {kind : Str → Option NameKind} {y : Str} {u : Value} (hk : kind y = some .cell) : ∀ (binds : List (Str × Value)) (mp : Str → Option Value), (binds.map (·.1)).Nodup → (y, u) ∈ binds → bindC kind binds mp y = some u
  | [], _, _, h => nomatch h
  | (n, v) :: r, mp, hn, h => by
    simp only [List.map_cons, List.nodup_cons] at hn
    simp only [bindC]
    rcases List.mem_cons.mp h with e | h
    · cases e
      rw [bindC_other r _ hn.1]; simp [hk]
    · exact bindC_get hk r _ hn.2 h

theorem frame_start {kindOf : Str → Option NameKind} {names : List Str} {np : Nat} {vs : List V} {us : List Value} {i : Nat} {x : Str} {v : V} (hl : vs.length = np) (hu : VRs W h io vs us) (hv : (names.map some)[i]? = some (some x)) (hr : (vs.map some ++ List.replicate (names.length - np) (none : Option V))[i]? = some (some v)) :
    ∃ u, (x, u) ∈ (names.take np).zip us ∧ VR W h io v u := by
  have hi : i < vs.length := by
    rcases Nat.lt_or_ge i vs.length with q | q
    · exact q
    · rw [List.getElem?_append_right (by simpa using q)] at hr
      have := List.mem_of_getElem? hr
      simp at this
  rw [List.getElem?_append_left (by simpa using hi), List.getElem?_map] at hr
  cases q : vs[i]? with
  | none => rw [q] at hr; cases hr
  | some v' =>
    rw [q] at hr; cases hr
    refine hide fun GOAL hGOAL => ?_
    obtain ⟨u, hu', ku⟩ := hu.get q
    refine hGOAL ?_
    clear hGOAL GOAL
    refine ⟨u, ?_, ku⟩
    rw [List.getElem?_map] at hv
    have hx : names[i]? = some x := by
      cases w : names[i]? with
      | none => rw [w] at hv; cases hv
      | some y => rw [w] at hv; cases hv; rfl
    have : ((names.take np).zip us)[i]? = some (x, u) := by
      rw [List.getElem?_zip_eq_some]
      exact ⟨by rw [List.getElem?_take_of_lt (by omega)]; exact hx, hu'⟩
    exact List.mem_of_getElem? this

/-- a function's frame, as it is entered -/
theorem enter_sim {scope : Scope} {names : List Str} {np : Nat} {vs : List V} {us : List Value} {binds : List (Str × Value)} {qual : Str} {func : Option Addr} {code : Value} (H : HR W s.heap io m) (G : FF W s.heap io fs) (hl : vs.length = np) (hnp : np ≤ names.length) (hu : VRs W s.heap io vs us)
    (hk : scope.kind = .function) (hn : names.Nodup) (hkind : ∀ x ∈ names, scope.names.lookup x = some .local ∨ scope.names.lookup x = some .cell) (hb : binds = (names.take np).zip us)
    (he : env = newEnv scope s.heap.objs.size mainGlobals (cellsFrom (s.heap.objs.size + 1) scope.names []) qual func code none builtinsNs) (hI : InCallC s env.locals (bindL env.kindOf binds fun _ => none) env.cells (bindC env.kindOf binds fun _ => none) s') :
    Stt W fs env (names.map some) s' io m (vs.map some ++ List.replicate (names.length - np) none) ∧ (∀ b ∈ ownOf env, s.heap.get? b = none) := by
  have hloc : env.locals = s.heap.objs.size := by rw [he]; rfl
  have hkd : ∀ x, env.kindOf x = scope.names.lookup x := fun x => by rw [he]; rfl
  have keep := hI.toInCall.keep
  have hsz : us.length = np := by rw [hu.length, hl]
  have bn : binds.map (·.1) = names.take np := by
    rw [hb, List.map_fst_zip (by rw [hsz]; simp; omega)]
  have bnd' : (binds.map (·.1)).Nodup := by rw [bn]; exact hn.sublist (List.take_sublist _ _)
  have up : ∀ b, s.heap.objs.size ≤ b → s.heap.get? b = none := fun b hb => by
    cases q : s.heap.get? b with
    | none => rfl
    | some o => exact absurd (Heap.lt_size q) (Nat.not_lt.mpr hb)
  have celUp : ∀ q ∈ env.cells, s.heap.get? q.2 = none := fun q hq => up _ (by have := hI.above q.1 q.2 hq; rw [hloc] at this; exact Nat.le_of_lt this)
  have basN : ∀ b, s.heap.get? b = none → W.base.get? b = none := fun b e => by
    cases q : W.base.get? b with
    | none => rfl
    | some o => rw [H.keep _ _ q] at e; cases e
  have nfN : ∀ b, s.heap.get? b = none → ¬ Foot io b := fun b e f => by
    refine hide fun GOAL hGOAL => ?_
    obtain ⟨o, ho, _⟩ := H.foot f
    refine hGOAL ?_
    clear hGOAL GOAL
    rw [e] at ho; cases ho
  have st : Step [] [] s.heap io m s'.heap io m := .of_keeps H keep
  have own0 : ∀ b ∈ ownOf env, s.heap.get? b = none := fun b hb => by
    rcases List.mem_cons.mp hb with rfl | hb
    · exact up _ (by rw [hloc]; exact Nat.le_refl _)
    · refine hide fun GOAL hGOAL => ?_
      obtain ⟨q, hq, e⟩ := List.mem_filterMap.mp hb
      refine hGOAL ?_
      clear hGOAL GOAL
      exact celUp _ (mem_of_lookup e)
  have cex : ∀ x, scope.names.lookup x = some .cell → ∃ c, env.cells.lookup x = some c := fun x hx => by
    have := cellsFrom_some scope.names (s.heap.objs.size + 1) [] (x := x) (.inl hx)
    have e : env.cells = cellsFrom (s.heap.objs.size + 1) scope.names [] := by rw [he]; rfl
    rw [e]
    exact Option.isSome_iff_exists.mp this
  have memNames : ∀ (i : Nat) (x : Str), (names.map some)[i]? = some (some x) → names[i]? = some x := fun i x hv => by
    rw [List.getElem?_map] at hv
    cases w : names[i]? with
    | none => rw [w] at hv; cases hv
    | some y => rw [w] at hv; cases hv; rfl
  have nofree : ∀ (i : Nat) (x : Str), (names.map some)[i]? = some (some x) → env.kindOf x ≠ some .free := fun i x hv q => by
    rw [hkd] at q
    rcases hkind x (List.mem_of_getElem? (memNames i x hv)) with e | e <;> rw [q] at e <;> cases e
  refine ⟨⟨H.of_keeps keep, ⟨?_, ?_, ?_, ?_, ?_, ⟨_, hI.toInCall.ns, fun i x v h1 h2 h3 => ?_⟩, fun i x v h1 h2 h3 => ?_, fun x c hc => ?_, fun i x h1 h2 => ?_, fun x y c h1 h2 => ?_, fun i j x h1 h2 => ?_, ?_⟩, G.step0 st, ?_, fun L hL q => ?_⟩, own0⟩
  · rw [he]; exact hk
  · rw [he]; rfl
  · rw [he]; rfl
  · exact nfN _ (own0 _ (.head _))
  · exact basN _ (own0 _ (.head _))
  · refine hide fun GOAL hGOAL => ?_
    obtain ⟨u, hm, ku⟩ := frame_start (kindOf := env.kindOf) hl hu h1 h2
    refine hGOAL ?_
    clear hGOAL GOAL
    exact ⟨u, bindL_get h3 binds _ bnd' (hb ▸ hm), ku.step st⟩
  · rcases h3 with h3 | h3
    · refine hide fun GOAL hGOAL => ?_
      obtain ⟨u, hm, ku⟩ := frame_start (kindOf := env.kindOf) hl hu h1 h2
      refine hGOAL ?_
      clear hGOAL GOAL
      obtain ⟨c, hc⟩ := cex x (by rw [← hkd]; exact h3)
      refine ⟨c, u, hc, ?_, ku.step st⟩
      have := hI.cell x c hc
      rwa [bindC_get h3 binds _ bnd' (hb ▸ hm)] at this
    · exact absurd h3 (nofree i x h1)
  · have hm := mem_of_lookup hc
    exact ⟨⟨_, hI.cell x c hc⟩, basN _ (celUp _ hm), fun e => by have := hI.above x c hm; rw [e] at this; exact absurd this (Nat.lt_irrefl _)⟩
  · rcases h2 with h2 | h2
    · exact cex x (by rw [← hkd]; exact h2)
    · exact absurd h2 (nofree i x h1)
  · have h1' := mem_of_lookup h1
    have h2' := mem_of_lookup h2
    have : ∀ (l : List (Str × Addr)), l.Pairwise (fun x y => x.2 ≠ y.2) → ∀ a ∈ l, ∀ b ∈ l, a.2 = b.2 → a = b := by
      intro l hp
      induction l with
      | nil => intro a ha; cases ha
      | cons z zs ih =>
        obtain ⟨p1, p2⟩ := List.pairwise_cons.mp hp
        intro a ha b hb e
        rcases List.mem_cons.mp ha with ea | ha' <;> rcases List.mem_cons.mp hb with eb | hb'
        · rw [ea, eb]
        · rw [ea] at e; exact absurd e (p1 b hb')
        · rw [eb] at e; exact absurd e.symm (p1 a ha')
        · exact ih p2 a ha' b hb' e
    exact congrArg Prod.fst (this _ hI.apart _ h1' _ h2' rfl)
  · have e1 := memNames i x h1
    have e2 := memNames j x h2
    exact (List.getElem?_inj (List.getElem?_eq_some_iff.mp e1).1 hn).mp (e1.trans e2.symm)
  · simp [hl]; omega
  · rw [he]; rfl
  · have := own0 L q
    refine hide fun GOAL hGOAL => ?_
    obtain ⟨e, hee, hf⟩ := List.mem_filterMap.mp hL
    refine hGOAL ?_
    clear hGOAL GOAL
    refine hide fun GOAL hGOAL => ?_
    obtain ⟨_, L', o, _, _, h1, _, _, h4, _⟩ := G e hee
    refine hGOAL ?_
    clear hGOAL GOAL
    rw [h1] at hf; cases hf; rw [this] at h4; cases h4
end
end Mini

/-! The calls of functions, whole. -/
namespace Mini
open PySem PySem.W

/-- the head of a function, as the walk needs it -/
noncomputable def fnHead (K : Frag) (fd : FuncData) (d : FnD) : Bool :=
  fd.scope.kind == .function && !fd.scope.isCoroutine && !fd.scope.isGenerator && fd.globals == mainGlobals && fd.builtins == builtinsNs && fd.closure.isEmpty && fd.params.posonlyargs.isEmpty && fd.params.kwonlyargs.isEmpty && fd.params.vararg.isNone && fd.params.kwarg.isNone &&
  (match fd.defaults with | .none => true | _ => false) && decide (fd.params.args.map (·.arg) = d.names.take d.np) && decide (d.np ≤ d.names.length) && decide d.names.Nodup && (d.names.all fun x => fd.scope.names.lookup x == some .local || fd.scope.names.lookup x == some .cell) && codeIn K fd.code fd.qualname

section
variable {W : Wd} {K : Frag} {h h' h₀ : Heap} {fs : List Env} {env : Env} {vis : List (Option Str)} {s s' : Shared} {io io' io₀ : Io} {m m' m₀ : MH} {r r' : Lo} {fr fr' own own' : List Addr} {A : Around} {n : Nat} {pos p : Pos}

theorem leave_sim {e : Value} {α β : Type} {R : Res α} {f : α → Mn β} (hA : A.frames = some (env :: fs)) (hf : env.frame = some env.locals) {s₀ : Shared} (H : HR W s₀.heap io m) (k : ∀ b o, s₀.heap.get? b = some o → s.heap.get? b = some o) (own0 : ∀ b ∈ ownOf env, s₀.heap.get? b = none) (sm : Same s₀ s)
    (x : XP W (ownOf env) (env :: fs) s io m R e s') : wpAny (model W.prog W.w) A (leaving env e) (fun _ s'' => XP W [] fs s₀ io m (R.bind f) e s'') (fun _ _ => False) s' := by
  refine hide fun GOAL hGOAL => ?_
  obtain ⟨c, m', io', a, g, rfl, rfl, st, Hg, ⟨B, kp, fly⟩, sm'⟩ := x
  refine hGOAL ?_
  clear hGOAL GOAL
  have hL : s₀.heap.get? env.locals = none := own0 _ (.head _)
  have frs' : ∀ b ∈ frs (env :: fs), s₀.heap.get? b = none ∨ b ∈ frs fs := fun b hb => by
    have e : frs (env :: fs) = env.locals :: frs fs := by simp [frs, hf]
    rw [e] at hb
    rcases List.mem_cons.mp hb with rfl | hb
    · exact .inl hL
    · exact .inr hb
  have st0 : Step [] (frs fs) s₀.heap io m g io' m' := st.shrink H k (fun b hb => .inl (own0 b hb)) frs'
  have kp0 : Kp W s₀.heap io' fs g B := fun b o e q => kp b o e (q.imp id (Or.imp id (Or.imp id fun ⟨⟨o', e'⟩, q⟩ => ⟨⟨o', k b o' e'⟩, fun w => by
    rcases frs' b w with z | z
    · rw [z] at e'; cases e'
    · exact q z⟩)))
  rcases fly with ⟨a0, f1, f2⟩ | ⟨a0, L, env', f0, f0', f1, f2⟩ | ⟨args, f1, f2, f3⟩
  · refine wpAny_leaves_onW hA hf f1 fun h' q1 q2 => ?_
    exact ⟨c, m', io', a, g, rfl, rfl, st0, Hg, ⟨B, kp0, .inl ⟨a0, q1, f2.trans q2⟩⟩, sm.trans ⟨sm'.1, sm'.2⟩⟩
  · cases f0
    unfold leaving
    refine wpAny_bind (wpAny_noteFrame_againW f0' f1.2.2.2 ?_)
    refine wpAny_landsW f1 fun h' q1 q2 => ?_
    obtain ⟨k1, k2, ⟨_, _, k3⟩, k4⟩ := q1
    exact ⟨c, m', io', a, g, rfl, rfl, st0, Hg, ⟨B, kp0, .inl ⟨a0, ⟨k1, k2, k3, k4⟩, f2.trans q2⟩⟩, sm.trans ⟨sm'.1, sm'.2⟩⟩
  · refine wpAny_leaves_madeW hA hf f1 f2 f3 fun h' t q1 q2 q3 q4 => ?_
    exact ⟨c, m', io', a, g, rfl, rfl, st0, Hg, ⟨B, kp0, .inl ⟨_, q1, (Heap.UpToSlots.of_keeps f3.keeps).trans q4⟩⟩, sm.trans ⟨sm'.1, sm'.2⟩⟩

theorem AR.deeper {A : Around} (R : AR A fs (n + 1)) (env : Env) : AR (A.deeper env) (env :: fs) n :=
  ⟨by show A.frames.map (env :: ·) = _; rw [R.frames]; rfl, by have := R.depth; show A.depth + 1 + 4 * n ≤ 900; omega, by have := R.units; show A.units + 3 + 40 * n + 400 ≤ 9000; omega⟩

theorem call_sim {a : Addr} {o : Obj} {fd : FuncData} {body : List Stmt} {d : FnD} {Fb : Lo → Mn (Fl × Lo)} (gl : Gl W K) (R : AR A fs (n + 1)) (ho : K.lookup a = some o) (hdata : o.data = .func fd) (hh : fnHead K fd d = true) (hb : fd.body = .stmts body)
    (hbody : ∀ env : Env, env.scope = fd.scope → SiS W (A.deeper env) fs env (d.names.map some) (execs body env) Fb) :
    SiK W A fs (.ref a) (fun vs => if vs.length = d.np then bnd (Fb (vs.map some ++ List.replicate (d.names.length - d.np) none)) finF else bad) := by
  intro s io m vs us H G hu
  dsimp only
  simp only [fnHead, Bool.and_eq_true, beq_iff_eq, Bool.not_eq_true', decide_eq_true_eq, List.isEmpty_iff, Option.isNone_iff_eq_none] at hh
  refine hide fun GOAL hGOAL => ?_
  obtain ⟨⟨⟨⟨⟨⟨⟨⟨⟨⟨⟨⟨⟨⟨⟨h1, h2⟩, h3⟩, h4⟩, h5⟩, h6⟩, h7⟩, h8⟩, h9⟩, h10⟩, h11⟩, h12⟩, h13⟩, h14⟩, h15⟩, h16⟩ := hh
  refine hGOAL ?_
  clear hGOAL GOAL
  have hdef : fd.defaults = .none := by
    cases q : fd.defaults <;> rw [q] at h11 <;> first | rfl | (exact absurd h11 Bool.false_ne_true)
  split
  · rename_i hl
    intro hne
    have hlen : us.length = fd.params.args.length := by
      have := congrArg List.length h12
      simp at this
      rw [hu.length, hl]; omega
    have hnd : (fd.params.args.map (·.arg)).Nodup := by rw [h12]; exact h14.sublist (List.take_sublist _ _)
    refine codeAny_call_function (by have := R.depth; simp only [recursionLimit]; omega) (H.get gl ho) hdata h2 h3 hb ((codeRec_of gl.X h16).keeps H.keep) ?_
    rw [bindArgs_plain h7 h8 h9 h10 hdef hnd hlen]
    refine wpAny_pure ?_
    rw [h4, h5, h6]
    have hkinds : ∀ x ∈ d.names, fd.scope.names.lookup x = some .local ∨ fd.scope.names.lookup x = some .cell := fun x hx => by
      have := List.all_eq_true.mp h15 x hx
      simpa using this
    refine wpAny_newFunctionEnv_cells h1 (fun x hx => ?_) fun env he s₂ hI => ?_
    · have hxn : x.1 ∈ d.names := by
        have := (List.of_mem_zip (show (x.1, x.2) ∈ _ from hx)).1
        rw [h12] at this
        exact List.mem_of_mem_take this
      rcases hkinds _ hxn with e | e
      · exact .inl e
      · exact .inr ⟨e, cellsFrom_some _ _ _ (.inl e)⟩
    · rw [h12] at hI
      obtain ⟨Z, own0⟩ := enter_sim H G hl h13 hu h1 h14 hkinds rfl he hI
      have keep := hI.toInCall.keep
      refine hide fun GOAL hGOAL => ?_
      obtain ⟨hs, htk, hse⟩ := hI.toInCall.same
      refine hGOAL ?_
      clear hGOAL GOAL
      have sm : Same s s₂ := by rw [hse]; exact ⟨rfl, rfl⟩
      refine ⟨gl.ok.nolimit.keeps (fun b o e => keep b o (H.keep b o e)), codeAny_func ?_⟩
      have hsc : env.scope = fd.scope := by rw [he]; rfl
      have Rd := R.deeper env
      refine wpAny_mono (hbody env hsc s₂ io m _ Z (Res.bind_ne hne)) (fun f s₃ q => ?_) fun e s₃ q => ?_
      · refine hide fun GOAL hGOAL => ?_
        obtain ⟨⟨fl, r₃⟩, m₃, io₃, e3, st3, H3, ⟨kf, F3⟩, sm3⟩ := q
        refine hGOAL ?_
        clear hGOAL GOAL
        have frs' : ∀ b ∈ frs (env :: fs), s.heap.get? b = none ∨ b ∈ frs fs := fun b hb => by
          have e : frs (env :: fs) = env.locals :: frs fs := by simp [frs, Z.fr]
          rw [e] at hb
          rcases List.mem_cons.mp hb with rfl | hb
          · exact .inl (own0 _ (.head _))
          · exact .inr hb
        have st0 : Step [] (frs fs) s.heap io m s₃.heap io₃ m₃ := st3.shrink H keep (fun b hb => .inl (own0 b hb)) frs'
        have ee : ∀ g : Fl × Lo → Mn V, bnd (Fb (vs.map some ++ List.replicate (d.names.length - d.np) none)) g m = g (fl, r₃) m₃ := fun g => by show (Fb _ m).bind _ = _; rw [e3]; rfl
        rw [ee] at hne ⊢
        cases kf with
        | next => exact ⟨_, m₃, io₃, rfl, st0, H3, .none, sm.trans sm3⟩
        | cont => exact absurd rfl hne
        | ret kv => exact ⟨_, m₃, io₃, rfl, st0, H3, kv, sm.trans sm3⟩
      · exact wpAny_mono (leave_sim Rd.frames Z.fr H keep own0 sm q) (fun _ _ q => q) fun _ _ q => q.elim
  · exact fun h => absurd rfl h
end
end Mini

/-! Comprehensions. -/
namespace Mini
open PySem PySem.W

section
variable {W : Wd} {K : Frag} {h h' h₀ : Heap} {fs : List Env} {env : Env} {vis : List (Option Str)} {s s' : Shared} {io io' io₀ : Io} {m m' m₀ : MH} {r r' : Lo} {fr fr' own own' : List Addr} {A : Around} {n : Nat} {pos p : Pos}

theorem closure_of {scope : Scope} (hc : ∀ x k, (x, k) ∈ scope.names → k = .free → ∃ c, env.cells.lookup x = some c) :
    ∃ cl, closureFor scope env = Pure.pure cl ∧ (∀ x c, cl.lookup x = some c → env.cells.lookup x = some c) ∧ (∀ x, (x, NameKind.free) ∈ scope.names → ∃ c, cl.lookup x = some c) := by
  have key : ∀ (l : List (Str × NameKind)) (f : (Str × NameKind) → List (Str × Addr) → Sem (ForInStep (List (Str × Addr)))) (cs : List (Str × Addr)),
      (∀ x k cs, f (x, k) cs = if k == .free then (do let c ← cellOf env x; Pure.pure (.yield ((x, c) :: cs))) else Pure.pure (.yield cs)) →
      (∀ x k, (x, k) ∈ l → k = .free → ∃ c, env.cells.lookup x = some c) → (∀ x c, cs.lookup x = some c → env.cells.lookup x = some c) →
      ∃ cl, forIn l cs f = Pure.pure cl ∧ (∀ x c, cl.lookup x = some c → env.cells.lookup x = some c) ∧ (∀ x, (x, NameKind.free) ∈ l → ∃ c, cl.lookup x = some c) ∧ (∀ x c, cs.lookup x = some c → ∃ c', cl.lookup x = some c') := by
    intro l
    induction l with
    | nil => intro f cs _ _ h2; exact ⟨cs, rfl, h2, fun _ q => (by cases q), fun x c q => ⟨c, q⟩⟩
    | cons p l ih =>
      intro f cs hf hl h2
      obtain ⟨x, k⟩ := p
      rw [List.forIn_cons, hf]
      by_cases q : k = .free
      · subst q
        obtain ⟨c, hcx⟩ := hl x .free (.head _) rfl
        have e1 : cellOf env x = Pure.pure c := by unfold cellOf; rw [hcx]
        rw [e1]
        obtain ⟨cl, g1, g2, g3, g4⟩ := ih f ((x, c) :: cs) hf (fun y j hy => hl y j (.tail _ hy)) (fun y c' hy => by
          rw [List.lookup_cons] at hy
          cases z : y == x with
          | true => rw [z] at hy; cases hy; rw [beq_iff_eq.mp z]; exact hcx
          | false => rw [z] at hy; exact h2 y c' hy)
        refine ⟨cl, g1, g2, fun y hy => ?_, fun y c' hy => ?_⟩
        · rcases List.mem_cons.mp hy with e | hy
          · cases e; exact g4 x c (by simp)
          · exact g3 y hy
        · by_cases z : y = x
          · subst z; exact g4 y c (by simp)
          · exact g4 y c' (by rw [List.lookup_cons]; have : (y == x) = false := by simpa using z
                              rw [this]; exact hy)
      · have q' : (k == NameKind.free) = false := by simpa using q
        simp only [q', Bool.false_eq_true, if_false]
        refine hide fun GOAL hGOAL => ?_
        obtain ⟨cl, g1, g2, g3, g4⟩ := ih f cs hf (fun y j hy => hl y j (.tail _ hy)) h2
        refine hGOAL ?_
        clear hGOAL GOAL
        refine ⟨cl, g1, g2, fun y hy => ?_, g4⟩
        rcases List.mem_cons.mp hy with e | hy
        · cases e; exact absurd rfl q
        · exact g3 y hy
  have e : closureFor scope env = (forIn scope.names ([] : List (Str × Addr)) (fun (p : Str × NameKind) cs => if p.2 == .free then (do let c ← cellOf env p.1; Pure.pure (ForInStep.yield ((p.1, c) :: cs))) else Pure.pure (ForInStep.yield cs)) >>= fun cs => Pure.pure cs) := rfl
  rw [e]
  obtain ⟨cl, g1, g2, g3, _⟩ := key scope.names (fun (p : Str × NameKind) cs => if p.2 == .free then (do let c ← cellOf env p.1; Pure.pure (ForInStep.yield ((p.1, c) :: cs))) else Pure.pure (ForInStep.yield cs)) [] (fun x k cs => rfl) hc (fun _ _ q => by cases q)
  exact ⟨cl, by rw [g1]; rfl, g2, g3⟩

/-- a local name takes a value -/
theorem storeL_sim (H : HR W s.heap io m) (F : FR W s.heap io env vis r) (ho : env.locals ∈ own) {i : Nat} {x : Str} {v : V} {u : Value} (hv : vis[i]? = some (some x)) (hk : env.kindOf x = some .local) (k : VR W s.heap io v u) :
    Si W own A fs (RP W env vis) (storeName env x u) s io m (.ok (r.set i (some v)) m) := by
  intro _
  have hi : i < vis.length := (List.getElem?_eq_some_iff.mp hv).1
  have row : ∀ (j : Nat) (y : Str) (w : V), vis[j]? = some (some y) → (r.set i (some v))[j]? = some (some w) → (y = x ∧ w = v) ∨ (y ≠ x ∧ r[j]? = some (some w)) := by
    intro j y w h1 h2
    by_cases q : i = j
    · subst q
      rw [List.getElem?_set_self (by rw [F.len]; exact hi)] at h2
      rw [hv] at h1
      cases h1; cases h2; exact .inl ⟨rfl, rfl⟩
    · rw [List.getElem?_set_ne q] at h2
      refine .inr ⟨fun e => q (F.inj i j x hv (e ▸ h1)), h2⟩
  refine hide fun GOAL hGOAL => ?_
  obtain ⟨mp, hn, hl⟩ := F.loc
  refine hGOAL ?_
  clear hGOAL GOAL
  refine hide fun GOAL hGOAL => ?_
  obtain ⟨oL, esL, epL, hoL, hdL, _⟩ := id hn
  refine hGOAL ?_
  clear hGOAL GOAL
  refine wpAny_storeName_local hk hn (fun h' hn' hs => ?_) (by rw [F.kind]; rfl)
  have kk : ∀ b o, b ≠ env.locals → s.heap.get? b = some o → h'.get? b = some o := fun b o q e => (hs.2 b q).trans e
  have lv : ∀ o, s.heap.get? env.locals = some o → ¬ Solid o ∧ ∃ o', h'.get? env.locals = some o' := fun o ho => by
    rw [hoL] at ho; cases ho
    refine hide fun GOAL hGOAL => ?_
    obtain ⟨o', _, _, ho', _⟩ := id hn'
    refine hGOAL ?_
    clear hGOAL GOAL
    exact ⟨not_solid_dict hdL, o', ho'⟩
  have st : Step own (frs fs) s.heap io m h' io m := step_own H (L := env.locals) ho kk lv F.nofoot
  have H' : HR W h' io m := H.ofOwn (own := own) (L := env.locals) ho kk lv F.nofoot F.fresh
  refine ⟨_, m, io, rfl, st, H', ?_, rfl, rfl⟩
  refine ⟨F.kind, F.glob, F.blt, F.nofoot, F.fresh, ⟨_, hn', fun j y w h1 h2 h3 => ?_⟩, fun j y w h1 h2 h3 => ?_, fun y c hy => ?_, F.celex, F.apart, F.inj, by simp [F.len]⟩
  · rcases row j y w h1 h2 with ⟨rfl, rfl⟩ | ⟨q, h2⟩
    · exact ⟨u, by simp, k.step st⟩
    · refine hide fun GOAL hGOAL => ?_
      obtain ⟨u', e, k'⟩ := hl j y w h1 h2 h3
      refine hGOAL ?_
      clear hGOAL GOAL
      exact ⟨u', by simp [q, e], k'.step st⟩
  · rcases row j y w h1 h2 with ⟨rfl, rfl⟩ | ⟨q, h2⟩
    · rw [hk] at h3; simp at h3
    · refine hide fun GOAL hGOAL => ?_
      obtain ⟨c, u', e, k1, k2⟩ := F.cel j y w h1 h2 h3
      refine hGOAL ?_
      clear hGOAL GOAL
      refine ⟨c, u', e, ?_, k2.step st⟩
      refine hide fun GOAL hGOAL => ?_
      obtain ⟨oc, hoc, hdc⟩ := k1
      refine hGOAL ?_
      clear hGOAL GOAL
      exact ⟨oc, kk c oc (F.cells y c e).2.2 hoc, hdc⟩
  · refine hide fun GOAL hGOAL => ?_
    obtain ⟨⟨o, oc, hoc, hdc⟩, k2, k3⟩ := F.cells y c hy
    refine hGOAL ?_
    clear hGOAL GOAL
    exact ⟨⟨o, oc, kk c oc k3 hoc, hdc⟩, k2, k3⟩

theorem FR.weak (F : FR W h io env vis r) (k : ∀ (j : Nat) (w : V), r'[j]? = some (some w) → r[j]? = some (some w)) (hl : r'.length = r.length) : FR W h io env vis r' := by
  refine hide fun GOAL hGOAL => ?_
  obtain ⟨mp, hn, hl'⟩ := F.loc
  refine hGOAL ?_
  clear hGOAL GOAL
  exact ⟨F.kind, F.glob, F.blt, F.nofoot, F.fresh, ⟨mp, hn, fun i x v h1 h2 h3 => hl' i x v h1 (k i v h2) h3⟩, fun i x v h1 h2 h3 => F.cel i x v h1 (k i v h2) h3, F.cells, F.celex, F.apart, F.inj, hl.trans F.len⟩

/-! ### the tests of a comprehension -/
noncomputable def tests (ifs : List Expr) (env : Env) (b : Bool) : Sem Bool := forIn ifs b fun c r => if r = true then do let ok ← isTrue c env (eval c env); Pure.pure (ForInStep.yield ok) else Pure.pure (ForInStep.yield r)
theorem tests_false (ifs : List Expr) : tests ifs env false = Pure.pure false := by
  induction ifs with
  | nil => rfl
  | cons c cs ih => unfold tests; rw [List.forIn_cons]; exact ih
theorem if_nil : SiB W A fs env vis (tests [] env true) (fun _ => ret true) := fun _ _ _ _ Z => .pure (u := true) Z.H rfl
theorem if_cons {c : Expr} {cs : List Expr} {ct cts : Lo → Mn Bool} (hc : SiB W A fs env vis (isTrue c env (eval c env)) ct) (hs : SiB W A fs env vis (tests cs env true) cts) :
    SiB W A fs env vis (tests (c :: cs) env true) (fun r => bnd (ct r) fun b => if b then cts r else ret false) := by
  intro s io m r Z hne
  unfold tests
  rw [List.forIn_cons]
  refine wpAny_bind ?_
  simp only [if_true]
  refine wpAny_bind (wpAny_mono (hc s io m r Z (Res.bind_ne hne)) (fun b s₁ q => wpAny_pure ?_) fun _ _ q => q.bind .refl (.refl _))
  refine hide fun GOAL hGOAL => ?_
  obtain ⟨b', m₁, io₁, e1, st, H₁, rfl, sm⟩ := q
  refine hGOAL ?_
  clear hGOAL GOAL
  have ee : bnd (ct r) (fun b => if b then cts r else ret false) m = (if b' then cts r else ret false) m₁ := by show (ct r m).bind _ = _; rw [e1]; rfl
  dsimp only at hne ⊢
  rw [ee] at hne ⊢
  cases b' with
  | false =>
    show wpAny _ _ (tests cs env false) _ _ _
    rw [tests_false]
    exact wpAny_pure ⟨false, m₁, io₁, rfl, st, H₁, rfl, sm⟩
  | true => exact wpAny_mono (hs s₁ io₁ m₁ r (Z.step H₁ st) hne) (fun _ _ z => z.mono st sm) fun _ _ z => z.mono st sm

theorem relabel_free {env : Env} : ∀ {names : List (Str × NameKind)} {x : Str}, names.lookup x = some .free →
    (names.map fun (n, k) => if (k == NameKind.free && env.scope.kind == .function && env.kindOf n == some .cell) then (n, NameKind.cell) else (n, k)).lookup x = some .cell ∨ (names.map fun (n, k) => if (k == NameKind.free && env.scope.kind == .function && env.kindOf n == some .cell) then (n, NameKind.cell) else (n, k)).lookup x = some .free
  | [], _, h => by simp at h
  | (n, k) :: r, x, h => by
    have ih := @relabel_free env r x
    simp only [List.map_cons]
    cases hx : x == n with
    | true =>
      simp only [List.lookup_cons, hx] at h
      cases h
      by_cases hc : (NameKind.free == NameKind.free && env.scope.kind == .function && env.kindOf n == some .cell) = true
      · rw [if_pos hc]; left; simp [List.lookup_cons, hx]
      · rw [if_neg hc]; right; simp [List.lookup_cons, hx]
    | false =>
      simp only [List.lookup_cons, hx] at h
      by_cases hc : (k == NameKind.free && env.scope.kind == .function && env.kindOf n == some .cell) = true
      · rw [if_pos hc]; simp only [List.lookup_cons, hx]; exact ih h
      · rw [if_neg hc]; simp only [List.lookup_cons, hx]; exact ih h

/-- what a comprehension's scope must be -/
structure CompOk (scope : Scope) (env : Env) (vis vis' : List (Option Str)) (nl : Nat) : Prop where
  kind : scope.kind = .function
  names : ∀ x ∈ scope.names, x.2 = .local → scope.names.lookup x.1 = some .local
  cell : ∀ x ∈ scope.names, x.2 ≠ .cell
  cap : ∀ x ∈ scope.names, x.2 = .free → ∃ i : Nat, vis[i]? = some (some x.1) ∧ (env.kindOf x.1 = some .cell ∨ env.kindOf x.1 = some .free)
  see : ∀ (i : Nat) (x : Str), vis'[i]? = some (some x) → (vis.length ≤ i ∧ scope.names.lookup x = some .local) ∨ (vis[i]? = some (some x) ∧ scope.names.lookup x = some .free)
  inj : ∀ (i j : Nat) (x : Str), vis'[i]? = some (some x) → vis'[j]? = some (some x) → i = j
  len : vis'.length = vis.length + nl

theorem comp_enter {scope : Scope} {vis' : List (Option Str)} {nl : Nat} {cl : List (Str × Addr)} {C : Addr} (ck : CompOk scope env vis vis' nl) (H : HR W h io m) (F : FR W h io env vis r) (g2 : ∀ x c, cl.lookup x = some c → env.cells.lookup x = some c) (g3 : ∀ x, (x, NameKind.free) ∈ scope.names → ∃ c, cl.lookup x = some c)
    (hk : ∀ b o, h.get? b = some o → h'.get? b = some o) (hC : h.get? C = none) (hn : h'.Ns C (fun _ => none)) : FR W h' io (compEnvC scope cl C env) vis' (r ++ List.replicate nl none) := by
  have basN : W.base.get? C = none := by
    cases q : W.base.get? C with
    | none => rfl
    | some o => rw [H.keep _ _ q] at hC; cases hC
  have nf : ¬ Foot io C := fun f => by
    refine hide fun GOAL hGOAL => ?_
    obtain ⟨o, ho, _⟩ := H.foot f
    refine hGOAL ?_
    clear hGOAL GOAL
    rw [hC] at ho; cases ho
  have st : Step [] [] h io m h' io m := .of_keeps H hk
  have F' := F.step0 H st
  have old : ∀ (i : Nat) (x : Str) (v : V), vis'[i]? = some (some x) → (r ++ List.replicate nl none)[i]? = some (some v) → vis[i]? = some (some x) ∧ scope.names.lookup x = some .free ∧ r[i]? = some (some v) := by
    intro i x v h1 h2
    have hi : i < r.length := by
      rcases Nat.lt_or_ge i r.length with q | q
      · exact q
      · rw [List.getElem?_append_right q] at h2
        have := List.mem_of_getElem? h2
        simp at this
    rw [List.getElem?_append_left hi] at h2
    rcases ck.see i x h1 with ⟨q, _⟩ | ⟨q1, q2⟩
    · rw [F.len] at hi; omega
    · exact ⟨q1, q2, h2⟩
  have kd : ∀ x, scope.names.lookup x = some .free → (compEnvC scope cl C env).kindOf x = some .cell ∨ (compEnvC scope cl C env).kindOf x = some .free := fun x hx => relabel_free hx
  have capk : ∀ x, scope.names.lookup x = some .free → env.kindOf x = some .cell ∨ env.kindOf x = some .free := fun x hx => by
    refine hide fun GOAL hGOAL => ?_
    obtain ⟨i, _, q⟩ := ck.cap (x, .free) (mem_of_lookup hx) rfl
    refine hGOAL ?_
    clear hGOAL GOAL
    exact q
  refine ⟨ck.kind, F.glob, F.blt, nf, basN, ⟨_, hn, fun i x v h1 h2 h3 => ?_⟩, fun i x v h1 h2 h3 => ?_, fun x c hc => ?_, fun i x h1 h2 => ?_, fun x y c h1 h2 => F.apart x y c (g2 x c h1) (g2 y c h2), ck.inj, by simp [F.len, ck.len]⟩
  · refine hide fun GOAL hGOAL => ?_
    obtain ⟨q1, q2, q3⟩ := old i x v h1 h2
    refine hGOAL ?_
    clear hGOAL GOAL
    rcases kd x q2 with e | e <;> rw [e] at h3 <;> cases h3
  · refine hide fun GOAL hGOAL => ?_
    obtain ⟨q1, q2, q3⟩ := old i x v h1 h2
    refine hGOAL ?_
    clear hGOAL GOAL
    refine hide fun GOAL hGOAL => ?_
    obtain ⟨c, u, e, k1, k2⟩ := F'.cel i x v q1 q3 (capk x q2)
    refine hGOAL ?_
    clear hGOAL GOAL
    obtain ⟨c', hc'⟩ := g3 x (mem_of_lookup q2)
    have := g2 x c' hc'
    rw [e] at this; cases this
    exact ⟨c, u, hc', k1, k2⟩
  · refine hide fun GOAL hGOAL => ?_
    obtain ⟨k1, k2, k3⟩ := F'.cells x c (g2 x c hc)
    refine hGOAL ?_
    clear hGOAL GOAL
    refine ⟨k1, k2, fun e => ?_⟩
    refine hide fun GOAL hGOAL => ?_
    obtain ⟨⟨_, o, ho, _⟩, _⟩ := F.cells x c (g2 x c hc)
    refine hGOAL ?_
    clear hGOAL GOAL
    rw [e] at ho; rw [show (compEnvC scope cl C env).locals = C from rfl, hC] at ho; cases ho
  · rcases ck.see i x h1 with ⟨_, q⟩ | ⟨q1, q2⟩
    · have : (compEnvC scope cl C env).kindOf x = some .local := lookup_relabel_local q
      rcases h2 with e | e <;> rw [this] at e <;> cases e
    · exact g3 x (mem_of_lookup q2)

theorem compD_ok {g : Gd} {step : V → Mn (Option V)} : ∀ {vs : List V} {m : MH}, compD g step vs m ≠ .bad → ∃ l m', compD g step vs m = .ok l m' := by
  intro vs
  induction vs with
  | nil =>
    intro m h
    by_cases q : g.stays m = true
    · exact ⟨[], m, if_pos q⟩
    · exact absurd (if_neg q) h
  | cons v vs ih =>
    intro m h
    by_cases q : g.stays m = true
    · have ec : compD g step (v :: vs) m = ((step v m).nox).bind (fun o => bnd (compD g step vs) fun r => ret (consO o r)) := if_pos q
      rw [ec] at h ⊢
      cases e : step v m with
      | bad => rw [e] at h; exact absurd rfl h
      | exc c m' => rw [e] at h; exact absurd rfl h
      | ok o m' =>
        rw [e] at h
        have h' : (compD g step vs m').bind (fun r => ret (consO o r)) ≠ .bad := h
        refine hide fun GOAL hGOAL => ?_
        obtain ⟨l, m'', e'⟩ := ih (Res.bind_ne h')
        refine hGOAL ?_
        clear hGOAL GOAL
        refine ⟨consO o l, m'', ?_⟩
        show (compD g step vs m').bind (fun r => ret (consO o r)) = _
        rw [e']; rfl
    · exact absurd (if_neg q) h
theorem compD_cons {g : Gd} {step : V → Mn (Option V)} {v : V} {vs : List V} {L : List V} {m mL : MH} (h : compD g step (v :: vs) m = .ok L mL) : g.stays m = true ∧ ∃ o m' L', step v m = .ok o m' ∧ compD g step vs m' = .ok L' mL ∧ L = consO o L' := by
  by_cases q : g.stays m = true
  · have ec : compD g step (v :: vs) m = ((step v m).nox).bind (fun o => bnd (compD g step vs) fun r => ret (consO o r)) := if_pos q
    rw [ec] at h
    refine ⟨q, ?_⟩
    cases e : step v m with
    | bad => rw [e] at h; cases h
    | exc c m' => rw [e] at h; cases h
    | ok o m' =>
      rw [e] at h
      have h' : (compD g step vs m').bind (fun r => ret (consO o r)) = .ok L mL := h
      cases e2 : compD g step vs m' with
      | bad => rw [e2] at h'; cases h'
      | exc c m'' => rw [e2] at h'; cases h'
      | ok l m'' =>
        rw [e2] at h'
        cases h'
        exact ⟨o, m', l, rfl, e2, rfl⟩
  · have ec : compD g step (v :: vs) m = .bad := if_neg q
    rw [ec] at h; cases h
theorem compD_stays {g : Gd} {step : V → Mn (Option V)} {vs : List V} {L : List V} {m mL : MH} (h : compD g step vs m = .ok L mL) : g.stays m = true := by
  cases q : g.stays m with
  | true => rfl
  | false =>
    have z : ¬ g.stays m = true := by rw [q]; exact Bool.false_ne_true
    have ec : compD g step vs m = .bad := by cases vs with
      | nil => exact if_neg z
      | cons _ _ => exact if_neg z
    rw [ec] at h; cases h
end
end Mini

/-! Comprehensions, whole. -/
namespace Mini
open PySem PySem.W

section
variable {W : Wd} {K : Frag} {h h' h₀ : Heap} {fs : List Env} {env : Env} {vis : List (Option Str)} {s s' s₀ : Shared} {io io' io₀ : Io} {m m' m₀ : MH} {r r' : Lo} {fr fr' own own' : List Addr} {A : Around} {n : Nat} {pos p : Pos}

noncomputable def stepOf (j : Nat) (row : Lo) (cif : Lo → Mn Bool) (celt : Lo → Mn V) (v : V) : Mn (Option V) :=
  bnd (setT (.one j) v row) fun r' => bnd (cif r') fun b => if b then bnd (celt r') fun x => ret (some x) else ret none

theorem not_solid_list {us : Array Value} {c : Nat} : ¬ Solid (lstO us c) := by
  rintro (⟨e, _⟩ | ⟨_, _, _, e⟩)
  · simp at e
  · cases e

/-- between two turns of a comprehension -/
inductive CInv (W : Wd) (fs : List Env) (s₀ : Shared) (io₀ : Io) (m₀ : MH) (cenv : Env) (vis' : List (Option Str)) (row : Lo) (St : Nat → Heap → Io → Prop) (D : Addr) (g : Gd) (f : V → Mn (Option V)) (vs L : List V) (mL : MH) (k : Nat) (s' : Shared) : Prop
  | mk (i : Nat) (io' : Io) (m' : MH) (outs L' : List V) (us : Array Value) (c : Nat) : k = vs.length - i → i ≤ vs.length → Step [] (frs fs) s₀.heap io₀ m₀ s'.heap io' m' → HR W s'.heap io' m' → FR W s'.heap io' cenv vis' row → St i s'.heap io' → s'.heap.get? D = some (lstO us c) → VRs W s'.heap io' outs us.toList → ¬ Foot io' D → Same s₀ s' →
      compD g f (vs.drop i) m' = .ok L' mL → L = outs ++ L' → CInv W fs s₀ io₀ m₀ cenv vis' row St D g f vs L mL k s'
theorem comp_core {elt iter : Expr} {ifs : List Expr} {scope : Scope} {cpos px : Pos} {cenv : Env} {vis' : List (Option Str)} {row : Lo} {D I : Addr} {wr : List Addr} {g : Gd} {vs L : List V} {St : Nat → Heap → Io → Prop} {x : Str} {j c0 : Nat} {cif : Lo → Mn Bool} {celt : Lo → Mn V} {io₂ : Io} {m₂ mL : MH} {RR : Result → Shared → Prop}
    (H0 : HR W s₀.heap io₀ m₀) (G0 : FF W s₀.heap io₀ fs) (hw : Wk W A I wr g vs St) (hnew : ∀ b ∈ wr, s₀.heap.get? b = none) (hD0 : s₀.heap.get? D = none) (hC0 : s₀.heap.get? cenv.locals = none) (hDC : D ≠ cenv.locals) (hDw : D ∉ wr) (hCw : cenv.locals ∉ wr)
    (hv : vis'[j]? = some (some x)) (hk : cenv.kindOf x = some .local) (hrow : row[j]? = some none) (hcel : ∀ y c, cenv.cells.lookup y = some c → ∃ o, s₀.heap.get? c = some o)
    (hifs : SiB W A fs cenv vis' (tests ifs cenv true) cif) (helt : SiE W A fs cenv vis' (eval elt cenv) celt)
    (st₂ : Step [] (frs fs) s₀.heap io₀ m₀ s.heap io₂ m₂) (H₂ : HR W s.heap io₂ m₂) (F₂ : FR W s.heap io₂ cenv vis' row) (hst₂ : St 0 s.heap io₂) (hD₂ : s.heap.get? D = some (lstO #[] c0)) (nfD : ¬ Foot io₂ D) (sm₂ : Same s₀ s)
    (hL : compD g (stepOf j row cif celt) vs m₂ = .ok L mL) (hlen : L.length ≤ lid)
    (fin : ∀ s' io' us c, Step [] (frs fs) s₀.heap io₀ m₀ s'.heap io' mL → HR W s'.heap io' mL → s'.heap.get? D = some (lstO us c) → VRs W s'.heap io' L us.toList → ¬ Foot io' D → (∃ mC, s'.heap.Ns cenv.locals mC) ∧ ¬ Foot io' cenv.locals → Same s₀ s' → RR (.ok .next) s') :
    codeAny (model W.prog W.w) A (.compStart (.ListComp elt [⟨.Name x px, iter, ifs, 0⟩] scope cpos) 0 (.ref I) (.ref D) cenv) RR s := by
  have hFr : ∀ b ∈ frs fs, ∃ o, s₀.heap.get? b = some o := fun b hb => by
    refine hide fun GOAL hGOAL => ?_
    obtain ⟨e, he, hf⟩ := List.mem_filterMap.mp hb
    refine hGOAL ?_
    clear hGOAL GOAL
    refine hide fun GOAL hGOAL => ?_
    obtain ⟨_, L, o, _, _, h1, _, _, h4, _⟩ := G0 e he
    refine hGOAL ?_
    clear hGOAL GOAL
    rw [h1] at hf; cases hf; exact ⟨o, h4⟩
  have frN : ∀ b, s₀.heap.get? b = none → b ∉ frs fs := fun b e q => by obtain ⟨o, ho⟩ := hFr b q; rw [e] at ho; cases ho
  have hbase : ∀ b o, W.base.get? b = some o → s₀.heap.get? b = some o := H0.keep
  have basD : W.base.get? D = none := by
    cases q : W.base.get? D with
    | none => rfl
    | some o => rw [hbase _ _ q] at hD0; cases hD0
  have celN : ∀ y c, cenv.cells.lookup y = some c → ∀ b, s₀.heap.get? b = none → c ≠ b := fun y c hy b hb e => by
    obtain ⟨o, ho⟩ := hcel y c hy
    rw [e, hb] at ho; cases ho
  have loop : codeAny (model W.prog W.w) A (.compLoop (.ListComp elt [⟨.Name x px, iter, ifs, 0⟩] scope cpos) 0 (.ref I) (.ref D) cenv) RR s := by
    refine codeAny_compLoop_tests (I := CInv W fs s₀ io₀ m₀ cenv vis' row St D g (stepOf j row cif celt) vs L mL) (fun k s' hI => ?_) vs.length ⟨0, io₂, m₂, [], L, #[], c0, by simp, Nat.zero_le _, st₂, H₂, F₂, hst₂, hD₂, .nil, nfD, sm₂, by simpa using hL, by simp⟩
    refine hide fun GOAL hGOAL => ?_
    obtain ⟨i, io', m', outs, L', us, c, hk', hi, st, H, F, hst, hD, hus, nf, sm, he, hLe⟩ := hI
    refine hGOAL ?_
    clear hGOAL GOAL
    have hg := compD_stays he
    have sft := hw.soft hst
    by_cases hlt : i < vs.length
    · have hvi : vs[i]? = some vs[i] := List.getElem?_eq_getElem hlt
      rw [List.drop_eq_getElem_cons hlt] at he
      refine hide fun GOAL hGOAL => ?_
      obtain ⟨_, o, m₅, L₅, es, ec, eL⟩ := compD_cons he
      refine hGOAL ?_
      clear hGOAL GOAL
      refine hw.item hvi hst H hg fun u h₁ tk ku hst₁ kk => ?_
      have sd : Side W wr s₀.heap s'.heap io' h₁ := ⟨kk, hnew, fun b hb => (sft b hb).1, fun b hb => (sft b hb).2⟩
      have H1 := sd.hr H hbase
      have st1 := sd.step H st
      have F1 := F.sideN sd hCw fun y c hy q => celN y c hy c (hnew c q) rfl
      have hD1 : h₁.get? D = some (lstO us c) := kk _ _ hDw hD
      have hus1 := hus.sol sd.sol
      have ku1 := ku.sol sd.sol
      -- the target
      refine wpAny_assign_Name ?_
      refine wpAny_mono (storeL_sim (s := { s' with heap := h₁, toks := tk }) (A := A) (fs := fs) (own := [cenv.locals]) H1 F1 (.head _) hv hk ku1 (fun q => nomatch q)) (fun _ s₂ q => ?_) fun e s₂ q => ?_
      rotate_left
      · obtain ⟨c', m'', io'', a, g', h1, _⟩ := q; cases h1
      refine hide fun GOAL hGOAL => ?_
      obtain ⟨r₂, mq, io₂', e2, st2, H2, F2, sm2⟩ := q
      refine hGOAL ?_
      clear hGOAL GOAL
      cases e2
      have st2' : Step [] (frs fs) s₀.heap io₀ m₀ s₂.heap io₂' m' := by
        refine ((st1.wk (own' := [cenv.locals]) fun _ q => nomatch q).trans st2).shrink H0 (fun _ _ e => e) (fun b hb => ?_) fun b hb => .inr hb
        rw [List.mem_singleton.mp hb]; exact .inl hC0
      have hD2 : s₂.heap.get? D = some (lstO us c) := st2.keep _ _ hD1 nf (by simpa using hDC) (frN _ hD0)
      have nf2 : ¬ Foot io₂' D := st2.nofoot hD1 nf
      have hus2 := hus1.step st2
      have hst2 : St (i + 1) s₂.heap io₂' := hw.stay hst₁ H1 H2 st2 (fun b hb => ⟨fun q => hCw (by rw [← List.mem_singleton.mp q]; exact hb), frN _ (hnew b hb)⟩) hg hg
      have Z2 : Sit W fs cenv vis' s₂ io₂' m' (row.set j (some vs[i])) := ⟨H2, F2, G0.step0 st2'⟩
      -- the tests
      have es' : (cif (row.set j (some vs[i])) m').bind (fun b => if b then bnd (celt (row.set j (some vs[i]))) fun x => ret (some x) else ret none) = .ok o m₅ := es
      have hne1 : cif (row.set j (some vs[i])) m' ≠ .bad := fun q => by rw [q] at es'; cases es'
      refine wpAny_mono (hifs s₂ io₂' m' _ Z2 hne1) (fun ok s₃ q => ?_) fun e s₃ q => ?_
      rotate_left
      · refine hide fun GOAL hGOAL => ?_
        obtain ⟨c', m'', io'', a, g', h1, _⟩ := q
        refine hGOAL ?_
        clear hGOAL GOAL
        rw [h1] at es'; cases es'
      refine hide fun GOAL hGOAL => ?_
      obtain ⟨ok', m₃, io₃, e3, st3, H3, rfl, sm3⟩ := q
      refine hGOAL ?_
      clear hGOAL GOAL
      rw [e3] at es'
      have Z3 := Z2.step H3 st3
      have hD3 : s₃.heap.get? D = some (lstO us c) := st3.keep _ _ hD2 nf2 (fun q => nomatch q) (frN _ hD0)
      have wrN : ∀ b ∈ wr, b ∉ ([] : List Addr) ∧ b ∉ frs fs := fun b hb => ⟨(fun q => nomatch q), frN _ (hnew b hb)⟩
      have weak : ∀ {h : Heap} {io : Io}, FR W h io cenv vis' (row.set j (some vs[i])) → FR W h io cenv vis' row := fun F => F.weak (fun a w e => by
        by_cases q : j = a
        · subst q; rw [hrow] at e; cases e
        · rw [List.getElem?_set_ne q]; exact e) (by simp)
      cases ok' with
      | false =>
        simp only [Bool.false_eq_true, if_false]
        have es2 : (Res.ok none m₃ : Res (Option V)) = .ok o m₅ := es'
        cases es2
        refine ⟨vs.length - (i + 1), by omega, i + 1, io₃, m₅, outs, L₅, us, c, rfl, hlt, st2'.trans st3, H3, weak Z3.F, hw.stay hst2 H2 H3 st3 wrN hg (compD_stays ec), hD3, hus2.step st3, st3.nofoot hD2 nf2, (sm.trans (Same.trans ⟨rfl, rfl⟩ sm2)).trans sm3, ec, ?_⟩
        rw [hLe, eL]; rfl
      | true =>
        simp only [if_true]
        have es2 : (celt (row.set j (some vs[i])) m₃).bind (fun x => ret (some x)) = .ok o m₅ := es'
        have hne2 : celt (row.set j (some vs[i])) m₃ ≠ .bad := fun q => by rw [q] at es2; cases es2
        refine wpAny_mono (helt s₃ io₃ m₃ _ Z3 hne2) (fun y s₄ q => ?_) fun e s₄ q => ?_
        rotate_left
        · refine hide fun GOAL hGOAL => ?_
          obtain ⟨c', m'', io'', a, g', h1, _⟩ := q
          refine hGOAL ?_
          clear hGOAL GOAL
          rw [h1] at es2; cases es2
        refine hide fun GOAL hGOAL => ?_
        obtain ⟨y', m₄, io₄, e4, st4, H4, k4, sm4⟩ := q
        refine hGOAL ?_
        clear hGOAL GOAL
        rw [e4] at es2
        cases es2
        have nf3 := st3.nofoot hD2 nf2
        have hD4 : s₄.heap.get? D = some (lstO us c) := st4.keep _ _ hD3 nf3 (fun q => nomatch q) (frN _ hD0)
        have nf4 := st4.nofoot hD3 nf3
        have hus4 := (hus2.step st3).step st4
        have hst4 : St (i + 1) s₄.heap io₄ := hw.stay hst2 H2 H4 (st3.trans st4) wrN hg (compD_stays ec)
        have ol : us.size ≤ lid := by
          have e1 := hus.length
          have e2 : L.length = outs.length + L'.length := by rw [hLe, List.length_append]
          have : us.size = outs.length := by simpa using e1
          omega
        refine wpAny_list_append_plain ⟨c, hD4⟩ (fun h₅ ⟨c5, hD5⟩ hs5 => ?_) (sizeLine_lid ol)
        have kk5 : ∀ b o, b ≠ D → s₄.heap.get? b = some o → h₅.get? b = some o := fun b o q e => (hs5.2 b q).trans e
        have lv5 : ∀ o, s₄.heap.get? D = some o → ¬ Solid o ∧ ∃ o', h₅.get? D = some o' := fun o ho => by
          rw [hD4] at ho; cases ho; exact ⟨not_solid_list, _, hD5⟩
        have st5 : Step [D] (frs fs) s₄.heap io₄ m₅ h₅ io₄ m₅ := step_own H4 (L := D) (.head _) kk5 lv5 nf4
        have H5 : HR W h₅ io₄ m₅ := H4.ofOwn (own := [D]) (L := D) (.head _) kk5 lv5 nf4 basD
        have st5' : Step [] (frs fs) s₀.heap io₀ m₀ h₅ io₄ m₅ := by
          refine ((((st2'.trans st3).trans st4).wk (own' := [D]) fun _ q => nomatch q).trans st5).shrink H0 (fun _ _ e => e) (fun b hb => ?_) fun b hb => .inr hb
          rw [List.mem_singleton.mp hb]; exact .inl hD0
        have F5 : FR W h₅ io₄ cenv vis' row := (weak (Z3.F.step0 H3 st4)).step H4 st5 (by simpa using Ne.symm hDC) fun y c hy => by simpa using celN y c hy D hD0
        refine ⟨vs.length - (i + 1), by omega, i + 1, io₄, m₅, outs ++ [y'], L₅, us.push y, c5, rfl, hlt, st5', H5, F5, hw.stay hst4 H4 H5 st5 (fun b hb => ⟨fun q => hDw (by rw [← List.mem_singleton.mp q]; exact hb), frN _ (hnew b hb)⟩) (compD_stays ec) (compD_stays ec), hD5, ?_, nf4, ((sm.trans (Same.trans ⟨rfl, rfl⟩ sm2)).trans sm3).trans (sm4.trans ⟨rfl, rfl⟩), ec, ?_⟩
        · rw [Array.toList_push]; exact (hus4.step st5).snoc (VR.step st5 k4)
        · rw [hLe, eL]; simp [consO]
    · have hi' : i = vs.length := by omega
      subst hi'
      refine hw.done hst H hg fun h₁ tk kk => ?_
      have sd : Side W wr s₀.heap s'.heap io' h₁ := ⟨kk, hnew, fun b hb => (sft b hb).1, fun b hb => (sft b hb).2⟩
      rw [List.drop_length] at he
      have ec : ∀ {step : V → Mn (Option V)}, compD g step [] m' = .ok [] m' := if_pos hg
      rw [ec] at he
      cases he
      rw [List.append_nil] at hLe
      subst hLe
      have F1 := F.sideN sd hCw fun y c hy q => celN y c hy c (hnew c q) rfl
      refine hide fun GOAL hGOAL => ?_
      obtain ⟨mC, hn, _⟩ := F1.loc
      refine hGOAL ?_
      clear hGOAL GOAL
      exact fin { s' with heap := h₁, toks := tk } io' us c (sd.step H st) (sd.hr H hbase) (kk _ _ hDw hD) (hus.sol sd.sol) nf ⟨⟨mC, hn⟩, F1.nofoot⟩ (sm.trans ⟨rfl, rfl⟩)
  exact codeAny_compStart_list loop (hw.self hst₂ loop)
end
end Mini

/-! Comprehensions as expressions and as values of names. -/
namespace Mini
open PySem PySem.W

section
variable {W : Wd} {K : Frag} {h h' h₀ : Heap} {fs : List Env} {env : Env} {vis : List (Option Str)} {s s' s₀ : Shared} {io io' io₀ : Io} {m m' m₀ : MH} {r r' : Lo} {fr fr' own own' : List Addr} {A : Around} {n : Nat} {pos p : Pos}

theorem VRs.ext (x : ∀ (n : Nat) (p : Addr × Addr), io[n]? = some p → io'[n]? = some p) {v : List V} {u : List Value} (k : VRs W h io v u) : VRs W h io' v u := k.mono (fun _ _ e _ => e) x
theorem ERs.ext (x : ∀ (n : Nat) (p : Addr × Addr), io[n]? = some p → io'[n]? = some p) {kvs : List (Ky × V)} {es : List DictEntry} (e : ERs W h io kvs es) : ERs W h io' kvs es := e.mono (fun _ _ e _ => e) x
theorem FEs.ext (x : ∀ (n : Nat) (p : Addr × Addr), io[n]? = some p → io'[n]? = some p) {fs : List (Nat × V)} {mA : Str → Option Value} (e : FEs W h io fs mA) : FEs W h io' fs mA := e.mono (fun _ _ e _ => e) x
theorem OR.ext (x : ∀ (n : Nat) (p : Addr × Addr), io[n]? = some p → io'[n]? = some p) {a d : Addr} {o : MObj} (k : OR W h io a d o) : OR W h io' a d o := by
  cases o with
  | list xs =>
    obtain ⟨e, vs, n, h1, h4, h5⟩ := k
    exact ⟨e, vs, n, h1, h4.ext x, h5⟩
  | dict kvs ep =>
    obtain ⟨e, o, es, n, h1, h2, h3, h4, h5⟩ := k
    exact ⟨e, o, es, n, h1, h2, h3, h4.ext x, h5⟩
  | inst c fs =>
    obtain ⟨e, mA, h1, h2, h3, h4⟩ := k
    exact ⟨e, mA, h1, h2, h3.ext x, h4⟩

/-- a list that was made beside is taken in -/
theorem adopt {D : Addr} {us : Array Value} {c : Nat} {L : List V} (st : Step own fr h₀ io₀ m₀ h io m) (H : HR W h io m) (hD : h.get? D = some (lstO us c)) (hus : VRs W h io L us.toList) (hl : L.length ≤ lid) (nf : ¬ Foot io D) (hD0 : h₀.get? D = none) (basD : W.base.get? D = none) :
    Step own fr h₀ io₀ m₀ h (io ++ [(D, D)]) (m ++ [.list L]) ∧ HR W h (io ++ [(D, D)]) (m ++ [.list L]) ∧ VR W h (io ++ [(D, D)]) (.ref m.length) (.ref D) := by
  have ex : ∀ (n : Nat) (p : Addr × Addr), io[n]? = some p → (io ++ [(D, D)])[n]? = some p := fun n p e => by
    rw [List.getElem?_append_left (List.getElem?_eq_some_iff.mp e).1]; exact e
  have last : (io ++ [(D, D)])[m.length]? = some (D, D) := by rw [← H.len]; simp
  refine ⟨⟨st.alive, st.solid, st.keep, st.slots, ?_, fun n p kvs e hi hm => ?_⟩, ⟨H.keep, by simp [H.len], fun n p o hi hm => ?_, fun b f => ?_, fun i j p q hij hi hj => ?_⟩, .ref last⟩
  · obtain ⟨new, e, hn⟩ := st.grow
    refine ⟨new ++ [(D, D)], by rw [e, List.append_assoc], fun p hp => ?_⟩
    rcases List.mem_append.mp hp with hp | hp
    · exact hn p hp
    · rw [List.mem_singleton.mp hp]; exact ⟨hD0, hD0⟩
  · obtain ⟨k', e', q1, q2, q3⟩ := st.dicts n p kvs e hi hm
    exact ⟨k', e', by rw [List.getElem?_append_left (List.getElem?_eq_some_iff.mp q1).1]; exact q1, q2, q3⟩
  · rcases Nat.lt_or_ge n m.length with hlt | hge
    · rw [List.getElem?_append_left hlt] at hm
      rw [List.getElem?_append_left (by rw [H.len]; exact hlt)] at hi
      exact (H.obj n p o hi hm).ext ex
    · have hn : n = m.length := by
        have := (List.getElem?_eq_some_iff.mp hm).1
        simp at this; omega
      subst hn
      rw [last] at hi
      cases hi
      rw [List.getElem?_append_right (Nat.le_refl _)] at hm
      simp at hm
      subst hm
      exact ⟨rfl, us, c, hD, hus.ext ex, hl⟩
  · rcases foot_append f with f | ⟨p, hp, e⟩
    · exact H.fresh b f
    · rw [List.mem_singleton.mp hp] at e
      rcases e with e | e <;> rw [e] <;> exact basD
  · have nfp : ∀ (k : Nat) (p : Addr × Addr), io[k]? = some p → p.1 ≠ D ∧ p.2 ≠ D := fun k p hk => ⟨fun e => nf ⟨p, List.mem_of_getElem? hk, .inl e.symm⟩, fun e => nf ⟨p, List.mem_of_getElem? hk, .inr e.symm⟩⟩
    have cut : ∀ (k : Nat) (p : Addr × Addr), (io ++ [(D, D)])[k]? = some p → io[k]? = some p ∨ (k = io.length ∧ p = (D, D)) := fun k p hk => by
      rcases Nat.lt_or_ge k io.length with hlt | hge
      · rw [List.getElem?_append_left hlt] at hk; exact .inl hk
      · have := (List.getElem?_eq_some_iff.mp hk).1
        simp at this
        have hn : k = io.length := by omega
        subst hn
        simp at hk
        exact .inr ⟨rfl, hk.symm⟩
    rcases cut i p hi with a | ⟨a, rfl⟩ <;> rcases cut j q hj with b | ⟨b, rfl⟩
    · exact H.apart i j p q hij a b
    · have := nfp i p a; exact ⟨this.1, this.1, this.2⟩
    · have := nfp j q b; exact ⟨Ne.symm this.1, Ne.symm this.2, Ne.symm this.2⟩
    · omega

/-- a comprehension, up to what is done with its list -/
theorem comp_sim {elt iter : Expr} {ifs : List Expr} {scope : Scope} {px fp : Pos} {vis' : List (Option Str)} {nl j : Nat} {x : Str} {csrc : Lo → Mn (List V × Gd)} {cif : Lo → Mn Bool} {celt : Lo → Mn V} {use : Option (Value → Sem Unit)} {Q : Value → Shared → Prop} {E : Value → Shared → Prop}
    (ck : CompOk scope env vis vis' nl) (hs : ∀ x, foldedSetIterable iter env x = Pure.pure x) (hv : vis'[j]? = some (some x)) (hj : vis.length ≤ j) (hsrc : SiSrc W A fs env vis iter csrc)
    (hifs : ∀ cl C, SiB W A fs (compEnvC scope cl C env) vis' (tests ifs (compEnvC scope cl C env) true) cif) (helt : ∀ cl C, SiE W A fs (compEnvC scope cl C env) vis' (eval elt (compEnvC scope cl C env)) celt)
    (Z : Sit W fs env vis s io m r) (hne : (csrc r m).bind (fun p => bnd (compD p.2 (stepOf j (r ++ List.replicate nl none) cif celt) p.1) fun l => if l.length ≤ lid then alloc (.list l) else bad) ≠ .bad)
    (hX : ∀ e s', XP W [] fs s io m (csrc r m) e s' → E e s')
    (fin : ∀ s' io' D C L us c mL p m₂, csrc r m = .ok p m₂ → compD p.2 (stepOf j (r ++ List.replicate nl none) cif celt) p.1 m₂ = .ok L mL → L.length ≤ lid → s.heap.get? D = none → s.heap.get? C = none → D ≠ C → Step [] (frs fs) s.heap io m s'.heap io' mL → HR W s'.heap io' mL → s'.heap.get? D = some (lstO us c) → VRs W s'.heap io' L us.toList → ¬ Foot io' D → (∃ mC, s'.heap.Ns C mC) ∧ ¬ Foot io' C → Same s s' → compPost (model W.prog W.w) A E use Q (.ref D) C (.ok .next) s') :
    wpAny (model W.prog W.w) A (comprehension (.ListComp elt [⟨.Name x px, iter, ifs, 0⟩] scope pos) scope env fp (newList []) false (eval iter env) use) Q E s := by
  obtain ⟨cl, g1, g2, g3⟩ := closure_of (scope := scope) (env := env) fun y k hy hk => by
    obtain ⟨i, q1, q2⟩ := ck.cap (y, k) hy hk
    exact Z.F.celex i y q1 q2
  refine wpAny_comprehension_free (g := ⟨.Name x px, iter, ifs, 0⟩) (gs := []) rfl hs g1 ck.kind ck.names ?_
  refine wpAny_mono (hsrc s io m r Z (Res.bind_ne hne)) (fun xv s₁ q => wpAny_mono q (fun it s₂ q => ?_) hX) hX
  obtain ⟨⟨vs, g⟩, m₂, io₂, e2, st₂, H₂, ⟨I, wr, St, rfl, hw, h0, hnew⟩, sm₂⟩ := q
  rw [e2] at hne
  have hne' : (compD g (stepOf j (r ++ List.replicate nl none) cif celt) vs m₂).bind (fun l => if l.length ≤ lid then alloc (.list l) else bad) ≠ .bad := hne
  obtain ⟨L, mL, eL⟩ := compD_ok (Res.bind_ne hne')
  have hlen : L.length ≤ lid := by
    rcases Nat.lt_or_ge lid L.length with q | q
    · refine absurd ?_ hne'
      rw [eL]
      show (if L.length ≤ lid then alloc (.list L) else bad) mL = _
      rw [if_neg (by omega)]; rfl
    · exact q
  have Z2 := Z.step H₂ st₂
  refine wpAny_newList ?_ (by decide)
  -- the list, then the frame
  have k3 : ∀ b o, s₂.heap.get? b = some o → (s₂.heap.push (lstO #[] 0)).get? b = some o := push_keeps _
  refine wpAny_newFunctionEnv ck.cell (fun y hy => nomatch hy) (fun h₄ hn₄ hs₄ => ?_) ck.kind
  have k4 : ∀ b o, (s₂.heap.push (lstO #[] 0)).get? b = some o → h₄.get? b = some o := fun b o e => by
    have hb : b ≠ (s₂.heap.push (lstO #[] 0)).objs.size := fun q => by rw [q, get_size] at e; cases e
    exact (hs₄.2 b hb).trans (push_keeps _ _ _ e)
  have sz : (s₂.heap.push (lstO #[] 0)).objs.size = s₂.heap.objs.size + 1 := Heap.size_push ..
  have kk : ∀ b o, s₂.heap.get? b = some o → h₄.get? b = some o := fun b o e => k4 b o (k3 b o e)
  have cD : s₂.heap.get? s₂.heap.objs.size = none := get_size _
  have cC3 : (s₂.heap.push (lstO #[] 0)).get? (s₂.heap.push (lstO #[] 0)).objs.size = none := get_size _
  have cC : s₂.heap.get? (s₂.heap.push (lstO #[] 0)).objs.size = none := by
    cases q : s₂.heap.get? (s₂.heap.push (lstO #[] 0)).objs.size with
    | none => rfl
    | some o => rw [k3 _ _ q] at cC3; cases cC3
  have hD0 : s.heap.get? s₂.heap.objs.size = none := dead_before st₂ cD
  have hC0 : s.heap.get? (s₂.heap.push (lstO #[] 0)).objs.size = none := dead_before st₂ cC
  have hDC : s₂.heap.objs.size ≠ (s₂.heap.push (lstO #[] 0)).objs.size := by rw [sz]; exact Nat.ne_of_lt (Nat.lt_succ_self _)
  have st4 : Step [] (frs fs) s₂.heap io₂ m₂ h₄ io₂ m₂ := .of_keeps H₂ kk
  have H4 : HR W h₄ io₂ m₂ := H₂.of_keeps kk
  have hn' : h₄.Ns (s₂.heap.push (lstO #[] 0)).objs.size (fun _ => none) := hn₄
  have F4 : FR W h₄ io₂ (compEnvC scope cl (s₂.heap.push (lstO #[] 0)).objs.size env) vis' (r ++ List.replicate nl none) := comp_enter ck H₂ Z2.F g2 g3 kk cC hn'
  have hjl : j < vis'.length := (List.getElem?_eq_some_iff.mp hv).1
  have lk : scope.names.lookup x = some .local := by
    rcases ck.see j x hv with ⟨_, q⟩ | ⟨q, _⟩
    · exact q
    · have := (List.getElem?_eq_some_iff.mp q).1; omega
  have wrAlive : ∀ b ∈ wr, ∀ z, s₂.heap.get? z = none → z ∉ wr ∨ True := fun _ _ _ _ => .inr trivial
  have kd : (compEnvC scope cl (s₂.heap.push (lstO #[] 0)).objs.size env).kindOf x = some .local := lookup_relabel_local lk
  have hrow : (r ++ List.replicate nl (none : Option V))[j]? = some none := by
    rw [List.getElem?_append_right (by rw [Z.F.len]; exact hj), List.getElem?_replicate]
    have := ck.len
    rw [if_pos (by rw [Z.F.len]; omega)]
  show codeAny (model W.prog W.w) A (.compStart _ 0 (.ref I) (.ref s₂.heap.objs.size) (compEnvC scope cl (s₂.heap.push (lstO #[] 0)).objs.size env)) _ _
  refine comp_core (s := { s₂ with heap := h₄, toks := s₂.toks + 0 }) (s₀ := s) (c0 := 0) Z.H Z.G hw hnew hD0 hC0 hDC ?_ ?_ hv kd hrow (fun y c hy => ?_) (hifs _ _) (helt _ _) (st₂.trans st4) H4 F4 (hw.stay h0 H₂ H4 st4 (fun b hb => ⟨(fun q => nomatch q), ?_⟩) (compD_stays eL) (compD_stays eL)) (k4 _ _ (Heap.get?_push_size _ rfl)) (fun f => ?_) (sm₂.trans ⟨rfl, rfl⟩) eL hlen
    fun s' io' us c a1 a2 a3 a4 a5 a6 a7 => fin s' io' _ _ L us c mL _ m₂ e2 eL hlen hD0 hC0 hDC a1 a2 a3 a4 a5 a6 a7
  · intro q; obtain ⟨_, hz⟩ := hw.alive h0 _ q; rw [cD] at hz; cases hz
  · intro q; obtain ⟨_, hz⟩ := hw.alive h0 _ q; rw [show (compEnvC scope cl (s₂.heap.push (lstO #[] 0)).objs.size env).locals = (s₂.heap.push (lstO #[] 0)).objs.size from rfl, cC] at hz; cases hz
  · obtain ⟨⟨_, o, ho, _⟩, _⟩ := Z.F.cells y c (g2 y c hy)
    exact ⟨o, ho⟩
  · intro q
    obtain ⟨e, he, hf⟩ := List.mem_filterMap.mp q
    obtain ⟨_, L', o, _, _, h1, _, _, h4, _⟩ := Z.G e he
    rw [h1] at hf; cases hf; rw [hnew b hb] at h4; cases h4
  · obtain ⟨o, ho, _⟩ := H₂.foot f
    rw [cD] at ho; cases ho

theorem side_ns {C : Addr} {mC : Str → Option Value} (hC0 : h₀.get? C = none) (hn : h.Ns C mC) (nf : ¬ Foot io C) (hs : Heap.SameBut C h h') : Side W [C] h₀ h io h' :=
  ⟨fun b o hb e => (hs.2 b (by simpa using hb)).trans e, fun b hb => by rw [List.mem_singleton.mp hb]; exact hC0, fun b hb => by rw [List.mem_singleton.mp hb]; exact nf, fun b hb o ho => by
    rw [List.mem_singleton.mp hb] at ho
    obtain ⟨o', es, ep, ho', hd, _⟩ := hn
    rw [ho'] at ho; cases ho; exact not_solid_dict hd⟩

theorem e_comp {elt iter : Expr} {ifs : List Expr} {scope : Scope} {px : Pos} {vis' : List (Option Str)} {nl j : Nat} {x : Str} {csrc : Lo → Mn (List V × Gd)} {cif : Lo → Mn Bool} {celt : Lo → Mn V}
    (ck : CompOk scope env vis vis' nl) (hs : ∀ x, foldedSetIterable iter env x = Pure.pure x) (hv : vis'[j]? = some (some x)) (hj : vis.length ≤ j) (hsrc : SiSrc W A fs env vis iter csrc)
    (hifs : ∀ cl C, SiB W A fs (compEnvC scope cl C env) vis' (tests ifs (compEnvC scope cl C env) true) cif) (helt : ∀ cl C, SiE W A fs (compEnvC scope cl C env) vis' (eval elt (compEnvC scope cl C env)) celt) :
    SiE W A fs env vis (eval (.ListComp elt [⟨.Name x px, iter, ifs, 0⟩] scope pos) env) (fun r => bnd (csrc r) fun p => bnd (compD p.2 (stepOf j (r ++ List.replicate nl none) cif celt) p.1) fun l => if l.length ≤ lid then alloc (.list l) else bad) := by
  intro s io m r Z hne
  dsimp only at hne ⊢
  refine comp_sim (Q := NP W [] (frs fs) s io m (VP W) _) (use := none) ck hs hv hj hsrc hifs helt Z hne (fun e s' q => q.bind .refl (.refl _)) ?_
  intro s' io' D C L us c mL p m₂ e1 e2 hl hD0 hC0 hDC st H hD hus nf hC sm
  obtain ⟨⟨mC, hn⟩, nfC⟩ := hC
  refine ⟨mC, hn, fun h' hs' => ?_⟩
  have sd : Side W [C] s.heap s'.heap io' h' := side_ns hC0 hn nfC hs'
  have st' := sd.step H st
  have H' := sd.hr H Z.H.keep
  have basD : W.base.get? D = none := by
    cases q : W.base.get? D with
    | none => rfl
    | some o => rw [Z.H.keep _ _ q] at hD0; cases hD0
  obtain ⟨a1, a2, a3⟩ := adopt st' H' (sd.keep _ _ (by simpa using hDC) hD) (hus.sol sd.sol) hl nf hD0 basD
  refine ⟨.ref mL.length, mL ++ [.list L], _, ?_, a1, a2, a3, sm.trans ⟨rfl, rfl⟩⟩
  show (csrc r m).bind _ = _
  rw [e1]
  show (compD p.2 _ p.1 m₂).bind _ = _
  rw [e2]
  show (if L.length ≤ lid then alloc (.list L) else bad) mL = _
  rw [if_pos hl]; rfl

noncomputable def compRes (csrc : Lo → Mn (List V × Gd)) (cif : Lo → Mn Bool) (celt : Lo → Mn V) (j nl i : Nat) (r : Lo) (m : MH) : Res (Fl × Lo) :=
  bnd (bnd (csrc r) fun p => bnd (compD p.2 (stepOf j (r ++ List.replicate nl none) cif celt) p.1) fun l => if l.length ≤ lid then alloc (.list l) else bad) (fun v => bnd (fun m => .ok (r.set i (some v)) m) fun r' => ret (Fl.next, r')) m
/-- a name takes a comprehension's list: the store goes ahead of the leave -/
theorem x_asg_comp {elt iter : Expr} {ifs : List Expr} {scope : Scope} {px py cpos : Pos} {vis' : List (Option Str)} {nl j i : Nat} {x y : Str} {csrc : Lo → Mn (List V × Gd)} {cif : Lo → Mn Bool} {celt : Lo → Mn V}
    (ck : CompOk scope env vis vis' nl) (hs : ∀ x, foldedSetIterable iter env x = Pure.pure x) (hv : vis'[j]? = some (some x)) (hj : vis.length ≤ j) (hsrc : SiSrc W A (env :: fs) env vis iter csrc)
    (hifs : ∀ cl C, SiB W A (env :: fs) (compEnvC scope cl C env) vis' (tests ifs (compEnvC scope cl C env) true) cif) (helt : ∀ cl C, SiE W A (env :: fs) (compEnvC scope cl C env) vis' (eval elt (compEnvC scope cl C env)) celt)
    (hsw : swapsWithSole [.Name y py] (.ListComp elt [⟨.Name x px, iter, ifs, 0⟩] scope cpos) pos.line env = Pure.pure true) (hyv : vis[i]? = some (some y)) (hyk : env.kindOf y = some .local) :
    SiS W A fs env vis (exec (.Assign [.Name y py] (.ListComp elt [⟨.Name x px, iter, ifs, 0⟩] scope cpos) pos) env) (fun r => bnd (bnd (csrc r) fun p => bnd (compD p.2 (stepOf j (r ++ List.replicate nl none) cif celt) p.1) fun l => if l.length ≤ lid then alloc (.list l) else bad) fun v => bnd (fun m => .ok (r.set i (some v)) m) fun r' => ret (.next, r')) := by
  intro s io m r Z
  show Si W (ownOf env) A (env :: fs) (SP W env vis) _ s io m (compRes csrc cif celt j nl i r m)
  intro hne
  rw [exec_Assign_arm]
  refine wpAny_bind (wpAny_standAt ?_)
  rw [hsw]
  refine wpAny_bind (wpAny_pure ?_)
  simp only [if_true]
  have hne0 : (csrc r m).bind (fun p => bnd (compD p.2 (stepOf j (r ++ List.replicate nl none) cif celt) p.1) fun l => if l.length ≤ lid then alloc (.list l) else bad) ≠ .bad := Res.bind_ne hne
  refine wpAny_bind ?_
  suffices main : wpAny (model W.prog W.w) A (comprehension (.ListComp elt [⟨.Name x px, iter, ifs, 0⟩] scope cpos) scope env (firstIterPos [⟨.Name x px, iter, ifs, 0⟩] cpos) (newList []) false (eval iter env) (some fun v => assignAll v ((assignEach [.Name y py] env).map (·.2)))) (fun _ s' => NP W (ownOf env) (frs (env :: fs)) s io m (SP W env vis) (compRes csrc cif celt j nl i r m) Flow.next s') (XP W (ownOf env) (env :: fs) s io m (compRes csrc cif celt j nl i r m)) s from
    wpAny_bind (wpAny_mono main (fun _ s' q => wpAny_pure (wpAny_pure q)) fun _ _ q => q)
  have lift : ∀ e s', XP W [] (env :: fs) s io m (csrc r m) e s' → XP W (ownOf env) (env :: fs) s io m (compRes csrc cif celt j nl i r m) e s' := fun e s' q => by
    obtain ⟨c', m', io', a, g, h1, h2, h3, h4, h5, h6⟩ := q
    refine ⟨c', m', io', a, g, ?_, h2, h3.wk (fun _ q => nomatch q), h4, h5, h6⟩
    simp only [compRes, bnd, h1, Res.bind]
  have go := comp_sim (W := W) (A := A) (fs := env :: fs) (env := env) (vis := vis) (s := s) (io := io) (m := m) (r := r) (pos := cpos) (fp := firstIterPos [⟨.Name x px, iter, ifs, 0⟩] cpos) (elt := elt) (iter := iter) (ifs := ifs) (scope := scope) (px := px) (vis' := vis') (nl := nl) (j := j) (x := x) (csrc := csrc) (cif := cif) (celt := celt)
    (use := some fun v => assignAll v ((assignEach [.Name y py] env).map (·.2))) (Q := fun _ s' => NP W (ownOf env) (frs (env :: fs)) s io m (SP W env vis) (compRes csrc cif celt j nl i r m) Flow.next s') (E := XP W (ownOf env) (env :: fs) s io m (compRes csrc cif celt j nl i r m)) ck hs hv hj hsrc hifs helt Z.sit hne0 lift
  refine go ?_
  clear go
  intro s' io' D C L us c mL p m₂ e1 e2 hl hD0 hC0 hDC st H hD hus nf hC sm
  obtain ⟨⟨mC, hn⟩, nfC⟩ := hC
  have eT : compRes csrc cif celt j nl i r m = .ok (.next, r.set i (some (.ref mL.length))) (mL ++ [.list L]) := by
    simp only [compRes, bnd, e1, Res.bind, e2, if_pos hl, alloc, ret]
  have basD : W.base.get? D = none := by
    cases q : W.base.get? D with
    | none => rfl
    | some o => rw [Z.H.keep _ _ q] at hD0; cases hD0
  obtain ⟨a1, a2, a3⟩ := adopt st H hD hus hl nf hD0 basD
  have nfC' : ¬ Foot (io' ++ [(D, D)]) C := fun f => by
    rcases foot_append f with f | ⟨q, hq, e⟩
    · exact nfC f
    · rw [List.mem_singleton.mp hq] at e
      rcases e with e | e <;> exact hDC e.symm
  have Z' : Stt W fs env vis s' (io' ++ [(D, D)]) (mL ++ [.list L]) r := ⟨a2, Z.F.step0 Z.H a1, Z.G.step0 a1, Z.fr, Z.dis⟩
  have hLo : ∃ o, s.heap.get? env.locals = some o := by obtain ⟨_, ⟨o, _, _, ho, _⟩, _⟩ := Z.F.loc; exact ⟨o, ho⟩
  have hCl : C ∉ ownOf env := fun q => by
    rcases List.mem_cons.mp q with e | q
    · obtain ⟨o, ho⟩ := hLo; rw [← e, hC0] at ho; cases ho
    · obtain ⟨⟨z, c'⟩, hm, hq⟩ := List.mem_filterMap.mp q
      obtain ⟨⟨_, o, ho, _⟩, _⟩ := Z.F.cells z C hq
      rw [hC0] at ho; cases ho
  have nfr : C ∉ frs (env :: fs) := fun q => by
    obtain ⟨e, he, hf⟩ := List.mem_filterMap.mp q
    obtain ⟨_, L', o, _, _, h1, _, _, h4, _⟩ := Z.sit.G e he
    rw [h1] at hf; cases hf; rw [hC0] at h4; cases h4
  have as := a_name (W := W) (fs := fs) (A := A) (pos := py) hyv (.inl hyk) s' _ _ r _ _ Z' a3 (fun q => nomatch q)
  have key : wpAny (model W.prog W.w) A (assign (.Name y py) env (.ref D)) (fun _ s'' => ∃ mC, s''.heap.Ns C mC ∧ ∀ h', Heap.SameBut C s''.heap h' → NP W (ownOf env) (frs (env :: fs)) s io m (SP W env vis) (compRes csrc cif celt j nl i r m) Flow.next { s'' with heap := h' }) (XP W (ownOf env) (env :: fs) s io m (compRes csrc cif celt j nl i r m)) s' := by
    refine wpAny_mono as (fun _ s'' q => ?_) fun e s'' q => ?_
    rotate_left
    · obtain ⟨c', m', io', a, g, h1, _⟩ := q; cases h1
    obtain ⟨r₂, m₃, io₃, e3, st3, H3, F3, sm3⟩ := q
    cases e3
    obtain ⟨oC, esC, epC, hoC, hdC, hrC⟩ := hn
    have hoC' := st3.keep _ _ hoC nfC' hCl nfr
    have hn3 : s''.heap.Ns C mC := ⟨oC, esC, epC, hoC', hdC, hrC⟩
    refine ⟨mC, hn3, fun h' hs' => ?_⟩
    have nfC3 := st3.nofoot hoC nfC'
    have sd : Side W [C] s.heap s''.heap io₃ h' := side_ns hC0 hn3 nfC3 hs'
    have stT := (a1.wk (own' := ownOf env) fun _ q => nomatch q).trans st3
    have F' : FR W h' io₃ env vis (r.set i (some (.ref mL.length))) := F3.side sd hLo fun z c hz => by obtain ⟨⟨_, o, ho, _⟩, _⟩ := Z.F.cells z c hz; exact ⟨o, ho⟩
    exact ⟨(.next, r.set i (some (.ref mL.length))), _, io₃, eT, sd.step H3 stT, sd.hr H3 Z.H.keep, ⟨.next, F'⟩, (sm.trans sm3).trans ⟨rfl, rfl⟩⟩
  exact key
end
end Mini

/-! Builtins. -/
namespace Mini
open PySem PySem.W

noncomputable def tyName : Ty → String
  | .int => "int"
  | .bool => "bool"
  | .str => "str"
  | .list => "list"
  | .tuple => "tuple"
  | .dict => "dict"
  | .cls _ => ""

section
variable {W : Wd} {K : Frag} {h h' h₀ : Heap} {fs : List Env} {env : Env} {vis : List (Option Str)} {s s' s₀ : Shared} {io io' io₀ : Io} {m m' m₀ : MH} {r r' : Lo} {fr fr' own own' : List Addr} {A : Around} {n : Nat} {pos p : Pos}

theorem isi_sim {S : Sig} (H : HR W s.heap io m) {t : Ty} (ht : ∀ c, t ≠ .cls c) {v : V} {u : Value} (k : VR W s.heap io v u) : Si W own A fs BV (call (.builtin "isinstance") [u, .type (tyName t)]) s io m (isiV S v t m) := by
  cases t with
  | int =>
    cases k with
    | none => exact fun _ => IsiPair.NoneType_int (np_bool  H)
    | bool b => exact fun _ => IsiPair.bool_int (np_bool (tk := s.toks) H)
    | int i t => exact fun _ => IsiPair.int_int (np_bool (tk := s.toks) H)
    | str x t hx => exact fun _ => IsiPair.str_int (np_bool  H)
    | tup ha hx => exact fun _ => IsiPair.tuple_int ha rfl (np_bool  H)
    | @ref n a d hi =>
      show Si W own A fs BV _ s io m (match m[n]? with | some (.list _) => .ok (Ty.int == Ty.list) m | some (.dict _ _) => .ok (Ty.int == Ty.dict) m | _ => .bad)
      split
      · rename_i xs hm
        refine hide fun GOAL hGOAL => ?_
        obtain ⟨_, us, c, h1, _⟩ := H.obj _ _ _ hi hm
        refine hGOAL ?_
        clear hGOAL GOAL
        exact fun _ => IsiPair.list_int h1 rfl (np_bool  H)
      · rename_i kvs e hm
        refine hide fun GOAL hGOAL => ?_
        obtain ⟨_, o, es, c, h1, h2, _⟩ := H.obj _ _ _ hi hm
        refine hGOAL ?_
        clear hGOAL GOAL
        exact fun _ => IsiPair.dict_int h1 h2.1 (np_bool  H)
      · exact .bad
    | fn k => exact .bad
    | exc => exact .bad
    | scr => exact .bad
  | bool =>
    cases k with
    | none => exact fun _ => IsiPair.NoneType_bool (np_bool  H)
    | bool b => exact fun _ => IsiPair.bool_bool (np_bool (tk := s.toks) H)
    | int i t => exact fun _ => IsiPair.int_bool (np_bool  H)
    | str x t hx => exact fun _ => IsiPair.str_bool (np_bool  H)
    | tup ha hx => exact fun _ => IsiPair.tuple_bool ha rfl (np_bool  H)
    | @ref n a d hi =>
      show Si W own A fs BV _ s io m (match m[n]? with | some (.list _) => .ok (Ty.bool == Ty.list) m | some (.dict _ _) => .ok (Ty.bool == Ty.dict) m | _ => .bad)
      split
      · rename_i xs hm
        refine hide fun GOAL hGOAL => ?_
        obtain ⟨_, us, c, h1, _⟩ := H.obj _ _ _ hi hm
        refine hGOAL ?_
        clear hGOAL GOAL
        exact fun _ => IsiPair.list_bool h1 rfl (np_bool  H)
      · rename_i kvs e hm
        refine hide fun GOAL hGOAL => ?_
        obtain ⟨_, o, es, c, h1, h2, _⟩ := H.obj _ _ _ hi hm
        refine hGOAL ?_
        clear hGOAL GOAL
        exact fun _ => IsiPair.dict_bool h1 h2.1 (np_bool  H)
      · exact .bad
    | fn k => exact .bad
    | exc => exact .bad
    | scr => exact .bad
  | str =>
    cases k with
    | none => exact fun _ => IsiPair.NoneType_str (np_bool  H)
    | bool b => exact fun _ => IsiPair.bool_str (np_bool  H)
    | int i t => exact fun _ => IsiPair.int_str (np_bool  H)
    | str x t hx => exact fun _ => IsiPair.str_str (np_bool (tk := s.toks) H)
    | tup ha hx => exact fun _ => IsiPair.tuple_str ha rfl (np_bool  H)
    | @ref n a d hi =>
      show Si W own A fs BV _ s io m (match m[n]? with | some (.list _) => .ok (Ty.str == Ty.list) m | some (.dict _ _) => .ok (Ty.str == Ty.dict) m | _ => .bad)
      split
      · rename_i xs hm
        refine hide fun GOAL hGOAL => ?_
        obtain ⟨_, us, c, h1, _⟩ := H.obj _ _ _ hi hm
        refine hGOAL ?_
        clear hGOAL GOAL
        exact fun _ => IsiPair.list_str h1 rfl (np_bool  H)
      · rename_i kvs e hm
        refine hide fun GOAL hGOAL => ?_
        obtain ⟨_, o, es, c, h1, h2, _⟩ := H.obj _ _ _ hi hm
        refine hGOAL ?_
        clear hGOAL GOAL
        exact fun _ => IsiPair.dict_str h1 h2.1 (np_bool  H)
      · exact .bad
    | fn k => exact .bad
    | exc => exact .bad
    | scr => exact .bad
  | list =>
    cases k with
    | none => exact fun _ => IsiPair.NoneType_list (np_bool  H)
    | bool b => exact fun _ => IsiPair.bool_list (np_bool  H)
    | int i t => exact fun _ => IsiPair.int_list (np_bool  H)
    | str x t hx => exact fun _ => IsiPair.str_list (np_bool  H)
    | tup ha hx => exact fun _ => IsiPair.tuple_list ha rfl (np_bool  H)
    | @ref n a d hi =>
      show Si W own A fs BV _ s io m (match m[n]? with | some (.list _) => .ok (Ty.list == Ty.list) m | some (.dict _ _) => .ok (Ty.list == Ty.dict) m | _ => .bad)
      split
      · rename_i xs hm
        refine hide fun GOAL hGOAL => ?_
        obtain ⟨_, us, c, h1, _⟩ := H.obj _ _ _ hi hm
        refine hGOAL ?_
        clear hGOAL GOAL
        exact fun _ => IsiPair.list_list h1 rfl (np_bool (tk := s.toks) H)
      · rename_i kvs e hm
        refine hide fun GOAL hGOAL => ?_
        obtain ⟨_, o, es, c, h1, h2, _⟩ := H.obj _ _ _ hi hm
        refine hGOAL ?_
        clear hGOAL GOAL
        exact fun _ => IsiPair.dict_list h1 h2.1 (np_bool  H)
      · exact .bad
    | fn k => exact .bad
    | exc => exact .bad
    | scr => exact .bad
  | tuple =>
    cases k with
    | none => exact fun _ => IsiPair.NoneType_tuple (np_bool  H)
    | bool b => exact fun _ => IsiPair.bool_tuple (np_bool  H)
    | int i t => exact fun _ => IsiPair.int_tuple (np_bool  H)
    | str x t hx => exact fun _ => IsiPair.str_tuple (np_bool  H)
    | tup ha hx => exact fun _ => IsiPair.tuple_tuple ha rfl (np_bool (tk := s.toks) H)
    | @ref n a d hi =>
      show Si W own A fs BV _ s io m (match m[n]? with | some (.list _) => .ok (Ty.tuple == Ty.list) m | some (.dict _ _) => .ok (Ty.tuple == Ty.dict) m | _ => .bad)
      split
      · rename_i xs hm
        refine hide fun GOAL hGOAL => ?_
        obtain ⟨_, us, c, h1, _⟩ := H.obj _ _ _ hi hm
        refine hGOAL ?_
        clear hGOAL GOAL
        exact fun _ => IsiPair.list_tuple h1 rfl (np_bool  H)
      · rename_i kvs e hm
        refine hide fun GOAL hGOAL => ?_
        obtain ⟨_, o, es, c, h1, h2, _⟩ := H.obj _ _ _ hi hm
        refine hGOAL ?_
        clear hGOAL GOAL
        exact fun _ => IsiPair.dict_tuple h1 h2.1 (np_bool  H)
      · exact .bad
    | fn k => exact .bad
    | exc => exact .bad
    | scr => exact .bad
  | dict =>
    cases k with
    | none => exact fun _ => IsiPair.NoneType_dict (np_bool  H)
    | bool b => exact fun _ => IsiPair.bool_dict (np_bool  H)
    | int i t => exact fun _ => IsiPair.int_dict (np_bool  H)
    | str x t hx => exact fun _ => IsiPair.str_dict (np_bool  H)
    | tup ha hx => exact fun _ => IsiPair.tuple_dict ha rfl (np_bool  H)
    | @ref n a d hi =>
      show Si W own A fs BV _ s io m (match m[n]? with | some (.list _) => .ok (Ty.dict == Ty.list) m | some (.dict _ _) => .ok (Ty.dict == Ty.dict) m | _ => .bad)
      split
      · rename_i xs hm
        refine hide fun GOAL hGOAL => ?_
        obtain ⟨_, us, c, h1, _⟩ := H.obj _ _ _ hi hm
        refine hGOAL ?_
        clear hGOAL GOAL
        exact fun _ => IsiPair.list_dict h1 rfl (np_bool  H)
      · rename_i kvs e hm
        refine hide fun GOAL hGOAL => ?_
        obtain ⟨_, o, es, c, h1, h2, _⟩ := H.obj _ _ _ hi hm
        refine hGOAL ?_
        clear hGOAL GOAL
        exact fun _ => IsiPair.dict_dict h1 h2.1 (np_bool (tk := s.toks) H)
      · exact .bad
    | fn k => exact .bad
    | exc => exact .bad
    | scr => exact .bad
  | cls c => exact absurd rfl (ht c)
end
end Mini

/-! Texts: split, and numbers written as texts. -/
namespace Mini
open PySem PySem.W PyProof.Rows
open Builtin Builtin.Str

section
variable {W : Wd} {K : Frag} {fs : List Env} {s : Shared} {io : Io} {m : MH} {A : Around}
end
end Mini

/-! isinstance of an exception. -/
namespace Mini
open PySem PySem.W PyProof.Rows PySem.Calls PySem.Builtin PySem.Builtin.ObjectAttr PySem.Builtin.Getset_descriptor

/-- what the look at an exception's class needs of the file's class -/
noncomputable def excCls (K : Frag) (D : Addr) : Bool :=
  findIn K (.ref D) "__getattribute__" == some (some (.builtin "BaseException.__getattribute__")) && findIn K (.ref D) "__getattr__" == some none && findIn K (.ref D) "__class__" == some (some (.builtin "object.__class__")) && specialIn K (.builtin "object.__class__") "__get__" == some (some (.builtin "getset_descriptor.__get__")) && takesIn K (.builtin "object.__class__") == some true &&
  mroIn K D (.type "object") == some true && mroIn K D (.type "BaseException") == some true && (match K.lookup D with | some o => (match o.data with | .cls _ => true | _ => false) | none => false)

section
variable {prog : Program} {w : World} {A : Around} {E : Value → Shared → Prop} {h : Heap} {g : Array GenState} {d : Drawn} {t : Nat} {os : OsState} {a D : Addr} {K : Frag}

theorem exc_get {R : Result → Shared → Prop} (X : K.In h) (L0 : Looks (model prog w) h (typeOf (.ref a)) (.ref D)) (hm : mroIn K D (.type "object") = some true) (hq : R (.ok (.ret (.ref D))) ⟨h, g, d, t, os⟩) :
    codeAny (model prog w) A (.call (.builtin "getset_descriptor.__get__") ⟨[.builtin "object.__class__", .ref a, .ref D], []⟩) R ⟨h, g, d, t, os⟩ := by
  have L1 := looks_mroIn (M := model prog w) X hm
  refine codeAny_call_builtin KF.slot_gs.plain KF.entry_gs (KF.slot_gs.check _ _ _ _ _ _ _ _ KF.type_class (KF.args_gs _ _ _) ?_)
  unfold Builtin.«getset_descriptor.__get__» descrGet
  rw [dga_obj]
  refine wpAny_bind (wpAny_pure ?_)
  unfold descrGetter descrCheckInstance descrNameAndClass isInstance
  simp only [KF.owner_class]
  repeat lk
  refine ⟨Code.quiet_builtin _ (by decide +kernel), codeAny_builtin KF.entry_class ?_⟩
  unfold Builtin.«object.__class__» shownTypeOf
  repeat lk
  exact hq
theorem exc_entry {tk : Tok} {Q : Fin → Shared → Prop} (X : K.In h) (L0 : Looks (model prog w) h (typeOf (.ref a)) (.ref D)) (hm : mroIn K D (.type "object") = some true) (LF : Looks (model prog w) h (find (.ref a) (.ref D) "__class__") (.bind (.builtin "getset_descriptor.__get__") (.builtin "object.__class__"))) (hq : Q (.done (.ret (.ref D))) ⟨h, g, d, t, os⟩) :
    wpAny (model prog w) A (Builtin.«object.__getattribute__» ⟨[.ref a, .str "__class__" tk], []⟩) Q E ⟨h, g, d, t, os⟩ := by
  repeat (any_goals (first | assumption | with_reducible refine Looks.at L0 ?_ | with_reducible refine Looks.at LF ?_ | wp_step))
  refine exc_get X L0 hm ?_
  repeat (any_goals (first | assumption | wp_step))
theorem exc_check {M : Model} {nameV : Value} {Q : Unit → Shared → Prop} (X : K.In h) (L0 : Looks M h (typeOf (.ref a)) (.ref D)) (hb : mroIn K D (.type "BaseException") = some true) (hq : Q () ⟨h, g, d, t, os⟩) : wpAny M A (checkBuiltinCall "BaseException.__getattribute__" ⟨[.ref a, nameV], []⟩) Q E ⟨h, g, d, t, os⟩ := by
  have hk : builtinKind "BaseException.__getattribute__" = some .slot := by decide +kernel
  have hsplit : splitId "BaseException.__getattribute__" = some ("BaseException", "__getattribute__") := by decide +kernel
  have L1 := looks_mroIn (M := M) X hb
  have ha := F.args_bexc_ga (.ref a) nameV
  simp only [checkBuiltinCall, hk, hsplit]
  refine wpAny_bind ?_
  unfold isInstance
  repeat (first | with_reducible refine Looks.at L0 ?_ | with_reducible refine Looks.at L1 ?_ | wp_step)
  exact hq
theorem exc_call {tk : Tok} {R : Result → Shared → Prop} (X : K.In h) (L0 : Looks (model prog w) h (typeOf (.ref a)) (.ref D)) (hm : mroIn K D (.type "object") = some true) (hb : mroIn K D (.type "BaseException") = some true) (LF : Looks (model prog w) h (find (.ref a) (.ref D) "__class__") (.bind (.builtin "getset_descriptor.__get__") (.builtin "object.__class__"))) (hq : R (.ok (.ret (.ref D))) ⟨h, g, d, t, os⟩) :
    codeAny (model prog w) A (.call (.builtin "BaseException.__getattribute__") ⟨[.ref a, .str "__class__" tk], []⟩) R ⟨h, g, d, t, os⟩ :=
  codeAny_call_builtin F.attr_ValueError.ga.plain F.entry_bexc_ga (exc_check X L0 hb (exc_entry X L0 hm LF hq))
theorem exc_by {tk : Tok} {Q : Value → Shared → Prop} (X : K.In h) (L0 : Looks (model prog w) h (typeOf (.ref a)) (.ref D)) (hc : excCls K D = true) (hq : Q (.ref D) ⟨h, g, d, t, os⟩) :
    wpAny (model prog w) A (getAttrBy (.ref a) (.str "__class__" tk) false) Q E ⟨h, g, d, t, os⟩ := by
  simp only [excCls, Bool.and_eq_true, beq_iff_eq] at hc
  refine hide fun GOAL hGOAL => ?_
  obtain ⟨⟨⟨⟨⟨⟨⟨c1, c2⟩, c3⟩, c4⟩, c5⟩, c6⟩, c7⟩, c8⟩ := hc
  refine hGOAL ?_
  clear hGOAL GOAL
  have L1 := looks_findIn (M := model prog w) X c1
  have L2 := looks_findIn (M := model prog w) X c2
  have f3 := F.attr_ValueError.ga.bind (.ref a)
  have hx2 : (Value.builtin "BaseException.__getattribute__" == Value.builtin "object.__getattribute__") = false := by decide +kernel
  have hx1 : (onTheHeap (Value.ref D) && Value.builtin "BaseException.__getattribute__" == Value.builtin "object.__getattribute__") = false := by rw [hx2]; rfl
  have LF : Looks (model prog w) h (find (.ref a) (.ref D) "__class__") (.bind (.builtin "getset_descriptor.__get__") (.builtin "object.__class__")) := by
    refine (looks_findIn (M := model prog w) X c3).andThen ((looks_specialIn (M := model prog w) X c4).andThen ?_)
    exact (show Looks (model prog w) h (dataDescriptor? (some (.builtin "object.__class__")) (some (.builtin "getset_descriptor.__get__"))) (some (.builtin "getset_descriptor.__get__", .builtin "object.__class__")) from (looks_takesIn (M := model prog w) X c5).andThen .now).andThen (Looks.tag .now)
  repeat (any_goals (first | assumption | with_reducible refine Looks.at L0 ?_ | with_reducible refine Looks.at L1 ?_ | with_reducible refine Looks.at L2 ?_ | wp_step))
  refine exc_call X L0 c6 c7 LF ?_
  repeat (any_goals (first | assumption | wp_step))
theorem exc_attr {Q : Option Value → Shared → Prop} (X : K.In h) (L0 : Looks (model prog w) h (typeOf (.ref a)) (.ref D)) (hc : excCls K D = true) (hq : Q (some (.ref D)) ⟨h, g, d, t + 1, os⟩) :
    wpAny (model prog w) A (getAttr? (.ref a) "__class__") Q E ⟨h, g, d, t, os⟩ := by
  unfold getAttr? getAttrBy?
  repeat (any_goals (first | assumption | with_reducible apply exc_by X L0 hc | wp_step))
end
/-- an exception of a class -/
noncomputable def ExcAt (a D : Addr) (h : Heap) : Prop := ∃ o, h.get? a = some o ∧ o.cls = .ref D
theorem ExcAt.ty {a D : Addr} {h : Heap} {M : Model} (p : ExcAt a D h) : Looks M h (typeOf (.ref a)) (.ref D) := by
  refine hide fun GOAL hGOAL => ?_
  obtain ⟨o, h1, h2⟩ := p
  refine hGOAL ?_
  clear hGOAL GOAL
  exact h2 ▸ (Looks.ld h1).andThen .now
theorem kitx_exc {K : Frag} {a D : Addr} (hc : excCls K D = true) : KitX K (.ref a) (.ref D) (ExcAt a D) where
  ty := fun _ _ _ p => p.ty
  it := fun M h X _ => by
    simp only [excCls, Bool.and_eq_true] at hc
    have hc := hc.2
    split at hc
    · rename_i o ho
      split at hc
      · rename_i cd hd
        intro A' Q' E' s' k q
        refine hide fun GOAL hGOAL => ?_
        obtain ⟨oc, odi, oda, osl⟩ := o
        refine hGOAL ?_
        clear hGOAL GOAL
        dsimp only at hd
        subst hd
        unfold isType loadHead
        exact wpAny_bind (wpAny_loadPart (k _ _ (X _ _ ho)) (wpAny_pure q))
      · cases hc
    · cases hc
  ne := fun h tp dd its n sl X htp => by
    refine Bool.eq_false_iff.mpr fun q => ?_
    have e : D = tp := Value.ref.inj (beq_iff_eq.mp q)
    subst e
    simp only [excCls, Bool.and_eq_true] at hc
    have hc := hc.2
    split at hc
    · rename_i o ho
      split at hc
      · rename_i cd hd
        have z := (X _ _ ho).symm.trans htp
        cases z
        cases hd
      · cases hc
    · cases hc
  ca := fun {_ _ _ _ _ s} X p k => by obtain ⟨h, g, d, t, os⟩ := s; exact exc_attr X p.ty hc k

theorem isi_cls {W : Wd} {S : Sig} {K : Frag} {A : Around} {fs : List Env} {s : Shared} {io : Io} {m : MH} {own : List Addr} {c : Nat} {cv : Value} (X : K.In W.base) (hrel : ∀ d x, S.cls[d]? = some x → x.exc = true → excCls K (W.ca d) = true ∧ kitOne K (.ref (W.ca d)) cv = some (x.supers.contains c))
    (H : HR W s.heap io m) {v : V} {u : Value} (k : VR W s.heap io v u) : Si W own A fs BV (call (.builtin "isinstance") [u, cv]) s io m (isiV S v (.cls c) m) := by
  cases k with
  | @exc d a o vs h1 h2 h3 =>
    have e0 : isiV S (.exc d) (.cls c) m = (match S.cls[d]? with | some x => if x.exc then .ok (x.supers.contains c) m else .bad | none => .bad) := rfl
    rw [e0]
    cases ed : S.cls[d]? with
    | none => exact .bad
    | some x =>
      dsimp only
      by_cases hx : x.exc = true
      · rw [if_pos hx]
        obtain ⟨q1, q2⟩ := hrel d x ed hx
        exact fun _ => kia_one (kitx_exc q1) (X.keeps H.keep) ⟨o, h1, h2⟩ q2 (by intro q; cases q) fun tk => ⟨_, m, io, rfl, .refl, H, rfl, rfl, rfl⟩
      · rw [if_neg hx]; exact .bad
  | _ => exact .bad
end Mini

/-! Builtins, again. -/
namespace Mini
open PySem PySem.W PyProof.Rows

noncomputable def biFn : Bi → Value
  | .len => .builtin "len"
  | .abs => .builtin "abs"
  | .int => .type "int"
  | .str => .type "str"
  | .list => .type "list"
  | .tuple => .type "tuple"
  | .dict => .type "dict"
  | .sorted => .builtin "sorted"
  | .max2 => .builtin "max"
  | .min2 => .builtin "min"
  | .max1 => .builtin "max"
  | .lenset => .none

section
variable {W : Wd} {K : Frag} {h h' h₀ : Heap} {fs : List Env} {env : Env} {vis : List (Option Str)} {s s' s₀ : Shared} {io io' io₀ : Io} {m m' m₀ : MH} {r r' : Lo} {fr fr' own own' : List Addr} {A : Around} {n : Nat} {pos p : Pos}

theorem np_new {D : Addr} {us : Array Value} {c tk : Nat} {L : List V} (H : HR W s.heap io m) (hk : ∀ b o, s.heap.get? b = some o → h'.get? b = some o) (hD : h'.get? D = some (lstO us c)) (hus : VRs W s.heap io L us.toList) (hl : L.length ≤ lid) (hD0 : s.heap.get? D = none) :
    NP W own fr s io m (VP W) (alloc (.list L) m) (.ref D) { s with heap := h', toks := tk } := by
  have st : Step own fr s.heap io m h' io m := .of_keeps H hk
  have nf : ¬ Foot io D := fun f => by
    refine hide fun GOAL hGOAL => ?_
    obtain ⟨o, ho, _⟩ := H.foot f
    refine hGOAL ?_
    clear hGOAL GOAL
    rw [hD0] at ho; cases ho
  have basD : W.base.get? D = none := by
    cases q : W.base.get? D with
    | none => rfl
    | some o => rw [H.keep _ _ q] at hD0; cases hD0
  refine hide fun GOAL hGOAL => ?_
  obtain ⟨a1, a2, a3⟩ := adopt st (H.of_keeps hk) hD (hus.step st) hl nf hD0 basD
  refine hGOAL ?_
  clear hGOAL GOAL
  exact ⟨_, _, _, rfl, a1, a2, a3, rfl, rfl⟩

theorem small_fit {k : Nat} (hk : k ≤ lid) : (k : Int) < 2 ^ 63 := by have : lid = 4194304 := rfl; omega

theorem vrs_ints {us : List Value} {is : List Int} (k : IntsAre us is) : VRs W h io (is.map V.int) us := by
  induction k with
  | nil => exact .nil
  | cons n t _ ih => exact .cons (.int n t) ih

theorem insI_permM (x : Int) : ∀ l : List Int, (Mini.insI x l).Perm (x :: l)
  | [] => .refl _
  | y :: r => by
    unfold Mini.insI; split
    · exact .refl _
    · exact ((insI_permM x r).cons y).trans (.swap _ _ _)
theorem sortI_permM : ∀ ns, (Mini.sortI ns).Perm ns
  | [] => .refl _
  | x :: r => (insI_permM x _).trans ((sortI_permM r).cons x)
theorem insI_risesM (x : Int) : ∀ l : List Int, l.Pairwise (· ≤ ·) → (Mini.insI x l).Pairwise (· ≤ ·)
  | [], _ => by simp [Mini.insI]
  | y :: r, h => by
    obtain ⟨h1, h2⟩ := List.pairwise_cons.mp h
    unfold Mini.insI; split
    · refine List.pairwise_cons.mpr ⟨fun z hz => ?_, h⟩
      rcases List.mem_cons.mp hz with rfl | hz
      · assumption
      · have := h1 z hz; omega
    · refine List.pairwise_cons.mpr ⟨fun z hz => ?_, insI_risesM x r h2⟩
      rcases List.mem_cons.mp ((insI_permM x r).mem_iff.mp hz) with rfl | hz
      · omega
      · exact h1 z hz
theorem sortI_risesM : ∀ ns, (Mini.sortI ns).Pairwise (· ≤ ·)
  | [] => .nil
  | x :: r => insI_risesM x _ (sortI_risesM r)
theorem eq_sortIM {ns ns' : List Int} (hp : ns'.Perm ns) (hs : ns'.Pairwise (· ≤ ·)) : ns' = Mini.sortI ns :=
  List.Perm.eq_of_pairwise (fun _ _ _ _ a b => Int.le_antisymm a b) hs (sortI_risesM ns) (hp.trans (sortI_permM ns).symm)

/-- a dict of whole keys, in the kit's words -/
theorem int_dict (H : HR W s.heap io m) {k : Nat} {p : Addr × Addr} {kvs : List (Ky × V)} {e : Nat} {is : List Int} (hi : io[k]? = some p) (hm : m[k]? = some (.dict kvs e)) (hk : isKeyI kvs = some is) :
    ∃ (l : List (Int × Value)) (ep : Nat), s.heap.DictAt (intKind W.prog W.w) p.1 l ep ∧ l.map (·.1) = is ∧ is.length = kvs.length ∧ kvs.length ≤ lid := by
  refine hide fun GOAL hGOAL => ?_
  obtain ⟨_, o, es, c, h1, h2, h3, h4, h5, h6⟩ := H.obj _ _ _ hi hm
  refine hGOAL ?_
  clear hGOAL GOAL
  have keys : ∀ (kvs : List (Ky × V)) (is : List Int), isKeyI kvs = some is → kvs.map (·.1) = is.map Ky.int := by
    intro kvs
    induction kvs with
    | nil => intro is h; cases h; rfl
    | cons q r ih =>
      intro is h
      obtain ⟨q1, q2⟩ := q
      cases q1 <;> simp only [isKeyI] at h <;> first | cases h | skip
      cases w : isKeyI r with
      | none => rw [w] at h; cases h
      | some js =>
        rw [w] at h
        simp only [Option.map_some, Option.some.injEq] at h
        subst h
        simp [ih js w]
  have ke := keys kvs is hk
  have hall : ∀ q ∈ kvs, ∃ j, q.1 = Ky.int j := fun q hq => by
    have : q.1 ∈ kvs.map (·.1) := List.mem_map.mpr ⟨q, hq, rfl⟩
    rw [ke] at this
    refine hide fun GOAL hGOAL => ?_
    obtain ⟨j, _, e⟩ := List.mem_map.mp this
    refine hGOAL ?_
    clear hGOAL GOAL
    exact ⟨j, e.symm⟩
  refine hide fun GOAL hGOAL => ?_
  obtain ⟨l, l1, l2, l3⟩ := h4.pairs intEmb hall
  refine hGOAL ?_
  clear hGOAL GOAL
  have l4 : l.map (·.1) = is := by
    rw [ke] at l2
    have : (l.map (·.1)).map Ky.int = is.map Ky.int := by rw [List.map_map]; exact l2
    exact (List.map_inj_right fun _ _ e => by cases e; rfl).mp this
  refine ⟨l, c, ⟨o, es, h1, h2, h3, ?_, l1, ?_⟩, l4, ?_, h6⟩
  · intro e he
    exact h4.keysOf intEmb hall e (by simpa using he)
  · rw [l4]
    rw [ke] at h5
    exact (List.pairwise_map.mp h5).imp fun h q => h (by rw [q])
  · have := congrArg List.length ke
    simpa using this.symm

noncomputable def biOk : Bi → Bool
  | .len | .abs | .list | .sorted => true
  | _ => false

theorem key_ints {l : List (Int × Value)} {acc : Array Value} (h : ItemsOf (fun i v => ∃ k x, l[i]? = some (k, x) ∧ (intKind W.prog W.w).is k v = true) acc l.length) : IntsAre acc.toList (l.map (·.1)) := by
  have key : ∀ (l : List (Int × Value)) (vs : List Value), vs.length = l.length → (∀ (j : Nat) (v : Value), vs[j]? = some v → ∃ k x, l[j]? = some (k, x) ∧ (intKind W.prog W.w).is k v = true) → IntsAre vs (l.map (·.1)) := by
    intro l
    induction l with
    | nil => intro vs hl _; cases vs with
      | nil => exact .nil
      | cons => cases hl
    | cons q r ih =>
      intro vs hl hv
      cases vs with
      | nil => cases hl
      | cons v vs =>
        refine hide fun GOAL hGOAL => ?_
        obtain ⟨k, x, e1, e2⟩ := hv 0 v rfl
        refine hGOAL ?_
        clear hGOAL GOAL
        simp at e1
        subst e1
        have : ∃ t, v = .int k t := by
          cases v <;> simp [intKind, Value.isInt] at e2
          rename_i j t
          exact ⟨t, by rw [e2]⟩
        obtain ⟨t, rfl⟩ := this
        exact .cons k t (ih vs (by simpa using hl) fun j v e => by simpa using hv (j + 1) v (by simpa using e))
  exact key l acc.toList (by simpa using h.1) fun j v e => h.2 j v (by rw [← Array.getElem?_toList]; exact e)

theorem bi_cases {Pr : Bi → List V → Prop} (l1 : ∀ s, Pr .len [.str s]) (l2 : ∀ xs, Pr .len [.tup xs]) (l3 : ∀ ns, Pr .len [.scr ns]) (l4 : ∀ n, Pr .len [.ref n]) (a1 : ∀ i, Pr .abs [.int i]) (i1 : ∀ c, Pr .int [.bool c]) (i2 : ∀ s, Pr .int [.str s]) (s1 : ∀ i, Pr .str [.int i]) (t1 : ∀ xs, Pr .list [.tup xs]) (t2 : ∀ n, Pr .list [.ref n])
    (o1 : ∀ n, Pr .sorted [.ref n]) (u1 : ∀ n, Pr .tuple [.ref n]) (x1 : ∀ i j, Pr .max2 [.int i, .int j]) (x2 : ∀ i j, Pr .min2 [.int i, .int j]) (bad : ∀ b vs, biOk b = false ∨ biV b vs = (fun _ => .bad) → Pr b vs) (b : Bi) (vs : List V) : Pr b vs := by
  cases hb : biOk b with
  | false => exact bad b vs (.inl hb)
  | true =>
    cases vs with
    | nil => exact bad b [] (.inr (by cases b <;> rfl))
    | cons v vs =>
      cases vs with
      | nil =>
        cases b <;> first | (cases hb; done) | skip
        all_goals cases v <;> first | (exact l1 _) | (exact l2 _) | (exact l3 _) | (exact l4 _) | (exact a1 _) | (exact i1 _) | (exact i2 _) | (exact s1 _) | (exact t1 _) | (exact t2 _) | (exact o1 _) | (exact u1 _) | (exact bad _ _ (.inr rfl))
      | cons v' vs =>
        cases vs with
        | nil =>
          cases b <;> first | (exact bad _ _ (.inr rfl)) | skip
          all_goals cases v <;> first | (exact bad _ _ (.inr rfl)) | skip
          all_goals cases v' <;> first | (exact x1 _ _) | (exact x2 _ _) | (exact bad _ _ (.inr rfl))
        | cons v'' vs => exact bad _ _ (.inr (by cases b <;> first | rfl | (cases v <;> first | rfl | (cases v' <;> rfl))))
theorem bi_sim (ok : WOk W) (hh : A.handled = none) {b : Bi} (hb : biOk b = true) : SiF W A fs (biFn b) (biV b) := by
  intro s io m vs us H G hu
  revert us
  revert hb
  refine bi_cases (Pr := fun b vs => biOk b = true → ∀ us, VRs W s.heap io vs us → Si W [] A fs (VP W) (call (biFn b) us) s io m (biV b vs m)) ?_ ?_ ?_ ?_ ?_ ?_ ?_ ?_ ?_ ?_ ?_ ?_ ?_ ?_ ?_ b vs
  · intro x hb us hu
    cases hu with | cons k1 k2 => cases k2; cases k1 with | str x t hx =>
    show Si W [] A fs (VP W) _ s io m (if x.length ≤ lid then .ok (.int x.length) m else .bad)
    split
    · rename_i hl
      exact fun _ => P.len_str (by have := small_fit hl; omega) (np_val H (.int _ _))
    · exact .bad
  · intro xs hb us hu
    cases hu with | cons k1 k2 => cases k2; cases k1 with | @tup a ws c _ ha hx =>
    show Si W [] A fs (VP W) _ s io m (if xs.length ≤ lid then .ok (.int xs.length) m else .bad)
    split
    · rename_i hl
      have e : ws.size = xs.length := hx.size
      have := PyProof.Rows.len_tuple (prog := W.prog) (w := W.w) (A := A) (E := XP W [] fs s io m (.ok (.int xs.length) m : Res V)) (s := s) (Q := NP W [] (frs fs) s io m (VP W) (.ok (.int xs.length) m)) ⟨_, ha, rfl, c, rfl⟩ (by rw [e]; exact small_fit hl) (by rw [e]; exact np_val H (.int _ _))
      exact fun _ => this
    · exact .bad
  · intro ns hb us hu
    cases hu with | cons k1 k2 => cases k2; cases k1 with | @scr _ l o ws c hl hc hd hi hn =>
    have e : ws.size = ns.length := by simpa using hi.length
    refine fun _ => Calls.call_len_list ⟨o, H.keep _ _ hl, hc, c, hd⟩ (by rw [e]; exact small_fit hn) ?_
    rw [e]; exact np_val H (.int _ _)
  · intro k hb us hu
    cases hu with | cons k1 k2 => cases k2; cases k1 with | @ref k a d hi =>
    show Si W [] A fs (VP W) _ s io m (match m[k]? with | some (.list xs) => .ok (.int xs.length) m | _ => .bad)
    split
    · rename_i xs hm
      refine hide fun GOAL hGOAL => ?_
      obtain ⟨_, ws, c, h1, h2, h3⟩ := H.obj _ _ _ hi hm
      refine hGOAL ?_
      clear hGOAL GOAL
      have e : ws.size = xs.length := h2.size
      refine fun _ => Calls.call_len_list ⟨_, h1, rfl, c, rfl⟩ (by rw [e]; exact small_fit h3) ?_
      rw [e]; exact np_val H (.int _ _)
    · exact .bad
  · intro i hb us hu
    cases hu with | cons k1 k2 => cases k2; cases k1
                                  exact fun _ => PyProof.Rows.call_abs_int fun u tk => np_val H (.int _ _)
  · intro i hb; cases hb
  · intro i hb; cases hb
  · intro i hb; cases hb
  · intro xs hb us hu; exact .bad
  · intro k hb us hu
    cases hu with | cons k1 k2 => cases k2; cases k1 with | @ref k a d hi =>
    show Si W [] A fs (VP W) _ s io m (match m[k]? with | some (.list xs) => alloc (.list xs) m | _ => .bad)
    split
    · rename_i xs hm
      refine hide fun GOAL hGOAL => ?_
      obtain ⟨_, ws, c, h1, h2, h3⟩ := H.obj _ _ _ hi hm
      refine hGOAL ?_
      clear hGOAL GOAL
      refine fun _ => call_list_seq a (.inl rfl) h1 rfl rfl (fun h' c' hk hD => ?_) (by rw [h2.size]; exact sizeLine_lid h3)
      exact np_new (tk := s.toks) H hk hD h2 h3 (get_size _)
    · exact .bad
  · intro k hb us hu
    cases hu with | cons k1 k2 => cases k2; cases k1 with | @ref k a d hi =>
    show Si W [] A fs (VP W) _ s io m (match m[k]? with | some (.dict kvs _) => (match isKeyI kvs with | some is => if is.length < 64 then alloc (.list ((sortI is).map .int)) m else .bad | Option.none => .bad) | _ => .bad)
    split
    · rename_i kvs e hm
      split
      · rename_i is hk
        split
        · rename_i h64
          refine hide fun GOAL hGOAL => ?_
          obtain ⟨l, ep, q1, q2, q3, q4⟩ := int_dict H hi hm hk
          refine hGOAL ?_
          clear hGOAL GOAL
          have e : l.length = kvs.length := by rw [← q3, ← q2]; simp
          intro _
          refine Calls.call_function_entry kind_sorted plain_sorted entry_sorted (args_sorted1 _) ?_
          unfold Builtin.«sorted»
          refine wpAny_bind (m := checkCount "sorted" 1 1 _) (wpAny_pure ?_)
          refine wpAny_bind (kdu_collect (A := A.in1) (kdl_dict (H.notSys ok ⟨_, List.mem_of_getElem? hi, .inl rfl⟩)) hh q1 (by rw [e]; exact sizeLine_lid q4) fun h' tk acc hk' hacc => ?_)
          have ia := key_ints hacc
          rw [q2] at ia
          have hl : acc.toList.length < 64 := by
            have : acc.size = l.length := hacc.1
            simp only [Array.length_toList]; omega
          refine wpAny_bind (wpAny_newList ?_ (by have : sizeLine = 16777216 := sizeLine_eq; omega))
          have hoL : (h'.push (seqObj "list" acc.toList.toArray 0)).get? h'.objs.size = some (seqObj "list" acc.toList.toArray 0) := Heap.get?_push_size _ rfl
          refine wpAny_bind (wpAny_holding (wpAny_call_entry slot_list_sort ⟨_, hoL, rfl⟩ entry_list_sort (list_sort_tree hoL ia hl fun out ns' a1 a2 a3 => ⟨_, rfl, ?_⟩) (args_list_sort _)))
          refine wpAny_pure ⟨_, rfl, ?_⟩
          rw [eq_sortIM a2 a3] at a1
          obtain ⟨ce, hat⟩ := sortedHeap_at (out := out) hoL
          have dead : s.heap.get? h'.objs.size = none := by
            cases q : s.heap.get? h'.objs.size with
            | none => rfl
            | some o => have := hk' _ _ q; rw [get_size] at this; cases this
          refine np_new (tk := tk) H (fun b o e => ?_) hat (vrs_ints a1) (by simp [(sortI_permM is).length_eq]; have : lid = 4194304 := rfl; omega) dead
          have e1 := push_keeps (seqObj "list" acc.toList.toArray 0) b o (hk' b o e)
          rw [sortedHeap_old (Nat.ne_of_lt (Heap.lt_size (hk' b o e))) (Heap.lt_size e1)]
          exact e1
        · exact .bad
      · exact .bad
    · exact .bad
  · intro i hb; cases hb
  · intro i j hb; cases hb
  · intro i j hb; cases hb
  · intro b vs hq hb us hu
    rcases hq with hq | hq
    · rw [hq] at hb; cases hb
    · rw [hq]; exact .bad
end
end Mini

/-! str.split by one sign. -/
namespace Mini
open PySem PySem.W PyProof.Rows
section
variable {W : Wd} {fs : List Env} {s : Shared} {io : Io} {m : MH} {A : Around}
end
end Mini

/-! Methods. -/
namespace Mini
open PySem PySem.W PyProof.Rows

noncomputable def smType : Nat → String
  | 0 => "list"
  | 1 => "dict"
  | _ => "str"
noncomputable def smName : Sm → String
  | .append => "append"
  | .pop => "pop"
  | .clear => "clear"
  | .get => "get"
  | .join => "join"
  | .split => "split"
  | .count => "count"
  | .index => "index"
noncomputable def smId (k : Nat) (n : Sm) : String := match k, n with
  | 0, .append => "list.append"
  | 0, .pop => "list.pop"
  | 0, .count => "list.count"
  | 0, .index => "list.index"
  | 1, .pop => "dict.pop"
  | 2, .split => "str.split"
  | _, _ => "str.join"

section
variable {W : Wd} {K : Frag} {h h' h₀ : Heap} {fs : List Env} {env : Env} {vis : List (Option Str)} {s s' s₀ : Shared} {io io' io₀ : Io} {m m' m₀ : MH} {r r' : Lo} {fr fr' own own' : List Addr} {A : Around} {n : Nat} {pos p : Pos}

theorem np_setList {α β : Type} {P : Heap → Io → β → α → Prop} (H : HR W s.heap io m) {i : Nat} {p : Addr × Addr} {xs xs' : List V} (hi : io[i]? = some p) (hm : m[i]? = some (.list xs)) {h' : Heap} {tk : Nat} (hs : Heap.SameBut p.1 s.heap h') {us' : Array Value} {c' : Nat} (h1 : h'.get? p.1 = some (lstO us' c')) (h2 : VRs W s.heap io xs' us'.toList) (h3 : xs'.length ≤ lid) {v : β} {u : α}
    (hP : ∀ st : Step own fr s.heap io m h' io (m.set i (.list xs')), P h' io v u) : NP W own fr s io m P (.ok v (m.set i (.list xs'))) u { s with heap := h', toks := tk } := by
  obtain ⟨hpp, _⟩ := H.obj _ _ _ hi hm
  have hk : ∀ b o, b ≠ p.1 → b ≠ p.2 → s.heap.get? b = some o → h'.get? b = some o := fun b o q _ ho => sameBut_keeps hs b o q ho
  have hd : ∀ kv ep, MObj.list xs = .dict kv ep → ∃ kvs2 e2, MObj.list xs' = .dict kvs2 e2 ∧ ep < e2 := fun kv ep q => by cases q
  have st : Step own fr s.heap io m h' io (m.set i (.list xs')) := step_set H hi hm hk ⟨_, h1⟩ ⟨_, hpp ▸ h1⟩ hd
  exact ⟨v, _, io, rfl, st, H.set hi hm hk hd ⟨_, h1⟩ ⟨_, hpp ▸ h1⟩ ⟨hpp, us', c', h1, h2.step st, h3⟩, hP st, rfl, rfl⟩

theorem texts_of {xs : List V} {l : List Str} {us : List Value} (h : isStrL xs = some l) (k : VRs W s.heap io xs us) : ∃ ts : List (Str × Tok), us = strValues ts ∧ ts.map (·.1) = l ∧ ∀ x ∈ l, PyData.strOk x = true := by
  induction xs generalizing l us with
  | nil => cases k; cases h; exact ⟨[], rfl, rfl, fun _ q => nomatch q⟩
  | cons x xs ih =>
    cases k with
    | cons k1 k2 =>
      cases k1 <;> simp only [isStrL] at h <;> first | cases h | skip
      rename_i y t hy
      cases q : isStrL xs with
      | none => rw [q] at h; cases h
      | some js =>
        rw [q] at h
        simp only [Option.map_some, Option.some.injEq] at h
        subst h
        refine hide fun GOAL hGOAL => ?_
        obtain ⟨ts, a, b, c⟩ := ih q k2
        refine hGOAL ?_
        clear hGOAL GOAL
        refine ⟨(y, t) :: ts, by rw [a]; rfl, by simp [b], fun z hz => ?_⟩
        rcases List.mem_cons.mp hz with rfl | hz
        · exact hy
        · exact c z hz

theorem glued_eq (sep : Str) (l : List Str) : Txt.join sep l = joinS sep l := by
  show (⟨(l.drop 1).foldl (fun acc p => acc ++ sep.cps ++ p.cps) (l.headD Str.empty).cps⟩ : Str) = joinS sep l
  cases l with
  | nil => rfl
  | cons x r =>
    show (⟨r.foldl (fun acc p => acc ++ sep.cps ++ p.cps) x.cps⟩ : Str) = r.foldl (fun acc p => acc ++ sep ++ p) x
    induction r generalizing x with
    | nil => rfl
    | cons y r ih => exact ih (x ++ sep ++ y)
theorem joinS_ok {sep : Str} {l : List Str} (hs : PyData.strOk sep = true) (hl : ∀ x ∈ l, PyData.strOk x = true) : PyData.strOk (joinS sep l) = true := by
  cases l with
  | nil => show PyData.strOk Str.empty = true; simp [PyData.strOk, Str.empty]
  | cons x r =>
    have key : ∀ (r : List Str) (x : Str), PyData.strOk x = true → (∀ y ∈ r, PyData.strOk y = true) → PyData.strOk (r.foldl (fun acc p => acc ++ sep ++ p) x) = true := by
      intro r
      induction r with
      | nil => intro x hx _; exact hx
      | cons y r ih => intro x hx hr; exact ih _ (strOk_append (strOk_append hx hs) (hr y (.head _))) fun z hz => hr z (.tail _ hz)
    exact key r x (hl x (.head _)) fun y hy => hl y (.tail _ hy)

noncomputable def eqT (b : Bool) : Value → Bool | .bool c => c == b | _ => false
theorem isBoolL_cons {x : V} {xs : List V} {bs : List Bool} (h : isBoolL (x :: xs) = some bs) : ∃ c r, x = .bool c ∧ isBoolL xs = some r ∧ bs = c :: r := by
  cases x with
  | bool c =>
    have h : (isBoolL xs).map (c :: ·) = some bs := h
    cases q : isBoolL xs with
    | none => rw [q] at h; cases h
    | some r => rw [q] at h; cases h; exact ⟨c, r, rfl, rfl, rfl⟩
  | _ => cases h
theorem bools_of {b : Bool} : ∀ {xs : List V} {bs : List Bool} {us : List Value}, isBoolL xs = some bs → VRs W s.heap io xs us → us = bs.map Value.bool ∧ us.countP (eqT b) = bs.count b
  | [], bs, us, h, k => by
    cases k
    have h : some [] = some bs := h
    cases h
    exact ⟨rfl, rfl⟩
  | x :: xs, bs, us, h, k => by
    obtain ⟨c, r, rfl, q, rfl⟩ := isBoolL_cons h
    cases k with
    | cons k1 k2 =>
      cases k1
      obtain ⟨e1, e2⟩ := bools_of (b := b) q k2
      refine ⟨by rw [e1]; rfl, ?_⟩
      rw [List.countP_cons, List.count_cons, e2]; rfl
theorem count_sim {a : Addr} {ws : Array Value} {c : Nat} {xs : List V} {bs : List Bool} {b : Bool} (H : HR W s.heap io m) (h1 : s.heap.get? a = some (lstO ws c)) (h2 : VRs W s.heap io xs ws.toList) (hb : isBoolL xs = some bs) :
    Si W [] A fs (VP W) (call (.builtin "list.count") [.ref a, .bool b]) s io m (.ok (.int (bs.count b)) m) := by
  obtain ⟨e1, e2⟩ := bools_of (b := b) hb h2
  refine fun _ => call_meets PySem.F.slot_list_count ⟨_, h1, rfl⟩ PySem.F.entry_list_count (PySem.F.args_list_count_2 _ _) (PySem.SeqAt.list_countAt a ws c none #[] (.bool b) (eqT b)) ⟨h1, fun y hy => ?_, ?_⟩
  · have hy : y ∈ ws.toList := by simpa using hy
    rw [e1] at hy
    obtain ⟨d, _, rfl⟩ := List.mem_map.1 hy
    exact PySem.SeqAt.EqAt.bool_bool d b
  · rw [e2]
    exact np_val H (.int _ _)
theorem idx_facts (b : Bool) : ∀ bs : List Bool, bs.contains b = true → bs[bs.idxOf b]? = some b ∧ ∀ (k : Nat) (d : Bool), k < bs.idxOf b → bs[k]? = some d → (d == b) = false
  | [], h => by simp at h
  | x :: bs, h => by
    rw [List.idxOf_cons]
    cases q : x == b with
    | true =>
      refine ⟨by rw [cond_true]; exact congrArg some (eq_of_beq q), fun k d hk => absurd hk (Nat.not_lt_zero _)⟩
    | false =>
      have h' : bs.contains b = true := by
        have : (b == x) = false := by cases x <;> cases b <;> first | rfl | (cases q)
        rw [List.contains_cons, this, Bool.false_or] at h; exact h
      obtain ⟨h1, h2⟩ := idx_facts b bs h'
      refine ⟨by simpa using h1, fun k d hk hd => ?_⟩
      cases k with
      | zero => have : x = d := by simpa using hd
                rw [← this]; exact q
      | succ k => exact h2 k d (by simpa using hk) (by simpa using hd)
theorem index_sim {a : Addr} {ws : Array Value} {c : Nat} {xs : List V} {bs : List Bool} {b : Bool} (H : HR W s.heap io m) (h1 : s.heap.get? a = some (lstO ws c)) (h2 : VRs W s.heap io xs ws.toList) (h3 : xs.length ≤ lid) (hb : isBoolL xs = some bs) (hc : bs.contains b = true) :
    Si W [] A fs (VP W) (call (.builtin "list.index") [.ref a, .bool b]) s io m (.ok (.int (bs.idxOf b)) m) := by
  obtain ⟨e1, _⟩ := bools_of (b := b) hb h2
  obtain ⟨f1, f2⟩ := idx_facts b bs hc
  have hj : bs.idxOf b < bs.length := (List.getElem?_eq_some_iff.mp f1).1
  have hsz : ws.size = bs.length := by rw [← Array.length_toList, e1, List.length_map]
  have hsz2 : ws.size = xs.length := h2.size
  have get : ∀ (k : Nat) (hk : k < ws.size), ∃ d, bs[k]? = some d ∧ ws[k] = .bool d := by
    intro k hk
    have hk' : k < bs.length := by omega
    refine ⟨bs[k], List.getElem?_eq_getElem hk', ?_⟩
    have : ws.toList[k]? = some (.bool bs[k]) := by rw [e1, List.getElem?_map, List.getElem?_eq_getElem hk']; rfl
    rw [Array.getElem?_toList, Array.getElem?_eq_getElem hk] at this
    exact Option.some.inj this
  refine fun _ => call_meets PySem.F.slot_list_index ⟨_, h1, rfl⟩ PySem.F.entry_list_index (PySem.F.args_list_index_2 _ _) (PySem.SeqAt.list_indexAt a ws c none #[] (.bool b) (eqT b) (bs.idxOf b) (by omega) (by have : lid = 4194304 := rfl; omega) ?_ ?_) ⟨h1, fun y hy => ?_, ?_⟩
  · obtain ⟨d, g1, g2⟩ := get (bs.idxOf b) (by omega)
    rw [g2]; rw [f1] at g1; cases g1; exact beq_self_eq_true b
  · intro k hk hlt
    obtain ⟨d, g1, g2⟩ := get k hk
    rw [g2]; exact f2 k d hlt g1
  · have hy : y ∈ ws.toList := by simpa using hy
    rw [e1] at hy
    obtain ⟨d, _, rfl⟩ := List.mem_map.1 hy
    exact PySem.SeqAt.EqAt.bool_bool d b
  · exact np_val H (.int _ _)
theorem smH_of {k : Nat} {sm : Sm} (h : smH k sm = true) : (k = 0 ∧ sm = .append) ∨ (k = 2 ∧ sm = .join) ∨ (k = 0 ∧ sm = .count) ∨ (k = 0 ∧ sm = .index) := by
  unfold smH at h
  split at h <;> first | (exact .inl ⟨rfl, rfl⟩) | (exact .inr (.inl ⟨rfl, rfl⟩)) | (exact .inr (.inr (.inl ⟨rfl, rfl⟩))) | (exact .inr (.inr (.inr ⟨rfl, rfl⟩))) | cases h
theorem sm_at {q : Nat} {n : Sm} {vs : List V} {o : Option MObj} (hm : m[q]? = o) : smethV 0 (.ref q) n vs m = (match (generalizing := false) o with | some (.list xs) => listM q xs n vs m | _ => .bad) := by subst hm; rfl
theorem sm_list {o : V} {n : Sm} {vs : List V} {u : Value} {t : Sem Value} (kx : VR W s.heap io o u) (h : ∀ (q : Nat) (a d : Addr) (xs : List V), o = .ref q → u = .ref a → io[q]? = some (a, d) → m[q]? = some (.list xs) → Si W [] A fs (VP W) t s io m (listM q xs n vs m)) : Si W [] A fs (VP W) t s io m (smethV 0 o n vs m) := by
  cases kx with
  | @ref q a d hi =>
    cases hm : m[q]? with
    | none => rw [sm_at hm]; exact .bad
    | some o =>
      rw [sm_at hm]
      cases o with
      | list xs => exact h q a d xs rfl rfl hi hm
      | _ => exact .bad
  | _ => exact .bad
theorem sm_sim {k : Nat} {sm : Sm} (hH : smH k sm = true) (H : HR W s.heap io m) {x : V} {u : Value} {vs : List V} {us : List Value} (kx : VR W s.heap io x u) (hu : VRs W s.heap io vs us) :
    Si W [] A fs (VP W) (call (.builtin (smId k sm)) (u :: us)) s io m (smethV k x sm vs m) := by
  rcases smH_of hH with ⟨rfl, rfl⟩ | ⟨rfl, rfl⟩ | ⟨rfl, rfl⟩ | ⟨rfl, rfl⟩
  · refine sm_list kx fun q a d xs ho hu' hi hm => ?_
    subst ho; subst hu'
    obtain ⟨_, ws, c, h1, h2, h3⟩ := H.obj _ _ _ hi hm
    cases hu with
    | nil => exact .bad
    | cons k1 k2 =>
      cases k2 with
      | cons _ _ => exact .bad
      | nil =>
        show Si W [] A fs (VP W) _ s io m (if xs.length < lid then _ else _)
        split
        · rename_i hl
          refine fun _ => wpAny_list_append_plain ⟨c, h1⟩ (fun h' ⟨c', hD⟩ hs => ?_) (by rw [h2.size]; exact sizeLine_lid h3)
          exact np_setList (tk := s.toks) H hi hm hs hD (by rw [Array.toList_push]; exact h2.snoc k1) (by simp; omega) fun _ => .none
        · exact .bad
  · cases kx with
    | str z tz hz =>
      cases hu with
      | nil => exact .bad
      | cons k1 k2 =>
        cases k2 with
        | cons _ _ => exact .bad
        | nil =>
          cases k1 with
          | @ref q a d hi =>
            show Si W [] A fs (VP W) _ s io m (match m[q]? with | some (.list xs) => (match isStrL xs with | some l => if sumLen z l ≤ lid then .ok (.str (joinS z l)) m else .bad | Option.none => .bad) | _ => .bad)
            cases hm : m[q]? with
            | none => exact .bad
            | some o =>
              cases o with
              | list xs =>
                cases hl : isStrL xs with
                | none => show Si W [] A fs (VP W) _ s io m (match isStrL xs with | some l => if sumLen z l ≤ lid then .ok (.str (joinS z l)) m else .bad | Option.none => .bad); rw [hl]; exact .bad
                | some l =>
                  show Si W [] A fs (VP W) _ s io m (match isStrL xs with | some l => if sumLen z l ≤ lid then .ok (.str (joinS z l)) m else .bad | Option.none => .bad)
                  rw [hl]
                  show Si W [] A fs (VP W) _ s io m (if sumLen z l ≤ lid then .ok (.str (joinS z l)) m else .bad)
                  by_cases hlen : sumLen z l ≤ lid
                  · rw [if_pos hlen]
                    obtain ⟨_, ws, c, h1, h2, h3⟩ := H.obj _ _ _ hi hm
                    obtain ⟨ts, e1, e2, e3⟩ := texts_of (s := s) hl h2
                    have htl : Builtin.Str.tooLong ((ts.map (·.1)).toArray.foldl (· + ·.length + z.length) 0) = false := by
                      rw [e2]
                      have : sizeLine = 16777216 := sizeLine_eq
                      have q : (l.toArray.foldl (· + ·.length + z.length) 0) = sumLen z l := by simp [sumLen]
                      rw [q]
                      unfold Builtin.Str.tooLong
                      have : lid = 4194304 := rfl
                      simp; omega
                    refine fun _ => call_meets PySem.F.slot_str_join (typeIs_str _ _ _) PySem.F.entry_str_join (PySem.F.args_str_join_2 _ _) (meets_str_join_list z tz a ts htl) ⟨⟨_, h1, rfl, c, ?_⟩, post_join ts ⟨joinFit_length htl, fun t' k' => ?_⟩⟩
                    · show Data.seq ws c = _
                      rw [← e1, Array.toArray_toList]
                    · rw [e2, glued_eq]
                      exact np_val H (.str _ _ (joinS_ok hz e3))
                  · rw [if_neg hlen]; exact .bad
              | _ => exact .bad
          | _ => exact .bad
    | _ => exact .bad
  · refine sm_list kx fun q a d xs ho hu' hi hm => ?_
    subst ho; subst hu'
    obtain ⟨_, ws, c, h1, h2, h3⟩ := H.obj _ _ _ hi hm
    cases hu with
    | nil => exact .bad
    | cons k1 k2 =>
      cases k2 with
      | cons _ _ => exact .bad
      | nil =>
        cases k1 with
        | bool b =>
          cases hb : isBoolL xs with
          | none => show Si W [] A fs (VP W) _ s io m (match isBoolL xs with | some bs => .ok (.int (bs.count b)) m | Option.none => .bad); rw [hb]; exact .bad
          | some bs =>
            show Si W [] A fs (VP W) _ s io m (match isBoolL xs with | some bs => .ok (.int (bs.count b)) m | Option.none => .bad)
            rw [hb]; exact count_sim H h1 h2 hb
        | _ => exact .bad
  · refine sm_list kx fun q a d xs ho hu' hi hm => ?_
    subst ho; subst hu'
    obtain ⟨_, ws, c, h1, h2, h3⟩ := H.obj _ _ _ hi hm
    cases hu with
    | nil => exact .bad
    | cons k1 k2 =>
      cases k2 with
      | cons _ _ => exact .bad
      | nil =>
        cases k1 with
        | bool b =>
          cases hb : isBoolL xs with
          | none => show Si W [] A fs (VP W) _ s io m (match isBoolL xs with | some bs => if bs.contains b then .ok (.int (bs.idxOf b)) m else .bad | Option.none => .bad); rw [hb]; exact .bad
          | some bs =>
            show Si W [] A fs (VP W) _ s io m (match isBoolL xs with | some bs => if bs.contains b then .ok (.int (bs.idxOf b)) m else .bad | Option.none => .bad)
            rw [hb]
            show Si W [] A fs (VP W) _ s io m (if bs.contains b = true then .ok (.int (bs.idxOf b)) m else .bad)
            by_cases hc : bs.contains b = true
            · rw [if_pos hc]; exact index_sim H h1 h2 h3 hb hc
            · rw [if_neg hc]; exact .bad
        | _ => exact .bad
end
end Mini

/-! Method calls, stores by key, displays. -/
namespace Mini
open PySem PySem.W PyProof.Rows

noncomputable def noSuper : Expr → Bool
  | .Call (.Name _ _) [] [] _ => false
  | _ => true

section
variable {W : Wd} {K : Frag} {h h' h₀ : Heap} {fs : List Env} {env : Env} {vis : List (Option Str)} {s s' s₀ : Shared} {io io' io₀ : Io} {m m' m₀ : MH} {r r' : Lo} {fr fr' own own' : List Addr} {A : Around} {n : Nat} {pos p apos : Pos}

theorem base_of {o : Expr} {name : Str} (h : noSuper o = true) : attributeBase o name env (eval o env) = eval o env := by
  cases o <;> first | rfl | skip
  rename_i f es kws pos
  cases f <;> first | rfl | skip
  cases es <;> first | rfl | skip
  cases kws <;> first | rfl | (exact no_tf h)

theorem plain_all {es : List Expr} (h : noStar es = true) : (backTo pos (starEach es env)).all (fun x => !x.1) = true := by
  induction es with
  | nil => rfl
  | cons e rest ih => rw [star_cons h]; exact ih (noStar_tail h)

theorem sm_slot (k : Nat) (sm : Sm) (h : smH k sm = true) : PlainAttrs (smType k) ∧ Slot (smType k) (Str.ofString (smName sm)) (smId k sm) ∧ typeOf (.builtin (smId k sm)) = Pure.pure (.type "method_descriptor") := by
  rcases smH_of h with ⟨rfl, rfl⟩ | ⟨rfl, rfl⟩ | ⟨rfl, rfl⟩ | ⟨rfl, rfl⟩
  · exact ⟨PySem.F.plainAttrs_list, slot_list_append, type_list_append⟩
  · exact ⟨PySem.F.plainAttrs_str, PySem.F.slot_str_join, PySem.F.type_str_join⟩
  · exact ⟨PySem.F.plainAttrs_list, PySem.F.slot_list_count, PySem.F.type_list_count⟩
  · exact ⟨PySem.F.plainAttrs_list, PySem.F.slot_list_index, PySem.F.type_list_index⟩
theorem Si.res {α β : Type} {P : Heap → Io → α → β → Prop} {t : Sem β} {R R' : Res α} (x : Si W own A fs P t s io m R) (e : R' = R) : Si W own A fs P t s io m R' := e ▸ x

theorem e_smeth {o : Expr} {es : List Expr} {sm : Sm} {co : Lo → Mn V} {cl : Lo → Mn (List V)} (hb : noSuper o = true) (hs : noStar es = true) (hfew : es.length < 29) (hline : (apos.endLine == pos.line) = true) (ho : SiE W A fs env vis (eval o env) co) (hl : SiL W A fs env vis (spliced (backTo pos (starEach es env))) cl) :
    SiE W A fs env vis (eval (.Call (.Attribute o (Str.ofString (smName sm)) apos) es [] pos) env) (fun r => bnd (co r) fun x => fun m => match smK x m with | some k => if smH k sm then bnd (cl r) (fun vs => smethV k x sm vs) m else .bad | none => .bad) := by
  intro s io m r Z hne
  dsimp only at hne ⊢
  refine wpAny_Call_method_late (base_of hb) ?_ hline rfl ?_
  · rw [plain_all hs]; rw [arm_keywordEach_nil]; simp [backToKw]; omega
  refine wpAny_mono (ho s io m r Z (Res.bind_ne hne)) (fun ov s₁ q => ?_) fun _ _ q => q.bind .refl (.refl _)
  refine hide fun GOAL hGOAL => ?_
  obtain ⟨x, m₁, io₁, e1, st, H₁, kx, sm₁⟩ := q
  refine hGOAL ?_
  clear hGOAL GOAL
  have ee : ∀ f : V → Mn V, bnd (co r) f m = f x m₁ := fun f => by show (co r m).bind _ = _; rw [e1]; rfl
  rw [ee] at hne ⊢
  cases hk : smK x m₁ with
  | none => rw [hk] at hne; exact absurd rfl hne
  | some k =>
    rw [hk] at hne
    dsimp only at hne ⊢
    by_cases hH : smH k sm = true
    · rw [if_pos hH] at hne ⊢
      have Z₁ := Z.step H₁ st
      -- the owner's type
      have ty : s₁.TypeIs ov (smType k) ∧ (∀ a, ov = .ref a → ∃ ob, s₁.heap.get? a = some ob ∧ ob.dict = none) := by
        cases kx with
        | @ref q a d hi =>
          simp only [smK] at hk
          split at hk
          · rename_i xs hm
            cases hk
            refine hide fun GOAL hGOAL => ?_
            obtain ⟨_, ws, c, h1, _⟩ := H₁.obj _ _ _ hi hm
            refine hGOAL ?_
            clear hGOAL GOAL
            exact ⟨⟨_, h1, rfl⟩, fun b e => by cases e; exact ⟨_, h1, rfl⟩⟩
          · rename_i kvs e hm
            cases hk
            refine hide fun GOAL hGOAL => ?_
            obtain ⟨_, o', es', c, h1, h2, _⟩ := H₁.obj _ _ _ hi hm
            refine hGOAL ?_
            clear hGOAL GOAL
            exact ⟨⟨_, h1, h2.1⟩, fun b e => by cases e; exact ⟨_, h1, h2.2.1⟩⟩
          · cases hk
        | str x t hx => cases hk; exact ⟨typeIs_str _ _ _, fun _ e => nomatch e⟩
        | none => cases hk
        | bool b => cases hk
        | int i t => cases hk
        | fn k => cases hk
        | tup => cases hk
        | exc => cases hk
        | scr => cases hk
      have call : wpAny (model W.prog W.w) A (callWith pos (.builtin (smId k sm)) [ov] (backTo pos (starEach es env)) []) (NP W [] (frs fs) s io m (VP W) (bnd (cl r) (fun vs => smethV k x sm vs) m₁)) (XP W [] fs s io m (bnd (cl r) (fun vs => smethV k x sm vs) m₁)) s₁ := by
        refine Calls.callWith_builtin (plain_of hs) (args_of hs ?_)
        refine wpAny_mono (hl s₁ io₁ m₁ r Z₁ (Res.bind_ne hne)) (fun us s₂ q => ?_) fun _ _ q => (q.mono st sm₁).bind .refl (.refl _)
        refine hide fun GOAL hGOAL => ?_
        obtain ⟨vs, m₂, io₂, e2, st2, H2, kv, sm2⟩ := q
        refine hGOAL ?_
        clear hGOAL GOAL
        have ee2 : bnd (cl r) (fun vs => smethV k x sm vs) m₁ = smethV k x sm vs m₂ := by show (cl r m₁).bind _ = _; rw [e2]; rfl
        rw [ee2] at hne ⊢
        exact wpAny_mono (sm_sim hH H2 (VR.step st2 kx) kv hne) (fun _ _ z => z.mono (st.trans st2) (sm₁.trans sm2)) fun _ _ z => z.mono (st.trans st2) (sm₁.trans sm2)
      refine hide fun GOAL hGOAL => ?_
      obtain ⟨p1, p2, p3⟩ := sm_slot k sm hH
      refine hGOAL ?_
      clear hGOAL GOAL
      exact ⟨_, _, p1, p2, p3, ty.1, ty.2, call⟩
    · rw [if_neg hH] at hne; exact absurd rfl hne

/-! ### stores by key -/
theorem put_sim (R : AR A fs n) (H : HR W s.heap io m) {x y v : V} {u iu vu : Value} (kx : VR W s.heap io x u) (ky : VR W s.heap io y iu) (kv : VR W s.heap io v vu) : Si W own A fs (fun _ _ (_ _ : Unit) => True) (setItem u iu vu) s io m (putIdx x y v m) := by
  have bad : ∀ {R : Res Unit}, R = .bad → Si W own A fs (fun _ _ (_ _ : Unit) => True) (setItem u iu vu) s io m R := fun e => e ▸ .bad
  cases kx with
  | @ref q a d hi =>
    cases hm : m[q]? with
    | none => exact bad (by unfold putIdx; dsimp only; rw [hm])
    | some o =>
      cases o with
      | inst c fls => exact bad (by unfold putIdx; dsimp only; rw [hm])
      | dict kvs e =>
        have ee : putIdx (.ref q) y v m = match toKey y with | some k => if sorted1 k kvs && kvs.length < lid then .ok () (m.set q (.dict (put k v kvs) (e + 1))) else .bad | Option.none => .bad := by unfold putIdx; dsimp only; rw [hm] <;> rfl
        refine Si.res ?_ ee
        cases hk : toKey y with
        | none => exact .bad
        | some k =>
          dsimp only
          by_cases hc : (sorted1 k kvs && decide (kvs.length < lid)) = true
          · refine Si.res ?_ (if_pos hc)
            obtain ⟨h1, h2⟩ := Bool.and_eq_true_iff.mp hc
            exact set_dict H R hi hm ky kv hk h1 (of_decide_eq_true h2)
          · exact Si.res .bad (if_neg hc)
      | list xs => exact bad (by unfold putIdx; dsimp only; rw [hm])
  | _ => exact bad rfl

theorem a_idx {o i : Expr} {co ci : Lo → Mn V} (R : AR A (env :: fs) n) (ho : SiE W A (env :: fs) env vis (eval o env) co) (hi : SiE W A (env :: fs) env vis (eval i env) ci) : SiA W A fs env vis (.Subscript o i pos) (fun v r => bnd (co r) fun x => bnd (ci r) fun y => bnd (putIdx x y v) fun _ => ret r) := by
  intro s io m r v u Z k
  rw [arm_assign_Subscript]
  refine Si.bindE (Si.holding (ho s io m r Z.sit)) fun ov s₁ io₁ m₁ x _ st₁ H₁ kx sm₁ => ?_
  have Z₁ := Z.step H₁ st₁
  refine Si.bindE (Si.holding (hi s₁ io₁ m₁ r Z₁.sit)) fun iv s₂ io₂ m₂ y _ st₂ H₂ ky sm₂ => .standAt ?_
  have Z₂ := Z₁.step H₂ st₂
  refine Si.bindE (Si.holding (put_sim R H₂ (VR.step st₂ kx) ky ((VR.step st₁ k).step st₂))) fun _ s₃ io₃ m₃ _ _ st₃ H₃ _ sm₃ => ?_
  exact fun _ => wpAny_release ⟨r, m₃, io₃, rfl, .refl, H₃, Z₂.F.step0 Z₂.H st₃, .refl _⟩

/-! ### displays -/
theorem e_dict0 : SiE W A fs env vis (eval (.Dict [] [] pos) env) (fun _ => alloc (.dict [] 0)) := by
  intro s io m r Z
  exact fun _ => wpAny_Dict_empty (np_dict (tk := s.toks) Z.H)

/-! ### list(range(..)) -/
end
end Mini

/-! Two items of lists take the parts of a pair. -/
namespace Mini
open PySem PySem.W
section
variable {W : Wd} {fs : List Env} {env : Env} {vis : List (Option Str)} {A : Around} {n : Nat} {pos p p' : Pos}
end
end Mini

/-! How many different whole numbers a list holds. -/
namespace Mini
open PySem PySem.W PyProof.Rows
section
variable {W : Wd} {K : Frag} {fs : List Env} {env : Env} {vis : List (Option Str)} {s : Shared} {io : Io} {m : MH} {r : Lo} {A : Around} {pos p : Pos}
end
end Mini

/-! Instances: fields, methods, new ones. -/
namespace Mini
open PySem PySem.W PyProof.Rows

section
variable {W : Wd} {K : Frag} {h h' h₀ : Heap} {fs : List Env} {env : Env} {vis : List (Option Str)} {s s' s₀ : Shared} {io io' io₀ : Io} {m m' m₀ : MH} {r r' : Lo} {fr fr' own own' : List Addr} {A : Around} {n : Nat} {pos p apos : Pos}

theorem handed_of {v : V} {u : Value} (k : VR W h io v u) : handedOut u = Pure.pure u := by cases k <;> rfl
theorem inst_of {a d : Addr} {c : Nat} {mA : Str → Option Value} (hne : a ≠ d) (h1 : h.get? a = some (instO (W.ca c) d)) (h2 : h.Ns1 d mA) : h.Inst a (W.ca c) mA :=
  ⟨_, h1, rfl, (fun _ q => by cases q), .inr ⟨d, rfl, fun q => hne q.symm, h2⟩⟩
/-- the field of an instance -/
theorem attr_sim {v : V} {u : Value} {k : Nat} {x : Str} (hx : W.S.attrs[k]? = some x) (hf : ∀ (c : Nat) (D : ClsD), W.S.cls[c]? = some D → D.meths.lookup k = none) (H : HR W s.heap io m) (kv : VR W s.heap io v u) : Si W own A fs (VP W) (getAttr u x true) s io m (attrV v k m) := by
  intro hne
  have bad : attrV v k m = .bad → False := hne
  cases kv with
  | @ref q a d hi =>
    cases hm : m[q]? with
    | none => exact (bad (by unfold attrV; dsimp only; rw [hm])).elim
    | some o =>
      cases o with
      | list xs => exact (bad (by unfold attrV; dsimp only; rw [hm])).elim
      | dict kvs e => exact (bad (by unfold attrV; dsimp only; rw [hm])).elim
      | inst c fls =>
        have ea : attrV (.ref q) k m = ofO (fget k fls) m := by unfold attrV; dsimp only; rw [hm]
        rw [ea] at hne ⊢
        cases hg : fget k fls with
        | none => rw [hg] at hne; exact absurd rfl hne
        | some w =>
          refine hide fun GOAL hGOAL => ?_
          obtain ⟨e1, mA, h1, h2, h3, D, N, mN, C⟩ := H.obj _ _ _ hi hm
          refine hGOAL ?_
          clear hGOAL GOAL
          obtain ⟨x', u', ex', hu, kw⟩ := h3.2 k w hg
          rw [hx] at ex'
          cases ex'
          obtain ⟨nm, qn, bs, sn, sub, col, dd, k0, k1, k2, k3, k5, hC⟩ := C.obj
          have hna : mN x = none := by rw [C.has k x hx, hf c D C.dat]; rfl
          exact load_attr (H.keep _ _ hC) (C.ns.keeps H.keep) C.ga hna (C.low k x hx) (inst_of e1 h1 h2) hu (handed_of kw) ⟨w, m, io, rfl, .refl, H, kw, .refl _⟩
  | none => exact (bad rfl).elim
  | bool b => exact (bad rfl).elim
  | int i t => exact (bad rfl).elim
  | str y t hy => exact (bad rfl).elim
  | fn k => exact (bad rfl).elim
  | tup => exact (bad rfl).elim
  | exc => exact (bad rfl).elim
  | scr => exact (bad rfl).elim
theorem e_attr {o : Expr} {x : Str} {k : Nat} {ca : Lo → Mn V} (hb : noSuper o = true) (hx : W.S.attrs[k]? = some x) (hf : ∀ (c : Nat) (D : ClsD), W.S.cls[c]? = some D → D.meths.lookup k = none) (ho : SiE W A fs env vis (eval o env) ca) :
    SiE W A fs env vis (eval (.Attribute o x apos) env) (fun r => bnd (ca r) fun v => attrV v k) := by
  intro s io m r Z
  refine Si.res (R := (ca r m).bind fun v => attrV v k) ?_ rfl
  intro hne
  refine Attribute_any_ ?_ (by rw [arm_eval_Attribute, base_of hb])
  refine wpAny_mono (ho s io m r Z (Res.bind_ne hne)) (fun u s₁ q => ?_) fun _ _ q => q.bind .refl (.refl _)
  obtain ⟨v, m₁, io₁, e1, st, H₁, kv, sm⟩ := q
  have ee : (ca r m).bind (fun v => attrV v k) = attrV v k m₁ := by rw [e1]; rfl
  rw [ee] at hne ⊢
  exact wpAny_mono (attr_sim (own := []) (fs := fs) hx hf H₁ kv hne) (fun _ _ z => z.mono st sm) fun _ _ z => z.mono st sm
theorem fget_put {k j : Nat} {v : V} : ∀ {fls : List (Nat × V)}, fget j (fput k v fls) = if j = k then some v else fget j fls
  | [] => by
    show (if k = j then some v else none) = _
    by_cases q : j = k
    · rw [if_pos q, if_pos q.symm]
    · rw [if_neg q, if_neg (fun z => q z.symm)]; rfl
  | (i, w) :: fls => by
    show fget j (if i = k then (i, v) :: fls else (i, w) :: fput k v fls) = _
    by_cases z : i = k
    · rw [if_pos z]
      subst z
      show (if i = j then some v else fget j fls) = if j = i then some v else if i = j then some w else fget j fls
      by_cases q : j = i
      · rw [if_pos q, if_pos q.symm]
      · rw [if_neg q, if_neg (fun z => q z.symm), if_neg (fun z => q z.symm)]
    · rw [if_neg z]
      show (if i = j then some w else fget j (fput k v fls)) = if j = k then some v else if i = j then some w else fget j fls
      rw [fget_put]
      by_cases q : i = j
      · rw [if_pos q, if_neg (fun e => z (q.trans e)), if_pos q]
      · rw [if_neg q, if_neg q]
theorem FEs.put {fls : List (Nat × V)} {mA : Str → Option Value} {k : Nat} {x : Str} {v : V} {u : Value} (e : FEs W h io fls mA) (hx : W.S.attrs[k]? = some x) (hu : ∀ (i j : Nat) (x : Str), W.S.attrs[i]? = some x → W.S.attrs[j]? = some x → i = j) (kv : VR W h io v u) :
    FEs W h io (fput k v fls) (fun y => if y = x then some u else mA y) := by
  constructor
  · intro y w q
    by_cases z : y = x
    · subst z
      have q' : some u = some w := by rw [← q]; exact (if_pos rfl).symm
      cases q'
      exact ⟨k, v, hx, by rw [fget_put, if_pos rfl], kv⟩
    · have q' : mA y = some w := by rw [← q]; exact (if_neg z).symm
      obtain ⟨i, w', a, b, c⟩ := e.1 y w q'
      refine ⟨i, w', a, ?_, c⟩
      rw [fget_put, if_neg (fun ik => ?_)]
      · exact b
      · subst ik; rw [hx] at a; cases a; exact z rfl
  · intro i w q
    rw [fget_put] at q
    by_cases z : i = k
    · rw [if_pos z] at q
      cases q
      subst z
      exact ⟨x, u, hx, if_pos rfl, kv⟩
    · rw [if_neg z] at q
      obtain ⟨y, w', a, b, c⟩ := e.2 i w q
      refine ⟨y, w', a, ?_, c⟩
      show (if y = x then some u else mA y) = some w'
      rw [if_neg (fun yx => ?_)]
      · exact b
      · subst yx; exact z (hu i k y a hx)
theorem within_of {fls : List (Nat × V)} {mA : Str → Option Value} (e : FEs W h io fls mA) : Within mA W.S.attrs := by
  intro y hy
  cases q : mA y with
  | none => exact absurd q hy
  | some u =>
    obtain ⟨i, v, a, _⟩ := e.1 y u q
    exact List.mem_of_getElem? a
/-- a field is set -/
theorem setattr_sim {v y : V} {u w : Value} {k : Nat} {x : Str} (hx : W.S.attrs[k]? = some x) (hf : ∀ (c : Nat) (D : ClsD), W.S.cls[c]? = some D → D.meths.lookup k = none) (H : HR W s.heap io m) (kv : VR W s.heap io v u) (ky : VR W s.heap io y w) : Si W own A fs (fun _ _ (_ _ : Unit) => True) (setAttr u x w) s io m (putAttr v k y m) := by
  intro hne
  have bad : putAttr v k y m = .bad → False := hne
  cases kv with
  | @ref q a d hi =>
    cases hm : m[q]? with
    | none => exact (bad (by unfold putAttr; dsimp only; rw [hm])).elim
    | some o =>
      cases o with
      | list xs => exact (bad (by unfold putAttr; dsimp only; rw [hm])).elim
      | dict kvs e => exact (bad (by unfold putAttr; dsimp only; rw [hm])).elim
      | inst c fls =>
        have ea : putAttr (.ref q) k y m = .ok () (m.set q (.inst c (fput k y fls))) := by unfold putAttr; dsimp only; rw [hm]
        rw [ea]
        refine hide fun GOAL hGOAL => ?_
        obtain ⟨e1, mA, h1, h2, h3, D, N, mN, C⟩ := H.obj _ _ _ hi hm
        refine hGOAL ?_
        clear hGOAL GOAL
        obtain ⟨nm, qn, bs, sn, sub, col, dd, k0, k1, k2, k3, k5, hC⟩ := C.obj
        have hna : mN x = none := by rw [C.has k x hx, hf c D C.dat]; rfl
        have hac : a ≠ W.ca c := fun q => by
          have := H.fresh a ⟨_, List.mem_of_getElem? hi, .inl rfl⟩
          rw [q, hC] at this; cases this
        refine store_attr F.store_object (H.keep _ _ hC) (C.ns.keeps H.keep) C.sa hna (C.low k x hx) hac (inst_of e1 h1 h2) (fun h' tk' I' hk hsame => ?_) (within_of h3) (Nat.le_trans C.few (by decide))
        obtain ⟨o₁, g1, c1, c2, c3, c4⟩ := hsame _ h1
        have eo : o₁ = instO (W.ca c) d := by
          obtain ⟨oc, od, odt, osl⟩ := o₁
          have c4' := c4 d rfl
          dsimp only at c1 c2 c3 c4'
          rw [c1, c2, c3, c4']
        rw [eo] at g1
        obtain ⟨o₂, g2, _, _, hd⟩ := I'
        rw [g1] at g2
        cases g2
        rcases hd with ⟨q, _⟩ | ⟨d', ed, _, hns⟩
        · cases q
        cases ed
        have hk' : ∀ b o, b ≠ a → b ≠ d → s.heap.get? b = some o → h'.get? b = some o := fun b o n1 n2 e => hk b o n1 (fun o₀ dx e0 e2 => by rw [h1] at e0; cases e0; cases e2; exact n2) e
        have hd' : ∃ o', h'.get? d = some o' := let ⟨o', _, _, e, _⟩ := hns; ⟨o', e⟩
        have st : Step own (frs fs) s.heap io m h' io (m.set q (.inst c (fput k y fls))) := step_set H hi hm hk' ⟨_, g1⟩ hd' (fun _ _ q => by cases q)
        exact ⟨(), _, io, rfl, st, H.set hi hm hk' (fun _ _ q => by cases q) ⟨_, g1⟩ hd' ⟨e1, _, g1, hns, (h3.step st).put hx C.uniq (ky.step st), D, N, mN, C⟩, trivial, rfl, rfl⟩
  | none => exact (bad rfl).elim
  | bool b => exact (bad rfl).elim
  | int i t => exact (bad rfl).elim
  | str y t hy => exact (bad rfl).elim
  | fn k => exact (bad rfl).elim
  | tup => exact (bad rfl).elim
  | exc => exact (bad rfl).elim
  | scr => exact (bad rfl).elim
theorem a_attr {o : Expr} {x : Str} {k : Nat} {co : Lo → Mn V} (hx : W.S.attrs[k]? = some x) (hf : ∀ (c : Nat) (D : ClsD), W.S.cls[c]? = some D → D.meths.lookup k = none) (ho : SiE W A (env :: fs) env vis (eval o env) co) : SiA W A fs env vis (.Attribute o x pos) (fun v r => bnd (co r) fun y => bnd (putAttr y k v) fun _ => ret r) := by
  intro s io m r v u Z kv
  rw [arm_assign_Attribute]
  refine Si.bindE (Si.holding (ho s io m r Z.sit)) fun ov s₁ io₁ m₁ y _ st₁ H₁ ky sm₁ => .standAt ?_
  have Z₁ := Z.step H₁ st₁
  refine Si.bindE (Si.holding (setattr_sim hx hf H₁ ky (VR.step st₁ kv))) fun _ s₃ io₃ m₃ _ _ st₃ H₃ _ sm₃ => ?_
  exact fun _ => wpAny_release ⟨r, m₃, io₃, rfl, .refl, H₃, Z₁.F.step0 Z₁.H st₃, .refl _⟩
theorem e_meth {o : Expr} {x : Str} {k : Nat} {es : List Expr} {co : Lo → Mn V} {cl : Lo → Mn (List V)} {F : Nat → List V → Mn V} (gl : Gl W K) (hb : noSuper o = true) (hs : noStar es = true) (hfew : es.length < 29) (hline : (apos.endLine == pos.line) = true) (hx : W.S.attrs[k]? = some x)
    (hobj : ∀ j, j < W.S.fns.length → ∃ ob fd, K.lookup (W.fa j) = some ob ∧ ob.data = .func fd ∧ ob.cls = .type "function") (hF : ∀ j, j < W.S.fns.length → SiF W A fs (.ref (W.fa j)) (F j))
    (ho : SiE W A fs env vis (eval o env) co) (hl : SiL W A fs env vis (spliced (backTo pos (starEach es env))) cl) :
    SiE W A fs env vis (eval (.Call (.Attribute o x apos) es [] pos) env) (fun r => bnd (co r) fun v => bnd (methK W.S k v) fun j => bnd (cl r) fun vs => F j (v :: vs)) := by
  intro s io m r Z hne
  dsimp only at hne ⊢
  rw [arm_eval_Call, base_of hb]
  refine wpAny_bind (wpAny_mono (ho s io m r Z (Res.bind_ne hne)) (fun u s₁ q => ?_) fun _ _ q => q.bind .refl (.refl _))
  obtain ⟨v, m₁, io₁, e1, st, H₁, kv, sm⟩ := q
  have ee : ∀ f : V → Mn V, bnd (co r) f m = f v m₁ := fun f => by show (co r m).bind _ = _; rw [e1]; rfl
  rw [ee] at hne ⊢
  refine wpAny_bind (wpAny_standAt ?_)
  have hform : methodCallForm (es.length + ([] : List Keyword).length) (backTo pos (starEach es env)) (backToKw pos (keywordEach [] env)) = true := by
    unfold methodCallForm
    rw [plain_all hs]; rw [arm_keywordEach_nil]; simp [backToKw]; omega
  have hpos : methodCallPos true o env apos pos = Pure.pure pos := by unfold methodCallPos; rw [hline]; rfl
  unfold methodCall
  rw [hform]
  have bad : methK W.S k v m₁ = .bad → False := fun q => hne (by show (methK W.S k v m₁).bind _ = _; rw [q]; rfl)
  cases kv with
  | @ref q0 a d hi =>
    cases hm : m₁[q0]? with
    | none => exact (bad (by unfold methK; dsimp only; rw [hm])).elim
    | some ob =>
      cases ob with
      | list xs => exact (bad (by unfold methK; dsimp only; rw [hm])).elim
      | dict kvs e => exact (bad (by unfold methK; dsimp only; rw [hm])).elim
      | inst c fls =>
        refine hide fun GOAL hGOAL => ?_
        obtain ⟨g1, mA, h1, h2, h3, D, N, mN, C⟩ := H₁.obj _ _ _ hi hm
        refine hGOAL ?_
        clear hGOAL GOAL
        cases hg : fget k fls with
        | some w => exact (bad (by unfold methK; dsimp only; rw [hm]; dsimp only; rw [C.dat]; dsimp only; rw [hg])).elim
        | none =>
          cases hq : D.meths.lookup k with
          | none => exact (bad (by unfold methK; dsimp only; rw [hm]; dsimp only; rw [C.dat]; dsimp only; rw [hg]; dsimp only; rw [hq]; rfl)).elim
          | some j =>
            have em : methK W.S k (.ref q0) m₁ = .ok j m₁ := by unfold methK; dsimp only; rw [hm]; dsimp only; rw [C.dat]; dsimp only; rw [hg]; dsimp only; rw [hq]; rfl
            have e2 : bnd (methK W.S k (.ref q0)) (fun j => bnd (cl r) fun vs => F j (.ref q0 :: vs)) m₁ = bnd (cl r) (fun vs => F j (.ref q0 :: vs)) m₁ := by show (methK W.S k (.ref q0) m₁).bind _ = _; rw [em]; rfl
            rw [e2] at hne ⊢
            obtain ⟨nm, qn, bs, sn, sub, col, dd, k0, k1, k2, k3, k5, hC⟩ := C.obj
            obtain ⟨fo, fd, f1, f2, f3⟩ := hobj j (C.mlt k j hq)
            have hmn : mN x = some (.ref (W.fa j)) := by rw [C.has k x hx, hq]; rfl
            have hma : mA x = none := by
              cases z : mA x with
              | none => rfl
              | some w =>
                obtain ⟨i', v', a1, a2, _⟩ := h3.1 x w z
                rw [C.uniq i' k x a1 hx, hg] at a2; cases a2
            have Z₁ := Z.step H₁ st
            refine wpAny_bind (wpAny_holding ?_)
            unfold calleeOf
            rw [if_pos rfl]
            refine method_of (H₁.keep _ _ hC) (C.ns.keeps H₁.keep) C.ga C.gh hmn (H₁.get gl f1) f3 (C.low k x hx) (inst_of g1 h1 h2) hma ?_
            refine wpAny_bind (wpAny_of_eq hpos ?_)
            refine Calls.callWith_function (o := fo) (fd := fd) (args_of hs ?_)
            refine wpAny_mono (hl s₁ io₁ m₁ r Z₁ (Res.bind_ne hne)) (fun us s₂ q => ?_) fun _ _ q => (q.mono st sm).bind .refl (.refl _)
            refine hide fun GOAL hGOAL => ?_
            obtain ⟨vs, m₂, io₂, e3, st2, H2, kvs, sm2⟩ := q
            refine hGOAL ?_
            clear hGOAL GOAL
            have ee2 : bnd (cl r) (fun vs => F j (.ref q0 :: vs)) m₁ = F j (.ref q0 :: vs) m₂ := by show (cl r m₁).bind _ = _; rw [e3]; rfl
            rw [ee2] at hne ⊢
            refine ⟨⟨H2.get gl f1, f2⟩, ?_⟩
            exact wpAny_mono (hF j (C.mlt k j hq) _ _ _ _ _ H2 (Z₁.G.step0 st2) (.cons (.ref (st2.io_get hi)) kvs) hne) (fun _ _ z => z.mono (st.trans st2) (sm.trans sm2)) fun _ _ z => z.mono (st.trans st2) (sm.trans sm2)
  | none => exact (bad rfl).elim
  | bool b => exact (bad rfl).elim
  | int i t => exact (bad rfl).elim
  | str y t hy => exact (bad rfl).elim
  | fn k => exact (bad rfl).elim
  | tup => exact (bad rfl).elim
  | exc => exact (bad rfl).elim
  | scr => exact (bad rfl).elim
theorem under_new {C : Addr} {rest : List Value} : A.under (.builtin "type.__call__" ⟨.ref C :: rest, []⟩) = born A := by
  have h1 : (Code.builtin "type.__call__" ⟨.ref C :: rest, []⟩).weight = 1 := by kernel_rfl
  have h2 : (Code.builtin "type.__call__" ⟨.ref C :: rest, []⟩).cUnits = 1 := by kernel_rfl
  have h3 : (Code.builtin "type.__call__" ⟨.ref C :: rest, []⟩).envs = [] := by kernel_rfl
  have h4 : (Code.builtin "type.__call__" ⟨.ref C :: rest, []⟩).guards = [] := by kernel_rfl
  unfold Around.under born
  rw [h1, h2, h3, h4]; rfl
/-- a new instance -/
theorem e_new {x : Str} {c k0 : Nat} {D : ClsD} {N : Addr} {mN : Str → Option Value} {es : List Expr} {cl : Lo → Mn (List V)} {F : Nat → List V → Mn V} (gl : Gl W K) (e : nsIn K mainGlobals x = some (some (.ref (W.ca c)))) (hx : env.kindOf x = some .globalImplicit) (hd : (x == ("__debug__" : Str)) = false) (hs : noStar es = true)
    (C : ClsOk W c D N mN) (hD : D.init = some k0) (hkeep : keepIn K (.ref (W.ca c)) = true) (hmk : makesIn K (W.ca c) = true) (hin : findIn K (.ref (W.ca c)) "__init__" = some (some (.ref (W.fa k0)))) (hty : typeIn K (.ref (W.fa k0)) = some (.type "function")) (hF : SiK W (born A) fs (.ref (W.fa k0)) (F k0))
    (hl : SiL W A fs env vis (spliced (backTo pos (starEach es env))) cl) :
    SiE W A fs env vis (eval (.Call (.Name x p) es [] pos) env) (fun r => bnd (cl r) fun vs => newD W.S F c vs) := by
  intro s io m r Z hne
  dsimp only at hne ⊢
  refine wpAny_Call_NameR (name_K gl Z e hx hd (callWith_of (P := fun h => K.In h) (by rw [plain_of hs]; rfl) (fun h X => keeps_K hkeep h X) (args_of hs ?_)))
  refine wpAny_mono (hl s io m r Z (Res.bind_ne hne)) (fun us s₁ q => ?_) fun _ _ q => q.bind .refl (.refl _)
  obtain ⟨vs, m₁, io₁, e1, st, H₁, kvs, sm⟩ := q
  have X : K.In s₁.heap := fun a o h => H₁.get gl h
  have ee : bnd (cl r) (fun vs => newD W.S F c vs) m = (F k0 (.ref m₁.length :: vs) (m₁ ++ [.inst c []])).bind (newR (.ref m₁.length)) := by
    show (cl r m).bind _ = _
    rw [e1]
    show newD W.S F c vs m₁ = _
    unfold newD
    rw [C.dat]; dsimp only; rw [C.exc, hD]; rfl
  rw [ee] at hne ⊢
  refine ⟨X, ?_⟩
  obtain ⟨hh, gg, dr, tk, os⟩ := s₁
  dsimp only at st H₁ kvs X
  refine wpAny_call (make_core (makes_of X hmk) (looks_findIn X hin) (fun self => bind_fn X self hty) (.inl rfl) ?_)
  rw [under_new]
  have keeps : ∀ b o, hh.get? b = some o → ((hh.push emptyDict).push (instObj (W.ca c) hh.objs.size)).get? b = some o := fun b o h => Heap.get?_push_of_some _ (Heap.get?_push_of_some _ h)
  have nx : hh.get? (hh.objs.size + 1) = none := Heap.get?_none_of_le (Nat.le_succ _)
  have nd : hh.get? hh.objs.size = none := get_size hh
  have gx : ((hh.push emptyDict).push (instObj (W.ca c) hh.objs.size)).get? (hh.objs.size + 1) = some (instObj (W.ca c) hh.objs.size) := by heap_get
  have gd : ((hh.push emptyDict).push (instObj (W.ca c) hh.objs.size)).get? hh.objs.size = some emptyDict := Heap.get?_push_of_some _ (Heap.get?_push_at rfl rfl)
  have st2 : Step [] (frs fs) hh io₁ m₁ ((hh.push emptyDict).push (instObj (W.ca c) hh.objs.size)) (io₁ ++ [(hh.objs.size + 1, hh.objs.size)]) (m₁ ++ [.inst c []]) := step_alloc H₁ keeps nx nd
  have H2 : HR W ((hh.push emptyDict).push (instObj (W.ca c) hh.objs.size)) (io₁ ++ [(hh.objs.size + 1, hh.objs.size)]) (m₁ ++ [.inst c []]) :=
    H₁.alloc keeps nx nd ⟨fun q => absurd q (Nat.succ_ne_self _), fun _ => none, gx, Heap.Ns1.of_empty ⟨_, #[], _, gd, rfl, fun e he => absurd he (by simp), fun _ => rfl⟩, ⟨(fun _ _ q => by cases q), (fun _ _ q => by cases q)⟩, D, N, mN, C⟩
  have last : (io₁ ++ [(hh.objs.size + 1, hh.objs.size)])[m₁.length]? = some (hh.objs.size + 1, hh.objs.size) := by rw [← H₁.len]; simp
  refine codeAny_mono (hF ⟨_, gg, dr, tk, os⟩ _ _ (.ref m₁.length :: vs) (.ref (hh.objs.size + 1) :: us) H2 ((Z.G.step0 st).step0 st2) (.cons (.ref last) (kvs.step st2)) (Res.bind_ne hne)) (fun rr s' z => ?_)
  have st3 := st.trans st2
  cases rr with
  | error e => exact (XP.mono (s₁ := ⟨_, gg, dr, tk, os⟩) z st3 sm).bind .refl (.refl _)
  | ok f =>
    cases f with
    | ret v =>
      obtain ⟨u, m3, io3, e3, st4, H3, ku, sm3⟩ := z
      have e4 : (F k0 (.ref m₁.length :: vs) (m₁ ++ [.inst c []])).bind (newR (.ref m₁.length)) = newR (.ref m₁.length) u m3 := by rw [e3]; rfl
      rw [e4] at hne
      have hu : u = .none := by
        cases u <;> first | rfl | exact absurd rfl hne
      subst hu
      cases ku
      refine ⟨rfl, ?_⟩
      show NP W [] (frs fs) s io m (VP W) _ _ s'
      rw [e4]
      exact ⟨_, m3, io3, rfl, st3.trans st4, H3, .ref (st4.io_get last), sm.trans sm3⟩
    | _ => exact z
end
end Mini

/-! The look at a tree: does it bear a core tree? -/
namespace Mini
open PySem PySem.W PyProof.Rows

structure Cx where
  sc : Scope
  vis : List (Option Str)
/-- what does not change in a program -/
structure Px where
  K : Frag
  S : Sig
  fa : Nat → Addr
  ca : Nat → Addr
  /-- loops may stand here (no exception is handled) -/
  loud : Bool
  /-- what may be called: all, or these -/
  ok : Option (List Nat)
  /-- what may be called while an exception is handled -/
  qok : List Nat
noncomputable def Px.can (P : Px) (k : Nat) : Bool := match P.ok with
  | none => true
  | some l => l.contains k
/-- within a handler -/
noncomputable def Px.quiet (P : Px) : Px := { P with loud := false, ok := some P.qok, qok := [] }

noncomputable def isLoc (Γ : Cx) (i : Nat) (x : Str) : Bool := (Γ.vis[i]? == some (some x)) && (Γ.sc.names.lookup x == some .local || Γ.sc.names.lookup x == some .cell || Γ.sc.names.lookup x == some .free) && !(x == ("__debug__" : Str)) && !(x == ("__classdict__" : Str))
noncomputable def isTgt (Γ : Cx) (i : Nat) (x : Str) : Bool := (Γ.vis[i]? == some (some x)) && (Γ.sc.names.lookup x == some .local || Γ.sc.names.lookup x == some .cell)
noncomputable def isGlb (Γ : Cx) (x : Str) : Bool := (Γ.sc.names.lookup x == some .globalImplicit) && !(x == ("__debug__" : Str)) && !(x == ("__name__" : Str))
noncomputable def isBlt (P : Px) (Γ : Cx) (x : Str) (id : String) : Bool := isGlb Γ x && (nsIn P.K mainGlobals x == some none) && (bootBuiltins x == some (.builtin id))
noncomputable def isTyp (P : Px) (Γ : Cx) (x : Str) (id : String) : Bool := isGlb Γ x && (nsIn P.K mainGlobals x == some none) && (bootBuiltins x == some (.type id))
noncomputable def isFd (d : Data) : Bool := match d with
  | .func _ => true
  | _ => false
noncomputable def isFun (P : Px) (Γ : Cx) (k : Nat) (x : Str) : Bool := P.can k && isGlb Γ x && (nsIn P.K mainGlobals x == some (some (.ref (P.fa k)))) && (P.K.lookup (P.fa k)).any fun o => isFd o.data
noncomputable def isBi (P : Px) (Γ : Cx) (b : Bi) (x : Str) : Bool := match biFn b with
  | .builtin id => isBlt P Γ x id
  | .type id => isTyp P Γ x id
  | _ => false
/-! classes of exceptions -/
noncomputable def bmV : List Value := [.type "ValueError", .type "Exception", .type "BaseException", .type "object"]
noncomputable def clsV (P : Px) (c : Nat) : Value := match c with
  | 0 => .type "ValueError"
  | c => .ref (P.ca c)
noncomputable def isOwn (P : Px) (Γ : Cx) (c : Nat) (x : Str) : Bool := isGlb Γ x && (nsIn P.K mainGlobals x == some (some (.ref (P.ca c))))
noncomputable def isCls (P : Px) (Γ : Cx) (c : Nat) (x : Str) : Bool := match c with
  | 0 => isTyp P Γ x "ValueError"
  | c + 1 => isOwn P Γ (c + 1) x
noncomputable def allCls (f : Nat → ClsD → Bool) : Nat → List ClsD → Bool
  | _, [] => true
  | k, d :: ds => f k d && allCls f (k + 1) ds
/-- isinstance of a class, for every exception -/
noncomputable def relI (P : Px) (c : Nat) (d : Nat) (x : ClsD) : Bool := !x.exc || (excCls P.K (P.ca d) && kitOne P.K (.ref (P.ca d)) (clsV P c) == some (x.supers.contains c))
/-- a clause takes what it should -/
noncomputable def relT (P : Px) (c : Nat) (d : Nat) (x : ClsD) : Bool := !(x.supers.contains c) || exmOne P.K (.ref (P.ca d)) (.ref (P.ca c)) == some true
/-! classes of objects -/
noncomputable def isAtt (P : Px) (n : Nat) (x : Str) : Bool := match P.S.attrs[n]? with | some y => y == x | none => false
noncomputable def isFld (P : Px) (n : Nat) (x : Str) : Bool := isAtt P n x && P.S.cls.all fun d => (d.meths.lookup n).isNone
noncomputable def attsFine (P : Px) (N : Addr) (D : ClsD) : Nat → List Str → Bool
  | _, [] => true
  | i, x :: r => nsIn P.K N x == some ((D.meths.lookup i).map fun k => .ref (P.fa k)) && (match fastLookup "object" x with | some none => true | _ => false) && attsFine P N D (i + 1) r
noncomputable def six {α : Type} (l : List α) : Option (α × α × α × α × α × α) := match l with
  | [] => none
  | a :: l => match l with
    | [] => none
    | b :: l => match l with
      | [] => none
      | c :: l => match l with
        | [] => none
        | d :: l => match l with
          | [] => none
          | e :: l => match l with
            | [] => none
            | f :: l => match l with
              | [] => some (a, b, c, d, e, f)
              | _ :: _ => none
noncomputable def clsIn (d : Data) : Option ClassData := match d with
  | .cls cd => some cd
  | _ => none
/-- a plain class: where its namespace lies -/
noncomputable def plainC (K : Frag) (C : Addr) : Option Addr := (K.lookup C).bind fun o => (clsIn o.data).bind fun cd => (six o.slots.toList).bind fun q =>
  if o.cls == .type "type" && cd.mro == [.ref C, .type "object"] && q.2.2.2.2.1 == some (.builtin "object.__new__") && !cd.hasDel && cd.hasDict && !cd.abstract && nsOkIn K cd.ns then some cd.ns else none
noncomputable def newOk (P : Px) (c : Nat) : Bool := match P.S.cls[c]? with
  | some d => !d.exc && (match d.init with | some k => decide (k < P.S.fns.length) && findIn P.K (.ref (P.ca c)) "__init__" == some (some (.ref (P.fa k))) && typeIn P.K (.ref (P.fa k)) == some (.type "function") | none => false)
    && keepIn P.K (.ref (P.ca c)) && makesIn P.K (P.ca c)
    && (match plainC P.K (P.ca c) with
      | some N => nsIn P.K N "__getattribute__" == some none && nsIn P.K N "__getattr__" == some none && nsIn P.K N "__setattr__" == some none && attsFine P N d 0 P.S.attrs
      | none => false)
    && decide P.S.attrs.Nodup && decide (P.S.attrs.length ≤ 1000) && (d.meths.all fun q => decide (q.2 < P.S.fns.length))
  | none => false
noncomputable def isCst : Lt → Const → Bool
  | .none, .none => true
  | .bool b, .bool d => b == d
  | .int i, .int j => i == j
  | .str x, .str y => x == y && PyData.strOk x
  | _, _ => false
/-- a value that was written at the top -/
noncomputable def isVal (v : Value) (l : Lt) : Bool := match l with
  | .int i => (match v with | .int j _ => i == j | _ => false)
  | .str x => (match v with | .str y _ => x == y && PyData.strOk x | _ => false)
  | .bool b => (match v with | .bool c => b == c | _ => false)
  | .none => (match v with | .none => true | _ => false)
noncomputable def isCon (P : Px) (Γ : Cx) (i : Nat) (x : Str) : Bool := isGlb Γ x && (nsIn P.K mainGlobals x).any fun o => o.any fun v => (P.S.globs[i]?).any fun p => isVal v p.2
noncomputable def isOp : Bool → BoolOp → Bool
  | true, .And => true
  | false, .Or => true
  | _, _ => false
noncomputable def eV {β : Type} (d : β) (hBoolOp : BoolOp → List Expr → β) (hBinOp : Expr → Operator → Expr → β) (hUnaryOp : UnaryOp → Expr → β) (hIfExp : Expr → Expr → Expr → β) (hDict : List (Option Expr) → List Expr → β) (hSet : β) (hListComp : Expr → List Comprehension → Scope → β) (hSetComp : β) (hDictComp : β) (hCompare : Expr → List CmpOp → List Expr → β) (hCall : Expr → List Expr → List Keyword → Pos → β) (hConstant : Const → β) (hAttribute : Expr → Str → Pos → β) (hSubscript : Expr → Expr → β) (hName : Str → Pos → β) (hList : List Expr → β) (hTuple : List Expr → β) (hSlice : Option Expr → Option Expr → Option Expr → β) (e : Expr) : β := Expr.casesOn (motive_1 := fun _ => β) e (fun a0 a1 _ => hBoolOp a0 a1) (fun _ _ _ => d) (fun a0 a1 a2 _ => hBinOp a0 a1 a2) (fun a0 a1 _ => hUnaryOp a0 a1) (fun _ _ _ _ => d) (fun a0 a1 a2 _ => hIfExp a0 a1 a2) (fun a0 a1 _ => hDict a0 a1) (fun _ _ _ => hSet) (fun a0 a1 a2 _ => hListComp a0 a1 a2) (fun _ _ _ _ => hSetComp) (fun _ _ _ _ _ => hDictComp) (fun _ _ _ _ => d) (fun _ _ => d) (fun _ _ => d) (fun _ _ => d) (fun a0 a1 a2 _ => hCompare a0 a1 a2) (fun a0 a1 a2 a3 => hCall a0 a1 a2 a3) (fun _ _ _ _ => d) (fun _ _ => d) (fun a0 _ _ => hConstant a0) (fun a0 a1 a2 => hAttribute a0 a1 a2) (fun a0 a1 _ => hSubscript a0 a1) (fun _ _ => d) (fun a0 a1 => hName a0 a1) (fun a0 _ => hList a0) (fun a0 _ _ => hTuple a0) (fun a0 a1 a2 _ => hSlice a0 a1 a2)
noncomputable def noSlice : Expr → Bool := eV true (fun _ _ => true) (fun _ _ _ => true) (fun _ _ => true) (fun _ _ _ => true) (fun _ _ => true) true (fun _ _ _ => true) true true (fun _ _ _ => true) (fun _ _ _ _ => true) (fun _ => true) (fun _ _ _ => true) (fun _ _ => true) (fun _ _ => true) (fun _ => true) (fun _ => true) (fun _ _ _ => false)
noncomputable def noSet : Expr → Bool := eV true (fun _ _ => true) (fun _ _ _ => true) (fun _ _ => true) (fun _ _ _ => true) (fun _ _ => true) false (fun _ _ _ => true) true true (fun _ _ _ => true) (fun _ _ _ _ => true) (fun _ => true) (fun _ _ _ => true) (fun _ _ => true) (fun _ _ => true) (fun _ => true) (fun _ => true) (fun _ _ _ => true)
noncomputable def noneC : CE → Bool
  | .cnst .none => true
  | _ => false
/-- a test that is a value's truth -/
noncomputable def isNot : UnaryOp → Bool | .Not => true | _ => false
noncomputable def plainT : Expr → Bool := eV true (fun _ _ => false) (fun _ _ _ => true) (fun op _ => !isNot op) (fun _ _ _ => false) (fun _ _ => true) true (fun _ _ _ => true) true true (fun _ _ _ => false) (fun _ _ _ _ => true) (fun _ => true) (fun _ _ _ => true) (fun _ _ => true) (fun _ _ => true) (fun _ => true) (fun _ => true) (fun _ _ _ => true)

/-- the names that a comprehension sees -/
noncomputable def seen (scope : Scope) (x : Str) : List (Option Str) → List (Option Str)
  | [] => [some x]
  | o :: r => (match o with | some y => (match scope.names.lookup y with | some .free => some y | _ => none) | none => none) :: seen scope x r
noncomputable def relab (scope : Scope) (sc : Scope) : Scope :=
  { scope with names := scope.names.map fun (n, k) => if (k == .free && sc.kind == .function && sc.names.lookup n == some .cell) then (n, .cell) else (n, k) }
noncomputable def compIn (scope : Scope) (x : Str) (Γ : Cx) : Cx := ⟨relab scope Γ.sc, seen scope x Γ.vis⟩
noncomputable def compLk (scope : Scope) (x : Str) (Γ : Cx) : Bool :=
  scope.kind == .function && (scope.names.all fun p => !(p.2 == .local) || scope.names.lookup p.1 == some .local) && (scope.names.all fun p => !(p.2 == .cell)) &&
  (scope.names.all fun p => !(p.2 == .free) || (Γ.vis.contains (some p.1) && (Γ.sc.names.lookup p.1 == some .cell || Γ.sc.names.lookup p.1 == some .free))) && scope.names.lookup x == some .local && decide (Γ.vis.filterMap id).Nodup && Γ.sc.kind == .function

/-! ## views -/
noncomputable def vConst : Expr → Option Const := eV none (fun _ _ => none) (fun _ _ _ => none) (fun _ _ => none) (fun _ _ _ => none) (fun _ _ => none) none (fun _ _ _ => none) none none (fun _ _ _ => none) (fun _ _ _ _ => none) (fun c => some c) (fun _ _ _ => none) (fun _ _ => none) (fun _ _ => none) (fun _ => none) (fun _ => none) (fun _ _ _ => none)
noncomputable def vName : Expr → Option (Str × Pos) := eV none (fun _ _ => none) (fun _ _ _ => none) (fun _ _ => none) (fun _ _ _ => none) (fun _ _ => none) none (fun _ _ _ => none) none none (fun _ _ _ => none) (fun _ _ _ _ => none) (fun _ => none) (fun _ _ _ => none) (fun _ _ => none) (fun x p => some (x, p)) (fun _ => none) (fun _ => none) (fun _ _ _ => none)
noncomputable def vBin : Expr → Option (Expr × Operator × Expr) := eV none (fun _ _ => none) (fun l op r => some (l, op, r)) (fun _ _ => none) (fun _ _ _ => none) (fun _ _ => none) none (fun _ _ _ => none) none none (fun _ _ _ => none) (fun _ _ _ _ => none) (fun _ => none) (fun _ _ _ => none) (fun _ _ => none) (fun _ _ => none) (fun _ => none) (fun _ => none) (fun _ _ _ => none)
noncomputable def vUn : Expr → Option (UnaryOp × Expr) := eV none (fun _ _ => none) (fun _ _ _ => none) (fun op x => some (op, x)) (fun _ _ _ => none) (fun _ _ => none) none (fun _ _ _ => none) none none (fun _ _ _ => none) (fun _ _ _ _ => none) (fun _ => none) (fun _ _ _ => none) (fun _ _ => none) (fun _ _ => none) (fun _ => none) (fun _ => none) (fun _ _ _ => none)
noncomputable def vBool : Expr → Option (BoolOp × List Expr) := eV none (fun op es => some (op, es)) (fun _ _ _ => none) (fun _ _ => none) (fun _ _ _ => none) (fun _ _ => none) none (fun _ _ _ => none) none none (fun _ _ _ => none) (fun _ _ _ _ => none) (fun _ => none) (fun _ _ _ => none) (fun _ _ => none) (fun _ _ => none) (fun _ => none) (fun _ => none) (fun _ _ _ => none)
noncomputable def vCmp : Expr → Option (Expr × List CmpOp × List Expr) := eV none (fun _ _ => none) (fun _ _ _ => none) (fun _ _ => none) (fun _ _ _ => none) (fun _ _ => none) none (fun _ _ _ => none) none none (fun l ops cs => some (l, ops, cs)) (fun _ _ _ _ => none) (fun _ => none) (fun _ _ _ => none) (fun _ _ => none) (fun _ _ => none) (fun _ => none) (fun _ => none) (fun _ _ _ => none)
noncomputable def vTup : Expr → Option (List Expr) := eV none (fun _ _ => none) (fun _ _ _ => none) (fun _ _ => none) (fun _ _ _ => none) (fun _ _ => none) none (fun _ _ _ => none) none none (fun _ _ _ => none) (fun _ _ _ _ => none) (fun _ => none) (fun _ _ _ => none) (fun _ _ => none) (fun _ _ => none) (fun _ => none) (fun es => some es) (fun _ _ _ => none)
noncomputable def vList : Expr → Option (List Expr) := eV none (fun _ _ => none) (fun _ _ _ => none) (fun _ _ => none) (fun _ _ _ => none) (fun _ _ => none) none (fun _ _ _ => none) none none (fun _ _ _ => none) (fun _ _ _ _ => none) (fun _ => none) (fun _ _ _ => none) (fun _ _ => none) (fun _ _ => none) (fun es => some es) (fun _ => none) (fun _ _ _ => none)
noncomputable def vDict : Expr → Option (List (Option Expr) × List Expr) := eV none (fun _ _ => none) (fun _ _ _ => none) (fun _ _ => none) (fun _ _ _ => none) (fun es fs => some (es, fs)) none (fun _ _ _ => none) none none (fun _ _ _ => none) (fun _ _ _ _ => none) (fun _ => none) (fun _ _ _ => none) (fun _ _ => none) (fun _ _ => none) (fun _ => none) (fun _ => none) (fun _ _ _ => none)
noncomputable def vSub : Expr → Option (Expr × Expr) := eV none (fun _ _ => none) (fun _ _ _ => none) (fun _ _ => none) (fun _ _ _ => none) (fun _ _ => none) none (fun _ _ _ => none) none none (fun _ _ _ => none) (fun _ _ _ _ => none) (fun _ => none) (fun _ _ _ => none) (fun x y => some (x, y)) (fun _ _ => none) (fun _ => none) (fun _ => none) (fun _ _ _ => none)
noncomputable def vSlice : Expr → Option (Option Expr × Option Expr × Option Expr) := eV none (fun _ _ => none) (fun _ _ _ => none) (fun _ _ => none) (fun _ _ _ => none) (fun _ _ => none) none (fun _ _ _ => none) none none (fun _ _ _ => none) (fun _ _ _ _ => none) (fun _ => none) (fun _ _ _ => none) (fun _ _ => none) (fun _ _ => none) (fun _ => none) (fun _ => none) (fun l h s => some (l, h, s))
noncomputable def vCall : Expr → Option (Expr × List Expr × List Keyword × Pos) := eV none (fun _ _ => none) (fun _ _ _ => none) (fun _ _ => none) (fun _ _ _ => none) (fun _ _ => none) none (fun _ _ _ => none) none none (fun _ _ _ => none) (fun f es kws pos => some (f, es, kws, pos)) (fun _ => none) (fun _ _ _ => none) (fun _ _ => none) (fun _ _ => none) (fun _ => none) (fun _ => none) (fun _ _ _ => none)
noncomputable def vAttr : Expr → Option (Expr × Str × Pos) := eV none (fun _ _ => none) (fun _ _ _ => none) (fun _ _ => none) (fun _ _ _ => none) (fun _ _ => none) none (fun _ _ _ => none) none none (fun _ _ _ => none) (fun _ _ _ _ => none) (fun _ => none) (fun x nm p => some (x, nm, p)) (fun _ _ => none) (fun _ _ => none) (fun _ => none) (fun _ => none) (fun _ _ _ => none)
noncomputable def vComp : Expr → Option (Expr × List Comprehension × Scope) := eV none (fun _ _ => none) (fun _ _ _ => none) (fun _ _ => none) (fun _ _ _ => none) (fun _ _ => none) none (fun e gs sc => some (e, gs, sc)) none none (fun _ _ _ => none) (fun _ _ _ _ => none) (fun _ => none) (fun _ _ _ => none) (fun _ _ => none) (fun _ _ => none) (fun _ => none) (fun _ => none) (fun _ _ _ => none)
noncomputable def vOne {α : Type} : List α → Option α | [x] => some x | _ => none
noncomputable def vTwo {α : Type} : List α → Option (α × α) | [x, y] => some (x, y) | _ => none
/-- a call by name -/
noncomputable def vCallN (e : Expr) : Option (Str × List Expr) := (vCall e).bind fun q => if q.2.2.1.isEmpty then (vName q.1).map fun x => (x.1, q.2.1) else none
noncomputable def isNeg : UnaryOp → Bool | .USub => true | _ => false

/-- what is gone over -/
noncomputable def mSrc (P : Px) (Γ : Cx) (f : List Expr → Bool) (k : IK) (e : Expr) : Bool := P.loud && match k with
  | .expr => f [e]
  | .range => (vCallN e).any fun q => isTyp P Γ q.1 "range" && noStar q.2 && f q.2
  | .enum => false

noncomputable def isTy (P : Px) (Γ : Cx) (t : Ty) (y : Str) : Bool := match t with
  | .cls c => isCls P Γ c y && allCls (relI P c) 0 P.S.cls
  | t => isTyp P Γ y (tyName t) && !(tyName t == "")

mutual
noncomputable def mE (P : Px) (Γ : Cx) : CE → Expr → Bool
  | .cnst v, e => (vConst e).any fun c => isCst v c
  | .var i, e => (vName e).any fun x => isLoc Γ i x.1
  | .bin op a b, e => (vBin e).any fun q => decide (op = q.2.1) && mE P Γ a q.1 && mE P Γ b q.2.2
  | .neg a, e => (vUn e).any fun q => isNeg q.1 && mE P Γ a q.2
  | .not a, e => (vUn e).any fun q => isNot q.1 && mE P Γ a q.2
  | .boolop c as, e => (vBool e).any fun q => isOp c q.1 && mEs P Γ as q.2 && !as.isEmpty
  | .cmp a ops bs, e => (vCmp e).any fun q => decide (ops = q.2.1) && mE P Γ a q.1 && mEs P Γ bs q.2.2 && decide (ops.length = bs.length) && !bs.isEmpty && q.2.2.all noSet
  | .ite _ _ _, _ => false
  | .tup as, e => (vTup e).any fun es => mEs P Γ as es && noStar es && decide (as.length ≤ 1000)
  | .list as, e => (vList e).any fun es => mEs P Γ as es && noStar es && decide (as.length ≤ 1000)
  | .dict ks vs, e => (vDict e).any fun q => ks.isEmpty && vs.isEmpty && q.1.isEmpty && q.2.isEmpty
  | .idx a i, e => (vSub e).any fun q => noSlice q.2 && mE P Γ a q.1 && mE P Γ i q.2
  | .slice a lo hi st, e => (vSub e).any fun q => mE P Γ a q.1 && (vSlice q.2).any fun t => t.1.elim (noneC lo) (fun l => mE P Γ lo l) && t.2.1.elim (noneC hi) (fun l => mE P Γ hi l) && t.2.2.elim (noneC st) (fun l => mE P Γ st l)
  | .call k as, e => (vCallN e).any fun q => isFun P Γ k q.1 && noStar q.2 && mEs P Γ as q.2
  | .bi b as, e => (vCallN e).any fun q => P.loud && (biOk b && isBi P Γ b q.1 && noStar q.2 && mEs P Γ as q.2)
  | .smeth o n as, e => (vCall e).any fun q => (vAttr q.1).any fun t => t.2.1 == Str.ofString (smName n) && noSuper t.1 && noStar q.2.1 && decide (q.2.1.length < 29) && t.2.2.endLine == q.2.2.2.line && q.2.2.1.isEmpty && mE P Γ o t.1 && mEs P Γ as q.2.1
  | .isi a t, e => (vCallN e).any fun q => (vTwo q.2).any fun p => (vName p.2).any fun y => isBlt P Γ q.1 "isinstance" && isTy P Γ t y.1 && noStar [p.1] && mE P Γ a p.1
  | .listrange _, _ => false
  | .comp elt t nl k src ifs, e => (vComp e).any fun q => (vOne q.2.1).any fun g => (vName g.target).any fun x => decide (t = .one Γ.vis.length) && decide (nl = 1) && g.is_async == 0 && compLk q.2.2 x.1 Γ && noSet g.iter && mSrc P Γ (fun es => mEs P Γ src es) k g.iter && mIfs P (compIn q.2.2 x.1 Γ) ifs g.ifs && mE P (compIn q.2.2 x.1 Γ) elt q.1
  | .glob i, e => (vName e).any fun x => isCon P Γ i x.1
  | .fnv _, _ => false
  | .attr a n, e => (vAttr e).any fun q => noSuper q.1 && isFld P n q.2.1 && mE P Γ a q.1
  | .callv _ _, _ => false
  | .new c as, e => (vCallN e).any fun q => P.ok.isNone && isOwn P Γ c q.1 && newOk P c && noStar q.2 && mEs P Γ as q.2
  | .meth o n as, e => (vCall e).any fun q => (vAttr q.1).any fun t => P.ok.isNone && isAtt P n t.2.1 && noSuper t.1 && noStar q.2.1 && decide (q.2.1.length < 29) && t.2.2.endLine == q.2.2.2.line && q.2.2.1.isEmpty && mE P Γ o t.1 && mEs P Γ as q.2.1
noncomputable def mEs (P : Px) (Γ : Cx) : List CE → List Expr → Bool
  | [], es => es.isEmpty
  | a :: as, es => match es with
    | [] => false
    | e :: es => mE P Γ a e && mEs P Γ as es
noncomputable def mB (P : Px) (Γ : Cx) : CB → Expr → Bool
  | .not b, e => (vUn e).any fun q => isNot q.1 && mB P Γ b q.2
  | .all c bs, e => (vBool e).any fun q => isOp c q.1 && mIfs P Γ bs q.2
  | .val c, e => (plainT e || (vCmp e).isSome) && mE P Γ c e
noncomputable def mIfs (P : Px) (Γ : Cx) : List CB → List Expr → Bool
  | [], es => es.isEmpty
  | b :: bs, es => match es with
    | [] => false
    | e :: es => mB P Γ b e && mIfs P Γ bs es
end

noncomputable def isComp : Expr → Bool := eV false (fun _ _ => false) (fun _ _ _ => false) (fun _ _ => false) (fun _ _ _ => false) (fun _ _ => false) false (fun _ _ _ => true) true true (fun _ _ _ => false) (fun _ _ _ _ => false) (fun _ => false) (fun _ _ _ => false) (fun _ _ => false) (fun _ _ => false) (fun _ => false) (fun _ => false) (fun _ _ _ => false)
noncomputable def sV {β : Type} (d : β) (hReturn : Option Expr → β) (hAssign : List Expr → Expr → Pos → β) (hFor : Expr → Expr → List Stmt → List Stmt → β) (hWhile : Expr → List Stmt → List Stmt → β) (hIf : Expr → List Stmt → List Stmt → β) (hRaise : Option Expr → Option Expr → β) (hTry : List Stmt → List ExceptHandler → List Stmt → List Stmt → β) (hExpr : Expr → β) (hPass : β) (hContinue : β) (e : Stmt) : β := Stmt.casesOn (motive_2 := fun _ => β) e (fun _ _ _ _ _ _ _ _ _ _ => d) (fun _ _ _ _ _ _ _ _ _ _ => d) (fun _ _ _ _ _ _ _ _ _ _ _ => d) (fun a0 _ => hReturn a0) (fun _ _ => d) (fun a0 a1 a2 => hAssign a0 a1 a2) (fun _ _ _ _ _ _ _ => d) (fun _ _ _ _ => d) (fun _ _ _ _ _ => d) (fun a0 a1 a2 a3 _ => hFor a0 a1 a2 a3) (fun _ _ _ _ _ => d) (fun a0 a1 a2 _ => hWhile a0 a1 a2) (fun a0 a1 a2 _ => hIf a0 a1 a2) (fun _ _ _ => d) (fun _ _ _ => d) (fun _ _ _ => d) (fun a0 a1 _ => hRaise a0 a1) (fun a0 a1 a2 a3 _ => hTry a0 a1 a2 a3) (fun _ _ _ _ _ => d) (fun _ _ _ => d) (fun _ _ => d) (fun _ _ _ _ => d) (fun _ _ => d) (fun _ _ => d) (fun a0 _ => hExpr a0) (fun _ => hPass) (fun _ => d) (fun _ => hContinue)
noncomputable def vAsg : Stmt → Option (List Expr × Expr × Pos) := sV none (fun _ => none) (fun ts v pos => some (ts, v, pos)) (fun _ _ _ _ => none) (fun _ _ _ => none) (fun _ _ _ => none) (fun _ _ => none) (fun _ _ _ _ => none) (fun _ => none) none none
noncomputable def vExp : Stmt → Option Expr := sV none (fun _ => none) (fun _ _ _ => none) (fun _ _ _ _ => none) (fun _ _ _ => none) (fun _ _ _ => none) (fun _ _ => none) (fun _ _ _ _ => none) (fun v => some v) none none
noncomputable def vIfS : Stmt → Option (Expr × List Stmt × List Stmt) := sV none (fun _ => none) (fun _ _ _ => none) (fun _ _ _ _ => none) (fun _ _ _ => none) (fun t x y => some (t, x, y)) (fun _ _ => none) (fun _ _ _ _ => none) (fun _ => none) none none
noncomputable def vFor : Stmt → Option (Expr × Expr × List Stmt × List Stmt) := sV none (fun _ => none) (fun _ _ _ => none) (fun t i b e => some (t, i, b, e)) (fun _ _ _ => none) (fun _ _ _ => none) (fun _ _ => none) (fun _ _ _ _ => none) (fun _ => none) none none
noncomputable def vRet : Stmt → Option (Option Expr) := sV none (fun v => some v) (fun _ _ _ => none) (fun _ _ _ _ => none) (fun _ _ _ => none) (fun _ _ _ => none) (fun _ _ => none) (fun _ _ _ _ => none) (fun _ => none) none none
noncomputable def vCont : Stmt → Bool := sV false (fun _ => false) (fun _ _ _ => false) (fun _ _ _ _ => false) (fun _ _ _ => false) (fun _ _ _ => false) (fun _ _ => false) (fun _ _ _ _ => false) (fun _ => false) false true
noncomputable def vPass : Stmt → Bool := sV false (fun _ => false) (fun _ _ _ => false) (fun _ _ _ _ => false) (fun _ _ _ => false) (fun _ _ _ => false) (fun _ _ => false) (fun _ _ _ _ => false) (fun _ => false) true false
noncomputable def vRse : Stmt → Option (Option Expr × Option Expr) := sV none (fun _ => none) (fun _ _ _ => none) (fun _ _ _ _ => none) (fun _ _ _ => none) (fun _ _ _ => none) (fun e c => some (e, c)) (fun _ _ _ _ => none) (fun _ => none) none none
noncomputable def vTry : Stmt → Option (List Stmt × List ExceptHandler × List Stmt × List Stmt) := sV none (fun _ => none) (fun _ _ _ => none) (fun _ _ _ _ => none) (fun _ _ _ => none) (fun _ _ _ => none) (fun _ _ => none) (fun b h o f => some (b, h, o, f)) (fun _ => none) none none
/-- a clause: its class, its name, what it returns -/
noncomputable def vHand : ExceptHandler → Option (Expr × Option Str × Expr)
  | .ExceptHandler (some t) nm [s] _ => (vRet s).bind fun o => o.map fun e => (t, nm, e)
  | _ => none
noncomputable def okNm (Γ : Cx) (ni : Option Nat) (nm : Option Str) : Bool := match ni, nm with
  | none, none => true
  | some i, some x => (match Γ.vis[i]? with | some (some y) => y == x | _ => false) && (match Γ.sc.names.lookup x with | some .local => true | _ => false)
  | _, _ => false
mutual
/-- no assignment stands here -/
noncomputable def qS : CS → Bool
  | .exp _ => true
  | .ret _ => true
  | .ite _ a b => qSs a && qSs b
  | _ => false
noncomputable def qSs : List CS → Bool
  | [] => true
  | c :: cs => qS c && qSs cs
end
/-- a name takes a value: a comprehension's store goes ahead -/
noncomputable def okComp (Γ : Cx) (y : Str × Pos) (v : Expr) : Bool := !isComp v || (vComp v).any fun q => !(Γ.sc.names.lookup y.1 == some .local) || (y.2.line == v.pos.line && !(q.2.2.names.any fun (n, k) => n == y.1 && (k == .local || k == .cell)))
noncomputable def mT (Γ : Cx) (t : CT) (e : Expr) : Bool := match t with
  | .one i => (vName e).any fun x => isTgt Γ i x.1
  | .many _ => false
noncomputable def mTF (Γ : Cx) (t : CT) (e : Expr) : Bool := match t with
  | .one i => (vName e).any fun x => isTgt Γ i x.1
  | .many _ => false
noncomputable def mAsg (P : Px) (Γ : Cx) (t : CTgt) (c : CE) (tg v : Expr) : Bool := match t with
  | .one t => match t with
    | .one i => mT Γ (.one i) tg && mE P Γ c v && (vName tg).any fun y => okComp Γ y v
    | .many _ => false
  | .idx o i => (vSub tg).any fun q => mE P Γ o q.1 && mE P Γ i q.2 && mE P Γ c v && !isComp v
  | .attr o n => (vAttr tg).any fun q => isFld P n q.2.1 && mE P Γ o q.1 && mE P Γ c v && !isComp v
  | .idx2 _ _ _ _ => false
mutual
noncomputable def mS (P : Px) (Γ : Cx) : CS → Stmt → Bool
  | .asg t e, s => (vAsg s).any fun q => (vOne q.1).any fun tg => mAsg P Γ t e tg q.2.1
  | .exp e, s => (vExp s).any fun v => mE P Γ e v && !isComp v
  | .ite c a b, s => (vIfS s).any fun q => mB P Γ c q.1 && mSs P Γ a q.2.1 && mSs P Γ b q.2.2
  | .for_ k t src body, s => (vFor s).any fun q => q.2.2.2.isEmpty && mTF Γ t q.1 && noSet q.2.1 && mSrc P Γ (fun es => mEs P Γ src es) k q.2.1 && mSs P Γ body q.2.2.1
  | .wh _ _, _ => false
  | .ret e, s => (vRet s).any fun o => o.any fun v => mE P Γ e v
  | .cont, s => vCont s
  | .pass, s => vPass s
  | .rse c msg, s => (vRse s).any fun q => q.2.isNone && q.1.any fun e => (vCallN e).any fun t => P.loud && isOwn P Γ c t.1 && excIn P.K (P.ca c) bmV "ValueError.__new__" && noStar t.2 && mEs P Γ [.cnst (.str msg)] t.2
  | .try_ body c ni h, s => (vTry s).any fun q => q.2.2.1.isEmpty && q.2.2.2.isEmpty && (vOne q.2.1).any fun hd => (vHand hd).any fun t => (vName t.1).any fun x => isOwn P Γ c x.1 && allCls (relT P c) 0 P.S.cls && okNm Γ ni t.2.1 && qSs body && mSs P Γ body q.1 && mE P.quiet Γ h t.2.2
noncomputable def mSs (P : Px) (Γ : Cx) : List CS → List Stmt → Bool
  | [], ss => ss.isEmpty
  | a :: as, ss => match ss with
    | [] => false
    | s :: ss => mS P Γ a s && mSs P Γ as ss
end

/-- a function -/
noncomputable def mF (P : Px) (k : Nat) (d : FnD) : Bool := match P.K.lookup (P.fa k) with
  | some o => (match o.data with
    | .func fd => (match fd.body with
      | .stmts body => o.cls == .type "function" && fnHead P.K fd d && mSs P ⟨fd.scope, d.names.map some⟩ d.body body
      | _ => false)
    | _ => false)
  | none => false
noncomputable def mFs (P : Px) : Nat → List FnD → Bool
  | _, [] => true
  | k, d :: ds => (!P.can k || mF P k d) && mFs P (k + 1) ds
end Mini

/-! A tree that bears a core tree goes as the core tree does: expressions. -/
namespace Mini
open PySem PySem.W PyProof.Rows

structure Fx (W : Wd) (P : Px) (A : Around) (fs : List Env) (n : Nat) (F : Fns) : Prop where
  gl : Gl W P.K
  R : AR A fs n
  S : W.S = P.S
  fa : W.fa = P.fa
  ca : W.ca = P.ca
  hh : P.loud = true → A.handled = none
  calls : ∀ k, P.can k = true → SiF W A fs (.ref (W.fa k)) (F k)
  new : P.ok = none → ∀ k, k < P.S.fns.length → SiK W (born A) fs (.ref (W.fa k)) (F k)
  qcalls : ∀ A', AR A' fs n → ∀ k, P.qok.contains k = true → SiF W A' fs (.ref (W.fa k)) (F k)
  objs : P.ok = none → ∀ k, k < P.S.fns.length → ∃ o fd, P.K.lookup (P.fa k) = some o ∧ o.data = .func fd ∧ o.cls = .type "function"

section
variable {W : Wd} {P : Px} {fs : List Env} {env : Env} {A : Around} {n : Nat} {F : Fns} {pos p : Pos} {Γ : Cx}

theorem both_of {a b : Bool} (h : (a && b) = true) : a = true ∧ b = true := Bool.and_eq_true_iff.mp h
theorem not_of {a : Bool} (h : (!a) = true) : a = false := (Bool.not_eq_true' _).mp h
theorem glb_of {x : Str} (hsc : env.scope = Γ.sc) (h : isGlb Γ x = true) : env.kindOf x = some .globalImplicit ∧ (x == ("__debug__" : Str)) = false ∧ (x == ("__name__" : Str)) = false := by
  refine ⟨?_, not_of (both_of (both_of h).1).2, not_of (both_of h).2⟩
  show env.scope.names.lookup x = _
  rw [hsc]; exact eq_of_beq (both_of (both_of h).1).1
theorem blt_of {x : Str} {id : String} (hsc : env.scope = Γ.sc) (h : isBlt P Γ x id = true) : env.kindOf x = some .globalImplicit ∧ (x == ("__debug__" : Str)) = false ∧ (x == ("__name__" : Str)) = false ∧ nsIn P.K mainGlobals x = some none ∧ bootBuiltins x = some (.builtin id) :=
  have g := glb_of hsc (both_of (both_of h).1).1
  ⟨g.1, g.2.1, g.2.2, eq_of_beq (both_of (both_of h).1).2, eq_of_beq (both_of h).2⟩
theorem typ_of {x : Str} {id : String} (hsc : env.scope = Γ.sc) (h : isTyp P Γ x id = true) : env.kindOf x = some .globalImplicit ∧ (x == ("__debug__" : Str)) = false ∧ (x == ("__name__" : Str)) = false ∧ nsIn P.K mainGlobals x = some none ∧ bootBuiltins x = some (.type id) :=
  have g := glb_of hsc (both_of (both_of h).1).1
  ⟨g.1, g.2.1, g.2.2, eq_of_beq (both_of (both_of h).1).2, eq_of_beq (both_of h).2⟩
theorem fd_of {d : Data} (h : isFd d = true) : ∃ fd, d = .func fd := by
  cases d with
  | func fd => exact ⟨fd, rfl⟩
  | _ => exact absurd h Bool.false_ne_true
theorem fun_of {x : Str} {k : Nat} (hsc : env.scope = Γ.sc) (h : isFun P Γ k x = true) : P.can k = true ∧ env.kindOf x = some .globalImplicit ∧ (x == ("__debug__" : Str)) = false ∧ nsIn P.K mainGlobals x = some (some (.ref (P.fa k))) ∧ ∃ o fd, P.K.lookup (P.fa k) = some o ∧ o.data = .func fd := by
  have h1 := both_of (both_of h).1
  have g := glb_of hsc (both_of h1.1).2
  refine ⟨(both_of h1.1).1, g.1, g.2.1, eq_of_beq h1.2, ?_⟩
  have h2 := (both_of h).2
  cases q : P.K.lookup (P.fa k) with
  | none => rw [q] at h2; exact absurd h2 Bool.false_ne_true
  | some o => rw [q] at h2; exact (fd_of h2).elim fun fd e => ⟨o, fd, rfl, e⟩

theorem own_of {x : Str} {c : Nat} (hsc : env.scope = Γ.sc) (h : isOwn P Γ c x = true) : env.kindOf x = some .globalImplicit ∧ (x == ("__debug__" : Str)) = false ∧ nsIn P.K mainGlobals x = some (some (.ref (P.ca c))) :=
  have g := glb_of hsc (both_of h).1
  ⟨g.1, g.2.1, eq_of_beq (both_of h).2⟩
theorem allCls_get {f : Nat → ClsD → Bool} : ∀ {ds : List ClsD} {j i : Nat} {d : ClsD}, allCls f j ds = true → ds[i]? = some d → f (j + i) d = true
  | [], j, i, d, _, h => by simp at h
  | x :: ds, j, i, d, hm, h => by
    obtain ⟨h1, h2⟩ := Bool.and_eq_true_iff.mp hm
    cases i with
    | zero =>
      have e : x = d := by simpa using h
      rw [e] at h1; exact h1
    | succ i =>
      have := allCls_get h2 (show ds[i]? = some d by simpa using h)
      rwa [show j + 1 + i = j + (i + 1) by omega] at this
theorem evs_len {S : Sig} : ∀ {cs : List CE} {r : Lo} {m : MH} {vs : List V} {m' : MH}, evs S F cs r m = .ok vs m' → vs.length = cs.length
  | [], r, m, vs, m', h => by cases h; rfl
  | c :: cs, r, m, vs, m', h => by
    have h' : (ev S F c r m).bind (fun x => bnd (evs S F cs r) fun xs => ret (x :: xs)) = .ok vs m' := h
    cases e1 : ev S F c r m with
    | bad => rw [e1] at h'; cases h'
    | exc k m1 => rw [e1] at h'; cases h'
    | ok x m1 =>
      rw [e1] at h'
      have h2 : (evs S F cs r m1).bind (fun xs => ret (x :: xs)) = .ok vs m' := h'
      cases e2 : evs S F cs r m1 with
      | bad => rw [e2] at h2; cases h2
      | exc k m2 => rw [e2] at h2; cases h2
      | ok xs m2 =>
        rw [e2] at h2; cases h2
        simp [evs_len e2]

theorem op_of {c : Bool} {op : BoolOp} (h : isOp c op = true) : (op = .And ∧ c = true) ∨ (op = .Or ∧ c = false) := by
  cases c <;> cases op <;> first | (exact absurd h Bool.false_ne_true) | simp

theorem seen_len (scope : Scope) (x : Str) : ∀ vis, (seen scope x vis).length = vis.length + 1
  | [] => rfl
  | _ :: r => by simp [seen, seen_len scope x r]
theorem seen_get (scope : Scope) (x : Str) : ∀ (vis : List (Option Str)) (i : Nat) (y : Str), (seen scope x vis)[i]? = some (some y) → (i = vis.length ∧ y = x) ∨ (vis[i]? = some (some y) ∧ scope.names.lookup y = some .free)
  | [], i, y, h => by
    cases i with
    | zero => simp [seen] at h; exact .inl ⟨rfl, h.symm⟩
    | succ i => simp [seen] at h
  | o :: r, i, y, h => by
    cases i with
    | zero =>
      simp only [seen, List.getElem?_cons_zero, Option.some.injEq] at h
      right
      split at h
      · split at h
        · rename_i e; cases h; exact ⟨rfl, e⟩
        · cases h
      · cases h
    | succ i =>
      simp only [seen, List.getElem?_cons_succ] at h
      rcases seen_get scope x r i y h with ⟨a, b⟩ | a
      · exact .inl ⟨by simp [a], b⟩
      · exact .inr (by simpa using a)
theorem seen_last (scope : Scope) (x : Str) : ∀ (vis : List (Option Str)), (seen scope x vis)[vis.length]? = some (some x)
  | [] => rfl
  | _ :: r => by simp [seen, seen_last scope x r]
theorem nodup_inj : ∀ {vis : List (Option Str)}, (vis.filterMap id).Nodup → ∀ (i j : Nat) (y : Str), vis[i]? = some (some y) → vis[j]? = some (some y) → i = j
  | [], _, i, j, y, h, _ => by simp at h
  | o :: r, hn, i, j, y, h1, h2 => by
    have tail : (r.filterMap id).Nodup := by
      cases o with
      | none => simpa using hn
      | some z => simp at hn; exact hn.2
    have no : o = some y → ∀ k : Nat, r[k]? = some (some y) → False := fun e k hk => by
      subst e
      simp at hn
      exact hn.1 (List.mem_of_getElem? hk)
    cases i with
    | zero =>
      cases j with
      | zero => rfl
      | succ j => simp at h1 h2; exact (no h1 j h2).elim
    | succ i =>
      cases j with
      | zero => simp at h1 h2; exact (no h2 i h1).elim
      | succ j => simp at h1 h2; rw [nodup_inj tail i j y h1 h2]

theorem compOk_of {scope : Scope} {x : Str} (hsc : env.scope = Γ.sc) (h : compLk scope x Γ = true) : CompOk scope env Γ.vis (seen scope x Γ.vis) 1 := by
  simp only [compLk, Bool.and_eq_true, beq_iff_eq, decide_eq_true_eq] at h
  refine hide fun GOAL hGOAL => ?_
  obtain ⟨⟨⟨⟨⟨⟨h1, h2⟩, h3⟩, h4⟩, h5⟩, h6⟩, h7⟩ := h
  refine hGOAL ?_
  clear hGOAL GOAL
  refine ⟨h1, fun q hq e => ?_, fun q hq e => ?_, fun q hq e => ?_, fun i y hy => ?_, fun i j y h1' h2' => ?_, seen_len ..⟩
  · have := List.all_eq_true.mp h2 q hq
    simpa [e] using this
  · have := List.all_eq_true.mp h3 q hq
    simp [e] at this
  · have := List.all_eq_true.mp h4 q hq
    simp only [e, beq_self_eq_true, Bool.not_true, Bool.false_or, Bool.and_eq_true, Bool.or_eq_true, beq_iff_eq] at this
    obtain ⟨a, b⟩ := this
    obtain ⟨i, hi⟩ := List.getElem?_of_mem (List.contains_iff_mem.mp a)
    refine ⟨i, hi, ?_⟩
    show env.scope.names.lookup q.1 = _ ∨ env.scope.names.lookup q.1 = _
    rw [hsc]; exact b
  · rcases seen_get scope x Γ.vis i y hy with ⟨a, b⟩ | ⟨a, b⟩
    · exact .inl ⟨by omega, by rw [b]; exact h5⟩
    · exact .inr ⟨a, b⟩
  · rcases seen_get scope x Γ.vis i y h1' with ⟨a, b⟩ | ⟨a, b⟩ <;> rcases seen_get scope x Γ.vis j y h2' with ⟨c, d⟩ | ⟨c, d⟩
    · omega
    · rw [b, h5] at d; cases d
    · rw [d, h5] at b; cases b
    · exact nodup_inj h6 i j y a c

theorem relab_eq {scope : Scope} (hsc : env.scope = Γ.sc) : relabel scope env = relab scope Γ.sc := by
  unfold relabel relab Env.kindOf
  rw [hsc]

theorem set_of {iter : Expr} (h : noSet iter = true) (x : Value) : foldedSetIterable iter env x = Pure.pure x := by
  unfold foldedSetIterable
  cases iter <;> first | (exact absurd h Bool.false_ne_true) | rfl
theorem marks_of {op : CmpOp} {e : Expr} (h : noSet e = true) : behindInMarks op e = false := by
  cases e <;> first | (exact absurd h Bool.false_ne_true) | rfl
theorem plain_of_test {e : Expr} (h : plainT e = true) : isTrue e env (eval e env) = (do let v ← eval e env; PySem.standAt e.pos; PySem.holding [v] (truthy v)) := by
  cases e <;> first | rfl | (exact absurd h Bool.false_ne_true) | skip
  rename_i op x pos
  cases op <;> first | rfl | (exact absurd h Bool.false_ne_true)
end
end Mini

/-! Classes of objects: what the look at them gives. -/
namespace Mini
open PySem PySem.W PyProof.Rows

theorem no_true {C : Prop} (h : false = true) : C := by cases h
theorem and_of {a b : Bool} (h : (a && b) = true) : a = true ∧ b = true := by cases a <;> cases b <;> first | (exact ⟨rfl, rfl⟩) | (exact no_true h)
theorem of_dec {p : Prop} [Decidable p] (h : decide p = true) : p := of_decide_eq_true h
section
variable {W : Wd} {P : Px} {fs : List Env} {env : Env} {A : Around} {n : Nat} {F : Fns} {pos p : Pos} {Γ : Cx} {K : Frag} {h : Heap}

theorem six_of {α : Type} {l : List α} {q : α × α × α × α × α × α} (h : six l = some q) : l = [q.1, q.2.1, q.2.2.1, q.2.2.2.1, q.2.2.2.2.1, q.2.2.2.2.2] := by
  cases l with
  | nil => cases h
  | cons a l => cases l with
    | nil => cases h
    | cons b l => cases l with
      | nil => cases h
      | cons c l => cases l with
        | nil => cases h
        | cons d l => cases l with
          | nil => cases h
          | cons e l => cases l with
            | nil => cases h
            | cons f l => cases l with
              | nil => cases h; rfl
              | cons _ _ => cases h
theorem clsIn_of {d : Data} {cd : ClassData} (h : clsIn d = some cd) : d = .cls cd := by
  cases d <;> cases h
  rfl
theorem plainC_of {C N : Addr} (X : K.In h) (e : plainC K C = some N) : (∃ nm q bs sn sub col dd k0 k1 k2 k3 k5, h.get? C = some (excClassObj nm q C N bs [.type "object"] true sn sub false col dd k0 k1 k2 k3 k5 "object.__new__")) ∧ nsOkIn K N = true := by
  refine hide fun GOAL hGOAL => ?_
  obtain ⟨o, ho, e⟩ := Option.bind_eq_some_iff.mp e
  obtain ⟨cd, hd, e⟩ := Option.bind_eq_some_iff.mp e
  obtain ⟨q, hq, e⟩ := Option.bind_eq_some_iff.mp e
  replace hd := clsIn_of hd
  replace hq := six_of hq
  obtain ⟨oc, dd, od, sl⟩ := o
  obtain ⟨k0, k1, k2, k3, k4, k5⟩ := q
  dsimp only at hd hq e
  by_cases hc : (oc == .type "type" && cd.mro == [.ref C, .type "object"] && k4 == some (.builtin "object.__new__") && !cd.hasDel && cd.hasDict && !cd.abstract && nsOkIn K cd.ns) = true
  · rw [if_pos hc] at e
    cases e
    simp only [Bool.and_eq_true, beq_iff_eq, Bool.not_eq_true'] at hc
    obtain ⟨⟨⟨⟨⟨⟨rfl, hm⟩, rfl⟩, hdel⟩, hdict⟩, hab⟩, hok⟩ := hc
    obtain ⟨nm, bs, mro, ns, qn, hd', sn, sub, ab, col, del⟩ := cd
    dsimp only at hm hdel hdict hab hok
    subst hm hdel hdict hab hd
    have hsl : sl = #[k0, k1, k2, k3, some (.builtin "object.__new__"), k5] := by
      obtain ⟨l⟩ := sl
      have hq : l = _ := hq
      rw [hq]
    subst hsl
    exact hGOAL ⟨⟨nm, qn, bs, sn, sub, col, dd, k0, k1, k2, k3, k5, X _ _ ho⟩, hok⟩
  · rw [if_neg hc] at e; cases e
theorem ns_has {N : Addr} {mN : Str → Option Value} {x : Str} {v : Value} (X : K.In h) (G : h.Ns N mN) (e : nsIn K N x = some (some v)) : mN x = some v := by
  refine hide fun GOAL hGOAL => ?_
  obtain ⟨ob, es, ep, ho, hd, _, hf⟩ := G
  refine hGOAL ?_
  clear hGOAL GOAL
  rw [← hf x]
  unfold nsIn at e
  split at e
  · rename_i q
    have z := (X _ _ q).symm.trans ho
    cases z
    cases hd
    unfold nsFind findBy
    rw [← Array.find?_toList]
    split at e
    · rename_i en he
      rw [he]
      cases e
      rfl
    · split at e <;> cases e
  · cases e
theorem low_of {x : Str} (e : fastLookup "object" x = some none) : typeLookup (.type "object") x = Pure.pure none := by
  rw [typeLookup_type, builtinLookup_eq_fast, e]
theorem atts_get {N : Addr} {D : ClsD} : ∀ {xs : List Str} {j i : Nat} {x : Str}, attsFine P N D j xs = true → xs[i]? = some x → nsIn P.K N x = some ((D.meths.lookup (j + i)).map fun k => .ref (P.fa k)) ∧ fastLookup "object" x = some none
  | [], _, _, _, _, e => by simp at e
  | y :: ys, j, i, x, h, e => by
    obtain ⟨h, h3⟩ := and_of (b := attsFine P N D (j + 1) ys) h
    have h2 := (and_of h).2
    have h1 := (and_of h).1
    cases i with
    | zero =>
      have q : y = x := by simpa using e
      subst q
      refine ⟨beq_iff_eq.mp h1, ?_⟩
      split at h2
      · assumption
      · cases h2
    | succ i =>
      have := atts_get (i := i) h3 (by simpa using e)
      rw [show j + (i + 1) = j + 1 + i by omega]
      exact this
theorem cls_of (X : Fx W P A fs n F) {c : Nat} (h : newOk P c = true) : ∃ D N mN k0, ClsOk W c D N mN ∧ D.init = some k0 ∧ k0 < P.S.fns.length ∧ keepIn P.K (.ref (W.ca c)) = true ∧ makesIn P.K (W.ca c) = true ∧ findIn P.K (.ref (W.ca c)) "__init__" = some (some (.ref (W.fa k0))) ∧ typeIn P.K (.ref (W.fa k0)) = some (.type "function") := by
  refine hide fun GOAL hGOAL => ?_
  unfold newOk at h
  cases hD : P.S.cls[c]? with
  | none => rw [hD] at h; exact no_true h
  | some D =>
    rw [hD] at h
    dsimp only at h
    have h8 := (and_of h).2
    have h := (and_of h).1
    have h7 := (and_of h).2
    have h := (and_of h).1
    have h6 := (and_of h).2
    have h := (and_of h).1
    have h5 := (and_of h).2
    have h := (and_of h).1
    have h4 := (and_of h).2
    have h := (and_of h).1
    have h3 := (and_of h).2
    have h := (and_of h).1
    have h2 := (and_of h).2
    have h1 := (and_of h).1
    cases hi : D.init with
    | none => rw [hi] at h2; exact no_true h2
    | some k0 =>
      rw [hi] at h2
      dsimp only at h2
      have t3 := (and_of h2).2
      have h2 := (and_of h2).1
      have t2 := (and_of h2).2
      have t1 := (and_of h2).1
      cases hN : plainC P.K (P.ca c) with
      | none => rw [hN] at h5; exact no_true h5
      | some N =>
        rw [hN] at h5
        dsimp only at h5
        have g4 := (and_of h5).2
        have h5 := (and_of h5).1
        have g3 := (and_of h5).2
        have h5 := (and_of h5).1
        have g2 := (and_of h5).2
        have g1 := (and_of h5).1
        obtain ⟨ob, hok⟩ := plainC_of X.gl.X hN
        have ns : W.base.Ns N (W.base.nsMap N) := .of_isNs (isNs_of_in X.gl.X hok)
        have nd : P.S.attrs.Nodup := of_dec h6
        refine hGOAL ⟨D, N, _, k0, ⟨X.S ▸ hD, (Bool.not_eq_true' _).mp h1, X.ca ▸ ob, ns, ns_none_of X.gl.X ns (beq_iff_eq.mp g1), ns_none_of X.gl.X ns (beq_iff_eq.mp g2), ns_none_of X.gl.X ns (beq_iff_eq.mp g3), ?_, ?_, ?_, X.S ▸ of_dec h7, ?_⟩, hi, of_dec t1, X.ca ▸ h3, X.ca ▸ h4, X.ca ▸ X.fa ▸ beq_iff_eq.mp t2, X.fa ▸ beq_iff_eq.mp t3⟩
        · intro i x e
          rw [X.S] at e
          obtain ⟨q, _⟩ := atts_get g4 e
          rw [Nat.zero_add] at q
          rw [X.fa]
          cases hl : D.meths.lookup i with
          | none => rw [hl] at q; exact ns_none_of X.gl.X ns q
          | some k => rw [hl] at q; exact ns_has X.gl.X ns q
        · intro i x e
          rw [X.S] at e
          exact low_of (atts_get g4 e).2
        · intro i j x e1 e2
          rw [X.S] at e1 e2
          have l1 := (List.getElem?_eq_some_iff.mp e1).1
          exact (List.getElem?_inj l1 nd).mp (e1.trans e2.symm)
        · intro i k e
          rw [X.S]
          have : ∀ (l : List (Nat × Nat)), (l.all fun q => decide (q.2 < P.S.fns.length)) = true → l.lookup i = some k → k < P.S.fns.length := by
            intro l
            induction l with
            | nil => intro _ q; cases q
            | cons a l ih =>
              intro ha q
              rw [List.all_cons] at ha
              have a2 := (and_of ha).2
              have a1 := (and_of ha).1
              obtain ⟨a0, a3⟩ := a
              rw [List.lookup_cons] at q
              cases z : i == a0 with
              | true => rw [z] at q; cases q; exact of_dec a1
              | false => rw [z] at q; exact ih a2 q
          exact this _ h8 e
theorem att_of {k : Nat} {x : Str} (h : isAtt P k x = true) : P.S.attrs[k]? = some x := by
  unfold isAtt at h
  cases q : P.S.attrs[k]? with
  | none => rw [q] at h; exact no_true h
  | some y => rw [q] at h; rw [beq_iff_eq.mp h]
theorem fld_of {k : Nat} {x : Str} (h : isFld P k x = true) : P.S.attrs[k]? = some x ∧ ∀ (c : Nat) (D : ClsD), P.S.cls[c]? = some D → D.meths.lookup k = none := by
  have h2 := (and_of h).2
  have h1 := (and_of h).1
  exact ⟨att_of h1, fun c D e => Option.isNone_iff_eq_none.mp (List.all_eq_true.mp h2 D (List.mem_of_getElem? e))⟩
end
end Mini

/-! A tree that bears a core tree goes as the core tree does: expressions, whole. -/
namespace Mini
open PySem PySem.W PyProof.Rows

section
variable {W : Wd} {P : Px} {fs : List Env} {A : Around} {n : Nat} {F : Fns}

theorem e_isi {vis : List (Option Str)} {env : Env} {x y : Str} {a : Expr} {pos px py : Pos} {t : Ty} {tv : Value} {ca : Lo → Mn V} {K : Frag} (gl : Gl W K) (e1 : nsIn K mainGlobals x = some none) (b1 : bootBuiltins x = some (.builtin "isinstance")) (n1 : (x == ("__name__" : Str)) = false) (k1 : env.kindOf x = some .globalImplicit) (d1 : (x == ("__debug__" : Str)) = false)
    (hy : ∀ {s : Shared} {io : Io} {m : MH} {r : Lo} {Q : Value → Shared → Prop} {E : Value → Shared → Prop}, Sit W fs env vis s io m r → Q tv s → wpAny (model W.prog W.w) A (eval (.Name y py) env) Q E s)
    (hsim : ∀ {s : Shared} {io : Io} {m : MH} {v : V} {u : Value}, HR W s.heap io m → VR W s.heap io v u → Si W [] A fs BV (call (.builtin "isinstance") [u, tv]) s io m (isiV W.S v t m)) (hs : noStar [a] = true) (ha : SiE W A fs env vis (eval a env) ca) :
    SiE W A fs env vis (eval (.Call (.Name x px) [a, .Name y py] [] pos) env) (fun r => bnd (ca r) fun v => bnd (isiV W.S v t) fun b => ret (.bool b)) := by
  intro s io m r Z hne
  dsimp only at hne ⊢
  have hs' : noStar [a, .Name y py] = true := by cases a <;> first | rfl | exact absurd hs Bool.false_ne_true
  refine wpAny_Call_NameR (name_B gl Z e1 b1 n1 k1 d1 (Calls.callWith_builtin (plain_of hs') (args_of hs' ?_)))
  refine PyProof.Rows.spliced_more ?_ (star_cons hs')
  refine wpAny_mono (ha s io m r Z (Res.bind_ne hne)) (fun u s₁ q => ?_) fun _ _ q => q.bind .refl (.refl _)
  obtain ⟨v, m₁, io₁, e, st, H, k, sm⟩ := q
  have ee : ∀ f : V → Mn V, bnd (ca r) f m = f v m₁ := fun f => by show (ca r m).bind _ = _; rw [e]; rfl
  rw [ee] at hne ⊢
  refine PyProof.Rows.spliced_more (hy (Z.step H st) ?_) rfl
  refine PyProof.Rows.spliced_none ?_
  show wpAny (model W.prog W.w) A (call (.builtin "isinstance") [u, tv]) _ _ s₁
  refine wpAny_mono (hsim H k (Res.bind_ne hne)) (fun w s₂ q => ?_) fun _ _ q => (q.mono st sm).bind .refl (.refl _)
  obtain ⟨b, m₂, io₂, e', st2, H2, k2', sm2⟩ := q
  cases k2'
  exact ⟨.bool b, m₂, io₂, by show (isiV W.S v t m₁).bind _ = _; rw [e']; rfl, st.trans st2, H2, .bool b, sm.trans sm2⟩

theorem ty_of {t : Ty} (h : (!(tyName t == "")) = true) : ∀ c, t ≠ .cls c := fun c e => by subst e; exact absurd h Bool.false_ne_true


theorem no_some {α : Type} {a : α} {C : Prop} (h : (none : Option α) = some a) : C := by cases h
theorem no_cons {α : Type} {a : α} {l : List α} {C : Prop} (h : [] = a :: l) : C := by cases h
theorem no_succ {n : Nat} {C : Prop} (h : 0 = n + 1) : C := by cases h
theorem any_use {α : Type} {o : Option α} {f : α → Bool} {G : Prop} (h : o.any f = true) (k : ∀ a, o = some a → f a = true → G) : G := by
  cases o with
  | none => exact no_true h
  | some a => exact k a rfl h
noncomputable def IsConst (c : Const) (e : Expr) : Prop := ∃ k pos, e = .Constant c k pos
theorem vConst_of' {e : Expr} {c : Const} (h : vConst e = some c) : IsConst c e :=
  Expr.casesOn (motive_1 := fun e => vConst e = some c → IsConst c e) e (fun _ _ _ h => no_some h) (fun _ _ _ h => no_some h) (fun _ _ _ _ h => no_some h) (fun _ _ _ h => no_some h) (fun _ _ _ _ h => no_some h) (fun _ _ _ _ h => no_some h) (fun _ _ _ h => no_some h) (fun _ _ _ h => no_some h) (fun _ _ _ _ h => no_some h) (fun _ _ _ _ h => no_some h) (fun _ _ _ _ _ h => no_some h) (fun _ _ _ _ h => no_some h) (fun _ _ h => no_some h) (fun _ _ h => no_some h) (fun _ _ h => no_some h) (fun _ _ _ _ h => no_some h) (fun _ _ _ _ h => no_some h) (fun _ _ _ _ h => no_some h) (fun _ _ h => no_some h) (fun _ _ _ h => by cases h; exact ⟨_, _, rfl⟩) (fun _ _ _ h => no_some h) (fun _ _ _ h => no_some h) (fun _ _ h => no_some h) (fun _ _ h => no_some h) (fun _ _ h => no_some h) (fun _ _ _ h => no_some h) (fun _ _ _ _ h => no_some h) h
theorem vConst_of {e : Expr} {c : Const} (h : vConst e = some c) : ∃ k pos, e = .Constant c k pos := vConst_of' h
noncomputable def IsName (c : Str × Pos) (e : Expr) : Prop := e = .Name c.1 c.2
theorem vName_of' {e : Expr} {c : Str × Pos} (h : vName e = some c) : IsName c e :=
  Expr.casesOn (motive_1 := fun e => vName e = some c → IsName c e) e (fun _ _ _ h => no_some h) (fun _ _ _ h => no_some h) (fun _ _ _ _ h => no_some h) (fun _ _ _ h => no_some h) (fun _ _ _ _ h => no_some h) (fun _ _ _ _ h => no_some h) (fun _ _ _ h => no_some h) (fun _ _ _ h => no_some h) (fun _ _ _ _ h => no_some h) (fun _ _ _ _ h => no_some h) (fun _ _ _ _ _ h => no_some h) (fun _ _ _ _ h => no_some h) (fun _ _ h => no_some h) (fun _ _ h => no_some h) (fun _ _ h => no_some h) (fun _ _ _ _ h => no_some h) (fun _ _ _ _ h => no_some h) (fun _ _ _ _ h => no_some h) (fun _ _ h => no_some h) (fun _ _ _ h => no_some h) (fun _ _ _ h => no_some h) (fun _ _ _ h => no_some h) (fun _ _ h => no_some h) (fun _ _ h => by cases h; rfl) (fun _ _ h => no_some h) (fun _ _ _ h => no_some h) (fun _ _ _ _ h => no_some h) h
theorem vName_of {e : Expr} {c : Str × Pos} (h : vName e = some c) : e = .Name c.1 c.2 := vName_of' h
noncomputable def IsBin (c : Expr × Operator × Expr) (e : Expr) : Prop := ∃ pos, e = .BinOp c.1 c.2.1 c.2.2 pos
theorem vBin_of' {e : Expr} {c : Expr × Operator × Expr} (h : vBin e = some c) : IsBin c e :=
  Expr.casesOn (motive_1 := fun e => vBin e = some c → IsBin c e) e (fun _ _ _ h => no_some h) (fun _ _ _ h => no_some h) (fun _ _ _ _ h => by cases h; exact ⟨_, rfl⟩) (fun _ _ _ h => no_some h) (fun _ _ _ _ h => no_some h) (fun _ _ _ _ h => no_some h) (fun _ _ _ h => no_some h) (fun _ _ _ h => no_some h) (fun _ _ _ _ h => no_some h) (fun _ _ _ _ h => no_some h) (fun _ _ _ _ _ h => no_some h) (fun _ _ _ _ h => no_some h) (fun _ _ h => no_some h) (fun _ _ h => no_some h) (fun _ _ h => no_some h) (fun _ _ _ _ h => no_some h) (fun _ _ _ _ h => no_some h) (fun _ _ _ _ h => no_some h) (fun _ _ h => no_some h) (fun _ _ _ h => no_some h) (fun _ _ _ h => no_some h) (fun _ _ _ h => no_some h) (fun _ _ h => no_some h) (fun _ _ h => no_some h) (fun _ _ h => no_some h) (fun _ _ _ h => no_some h) (fun _ _ _ _ h => no_some h) h
theorem vBin_of {e : Expr} {c : Expr × Operator × Expr} (h : vBin e = some c) : ∃ pos, e = .BinOp c.1 c.2.1 c.2.2 pos := vBin_of' h
noncomputable def IsUn (c : UnaryOp × Expr) (e : Expr) : Prop := ∃ pos, e = .UnaryOp c.1 c.2 pos
theorem vUn_of' {e : Expr} {c : UnaryOp × Expr} (h : vUn e = some c) : IsUn c e :=
  Expr.casesOn (motive_1 := fun e => vUn e = some c → IsUn c e) e (fun _ _ _ h => no_some h) (fun _ _ _ h => no_some h) (fun _ _ _ _ h => no_some h) (fun _ _ _ h => by cases h; exact ⟨_, rfl⟩) (fun _ _ _ _ h => no_some h) (fun _ _ _ _ h => no_some h) (fun _ _ _ h => no_some h) (fun _ _ _ h => no_some h) (fun _ _ _ _ h => no_some h) (fun _ _ _ _ h => no_some h) (fun _ _ _ _ _ h => no_some h) (fun _ _ _ _ h => no_some h) (fun _ _ h => no_some h) (fun _ _ h => no_some h) (fun _ _ h => no_some h) (fun _ _ _ _ h => no_some h) (fun _ _ _ _ h => no_some h) (fun _ _ _ _ h => no_some h) (fun _ _ h => no_some h) (fun _ _ _ h => no_some h) (fun _ _ _ h => no_some h) (fun _ _ _ h => no_some h) (fun _ _ h => no_some h) (fun _ _ h => no_some h) (fun _ _ h => no_some h) (fun _ _ _ h => no_some h) (fun _ _ _ _ h => no_some h) h
theorem vUn_of {e : Expr} {c : UnaryOp × Expr} (h : vUn e = some c) : ∃ pos, e = .UnaryOp c.1 c.2 pos := vUn_of' h
noncomputable def IsBool (c : BoolOp × List Expr) (e : Expr) : Prop := ∃ pos, e = .BoolOp c.1 c.2 pos
theorem vBool_of' {e : Expr} {c : BoolOp × List Expr} (h : vBool e = some c) : IsBool c e :=
  Expr.casesOn (motive_1 := fun e => vBool e = some c → IsBool c e) e (fun _ _ _ h => by cases h; exact ⟨_, rfl⟩) (fun _ _ _ h => no_some h) (fun _ _ _ _ h => no_some h) (fun _ _ _ h => no_some h) (fun _ _ _ _ h => no_some h) (fun _ _ _ _ h => no_some h) (fun _ _ _ h => no_some h) (fun _ _ _ h => no_some h) (fun _ _ _ _ h => no_some h) (fun _ _ _ _ h => no_some h) (fun _ _ _ _ _ h => no_some h) (fun _ _ _ _ h => no_some h) (fun _ _ h => no_some h) (fun _ _ h => no_some h) (fun _ _ h => no_some h) (fun _ _ _ _ h => no_some h) (fun _ _ _ _ h => no_some h) (fun _ _ _ _ h => no_some h) (fun _ _ h => no_some h) (fun _ _ _ h => no_some h) (fun _ _ _ h => no_some h) (fun _ _ _ h => no_some h) (fun _ _ h => no_some h) (fun _ _ h => no_some h) (fun _ _ h => no_some h) (fun _ _ _ h => no_some h) (fun _ _ _ _ h => no_some h) h
theorem vBool_of {e : Expr} {c : BoolOp × List Expr} (h : vBool e = some c) : ∃ pos, e = .BoolOp c.1 c.2 pos := vBool_of' h
noncomputable def IsCmp (c : Expr × List CmpOp × List Expr) (e : Expr) : Prop := ∃ pos, e = .Compare c.1 c.2.1 c.2.2 pos
theorem vCmp_of' {e : Expr} {c : Expr × List CmpOp × List Expr} (h : vCmp e = some c) : IsCmp c e :=
  Expr.casesOn (motive_1 := fun e => vCmp e = some c → IsCmp c e) e (fun _ _ _ h => no_some h) (fun _ _ _ h => no_some h) (fun _ _ _ _ h => no_some h) (fun _ _ _ h => no_some h) (fun _ _ _ _ h => no_some h) (fun _ _ _ _ h => no_some h) (fun _ _ _ h => no_some h) (fun _ _ _ h => no_some h) (fun _ _ _ _ h => no_some h) (fun _ _ _ _ h => no_some h) (fun _ _ _ _ _ h => no_some h) (fun _ _ _ _ h => no_some h) (fun _ _ h => no_some h) (fun _ _ h => no_some h) (fun _ _ h => no_some h) (fun _ _ _ _ h => by cases h; exact ⟨_, rfl⟩) (fun _ _ _ _ h => no_some h) (fun _ _ _ _ h => no_some h) (fun _ _ h => no_some h) (fun _ _ _ h => no_some h) (fun _ _ _ h => no_some h) (fun _ _ _ h => no_some h) (fun _ _ h => no_some h) (fun _ _ h => no_some h) (fun _ _ h => no_some h) (fun _ _ _ h => no_some h) (fun _ _ _ _ h => no_some h) h
theorem vCmp_of {e : Expr} {c : Expr × List CmpOp × List Expr} (h : vCmp e = some c) : ∃ pos, e = .Compare c.1 c.2.1 c.2.2 pos := vCmp_of' h
noncomputable def IsTup (c : List Expr) (e : Expr) : Prop := ∃ k pos, e = .Tuple c k pos
theorem vTup_of' {e : Expr} {c : List Expr} (h : vTup e = some c) : IsTup c e :=
  Expr.casesOn (motive_1 := fun e => vTup e = some c → IsTup c e) e (fun _ _ _ h => no_some h) (fun _ _ _ h => no_some h) (fun _ _ _ _ h => no_some h) (fun _ _ _ h => no_some h) (fun _ _ _ _ h => no_some h) (fun _ _ _ _ h => no_some h) (fun _ _ _ h => no_some h) (fun _ _ _ h => no_some h) (fun _ _ _ _ h => no_some h) (fun _ _ _ _ h => no_some h) (fun _ _ _ _ _ h => no_some h) (fun _ _ _ _ h => no_some h) (fun _ _ h => no_some h) (fun _ _ h => no_some h) (fun _ _ h => no_some h) (fun _ _ _ _ h => no_some h) (fun _ _ _ _ h => no_some h) (fun _ _ _ _ h => no_some h) (fun _ _ h => no_some h) (fun _ _ _ h => no_some h) (fun _ _ _ h => no_some h) (fun _ _ _ h => no_some h) (fun _ _ h => no_some h) (fun _ _ h => no_some h) (fun _ _ h => no_some h) (fun _ _ _ h => by cases h; exact ⟨_, _, rfl⟩) (fun _ _ _ _ h => no_some h) h
theorem vTup_of {e : Expr} {c : List Expr} (h : vTup e = some c) : ∃ k pos, e = .Tuple c k pos := vTup_of' h
noncomputable def IsList (c : List Expr) (e : Expr) : Prop := ∃ pos, e = .List c pos
theorem vList_of' {e : Expr} {c : List Expr} (h : vList e = some c) : IsList c e :=
  Expr.casesOn (motive_1 := fun e => vList e = some c → IsList c e) e (fun _ _ _ h => no_some h) (fun _ _ _ h => no_some h) (fun _ _ _ _ h => no_some h) (fun _ _ _ h => no_some h) (fun _ _ _ _ h => no_some h) (fun _ _ _ _ h => no_some h) (fun _ _ _ h => no_some h) (fun _ _ _ h => no_some h) (fun _ _ _ _ h => no_some h) (fun _ _ _ _ h => no_some h) (fun _ _ _ _ _ h => no_some h) (fun _ _ _ _ h => no_some h) (fun _ _ h => no_some h) (fun _ _ h => no_some h) (fun _ _ h => no_some h) (fun _ _ _ _ h => no_some h) (fun _ _ _ _ h => no_some h) (fun _ _ _ _ h => no_some h) (fun _ _ h => no_some h) (fun _ _ _ h => no_some h) (fun _ _ _ h => no_some h) (fun _ _ _ h => no_some h) (fun _ _ h => no_some h) (fun _ _ h => no_some h) (fun _ _ h => by cases h; exact ⟨_, rfl⟩) (fun _ _ _ h => no_some h) (fun _ _ _ _ h => no_some h) h
theorem vList_of {e : Expr} {c : List Expr} (h : vList e = some c) : ∃ pos, e = .List c pos := vList_of' h
noncomputable def IsDict (c : List (Option Expr) × List Expr) (e : Expr) : Prop := ∃ pos, e = .Dict c.1 c.2 pos
theorem vDict_of' {e : Expr} {c : List (Option Expr) × List Expr} (h : vDict e = some c) : IsDict c e :=
  Expr.casesOn (motive_1 := fun e => vDict e = some c → IsDict c e) e (fun _ _ _ h => no_some h) (fun _ _ _ h => no_some h) (fun _ _ _ _ h => no_some h) (fun _ _ _ h => no_some h) (fun _ _ _ _ h => no_some h) (fun _ _ _ _ h => no_some h) (fun _ _ _ h => by cases h; exact ⟨_, rfl⟩) (fun _ _ _ h => no_some h) (fun _ _ _ _ h => no_some h) (fun _ _ _ _ h => no_some h) (fun _ _ _ _ _ h => no_some h) (fun _ _ _ _ h => no_some h) (fun _ _ h => no_some h) (fun _ _ h => no_some h) (fun _ _ h => no_some h) (fun _ _ _ _ h => no_some h) (fun _ _ _ _ h => no_some h) (fun _ _ _ _ h => no_some h) (fun _ _ h => no_some h) (fun _ _ _ h => no_some h) (fun _ _ _ h => no_some h) (fun _ _ _ h => no_some h) (fun _ _ h => no_some h) (fun _ _ h => no_some h) (fun _ _ h => no_some h) (fun _ _ _ h => no_some h) (fun _ _ _ _ h => no_some h) h
theorem vDict_of {e : Expr} {c : List (Option Expr) × List Expr} (h : vDict e = some c) : ∃ pos, e = .Dict c.1 c.2 pos := vDict_of' h
noncomputable def IsSub (c : Expr × Expr) (e : Expr) : Prop := ∃ pos, e = .Subscript c.1 c.2 pos
theorem vSub_of' {e : Expr} {c : Expr × Expr} (h : vSub e = some c) : IsSub c e :=
  Expr.casesOn (motive_1 := fun e => vSub e = some c → IsSub c e) e (fun _ _ _ h => no_some h) (fun _ _ _ h => no_some h) (fun _ _ _ _ h => no_some h) (fun _ _ _ h => no_some h) (fun _ _ _ _ h => no_some h) (fun _ _ _ _ h => no_some h) (fun _ _ _ h => no_some h) (fun _ _ _ h => no_some h) (fun _ _ _ _ h => no_some h) (fun _ _ _ _ h => no_some h) (fun _ _ _ _ _ h => no_some h) (fun _ _ _ _ h => no_some h) (fun _ _ h => no_some h) (fun _ _ h => no_some h) (fun _ _ h => no_some h) (fun _ _ _ _ h => no_some h) (fun _ _ _ _ h => no_some h) (fun _ _ _ _ h => no_some h) (fun _ _ h => no_some h) (fun _ _ _ h => no_some h) (fun _ _ _ h => no_some h) (fun _ _ _ h => by cases h; exact ⟨_, rfl⟩) (fun _ _ h => no_some h) (fun _ _ h => no_some h) (fun _ _ h => no_some h) (fun _ _ _ h => no_some h) (fun _ _ _ _ h => no_some h) h
theorem vSub_of {e : Expr} {c : Expr × Expr} (h : vSub e = some c) : ∃ pos, e = .Subscript c.1 c.2 pos := vSub_of' h
noncomputable def IsSlice (c : Option Expr × Option Expr × Option Expr) (e : Expr) : Prop := ∃ pos, e = .Slice c.1 c.2.1 c.2.2 pos
theorem vSlice_of' {e : Expr} {c : Option Expr × Option Expr × Option Expr} (h : vSlice e = some c) : IsSlice c e :=
  Expr.casesOn (motive_1 := fun e => vSlice e = some c → IsSlice c e) e (fun _ _ _ h => no_some h) (fun _ _ _ h => no_some h) (fun _ _ _ _ h => no_some h) (fun _ _ _ h => no_some h) (fun _ _ _ _ h => no_some h) (fun _ _ _ _ h => no_some h) (fun _ _ _ h => no_some h) (fun _ _ _ h => no_some h) (fun _ _ _ _ h => no_some h) (fun _ _ _ _ h => no_some h) (fun _ _ _ _ _ h => no_some h) (fun _ _ _ _ h => no_some h) (fun _ _ h => no_some h) (fun _ _ h => no_some h) (fun _ _ h => no_some h) (fun _ _ _ _ h => no_some h) (fun _ _ _ _ h => no_some h) (fun _ _ _ _ h => no_some h) (fun _ _ h => no_some h) (fun _ _ _ h => no_some h) (fun _ _ _ h => no_some h) (fun _ _ _ h => no_some h) (fun _ _ h => no_some h) (fun _ _ h => no_some h) (fun _ _ h => no_some h) (fun _ _ _ h => no_some h) (fun _ _ _ _ h => by cases h; exact ⟨_, rfl⟩) h
theorem vSlice_of {e : Expr} {c : Option Expr × Option Expr × Option Expr} (h : vSlice e = some c) : ∃ pos, e = .Slice c.1 c.2.1 c.2.2 pos := vSlice_of' h
noncomputable def IsCall (c : Expr × List Expr × List Keyword × Pos) (e : Expr) : Prop := e = .Call c.1 c.2.1 c.2.2.1 c.2.2.2
theorem vCall_of' {e : Expr} {c : Expr × List Expr × List Keyword × Pos} (h : vCall e = some c) : IsCall c e :=
  Expr.casesOn (motive_1 := fun e => vCall e = some c → IsCall c e) e (fun _ _ _ h => no_some h) (fun _ _ _ h => no_some h) (fun _ _ _ _ h => no_some h) (fun _ _ _ h => no_some h) (fun _ _ _ _ h => no_some h) (fun _ _ _ _ h => no_some h) (fun _ _ _ h => no_some h) (fun _ _ _ h => no_some h) (fun _ _ _ _ h => no_some h) (fun _ _ _ _ h => no_some h) (fun _ _ _ _ _ h => no_some h) (fun _ _ _ _ h => no_some h) (fun _ _ h => no_some h) (fun _ _ h => no_some h) (fun _ _ h => no_some h) (fun _ _ _ _ h => no_some h) (fun _ _ _ _ h => by cases h; rfl) (fun _ _ _ _ h => no_some h) (fun _ _ h => no_some h) (fun _ _ _ h => no_some h) (fun _ _ _ h => no_some h) (fun _ _ _ h => no_some h) (fun _ _ h => no_some h) (fun _ _ h => no_some h) (fun _ _ h => no_some h) (fun _ _ _ h => no_some h) (fun _ _ _ _ h => no_some h) h
theorem vCall_of {e : Expr} {c : Expr × List Expr × List Keyword × Pos} (h : vCall e = some c) : e = .Call c.1 c.2.1 c.2.2.1 c.2.2.2 := vCall_of' h
noncomputable def IsAttr (c : Expr × Str × Pos) (e : Expr) : Prop := e = .Attribute c.1 c.2.1 c.2.2
theorem vAttr_of' {e : Expr} {c : Expr × Str × Pos} (h : vAttr e = some c) : IsAttr c e :=
  Expr.casesOn (motive_1 := fun e => vAttr e = some c → IsAttr c e) e (fun _ _ _ h => no_some h) (fun _ _ _ h => no_some h) (fun _ _ _ _ h => no_some h) (fun _ _ _ h => no_some h) (fun _ _ _ _ h => no_some h) (fun _ _ _ _ h => no_some h) (fun _ _ _ h => no_some h) (fun _ _ _ h => no_some h) (fun _ _ _ _ h => no_some h) (fun _ _ _ _ h => no_some h) (fun _ _ _ _ _ h => no_some h) (fun _ _ _ _ h => no_some h) (fun _ _ h => no_some h) (fun _ _ h => no_some h) (fun _ _ h => no_some h) (fun _ _ _ _ h => no_some h) (fun _ _ _ _ h => no_some h) (fun _ _ _ _ h => no_some h) (fun _ _ h => no_some h) (fun _ _ _ h => no_some h) (fun _ _ _ h => by cases h; rfl) (fun _ _ _ h => no_some h) (fun _ _ h => no_some h) (fun _ _ h => no_some h) (fun _ _ h => no_some h) (fun _ _ _ h => no_some h) (fun _ _ _ _ h => no_some h) h
theorem vAttr_of {e : Expr} {c : Expr × Str × Pos} (h : vAttr e = some c) : e = .Attribute c.1 c.2.1 c.2.2 := vAttr_of' h
noncomputable def IsComp (c : Expr × List Comprehension × Scope) (e : Expr) : Prop := ∃ pos, e = .ListComp c.1 c.2.1 c.2.2 pos
theorem vComp_of' {e : Expr} {c : Expr × List Comprehension × Scope} (h : vComp e = some c) : IsComp c e :=
  Expr.casesOn (motive_1 := fun e => vComp e = some c → IsComp c e) e (fun _ _ _ h => no_some h) (fun _ _ _ h => no_some h) (fun _ _ _ _ h => no_some h) (fun _ _ _ h => no_some h) (fun _ _ _ _ h => no_some h) (fun _ _ _ _ h => no_some h) (fun _ _ _ h => no_some h) (fun _ _ _ h => no_some h) (fun _ _ _ _ h => by cases h; exact ⟨_, rfl⟩) (fun _ _ _ _ h => no_some h) (fun _ _ _ _ _ h => no_some h) (fun _ _ _ _ h => no_some h) (fun _ _ h => no_some h) (fun _ _ h => no_some h) (fun _ _ h => no_some h) (fun _ _ _ _ h => no_some h) (fun _ _ _ _ h => no_some h) (fun _ _ _ _ h => no_some h) (fun _ _ h => no_some h) (fun _ _ _ h => no_some h) (fun _ _ _ h => no_some h) (fun _ _ _ h => no_some h) (fun _ _ h => no_some h) (fun _ _ h => no_some h) (fun _ _ h => no_some h) (fun _ _ _ h => no_some h) (fun _ _ _ _ h => no_some h) h
theorem vComp_of {e : Expr} {c : Expr × List Comprehension × Scope} (h : vComp e = some c) : ∃ pos, e = .ListComp c.1 c.2.1 c.2.2 pos := vComp_of' h
theorem vOne_of {α : Type} {l : List α} {x : α} (h : vOne l = some x) : l = [x] := by
  cases l with
  | nil => exact no_some h
  | cons y l => cases l with
    | nil => cases h; rfl
    | cons _ _ => exact no_some h
theorem vTwo_of {α : Type} {l : List α} {x : α × α} (h : vTwo l = some x) : l = [x.1, x.2] := by
  cases l with
  | nil => exact no_some h
  | cons y l => cases l with
    | nil => exact no_some h
    | cons z l => cases l with
      | nil => cases h; rfl
      | cons _ _ => exact no_some h
theorem vCallN_of {e : Expr} {c : Str × List Expr} (h : vCallN e = some c) : ∃ p pos, e = .Call (.Name c.1 p) c.2 [] pos := by
  unfold vCallN at h
  cases q : vCall e with
  | none => rw [q] at h; exact no_some h
  | some a =>
    rw [q] at h
    have h' : (if a.2.2.1.isEmpty then (vName a.1).map fun x => (x.1, a.2.1) else none) = some c := h
    by_cases k : a.2.2.1.isEmpty = true
    · rw [if_pos k] at h'
      cases r : vName a.1 with
      | none => rw [r] at h'; exact no_some h'
      | some x =>
        rw [r] at h'
        cases h'
        refine ⟨x.2, a.2.2.2, ?_⟩
        rw [vCall_of q, vName_of r, List.isEmpty_iff.mp k]
    · rw [if_neg k] at h'; exact no_some h'
theorem isNeg_of {op : UnaryOp} (h : isNeg op = true) : op = .USub := by cases op <;> first | rfl | (exact no_true h)
theorem isNot_of {op : UnaryOp} (h : isNot op = true) : op = .Not := by cases op <;> first | rfl | (exact no_true h)
theorem ne_of_isEmpty {α : Type} {l : List α} (h : (!l.isEmpty) = true) : l ≠ [] := by intro q; rw [q] at h; exact no_true h
theorem nil_of {α : Type} {l : List α} (h : l.isEmpty = true) : l = [] := List.isEmpty_iff.mp h

theorem mEs_nil {Γ : Cx} {es : List Expr} (h : mEs P Γ [] es = true) : es = [] := nil_of h
theorem mEs_cons {Γ : Cx} {c : CE} {cs : List CE} {es : List Expr} (h : mEs P Γ (c :: cs) es = true) : ∃ e es', es = e :: es' ∧ mE P Γ c e = true ∧ mEs P Γ cs es' = true := by
  cases es with
  | nil => exact no_true h
  | cons e es => have := and_of (a := mE P Γ c e) (b := mEs P Γ cs es) h; exact ⟨e, es, rfl, this.1, this.2⟩
theorem mIfs_nil {Γ : Cx} {es : List Expr} (h : mIfs P Γ [] es = true) : es = [] := nil_of h
theorem mIfs_cons {Γ : Cx} {c : CB} {cs : List CB} {es : List Expr} (h : mIfs P Γ (c :: cs) es = true) : ∃ e es', es = e :: es' ∧ mB P Γ c e = true ∧ mIfs P Γ cs es' = true := by
  cases es with
  | nil => exact no_true h
  | cons e es => have := and_of (a := mB P Γ c e) (b := mIfs P Γ cs es) h; exact ⟨e, es, rfl, this.1, this.2⟩
theorem src_of {Γ : Cx} {env : Env} {k : IK} {iter : Expr} {src : List CE} (X : Fx W P A fs n F) (hsc : env.scope = Γ.sc) (h : mSrc P Γ (fun es => mEs P Γ src es) k iter = true)
    (one : ∀ e c, src = [c] → mE P Γ c e = true → SiE W A fs env Γ.vis (eval e env) (fun r => ev P.S F c r))
    (all : ∀ es pos, noStar es = true → mEs P Γ src es = true → SiL W A fs env Γ.vis (spliced (backTo pos (starEach es env))) (fun r => evs P.S F src r)) :
    SiSrc W A fs env Γ.vis iter (fun r => bnd (evs P.S F src r) (srcV k)) := by
  obtain ⟨hl, h⟩ := and_of h
  have hh := X.hh hl
  cases k with
  | expr =>
    have h1 : mEs P Γ src [iter] = true := h
    cases src with
    | nil => exact no_true h1
    | cons c cs =>
      obtain ⟨e, es', he, hm, hr⟩ := mEs_cons h1
      cases he
      cases cs with
      | cons c' cs => exact no_true hr
      | nil =>
        have := src_expr X.gl.ok hh (one _ c rfl hm)
        intro s io m r Z
        have eq : bnd (evs P.S F [c] r) (srcV .expr) = bnd (ev P.S F c r) itemsV := by
          funext m
          show Res.bind (Res.bind (ev P.S F c r m) _) _ = Res.bind (ev P.S F c r m) _
          cases ev P.S F c r m <;> rfl
        dsimp only
        rw [eq]
        exact this s io m r Z
  | range =>
    refine any_use (o := vCallN iter) h fun q hq h => ?_
    obtain ⟨px, pos, rfl⟩ := vCallN_of hq
    have h3 := (and_of h).2
    have h12 := (and_of h).1
    have h2 := (and_of h12).2
    have h1 := (and_of h12).1
    obtain ⟨a, b, c, d, e⟩ := typ_of hsc h1
    exact src_range hh X.gl d e c a b h2 (all q.2 pos h2 h3)
  | enum => exact no_true h

theorem cmp_of {Γ : Cx} {ca : CE} {cops ops : List CmpOp} {cbs : List CE} {a : Expr} {bs : List Expr} {pos : Pos} (h : mE P Γ (.cmp ca cops cbs) (.Compare a ops bs pos) = true) : cops = ops ∧ mE P Γ ca a = true ∧ mEs P Γ cbs bs = true ∧ cops.length = cbs.length ∧ cbs ≠ [] ∧ bs.all noSet = true := by
  have h : (decide (cops = ops) && mE P Γ ca a && mEs P Γ cbs bs && decide (cops.length = cbs.length) && !cbs.isEmpty && bs.all noSet) = true := h
  have h5 := (and_of h).2
  have h := (and_of h).1
  have h4 := (and_of h).2
  have h := (and_of h).1
  have h3 := (and_of h).2
  have h := (and_of h).1
  have h2 := (and_of h).2
  have h := (and_of h).1
  have h1 := (and_of h).2
  have h0 := (and_of h).1
  exact ⟨of_dec h0, h1, h2, of_dec h3, ne_of_isEmpty h4, h5⟩
theorem val_of {Γ : Cx} {c : CE} {e : Expr} (h : mB P Γ (.val c) e = true) : (plainT e = true ∧ mE P Γ c e = true) ∨ ∃ a ops bs pos, e = .Compare a ops bs pos ∧ mE P Γ c e = true := by
  obtain ⟨h1, h2⟩ := and_of (a := plainT e || (vCmp e).isSome) (b := mE P Γ c e) h
  cases q : plainT e with
  | true => exact .inl ⟨rfl, h2⟩
  | false =>
    rw [q] at h1
    cases r : vCmp e with
    | none => rw [r] at h1; exact no_true h1
    | some x => obtain ⟨pos, he⟩ := vCmp_of r; exact .inr ⟨_, _, _, _, he, h2⟩

theorem none_fun {c : CE} (h : noneC c = true) : (fun r => ev P.S F c r) = fun _ => ret V.none := by
  cases c with
  | cnst v => cases v <;> first | rfl | (exact no_true h)
  | _ => exact no_true h
theorem o_of {Γ : Cx} {env : Env} {c : CE} {o : Option Expr} (h : o.elim (noneC c) (fun l => mE P Γ c l) = true) (k : ∀ l, mE P Γ c l = true → SiE W A fs env Γ.vis (eval l env) (fun r => ev P.S F c r)) : SiO W A fs env Γ.vis o (fun r => ev P.S F c r) := by
  cases o with
  | some l => exact o_some (k l h)
  | none =>
    have hc : noneC c = true := h
    have : (fun r => ev P.S F c r) = fun _ => ret V.none := by
      exact none_fun hc
    rw [this]
    exact o_none

theorem e_loc {Γ : Cx} {env : Env} {i : Nat} {x : Str} {pos : Pos} (hsc : env.scope = Γ.sc) (h : isLoc Γ i x = true) : SiE W A fs env Γ.vis (eval (.Name x pos) env) (fun r => match r[i]? with | some (some v) => ret v | _ => bad) := by
  have h4 := (and_of h).2
  have h := (and_of h).1
  have h3 := (and_of h).2
  have h := (and_of h).1
  have h2 := (and_of h).2
  have h1 := (and_of h).1
  refine e_var ?_ ?_ (Bool.not_eq_true' _ ▸ h3) (Bool.not_eq_true' _ ▸ h4)
  · exact eq_of_beq h1
  · show env.scope.names.lookup x = _ ∨ env.scope.names.lookup x = _ ∨ env.scope.names.lookup x = _
    rw [hsc]
    rcases Bool.or_eq_true_iff.mp h2 with q | q
    · rcases Bool.or_eq_true_iff.mp q with q | q
      · exact .inl (eq_of_beq q)
      · exact .inr (.inl (eq_of_beq q))
    · exact .inr (.inr (eq_of_beq q))
theorem e_bi {Γ : Cx} {env : Env} {b : Bi} {x : Str} {es : List Expr} {p pos : Pos} {cl : Lo → Mn (List V)} (X : Fx W P A fs n F) (hsc : env.scope = Γ.sc) (hl0 : P.loud = true) (h1 : biOk b = true) (h2 : isBi P Γ b x = true) (h3 : noStar es = true)
    (hl : ∀ pos, SiL W A fs env Γ.vis (spliced (backTo pos (starEach es env))) cl) : SiE W A fs env Γ.vis (eval (.Call (.Name x p) es [] pos) env) (fun r => bnd (cl r) fun vs => biV b vs) := by
  have hf := bi_sim (W := W) (A := A) (fs := fs) X.gl.ok (X.hh hl0) h1
  have h2 : (match biFn b with | .builtin id => isBlt P Γ x id | .type id => isTyp P Γ x id | _ => false) = true := h2
  generalize biFn b = fv at hf h2
  cases fv with
  | builtin id =>
    have g := blt_of hsc (id := id) h2
    exact e_callB X.gl g.2.2.2.1 g.2.2.2.2 g.2.2.1 g.1 g.2.1 h3 (hl _) hf
  | type id =>
    have g := typ_of hsc (id := id) h2
    exact e_callT X.gl g.2.2.2.1 g.2.2.2.2 g.2.2.1 g.1 g.2.1 h3 (hl _) hf
  | _ => exact no_true h2
theorem val_vr {v : Value} {l : Lt} {h : Heap} {io : Io} (k : isVal v l = true) : VR W h io l.val v := by
  cases l with
  | int i => cases v <;> first | (exact no_true k) | (rw [show i = _ from eq_of_beq k]; exact .int _ _)
  | str x => cases v <;> first | (exact no_true k) | (obtain ⟨k1, k2⟩ := and_of k; rw [show x = _ from eq_of_beq k1] at k2 ⊢; exact .str _ _ k2)
  | bool b => cases v <;> first | (exact no_true k) | (rw [show b = _ from eq_of_beq k]; exact .bool _)
  | none => cases v <;> first | (exact no_true k) | exact .none
theorem e_glob {Γ : Cx} {env : Env} {i : Nat} {x : Str} {pos : Pos} (X : Fx W P A fs n F) (hsc : env.scope = Γ.sc) (h : isCon P Γ i x = true) : SiE W A fs env Γ.vis (eval (.Name x pos) env) (fun r => ev P.S F (.glob i) r) := by
  have h2 := (and_of h).2
  have h1 := (and_of h).1
  obtain ⟨a, b, _⟩ := glb_of hsc h1
  refine any_use h2 fun o e1 h3 => ?_
  refine any_use h3 fun v e2 h4 => ?_
  refine any_use h4 fun p e3 h5 => ?_
  rw [e2] at e1
  intro s io m r Z hne
  refine name_K X.gl Z e1 a b ⟨p.2.val, m, io, ?_, .refl, Z.H, val_vr h5, .refl _⟩
  show (match P.S.globs[i]? with | some p => ret p.2.val | Option.none => bad) m = _
  rw [e3]; rfl
theorem two_ops {ops : List CmpOp} {c c' : CE} {cs : List CE} (h : ops.length = (c :: c' :: cs).length) : ∃ op op' ops', ops = op :: op' :: ops' := by
  cases ops with
  | nil => exact no_succ h
  | cons op ops => cases ops with
    | nil => exact no_succ (Nat.succ.inj h)
    | cons op' ops => exact ⟨op, op', ops, rfl⟩
theorem gen_eq {g : Comprehension} {x : Str × Pos} (hx : vName g.target = some x) (h0 : (g.is_async == 0) = true) : g = ⟨.Name x.1 x.2, g.iter, g.ifs, 0⟩ := by
  cases g
  rw [← vName_of hx, ← beq_iff_eq.mp h0]
theorem comp_all {Γ : Cx} {env : Env} {e0 iter : Expr} {ifs' : List Expr} {scope : Scope} {px pos : Pos} {x : Str} {src : List CE} {k : IK} {ifs : List CB} {elt : CE} (ck : CompOk scope env Γ.vis (seen scope x Γ.vis) 1) (hs : ∀ y, foldedSetIterable iter env y = Pure.pure y)
    (hsrc : SiSrc W A fs env Γ.vis iter (fun r => bnd (evs P.S F src r) (srcV k))) (hifs : ∀ cl C, SiB W A fs (compEnvC scope cl C env) (seen scope x Γ.vis) (tests ifs' (compEnvC scope cl C env) true) (fun r => evIf P.S F ifs r))
    (helt : ∀ cl C, SiE W A fs (compEnvC scope cl C env) (seen scope x Γ.vis) (eval e0 (compEnvC scope cl C env)) (fun r => ev P.S F elt r)) :
    SiE W A fs env Γ.vis (eval (.ListComp e0 [⟨.Name x px, iter, ifs', 0⟩] scope pos) env) (fun r => ev P.S F (.comp elt (.one Γ.vis.length) 1 k src ifs) r) := by
  have := e_comp (pos := pos) (px := px) (j := Γ.vis.length) ck hs (seen_last scope x Γ.vis) (Nat.le_refl _) hsrc hifs helt
  intro s io m r Z
  have eq : ev P.S F (.comp elt (.one Γ.vis.length) 1 k src ifs) r = bnd (bnd (evs P.S F src r) (srcV k)) fun p => bnd (compD p.2 (stepOf Γ.vis.length (r ++ List.replicate 1 none) (fun r => evIf P.S F ifs r) (fun r => ev P.S F elt r)) p.1) fun l => if l.length ≤ lid then alloc (.list l) else bad := by
    rw [bnd_assoc]; rfl
  dsimp only
  rw [eq]
  exact this s io m r Z

theorem isi_all (X : Fx W P A fs n F) {Γ : Cx} {env : Env} {x y : Str} {a : Expr} {pos px py : Pos} {t : Ty} {ca : Lo → Mn V} (hsc : env.scope = Γ.sc) (e1 : nsIn P.K mainGlobals x = some none) (b1 : bootBuiltins x = some (.builtin "isinstance")) (n1 : (x == ("__name__" : Str)) = false) (k1 : env.kindOf x = some .globalImplicit) (d1 : (x == ("__debug__" : Str)) = false)
    (ht : isTy P Γ t y = true) (hs : noStar [a] = true) (ha : SiE W A fs env Γ.vis (eval a env) ca) : SiE W A fs env Γ.vis (eval (.Call (.Name x px) [a, .Name y py] [] pos) env) (fun r => bnd (ca r) fun v => bnd (isiV P.S v t) fun b => ret (.bool b)) := by
  rw [← X.S]
  have plain : isTyp P Γ y (tyName t) = true → (!(tyName t == "")) = true → SiE W A fs env Γ.vis (eval (.Call (.Name x px) [a, .Name y py] [] pos) env) (fun r => bnd (ca r) fun v => bnd (isiV W.S v t) fun b => ret (.bool b)) := fun h2 h3 => by
    obtain ⟨a2, b2, c2, d2, e2⟩ := typ_of hsc h2
    exact e_isi X.gl e1 b1 n1 k1 d1 (fun Z q => name_B X.gl Z d2 e2 c2 a2 b2 q) (fun H k => isi_sim H (ty_of h3) k) hs ha
  cases t with
  | cls c =>
    have h2 := (and_of ht).2
    have h1 := (and_of ht).1
    have rel : ∀ d x, W.S.cls[d]? = some x → x.exc = true → excCls P.K (W.ca d) = true ∧ kitOne P.K (.ref (W.ca d)) (clsV P c) = some (x.supers.contains c) := fun d x hd hx => by
      rw [X.S] at hd
      have := allCls_get h2 hd
      rw [Nat.zero_add] at this
      have this : (!x.exc || (excCls P.K (P.ca d) && kitOne P.K (.ref (P.ca d)) (clsV P c) == some (x.supers.contains c))) = true := this
      rw [hx] at this
      obtain ⟨q1, q2⟩ := and_of (a := excCls P.K (P.ca d)) (b := kitOne P.K (.ref (P.ca d)) (clsV P c) == some (x.supers.contains c)) this
      rw [X.ca]
      exact ⟨q1, beq_iff_eq.mp q2⟩
    cases c with
    | zero =>
      obtain ⟨a2, b2, c2, d2, e2⟩ := typ_of hsc (id := "ValueError") h1
      exact e_isi X.gl e1 b1 n1 k1 d1 (fun Z q => name_B X.gl Z d2 e2 c2 a2 b2 q) (fun H k => isi_cls X.gl.X rel H k) hs ha
    | succ c =>
      obtain ⟨a2, b2, e2⟩ := own_of hsc (c := c + 1) h1
      exact e_isi X.gl e1 b1 n1 k1 d1 (fun Z q => name_K X.gl Z e2 a2 b2 q) (fun H k => isi_cls X.gl.X rel H k) hs ha
  | _ => exact plain (and_of ht).1 (and_of ht).2
theorem new_all (X : Fx W P A fs n F) {Γ : Cx} {env : Env} {c : Nat} {x : Str} {es : List Expr} {p pos : Pos} {cl : Lo → Mn (List V)} (hsc : env.scope = Γ.sc) (h1 : P.ok.isNone = true) (h2 : isOwn P Γ c x = true) (h3 : newOk P c = true) (h4 : noStar es = true) (hl : SiL W A fs env Γ.vis (spliced (backTo pos (starEach es env))) cl) :
    SiE W A fs env Γ.vis (eval (.Call (.Name x p) es [] pos) env) (fun r => bnd (cl r) fun vs => newD P.S F c vs) := by
  obtain ⟨D, N, mN, k0, C, c1, c2, c3, c4, c5, c6⟩ := cls_of X h3
  obtain ⟨a, b, e⟩ := own_of hsc h2
  have := e_new (F := F) (p := p) X.gl (X.ca.symm ▸ e) a b h4 C c1 c3 c4 c5 c6 (X.new (Option.isNone_iff_eq_none.mp h1) k0 c2) hl
  rw [X.S] at this
  exact this
theorem meth_all (X : Fx W P A fs n F) {Γ : Cx} {env : Env} {k : Nat} {o : Expr} {x : Str} {es : List Expr} {apos pos : Pos} {co : Lo → Mn V} {cl : Lo → Mn (List V)} (h1 : P.ok.isNone = true) (h2 : isAtt P k x = true) (h3 : noSuper o = true) (h4 : noStar es = true) (h5 : es.length < 29) (h6 : (apos.endLine == pos.line) = true) (ho : SiE W A fs env Γ.vis (eval o env) co) (hl : SiL W A fs env Γ.vis (spliced (backTo pos (starEach es env))) cl) :
    SiE W A fs env Γ.vis (eval (.Call (.Attribute o x apos) es [] pos) env) (fun r => bnd (co r) fun v => bnd (methK P.S k v) fun j => bnd (cl r) fun vs => F j (v :: vs)) := by
  have hn := Option.isNone_iff_eq_none.mp h1
  have := e_meth (F := F) (apos := apos) X.gl h3 h4 h5 h6 (X.S.symm ▸ att_of h2) (fun j hj => X.fa.symm ▸ X.objs hn j (X.S ▸ hj)) (fun j _ => X.calls j (by unfold Px.can; rw [hn])) ho hl
  rw [X.S] at this
  exact this

mutual
theorem evE (X : Fx W P A fs n F) : ∀ (c : CE) (Γ : Cx) (env : Env) (e : Expr), env.scope = Γ.sc → mE P Γ c e = true → SiE W A fs env Γ.vis (eval e env) (fun r => ev P.S F c r)
  | .cnst v, Γ, env, e, hsc, h => by
    refine any_use (o := vConst e) h fun q hq h => ?_
    obtain ⟨_, _, rfl⟩ := vConst_of hq
    exact e_const (by cases v <;> cases q <;> exact h)
  | .var i, Γ, env, e, hsc, h => by
    refine any_use (o := vName e) h fun q hq h => ?_
    rw [vName_of hq]
    exact e_loc hsc h
  | .glob i, Γ, env, e, hsc, h => by
    refine any_use (o := vName e) h fun q hq h => ?_
    rw [vName_of hq]
    exact e_glob X hsc h
  | .fnv _, _, _, _, _, h => no_true h
  | .bin op a b, Γ, env, e, hsc, h => by
    refine any_use (o := vBin e) h fun q hq h => ?_
    obtain ⟨_, rfl⟩ := vBin_of hq
    have h2 := (and_of h).2
    have h := (and_of h).1
    have h1 := (and_of h).2
    have h0 := (and_of h).1
    rw [← of_dec h0]
    exact e_bin (evE X a Γ env _ hsc h1) (evE X b Γ env _ hsc h2)
  | .neg a, Γ, env, e, hsc, h => by
    refine any_use (o := vUn e) h fun q hq h => ?_
    obtain ⟨_, rfl⟩ := vUn_of hq
    have h1 := (and_of h).2
    have h0 := (and_of h).1
    rw [isNeg_of h0]
    exact e_neg (evE X a Γ env _ hsc h1)
  | .not a, Γ, env, e, hsc, h => by
    refine any_use (o := vUn e) h fun q hq h => ?_
    obtain ⟨_, rfl⟩ := vUn_of hq
    have h1 := (and_of h).2
    have h0 := (and_of h).1
    rw [isNot_of h0]
    exact e_not (evE X a Γ env _ hsc h1)
  | .boolop c as, Γ, env, e, hsc, h => by
    refine any_use (o := vBool e) h fun q hq h => ?_
    obtain ⟨_, rfl⟩ := vBool_of hq
    have h3 := (and_of h).2
    have h := (and_of h).1
    have h2 := (and_of h).2
    have h1 := (and_of h).1
    exact evBo X as Γ env _ _ _ _ hsc h1 h2 (ne_of_isEmpty h3)
  | .cmp a ops bs, Γ, env, e, hsc, h => by
    have h0 := h
    refine any_use (o := vCmp e) h fun q hq _ => ?_
    obtain ⟨pos, rfl⟩ := vCmp_of hq
    obtain ⟨h0, h1, h2, h3, h4, h5⟩ := cmp_of h0
    rw [← h0]
    exact e_cmp (evE X a Γ env _ hsc h1) (evCm X bs Γ env _ _ _ hsc h3 h4 h2 h5)
  | .ite _ _ _, _, _, _, _, h => no_true h
  | .tup as, Γ, env, e, hsc, h => by
    refine any_use (o := vTup e) h fun q hq h => ?_
    obtain ⟨_, _, rfl⟩ := vTup_of hq
    have h3 := (and_of h).2
    have h := (and_of h).1
    have h2 := (and_of h).2
    have h1 := (and_of h).1
    exact e_tup (evL X as Γ env _ _ hsc h2 h1) fun r m vs m' q => by rw [evs_len q]; exact Nat.le_trans (of_dec h3) (by decide)
  | .list as, Γ, env, e, hsc, h => by
    refine any_use (o := vList e) h fun q hq h => ?_
    obtain ⟨_, rfl⟩ := vList_of hq
    have h3 := (and_of h).2
    have h := (and_of h).1
    have h2 := (and_of h).2
    have h1 := (and_of h).1
    exact e_list (evL X as Γ env _ _ hsc h2 h1) fun r m vs m' q => by rw [evs_len q]; exact Nat.le_trans (of_dec h3) (by decide)
  | .dict ks vs, Γ, env, e, hsc, h => by
    refine any_use (o := vDict e) h fun q hq h => ?_
    obtain ⟨_, rfl⟩ := vDict_of hq
    have h4 := (and_of h).2
    have h := (and_of h).1
    have h3 := (and_of h).2
    have h := (and_of h).1
    have h2 := (and_of h).2
    have h1 := (and_of h).1
    rw [nil_of h1, nil_of h2, nil_of h3, nil_of h4]
    exact e_dict0
  | .idx a i, Γ, env, e, hsc, h => by
    refine any_use (o := vSub e) h fun q hq h => ?_
    obtain ⟨_, rfl⟩ := vSub_of hq
    have h2 := (and_of h).2
    have h := (and_of h).1
    have h1 := (and_of h).2
    exact e_idx X.R (evE X a Γ env _ hsc h1) (evE X i Γ env _ hsc h2)
  | .slice a lo hi st, Γ, env, e, hsc, h => by
    refine any_use (o := vSub e) h fun q hq h => ?_
    obtain ⟨_, rfl⟩ := vSub_of hq
    obtain ⟨h1, h⟩ := and_of h
    refine any_use (o := vSlice q.2) h fun t ht h => ?_
    obtain ⟨_, he⟩ := vSlice_of ht
    rw [he]
    have h4 := (and_of h).2
    have h := (and_of h).1
    have h3 := (and_of h).2
    have h2 := (and_of h).1
    exact e_slice (evE X a Γ env _ hsc h1) (o_of h2 fun l hl => evE X lo Γ env l hsc hl) (o_of h3 fun l hl => evE X hi Γ env l hsc hl) (o_of h4 fun l hl => evE X st Γ env l hsc hl)
  | .attr a k, Γ, env, e, hsc, h => by
    refine any_use (o := vAttr e) h fun q hq h => ?_
    rw [vAttr_of hq]
    have h3 := (and_of h).2
    have h := (and_of h).1
    have h2 := (and_of h).2
    have h1 := (and_of h).1
    obtain ⟨hx, hf⟩ := fld_of h2
    exact e_attr h1 (X.S.symm ▸ hx) (X.S.symm ▸ hf) (evE X a Γ env _ hsc h3)
  | .call k as, Γ, env, e, hsc, h => by
    refine any_use (o := vCallN e) h fun q hq h => ?_
    obtain ⟨_, _, rfl⟩ := vCallN_of hq
    have h3 := (and_of h).2
    have h := (and_of h).1
    have h2 := (and_of h).2
    have h1 := (and_of h).1
    obtain ⟨h0, a, b, c, o, fd, d, e⟩ := fun_of hsc h1
    exact e_callF X.gl c d e a b h2 (evL X as Γ env _ _ hsc h2 h3) (X.fa ▸ X.calls k h0)
  | .callv _ _, _, _, _, _, h => no_true h
  | .new c as, Γ, env, e, hsc, h => by
    refine any_use (o := vCallN e) h fun q hq h => ?_
    obtain ⟨_, _, rfl⟩ := vCallN_of hq
    have h5 := (and_of h).2
    have h := (and_of h).1
    have h4 := (and_of h).2
    have h := (and_of h).1
    have h3 := (and_of h).2
    have h := (and_of h).1
    have h2 := (and_of h).2
    have h1 := (and_of h).1
    exact new_all X hsc h1 h2 h3 h4 (evL X as Γ env _ _ hsc h4 h5)
  | .meth o k as, Γ, env, e, hsc, h => by
    refine any_use (o := vCall e) h fun q hq h => ?_
    rw [vCall_of hq]
    refine any_use (o := vAttr q.1) h fun t ht h => ?_
    rw [vAttr_of ht]
    have h9 := (and_of h).2
    have h := (and_of h).1
    have h8 := (and_of h).2
    have h := (and_of h).1
    have h7 := (and_of h).2
    have h := (and_of h).1
    have h6 := (and_of h).2
    have h := (and_of h).1
    have h5 := (and_of h).2
    have h := (and_of h).1
    have h4 := (and_of h).2
    have h := (and_of h).1
    have h3 := (and_of h).2
    have h := (and_of h).1
    have h2 := (and_of h).2
    have h1 := (and_of h).1
    rw [nil_of h7]
    exact meth_all X h1 h2 h3 h4 (of_dec h5) h6 (evE X o Γ env _ hsc h8) (evL X as Γ env _ _ hsc h4 h9)
  | .smeth o sm as, Γ, env, e, hsc, h => by
    refine any_use (o := vCall e) h fun q hq h => ?_
    rw [vCall_of hq]
    refine any_use (o := vAttr q.1) h fun t ht h => ?_
    rw [vAttr_of ht]
    have h8 := (and_of h).2
    have h := (and_of h).1
    have h7 := (and_of h).2
    have h := (and_of h).1
    have h6 := (and_of h).2
    have h := (and_of h).1
    have h5 := (and_of h).2
    have h := (and_of h).1
    have h4 := (and_of h).2
    have h := (and_of h).1
    have h3 := (and_of h).2
    have h := (and_of h).1
    have h2 := (and_of h).2
    have h1 := (and_of h).1
    rw [beq_iff_eq.mp h1, nil_of h6]
    exact e_smeth h2 h3 (of_dec h4) h5 (evE X o Γ env _ hsc h7) (evL X as Γ env _ _ hsc h3 h8)
  | .bi b as, Γ, env, e, hsc, h => by
    refine any_use (o := vCallN e) h fun q hq h => ?_
    obtain ⟨_, _, rfl⟩ := vCallN_of hq
    have hz := (and_of h).2
    have h0 := (and_of h).1
    have h4 := (and_of hz).2
    have h := (and_of hz).1
    have h3 := (and_of h).2
    have h := (and_of h).1
    have h2 := (and_of h).2
    have h1 := (and_of h).1
    exact e_bi X hsc h0 h1 h2 h3 (fun pos => evL X as Γ env q.2 pos hsc h3 h4)
  | .listrange _, _, _, _, _, h => no_true h
  | .isi a t, Γ, env, e, hsc, h => by
    refine any_use (o := vCallN e) h fun q hq h => ?_
    obtain ⟨px, pos, rfl⟩ := vCallN_of hq
    refine any_use (o := vTwo q.2) h fun p hp h => ?_
    rw [vTwo_of hp]
    refine any_use (o := vName p.2) h fun y hy h => ?_
    rw [vName_of hy]
    have h5 := (and_of h).2
    have h := (and_of h).1
    have h4 := (and_of h).2
    have h := (and_of h).1
    have h2 := (and_of h).2
    have h1 := (and_of h).1
    obtain ⟨a1, b1, c1, d1, e1⟩ := blt_of hsc h1
    exact isi_all X hsc (px := px) (pos := pos) d1 e1 c1 a1 b1 h2 h4 (evE X a Γ env _ hsc h5)
  | .comp elt t nl k src ifs, Γ, env, e, hsc, h => by
    refine any_use (o := vComp e) h fun q hq h => ?_
    obtain ⟨pos, rfl⟩ := vComp_of hq
    refine any_use (o := vOne q.2.1) h fun g hg h => ?_
    rw [vOne_of hg]
    refine any_use (o := vName g.target) h fun x hx h => ?_
    have h5 := (and_of h).2
    have h := (and_of h).1
    have h4 := (and_of h).2
    have h := (and_of h).1
    have h3 := (and_of h).2
    have h := (and_of h).1
    have h2 := (and_of h).2
    have h := (and_of h).1
    have h1 := (and_of h).2
    have h := (and_of h).1
    have h0 := (and_of h).2
    have h := (and_of h).1
    have hnl := (and_of h).2
    have ht := (and_of h).1
    rw [of_dec ht, of_dec hnl, gen_eq hx h0]
    exact comp_all (compOk_of hsc h1) (set_of h2) (src_of X hsc h3 (fun e c hc he => evOne X src Γ env e hsc c hc he) (fun es pos hs he => evL X src Γ env es pos hsc hs he))
      (fun cl C => evIf_ X ifs (compIn q.2.2 x.1 Γ) _ g.ifs (relab_eq hsc) h4) (fun cl C => evE X elt (compIn q.2.2 x.1 Γ) _ q.1 (relab_eq hsc) h5)
theorem evOne (X : Fx W P A fs n F) : ∀ (cs : List CE) (Γ : Cx) (env : Env) (e : Expr), env.scope = Γ.sc → ∀ c, cs = [c] → mE P Γ c e = true → SiE W A fs env Γ.vis (eval e env) (fun r => ev P.S F c r)
  | [], Γ, env, e, hsc, c', hc, h => no_cons hc
  | c :: cs, Γ, env, e, hsc, c', hc, h => by
    have hc1 : c' = c := by injection hc with a; exact a.symm
    rw [hc1] at h ⊢
    exact evE X c Γ env e hsc h
theorem evL (X : Fx W P A fs n F) : ∀ (cs : List CE) (Γ : Cx) (env : Env) (es : List Expr) (pos : Pos), env.scope = Γ.sc → noStar es = true → mEs P Γ cs es = true → SiL W A fs env Γ.vis (spliced (backTo pos (starEach es env))) (fun r => evs P.S F cs r)
  | [], Γ, env, es, pos, hsc, hs, h => by
    rw [mEs_nil h]
    exact l_nil
  | c :: cs, Γ, env, es, pos, hsc, hs, h => by
    obtain ⟨e, es', he, h1, h2⟩ := mEs_cons h
    rw [he] at hs ⊢
    exact l_cons (evE X c Γ env _ hsc h1) (evL X cs Γ env _ _ hsc (noStar_tail hs) h2) (star_cons hs)
theorem evBo (X : Fx W P A fs n F) : ∀ (cs : List CE) (Γ : Cx) (env : Env) (es : List Expr) (pos : Pos) (op : BoolOp) (b : Bool), env.scope = Γ.sc → isOp b op = true → mEs P Γ cs es = true → cs ≠ [] → SiE W A fs env Γ.vis (boolOp pos op (evalEach es env)) (fun r => evB P.S F b cs r)
  | [], Γ, env, es, pos, op, b, hsc, ho, h, hne => absurd rfl hne
  | [c], Γ, env, es, pos, op, b, hsc, ho, h, hne => by
    obtain ⟨e, es', he, h1, h2⟩ := mEs_cons h
    rw [he, mEs_nil h2]
    exact b_one (evE X c Γ env _ hsc h1)
  | c :: c' :: cs, Γ, env, es, pos, op, b, hsc, ho, h, hne => by
    obtain ⟨e, es', he, h1, h2⟩ := mEs_cons h
    have h2' := h2
    obtain ⟨e', es'', he', _, _⟩ := mEs_cons h2
    rw [he]
    rw [he'] at h2' ⊢
    exact b_cons (op_of ho) (evE X c Γ env _ hsc h1) (evBo X (c' :: cs) Γ env (e' :: es'') pos op b hsc ho h2' (List.cons_ne_nil _ _))
theorem evCm (X : Fx W P A fs n F) : ∀ (cs : List CE) (Γ : Cx) (env : Env) (es : List Expr) (pos : Pos) (ops : List CmpOp), env.scope = Γ.sc → ops.length = cs.length → cs ≠ [] → mEs P Γ cs es = true → es.all noSet = true → SiC W A fs env Γ.vis (fun u => compareChain pos u ops (markedEach ops es (evalEach es env))) (fun x r => evC P.S F x ops cs r)
  | [], Γ, env, es, pos, ops, hsc, hl, hne, h, hs => absurd rfl hne
  | [c], Γ, env, es, pos, ops, hsc, hl, hne, h, hs => by
    obtain ⟨e, es', he, h1, h2⟩ := mEs_cons h
    obtain ⟨op, rfl⟩ := List.length_eq_one_iff.mp hl
    rw [he, mEs_nil h2] at hs ⊢
    exact c_one X.gl.ok X.R (marks_of (and_of hs).1) (evE X c Γ env _ hsc h1)
  | c :: c' :: cs, Γ, env, es, pos, ops, hsc, hl, hne, h, hs => by
    obtain ⟨e, es', he, h1, h2⟩ := mEs_cons h
    have h2' := h2
    obtain ⟨e', es'', he', _, _⟩ := mEs_cons h2
    rw [he] at hs ⊢
    rw [he'] at h2' hs ⊢
    obtain ⟨op, op', ops', rfl⟩ := two_ops hl
    exact c_more X.gl.ok X.R (evE X c Γ env _ hsc h1) (evCm X (c' :: cs) Γ env (e' :: es'') pos (op' :: ops') hsc (Nat.succ.inj hl) (List.cons_ne_nil _ _) h2' (and_of hs).2)
theorem evCt (X : Fx W P A fs n F) : ∀ (cs : List CE) (Γ : Cx) (env : Env) (es : List Expr) (pos : Pos) (ops : List CmpOp), env.scope = Γ.sc → ops.length = cs.length → cs ≠ [] → mEs P Γ cs es = true → es.all noSet = true → SiCB W A fs env Γ.vis (fun u => testChain pos u ops (markedEach ops es (evalEach es env))) (fun x r => evC P.S F x ops cs r)
  | [], Γ, env, es, pos, ops, hsc, hl, hne, h, hs => absurd rfl hne
  | [c], Γ, env, es, pos, ops, hsc, hl, hne, h, hs => by
    obtain ⟨e, es', he, h1, h2⟩ := mEs_cons h
    obtain ⟨op, rfl⟩ := List.length_eq_one_iff.mp hl
    rw [he, mEs_nil h2] at hs ⊢
    exact t_one X.gl.ok X.R (marks_of (and_of hs).1) (evE X c Γ env _ hsc h1)
  | c :: c' :: cs, Γ, env, es, pos, ops, hsc, hl, hne, h, hs => by
    obtain ⟨e, es', he, h1, h2⟩ := mEs_cons h
    have h2' := h2
    obtain ⟨e', es'', he', _, _⟩ := mEs_cons h2
    rw [he] at hs ⊢
    rw [he'] at h2' hs ⊢
    obtain ⟨op, op', ops', rfl⟩ := two_ops hl
    exact t_more X.gl.ok X.R (evE X c Γ env _ hsc h1) (evCt X (c' :: cs) Γ env (e' :: es'') pos (op' :: ops') hsc (Nat.succ.inj hl) (List.cons_ne_nil _ _) h2' (and_of hs).2)
theorem evTt (X : Fx W P A fs n F) : ∀ (b : CB) (Γ : Cx) (env : Env) (e : Expr), env.scope = Γ.sc → mB P Γ b e = true → SiB W A fs env Γ.vis (isTrue e env (eval e env)) (fun r => evT P.S F b r)
  | .not b, Γ, env, e, hsc, h => by
    refine any_use (o := vUn e) h fun q hq h => ?_
    obtain ⟨_, rfl⟩ := vUn_of hq
    have h1 := (and_of h).2
    have h0 := (and_of h).1
    rw [isNot_of h0]
    exact t_not (evTt X b Γ env _ hsc h1)
  | .all c bs, Γ, env, e, hsc, h => by
    refine any_use (o := vBool e) h fun q hq h => ?_
    obtain ⟨_, rfl⟩ := vBool_of hq
    have h1 := (and_of h).2
    have h0 := (and_of h).1
    exact t_all (evTs_ X bs Γ env _ _ _ hsc h0 h1)
  | .val c, Γ, env, e, hsc, h => by
    rcases val_of h with ⟨hp, hm⟩ | ⟨a, ops, bs, pos, he, hm⟩
    · exact t_val (evE X c Γ env e hsc hm) (plain_of_test hp)
    · subst he
      exact evCa X c Γ env a ops bs pos hsc hm
theorem evCa (X : Fx W P A fs n F) : ∀ (c : CE) (Γ : Cx) (env : Env) (a : Expr) (ops : List CmpOp) (bs : List Expr) (pos : Pos), env.scope = Γ.sc → mE P Γ c (.Compare a ops bs pos) = true → SiB W A fs env Γ.vis (isTrue (.Compare a ops bs pos) env (eval (.Compare a ops bs pos) env)) (fun r => bnd (ev P.S F c r) truth)
  | .cmp ca cops cbs, Γ, env, a, ops, bs, pos, hsc, h => by
    obtain ⟨h0, h1, h2, h3, h4, h5⟩ := cmp_of h
    subst h0
    exact t_cmp (W := W) (A := A) (fs := fs) (env := env) (vis := Γ.vis) (pos := pos) (a := a) (ops := cops) (bs := bs) (ca := fun r => ev P.S F ca r) (cc := fun x r => evC P.S F x cops cbs r) (evE X ca Γ env a hsc h1) (evCt X cbs Γ env bs pos cops hsc h3 h4 h2 h5)
  | .cnst _, _, _, _, _, _, _, _, h => no_true h
  | .var _, _, _, _, _, _, _, _, h => no_true h
  | .glob _, _, _, _, _, _, _, _, h => no_true h
  | .fnv _, _, _, _, _, _, _, _, h => no_true h
  | .bin _ _ _, _, _, _, _, _, _, _, h => no_true h
  | .neg _, _, _, _, _, _, _, _, h => no_true h
  | .not _, _, _, _, _, _, _, _, h => no_true h
  | .boolop _ _, _, _, _, _, _, _, _, h => no_true h
  | .ite _ _ _, _, _, _, _, _, _, _, h => no_true h
  | .tup _, _, _, _, _, _, _, _, h => no_true h
  | .list _, _, _, _, _, _, _, _, h => no_true h
  | .dict _ _, _, _, _, _, _, _, _, h => no_true h
  | .idx _ _, _, _, _, _, _, _, _, h => no_true h
  | .slice _ _ _ _, _, _, _, _, _, _, _, h => no_true h
  | .attr _ _, _, _, _, _, _, _, _, h => no_true h
  | .call _ _, _, _, _, _, _, _, _, h => no_true h
  | .callv _ _, _, _, _, _, _, _, _, h => no_true h
  | .new _ _, _, _, _, _, _, _, _, h => no_true h
  | .meth _ _ _, _, _, _, _, _, _, _, h => no_true h
  | .smeth _ _ _, _, _, _, _, _, _, _, h => no_true h
  | .bi _ _, _, _, _, _, _, _, _, h => no_true h
  | .listrange _, _, _, _, _, _, _, _, h => no_true h
  | .isi _ _, _, _, _, _, _, _, _, h => no_true h
  | .comp _ _ _ _ _ _, _, _, _, _, _, _, _, h => no_true h
theorem evTs_ (X : Fx W P A fs n F) : ∀ (bs : List CB) (Γ : Cx) (env : Env) (es : List Expr) (op : BoolOp) (b : Bool), env.scope = Γ.sc → isOp b op = true → mIfs P Γ bs es = true → SiB W A fs env Γ.vis (allTrue op es env) (fun r => evTs P.S F b bs r)
  | [], Γ, env, es, op, b, hsc, ho, h => by
    rw [mIfs_nil h]
    exact t_nil (op_of ho)
  | c :: cs, Γ, env, es, op, b, hsc, ho, h => by
    obtain ⟨e, es', he, h1, h2⟩ := mIfs_cons h
    rw [he]
    exact t_cons (op_of ho) (evTt X c Γ env _ hsc h1) (evTs_ X cs Γ env _ op b hsc ho h2)
theorem evIf_ (X : Fx W P A fs n F) : ∀ (bs : List CB) (Γ : Cx) (env : Env) (es : List Expr), env.scope = Γ.sc → mIfs P Γ bs es = true → SiB W A fs env Γ.vis (tests es env true) (fun r => evIf P.S F bs r)
  | [], Γ, env, es, hsc, h => by
    rw [mIfs_nil h]
    exact if_nil
  | c :: cs, Γ, env, es, hsc, h => by
    obtain ⟨e, es', he, h1, h2⟩ := mIfs_cons h
    rw [he]
    exact if_cons (evTt X c Γ env _ hsc h1) (evIf_ X cs Γ env _ hsc h2)
end
end
end Mini

/-! Statements and functions. -/
namespace Mini
open PySem PySem.W PyProof.Rows

section
variable {W : Wd} {P : Px} {fs : List Env} {A : Around} {n : Nat} {F : Fns} {env : Env}

theorem tgt_of {Γ : Cx} {i : Nat} {x : Str} (hsc : env.scope = Γ.sc) (h : isTgt Γ i x = true) : Γ.vis[i]? = some (some x) ∧ (env.kindOf x = some .local ∨ env.kindOf x = some .cell) := by
  refine ⟨eq_of_beq (both_of h).1, ?_⟩
  show env.scope.names.lookup x = _ ∨ env.scope.names.lookup x = _
  rw [hsc]
  rcases Bool.or_eq_true_iff.mp (both_of h).2 with q | q
  · exact .inl (eq_of_beq q)
  · exact .inr (eq_of_beq q)
theorem mT_of {Γ : Cx} {t : CT} {tg : Expr} (h : mT Γ t tg = true) : ∃ i x pos, t = .one i ∧ tg = .Name x pos ∧ isTgt Γ i x = true := by
  cases t with
  | many is => exact no_true h
  | one i =>
    refine any_use (o := vName tg) h fun q hq h => ?_
    exact ⟨i, q.1, q.2, rfl, vName_of hq, h⟩
noncomputable def IsAsg (c : List Expr × Expr × Pos) (e : Stmt) : Prop := e = .Assign c.1 c.2.1 c.2.2
theorem vAsg_of' {e : Stmt} {c : List Expr × Expr × Pos} (h : vAsg e = some c) : IsAsg c e :=
  Stmt.casesOn (motive_2 := fun e => vAsg e = some c → IsAsg c e) e (fun _ _ _ _ _ _ _ _ _ _ h => no_some h) (fun _ _ _ _ _ _ _ _ _ _ h => no_some h) (fun _ _ _ _ _ _ _ _ _ _ _ h => no_some h) (fun _ _ h => no_some h) (fun _ _ h => no_some h) (fun _ _ _ h => by cases h; rfl) (fun _ _ _ _ _ _ _ h => no_some h) (fun _ _ _ _ h => no_some h) (fun _ _ _ _ _ h => no_some h) (fun _ _ _ _ _ h => no_some h) (fun _ _ _ _ _ h => no_some h) (fun _ _ _ _ h => no_some h) (fun _ _ _ _ h => no_some h) (fun _ _ _ h => no_some h) (fun _ _ _ h => no_some h) (fun _ _ _ h => no_some h) (fun _ _ _ h => no_some h) (fun _ _ _ _ _ h => no_some h) (fun _ _ _ _ _ h => no_some h) (fun _ _ _ h => no_some h) (fun _ _ h => no_some h) (fun _ _ _ _ h => no_some h) (fun _ _ h => no_some h) (fun _ _ h => no_some h) (fun _ _ h => no_some h) (fun _ h => no_some h) (fun _ h => no_some h) (fun _ h => no_some h) h
theorem vAsg_of {e : Stmt} {c : List Expr × Expr × Pos} (h : vAsg e = some c) : e = .Assign c.1 c.2.1 c.2.2 := vAsg_of' h
noncomputable def IsExp (c : Expr) (e : Stmt) : Prop := ∃ pos, e = .Expr c pos
theorem vExp_of' {e : Stmt} {c : Expr} (h : vExp e = some c) : IsExp c e :=
  Stmt.casesOn (motive_2 := fun e => vExp e = some c → IsExp c e) e (fun _ _ _ _ _ _ _ _ _ _ h => no_some h) (fun _ _ _ _ _ _ _ _ _ _ h => no_some h) (fun _ _ _ _ _ _ _ _ _ _ _ h => no_some h) (fun _ _ h => no_some h) (fun _ _ h => no_some h) (fun _ _ _ h => no_some h) (fun _ _ _ _ _ _ _ h => no_some h) (fun _ _ _ _ h => no_some h) (fun _ _ _ _ _ h => no_some h) (fun _ _ _ _ _ h => no_some h) (fun _ _ _ _ _ h => no_some h) (fun _ _ _ _ h => no_some h) (fun _ _ _ _ h => no_some h) (fun _ _ _ h => no_some h) (fun _ _ _ h => no_some h) (fun _ _ _ h => no_some h) (fun _ _ _ h => no_some h) (fun _ _ _ _ _ h => no_some h) (fun _ _ _ _ _ h => no_some h) (fun _ _ _ h => no_some h) (fun _ _ h => no_some h) (fun _ _ _ _ h => no_some h) (fun _ _ h => no_some h) (fun _ _ h => no_some h) (fun _ _ h => by cases h; exact ⟨_, rfl⟩) (fun _ h => no_some h) (fun _ h => no_some h) (fun _ h => no_some h) h
theorem vExp_of {e : Stmt} {c : Expr} (h : vExp e = some c) : ∃ pos, e = .Expr c pos := vExp_of' h
noncomputable def IsIfS (c : Expr × List Stmt × List Stmt) (e : Stmt) : Prop := ∃ pos, e = .If c.1 c.2.1 c.2.2 pos
theorem vIfS_of' {e : Stmt} {c : Expr × List Stmt × List Stmt} (h : vIfS e = some c) : IsIfS c e :=
  Stmt.casesOn (motive_2 := fun e => vIfS e = some c → IsIfS c e) e (fun _ _ _ _ _ _ _ _ _ _ h => no_some h) (fun _ _ _ _ _ _ _ _ _ _ h => no_some h) (fun _ _ _ _ _ _ _ _ _ _ _ h => no_some h) (fun _ _ h => no_some h) (fun _ _ h => no_some h) (fun _ _ _ h => no_some h) (fun _ _ _ _ _ _ _ h => no_some h) (fun _ _ _ _ h => no_some h) (fun _ _ _ _ _ h => no_some h) (fun _ _ _ _ _ h => no_some h) (fun _ _ _ _ _ h => no_some h) (fun _ _ _ _ h => no_some h) (fun _ _ _ _ h => by cases h; exact ⟨_, rfl⟩) (fun _ _ _ h => no_some h) (fun _ _ _ h => no_some h) (fun _ _ _ h => no_some h) (fun _ _ _ h => no_some h) (fun _ _ _ _ _ h => no_some h) (fun _ _ _ _ _ h => no_some h) (fun _ _ _ h => no_some h) (fun _ _ h => no_some h) (fun _ _ _ _ h => no_some h) (fun _ _ h => no_some h) (fun _ _ h => no_some h) (fun _ _ h => no_some h) (fun _ h => no_some h) (fun _ h => no_some h) (fun _ h => no_some h) h
theorem vIfS_of {e : Stmt} {c : Expr × List Stmt × List Stmt} (h : vIfS e = some c) : ∃ pos, e = .If c.1 c.2.1 c.2.2 pos := vIfS_of' h
noncomputable def IsFor (c : Expr × Expr × List Stmt × List Stmt) (e : Stmt) : Prop := ∃ pos, e = .For c.1 c.2.1 c.2.2.1 c.2.2.2 pos
theorem vFor_of' {e : Stmt} {c : Expr × Expr × List Stmt × List Stmt} (h : vFor e = some c) : IsFor c e :=
  Stmt.casesOn (motive_2 := fun e => vFor e = some c → IsFor c e) e (fun _ _ _ _ _ _ _ _ _ _ h => no_some h) (fun _ _ _ _ _ _ _ _ _ _ h => no_some h) (fun _ _ _ _ _ _ _ _ _ _ _ h => no_some h) (fun _ _ h => no_some h) (fun _ _ h => no_some h) (fun _ _ _ h => no_some h) (fun _ _ _ _ _ _ _ h => no_some h) (fun _ _ _ _ h => no_some h) (fun _ _ _ _ _ h => no_some h) (fun _ _ _ _ _ h => by cases h; exact ⟨_, rfl⟩) (fun _ _ _ _ _ h => no_some h) (fun _ _ _ _ h => no_some h) (fun _ _ _ _ h => no_some h) (fun _ _ _ h => no_some h) (fun _ _ _ h => no_some h) (fun _ _ _ h => no_some h) (fun _ _ _ h => no_some h) (fun _ _ _ _ _ h => no_some h) (fun _ _ _ _ _ h => no_some h) (fun _ _ _ h => no_some h) (fun _ _ h => no_some h) (fun _ _ _ _ h => no_some h) (fun _ _ h => no_some h) (fun _ _ h => no_some h) (fun _ _ h => no_some h) (fun _ h => no_some h) (fun _ h => no_some h) (fun _ h => no_some h) h
theorem vFor_of {e : Stmt} {c : Expr × Expr × List Stmt × List Stmt} (h : vFor e = some c) : ∃ pos, e = .For c.1 c.2.1 c.2.2.1 c.2.2.2 pos := vFor_of' h
noncomputable def IsRet (c : Option Expr) (e : Stmt) : Prop := ∃ pos, e = .Return c pos
theorem vRet_of' {e : Stmt} {c : Option Expr} (h : vRet e = some c) : IsRet c e :=
  Stmt.casesOn (motive_2 := fun e => vRet e = some c → IsRet c e) e (fun _ _ _ _ _ _ _ _ _ _ h => no_some h) (fun _ _ _ _ _ _ _ _ _ _ h => no_some h) (fun _ _ _ _ _ _ _ _ _ _ _ h => no_some h) (fun _ _ h => by cases h; exact ⟨_, rfl⟩) (fun _ _ h => no_some h) (fun _ _ _ h => no_some h) (fun _ _ _ _ _ _ _ h => no_some h) (fun _ _ _ _ h => no_some h) (fun _ _ _ _ _ h => no_some h) (fun _ _ _ _ _ h => no_some h) (fun _ _ _ _ _ h => no_some h) (fun _ _ _ _ h => no_some h) (fun _ _ _ _ h => no_some h) (fun _ _ _ h => no_some h) (fun _ _ _ h => no_some h) (fun _ _ _ h => no_some h) (fun _ _ _ h => no_some h) (fun _ _ _ _ _ h => no_some h) (fun _ _ _ _ _ h => no_some h) (fun _ _ _ h => no_some h) (fun _ _ h => no_some h) (fun _ _ _ _ h => no_some h) (fun _ _ h => no_some h) (fun _ _ h => no_some h) (fun _ _ h => no_some h) (fun _ h => no_some h) (fun _ h => no_some h) (fun _ h => no_some h) h
theorem vRet_of {e : Stmt} {c : Option Expr} (h : vRet e = some c) : ∃ pos, e = .Return c pos := vRet_of' h
noncomputable def IsCont (e : Stmt) : Prop := ∃ pos, e = .Continue pos
theorem vCont_of' {e : Stmt} (h : vCont e = true) : IsCont e :=
  Stmt.casesOn (motive_2 := fun e => vCont e = true → IsCont e) e (fun _ _ _ _ _ _ _ _ _ _ h => no_true h) (fun _ _ _ _ _ _ _ _ _ _ h => no_true h) (fun _ _ _ _ _ _ _ _ _ _ _ h => no_true h) (fun _ _ h => no_true h) (fun _ _ h => no_true h) (fun _ _ _ h => no_true h) (fun _ _ _ _ _ _ _ h => no_true h) (fun _ _ _ _ h => no_true h) (fun _ _ _ _ _ h => no_true h) (fun _ _ _ _ _ h => no_true h) (fun _ _ _ _ _ h => no_true h) (fun _ _ _ _ h => no_true h) (fun _ _ _ _ h => no_true h) (fun _ _ _ h => no_true h) (fun _ _ _ h => no_true h) (fun _ _ _ h => no_true h) (fun _ _ _ h => no_true h) (fun _ _ _ _ _ h => no_true h) (fun _ _ _ _ _ h => no_true h) (fun _ _ _ h => no_true h) (fun _ _ h => no_true h) (fun _ _ _ _ h => no_true h) (fun _ _ h => no_true h) (fun _ _ h => no_true h) (fun _ _ h => no_true h) (fun _ h => no_true h) (fun _ h => no_true h) (fun _ h => by exact ⟨_, rfl⟩) h
theorem vCont_of {e : Stmt} (h : vCont e = true) : ∃ pos, e = .Continue pos := vCont_of' h
noncomputable def IsPass (e : Stmt) : Prop := ∃ pos, e = .Pass pos
theorem vPass_of' {e : Stmt} (h : vPass e = true) : IsPass e :=
  Stmt.casesOn (motive_2 := fun e => vPass e = true → IsPass e) e (fun _ _ _ _ _ _ _ _ _ _ h => no_true h) (fun _ _ _ _ _ _ _ _ _ _ h => no_true h) (fun _ _ _ _ _ _ _ _ _ _ _ h => no_true h) (fun _ _ h => no_true h) (fun _ _ h => no_true h) (fun _ _ _ h => no_true h) (fun _ _ _ _ _ _ _ h => no_true h) (fun _ _ _ _ h => no_true h) (fun _ _ _ _ _ h => no_true h) (fun _ _ _ _ _ h => no_true h) (fun _ _ _ _ _ h => no_true h) (fun _ _ _ _ h => no_true h) (fun _ _ _ _ h => no_true h) (fun _ _ _ h => no_true h) (fun _ _ _ h => no_true h) (fun _ _ _ h => no_true h) (fun _ _ _ h => no_true h) (fun _ _ _ _ _ h => no_true h) (fun _ _ _ _ _ h => no_true h) (fun _ _ _ h => no_true h) (fun _ _ h => no_true h) (fun _ _ _ _ h => no_true h) (fun _ _ h => no_true h) (fun _ _ h => no_true h) (fun _ _ h => no_true h) (fun _ h => by exact ⟨_, rfl⟩) (fun _ h => no_true h) (fun _ h => no_true h) h
theorem vPass_of {e : Stmt} (h : vPass e = true) : ∃ pos, e = .Pass pos := vPass_of' h
noncomputable def IsRse (c : Option Expr × Option Expr) (e : Stmt) : Prop := ∃ pos, e = .Raise c.1 c.2 pos
theorem vRse_of {e : Stmt} {c : Option Expr × Option Expr} (h : vRse e = some c) : IsRse c e :=
  Stmt.casesOn (motive_2 := fun e => vRse e = some c → IsRse c e) e (fun _ _ _ _ _ _ _ _ _ _ h => no_some h) (fun _ _ _ _ _ _ _ _ _ _ h => no_some h) (fun _ _ _ _ _ _ _ _ _ _ _ h => no_some h) (fun _ _ h => no_some h) (fun _ _ h => no_some h) (fun _ _ _ h => no_some h) (fun _ _ _ _ _ _ _ h => no_some h) (fun _ _ _ _ h => no_some h) (fun _ _ _ _ _ h => no_some h) (fun _ _ _ _ _ h => no_some h) (fun _ _ _ _ _ h => no_some h) (fun _ _ _ _ h => no_some h) (fun _ _ _ _ h => no_some h) (fun _ _ _ h => no_some h) (fun _ _ _ h => no_some h) (fun _ _ _ h => no_some h) (fun _ _ _ h => by cases h; exact ⟨_, rfl⟩) (fun _ _ _ _ _ h => no_some h) (fun _ _ _ _ _ h => no_some h) (fun _ _ _ h => no_some h) (fun _ _ h => no_some h) (fun _ _ _ _ h => no_some h) (fun _ _ h => no_some h) (fun _ _ h => no_some h) (fun _ _ h => no_some h) (fun _ h => no_some h) (fun _ h => no_some h) (fun _ h => no_some h) h
noncomputable def IsTry (c : List Stmt × List ExceptHandler × List Stmt × List Stmt) (e : Stmt) : Prop := ∃ pos, e = .Try c.1 c.2.1 c.2.2.1 c.2.2.2 pos
theorem vTry_of {e : Stmt} {c : List Stmt × List ExceptHandler × List Stmt × List Stmt} (h : vTry e = some c) : IsTry c e :=
  Stmt.casesOn (motive_2 := fun e => vTry e = some c → IsTry c e) e (fun _ _ _ _ _ _ _ _ _ _ h => no_some h) (fun _ _ _ _ _ _ _ _ _ _ h => no_some h) (fun _ _ _ _ _ _ _ _ _ _ _ h => no_some h) (fun _ _ h => no_some h) (fun _ _ h => no_some h) (fun _ _ _ h => no_some h) (fun _ _ _ _ _ _ _ h => no_some h) (fun _ _ _ _ h => no_some h) (fun _ _ _ _ _ h => no_some h) (fun _ _ _ _ _ h => no_some h) (fun _ _ _ _ _ h => no_some h) (fun _ _ _ _ h => no_some h) (fun _ _ _ _ h => no_some h) (fun _ _ _ h => no_some h) (fun _ _ _ h => no_some h) (fun _ _ _ h => no_some h) (fun _ _ _ h => no_some h) (fun _ _ _ _ _ h => by cases h; exact ⟨_, rfl⟩) (fun _ _ _ _ _ h => no_some h) (fun _ _ _ h => no_some h) (fun _ _ h => no_some h) (fun _ _ _ _ h => no_some h) (fun _ _ h => no_some h) (fun _ _ h => no_some h) (fun _ _ h => no_some h) (fun _ h => no_some h) (fun _ h => no_some h) (fun _ h => no_some h) h
theorem vHand_of {hd : ExceptHandler} {c : Expr × Option Str × Expr} (h : vHand hd = some c) : ∃ rp hp, hd = .ExceptHandler (some c.1) c.2.1 [.Return (some c.2.2) rp] hp := by
  obtain ⟨ty, nm, body, hp⟩ := hd
  cases ty with
  | none => exact no_some h
  | some t =>
    cases body with
    | nil => exact no_some h
    | cons st rest =>
      cases rest with
      | cons _ _ => exact no_some h
      | nil =>
        have h : ((vRet st).bind fun o => o.map fun e => (t, nm, e)) = some c := h
        cases hr : vRet st with
        | none => rw [hr] at h; exact no_some h
        | some o =>
          rw [hr] at h
          cases o with
          | none => exact no_some h
          | some e =>
            cases h
            obtain ⟨rp, rfl⟩ := vRet_of hr
            exact ⟨rp, hp, rfl⟩
theorem noswap {v : Expr} {t : Option Expr} {line : Nat} (h : isComp v = false) : swapsWith v t line env = Pure.pure false := by
  cases v <;> first | rfl | (exact no_true h.symm)

/-- the parts of a comprehension -/
structure Cmp (W : Wd) (P : Px) (A : Around) (fs : List Env) (F : Fns) (env : Env) (Γ : Cx) (c : CE) (e0 : Expr) (gens : List Comprehension) (scope : Scope) : Prop where
  parts : ∃ elt k src ifs x px iter ifs', c = .comp elt (.one Γ.vis.length) 1 k src ifs ∧ gens = [⟨.Name x px, iter, ifs', 0⟩] ∧ CompOk scope env Γ.vis (seen scope x Γ.vis) 1 ∧ (∀ y, foldedSetIterable iter env y = Pure.pure y) ∧
    SiSrc W A fs env Γ.vis iter (fun r => bnd (evs P.S F src r) (srcV k)) ∧ (∀ cl C, SiB W A fs (compEnvC scope cl C env) (seen scope x Γ.vis) (tests ifs' (compEnvC scope cl C env) true) (fun r => evIf P.S F ifs r)) ∧
    (∀ cl C, SiE W A fs (compEnvC scope cl C env) (seen scope x Γ.vis) (eval e0 (compEnvC scope cl C env)) (fun r => ev P.S F elt r)) ∧ env.scope.kind = .function
theorem cmp_parts (X : Fx W P A fs n F) {Γ : Cx} : ∀ {c : CE} {e0 : Expr} {gens : List Comprehension} {scope : Scope} {pos : Pos} (hsc : env.scope = Γ.sc) (h : mE P Γ c (.ListComp e0 gens scope pos) = true), Cmp W P A fs F env Γ c e0 gens scope := by
  intro c e0 gens scope pos hsc h
  cases c with
  | comp elt t nl k src ifs =>
    refine any_use (o := vOne gens) h fun g hg h => ?_
    rw [vOne_of hg]
    refine any_use (o := vName g.target) h fun x hx h => ?_
    have h5 := (and_of h).2
    have h := (and_of h).1
    have h4 := (and_of h).2
    have h := (and_of h).1
    have h3 := (and_of h).2
    have h := (and_of h).1
    have h2 := (and_of h).2
    have h := (and_of h).1
    have h1 := (and_of h).2
    have h := (and_of h).1
    have h0 := (and_of h).2
    have h := (and_of h).1
    have hnl := (and_of h).2
    have ht := (and_of h).1
    rw [of_dec ht, of_dec hnl]
    have hf : env.scope.kind = .function := by rw [hsc]; exact beq_iff_eq.mp (and_of h1).2
    exact ⟨elt, k, src, ifs, x.1, x.2, g.iter, g.ifs, rfl, by rw [← gen_eq hx h0], compOk_of hsc h1, set_of h2,
      src_of X hsc h3 (fun e c hc he => evOne X src Γ env e hsc c hc he) (fun es pos hs he => evL X src Γ env es pos hsc hs he),
      fun cl C => evIf_ X ifs (compIn scope x.1 Γ) _ g.ifs (relab_eq hsc) h4, fun cl C => evE X elt (compIn scope x.1 Γ) _ e0 (relab_eq hsc) h5, hf⟩
  | _ => exact no_true h

theorem asg_one (X : Fx W P A (env :: fs) n F) {Γ : Cx} {t : CT} {e : CE} {tg v : Expr} {pos : Pos} (hsc : env.scope = Γ.sc) (h : (mT Γ t tg && mE P Γ e v && (vName tg).any fun y => okComp Γ y v) = true) :
    SiS W A fs env Γ.vis (exec (.Assign [tg] v pos) env) (fun r => ex P.S F (.asg (.one t) e) r) := by
  have h3 := (and_of h).2
  have h := (and_of h).1
  have h2 := (and_of h).2
  have h1 := (and_of h).1
  obtain ⟨i, y, py, rfl, rfl, ht⟩ := mT_of h1
  obtain ⟨hv, hk⟩ := tgt_of hsc ht
  have h3 : okComp Γ (y, py) v = true := h3
  cases hc : isComp v with
  | false => exact x_asg (evE X e Γ env v hsc h2) (a_name hv hk) (noswap (env := env) (line := pos.line) (t := some (.Name y py)) hc) rfl rfl
  | true =>
    have h3 : (!isComp v || (vComp v).any fun q => !(Γ.sc.names.lookup y == some .local) || (py.line == v.pos.line && !(q.2.2.names.any fun (n, k) => n == y && (k == .local || k == .cell)))) = true := h3
    rw [hc] at h3
    refine any_use (o := vComp v) h3 fun q hq h3 => ?_
    obtain ⟨cpos, rfl⟩ := vComp_of hq
    obtain ⟨elt, k, src, ifs, x, px, iter, ifs', rfl, hgen, ck, hs, hsrc, hifs, helt, hf⟩ := (cmp_parts X hsc h2).parts
    cases hloc : env.kindOf y == some .local with
    | true =>
      have hl' : (Γ.sc.names.lookup y == some NameKind.local) = true := by rw [← hsc]; exact hloc
      rw [hl'] at h3
      have h4 := (and_of h3).2
      have h3 := (and_of h3).1
      have hb : (env.blockKind == ScopeKind.function) = true := by
        unfold Env.blockKind; rw [hf]; rfl
      have hsw : swapsWithSole [.Name y py] (.ListComp q.1 q.2.1 q.2.2 cpos) pos.line env = Pure.pure true := by
        show (Pure.pure _ : Sem Bool) = _
        rw [hb, hloc, h3, h4]; rfl
      rw [hgen] at hsw ⊢
      have := x_asg_comp (W := W) (A := A) (fs := fs) (env := env) (vis := Γ.vis) (pos := pos) (vis' := seen q.2.2 x Γ.vis) (nl := 1) (j := Γ.vis.length) (i := i) ck hs (seen_last q.2.2 x Γ.vis) (Nat.le_refl _) hsrc hifs helt hsw hv (beq_iff_eq.mp hloc)
      intro s io m r Z
      have eq : ex P.S F (.asg (.one (.one i)) (.comp elt (.one Γ.vis.length) 1 k src ifs)) r = bnd (bnd (bnd (evs P.S F src r) (srcV k)) fun p => bnd (compD p.2 (stepOf Γ.vis.length (r ++ List.replicate 1 none) (fun r => evIf P.S F ifs r) (fun r => ev P.S F elt r)) p.1) fun l => if l.length ≤ lid then alloc (.list l) else bad) fun v => bnd (fun m => .ok (r.set i (some v)) m) fun r' => ret (.next, r') := by
        rw [bnd_assoc (evs P.S F src r)]; rfl
      dsimp only
      rw [eq]
      exact this s io m r Z
    | false =>
      have hsw : swapsWithSole [.Name y py] (.ListComp q.1 q.2.1 q.2.2 cpos) pos.line env = Pure.pure false := by
        show (Pure.pure _ : Sem Bool) = _
        rw [hloc, Bool.and_false]; rfl
      exact x_asg (evE X _ Γ env _ hsc h2) (a_name hv hk) hsw rfl rfl
theorem asg_all (X : Fx W P A (env :: fs) n F) {Γ : Cx} {t : CTgt} {e : CE} {tg v : Expr} {pos : Pos} (hsc : env.scope = Γ.sc) (h : mAsg P Γ t e tg v = true) :
    SiS W A fs env Γ.vis (exec (.Assign [tg] v pos) env) (fun r => ex P.S F (.asg t e) r) := by
  cases t with
  | one t =>
    cases t with
    | one i => exact asg_one X hsc h
    | many is => exact no_true h
  | attr o k =>
    refine any_use (o := vAttr tg) h fun q hq h => ?_
    rw [vAttr_of hq]
    have h4 := (and_of h).2
    have h := (and_of h).1
    have h3 := (and_of h).2
    have h := (and_of h).1
    have h2 := (and_of h).2
    have h1 := (and_of h).1
    obtain ⟨hx, hf⟩ := fld_of h1
    exact x_asg (evE X e Γ env v hsc h3) (a_attr (X.S.symm ▸ hx) (X.S.symm ▸ hf) (evE X o Γ env _ hsc h2)) (noswap (env := env) (line := pos.line) (t := some (.Attribute q.1 q.2.1 q.2.2)) ((Bool.not_eq_true' _).mp h4)) rfl rfl
  | idx o i =>
    refine any_use (o := vSub tg) h fun q hq h => ?_
    obtain ⟨p, rfl⟩ := vSub_of hq
    have h4 := (and_of h).2
    have h := (and_of h).1
    have h3 := (and_of h).2
    have h := (and_of h).1
    have h2 := (and_of h).2
    have h1 := (and_of h).1
    exact x_asg (evE X e Γ env v hsc h3) (a_idx X.R (evE X o Γ env _ hsc h1) (evE X i Γ env _ hsc h2)) (noswap (env := env) (line := pos.line) (t := some (.Subscript q.1 q.2 p)) ((Bool.not_eq_true' _).mp h4)) rfl rfl
  | idx2 o i o' i' => exact no_true h
theorem for_all (hA : A.frames = some (env :: fs)) {Γ : Cx} {i : Nat} {src : List CE} {k : IK} {body : List CS} {y : Str} {py pos : Pos} {iter : Expr} {b : List Stmt} (hsrc : SiSrc W A (env :: fs) env Γ.vis iter (fun r => bnd (evs P.S F src r) (srcV k))) (hv : Γ.vis[i]? = some (some y)) (hk : env.kindOf y = some .local ∨ env.kindOf y = some .cell)
    (hb : SiS W A fs env Γ.vis (execs b env) (fun r => exs P.S F body r)) (hs : ∀ x, foldedSetIterable iter env x = Pure.pure x) : SiS W A fs env Γ.vis (exec (.For (.Name y py) iter b [] pos) env) (fun r => ex P.S F (.for_ k (.one i) src body) r) := by
  have := x_for hA (pos := pos) (target := .Name y py) hsrc (a_name hv hk) hb hs
  intro s io m r Z
  have eq : ex P.S F (.for_ k (.one i) src body) r = bnd (bnd (evs P.S F src r) (srcV k)) fun p => forD p.2 (fun v r' => bnd (fun m => .ok (r'.set i (some v)) m) fun r'' => exs P.S F body r'') p.1 r := by
    rw [bnd_assoc]; rfl
  dsimp only
  rw [eq]
  exact this s io m r Z
theorem mSs_nil {Γ : Cx} {es : List Stmt} (h : mSs P Γ [] es = true) : es = [] := nil_of h
theorem mSs_cons {Γ : Cx} {c : CS} {cs : List CS} {es : List Stmt} (h : mSs P Γ (c :: cs) es = true) : ∃ e es', es = e :: es' ∧ mS P Γ c e = true ∧ mSs P Γ cs es' = true := by
  cases es with
  | nil => exact no_true h
  | cons e es => have := and_of (a := mS P Γ c e) (b := mSs P Γ cs es) h; exact ⟨e, es, rfl, this.1, this.2⟩

theorem rse_all (X : Fx W P A (env :: fs) n F) {Γ : Cx} {c : Nat} {msg : Str} {x : Str} {es : List Expr} {np cpos pos : Pos} (hsc : env.scope = Γ.sc) (h1 : P.loud = true) (h2 : isOwn P Γ c x = true) (h3 : excIn P.K (P.ca c) bmV "ValueError.__new__" = true) (h4 : noStar es = true)
    (hl : SiL W A (env :: fs) env Γ.vis (spliced (backTo cpos (starEach es env))) (fun r => evs P.S F [.cnst (.str msg)] r)) : SiS W A fs env Γ.vis (exec (.Raise (some (.Call (.Name x np) es [] cpos)) none pos) env) (fun r => ex P.S F (.rse c msg) r) := by
  obtain ⟨a, b, e⟩ := own_of hsc h2
  obtain ⟨mg, mb, _, _, _, pp, loose, T⟩ := X.gl.top
  have := x_raise (pos := pos) (np := np) (bmB := bmV) (Bn := "ValueError") (B := "ValueError") X.gl (X.hh h1) PySem.F.excBase_ValueError rfl PySem.F.excBase_ValueError rfl T (c := c) (X.ca ▸ e) (X.ca ▸ h3) a b h4 hl (fun r m vs m' q => by cases q; exact (by decide : 1 ≤ lid))
  exact this
theorem try_all (X : Fx W P A (env :: fs) n F) {Γ : Cx} {c : Nat} {ni : Option Nat} {nm : Option Str} {x : Str} {np hp rp pos : Pos} {body : List Stmt} {e : Expr} {cb : Lo → Mn (Fl × Lo)} {ch : Lo → Mn V} (hsc : env.scope = Γ.sc) (h1 : isOwn P Γ c x = true) (h2 : allCls (relT P c) 0 P.S.cls = true) (h3 : okNm Γ ni nm = true)
    (hb : SiQ W A fs env Γ.vis (execs body env) cb) (he : ∀ a, SiE W (A.mark (some (.ref a))) (env :: fs) env Γ.vis (eval e env) ch) :
    SiS W A fs env Γ.vis (exec (.Try body [.ExceptHandler (some (.Name x np)) nm [.Return (some e) rp] hp] [] [] pos) env) (fun r => tryD P.S (cb r) c ni ch r) := by
  obtain ⟨a, b, e1⟩ := own_of hsc h1
  refine x_try X.gl X.R.frames hb he (X.ca ▸ e1) a b (fun d hd => ?_) ?_
  · cases q : P.S.cls[d]? with
    | none => rw [q] at hd; cases hd
    | some k =>
      rw [q] at hd
      have := allCls_get h2 q
      rw [Nat.zero_add] at this
      have this : (!(k.supers.contains c) || exmOne P.K (.ref (P.ca d)) (.ref (P.ca c)) == some true) = true := this
      rw [show k.supers.contains c = true from hd] at this
      rw [X.ca]; exact beq_iff_eq.mp this
  · cases ni with
    | none => cases nm with
      | none => trivial
      | some y => exact no_true h3
    | some i => cases nm with
      | none => exact no_true h3
      | some y =>
        have q2 := (and_of h3).2
        have q1 := (and_of h3).1
        refine ⟨?_, ?_⟩
        · split at q1
          · rename_i z hz; rw [hz, beq_iff_eq.mp q1]
          · cases q1
        · show env.scope.names.lookup y = _
          rw [hsc]
          split at q2
          · assumption
          · cases q2
theorem Fx.quiet (X : Fx W P A fs n F) (a : Addr) : Fx W P.quiet (A.mark (some (.ref a))) fs n F where
  gl := X.gl
  R := ⟨X.R.frames, X.R.depth, X.R.units⟩
  S := X.S
  fa := X.fa
  ca := X.ca
  hh := fun h => by cases h
  calls := fun k hk => X.qcalls (A.mark (some (.ref a))) ⟨X.R.frames, X.R.depth, X.R.units⟩ k hk
  new := fun h => by cases h
  qcalls := fun _ _ _ hk => by cases hk
  objs := fun h => by cases h
mutual
theorem exQ (X : Fx W P A (env :: fs) n F) : ∀ (c : CS) (Γ : Cx) (st : Stmt), env.scope = Γ.sc → qS c = true → mS P Γ c st = true → SiQ W A fs env Γ.vis (exec st env) (fun r => ex P.S F c r)
  | .exp e, Γ, st, hsc, hq, h => by
    refine any_use (o := vExp st) h fun q hq h => ?_
    obtain ⟨_, rfl⟩ := vExp_of hq
    have h2 := (and_of h).2
    have h1 := (and_of h).1
    exact q_exp (noswap ((Bool.not_eq_true' _).mp h2)) (evE X e Γ env _ hsc h1)
  | .ite c a b, Γ, st, hsc, hq, h => by
    have qb := (and_of hq).2
    have qa := (and_of hq).1
    refine any_use (o := vIfS st) h fun q hq h => ?_
    obtain ⟨_, rfl⟩ := vIfS_of hq
    have h3 := (and_of h).2
    have h := (and_of h).1
    have h2 := (and_of h).2
    have h1 := (and_of h).1
    exact q_if (evTt X c Γ env _ hsc h1) (exQs X a Γ _ hsc qa h2) (exQs X b Γ _ hsc qb h3)
  | .ret e, Γ, st, hsc, hq, h => by
    refine any_use (o := vRet st) h fun q hq h => ?_
    obtain ⟨_, rfl⟩ := vRet_of hq
    refine any_use (o := q) h fun v hv h => ?_
    rw [hv]
    exact q_ret (evE X e Γ env _ hsc h)
  | .asg _ _, _, _, _, hq, _ => no_true hq
  | .for_ _ _ _ _, _, _, _, hq, _ => no_true hq
  | .wh _ _, _, _, _, hq, _ => no_true hq
  | .rse _ _, _, _, _, hq, _ => no_true hq
  | .try_ _ _ _ _, _, _, _, hq, _ => no_true hq
  | .cont, _, _, _, hq, _ => no_true hq
  | .pass, _, _, _, hq, _ => no_true hq
theorem exQs (X : Fx W P A (env :: fs) n F) : ∀ (cs : List CS) (Γ : Cx) (ss : List Stmt), env.scope = Γ.sc → qSs cs = true → mSs P Γ cs ss = true → SiQ W A fs env Γ.vis (execs ss env) (fun r => exs P.S F cs r)
  | [], Γ, ss, hsc, _, h => by
    rw [mSs_nil h]
    exact q_nil
  | c :: cs, Γ, ss, hsc, hq, h => by
    have q2 := (and_of hq).2
    have q1 := (and_of hq).1
    obtain ⟨e, es', he, h1, h2⟩ := mSs_cons h
    rw [he]
    exact q_cons (exQ X c Γ _ hsc q1 h1) (exQs X cs Γ _ hsc q2 h2)
end
mutual
theorem exS (X : Fx W P A (env :: fs) n F) : ∀ (c : CS) (Γ : Cx) (st : Stmt), env.scope = Γ.sc → mS P Γ c st = true → SiS W A fs env Γ.vis (exec st env) (fun r => ex P.S F c r)
  | .asg t e, Γ, st, hsc, h => by
    refine any_use (o := vAsg st) h fun q hq h => ?_
    rw [vAsg_of hq]
    refine any_use (o := vOne q.1) h fun tg ht h => ?_
    rw [vOne_of ht]
    exact asg_all X hsc h
  | .exp e, Γ, st, hsc, h => by
    refine any_use (o := vExp st) h fun q hq h => ?_
    obtain ⟨_, rfl⟩ := vExp_of hq
    have h2 := (and_of h).2
    have h1 := (and_of h).1
    exact x_exp (noswap ((Bool.not_eq_true' _).mp h2)) (evE X e Γ env _ hsc h1)
  | .ite c a b, Γ, st, hsc, h => by
    refine any_use (o := vIfS st) h fun q hq h => ?_
    obtain ⟨_, rfl⟩ := vIfS_of hq
    have h3 := (and_of h).2
    have h := (and_of h).1
    have h2 := (and_of h).2
    have h1 := (and_of h).1
    exact x_if (evTt X c Γ env _ hsc h1) (exSs X a Γ _ hsc h2) (exSs X b Γ _ hsc h3)
  | .for_ k t src body, Γ, st, hsc, h => by
    refine any_use (o := vFor st) h fun q hq h => ?_
    obtain ⟨_, rfl⟩ := vFor_of hq
    have h4 := (and_of h).2
    have h := (and_of h).1
    have h3 := (and_of h).2
    have h := (and_of h).1
    have h2 := (and_of h).2
    have h := (and_of h).1
    have h1 := (and_of h).2
    have h0 := (and_of h).1
    rw [nil_of h0]
    have hl := (and_of h3).1
    cases t with
    | many is => exact no_true h1
    | one i =>
    refine any_use (o := vName q.1) h1 fun y hq ht => ?_
    obtain ⟨hv, hk⟩ := tgt_of hsc ht
    rw [vName_of hq]
    exact for_all X.R.frames (src_of X hsc h3 (fun e c hc he => evOne X src Γ env e hsc c hc he) (fun es pos hs he => evL X src Γ env es pos hsc hs he)) hv hk (exSs X body Γ _ hsc h4) (set_of h2)
  | .wh _ _, _, _, _, h => no_true h
  | .ret e, Γ, st, hsc, h => by
    refine any_use (o := vRet st) h fun q hq h => ?_
    obtain ⟨_, rfl⟩ := vRet_of hq
    refine any_use (o := q) h fun v hv h => ?_
    rw [hv]
    exact x_ret (evE X e Γ env _ hsc h)
  | .rse c msg, Γ, st, hsc, h => by
    refine any_use (o := vRse st) h fun q hq h => ?_
    obtain ⟨pos, rfl⟩ := vRse_of hq
    obtain ⟨h0, h⟩ := and_of h
    refine any_use (o := q.1) h fun e he h => ?_
    refine any_use (o := vCallN e) h fun t ht h => ?_
    obtain ⟨np, cpos, rfl⟩ := vCallN_of ht
    rw [he, Option.isNone_iff_eq_none.mp h0]
    have h5 := (and_of h).2
    have h := (and_of h).1
    have h4 := (and_of h).2
    have h := (and_of h).1
    have h3 := (and_of h).2
    have h := (and_of h).1
    have h2 := (and_of h).2
    have h1 := (and_of h).1
    exact rse_all X hsc h1 h2 h3 h4 (evL X [.cnst (.str msg)] Γ env _ _ hsc h4 h5)
  | .try_ b c ni hh, Γ, st, hsc, h => by
    refine any_use (o := vTry st) h fun q hq h => ?_
    obtain ⟨pos, rfl⟩ := vTry_of hq
    have hb := (and_of h).2
    have h := (and_of h).1
    have h2 := (and_of h).2
    have h1 := (and_of h).1
    refine any_use (o := vOne q.2.1) hb fun hd h3 h => ?_
    refine any_use (o := vHand hd) h fun t h4 h => ?_
    refine any_use (o := vName t.1) h fun x hx h => ?_
    have k6 := (and_of h).2
    have h := (and_of h).1
    have k5 := (and_of h).2
    have h := (and_of h).1
    have k4 := (and_of h).2
    have h := (and_of h).1
    have k3 := (and_of h).2
    have h := (and_of h).1
    have k2 := (and_of h).2
    have k1 := (and_of h).1
    obtain ⟨rp, hp, rfl⟩ := vHand_of h4
    rw [vOne_of h3, nil_of h1, nil_of h2, vName_of hx]
    exact try_all X hsc k1 k2 k3 (exQs X b Γ _ hsc k4 k5) (fun a => evE (X.quiet a) hh Γ env _ hsc k6)
  | .cont, Γ, st, hsc, h => by
    obtain ⟨_, rfl⟩ := vCont_of h
    exact x_cont
  | .pass, Γ, st, hsc, h => by
    obtain ⟨_, rfl⟩ := vPass_of h
    exact x_pass
theorem exSs (X : Fx W P A (env :: fs) n F) : ∀ (cs : List CS) (Γ : Cx) (ss : List Stmt), env.scope = Γ.sc → mSs P Γ cs ss = true → SiS W A fs env Γ.vis (execs ss env) (fun r => exs P.S F cs r)
  | [], Γ, ss, hsc, h => by
    rw [mSs_nil h]
    exact x_nil
  | c :: cs, Γ, ss, hsc, h => by
    obtain ⟨e, es', he, h1, h2⟩ := mSs_cons h
    rw [he]
    exact x_cons (exS X c Γ _ hsc h1) (exSs X cs Γ _ hsc h2)
end

theorem mFs_get : ∀ {ds : List FnD} {j i : Nat} {d : FnD}, mFs P j ds = true → ds[i]? = some d → P.can (j + i) = true → mF P (j + i) d = true
  | [], j, i, d, _, h, _ => by simp at h
  | x :: ds, j, i, d, hm, h, hk => by
    have h2 := (and_of hm).2
    have h1 := (and_of hm).1
    cases i with
    | zero =>
      have e : x = d := by simpa using h
      rw [e] at h1
      have h1 : (!P.can j || mF P j d) = true := h1
      rw [show P.can j = true from hk] at h1
      exact h1
    | succ i =>
      have e : j + (i + 1) = j + 1 + i := by omega
      rw [e] at hk ⊢
      exact mFs_get h2 (by simpa using h) hk
theorem objs_of (hck : mFs P 0 P.S.fns = true) (hn : P.ok = none) (k : Nat) (hk : k < P.S.fns.length) : ∃ o fd, P.K.lookup (P.fa k) = some o ∧ o.data = .func fd ∧ o.cls = .type "function" := by
  have hm := mFs_get (j := 0) hck (List.getElem?_eq_getElem hk) (by unfold Px.can; rw [hn])
  rw [Nat.zero_add] at hm
  unfold mF at hm
  split at hm
  · rename_i o ho
    split at hm
    · rename_i fd hfd
      split at hm
      · exact ⟨o, fd, ho, hfd, beq_iff_eq.mp (and_of (and_of hm).1).1⟩
      · cases hm
    · cases hm
  · cases hm
theorem AR.born {A : Around} {fs : List Env} {n : Nat} (R : AR A fs (n + 1)) (env : Env) : AR (Mini.born (A.deeper env)) (env :: fs) n := by
  have Rd := R.deeper env
  refine ⟨Rd.frames, ?_, ?_⟩
  · have := R.depth; show A.depth + 1 + 1 + 4 * n ≤ 900; omega
  · have := R.units; show A.units + 3 + 1 + 40 * n + 400 ≤ 9000; omega
theorem fns_sim (gl : Gl W P.K) (hS : W.S = P.S) (hfa : W.fa = P.fa) (hca : W.ca = P.ca) (hck : mFs P 0 P.S.fns = true) (hqk : ∀ (n : Nat) (A : Around) (fs : List Env), AR A fs n → ∀ k, P.qok.contains k = true → SiF W A fs (.ref (W.fa k)) (run P.S n k)) :
    ∀ (n : Nat) (A : Around) (fs : List Env), AR A fs n → (P.loud = true → A.handled = none) → ∀ k, P.can k = true → SiK W A fs (.ref (W.fa k)) (run P.S n k)
  | 0, A, fs, R, hh, k, hok => fun s io m vs us H G hu hne => absurd rfl hne
  | n + 1, A, fs, R, hh, k, hok => by
    show SiK W A fs (.ref (W.fa k)) (callF P.S (run P.S n) k)
    cases hd : P.S.fns[k]? with
    | none =>
      intro s io m vs us H G hu hne
      exact absurd (by unfold callF; rw [hd]; rfl) hne
    | some d =>
      have hm := mFs_get (j := 0) hck hd (by rw [Nat.zero_add]; exact hok)
      rw [Nat.zero_add] at hm
      unfold mF at hm
      split at hm
      · rename_i o ho
        split at hm
        · rename_i fd hfd
          split at hm
          · rename_i body hb
            simp only [Bool.and_eq_true] at hm
            have := call_sim (W := W) (fs := fs) (A := A) (n := n) (Fb := fun r => exs P.S (run P.S n) d.body r) gl R ho hfd hm.1.2 hb
              (fun env hsc => exSs (X := ⟨gl, R.deeper env, hS, hfa, hca, hh, fun k hk => (fns_sim gl hS hfa hca hck hqk n (A.deeper env) (env :: fs) (R.deeper env) hh k hk).f, fun hn k hk => fns_sim gl hS hfa hca hck hqk n (born (A.deeper env)) (env :: fs) (R.born env) hh k (by unfold Px.can; rw [hn]), fun A' R' => hqk n A' (env :: fs) R', objs_of hck⟩) d.body ⟨fd.scope, d.names.map some⟩ body hsc hm.2)
            rw [← hfa] at this
            have eq : callF P.S (run P.S n) k = fun vs => if vs.length = d.np then bnd (exs P.S (run P.S n) d.body (vs.map some ++ List.replicate (d.names.length - d.np) none)) finF else bad := by
              funext vs; unfold callF; rw [hd]
            rw [eq]
            exact this
          · cases hm
        · cases hm
      · cases hm
/-- the whole program: first what may be called while an exception is handled, then all -/
theorem all_sim (gl : Gl W P.K) (hS : W.S = P.S) (hfa : W.fa = P.fa) (hca : W.ca = P.ca) (hck : mFs P 0 P.S.fns = true) (hcq : mFs P.quiet 0 P.S.fns = true) :
    ∀ (n : Nat) (A : Around) (fs : List Env), AR A fs n → (P.loud = true → A.handled = none) → ∀ k, P.can k = true → SiF W A fs (.ref (W.fa k)) (run P.S n k) :=
  fun n A fs R hh k hk => (fns_sim gl hS hfa hca hck (fun n A fs R k hk => (fns_sim (P := P.quiet) gl hS hfa hca hcq (fun _ _ _ _ _ h => by cases h) n A fs R (fun h => by cases h) k hk).f) n A fs R hh k hk).f
end
end Mini

/-! What a run of the small language ends in. -/
namespace Mini
open PySem

/-- the ends of a run: a value, an exception -/
noncomputable def Wp {α : Type} (x : Mn α) (m : MH) (Q : α → MH → Prop) (E : Nat → MH → Prop) : Prop := match x m with
  | .ok a m' => Q a m'
  | .exc c m' => E c m'
  | .bad => False
/-- no exception -/
noncomputable abbrev nox : Nat → MH → Prop := fun _ _ => False

section
variable {α β : Type} {S : Sig} {F : Fns} {r : Lo} {m m' : MH} {Q : α → MH → Prop} {E : Nat → MH → Prop}
theorem wp_eq {x : Mn α} {a : α} (h : x m = .ok a m') (q : Q a m') : Wp x m Q E := by unfold Wp; rw [h]; exact q
theorem wp_exc {x : Mn α} {c : Nat} (h : x m = .exc c m') (q : E c m') : Wp x m Q E := by unfold Wp; rw [h]; exact q
theorem wp_bnd {x : Mn β} {f : β → Mn α} (h : Wp x m (fun a m' => Wp (f a) m' Q E) E) : Wp (bnd x f) m Q E := by
  unfold Wp bnd at *
  cases q : x m with
  | ok a m1 => rw [q] at h; exact h
  | exc c m1 => rw [q] at h; exact h
  | bad => rw [q] at h; exact h
theorem wp_mono {x : Mn α} {Q' : α → MH → Prop} {E' : Nat → MH → Prop} (h : Wp x m Q' E') (k : ∀ a m', Q' a m' → Q a m') (l : ∀ c m', E' c m' → E c m') : Wp x m Q E := by
  unfold Wp at *
  cases q : x m with
  | ok a m1 => rw [q] at h; exact k _ _ h
  | exc c m1 => rw [q] at h; exact l _ _ h
  | bad => rw [q] at h; exact h
theorem wp_use {x : Mn α} {Q' : α → MH → Prop} (h : Wp x m Q' nox) (k : ∀ a m', Q' a m' → Q a m') : Wp x m Q E := wp_mono h k fun _ _ q => q.elim
theorem wp_val {x : Mn α} (h : Wp x m Q nox) : ∃ a m', x m = .ok a m' ∧ Q a m' := by
  unfold Wp at h
  cases q : x m with
  | ok a m1 => rw [q] at h; exact ⟨a, m1, rfl, h⟩
  | exc c m1 => rw [q] at h; exact h.elim
  | bad => rw [q] at h; exact h.elim
end

/-- what was there is there -/
noncomputable def Le (m m' : MH) : Prop := m.length ≤ m'.length ∧ ∀ p, p < m.length → m'[p]? = m[p]?
theorem Le.trans {a b c : MH} (h : Le a b) (k : Le b c) : Le a c := ⟨Nat.le_trans h.1 k.1, fun p q => (k.2 p (Nat.lt_of_lt_of_le q h.1)).trans (h.2 p q)⟩
theorem Le.app (m e : MH) : Le m (m ++ e) := ⟨by simp, fun p q => List.getElem?_append_left q⟩
theorem has_lt {m : MH} {p : Nat} {o : MObj} (k : m[p]? = some o) : p < m.length := by
  rcases Nat.lt_or_ge p m.length with q | q
  · exact q
  · rw [List.getElem?_eq_none q] at k; cases k
theorem Le.has {m m' : MH} (h : Le m m') {p : Nat} {o : MObj} (k : m[p]? = some o) : m'[p]? = some o := by
  rw [h.2 p (has_lt k), k]
theorem Le.set {m m' : MH} (h : Le m m') {p : Nat} (hp : m.length ≤ p) (o : MObj) : Le m (m'.set p o) :=
  ⟨by rw [List.length_set]; exact h.1, fun q hq => by rw [List.getElem?_set_ne (by omega)]; exact h.2 q hq⟩
theorem set_has {m : MH} {p : Nat} {o o' : MObj} (k : m[p]? = some o) : (m.set p o')[p]? = some o' := by
  rw [List.getElem?_set_self (has_lt k)]
theorem set_other {m : MH} {p q : Nat} {o o' : MObj} (hn : p ≠ q) (k : m[q]? = some o) : (m.set p o')[q]? = some o := by
  rw [List.getElem?_set_ne hn]; exact k
theorem new_has {m : MH} {o : MObj} : (m ++ [o])[m.length]? = some o := by simp

section
variable {S : Sig} {F : Fns} {r : Lo} {m : MH} {E : Nat → MH → Prop}
section
variable {Q : V → MH → Prop}
theorem wp_alloc {o : MObj} (h : ∀ p m', Le m m' → m'[p]? = some o → m.length ≤ p → Q (.ref p) m') : Wp (alloc o) m Q E := h m.length (m ++ [o]) (.app _ _) new_has (Nat.le_refl _)
/-- the value of an expression that is at hand -/
theorem wp_rfl {α : Type} {x : Mn α} {a : α} {m' : MH} {Q : α → MH → Prop} (h : x m = .ok a m') (q : Q a m') : Wp x m Q E := wp_eq h q
theorem pe_bin {op : Operator} {a b : CE} (h : Wp (ev S F a r) m (fun x m' => Wp (ev S F b r) m' (fun y m' => Wp (binV op x y) m' Q E) E) E) : Wp (ev S F (.bin op a b) r) m Q E :=
  wp_bnd (x := ev S F a r) (wp_mono h (fun _ _ q => wp_bnd (x := ev S F b r) q) fun _ _ q => q)
theorem pe_call {k : Nat} {as : List CE} (h : Wp (evs S F as r) m (fun vs m' => Wp (F k vs) m' Q E) E) : Wp (ev S F (.call k as) r) m Q E := wp_bnd (x := evs S F as r) h
theorem pe_bi {b : Bi} {as : List CE} (h : Wp (evs S F as r) m (fun vs m' => Wp (biV b vs) m' Q E) E) : Wp (ev S F (.bi b as) r) m Q E := wp_bnd (x := evs S F as r) h
theorem pe_idx {a i : CE} (h : Wp (ev S F a r) m (fun x m' => Wp (ev S F i r) m' (fun y m' => Wp (idxV x y) m' Q E) E) E) : Wp (ev S F (.idx a i) r) m Q E :=
  wp_bnd (x := ev S F a r) (wp_mono h (fun _ _ q => wp_bnd (x := ev S F i r) q) fun _ _ q => q)
theorem pe_tup {as : List CE} (h : Wp (evs S F as r) m (fun vs m' => Q (.tup vs) m') E) : Wp (ev S F (.tup as) r) m Q E := wp_bnd (x := evs S F as r) h
theorem pe_list {as : List CE} (h : Wp (evs S F as r) m (fun vs m' => Wp (alloc (.list vs)) m' Q E) E) : Wp (ev S F (.list as) r) m Q E := wp_bnd (x := evs S F as r) h
theorem pe_cmp {a b : CE} {op : CmpOp} (h : Wp (ev S F a r) m (fun x m' => Wp (ev S F b r) m' (fun y m' => Wp (cmpV op x y) m' (fun c m' => Q (.bool c) m') E) E) E) : Wp (ev S F (.cmp a [op] [b]) r) m Q E :=
  wp_bnd (x := ev S F a r) (wp_mono h (fun x _ q => wp_bnd (x := ev S F b r) (wp_mono q (fun y _ q => wp_bnd (x := cmpV op x y) q) fun _ _ q => q)) fun _ _ q => q)
theorem pe_smeth {o : CE} {n : Sm} {as : List CE} (h : Wp (ev S F o r) m (fun x m' => ∃ k, smK x m' = some k ∧ smH k n = true ∧ Wp (evs S F as r) m' (fun vs m' => Wp (smethV k x n vs) m' Q E) E) E) : Wp (ev S F (.smeth o n as) r) m Q E := by
  refine wp_bnd (x := ev S F o r) (wp_mono h (fun x m' q => ?_) fun _ _ q => q)
  obtain ⟨k, hk, hs, q⟩ := q
  have q2 := wp_bnd (x := evs S F as r) q
  unfold Wp at q2 ⊢
  dsimp only
  rw [hk]
  dsimp only
  rw [if_pos hs]
  exact q2
theorem pes_nil {Q : List V → MH → Prop} (h : Q [] m) : Wp (evs S F [] r) m Q E := h
theorem pes_cons {a : CE} {as : List CE} {Q : List V → MH → Prop} (h : Wp (ev S F a r) m (fun v m' => Wp (evs S F as r) m' (fun vs m' => Q (v :: vs) m') E) E) : Wp (evs S F (a :: as) r) m Q E :=
  wp_bnd (x := ev S F a r) (wp_mono h (fun v _ q => wp_bnd (x := evs S F as r) q) fun _ _ q => q)
end
section
variable {Q : Bool → MH → Prop}
theorem pt_val {e : CE} (h : Wp (ev S F e r) m (fun v m' => Wp (truth v) m' Q E) E) : Wp (evT S F (.val e) r) m Q E := wp_bnd (x := ev S F e r) h
theorem pt_not {e : CB} (h : Wp (evT S F e r) m (fun b m' => Q (!b) m') E) : Wp (evT S F (.not e) r) m Q E := wp_bnd (x := evT S F e r) h
theorem pt_all {c : Bool} {bs : List CB} (h : Wp (evTs S F c bs r) m Q E) : Wp (evT S F (.all c bs) r) m Q E := h
theorem pts_cons {c : Bool} {a : CB} {as : List CB} (h : Wp (evT S F a r) m (fun b m' => bif b == c then Wp (evTs S F c as r) m' Q E else Q b m') E) : Wp (evTs S F c (a :: as) r) m Q E := by
  refine wp_bnd (x := evT S F a r) (wp_mono h (fun t m' q => ?_) fun _ _ q => q)
  cases e : t == c with
  | true => rw [e] at q; exact q
  | false => rw [e] at q; exact q
end
section
variable {Q : Fl × Lo → MH → Prop} {ss : List CS}
theorem s_cons {s : CS} (h : Wp (ex S F s r) m (fun p m' => match p.1 with | .next => Wp (exs S F ss p.2) m' Q E | f => Q (f, p.2) m') E) : Wp (exs S F (s :: ss) r) m Q E := by
  refine wp_bnd (x := ex S F s r) (wp_mono h (fun p m' q => ?_) fun _ _ q => q)
  obtain ⟨f, r'⟩ := p
  cases f <;> exact q
theorem s_asg {i : Nat} {e : CE} (h : Wp (ev S F e r) m (fun v m' => Wp (exs S F ss (r.set i (some v))) m' Q E) E) : Wp (exs S F (.asg (.one (.one i)) e :: ss) r) m Q E :=
  s_cons (wp_bnd (x := ev S F e r) h)
theorem s_exp {e : CE} (h : Wp (ev S F e r) m (fun v m' => Wp (exs S F ss r) m' Q E) E) : Wp (exs S F (.exp e :: ss) r) m Q E := s_cons (wp_bnd (x := ev S F e r) h)
theorem s_ret {e : CE} (h : Wp (ev S F e r) m (fun v m' => Q (.ret v, r) m') E) : Wp (exs S F (.ret e :: ss) r) m Q E := s_cons (wp_bnd (x := ev S F e r) h)
theorem s_nil (h : Q (.next, r) m) : Wp (exs S F [] r) m Q E := h
theorem s_rse {c : Nat} {t : Str} (h : E c m) : Wp (exs S F (.rse c t :: ss) r) m Q E := s_cons (wp_exc rfl h)
theorem exs_app : ∀ (a b : List CS) (r : Lo) (m : MH), Wp (exs S F (a ++ b) r) m Q E → Wp (exs S F a r) m (fun p m' => match p.1 with | .next => Wp (exs S F b p.2) m' Q E | f => Q (f, p.2) m') E
  | [], b, r, m, h => h
  | s :: a, b, r, m, h => by
    unfold Wp at h
    refine s_cons ?_
    have e : exs S F (s :: a ++ b) r m = (ex S F s r m).bind (fun p => match p.1 with | .next => exs S F (a ++ b) p.2 | f => ret (f, p.2)) := rfl
    rw [e] at h
    unfold Wp
    cases q : ex S F s r m with
    | ok p m1 =>
      rw [q] at h
      obtain ⟨f, r1⟩ := p
      cases f with
      | next => exact exs_app a b r1 m1 h
      | cont => exact h
      | ret v => exact h
    | exc c m1 => rw [q] at h; exact h
    | bad => rw [q] at h; exact h
theorem s_ite {c : CB} {a b : List CS} (h : Wp (evT S F c r) m (fun t m' => Wp (exs S F ((bif t then a else b) ++ ss) r) m' Q E) E) : Wp (exs S F (.ite c a b :: ss) r) m Q E := by
  refine s_cons (wp_bnd (x := evT S F c r) (wp_mono h (fun t m' q => ?_) fun _ _ q => q))
  cases t
  · exact exs_app _ _ _ _ q
  · exact exs_app _ _ _ _ q
theorem s_try {body : List CS} {c : Nat} {nm : Option Nat} {hd : CE} (h : Wp (exs S F body r) m (fun p m' => match p.1 with | .next => Wp (exs S F ss p.2) m' Q E | f => Q (f, p.2) m')
    (fun d m' => ((S.cls[d]?).any fun k => k.supers.contains c) = true ∧ Wp (ev S F hd (exR nm d r)) m' (fun v m' => Q (.ret v, exN nm r) m') nox)) : Wp (exs S F (.try_ body c nm hd :: ss) r) m Q E := by
  refine s_cons ?_
  have key : ex S F (.try_ body c nm hd) r m = tryD S (exs S F body r) c nm (fun r' => ev S F hd r') r m := rfl
  unfold Wp at h ⊢
  rw [key]
  unfold tryD
  cases q : exs S F body r m with
  | ok p m1 => rw [q] at h; exact h
  | bad => rw [q] at h; exact h
  | exc d m1 =>
    rw [q] at h
    obtain ⟨h1, h2⟩ := h
    obtain ⟨v, m2, e2, q2⟩ := wp_val h2
    have e3 : tryX S c nm (fun r' => ev S F hd r') r d m1 = .ok (.ret v, exN nm r) m2 := by unfold tryX; rw [if_pos h1]; dsimp only; rw [e2]; rfl
    dsimp only
    rw [e3]
    exact q2
end
end
theorem bif_t {P Q : Prop} (h : P) : bif true then P else Q := h
theorem bif_f {P Q : Prop} (h : Q) : bif false then P else Q := h
/-! conditions whose parts all come out, and turn nothing -/
section
variable {S : Sig} {F : Fns} {r : Lo} {m : MH}
theorem q_cmp2 {a b c : CE} {o o' : CmpOp} {x y z : V} {t u : Bool} (ha : ev S F a r m = .ok x m) (hb : ev S F b r m = .ok y m) (hc : ev S F c r m = .ok z m) (h1 : cmpV o x y m = .ok t m) (h2 : cmpV o' y z m = .ok u m) : ev S F (.cmp a [o, o'] [b, c]) r m = .ok (.bool (t && u)) m := by
  show Res.bind (ev S F a r m) _ = _
  rw [ha]
  show Res.bind (ev S F b r m) _ = _
  rw [hb]
  show Res.bind (cmpV o x y m) _ = _
  rw [h1]
  cases t with
  | false => rfl
  | true =>
    show Res.bind (ev S F c r m) _ = _
    rw [hc]
    show Res.bind (cmpV o' y z m) _ = _
    rw [h2]; rfl
theorem q_and {a b : CE} {as : List CE} {x y : Bool} (ha : ev S F a r m = .ok (.bool x) m) (hb : ev S F (.boolop true (b :: as)) r m = .ok (.bool y) m) : ev S F (.boolop true (a :: b :: as)) r m = .ok (.bool (x && y)) m := by
  show Res.bind (ev S F a r m) _ = _
  rw [ha]
  cases x with
  | false => rfl
  | true => exact hb
theorem q_val {e : CE} {b : Bool} (h : ev S F e r m = .ok (.bool b) m) : evT S F (.val e) r m = .ok b m := by
  show Res.bind (ev S F e r m) _ = _
  rw [h]; rfl
theorem q_not {e : CB} {b : Bool} (h : evT S F e r m = .ok b m) : evT S F (.not e) r m = .ok (!b) m := by
  show Res.bind (evT S F e r m) _ = _
  rw [h]; rfl
theorem q_ors {a : CB} {as : List CB} {x y : Bool} (ha : evT S F a r m = .ok x m) (hb : evTs S F false as r m = .ok y m) : evTs S F false (a :: as) r m = .ok (x || y) m := by
  show Res.bind (evT S F a r m) _ = _
  rw [ha]
  cases x with
  | true => rfl
  | false => exact hb
end
/-- the call of a function -/
noncomputable def FnIs (S : Sig) (k np nl : Nat) (b : List CS) : Prop := ∃ d, S.fns[k]? = some d ∧ d.np = np ∧ d.names.length = nl ∧ d.body = b
theorem run_fn {S : Sig} {n k np nl : Nat} {b : List CS} {vs : List V} (h : FnIs S k np nl b) (hv : vs.length = np) : run S (n + 1) k vs = bnd (exs S (run S n) b (vs.map some ++ List.replicate (nl - np) Option.none)) finF := by
  obtain ⟨d, h1, h2, h3, h4⟩ := h
  show callF S (run S n) k vs = _
  unfold callF; rw [h1]; dsimp only; rw [if_pos (hv.trans h2.symm), h2, h3, h4]
theorem wp_fn {S : Sig} {n k np nl : Nat} {b : List CS} {vs : List V} {m : MH} {Q : V → MH → Prop} {E : Nat → MH → Prop} (h : FnIs S k np nl b) (hv : vs.length = np)
    (hb : Wp (exs S (run S n) b (vs.map some ++ List.replicate (nl - np) Option.none)) m (fun p m' => match p.1 with | .ret v => Q v m' | .next => Q .none m' | .cont => False) E) : Wp (run S (n + 1) k vs) m Q E := by
  rw [run_fn h hv]
  refine wp_bnd (wp_mono hb (fun p m' q => ?_) fun _ _ q => q)
  obtain ⟨f, r⟩ := p
  cases f <;> exact q
theorem wp_run {S : Sig} {n k : Nat} {d : FnD} {vs : List V} {m : MH} {Q : V → MH → Prop} {E : Nat → MH → Prop} (h : S.fns[k]? = some d) (hv : vs.length = d.np)
    (hb : Wp (exs S (run S n) d.body (vs.map some ++ List.replicate (d.names.length - d.np) Option.none)) m (fun p m' => match p.1 with | .ret v => Q v m' | .next => Q .none m' | .cont => False) E) : Wp (run S (n + 1) k vs) m Q E :=
  wp_fn ⟨d, h, rfl, rfl, rfl⟩ hv hb
end Mini

/-! The head: the top's run at once, on a tree. -/
namespace Mini
open PySem PySem.W PyProof.Rows

noncomputable def goT (ok : Thread → Bool) (st : SharedT → Thread → Option (SharedT × Thread)) : Nat → SharedT → Thread → Option SharedT
  | 0, _, _ => none
  | n + 1, s, t => match through t with
    | true => some s
    | false => match ok t with
      | false => none
      | true => match st s t with
        | some (s', t') => goT ok st n s' t'
        | none => none
theorem goT_of {tb : String → Option Builtin} {p : Program} {w : World} {n₀ : Nat} {ann : Option Value} : ∀ {n : Nat} {s s' : SharedT} {t : Thread}, goT (stepOk n₀ ann) (stepT (denote tb) p w) n s t = some s' → topRun tb p w n₀ ann n s.abs t = some s'.abs
  | 0, _, _, _, h => by cases h
  | n + 1, s, s', t, h => by
    unfold goT at h
    unfold topRun
    cases he : through t with
    | true => rw [he] at h; cases h; rfl
    | false =>
      rw [he] at h
      cases hk : stepOk n₀ ann t with
      | false => rw [hk] at h; cases h
      | true =>
        rw [hk] at h
        cases hs : stepT (denote tb) p w s t with
        | none => rw [hs] at h; cases h
        | some r => obtain ⟨s₂, t₂⟩ := r; rw [hs] at h; rw [stepT_spec hs]; exact goT_of h

noncomputable def listT (P : Params) : Nat → List (Params → Obj) → BT → BT
  | _, [], t => t
  | n, o :: r, t => listT P (n + 1) r (t.ins n (o P))
noncomputable def boots : List (Params → Obj) := [boot_o_0, boot_o_1, boot_o_2, boot_o_3, boot_o_4, boot_o_5, boot_o_6, boot_o_7, boot_o_8, boot_o_9, boot_o_10]
noncomputable def bootT (P : Params) (os : OsState) : SharedT := ⟨listT P 0 boots .nil, 11, (boot_heap P).life, Array.mk [], boot_drawn, boot_toks, os⟩
theorem bootT_abs : ∀ (P : Params) (os : OsState), (bootT P os).abs = ⟨boot_heap P, Array.mk [], boot_drawn, boot_toks, os⟩ := by intro P os; kernel_rfl
theorem boot_size : ∀ w : World, ((boot_heap w.params).isNs mainGlobals && (Array.mk ([] : List GenState)).size == 0, (boot_heap w.params).objs.size, (boot_heap w.params).nsMap mainGlobals "__annotations__") = (true, 11, some (.ref 6)) := by intro w; kernel_rfl

/-- the run, in the kit's quick words -/
noncomputable def runT (p : Program) (N : Nat) (w : World) (os : OsState) : Option SharedT :=
  goT (Fast.tw6613529449190102663 11 (some (.ref 6))) (Fast.tw10156331382660048174 (Fast.tw11892475500146522536 Fast.tw14364793385576792824) p w) N (bootT w.params os) (topStub p)
theorem runT_of {p : Program} {N : Nat} {w : World} {os : OsState} {s : SharedT} (h : runT p N w os = some s) : topRun treeTable p w 11 (some (.ref 6)) N ⟨boot_heap w.params, Array.mk [], boot_drawn, boot_toks, os⟩ (topStub p) = some s.abs := by
  rw [← bootT_abs]
  refine goT_of ?_
  rw [Fast.te6613529449190102663, Fast.te10156331382660048174, Fast.te11892475500146522536, Fast.te14364793385576792824]
  exact h

noncomputable def xtOf (q : Program) (R : WRecords) (s : Shared) : Bool := xlAt q [] s && recOk R s
/-- what is looked at behind the run -/
noncomputable def looksT (p q : Program) (R : WRecords) (chk : Heap → Bool) (w : World) (s : Shared) :=
  (staticsOk (importedModules p.main.body) (boot_heap w.params) s.heap && namesBound p s.heap && gensDone s && laidKept (boot_heap w.params) s.heap,
   Fast.tw4187177175401517315 q [] (importedModules p.main.body) (xtOf q R) true s, chk s.heap)

theorem left_of {p q : Program} {R : WRecords} {chk : Heap → Bool} {N : Nat} (e : opening p = plainProg p.main.scope.names) (hN : Nat.ble 600 N = true) (f : ∀ s, fenceModules? p s = some s)
    (h : ∀ w os, (runT p N w os).map (fun s => looksT p q R chk w s.abs) = some (true, openGood q [], true)) : LeftO p q [] (xtOf q R) (fun s => chk s.heap) (fun _ => true) N := fun w => by
  obtain ⟨⟨hp, gs, d, k, os⟩, eo, e'⟩ := Option.map_eq_some_iff.mp (boot_open e hN f w)
  obtain ⟨rfl, rfl, rfl, rfl⟩ : hp = boot_heap w.params ∧ gs = Array.mk [] ∧ d = boot_drawn ∧ k = boot_toks := by simpa using e'
  obtain ⟨z1, z2, z3⟩ : _ ∧ _ ∧ _ := by simpa only [Prod.mk.injEq] using boot_size w
  obtain ⟨s, hr, hl⟩ := Option.map_eq_some_iff.mp (h w os)
  have r := runT_of hr
  unfold looksT at hl
  obtain ⟨l1, l2, l3⟩ : _ ∧ _ ∧ _ := by simpa only [Prod.mk.injEq] using hl
  have t : topFrom treeTable p w N ⟨boot_heap w.params, Array.mk [], boot_drawn, boot_toks, os⟩ = some s.abs := by
    unfold topFrom
    dsimp only
    rw [z1, z2, z3, r]
    show (match staticsOk (importedModules p.main.body) (boot_heap w.params) s.abs.heap && namesBound p s.abs.heap && gensDone s.abs && laidKept (boot_heap w.params) s.abs.heap with | true => _ | false => _) = _
    rw [l1]
  rw [← Fast.te4187177175401517315] at l2
  unfold openEnds
  rw [eo]
  show (topFrom treeTable p w N _).map _ = _
  rw [t]
  exact congrArg some (Prod.ext l2 l3)

/-- the objects at these addresses -/
noncomputable def fragAt (as : List Addr) (h : Heap) : Frag := as.filterMap fun a => (h.get? a).map fun o => (a, o)
theorem fragAt_in (h : Heap) : ∀ as : List Addr, (fragAt as h).In h
  | [], a, o, e => by cases e
  | b :: as, a, o, e => by
    unfold fragAt at e
    cases q : h.get? b with
    | none =>
      rw [List.filterMap_cons_none (by rw [q]; rfl)] at e
      exact fragAt_in h as a o e
    | some o' =>
      rw [List.filterMap_cons_some (b := (b, o')) (by rw [q]; rfl), List.lookup_cons] at e
      split at e
      · rename_i hb
        cases e
        rw [beq_iff_eq.mp hb]; exact q
      · exact fragAt_in h as a o e
/-- a fragment of the heap that stands the look -/
noncomputable def Has (chk : Frag → Bool) (_ : World) (h : Heap) : Prop := ∃ K : Frag, K.In h ∧ chk K = true

theorem own_head {l : OpenLaw} {keep : List Nat} {as : List Addr} {chk : Frag → Bool} {N : Nat} {d : DefRec} {kwd : List (Str × Expr)} (k0 : l.wellSaid = true) (e : opening l.prog = plainProg l.prog.main.scope.names) (hN : Nat.ble 600 N = true) (f : ∀ s, fenceModules? l.prog s = some s)
    (h : ∀ w os, (runT l.prog N w os).map (fun s => looksT l.prog (view l.prog keep) l.row.records (fun h => chk (fragAt as h)) w s.abs) = some (true, openGood (view l.prog keep) [], true))
    (hdef : defOf (view l.prog keep) l.row.name = some (d, kwd)) (hp : l.row.prog.theDef l.row.name = some (d.params, d.body, d.scope)) (hk : kwWritten? d.params.kwonlyargs d.params.kw_defaults = some kwd)
    (hwr : (!l.row.writes || l.row.records.isEmpty) = true) (ok : (chainsOk (view l.prog keep) && opensWell l.row.prog && (frees l.row.toRowW && l.row.within.isEmpty)) = true) (hb : l.row.prog.bare) (hw : l.row.toRowW.promised)
    (call : WalkO (view l.prog keep) [] (XL (view l.prog keep) []) (Has chk) l.row.toRowW d kwd fun f vs => PySem.call f vs) : l.Holds :=
  holds_law k0 fun said => holds_open (q := view l.prog keep) (loose := []) (Xt := xtOf (view l.prog keep) l.row.records) (XP := XL (view l.prog keep) []) (left_of e hN f h)
    (fun w s e => ⟨fragAt as s.heap, fragAt_in _ as, e⟩) (fun w h h' ⟨K, k1, k2⟩ k => ⟨K, k1.keeps k, k2⟩) (fun s e => xl_of s (Bool.and_eq_true_iff.mp e).1) XL.keeps hdef hp hk (fun s e => recFacts_of (Bool.and_eq_true_iff.mp e).2) hwr said ok hb hw call
end Mini

/-! From the law's call to Mini's run. -/
namespace Mini
open PySem PySem.W PyProof.Rows

noncomputable def gaOf (K : Frag) (x : Str) : Addr := match nsIn K mainGlobals x with | some (some (.ref a)) => a | _ => 0
/-- the class that a method belongs to -/
noncomputable def ownerOf (S : Sig) (k : Nat) : Option ClsD := S.cls.find? fun d => d.init == some k || d.meths.any fun q => q.2 == k
noncomputable def naOf (K : Frag) (C : Addr) (x : Str) : Addr := match plainC K C with
  | some N => (match nsIn K N x with | some (some (.ref a)) => a | _ => 0)
  | none => 0
noncomputable def faOf (K : Frag) (S : Sig) (k : Nat) : Addr := match S.fns[k]? with
  | some d => (match ownerOf S k with | some D => naOf K (gaOf K D.name) d.name | none => gaOf K d.name)
  | none => 0
noncomputable def caOf (K : Frag) (S : Sig) (k : Nat) : Addr := match S.cls[k]? with
  | some d => gaOf K d.name
  | none => 0
noncomputable def pxOf (S : Sig) (qok : List Nat) (K : Frag) : Px := ⟨K, S, faOf K S, caOf K S, true, none, qok⟩
/-- the look at the program -/
noncomputable def chkOf (S : Sig) (qok : List Nat) (k : Nat) (K : Frag) : Bool := mFs (pxOf S qok K) 0 S.fns && mFs (pxOf S qok K).quiet 0 S.fns && (ownerOf S k).isNone && (match S.fns[k]? with | some d => (match nsIn K mainGlobals d.name with | some (some (.ref _)) => true | _ => false) | none => false)

theorem intsR_of : ∀ {vs : List Value} {ns : List Int}, IntsAre vs ns → IntsR ns vs
  | _, _, .nil => .nil
  | _, _, .cons n t h => .cons n t (intsR_of h)

theorem glue {prog : Program} {w : World} {K : Frag} {S : Sig} {qok : List Nat} {s₁ : Shared} {mg mb : Str → Option Value} {loose : List Str} {view : Program} {mean : ExcName → Option Value} {claim : ClaimW} {cl : Str → Option Addr} {args : List WData} {fa l : Addr} {vals : List Value} {ns : List Int} {k n : Nat} {d : FnD}
    (T : Top view loose mean mg mb s₁.heap) (hsee : importsNone view = true) (KX : K.In s₁.heap) (hg : s₁.gens = #[]) (hck : chkOf S qok k K = true) (hd : S.fns[k]? = some d) (hm : mg d.name = some (.ref fa))
    (hL : s₁.heap.IsList l vals.toArray) (hI : IntsAre vals ns) (hlen : ns.length ≤ 63) (hn : n ≤ 100) (hrun : Wp (run S n k [.scr ns]) [] (fun v _ => v = .bool true) nox)
    (hr : ∀ cls, claim.raises args cls = false) (hp : claim.post args (.bool true) args = true) :
    wpAny (model prog w) callerA (call (.ref fa) [.ref l]) (fun v s' => GoodWG claim cl mean args s₁ (.ok (.ret v)) s') (fun e s' => GoodWG claim cl mean args s₁ (.error e) s') s₁ := by
  obtain ⟨hck, hc3⟩ := Bool.and_eq_true_iff.mp hck
  obtain ⟨hck, hc4⟩ := Bool.and_eq_true_iff.mp hck
  obtain ⟨hc1, hc2⟩ := Bool.and_eq_true_iff.mp hck
  have hf : fa = faOf K S k := by
    unfold faOf
    rw [Option.isNone_iff_eq_none.mp hc4]
    unfold gaOf
    rw [hd] at hc3 ⊢
    dsimp only at hc3 ⊢
    split at hc3
    · rename_i a e
      have := mg_of KX T.g e
      rw [hm] at this
      cases this
      rfl
    · cases hc3
  let W : Wd := ⟨prog, w, S, faOf K S, caOf K S, s₁.heap⟩
  have gl : Gl W K := ⟨⟨by obtain ⟨mm, ⟨o, _, _, e, _⟩, _⟩ := (T.seer hsee).mods; exact ⟨o, e⟩, T.nolimit⟩, KX, mg, mb, T.g, T.b, T.builtins, _, _, topRead_of T⟩
  have R : AR callerA [] n := ⟨rfl, by show 1 + claimMargin + 4 * n ≤ 900; have : claimMargin ≤ 400 := by decide +kernel
                                       omega, by show 4 + 40 * n + 400 ≤ 9000; omega⟩
  obtain ⟨v, m', e, rfl⟩ := wp_val hrun
  have H : HR W s₁.heap [] [] := ⟨fun _ _ e => e, rfl, fun n p o h => by simp at h, fun b ⟨p, hp, _⟩ => (nomatch hp), fun i j p q _ h => by simp at h⟩
  obtain ⟨o, ho, hc, N, hd⟩ := hL
  have hv : VRs W s₁.heap [] [.scr ns] [.ref l] := .cons (.scr ho hc hd (by simpa using intsR_of hI) (by unfold lid; omega)) .nil
  have key := all_sim (W := W) (P := pxOf S qok K) gl rfl rfl rfl hc1 hc2 n callerA [] R (fun _ => rfl) k rfl s₁ [] [] [.scr ns] [.ref l] H (fun _ q => nomatch q) hv (by show run S n k [.scr ns] [] ≠ _; rw [e]; intro q; cases q)
  rw [hf]
  refine wpAny_mono key (fun u s' q => ?_) fun x s' q => ?_
  · obtain ⟨v, m2, io', e2, st, H2, kv, sm⟩ := q
    have e2 : run S n k [.scr ns] [] = .ok v m2 := e2
    rw [e] at e2
    cases e2
    cases kv
    exact GoodW.toG ⟨.inl ⟨_, _, [], rfl, hr, .bool true, hp, fun _ => ⟨List.nodup_nil, fun _ q => nomatch q⟩⟩, H2.keep, sm.2, sm.1.trans hg⟩
  · obtain ⟨c, m2, io', a, g, e2, _⟩ := q
    have e2 : run S n k [.scr ns] [] = .exc c m2 := e2
    rw [e] at e2
    cases e2
end Mini

/-! Lists, dicts, loops: what a run ends in. -/
namespace Mini
open PySem
section
variable {S : Sig} {F : Fns} {r : Lo} {m : MH} {E : Nat → MH → Prop} {p q : Nat} {xs ys : List V} {v : V} {Q : V → MH → Prop}
theorem smK_l (h : m[p]? = some (.list xs)) : smK (.ref p) m = some 0 := by unfold smK; dsimp only; rw [h]
theorem w_idxl {k : Int} (h : m[p]? = some (.list xs)) (hv : at_ xs k = some v) (hk : k.natAbs < 2 ^ 60) (q : Q v m) : Wp (idxV (.ref p) (.int k)) m Q E := by
  refine wp_eq (m' := m) ?_ q
  unfold idxV; dsimp only; rw [h]; dsimp only; rw [if_pos hk, hv]; rfl
theorem w_addl (h : m[p]? = some (.list xs)) (h' : m[q]? = some (.list ys)) (hl : xs.length + ys.length ≤ lid) (k : ∀ p m', Le m m' → m'[p]? = some (.list (xs ++ ys)) → m.length ≤ p → Q (.ref p) m') : Wp (binV .Add (.ref p) (.ref q)) m Q E := by
  refine wp_eq (a := .ref m.length) (m' := m ++ [.list (xs ++ ys)]) ?_ (k _ _ (.app _ _) new_has (Nat.le_refl _))
  show (match m[p]?, m[q]? with | some (.list x), some (.list y) => if x.length + y.length ≤ lid then alloc (.list (x ++ y)) m else .bad | _, _ => .bad) = _
  rw [h, h']
  show (if xs.length + ys.length ≤ lid then alloc (.list (xs ++ ys)) m else .bad) = _
  rw [if_pos hl]; rfl
theorem bools_l : ∀ bs : List Bool, isBoolL (bs.map .bool) = some bs
  | [] => rfl
  | b :: bs => by
    show (isBoolL (bs.map .bool)).map (b :: ·) = _
    rw [bools_l bs]; rfl
theorem w_count {bs : List Bool} {b : Bool} (h : m[p]? = some (.list (bs.map .bool))) (k : Q (.int (bs.count b)) m) : Wp (smethV 0 (.ref p) .count [.bool b]) m Q E := by
  refine wp_eq (m' := m) ?_ k
  show (match m[p]? with | some (.list xs) => listM p xs .count [.bool b] m | _ => .bad) = _
  rw [h]
  show (match isBoolL (bs.map V.bool) with | some bs => Res.ok (V.int (bs.count b)) m | Option.none => .bad) = _
  rw [bools_l]
theorem w_index {bs : List Bool} {b : Bool} (h : m[p]? = some (.list (bs.map .bool))) (hc : bs.contains b = true) (k : Q (.int (bs.idxOf b)) m) : Wp (smethV 0 (.ref p) .index [.bool b]) m Q E := by
  refine wp_eq (m' := m) ?_ k
  show (match m[p]? with | some (.list xs) => listM p xs .index [.bool b] m | _ => .bad) = _
  rw [h]
  show (match isBoolL (bs.map V.bool) with | some bs => if bs.contains b then Res.ok (V.int (bs.idxOf b)) m else .bad | Option.none => .bad) = _
  rw [bools_l]
  show (if bs.contains b then Res.ok (V.int (bs.idxOf b)) m else .bad) = _
  rw [if_pos hc]
theorem stays_l {n : Nat} (h : m[n]? = some (.list xs)) : (Gd.list n xs).stays m = true := by
  show (match m[n]? with | some (.list ys) => V.sames xs ys | _ => false) = true
  rw [h]; exact sames_self xs
theorem w_srcl {Q : List V × Gd → MH → Prop} (h : m[p]? = some (.list xs)) (k : Q (xs, .list p xs) m) : Wp (srcV .expr [.ref p]) m Q E := by
  refine wp_eq (m' := m) ?_ k
  unfold srcV itemsV; dsimp only; rw [h]
end

/-- a for: what holds between the turns, for the items that are left -/
theorem wp_forD {g : Gd} {step : V → Lo → Mn (Fl × Lo)} {Q : Fl × Lo → MH → Prop} {E : Nat → MH → Prop} (I : List V → Lo → MH → Prop) (hg : ∀ xs r m, I xs r m → g.stays m = true)
    (hs : ∀ x xs r m, I (x :: xs) r m → Wp (step x r) m (fun p m' => match p.1 with | .ret v => Q (.ret v, p.2) m' | _ => I xs p.2 m') E) (hn : ∀ r m, I [] r m → Q (.next, r) m) :
    ∀ (xs : List V) (r : Lo) (m : MH), I xs r m → Wp (forD g step xs r) m Q E
  | [], r, m, h => by
    refine wp_eq (m' := m) ?_ (hn r m h)
    show (if g.stays m then _ else _) = _
    rw [if_pos (hg _ _ _ h)]
  | x :: xs, r, m, h => by
    have e : forD g step (x :: xs) r m = (step x r m).bind (fun p => match p.1 with | .ret x => ret (.ret x, p.2) | _ => forD g step xs p.2) := if_pos (hg _ _ _ h)
    have k := hs x xs r m h
    unfold Wp at k ⊢
    rw [e]
    cases q : step x r m with
    | bad => rw [q] at k; exact k
    | exc c m1 => rw [q] at k; exact k
    | ok p m1 =>
      rw [q] at k
      obtain ⟨f, r1⟩ := p
      cases f with
      | ret v => exact k
      | next => exact wp_forD I hg hs hn xs r1 m1 k
      | cont => exact wp_forD I hg hs hn xs r1 m1 k
theorem s_for {S : Sig} {F : Fns} {k : IK} {t : CT} {src : List CE} {body ss : List CS} {r : Lo} {m : MH} {Q : Fl × Lo → MH → Prop} {E : Nat → MH → Prop} (h : Wp (evs S F src r) m (fun vs m' => Wp (srcV k vs) m' (fun p m' => ∃ I : List V → Lo → MH → Prop, I p.1 r m' ∧ (∀ xs r m, I xs r m → p.2.stays m = true) ∧
      (∀ x xs r m, I (x :: xs) r m → Wp (setT t x r) m (fun r' m' => Wp (exs S F body r') m' (fun p m' => match p.1 with | .ret v => Q (.ret v, p.2) m' | _ => I xs p.2 m') E) E) ∧ (∀ r m, I [] r m → Wp (exs S F ss r) m Q E)) E) E) : Wp (exs S F (.for_ k t src body :: ss) r) m Q E := by
  refine s_cons (wp_bnd (x := evs S F src r) (wp_mono h (fun vs m' h => wp_bnd (x := srcV k vs) (wp_mono h (fun p m' h => ?_) fun _ _ q => q)) fun _ _ q => q))
  obtain ⟨I, h0, hg, hs, hn⟩ := h
  exact wp_forD I hg (fun x xs r m hi => wp_bnd (x := setT t x r) (wp_mono (hs x xs r m hi) (fun r' m' q => wp_mono q (fun p m' q => by obtain ⟨f, r1⟩ := p; cases f <;> exact q) fun _ _ q => q) fun _ _ q => q)) hn p.1 r m' h0

theorem ifs_one {S : Sig} {F : Fns} {c : CB} {r : Lo} {m : MH} {Q : Bool → MH → Prop} {E : Nat → MH → Prop} (h : Wp (evT S F c r) m Q E) : Wp (evIf S F [c] r) m Q E := by
  refine wp_bnd (x := evT S F c r) (wp_mono h (fun b m' q => ?_) fun _ _ q => q)
  cases b <;> exact q
theorem allO_c {α β : Type} {g : α → Option β} {x : α} {xs : List α} {d : β} {ds : List β} (h1 : g x = some d) (h2 : allO g xs = some ds) : allO g (x :: xs) = some (d :: ds) := by
  show (match g x, allO g xs with | some d, some ds => some (d :: ds) | _, _ => none) = _
  rw [h1, h2]
theorem allO_n {α β : Type} {g : α → Option β} {x : α} {xs : List α} (h1 : g x = none) : allO g (x :: xs) = none := by
  show (match g x, allO g xs with | some d, some ds => some (d :: ds) | _, _ => none) = _
  rw [h1]
end Mini

/-! Small facts about numbers, each once (omega's proofs are large). -/
namespace Mini
open PySem
theorem md0 {x n : Int} (h : 0 < n) : 0 ≤ x % n := Int.emod_nonneg _ (Int.ne_of_gt h)
theorem md1 {x n : Int} (h : 0 < n) : x % n < n := Int.emod_lt_of_pos _ h
theorem abs_lt {a b : Int} {c : Nat} (h0 : 0 ≤ a) (h1 : a < b) (h2 : b ≤ (c : Int)) : a.natAbs < c := by omega
theorem abs60 {a b : Int} (h0 : 0 ≤ a) (h1 : a < b) (h2 : b ≤ 1000000) : a.natAbs < 2 ^ 60 := Nat.lt_of_lt_of_le (abs_lt (c := 1000000) h0 h1 h2) (by decide)
theorem md60 {x n : Int} (h : 0 < n) (h2 : n ≤ 1000000) : (x % n).natAbs < 2 ^ 60 := abs60 (md0 h) (md1 h) h2
theorem md30 {x n : Int} (h : 0 < n) (h2 : n ≤ 1000000) : (x % n).natAbs < 1073741824 := Nat.lt_of_lt_of_le (abs_lt (c := 1000000) (md0 h) (md1 h) h2) (by decide)
theorem toN_lt {a : Int} {n : Nat} (h0 : 0 ≤ a) (h : a < (n : Int)) : a.toNat < n := by omega
theorem toN_le {a b : Int} (h : a ≤ b) : a.toNat ≤ b.toNat := Int.toNat_le_toNat h
theorem mdN {x n : Int} {k : Nat} (h : 0 < n) (hk : n ≤ (k : Int)) : (x % n).toNat < k := toN_lt (md0 h) (Int.lt_of_lt_of_le (md1 h) hk)
theorem md_cast {x n : Int} (h : 0 < n) : x % n = ((x % n).toNat : Int) := (Int.toNat_of_nonneg (md0 h)).symm
theorem small_lid {n k : Nat} (h : n ≤ k) (hk : k ≤ 1000000) : n ≤ lid := Nat.le_trans h (Nat.le_trans hk (by decide))
theorem fa_nil {α : Type} {p : α → Prop} : ∀ x ∈ ([] : List α), p x := fun _ h => absurd h List.not_mem_nil
theorem fa_cons {α : Type} {p : α → Prop} {a : α} {l : List α} (h : p a) (t : ∀ x ∈ l, p x) : ∀ x ∈ a :: l, p x := List.forall_mem_cons.mpr ⟨h, t⟩
theorem one_md {x : Int} : 1 ≤ 1 + x % 12 ∧ 1 + x % 12 ≤ 12 := by omega
theorem abs_nn (x : Int) : 0 ≤ (if x < 0 then -x else x) := by
  by_cases h : x < 0
  · rw [if_pos h]; exact Int.neg_nonneg_of_nonpos (Int.le_of_lt h)
  · rw [if_neg h]; exact Int.not_lt.mp h
/-- a spec in the form of a rule -/
theorem val_use {x : Mn V} {m : MH} {a : V} {Q : V → MH → Prop} {E : Nat → MH → Prop} (h : Wp x m (fun u m' => u = a ∧ Le m m') nox) (k : ∀ m', Le m m' → Q a m') : Wp x m Q E := wp_use h fun _ m' z => z.1 ▸ k m' z.2
/-- a comprehension of items that all come out -/
theorem wp_mapf {α : Type} {g : Gd} {step : V → Mn (Option V)} {vv ww : α → V} {keep : α → Bool} {M : MH → Prop} (hg : ∀ m, M m → g.stays m = true) : ∀ {zs : List α}, (∀ z ∈ zs, ∀ m, M m → Wp (step (vv z)) m (fun o m' => o = (bif keep z then some (ww z) else none) ∧ M m') nox) → ∀ m, M m → Wp (compD g step (zs.map vv)) m (fun l m' => l = (zs.filter keep).map ww ∧ M m') nox := by
  intro zs
  induction zs with
  | nil => intro _ m hm; exact wp_eq (a := []) (m' := m) (if_pos (hg m hm)) ⟨rfl, hm⟩
  | cons z zs ih =>
    intro hs m hm
    obtain ⟨o, m1, e, q1⟩ := wp_val (hs z (.head _) m hm)
    obtain ⟨l, m2, e2, q2⟩ := wp_val (ih (fun z hz => hs z (.tail _ hz)) m1 q1.2)
    refine wp_eq (a := consO o l) (m' := m2) ?_ ⟨?_, q2.2⟩
    · have e3 : compD g step ((z :: zs).map vv) m = ((step (vv z) m).nox).bind (fun o => bnd (compD g step (zs.map vv)) fun r => ret (consO o r)) := if_pos (hg m hm)
      rw [e3, e]
      show Res.bind (compD g step (zs.map vv) m1) _ = _
      rw [e2]; rfl
    · rw [q1.1, q2.1, List.filter_cons]
      cases keep z <;> rfl
theorem pe_mapf {S : Sig} {F : Fns} {elt : CE} {k : IK} {t : CT} {nl : Nat} {src : List CE} {ifs : List CB} {r : Lo} {m : MH} {Q : V → MH → Prop} {E : Nat → MH → Prop} {α : Type} (zs : List α) (vv ww : α → V) (keep : α → Bool) (M : MH → Prop)
    (h : Wp (evs S F src r) m (fun vs m' => Wp (srcV k vs) m' (fun p m' => p.1 = zs.map vv ∧ M m' ∧ (∀ m, M m → p.2.stays m = true) ∧
      (∀ z ∈ zs, ∀ m, M m → Wp (setT t (vv z) (r ++ List.replicate nl Option.none)) m (fun r' m' => Wp (evIf S F ifs r') m' (fun b m' => b = keep z ∧ (bif b then Wp (ev S F elt r') m' (fun y m' => y = ww z ∧ M m') nox else M m')) nox) nox) ∧
      zs.length ≤ lid ∧ ∀ p m1 m2, M m1 → Le m1 m2 → m2[p]? = some (.list ((zs.filter keep).map ww)) → m1.length ≤ p → Q (.ref p) m2) E) E) : Wp (ev S F (.comp elt t nl k src ifs) r) m Q E := by
  refine wp_bnd (x := evs S F src r) (wp_mono h (fun vs m' h => wp_bnd (x := srcV k vs) (wp_mono h (fun p m' h => ?_) fun _ _ q => q)) fun _ _ q => q)
  obtain ⟨e0, h0, hg, hs, hl, hn⟩ := h
  rw [e0]
  refine wp_bnd (wp_use (wp_mapf (keep := keep) (ww := ww) hg (fun z hz m hm => ?_) m' h0) fun l m1 q => ?_)
  · refine wp_bnd (x := setT t (vv z) _) (wp_mono (hs z hz m hm) (fun r' m' q => wp_bnd (x := evIf S F ifs r') (wp_mono q (fun b m' q => ?_) fun _ _ q => q)) fun _ _ q => q)
    obtain ⟨e, q⟩ := q
    rw [e] at q ⊢
    cases hk : keep z with
    | true => rw [hk] at q; exact wp_bnd (x := ev S F elt r') (wp_mono q (fun y m' q => ⟨congrArg some q.1, q.2⟩) fun _ _ q => q)
    | false => rw [hk] at q; exact ⟨rfl, q⟩
  · have hle : l.length ≤ lid := by rw [q.1, List.length_map]; exact Nat.le_trans (List.length_filter_le _ _) hl
    rw [if_pos hle]
    exact wp_alloc fun p m2 l2 k g => hn p m1 m2 q.2 l2 (q.1 ▸ k) g
theorem filter_all {α : Type} (zs : List α) : (zs.filter fun _ => true) = zs := List.filter_eq_self.mpr fun _ _ => rfl
/-- all items are kept -/
theorem pe_map {S : Sig} {F : Fns} {elt : CE} {k : IK} {t : CT} {nl : Nat} {src : List CE} {r : Lo} {m : MH} {Q : V → MH → Prop} {E : Nat → MH → Prop} {α : Type} (zs : List α) (vv ww : α → V) (M : MH → Prop)
    (h : Wp (evs S F src r) m (fun vs m' => Wp (srcV k vs) m' (fun p m' => p.1 = zs.map vv ∧ M m' ∧ (∀ m, M m → p.2.stays m = true) ∧
      (∀ z ∈ zs, ∀ m, M m → Wp (setT t (vv z) (r ++ List.replicate nl Option.none)) m (fun r' m' => Wp (ev S F elt r') m' (fun y m' => y = ww z ∧ M m') nox) nox) ∧
      zs.length ≤ lid ∧ ∀ p m1 m2, M m1 → Le m1 m2 → m2[p]? = some (.list (zs.map ww)) → m1.length ≤ p → Q (.ref p) m2) E) E) : Wp (ev S F (.comp elt t nl k src []) r) m Q E := by
  refine pe_mapf zs vv ww (fun _ => true) M (wp_mono h (fun vs m' h => wp_mono h (fun p m' h => ?_) fun _ _ q => q) fun _ _ q => q)
  obtain ⟨e0, h0, hg, hs, hl, hn⟩ := h
  refine ⟨e0, h0, hg, fun z hz m hm => wp_mono (hs z hz m hm) (fun r' m' q => wp_rfl rfl ⟨rfl, q⟩) fun _ _ q => q, hl, ?_⟩
  rw [filter_all]; exact hn
theorem s_forz {S : Sig} {F : Fns} {k : IK} {t : CT} {src : List CE} {body ss : List CS} {r : Lo} {m : MH} {Q : Fl × Lo → MH → Prop} {E : Nat → MH → Prop} {α : Type} (zs : List α) (vv : α → V) (I : List α → Lo → MH → Prop) (h : Wp (evs S F src r) m (fun vs m' => Wp (srcV k vs) m' (fun p m' => p.1 = zs.map vv ∧ I zs r m' ∧ (∀ zs r m, I zs r m → p.2.stays m = true) ∧
      (∀ z zs r m, I (z :: zs) r m → Wp (setT t (vv z) r) m (fun r' m' => Wp (exs S F body r') m' (fun p m' => match p.1 with | .ret v => Q (.ret v, p.2) m' | _ => I zs p.2 m') E) E) ∧ (∀ r m, I [] r m → Wp (exs S F ss r) m Q E)) E) E) : Wp (exs S F (.for_ k t src body :: ss) r) m Q E := by
  refine s_for (wp_mono h (fun vs m' h => wp_mono h (fun p m' h => ?_) fun _ _ q => q) fun _ _ q => q)
  obtain ⟨e0, h0, hg, hs, hn⟩ := h
  refine ⟨fun xs r m => ∃ z, xs = z.map vv ∧ I z r m, ⟨zs, e0, h0⟩, fun _ _ _ ⟨_, _, q⟩ => hg _ _ _ q, ?_, ?_⟩
  · rintro x xs r m ⟨z, e, q⟩
    cases z with
    | nil => cases e
    | cons c z =>
      cases e
      refine wp_mono (hs c z r m q) (fun r' m' q => wp_mono q (fun p m' q => ?_) fun _ _ q => q) fun _ _ q => q
      obtain ⟨f, r1⟩ := p
      cases f with
      | ret v => exact q
      | next => exact ⟨z, rfl, q⟩
      | cont => exact ⟨z, rfl, q⟩
  · rintro r m ⟨z, e, q⟩
    cases z with
    | nil => exact hn r m q
    | cons c z => cases e
end Mini

/-! What the functions that many laws share compute. -/
namespace Mini
open PySem

/-- plain things -/
inductive Pl (m : MH) : V → Prop
  | none : Pl m .none
  | bool (b : Bool) : Pl m (.bool b)
  | int (i : Int) : Pl m (.int i)
  | str (s : Str) (h : s.length ≤ 64) : Pl m (.str s)
  | tup (xs : List V) (h : xs.length ≤ 64) : Pl m (.tup xs)
  | list (p : Nat) (xs : List V) (h : m[p]? = some (.list xs)) : Pl m (.ref p)
  | dict (p : Nat) (kvs : List (Ky × V)) (e : Nat) (h : m[p]? = some (.dict kvs e)) : Pl m (.ref p)
theorem Pl.le {m m' : MH} (l : Le m m') {v : V} (h : Pl m v) : Pl m' v := by
  cases h with
  | none => exact .none
  | bool b => exact .bool b
  | int i => exact .int i
  | str s h => exact .str s h
  | tup xs h => exact .tup xs h
  | list p xs hp => exact .list p xs (l.has hp)
  | dict p kvs e hp => exact .dict p kvs e (l.has hp)
noncomputable def vI : V → Bool | .int _ => true | .bool _ => true | _ => false
noncomputable def vB : V → Bool | .bool _ => true | _ => false
noncomputable def vS : V → Bool | .str _ => true | _ => false
noncomputable def vW : V → Bool | .int _ => true | _ => false
section
variable {S : Sig} {m : MH} {v : V}
theorem isi_int (h : Pl m v) : isiV S v .int m = .ok (vI v) m := by
  cases h with
  | list p xs hp => unfold isiV; dsimp only; rw [hp]; rfl
  | dict p kvs e hp => unfold isiV; dsimp only; rw [hp]; rfl
  | _ => rfl
theorem isi_bool (h : Pl m v) : isiV S v .bool m = .ok (vB v) m := by
  cases h with
  | list p xs hp => unfold isiV; dsimp only; rw [hp]; rfl
  | dict p kvs e hp => unfold isiV; dsimp only; rw [hp]; rfl
  | _ => rfl
theorem isi_str (h : Pl m v) : isiV S v .str m = .ok (vS v) m := by
  cases h with
  | list p xs hp => unfold isiV; dsimp only; rw [hp]; rfl
  | dict p kvs e hp => unfold isiV; dsimp only; rw [hp]; rfl
  | _ => rfl
end
section
variable {S : Sig} {F : Fns} {r : Lo} {m : MH}
theorem q_isi {a : CE} {t : Ty} {x : V} {b : Bool} (ha : ev S F a r m = .ok x m) (h : isiV S x t m = .ok b m) : ev S F (.isi a t) r m = .ok (.bool b) m := by
  show Res.bind (ev S F a r m) _ = _
  rw [ha]
  show Res.bind (isiV S x t m) _ = _
  rw [h]; rfl
theorem q_notE {a : CE} {b : Bool} (ha : ev S F a r m = .ok (.bool b) m) : ev S F (.not a) r m = .ok (.bool (!b)) m := by
  show Res.bind (ev S F a r m) _ = _
  rw [ha]; rfl
theorem q_one {a : CE} {c : Bool} {v : V} (ha : ev S F a r m = .ok v m) : ev S F (.boolop c [a]) r m = .ok v m := ha
theorem q_call1 {a : CE} {k : Nat} {x v : V} (ha : ev S F a r m = .ok x m) (h : F k [x] m = .ok v m) : ev S F (.call k [a]) r m = .ok v m := by
  show Res.bind (Res.bind (ev S F a r m) _) _ = _
  rw [ha]; exact h
theorem q_callL {as : List CE} {k : Nat} {vs : List V} {v : V} (ha : evs S F as r m = .ok vs m) (h : F k vs m = .ok v m) : ev S F (.call k as) r m = .ok v m := by
  show Res.bind (evs S F as r m) _ = _
  rw [ha]; exact h
theorem q_cmp1 {a b : CE} {o : CmpOp} {x y : V} {t : Bool} (ha : ev S F a r m = .ok x m) (hb : ev S F b r m = .ok y m) (h : cmpV o x y m = .ok t m) : ev S F (.cmp a [o] [b]) r m = .ok (.bool t) m := by
  show Res.bind (ev S F a r m) _ = _
  rw [ha]
  show Res.bind (ev S F b r m) _ = _
  rw [hb]
  show Res.bind (cmpV o x y m) _ = _
  rw [h]; rfl
theorem q_ite {c : CB} {a b ss : List CS} {t : Bool} {Q : Fl × Lo → MH → Prop} {E : Nat → MH → Prop} (h : evT S F c r m = .ok t m) (k : Wp (exs S F ((bif t then a else b) ++ ss) r) m Q E) : Wp (exs S F (.ite c a b :: ss) r) m Q E := s_ite (wp_eq h k)
theorem q_end {c : Bool} : evTs S F c [] r m = .ok c m := rfl
theorem q_all {c : Bool} {bs : List CB} {b : Bool} (h : evTs S F c bs r m = .ok b m) : evT S F (.all c bs) r m = .ok b m := h
end
/-- a spec that is an equation -/
theorem wp_eqn {α : Type} {x : Mn α} {m : MH} {a : α} (h : Wp x m (fun v m' => v = a ∧ m' = m) nox) : x m = .ok a m := by
  obtain ⟨_, _, e, rfl, rfl⟩ := wp_val h
  exact e

/-! ## the script -/
noncomputable def b_at : List CS := [.ite (.val (.cmp (.var 1) [.Lt] [.bi .len [.var 0]])) [.ret (.idx (.var 0) (.var 1))] [], .ret (.cnst (.int 0))]
noncomputable def at0 (ns : List Int) (k : Int) : Int := (ns[k.toNat]?).getD 0
theorem at_ok {S : Sig} {k : Nat} (h : FnIs S k 2 2 b_at) (n : Nat) (ns : List Int) (j : Int) (hj : 0 ≤ j) (m : MH) : run S (n + 1) k [.scr ns, .int j] m = .ok (.int (at0 ns j)) m := by
  refine wp_eqn (wp_fn h rfl (q_ite (t := decide (j < (ns.length : Int))) rfl ?_))
  by_cases hl : j < (ns.length : Int)
  · rw [decide_eq_true hl]
    refine s_ret (pe_idx (wp_rfl rfl (wp_rfl rfl (wp_eq (a := .int (at0 ns j)) (m' := m) ?_ ⟨rfl, rfl⟩))))
    show (if 0 ≤ j then ofO ((ns[j.toNat]?).map V.int) m else .bad) = _
    rw [if_pos hj]
    unfold at0
    rw [List.getElem?_eq_getElem (show j.toNat < ns.length by omega)]; rfl
  · rw [decide_eq_false hl]
    refine s_ret (wp_rfl rfl ⟨?_, rfl⟩)
    unfold at0
    rw [List.getElem?_eq_none (by omega)]; rfl

/-! ## whole numbers and counts -/
noncomputable def b_whole : List CS := [.ret (.boolop true [.isi (.var 0) .int, .not (.isi (.var 0) .bool)])]
theorem whole_ok {S : Sig} {k : Nat} (h : FnIs S k 1 1 b_whole) (n : Nat) {m : MH} {v : V} (hv : Pl m v) : run S (n + 1) k [v] m = .ok (.bool (vW v)) m := by
  refine wp_eqn (wp_fn h rfl (s_ret (wp_eq (q_and (q_isi rfl (isi_int hv)) (q_one (q_notE (q_isi rfl (isi_bool hv))))) ⟨?_, rfl⟩)))
  cases hv <;> rfl
noncomputable def b_need (kW gM c : Nat) : List CS := [.ite (.all false [.not (.val (.call kW [.var 0])), .not (.val (.cmp (.cnst (.int 1)) [.LtE, .LtE] [.var 0, .glob gM]))]) [.rse c (Str.ofString "a town has 1 to 12 houses")] []]
/-- a count -/
noncomputable def isC : V → Bool | .int i => decide (1 ≤ i) && decide (i ≤ 12) | _ => false
theorem need_ok {S : Sig} {k kW gM c : Nat} {gn : Str} (h : FnIs S k 1 1 (b_need kW gM c)) (hW : FnIs S kW 1 1 b_whole) (hM : S.globs[gM]? = some (gn, .int 12)) (n : Nat) {m : MH} {v : V} (hv : Pl m v) : run S (n + 2) k [v] m = if isC v then .ok .none m else .exc c m := by
  have e1 : ev S (run S (n + 1)) (.call kW [.var 0]) [some v] m = .ok (.bool (vW v)) m := whole_ok hW n hv
  have eg : ev S (run S (n + 1)) (.glob gM) [some v] m = .ok (.int 12) m := by
    show (match S.globs[gM]? with | some p => ret p.2.val | Option.none => bad) m = _
    rw [hM]; rfl
  have e3 : evTs S (run S (n + 1)) false [.not (.val (.call kW [.var 0])), .not (.val (.cmp (.cnst (.int 1)) [.LtE, .LtE] [.var 0, .glob gM]))] [some v] m = .ok (!isC v) m := by
    have no : vW v = false → isC v = false → evTs S (run S (n + 1)) false [.not (.val (.call kW [.var 0])), .not (.val (.cmp (.cnst (.int 1)) [.LtE, .LtE] [.var 0, .glob gM]))] [some v] m = .ok (!isC v) m := fun h1 h2 => by
      show Res.bind (evT S (run S (n + 1)) (.not (.val (.call kW [.var 0]))) [some v] m) _ = _
      rw [q_not (q_val e1), h1, h2]; rfl
    cases hv with
    | int i => exact (q_ors (q_not (q_val e1)) (q_ors (q_not (q_val (q_cmp2 rfl rfl eg rfl rfl))) q_end)).trans (by rw [Bool.or_false]; rfl)
    | _ => exact no rfl rfl
  rw [run_fn h rfl]
  show Res.bind (Res.bind (Res.bind (evTs S (run S (n + 1)) false [.not (.val (.call kW [.var 0])), .not (.val (.cmp (.cnst (.int 1)) [.LtE, .LtE] [.var 0, .glob gM]))] [some v] m) _) _) _ = _
  rw [e3]
  cases isC v <;> rfl
end Mini

/-! Rows. -/
namespace Mini
open PySem

noncomputable def letterS : Str := Str.ofString "abcdefghijklmnopqrstuvwxyz"
noncomputable def letters : List Nat := letterS.cps.toList
noncomputable def okC (c : Nat) : Bool := decide (c ∈ letters)
noncomputable def ch (c : Nat) : V := .str ⟨#[c]⟩
noncomputable def rowS (s : Str) : Bool := decide ((1 : Int) ≤ (s.length : Int)) && decide ((s.length : Int) ≤ 8)
noncomputable def badRow : V → Bool | .str s => !rowS s | _ => true
noncomputable def rowB : V → Bool | .str s => rowS s && s.cps.toList.all okC | _ => false
section
variable {S : Sig} {F : Fns} {m : MH}
theorem q_lenS {s : Str} {r : Lo} {a : CE} (ha : ev S F a r m = .ok (.str s) m) (h : s.length ≤ lid) : ev S F (.bi .len [a]) r m = .ok (.int s.length) m := by
  show Res.bind (Res.bind (ev S F a r m) _) _ = _
  rw [ha]
  exact if_pos h
theorem q_glob {g : Nat} {nm : Str} {l : Lt} {r : Lo} (h : S.globs[g]? = some (nm, l)) : ev S F (.glob g) r m = .ok l.val m := by
  show (match S.globs[g]? with | some p => ret p.2.val | Option.none => bad) m = _
  rw [h]; rfl
/-- the first look at a row -/
theorem look_row {r : Lo} {v : V} {x y : CE} (hv : Pl m v) (hx : ev S F x r m = .ok v m) (hy : ev S F y r m = .ok (.int 8) m) :
    evT S F (.all false [.not (.val (.isi x .str)), .not (.val (.cmp (.cnst (.int 1)) [.LtE, .LtE] [.bi .len [x], y]))]) r m = .ok (badRow v) m := by
  have no : vS v = false → evT S F (.all false [.not (.val (.isi x .str)), .not (.val (.cmp (.cnst (.int 1)) [.LtE, .LtE] [.bi .len [x], y]))]) r m = .ok true m := fun h => by
    show Res.bind (evT S F (.not (.val (.isi x .str))) r m) _ = _
    rw [q_not (q_val (q_isi hx (isi_str hv))), h]; rfl
  cases hv with
  | str s hs => exact (q_ors (q_not (q_val (q_isi hx (isi_str (.str s hs))))) (q_ors (q_not (q_val (q_cmp2 rfl (q_lenS hx (by unfold lid; omega)) hy rfl rfl))) q_end)).trans (by rw [Bool.or_false]; rfl)
  | _ => exact no rfl
end
noncomputable def b_is_row (gL gM : Nat) : List CS := [
  .ite (.all false [.not (.val (.isi (.var 0) .str)), .not (.val (.cmp (.cnst (.int 1)) [.LtE, .LtE] [.bi .len [.var 0], .glob gM]))]) [.ret (.cnst (.bool false))] [],
  .for_ .expr (.one 1) [.var 0] [.ite (.val (.cmp (.var 1) [.NotIn] [.glob gL])) [.ret (.cnst (.bool false))] []],
  .ret (.cnst (.bool true))]
theorem is_row_ok {S : Sig} {k gL gM : Nat} {n1 n2 : Str} (h : FnIs S k 1 2 (b_is_row gL gM)) (hL : S.globs[gL]? = some (n1, .str letterS)) (hM : S.globs[gM]? = some (n2, .int 8)) (n : Nat) {m : MH} {v : V} (hv : Pl m v) : run S (n + 1) k [v] m = .ok (.bool (rowB v)) m := by
  refine wp_eqn (wp_fn h rfl (q_ite (look_row hv rfl (q_glob hM)) ?_))
  have no : vS v = false → Wp (exs S (run S n) [.ret (.cnst (.bool false))] [some v, Option.none]) m (fun p m' => match p.1 with | .ret u => u = .bool (rowB v) ∧ m' = m | .next => V.none = .bool (rowB v) ∧ m' = m | .cont => False) nox := fun h => by
    refine s_ret (wp_rfl rfl ⟨?_, rfl⟩)
    cases v <;> first | rfl | cases h
  cases hv with
  | str s hs =>
    rw [show badRow (.str s) = !rowS s from rfl]
    cases hr : rowS s with
    | false =>
      refine s_ret (wp_rfl rfl ⟨?_, rfl⟩)
      show V.bool false = .bool (rowS s && s.cps.toList.all okC)
      rw [hr]; rfl
    | true =>
      refine s_forz s.cps.toList ch (fun zs r m' => m' = m ∧ (∃ u, r = [some (.str s), u]) ∧ s.cps.toList.all okC = zs.all okC) (wp_rfl rfl (wp_rfl rfl ⟨rfl, ⟨rfl, ⟨_, rfl⟩, rfl⟩, fun _ _ _ _ => rfl, ?_, ?_⟩))
      · rintro c zs r m' ⟨rfl, ⟨u, rfl⟩, e⟩
        refine wp_rfl rfl (q_ite (t := !okC c) (q_val (q_cmp1 rfl (q_glob hL) rfl)) ?_)
        rw [List.all_cons] at e
        cases hc : okC c with
        | true => exact s_nil ⟨rfl, ⟨_, rfl⟩, by rw [e, hc]; rfl⟩
        | false =>
          refine s_ret (wp_rfl rfl ⟨?_, rfl⟩)
          show V.bool false = .bool (rowS s && s.cps.toList.all okC)
          rw [e, hc, Bool.false_and, Bool.and_false]
      · rintro r m' ⟨rfl, _, e⟩
        refine s_ret (wp_rfl rfl ⟨?_, rfl⟩)
        show V.bool true = .bool (rowS s && s.cps.toList.all okC)
        rw [hr, e]; rfl
  | none => exact no rfl
  | bool b => exact no rfl
  | int i => exact no rfl
  | tup xs h => exact no rfl
  | list p xs hp => exact no rfl
  | dict p kvs e hp => exact no rfl
end Mini

/-! Loops over a list of plain things; rows that are made. -/
namespace Mini
open PySem
section
variable {S : Sig} {F : Fns} {r : Lo} {m : MH}
theorem q_bin {a b : CE} {op : Operator} {x y v : V} (ha : ev S F a r m = .ok x m) (hb : ev S F b r m = .ok y m) (h : binV op x y m = .ok v m) : ev S F (.bin op a b) r m = .ok v m := by
  show Res.bind (ev S F a r m) _ = _
  rw [ha]
  show Res.bind (ev S F b r m) _ = _
  rw [hb]; exact h
theorem q_idx {a b : CE} {x y v : V} (ha : ev S F a r m = .ok x m) (hb : ev S F b r m = .ok y m) (h : idxV x y m = .ok v m) : ev S F (.idx a b) r m = .ok v m := by
  show Res.bind (ev S F a r m) _ = _
  rw [ha]
  show Res.bind (ev S F b r m) _ = _
  rw [hb]; exact h
theorem mul_eq {i j : Int} (h : i.natAbs < 1073741824 ∨ j.natAbs < 1073741824) : binV .Mult (.int i) (.int j) m = .ok (.int (i * j)) m := if_pos h
theorem mod_eq {i j : Int} (h : 0 < j) : binV .Mod (.int i) (.int j) m = .ok (.int (i % j)) m := if_pos h
theorem short {a : CB} {as : List CB} (ha : evT S F a r m = .ok true m) : evTs S F false (a :: as) r m = .ok true m := by
  show Res.bind (evT S F a r m) _ = _
  rw [ha]; rfl
end
/-! ## a sign -/
noncomputable def signS : Str := Str.ofString " !\"#$&'()*+,-./0123456789:;<=>?@ABCDEFGHIJKLMNOPQRSTUVWXYZ[\\]^_`{|}~\n\t"
noncomputable def b_sign : List CS := [
  .asg (.one (.one 1)) (.cnst (.str (Str.ofString " !\"#$&'()*+,-./0123456789:;<=>?@ABCDEFGHIJKLMNOPQRSTUVWXYZ[\\]^_`{|}~\n\t"))),
  .ret (.idx (.var 1) (.bin .Mod (.var 0) (.bi .len [.var 1])))]
theorem sign_len : signS.cps.toList.length = 70 := by decide +kernel
theorem signs_no : (signS.cps.toList.all fun c => !okC c) = true := by decide +kernel
noncomputable def signOf (c : Int) : Nat := (signS.cps.toList[(c % 70).toNat]?).getD 0
theorem sign_no (c : Int) : okC (signOf c) = false := by
  have h : (c % 70).toNat < signS.cps.toList.length := by rw [sign_len]; omega
  have := List.all_eq_true.mp signs_no _ (List.getElem_mem h)
  unfold signOf
  rw [List.getElem?_eq_getElem h]
  simpa using this
theorem sign_ok {S : Sig} {k : Nat} (h : FnIs S k 1 2 b_sign) (n : Nat) (c : Int) (m : MH) : run S (n + 1) k [.int c] m = .ok (ch (signOf c)) m := by
  have hl : (signS.length : Int) = 70 := by show ((signS.cps.size : Nat) : Int) = 70; rw [← Array.length_toList, sign_len]; rfl
  refine wp_eqn (wp_fn h rfl (s_asg (wp_rfl rfl ?_)))
  refine s_ret (wp_eq (q_idx rfl (q_bin rfl (q_lenS (s := signS) rfl (by show signS.cps.size ≤ lid; rw [← Array.length_toList, sign_len]; decide)) (by rw [hl]; exact mod_eq (by decide))) ?_) ⟨rfl, rfl⟩)
  have h2 : (c % 70).toNat < signS.cps.toList.length := by rw [sign_len]; omega
  show (if (c % 70).natAbs < 2 ^ 60 then ofO ((at_ signS.cps.toList (c % 70)).map fun c => V.str ⟨#[c]⟩) m else .bad) = _
  rw [if_pos (by omega)]
  unfold at_ signOf
  rw [if_pos (by omega), List.getElem?_eq_getElem h2]; rfl
end Mini

/-! The row that is made of a base and a number. -/
namespace Mini
open PySem
noncomputable def kq : List Nat := (Str.ofString "kqxz").cps.toList
noncomputable def turned (b k : Int) : Int := b + 31 * k * (b % 2)
noncomputable def size (b k : Int) : Int := turned b k / 26 % 8
noncomputable def letter (b k : Int) (j : Nat) : Nat := (letters[((turned b k + 5 * (j : Int) * (1 + turned b k % 3)) % 26).toNat]?).getD 0
noncomputable def tailL (b k : Int) : List Nat := (List.range (size b k).toNat).map (letter b k)
noncomputable def here (b k : Int) : Int := if b % 2 = 0 then b / 4 % (size b k + 1) else size b k
noncomputable def four : List Str := [Str.ofString "say", Str.ofString "mark", Str.ofString "by", Str.ofString "house"]
noncomputable def fourL : List (List Nat) := four.map fun s => s.cps.toList
noncomputable def kqx (k : Int) : Nat := (kq[(k % 4).toNat]?).getD 0
noncomputable def rowL (b k : Int) : List Nat := if b % 9 = 4 then (fourL[(k % 4).toNat]?).getD []
  else (tailL b k).take (here b k).toNat ++ [kqx k] ++ (tailL b k).drop (here b k).toNat
noncomputable def row (b k : Int) : Str := ⟨(rowL b k).toArray⟩

theorem size_lt (b k : Int) : 0 ≤ size b k ∧ size b k < 8 := by
  show 0 ≤ turned b k / 26 % 8 ∧ turned b k / 26 % 8 < 8
  exact ⟨md0 (by decide), md1 (by decide)⟩
theorem size_pos (b k : Int) : 0 < size b k + 1 := Int.lt_add_one_of_le (size_lt b k).1
theorem here_le (b k : Int) : 0 ≤ here b k ∧ here b k ≤ size b k := by
  unfold here
  by_cases h : b % 2 = 0
  · rw [if_pos h]; exact ⟨md0 (size_pos b k), Int.le_of_lt_add_one (md1 (size_pos b k))⟩
  · rw [if_neg h]; exact ⟨(size_lt b k).1, Int.le_refl _⟩
theorem tail_len (b k : Int) : (tailL b k).length = (size b k).toNat := by simp [tailL]
theorem letters_len : letters.length = 26 := by decide +kernel
theorem kq_len : kq.length = 4 := by decide +kernel
theorem kq_all : kq.all okC = true := by decide +kernel
theorem four_all : (fourL.all fun l => l.all okC && decide (1 ≤ l.length) && decide (l.length ≤ 8)) = true := by decide +kernel
theorem letters_all : letters.all okC = true := by decide +kernel
theorem letter_okC (b k : Int) (j : Nat) : okC (letter b k j) = true := by
  have h4 : ((turned b k + 5 * (j : Int) * (1 + turned b k % 3)) % 26).toNat < letters.length := by rw [letters_len]; exact mdN (by decide) (by decide)
  unfold letter
  rw [List.getElem?_eq_getElem h4]
  exact List.all_eq_true.mp letters_all _ (List.getElem_mem h4)
theorem tail_all (b k : Int) : (tailL b k).all okC = true := by
  rw [List.all_eq_true]
  intro c hc
  obtain ⟨j, _, rfl⟩ := List.mem_map.mp hc
  exact letter_okC b k j
theorem kqx_ok (k : Int) : okC (kqx k) = true := by
  have h4 : (k % 4).toNat < kq.length := by rw [kq_len]; exact mdN (by decide) (by decide)
  unfold kqx
  rw [List.getElem?_eq_getElem h4]
  exact List.all_eq_true.mp kq_all _ (List.getElem_mem h4)
theorem row_ln {l : List Nat} {n x : Nat} : (l.take n ++ [x] ++ l.drop n).length = l.length + 1 := by
  rw [List.length_append, List.length_append, List.length_singleton, Nat.add_right_comm, ← List.length_append, List.take_append_drop]
theorem rowL_ok (b k : Int) : (rowL b k).all okC = true ∧ 1 ≤ (rowL b k).length ∧ (rowL b k).length ≤ 8 := by
  unfold rowL
  split
  · have h4 : (k % 4).toNat < fourL.length := mdN (k := 4) (by decide) (by decide)
    rw [List.getElem?_eq_getElem h4]
    have := List.all_eq_true.mp four_all _ (List.getElem_mem h4)
    simp only [Bool.and_eq_true, decide_eq_true_eq] at this
    exact ⟨this.1.1, this.1.2, this.2⟩
  · have hs := size_lt b k
    have hh := here_le b k
    have hlen := tail_len b k
    have ta := tail_all b k
    have e : (tailL b k).all okC = (((tailL b k).take (here b k).toNat).all okC && ((tailL b k).drop (here b k).toNat).all okC) := by rw [← List.all_append, List.take_append_drop]
    rw [ta] at e
    obtain ⟨e1, e2⟩ := Bool.and_eq_true_iff.mp e.symm
    refine ⟨?_, ?_, ?_⟩
    · rw [List.all_append, List.all_append, e1, e2]
      show (true && (okC (kqx k) && true) && true) = true
      rw [kqx_ok]; rfl
    · rw [row_ln]; exact Nat.le_add_left _ _
    · rw [row_ln, hlen]
      exact Nat.succ_le_of_lt (toN_lt hs.1 hs.2)
theorem row_len (b k : Int) : 1 ≤ (row b k).length ∧ (row b k).length ≤ 8 := by
  obtain ⟨h1, h2, h3⟩ := rowL_ok b k
  have e : (row b k).length = (rowL b k).length := by show (rowL b k).toArray.size = _; rw [List.size_toArray]
  rw [e]; exact ⟨h2, h3⟩

theorem str_app (a b : List Nat) : (⟨a.toArray⟩ : Str) ++ ⟨b.toArray⟩ = ⟨(a ++ b).toArray⟩ := by
  show Str.append _ _ = _
  simp [Str.append]
theorem join_cs : ∀ (cs : List Nat) (acc : List Nat), (cs.map fun c => (⟨#[c]⟩ : Str)).foldl (fun a p => a ++ (Str.ofString "") ++ p) ⟨acc.toArray⟩ = ⟨(acc ++ cs).toArray⟩
  | [], acc => by simp
  | c :: cs, acc => by
    have e0 : Str.ofString "" = ⟨([] : List Nat).toArray⟩ := by decide +kernel
    have e1 : (⟨acc.toArray⟩ : Str) ++ Str.ofString "" ++ ⟨#[c]⟩ = ⟨(acc ++ [c]).toArray⟩ := by
      have e2 := str_app acc []
      rw [List.append_nil] at e2
      rw [e0, e2]; exact str_app acc [c]
    rw [List.map_cons, List.foldl_cons, e1, join_cs cs (acc ++ [c])]; simp
theorem join_all (cs : List Nat) : joinS (Str.ofString "") (cs.map fun c => (⟨#[c]⟩ : Str)) = ⟨cs.toArray⟩ := by
  cases cs with
  | nil => rfl
  | cons c cs => exact join_cs cs [c]
theorem sum_cs : ∀ (cs : List Nat) (k : Nat), (cs.map fun c => (⟨#[c]⟩ : Str)).foldl (fun k x => k + x.length + (Str.ofString "").length) k = k + cs.length
  | [], k => rfl
  | c :: cs, k => by
    have e0 : (Str.ofString "").length = 0 := by decide +kernel
    have e1 : (⟨#[c]⟩ : Str).length = 1 := rfl
    rw [List.map_cons, List.foldl_cons, sum_cs cs, e0, e1, List.length_cons, Nat.add_zero, Nat.add_assoc, Nat.add_comm 1]
theorem isStr_cs : ∀ cs : List Nat, isStrL (cs.map ch) = some (cs.map fun c => (⟨#[c]⟩ : Str))
  | [] => rfl
  | c :: cs => by show (isStrL (cs.map ch)).map _ = _; rw [isStr_cs cs]; rfl
theorem letter_at (b k : Int) (j : Nat) (m : MH) : idxV (.str (Str.ofString "abcdefghijklmnopqrstuvwxyz")) (.int ((turned b k + 5 * (0 + (j : Int)) * (1 + turned b k % 3)) % 26)) m = .ok (ch (letter b k j)) m := by
  have h1 : ((turned b k + 5 * (0 + (j : Int)) * (1 + turned b k % 3)) % 26).natAbs < 2 ^ 60 := md60 (by decide) (by decide)
  have h4 : ((turned b k + 5 * (j : Int) * (1 + turned b k % 3)) % 26).toNat < letters.length := by rw [letters_len]; exact mdN (by decide) (by decide)
  have h2 : at_ letters ((turned b k + 5 * (0 + (j : Int)) * (1 + turned b k % 3)) % 26) = some (letter b k j) := by
    rw [Int.zero_add]; unfold at_ letter; rw [if_pos (md0 (by decide)), List.getElem?_eq_getElem h4]; rfl
  show (if _ then ofO ((at_ letters _).map fun c => V.str ⟨#[c]⟩) m else .bad) = _
  rw [if_pos h1, h2]; rfl
theorem one_mod {x : Int} : (1 + x % 3).natAbs < 1073741824 := by omega
/-- the joined text of one-sign texts -/
theorem w_join {m : MH} {p : Nat} {cs : List Nat} {Q : V → MH → Prop} {E : Nat → MH → Prop} (h : m[p]? = some (.list (cs.map ch))) (hl : cs.length ≤ lid) (q : Q (.str ⟨cs.toArray⟩) m) : Wp (smethV 2 (.str (Str.ofString "")) .join [.ref p]) m Q E := by
  refine wp_eq (m' := m) ?_ q
  show (match m[p]? with | some (.list xs) => (match isStrL xs with | some l => if sumLen (Str.ofString "") l ≤ lid then Res.ok (V.str (joinS (Str.ofString "") l)) m else .bad | Option.none => .bad) | _ => .bad) = _
  rw [h]; dsimp only; rw [isStr_cs]; dsimp only
  rw [if_pos (by unfold sumLen; rw [sum_cs, Nat.zero_add]; exact hl), join_all]
theorem q_slice {S : Sig} {F : Fns} {r : Lo} {m : MH} {a lo hi st : CE} {x l h t v : V} (ha : ev S F a r m = .ok x m) (hl : ev S F lo r m = .ok l m) (hh : ev S F hi r m = .ok h m) (ht : ev S F st r m = .ok t m) (e : sliceV x l h t m = .ok v m) : ev S F (.slice a lo hi st) r m = .ok v m := by
  show Res.bind (ev S F a r m) _ = _
  rw [ha]
  show Res.bind (ev S F lo r m) _ = _
  rw [hl]
  show Res.bind (ev S F hi r m) _ = _
  rw [hh]
  show Res.bind (ev S F st r m) _ = _
  rw [ht]; exact e
theorem srcR1 {n : Int} {m : MH} (h : n.natAbs < 2 ^ 30) : srcV .range [.int n] m = .ok ((List.range n.toNat).map fun (j : Nat) => V.int (0 + (j : Int)), .none) m := by
  have er : rangeV [.int n] = some ((List.range (n - 0).toNat).map fun (j : Nat) => V.int (0 + (j : Int))) := by
    show (if n.natAbs < 2 ^ 30 then some (rangeL 0 n) else none) = _
    rw [if_pos h]; rfl
  rw [Int.sub_zero] at er
  show (match rangeV [.int n] with | some l => ret (l, Gd.none) | none => bad) m = _
  rw [er]; rfl
noncomputable def b_row : List CS := [
  .asg (.one (.one 2)) (.cnst (.str (Str.ofString "abcdefghijklmnopqrstuvwxyz"))),
  .asg (.one (.one 3)) (.bin .Add (.var 0) (.bin .Mult (.bin .Mult (.cnst (.int 31)) (.var 1)) (.bin .Mod (.var 0) (.cnst (.int 2))))),
  .asg (.one (.one 4)) (.bin .Mod (.bin .FloorDiv (.var 3) (.cnst (.int 26))) (.cnst (.int 8))),
  .asg (.one (.one 5)) (.smeth (.cnst (.str (Str.ofString ""))) .join [.comp (.idx (.var 2) (.bin .Mod (.bin .Add (.var 3) (.bin .Mult (.bin .Mult (.cnst (.int 5)) (.var 7)) (.bin .Add (.cnst (.int 1)) (.bin .Mod (.var 3) (.cnst (.int 3)))))) (.cnst (.int 26)))) (.one 7) 1 .range [.var 4] []]),
  .asg (.one (.one 6)) (.var 4),
  .ite (.val (.cmp (.bin .Mod (.var 0) (.cnst (.int 2))) [.Eq] [.cnst (.int 0)])) [
    .asg (.one (.one 6)) (.bin .Mod (.bin .FloorDiv (.var 0) (.cnst (.int 4))) (.bin .Add (.var 4) (.cnst (.int 1))))] [],
  .ite (.val (.cmp (.bin .Mod (.var 0) (.cnst (.int 9))) [.Eq] [.cnst (.int 4)])) [
    .ret (.idx (.list [.cnst (.str (Str.ofString "say")), .cnst (.str (Str.ofString "mark")), .cnst (.str (Str.ofString "by")), .cnst (.str (Str.ofString "house"))]) (.bin .Mod (.var 1) (.cnst (.int 4))))] [],
  .ret (.bin .Add (.bin .Add (.slice (.var 5) (.cnst .none) (.var 6) (.cnst .none)) (.idx (.cnst (.str (Str.ofString "kqxz"))) (.bin .Mod (.var 1) (.cnst (.int 4))))) (.slice (.var 5) (.var 6) (.cnst .none) (.cnst .none)))]
theorem row_ok {S : Sig} {kf : Nat} (h : FnIs S kf 2 7 b_row) (n : Nat) (b k : Int) (m : MH) : Wp (run S (n + 1) kf [.int b, .int k]) m (fun v m' => v = .str (row b k) ∧ Le m m') nox := by
  have hs := size_lt b k
  have hh := here_le b k
  have hlen := tail_len b k
  have hl7 : (tailL b k).length ≤ 7 := by rw [hlen]; exact Nat.le_of_lt_succ (toN_lt hs.1 hs.2)
  have hlid : (tailL b k).length ≤ lid := small_lid hl7 (by decide)
  refine wp_fn h rfl ?_
  refine s_asg (wp_rfl rfl ?_)
  refine s_asg (wp_eq (a := .int (turned b k)) (m' := m) (q_bin rfl (q_bin (q_bin rfl rfl rfl) (q_bin rfl rfl rfl) (mul_eq (Or.inr (md30 (by decide) (by decide))))) rfl) ?_)
  refine s_asg (wp_eq (a := .int (size b k)) (m' := m) (q_bin (q_bin rfl rfl rfl) rfl rfl) ?_)
  refine s_asg (pe_smeth (wp_rfl rfl ⟨2, rfl, rfl, pes_cons (pe_map (List.range (size b k).toNat) (fun (j : Nat) => V.int (0 + (j : Int))) (fun j => ch (letter b k j)) (fun m' => m' = m) (wp_rfl rfl (wp_eq (srcR1 (abs_lt (c := 2 ^ 30) hs.1 hs.2 (by decide))) ⟨rfl, rfl, fun _ _ => rfl, ?_, by rw [List.length_range, ← hlen]; exact hlid, ?_⟩)))⟩))
  · rintro j _ m' rfl
    exact wp_rfl rfl (wp_eq (q_idx rfl (q_bin (q_bin rfl (q_bin (q_bin rfl rfl rfl) (q_bin rfl (q_bin rfl rfl rfl) rfl) (mul_eq (Or.inr one_mod))) rfl) rfl rfl) (letter_at b k j m')) ⟨rfl, rfl⟩)
  intro p m0 m2 em l2 kp _
  rw [em] at l2
  have el : (List.range (size b k).toNat).map (fun j => ch (letter b k j)) = (tailL b k).map ch := by
    unfold tailL; rw [List.map_map]; rfl
  rw [el] at kp
  refine wp_rfl rfl (w_join kp hlid ?_)
  refine s_asg (wp_rfl rfl ?_)
  have fin : ∀ a : Int, a = here b k → Wp (exs S (run S n) (b_row.drop 6) [some (.int b), some (.int k), some (.str (Str.ofString "abcdefghijklmnopqrstuvwxyz")), some (.int (turned b k)), some (.int (size b k)), some (.str ⟨(tailL b k).toArray⟩), some (.int a)]) m2 (fun p m' => match p.1 with | .ret v => v = .str (row b k) ∧ Le m m' | .next => V.none = .str (row b k) ∧ Le m m' | .cont => False) nox := by
    rintro _ rfl
    refine q_ite (t := b % 9 == 4) (q_val (q_cmp1 (q_bin rfl rfl rfl) rfl rfl)) ?_
    have ek : k % 4 = ((k % 4).toNat : Int) := md_cast (by decide)
    cases h9 : b % 9 == 4 with
    | true =>
      have h9' : b % 9 = 4 := eq_of_beq h9
      have h4 : (k % 4).toNat < four.length := mdN (k := 4) (by decide) (by decide)
      refine s_ret (pe_idx (pe_list (wp_rfl rfl (wp_alloc fun q m3 l3 k3 _ => wp_rfl rfl ?_))))
      refine w_idxl (v := .str (row b k)) (xs := four.map V.str) k3 ?_ (md60 (by decide) (by decide)) ⟨rfl, l2.trans l3⟩
      rw [ek]; unfold at_; rw [if_pos (Int.natCast_nonneg _), Int.toNat_natCast, List.getElem?_map, List.getElem?_eq_getElem h4]
      unfold row rowL; rw [if_pos h9']
      unfold fourL
      rw [List.getElem?_map, List.getElem?_eq_getElem h4]
      show some (V.str _) = some (V.str ⟨(four[(k % 4).toNat]).cps.toList.toArray⟩)
      rw [Array.toArray_toList]
    | false =>
      have h9' : ¬ b % 9 = 4 := fun q => by rw [q] at h9; exact absurd h9 (by decide)
      have h4 : (k % 4).toNat < kq.length := by rw [kq_len]; exact mdN (by decide) (by decide)
      have l1 : ((tailL b k).take (here b k).toNat).length ≤ 7 := by rw [List.length_take]; exact Nat.le_trans (Nat.min_le_right _ _) hl7
      have l2' : ((tailL b k).drop (here b k).toNat).length ≤ 7 := by rw [List.length_drop]; exact Nat.le_trans (Nat.sub_le _ _) hl7
      have hb2 : bound (.int (here b k)) = some (some (here b k)) := by show (if (here b k).natAbs < 2 ^ 60 then _ else _) = _; rw [if_pos (abs60 hh.1 (Int.lt_of_le_of_lt hh.2 hs.2) (by decide))]
      have hcl : clampU (tailL b k).length (here b k) = (here b k).toNat := by unfold clampU; rw [if_pos hh.1, Nat.min_eq_left (by rw [hlen]; exact toN_le hh.2)]
      have sl1 : sliceL (tailL b k) .none (.int (here b k)) .none = some ((tailL b k).take (here b k).toNat) := by
        unfold sliceL; dsimp only; rw [hb2]
        show some (((tailL b k).take (clampU (tailL b k).length (here b k))).drop 0) = _
        rw [hcl, List.drop_zero]
      have sl2 : sliceL (tailL b k) (.int (here b k)) .none .none = some ((tailL b k).drop (here b k).toNat) := by
        unfold sliceL; dsimp only; rw [hb2]
        show some (((tailL b k).take (tailL b k).length).drop (clampU (tailL b k).length (here b k))) = _
        rw [hcl, List.take_length]
      have s1 : sliceV (.str ⟨(tailL b k).toArray⟩) .none (.int (here b k)) .none m2 = .ok (.str ⟨((tailL b k).take (here b k).toNat).toArray⟩) m2 := by
        show (if (tailL b k).length ≤ lid then ofO ((sliceL (tailL b k) .none (.int (here b k)) .none).map fun l => V.str ⟨l.toArray⟩) m2 else .bad) = _
        rw [if_pos hlid, sl1]; rfl
      have s2 : sliceV (.str ⟨(tailL b k).toArray⟩) (.int (here b k)) .none .none m2 = .ok (.str ⟨((tailL b k).drop (here b k).toNat).toArray⟩) m2 := by
        show (if (tailL b k).length ≤ lid then ofO ((sliceL (tailL b k) (.int (here b k)) .none .none).map fun l => V.str ⟨l.toArray⟩) m2 else .bad) = _
        rw [if_pos hlid, sl2]; rfl
      have e4 : idxV (.str (Str.ofString "kqxz")) (.int (k % 4)) m2 = .ok (.str ⟨#[kqx k]⟩) m2 := by
        have : at_ kq (k % 4) = some (kqx k) := by
          unfold at_ kqx; rw [if_pos (md0 (by decide)), List.getElem?_eq_getElem h4]; rfl
        show (if (k % 4).natAbs < 2 ^ 60 then ofO ((at_ kq (k % 4)).map fun c => V.str ⟨#[c]⟩) m2 else .bad) = _
        rw [if_pos (md60 (by decide) (by decide)), this]; rfl
      have er : row b k = ⟨((tailL b k).take (here b k).toNat).toArray⟩ ++ ⟨#[kqx k]⟩ ++ ⟨((tailL b k).drop (here b k).toNat).toArray⟩ := by
        have e1 : ((⟨((tailL b k).take (here b k).toNat).toArray⟩ : Str) ++ ⟨#[kqx k]⟩) = ⟨((tailL b k).take (here b k).toNat ++ [kqx k]).toArray⟩ := str_app _ [_]
        rw [e1, str_app]
        unfold row rowL; rw [if_neg h9']
      have adds : ∀ x y : Str, x.length + y.length ≤ lid → binV .Add (.str x) (.str y) m2 = .ok (.str (x ++ y)) m2 := fun x y h => if_pos h
      rw [er]
      refine s_ret (wp_eq (q_bin (q_bin (q_slice rfl rfl rfl rfl s1) (q_idx rfl (q_bin rfl rfl rfl) e4) (adds _ _ ?_)) (q_slice rfl rfl rfl rfl s2) (adds _ _ ?_)) ⟨rfl, l2⟩)
      · show (List.toArray _).size + 1 ≤ lid
        rw [List.size_toArray]; exact small_lid (Nat.succ_le_succ l1) (by decide)
      · have : ((⟨((tailL b k).take (here b k).toNat).toArray⟩ : Str) ++ ⟨#[kqx k]⟩).length ≤ 8 := by
          refine Nat.le_trans (Nat.le_of_eq (congrArg Str.length (str_app _ [_]))) ?_
          show (List.toArray _).size ≤ 8
          rw [List.size_toArray, List.length_append, List.length_singleton]; exact Nat.succ_le_succ l1
        show Str.length _ + (List.toArray _).size ≤ lid
        rw [List.size_toArray]; exact small_lid (Nat.add_le_add this l2') (by decide)
  refine q_ite (t := b % 2 == 0) (q_val (q_cmp1 (q_bin rfl rfl rfl) rfl rfl)) ?_
  cases h2 : b % 2 == 0 with
  | true =>
    have h2' : b % 2 = 0 := eq_of_beq h2
    refine s_asg (wp_eq (a := .int (b / 4 % (size b k + 1))) (m' := m2) (q_bin (q_bin rfl rfl rfl) rfl (mod_eq (size_pos b k))) (fin _ ?_))
    unfold here; rw [if_pos h2']
  | false =>
    have h2' : ¬ b % 2 = 0 := fun q => by rw [q] at h2; exact absurd h2 (by decide)
    refine fin _ ?_
    unfold here; rw [if_neg h2']
end Mini

/-! Words. -/
namespace Mini
open PySem
noncomputable def sayS : Str := Str.ofString "say"
noncomputable def markS : Str := Str.ofString "mark"
/-- a thing whose parts are plain -/
structure Th (m : MH) (v : V) : Prop where
  pl : Pl m v
  sub : ∀ xs, v = .tup xs → ∀ x ∈ xs, Pl m x
section
variable {S : Sig} {m : MH}
theorem vW_is {v : V} (h : vW v = true) : ∃ i, v = .int i := by
  cases v with
  | int i => exact ⟨i, rfl⟩
  | _ => cases h
end
end Mini

/-! The kind of an error. -/
namespace Mini
open PySem
noncomputable def b_kind : List CS := [
  (.asg (.one (.one 1)) (.list [(.cnst (Lt.str (Str.ofString "count"))), (.cnst (Lt.str (Str.ofString "house"))), (.cnst (Lt.str (Str.ofString "row"))), (.cnst (Lt.str (Str.ofString "word"))), (.cnst (Lt.str (Str.ofString "forged"))), (.cnst (Lt.str (Str.ofString "letter"))), (.cnst (Lt.str (Str.ofString "written"))), (.cnst (Lt.str (Str.ofString "text")))])),
  (.asg (.one (.one 2)) (.list [(.isi (.var 0) (.cls 2)), (.isi (.var 0) (.cls 3)), (.isi (.var 0) (.cls 4))])),
  (.asg (.one (.one 2)) (.bin .Add (.var 2) (.list [(.isi (.var 0) (.cls 5)), (.isi (.var 0) (.cls 6)), (.isi (.var 0) (.cls 7))]))),
  (.asg (.one (.one 2)) (.bin .Add (.var 2) (.list [(.isi (.var 0) (.cls 8)), (.isi (.var 0) (.cls 9))]))),
  (.ite (.all false [(.val (.cmp (.smeth (.var 2) .count [(.cnst (Lt.bool true))]) [.NotEq] [(.cnst (Lt.int 1))])), (.not (.val (.isi (.var 0) (.cls 0))))]) [
    (.ret (.tup [(.cnst (Lt.str (Str.ofString "other")))]))] []),
  (.ret (.tup [(.idx (.var 1) (.smeth (.var 2) .index [(.cnst (Lt.bool true))]))]))]
noncomputable def kwords : List Str := [Str.ofString "count", Str.ofString "house", Str.ofString "row", Str.ofString "word", Str.ofString "forged", Str.ofString "letter", Str.ofString "written", Str.ofString "text"]
/-- the kind of an error, by its classes -/
theorem kind_ok {S : Sig} {k : Nat} (h : FnIs S k 1 3 b_kind) (n : Nat) (d : Nat) (f : Nat → Bool) (w : Str) (m : MH) (hf : ∀ c m, isiV S (.exc d) (.cls c) m = .ok (f c) m) (h0 : f 0 = true) (hc : [f 2, f 3, f 4, f 5, f 6, f 7, f 8, f 9].count true = 1) (hw : kwords[[f 2, f 3, f 4, f 5, f 6, f 7, f 8, f 9].idxOf true]? = some w) (hin : [f 2, f 3, f 4, f 5, f 6, f 7, f 8, f 9].contains true = true) :
    Wp (run S (n + 1) k [.exc d]) m (fun v m' => v = .tup [.str w] ∧ Le m m') nox := by
  refine wp_fn h rfl ?_
  have ei : ∀ c r m, r[0]? = some (some (.exc d)) → ev S (run S n) (.isi (.var 0) (.cls c)) r m = .ok (.bool (f c)) m := by
    intro c r m hr
    have : ev S (run S n) (.var 0) r m = .ok (.exc d) m := by
      show (match r[0]? with | some (some v) => ret v | _ => bad) m = _
      rw [hr]; rfl
    show Res.bind (ev S (run S n) (.var 0) r m) _ = _
    rw [this]
    show Res.bind (isiV S (.exc d) (.cls c) m) _ = _
    rw [hf]; rfl
  have el : ∀ a b c r m, r[0]? = some (some (.exc d)) → evs S (run S n) [.isi (.var 0) (.cls a), .isi (.var 0) (.cls b), .isi (.var 0) (.cls c)] r m = .ok ([f a, f b, f c].map .bool) m := by
    intro a b c r m hr
    show Res.bind (ev S (run S n) (.isi (.var 0) (.cls a)) r m) _ = _
    rw [ei a r m hr]
    show Res.bind (Res.bind (ev S (run S n) (.isi (.var 0) (.cls b)) r m) _) _ = _
    rw [ei b r m hr]
    show Res.bind (Res.bind (Res.bind (ev S (run S n) (.isi (.var 0) (.cls c)) r m) _) _) _ = _
    rw [ei c r m hr]; rfl
  have el2 : ∀ a b r m, r[0]? = some (some (.exc d)) → evs S (run S n) [.isi (.var 0) (.cls a), .isi (.var 0) (.cls b)] r m = .ok ([f a, f b].map .bool) m := by
    intro a b r m hr
    show Res.bind (ev S (run S n) (.isi (.var 0) (.cls a)) r m) _ = _
    rw [ei a r m hr]
    show Res.bind (Res.bind (ev S (run S n) (.isi (.var 0) (.cls b)) r m) _) _ = _
    rw [ei b r m hr]; rfl
  refine s_asg (pe_list (wp_rfl rfl (wp_alloc fun p0 m0 l0 k0 _ => ?_)))
  refine s_asg (pe_list (wp_eq (el 2 3 4 _ _ rfl) (wp_alloc fun p1 m1 l1 k1 _ => ?_)))
  refine s_asg (pe_bin (wp_rfl rfl (pe_list (wp_eq (el 5 6 7 _ _ rfl) (wp_alloc fun p2 m2 l2 k2 _ => w_addl (l2.has k1) k2 (show 3 + 3 ≤ lid by decide) fun p3 m3 l3 k3 _ => ?_)))))
  refine s_asg (pe_bin (wp_rfl rfl (pe_list (wp_eq (el2 8 9 _ _ rfl) (wp_alloc fun p4 m4 l4 k4 _ => w_addl (l4.has k3) k4 (show 6 + 2 ≤ lid by decide) fun p5 m5 l5 k5 _ => ?_)))))
  have k0' := ((((l1.trans l2).trans l3).trans l4).trans l5).has k0
  have lf := (((((l0.trans l1).trans l2).trans l3).trans l4).trans l5)
  have k6 : m5[p5]? = some (.list ([f 2, f 3, f 4, f 5, f 6, f 7, f 8, f 9].map .bool)) := k5
  refine s_ite (pt_all (pts_cons (pt_val (pe_cmp (pe_smeth (wp_rfl rfl ⟨0, smK_l k6, rfl, wp_rfl rfl (w_count k6 ?_)⟩)))))) 
  rw [hc]
  refine wp_rfl rfl (wp_rfl rfl (wp_rfl rfl ?_))
  refine pts_cons (pt_not (pt_val (wp_eq (ei 0 _ _ rfl) (wp_rfl rfl ?_))))
  rw [h0]
  refine s_ret (pe_tup (pes_cons (pe_idx (wp_rfl rfl (pe_smeth (wp_rfl rfl ⟨0, smK_l k6, rfl, wp_rfl rfl (w_index k6 hin ?_)⟩))))))
  have h8 : [f 2, f 3, f 4, f 5, f 6, f 7, f 8, f 9].idxOf true < 8 := List.idxOf_lt_length_of_mem (List.contains_iff_mem.mp hin)
  refine w_idxl (v := .str w) k0' ?_ (by omega) (wp_rfl rfl ⟨rfl, lf⟩)
  unfold at_
  rw [if_pos (by omega), Int.toNat_natCast]
  show (kwords.map V.str)[_]? = _
  rw [List.getElem?_map, hw]; rfl

end Mini

/-! Objects that change: what a run may change, fields, methods, stores. -/
namespace Mini
open PySem
/-- only these change -/
noncomputable def Mod (T : List Nat) (m m' : MH) : Prop := m.length ≤ m'.length ∧ ∀ p, p < m.length → p ∉ T → m'[p]? = m[p]?
theorem Mod.trans {T : List Nat} {a b c : MH} (h : Mod T a b) (k : Mod T b c) : Mod T a c := ⟨Nat.le_trans h.1 k.1, fun p q z => (k.2 p (Nat.lt_of_lt_of_le q h.1) z).trans (h.2 p q z)⟩
theorem Le.mod {T : List Nat} {a b : MH} (h : Le a b) : Mod T a b := ⟨h.1, fun p q _ => h.2 p q⟩
theorem Mod.has {T : List Nat} {m m' : MH} (h : Mod T m m') {p : Nat} {o : MObj} (k : m[p]? = some o) (z : p ∉ T) : m'[p]? = some o := by
  rw [h.2 p (has_lt k) z, k]
theorem Mod.set {T : List Nat} {m : MH} {p : Nat} {o : MObj} (h : p ∈ T) : Mod T m (m.set p o) :=
  ⟨by rw [List.length_set]; exact Nat.le_refl _, fun q _ z => by rw [List.getElem?_set_ne]; rintro rfl; exact z h⟩
section
variable {S : Sig} {F : Fns} {r : Lo} {m : MH} {E : Nat → MH → Prop}
theorem attr_eq {p c k : Nat} {fs : List (Nat × V)} {v : V} (h : m[p]? = some (.inst c fs)) (hv : fget k fs = some v) : attrV (.ref p) k m = .ok v m := by
  unfold attrV; dsimp only; rw [h]; dsimp only; rw [hv]; rfl
theorem q_attr {a : CE} {p c k : Nat} {fs : List (Nat × V)} {v : V} (ha : ev S F a r m = .ok (.ref p) m) (h : m[p]? = some (.inst c fs)) (hv : fget k fs = some v) : ev S F (.attr a k) r m = .ok v m := by
  show Res.bind (ev S F a r m) _ = _
  rw [ha]; exact attr_eq h hv
theorem pe_meth {o : CE} {k : Nat} {as : List CE} {Q : V → MH → Prop} (h : Wp (ev S F o r) m (fun x m' => ∃ p c fs d j, x = .ref p ∧ m'[p]? = some (.inst c fs) ∧ S.cls[c]? = some d ∧ fget k fs = none ∧ d.meths.lookup k = some j ∧ Wp (evs S F as r) m' (fun vs m'' => Wp (F j (.ref p :: vs)) m'' Q E) E) E) : Wp (ev S F (.meth o k as) r) m Q E := by
  refine wp_bnd (x := ev S F o r) (wp_mono h (fun x m' q => ?_) fun _ _ q => q)
  obtain ⟨p, c, fs, d, j, rfl, h1, h2, h3, h4, q⟩ := q
  have em : methK S k (.ref p) m' = .ok j m' := by unfold methK; dsimp only; rw [h1]; dsimp only; rw [h2]; dsimp only; rw [h3]; dsimp only; rw [h4]; rfl
  exact wp_bnd (wp_eq em (wp_bnd (x := evs S F as r) q))
theorem pe_new {c : Nat} {as : List CE} {Q : V → MH → Prop} (h : Wp (evs S F as r) m (fun vs m' => ∃ d k, S.cls[c]? = some d ∧ d.exc = false ∧ d.init = some k ∧ Wp (F k (.ref m'.length :: vs)) (m' ++ [.inst c []]) (fun u m'' => u = .none ∧ Q (.ref m'.length) m'') E) E) : Wp (ev S F (.new c as) r) m Q E := by
  refine wp_bnd (x := evs S F as r) (wp_mono h (fun vs m' q => ?_) fun _ _ q => q)
  obtain ⟨d, k, h1, h2, h3, q⟩ := q
  unfold newD
  rw [h1]; dsimp only; rw [h2, h3]
  show Wp (bnd (alloc (.inst c [])) fun x => bnd (F k (x :: vs)) (newR x)) m' Q E
  refine wp_bnd (wp_eq (a := .ref m'.length) (m' := m' ++ [.inst c []]) rfl (wp_bnd (x := F k (.ref m'.length :: vs)) (wp_mono q (fun u m'' z => ?_) fun _ _ z => z)))
  obtain ⟨rfl, z⟩ := z
  exact z
variable {Q : Fl × Lo → MH → Prop} {ss : List CS}
theorem s_asgA {o e : CE} {k : Nat} (h : Wp (ev S F e r) m (fun v m' => Wp (ev S F o r) m' (fun x m'' => ∃ p c fs, x = .ref p ∧ m''[p]? = some (.inst c fs) ∧ Wp (exs S F ss r) (m''.set p (.inst c (fput k v fs))) Q E) E) E) : Wp (exs S F (.asg (.attr o k) e :: ss) r) m Q E := by
  refine s_cons (wp_bnd (x := ev S F e r) (wp_mono h (fun v m' q => wp_bnd (wp_bnd (x := ev S F o r) (wp_mono q (fun x m'' q => ?_) fun _ _ q => q))) fun _ _ q => q))
  obtain ⟨p, c, fs, rfl, h1, q⟩ := q
  refine wp_bnd (wp_eq (a := ()) (m' := m''.set p (.inst c (fput k v fs))) (by unfold putAttr; dsimp only; rw [h1]) q)
theorem s_asgI {o i e : CE} (h : Wp (ev S F e r) m (fun v m1 => Wp (ev S F o r) m1 (fun x m2 => Wp (ev S F i r) m2 (fun y m3 => Wp (putIdx x y v) m3 (fun _ m4 => Wp (exs S F ss r) m4 Q E) E) E) E) E) : Wp (exs S F (.asg (.idx o i) e :: ss) r) m Q E := by
  refine s_cons (wp_bnd (x := ev S F e r) (wp_mono h (fun v m' q => wp_bnd (wp_bnd (x := ev S F o r) (wp_mono q (fun x m'' q => wp_bnd (x := ev S F i r) (wp_mono q (fun y m3 q => wp_bnd (x := putIdx x y v) (wp_mono q (fun _ m4 q => q) fun _ _ q => q)) fun _ _ q => q)) fun _ _ q => q))) fun _ _ q => q))
theorem w_putd {p e : Nat} {y : V} {k : Ky} {kvs : List (Ky × V)} {v : V} {Q : Unit → MH → Prop} (h : m[p]? = some (.dict kvs e)) (hk : toKey y = some k) (hs : sorted1 k kvs = true) (hl : kvs.length < lid) (q : Q () (m.set p (.dict (put k v kvs) (e + 1)))) : Wp (putIdx (.ref p) y v) m Q E := by
  refine wp_eq (a := ()) (m' := m.set p (.dict (put k v kvs) (e + 1))) ?_ q
  unfold putIdx; dsimp only; rw [h]; dsimp only; rw [hk]; dsimp only; rw [hs, decide_eq_true hl]; rfl
theorem w_append {p : Nat} {xs : List V} {v : V} {Q : V → MH → Prop} (h : m[p]? = some (.list xs)) (hl : xs.length < lid) (q : Q .none (m.set p (.list (xs ++ [v])))) : Wp (smethV 0 (.ref p) .append [v]) m Q E := by
  refine wp_eq (m' := m.set p (.list (xs ++ [v]))) ?_ q
  show (match m[p]? with | some (.list xs) => listM p xs .append [v] m | _ => .bad) = _
  rw [h]
  show (if xs.length < lid then Res.ok V.none (m.set p (.list (xs ++ [v]))) else .bad) = _
  rw [if_pos hl]
theorem in_dict_eq {p e : Nat} {x : V} {k : Ky} {kvs : List (Ky × V)} (h : m[p]? = some (.dict kvs e)) (hk : toKey x = some k) (hs : sorted1 k kvs = true) : inV x (.ref p) m = .ok (look k kvs).isSome m := by
  unfold inV; dsimp only; rw [h]; dsimp only; rw [hk]; dsimp only; rw [if_pos hs]
theorem idx_dict_eq {p e : Nat} {x v : V} {k : Ky} {kvs : List (Ky × V)} (h : m[p]? = some (.dict kvs e)) (hk : toKey x = some k) (hs : sorted1 k kvs = true) (hl : look k kvs = some v) : idxV (.ref p) x m = .ok v m := by
  unfold idxV; dsimp only; rw [h]; dsimp only; rw [hk]; dsimp only; rw [if_pos hs, hl]; rfl
end
end Mini

/-! Houses: what they know, as plain data, and how a heap holds it. -/
namespace Mini
open PySem
structure Wo where
  k : Str
  n : Int
  r : Str
  h : Int
  deriving DecidableEq
noncomputable def Wo.v (w : Wo) : V := .tup [.str w.k, .int w.n, .str w.r, .int w.h]
noncomputable def Wo.ky (w : Wo) : Ky := .tup [.inr w.k, .inl w.n, .inr w.r, .inl w.h]
theorem wo_ky {a b : Wo} (h : a.ky = b.ky) : a = b := by
  obtain ⟨a1, a2, a3, a4⟩ := a
  obtain ⟨b1, b2, b3, b4⟩ := b
  cases h; rfl
noncomputable def mrk (n : Int) (r : Str) (h : Int) : Wo := ⟨markS, n, r, h⟩
noncomputable def unlike (a b : Wo) : Bool := a.h == b.h && a.k == b.k && a.n == b.n && a.r != b.r

/-- a dict of marks: its keys -/
noncomputable def kD (l : List Wo) : List (Ky × V) := l.map fun w => (w.ky, .bool true)
noncomputable def iD (l : List Int) : List (Ky × V) := l.map fun i => (.int i, .bool true)
noncomputable def addW (w : Wo) (l : List Wo) : List Wo := if w ∈ l then l else l ++ [w]
theorem sorted_kD (l : List Wo) (w : Wo) : sorted1 w.ky (kD l) = true := by
  unfold sorted1 kD
  rw [List.all_map, List.all_eq_true]
  intro _ _; rfl
theorem sorted_iD (l : List Int) (k : Int) : sorted1 (.int k) (iD l) = true := by
  unfold sorted1 iD
  rw [List.all_map, List.all_eq_true]
  intro _ _; rfl
theorem look_kD (w : Wo) : ∀ l : List Wo, (look w.ky (kD l)).isSome = decide (w ∈ l)
  | [] => by simp [kD, look]
  | a :: l => by
    show (if a.ky = w.ky then some (V.bool true) else look w.ky (kD l)).isSome = _
    by_cases z : a = w
    · subst z; rw [if_pos rfl]; simp
    · rw [if_neg fun c => z (wo_ky c), look_kD w l]
      have : w ≠ a := fun c => z c.symm
      simp [this]
theorem put_kD (w : Wo) : ∀ l : List Wo, put w.ky (.bool true) (kD l) = kD (addW w l)
  | [] => by simp [kD, put, addW]
  | a :: l => by
    show (if a.ky = w.ky then (a.ky, V.bool true) :: kD l else (a.ky, V.bool true) :: put w.ky (.bool true) (kD l)) = _
    by_cases z : a = w
    · subst z; rw [if_pos rfl]; simp [addW, kD]
    · rw [if_neg fun c => z (wo_ky c), put_kD w l]
      have : w ≠ a := fun c => z c.symm
      unfold addW
      by_cases y : w ∈ l
      · rw [if_pos y, if_pos (.tail _ y)]; rfl
      · rw [if_neg y, if_neg (by simp [this, y])]; rfl
theorem ky_int {a b : Int} (h : Ky.int a = Ky.int b) : a = b := by cases h; rfl
/-- a dict by whole numbers -/
noncomputable def tD {α : Type} (g : α → Int) (f : α → V) (l : List α) : List (Ky × V) := l.map fun x => (.int (g x), f x)
theorem sorted_tD {α : Type} (g : α → Int) (f : α → V) (l : List α) (k : Int) : sorted1 (.int k) (tD g f l) = true := by
  unfold sorted1 tD
  rw [List.all_map, List.all_eq_true]
  intro _ _; rfl
theorem look_tD {α : Type} (g : α → Int) (f : α → V) (k : Int) : ∀ l : List α, look (.int k) (tD g f l) = (l.find? fun x => g x == k).map f
  | [] => rfl
  | a :: l => by
    show (if Ky.int (g a) = Ky.int k then some (f a) else look (.int k) (tD g f l)) = _
    by_cases z : g a = k
    · rw [if_pos (by rw [z]), List.find?_cons_of_pos (by simp [z])]; rfl
    · rw [if_neg fun c => z (ky_int c), List.find?_cons_of_neg (by simp [z]), look_tD g f k l]
theorem isSome_tD {α : Type} (g : α → Int) (f : α → V) (k : Int) (l : List α) : (look (.int k) (tD g f l)).isSome = l.any fun x => g x == k := by
  rw [look_tD, Option.isSome_map]
  induction l with
  | nil => rfl
  | cons a l ih =>
    rw [List.any_cons]
    by_cases z : (g a == k) = true
    · rw [List.find?_cons_of_pos (p := fun x => g x == k) z, z]; rfl
    · rw [List.find?_cons_of_neg (p := fun x => g x == k) z, ih]; simp [z]
theorem put_tD {α : Type} (g : α → Int) (f : α → V) (k : Int) (v : V) : ∀ l : List α, (l.any fun x => g x == k) = false → put (.int k) v (tD g f l) = tD g f l ++ [(.int k, v)]
  | [], _ => rfl
  | a :: l, h => by
    rw [List.any_cons, Bool.or_eq_false_iff] at h
    show (if Ky.int (g a) = Ky.int k then _ else (Ky.int (g a), f a) :: put (.int k) v (tD g f l)) = _
    rw [if_neg fun c => by rw [ky_int c] at h; simp at h, put_tD g f k v l h.2]; rfl
theorem iD_tD (l : List Int) : iD l = tD id (fun _ => .bool true) l := rfl

structure Hs where
  cnt : Int
  own : Int
  onw : Int
  known : List Wo
  marked : List Int
  rows : List (Int × Str × List Wo)
  named : List (Int × Wo × Wo)
noncomputable def enoughI (c : Int) : Int := (c + (c - 1) / 3) / 2 + 1
noncomputable def Hs.marking (s : Hs) (w : Wo) : Hs × List Wo :=
  if w.k ≠ sayS ∨ w.n ∈ s.marked then (s, []) else ({ s with marked := s.marked ++ [w.n], known := addW (mrk w.n w.r s.own) s.known }, [mrk w.n w.r s.own])
noncomputable def Hs.marks (s : Hs) (n : Int) (r : Str) : List Wo := ((List.range s.cnt.toNat).map fun (j : Nat) => mrk n r j).filter fun w => decide (w ∈ s.known)
noncomputable def Hs.wrote (s : Hs) (n : Int) : Bool := s.rows.any fun x => x.1 == n
noncomputable def Hs.writing (s : Hs) (n : Int) (r : Str) : Hs × List Wo :=
  if ((s.marks n r).length : Int) < enoughI s.cnt ∨ s.wrote n = true then (s, []) else ({ s with rows := s.rows ++ [(n, r, s.marks n r)] }, s.marks n r)
noncomputable def Hs.naming (s : Hs) (w : Wo) (ahead : List Wo) : Hs × List Wo := match ahead with
  | [] => (s, [])
  | a :: _ => if (s.named.any fun x => x.1 == w.h) = true then (s, []) else ({ s with named := s.named ++ [(w.h, a, w)] }, [a, w])
noncomputable def Hs.hear (s : Hs) (w : Wo) : Hs × List Wo :=
  if w ∈ s.known then (s, []) else
    let ahead := s.known.filter fun a => unlike a w
    let a := ({ s with known := s.known ++ [w] } : Hs).marking w
    let b := a.1.writing w.n w.r
    let c := b.1.naming w ahead
    (c.1, a.2 ++ b.2 ++ c.2)
noncomputable def Hs.call (s : Hs) (r : Str) : Hs × List Wo :=
  let w : Wo := ⟨sayS, s.onw, r, s.own⟩
  let a := ({ s with onw := s.onw + s.cnt } : Hs).hear w
  (a.1, w :: a.2)

/-- where a house lies -/
structure Hd where
  p : Nat
  a : Nat
  b : Nat
  c : Nat
  d : Nat
  e : Nat
  f : Nat
  bs : List Nat
noncomputable def Hd.foot (D : Hd) : List Nat := [D.p, D.a, D.b, D.c, D.d, D.e, D.f]
noncomputable def Hd.all (D : Hd) : List Nat := D.foot ++ D.bs
noncomputable def rowD (l : List (Int × Str × List Wo)) : List (Ky × V) := tD (·.1) (fun x => V.str x.2.1) l
noncomputable def bakD (l : List (Int × Nat)) : List (Ky × V) := tD (·.1) (fun x => V.ref x.2) l
noncomputable def bak (s : Hs) (D : Hd) : List (Int × Nat) := (s.rows.map (·.1)).zip D.bs
noncomputable def namL (l : List (Int × Wo × Wo)) : List V := l.map fun x => .tup [.int x.1, x.2.1.v, x.2.2.v]
noncomputable def blmD (l : List (Int × Wo × Wo)) : List (Ky × V) := tD (·.1) (fun _ => V.bool true) l
noncomputable def flds (D : Hd) (s : Hs) : List (Nat × V) := [(8, .int s.cnt), (9, .int s.own), (10, .int s.onw), (11, .ref D.a), (12, .ref D.b), (13, .ref D.c), (14, .ref D.d), (15, .ref D.e), (16, .ref D.f)]
structure Ho (m : MH) (C : Nat) (D : Hd) (s : Hs) : Prop where
  inst : m[D.p]? = some (.inst C (flds D s))
  kn : ∃ e, m[D.a]? = some (.dict (kD s.known) e)
  mr : ∃ e, m[D.b]? = some (.dict (iD s.marked) e)
  ro : ∃ e, m[D.c]? = some (.dict (rowD s.rows) e)
  ba : ∃ e, m[D.d]? = some (.dict (bakD (bak s D)) e)
  na : m[D.e]? = some (.list (namL s.named))
  bl : ∃ e, m[D.f]? = some (.dict (blmD s.named) e)
  bk : ∀ (i : Nat) (x : Int × Str × List Wo), s.rows[i]? = some x → ∃ q, D.bs[i]? = some q ∧ m[q]? = some (.list (x.2.2.map Wo.v))
  len : D.bs.length = s.rows.length
  nd : D.all.Nodup
theorem Ho.mod {T : List Nat} {m m' : MH} {C : Nat} {D : Hd} {s : Hs} (h : Ho m C D s) (l : Mod T m m') (ht : ∀ x ∈ D.all, x ∉ T) : Ho m' C D s := by
  have F : ∀ x ∈ D.foot, x ∉ T := fun x hx => ht x (List.mem_append_left _ hx)
  refine ⟨l.has h.inst (F _ (by simp [Hd.foot])), ?_, ?_, ?_, ?_, l.has h.na (F _ (by simp [Hd.foot])), ?_, fun i x e => ?_, h.len, h.nd⟩
  · obtain ⟨e, k⟩ := h.kn; exact ⟨e, l.has k (F _ (by simp [Hd.foot]))⟩
  · obtain ⟨e, k⟩ := h.mr; exact ⟨e, l.has k (F _ (by simp [Hd.foot]))⟩
  · obtain ⟨e, k⟩ := h.ro; exact ⟨e, l.has k (F _ (by simp [Hd.foot]))⟩
  · obtain ⟨e, k⟩ := h.ba; exact ⟨e, l.has k (F _ (by simp [Hd.foot]))⟩
  · obtain ⟨e, k⟩ := h.bl; exact ⟨e, l.has k (F _ (by simp [Hd.foot]))⟩
  · obtain ⟨q, k1, k2⟩ := h.bk i x e
    exact ⟨q, k1, l.has k2 (ht _ (List.mem_append_right _ (List.mem_of_getElem? k1)))⟩
theorem Ho.le {m m' : MH} {C : Nat} {D : Hd} {s : Hs} (h : Ho m C D s) (l : Le m m') : Ho m' C D s := h.mod (T := []) l.mod fun _ _ q => nomatch q
/-- all that a house holds lies in the heap -/
theorem Ho.lt {m : MH} {C : Nat} {D : Hd} {s : Hs} (h : Ho m C D s) : ∀ x ∈ D.all, x < m.length := by
  intro x hx
  obtain ⟨_, k1⟩ := h.kn
  obtain ⟨_, k2⟩ := h.mr
  obtain ⟨_, k3⟩ := h.ro
  obtain ⟨_, k4⟩ := h.ba
  obtain ⟨_, k5⟩ := h.bl
  rcases List.mem_append.mp hx with hx | hx
  · simp only [Hd.foot, List.mem_cons, List.not_mem_nil, or_false] at hx
    rcases hx with rfl | rfl | rfl | rfl | rfl | rfl | rfl
    · exact has_lt h.inst
    · exact has_lt k1
    · exact has_lt k2
    · exact has_lt k3
    · exact has_lt k4
    · exact has_lt h.na
    · exact has_lt k5
  · obtain ⟨i, hi⟩ := List.getElem?_of_mem hx
    have : i < s.rows.length := by rw [← h.len]; exact (List.getElem?_eq_some_iff.mp hi).1
    obtain ⟨q, e1, e2⟩ := h.bk i _ (List.getElem?_eq_getElem this)
    rw [hi] at e1; cases e1; exact has_lt e2
end Mini

/-! Houses: parts of their heap change. -/
namespace Mini
open PySem
theorem ne_of {l : List Nat} (nd : l.Nodup) {i j x y : Nat} (hi : l[i]? = some x) (hj : l[j]? = some y) (hij : i ≠ j) : x ≠ y := by
  obtain ⟨h1, rfl⟩ := List.getElem?_eq_some_iff.mp hi
  obtain ⟨h2, rfl⟩ := List.getElem?_eq_some_iff.mp hj
  have P := List.pairwise_iff_getElem.mp nd
  rcases Nat.lt_or_gt_of_ne hij with z | z
  · exact P i j h1 h2 z
  · exact fun e => P j i h2 h1 z e.symm
theorem Hd.upd {D : Hd} (nd : D.all.Nodup) {m : MH} {o' : MObj} {j x : Nat} (hx : D.all[j]? = some x) : ∀ (i q : Nat) (o : MObj), D.all[i]? = some q → i ≠ j → m[q]? = some o → (m.set x o')[q]? = some o :=
  fun i q o hq hij k => set_other (ne_of nd hx hq (fun e => hij e.symm)) k
section
variable {m : MH} {C : Nat} {D : Hd} {s : Hs}
theorem Ho.setP (h : Ho m C D s) (k : Int) : Ho (m.set D.p (.inst C (flds D { s with onw := k }))) C D { s with onw := k } := by
  have F := Hd.upd h.nd (m := m) (o' := .inst C (flds D { s with onw := k })) (j := 0) rfl
  refine ⟨set_has h.inst, ?_, ?_, ?_, ?_, F 5 _ _ rfl (by decide) h.na, ?_, fun i x e => ?_, h.len, h.nd⟩
  · obtain ⟨e, k⟩ := h.kn; exact ⟨e, F 1 _ _ rfl (by decide) k⟩
  · obtain ⟨e, k⟩ := h.mr; exact ⟨e, F 2 _ _ rfl (by decide) k⟩
  · obtain ⟨e, k⟩ := h.ro; exact ⟨e, F 3 _ _ rfl (by decide) k⟩
  · obtain ⟨e, k⟩ := h.ba; exact ⟨e, F 4 _ _ rfl (by decide) k⟩
  · obtain ⟨e, k⟩ := h.bl; exact ⟨e, F 6 _ _ rfl (by decide) k⟩
  · obtain ⟨q, k1, k2⟩ := h.bk i x e; exact ⟨q, k1, F (i + 7) _ _ k1 (by omega) k2⟩
theorem Ho.setK (h : Ho m C D s) (l : List Wo) (e : Nat) : Ho (m.set D.a (.dict (kD l) e)) C D { s with known := l } := by
  have F := Hd.upd h.nd (m := m) (o' := .dict (kD l) e) (j := 1) rfl
  obtain ⟨e0, k0⟩ := h.kn
  refine ⟨F 0 _ _ rfl (by decide) h.inst, ⟨e, set_has k0⟩, ?_, ?_, ?_, F 5 _ _ rfl (by decide) h.na, ?_, fun i x e => ?_, h.len, h.nd⟩
  · obtain ⟨e, k⟩ := h.mr; exact ⟨e, F 2 _ _ rfl (by decide) k⟩
  · obtain ⟨e, k⟩ := h.ro; exact ⟨e, F 3 _ _ rfl (by decide) k⟩
  · obtain ⟨e, k⟩ := h.ba; exact ⟨e, F 4 _ _ rfl (by decide) k⟩
  · obtain ⟨e, k⟩ := h.bl; exact ⟨e, F 6 _ _ rfl (by decide) k⟩
  · obtain ⟨q, k1, k2⟩ := h.bk i x e; exact ⟨q, k1, F (i + 7) _ _ k1 (by omega) k2⟩
theorem Ho.setM (h : Ho m C D s) (l : List Int) (e : Nat) : Ho (m.set D.b (.dict (iD l) e)) C D { s with marked := l } := by
  have F := Hd.upd h.nd (m := m) (o' := .dict (iD l) e) (j := 2) rfl
  obtain ⟨e0, k0⟩ := h.mr
  refine ⟨F 0 _ _ rfl (by decide) h.inst, ?_, ⟨e, set_has k0⟩, ?_, ?_, F 5 _ _ rfl (by decide) h.na, ?_, fun i x e => ?_, h.len, h.nd⟩
  · obtain ⟨e, k⟩ := h.kn; exact ⟨e, F 1 _ _ rfl (by decide) k⟩
  · obtain ⟨e, k⟩ := h.ro; exact ⟨e, F 3 _ _ rfl (by decide) k⟩
  · obtain ⟨e, k⟩ := h.ba; exact ⟨e, F 4 _ _ rfl (by decide) k⟩
  · obtain ⟨e, k⟩ := h.bl; exact ⟨e, F 6 _ _ rfl (by decide) k⟩
  · obtain ⟨q, k1, k2⟩ := h.bk i x e; exact ⟨q, k1, F (i + 7) _ _ k1 (by omega) k2⟩
/-- a row is written: the list of its marks lies at q -/
theorem Ho.setR (h : Ho m C D s) {n : Int} {r : Str} {ws : List Wo} {q e1 e2 : Nat} (hq : m[q]? = some (.list (ws.map Wo.v))) (hn : q ∉ D.all) :
    Ho ((m.set D.c (.dict (rowD (s.rows ++ [(n, r, ws)])) e1)).set D.d (.dict (bakD (bak s D ++ [(n, q)])) e2)) C { D with bs := D.bs ++ [q] } { s with rows := s.rows ++ [(n, r, ws)] } := by
  have F1 := Hd.upd h.nd (m := m) (o' := .dict (rowD (s.rows ++ [(n, r, ws)])) e1) (j := 3) rfl
  have F2 := Hd.upd h.nd (m := m.set D.c (.dict (rowD (s.rows ++ [(n, r, ws)])) e1)) (o' := .dict (bakD (bak s D ++ [(n, q)])) e2) (j := 4) rfl
  have F : ∀ (i x : Nat) (o : MObj), D.all[i]? = some x → i ≠ 3 → i ≠ 4 → m[x]? = some o → ((m.set D.c (.dict (rowD (s.rows ++ [(n, r, ws)])) e1)).set D.d (.dict (bakD (bak s D ++ [(n, q)])) e2))[x]? = some o := fun i x o a b c d => F2 i x o a c (F1 i x o a b d)
  obtain ⟨e3, k3⟩ := h.ro
  obtain ⟨e4, k4⟩ := h.ba
  have qc : D.c ≠ q := fun e => hn (e ▸ List.mem_append_left _ (by simp [Hd.foot]))
  have qd : D.d ≠ q := fun e => hn (e ▸ List.mem_append_left _ (by simp [Hd.foot]))
  have kc : (m.set D.c (.dict (rowD (s.rows ++ [(n, r, ws)])) e1))[D.c]? = some (.dict (rowD (s.rows ++ [(n, r, ws)])) e1) := set_has k3
  have kd := F1 4 D.d _ rfl (by decide) k4
  have eb : bak { s with rows := s.rows ++ [(n, r, ws)] } { D with bs := D.bs ++ [q] } = bak s D ++ [(n, q)] := by
    unfold bak
    rw [List.map_append]
    exact List.zip_append (by rw [List.length_map, h.len])
  refine ⟨F 0 _ _ rfl (by decide) (by decide) h.inst, ?_, ?_, ⟨e1, F2 3 _ _ rfl (by decide) kc⟩, ⟨e2, ?_⟩, F 5 _ _ rfl (by decide) (by decide) h.na, ?_, fun i x e => ?_, ?_, ?_⟩
  · obtain ⟨e, k⟩ := h.kn; exact ⟨e, F 1 _ _ rfl (by decide) (by decide) k⟩
  · obtain ⟨e, k⟩ := h.mr; exact ⟨e, F 2 _ _ rfl (by decide) (by decide) k⟩
  · rw [eb]; exact set_has kd
  · obtain ⟨e, k⟩ := h.bl; exact ⟨e, F 6 _ _ rfl (by decide) (by decide) k⟩
  · rcases Nat.lt_or_ge i s.rows.length with z | z
    · have e : s.rows[i]? = some x := by rw [← e]; exact (List.getElem?_append_left z).symm
      obtain ⟨y, k1, k2⟩ := h.bk i x e
      exact ⟨y, by rw [← k1]; exact List.getElem?_append_left (by rw [h.len]; exact z), F (i + 7) _ _ k1 (by omega) (by omega) k2⟩
    · have e : (s.rows ++ [(n, r, ws)])[i]? = some x := e
      rw [List.getElem?_append_right z] at e
      have hi : i = s.rows.length := by
        cases w : i - s.rows.length with
        | zero => omega
        | succ j => rw [w] at e; cases e
      subst hi
      rw [Nat.sub_self] at e
      cases e
      refine ⟨q, ?_, set_other qd (set_other qc hq)⟩
      show (D.bs ++ [q])[s.rows.length]? = some q
      rw [← h.len]; simp
  · show (D.bs ++ [q]).length = (s.rows ++ [(n, r, ws)]).length
    rw [List.length_append, List.length_append, h.len]; rfl
  · show (D.foot ++ (D.bs ++ [q])).Nodup
    rw [← List.append_assoc]
    refine List.nodup_append.mpr ⟨h.nd, List.nodup_cons.mpr ⟨List.not_mem_nil, List.nodup_nil⟩, fun a ha b hb => ?_⟩
    rw [List.mem_singleton.mp hb]
    rintro rfl
    exact hn ha
/-- a house is named -/
theorem Ho.setN (h : Ho m C D s) {x : Int × Wo × Wo} {e1 : Nat} : Ho ((m.set D.f (.dict (blmD (s.named ++ [x])) e1)).set D.e (.list (namL (s.named ++ [x])))) C D { s with named := s.named ++ [x] } := by
  have F1 := Hd.upd h.nd (m := m) (o' := .dict (blmD (s.named ++ [x])) e1) (j := 6) rfl
  have F2 := Hd.upd h.nd (m := m.set D.f (.dict (blmD (s.named ++ [x])) e1)) (o' := .list (namL (s.named ++ [x]))) (j := 5) rfl
  have F : ∀ (i y : Nat) (o : MObj), D.all[i]? = some y → i ≠ 6 → i ≠ 5 → m[y]? = some o → ((m.set D.f (.dict (blmD (s.named ++ [x])) e1)).set D.e (.list (namL (s.named ++ [x]))))[y]? = some o := fun i x o a b c d => F2 i x o a c (F1 i x o a b d)
  obtain ⟨e3, k3⟩ := h.bl
  have kf : (m.set D.f (.dict (blmD (s.named ++ [x])) e1))[D.f]? = some (.dict (blmD (s.named ++ [x])) e1) := set_has k3
  have ke := F1 5 D.e _ rfl (by decide) h.na
  refine ⟨F 0 _ _ rfl (by decide) (by decide) h.inst, ?_, ?_, ?_, ?_, set_has ke, ⟨e1, F2 6 _ _ rfl (by decide) kf⟩, fun i x e => ?_, h.len, h.nd⟩
  · obtain ⟨e, k⟩ := h.kn; exact ⟨e, F 1 _ _ rfl (by decide) (by decide) k⟩
  · obtain ⟨e, k⟩ := h.mr; exact ⟨e, F 2 _ _ rfl (by decide) (by decide) k⟩
  · obtain ⟨e, k⟩ := h.ro; exact ⟨e, F 3 _ _ rfl (by decide) (by decide) k⟩
  · obtain ⟨e, k⟩ := h.ba; exact ⟨e, F 4 _ _ rfl (by decide) (by decide) k⟩
  · obtain ⟨q, k1, k2⟩ := h.bk i x e; exact ⟨q, k1, F (i + 7) _ _ k1 (by omega) (by omega) k2⟩
end
end Mini

/-! Houses: the methods, part one. -/
namespace Mini
open PySem
structure HN where
  C : Nat
  kW : Nat
  kN : Nat
  kM : Nat
  kE : Nat
  kR : Nat
  kU : Nat
  ki : Nat
  cC : Nat
  cH : Nat
  cR : Nat
  cN : Nat
  gM : Nat
  gL : Nat
  gS : Nat
noncomputable def b_most (kN : Nat) : List CS := [.exp (.call kN [.var 0]), .ret (.bin .FloorDiv (.bin .Sub (.var 0) (.cnst (.int 1))) (.cnst (.int 3)))]
noncomputable def b_enough (kN kM : Nat) : List CS := [.exp (.call kN [.var 0]), .ret (.bin .Add (.bin .FloorDiv (.bin .Add (.var 0) (.call kM [.var 0])) (.cnst (.int 2))) (.cnst (.int 1)))]
noncomputable def b_unlike : List CS := [
  (.ret (.boolop true [(.cmp (.idx (.var 0) (.cnst (Lt.int 3))) [.Eq] [(.idx (.var 1) (.cnst (Lt.int 3)))]), (.cmp (.idx (.var 0) (.cnst (Lt.int 0))) [.Eq] [(.idx (.var 1) (.cnst (Lt.int 0)))]), (.cmp (.idx (.var 0) (.cnst (Lt.int 1))) [.Eq] [(.idx (.var 1) (.cnst (Lt.int 1)))]), (.cmp (.idx (.var 0) (.cnst (Lt.int 2))) [.NotEq] [(.idx (.var 1) (.cnst (Lt.int 2)))])]))]
noncomputable def b_hinit (kN kW cH : Nat) : List CS := [
  (.exp (.call kN [(.var 1)])),
  (.ite (.all false [(.not (.val (.call kW [(.var 2)]))), (.not (.val (.cmp (.cnst (Lt.int 0)) [.LtE, .Lt] [(.var 2), (.var 1)])))]) [
    (.rse cH (Str.ofString "no house of the town"))] []),
  (.asg (.attr (.var 0) 8) (.var 1)),
  (.asg (.attr (.var 0) 9) (.var 2)),
  (.asg (.attr (.var 0) 10) (.var 2)),
  (.asg (.attr (.var 0) 11) (.dict [] [])),
  (.asg (.attr (.var 0) 12) (.dict [] [])),
  (.asg (.attr (.var 0) 13) (.dict [] [])),
  (.asg (.attr (.var 0) 14) (.dict [] [])),
  (.asg (.attr (.var 0) 15) (.list [])),
  (.asg (.attr (.var 0) 16) (.dict [] []))]
noncomputable def b_call (kR cR : Nat) : List CS := [
  (.ite (.not (.val (.call kR [(.var 1)]))) [
    (.rse cR (Str.ofString "no row"))] []),
  (.asg (.one (.one 2)) (.tup [(.cnst (Lt.str (Str.ofString "say"))), (.attr (.var 0) 10), (.var 1), (.attr (.var 0) 9)])),
  (.asg (.attr (.var 0) 10) (.bin .Add (.attr (.var 0) 10) (.attr (.var 0) 8))),
  (.ret (.bin .Add (.list [(.var 2)]) (.meth (.var 0) 1 [(.var 2)])))]
noncomputable def b_hear (kU : Nat) : List CS := [
  (.ite (.val (.cmp (.var 1) [.In] [(.attr (.var 0) 11)])) [
    (.ret (.list []))] []),
  (.asg (.one (.one 2)) (.comp (.var 3) (.one 3) 1 .expr [(.attr (.var 0) 11)] [(.val (.call kU [(.var 3), (.var 1)]))])),
  (.asg (.idx (.attr (.var 0) 11) (.var 1)) (.cnst (Lt.bool true))),
  (.ret (.bin .Add (.bin .Add (.meth (.var 0) 2 [(.var 1)]) (.meth (.var 0) 3 [(.idx (.var 1) (.cnst (Lt.int 1))), (.idx (.var 1) (.cnst (Lt.int 2)))])) (.meth (.var 0) 4 [(.var 1), (.var 2)])))]
noncomputable def b_marking : List CS := [
  (.ite (.all false [(.val (.cmp (.idx (.var 1) (.cnst (Lt.int 0))) [.NotEq] [(.cnst (Lt.str (Str.ofString "say")))])), (.val (.cmp (.idx (.var 1) (.cnst (Lt.int 1))) [.In] [(.attr (.var 0) 12)]))]) [
    (.ret (.list []))] []),
  (.asg (.one (.one 2)) (.tup [(.cnst (Lt.str (Str.ofString "mark"))), (.idx (.var 1) (.cnst (Lt.int 1))), (.idx (.var 1) (.cnst (Lt.int 2))), (.attr (.var 0) 9)])),
  (.asg (.idx (.attr (.var 0) 12) (.idx (.var 1) (.cnst (Lt.int 1)))) (.cnst (Lt.bool true))),
  (.asg (.idx (.attr (.var 0) 11) (.var 2)) (.cnst (Lt.bool true))),
  (.ret (.list [(.var 2)]))]
noncomputable def b_writing (kE : Nat) : List CS := [
  (.asg (.one (.one 3)) (.comp (.tup [(.cnst (Lt.str (Str.ofString "mark"))), (.var 1), (.var 2), (.var 4)]) (.one 4) 1 .range [(.attr (.var 0) 8)] [])),
  (.asg (.one (.one 3)) (.comp (.var 4) (.one 4) 1 .expr [(.var 3)] [(.val (.cmp (.var 4) [.In] [(.attr (.var 0) 11)]))])),
  (.ite (.all false [(.val (.cmp (.bi .len [(.var 3)]) [.Lt] [(.call kE [(.attr (.var 0) 8)])])), (.val (.cmp (.var 1) [.In] [(.attr (.var 0) 13)]))]) [
    (.ret (.list []))] []),
  (.asg (.idx (.attr (.var 0) 13) (.var 1)) (.var 2)),
  (.asg (.idx (.attr (.var 0) 14) (.var 1)) (.var 3)),
  (.ret (.bi .list [(.var 3)]))]
noncomputable def b_naming : List CS := [
  (.ite (.all false [(.val (.cmp (.var 2) [.Eq] [(.list [])])), (.val (.cmp (.idx (.var 1) (.cnst (Lt.int 3))) [.In] [(.attr (.var 0) 16)]))]) [
    (.ret (.list []))] []),
  (.asg (.idx (.attr (.var 0) 16) (.idx (.var 1) (.cnst (Lt.int 3)))) (.cnst (Lt.bool true))),
  (.exp (.smeth (.attr (.var 0) 15) .append [(.tup [(.idx (.var 1) (.cnst (Lt.int 3))), (.idx (.var 2) (.cnst (Lt.int 0))), (.var 1)])])),
  (.ret (.list [(.idx (.var 2) (.cnst (Lt.int 0))), (.var 1)]))]
noncomputable def b_ledger : List CS := [
  (.asg (.one (.one 1)) (.dict [] [])),
  (.for_ .expr (.one 2) [(.bi .sorted [(.attr (.var 0) 13)])] [
    (.asg (.idx (.var 1) (.var 2)) (.idx (.attr (.var 0) 13) (.var 2)))]),
  (.ret (.var 1))]
noncomputable def b_backing (kW cN : Nat) : List CS := [
  (.ite (.all false [(.not (.val (.call kW [(.var 1)]))), (.val (.cmp (.var 1) [.NotIn] [(.attr (.var 0) 13)]))]) [
    (.rse cN (Str.ofString "nothing is written there"))] []),
  (.ret (.bi .list [(.idx (.attr (.var 0) 14) (.var 1))]))]
noncomputable def b_caught : List CS := [
  (.ret (.bi .list [(.attr (.var 0) 15)]))]
/-- a program that has houses -/
structure HF (S : Sig) (N : HN) : Prop where
  W : FnIs S N.kW 1 1 b_whole
  N_ : FnIs S N.kN 1 1 (b_need N.kW N.gM N.cC)
  M : FnIs S N.kM 1 1 (b_most N.kN)
  E : FnIs S N.kE 1 1 (b_enough N.kN N.kM)
  R : FnIs S N.kR 1 2 (b_is_row N.gL N.gS)
  U : FnIs S N.kU 2 2 b_unlike
  I : FnIs S N.ki 3 3 (b_hinit N.kN N.kW N.cH)
  call : FnIs S (N.ki + 1) 2 3 (b_call N.kR N.cR)
  hear : FnIs S (N.ki + 2) 2 3 (b_hear N.kU)
  marking : FnIs S (N.ki + 3) 2 3 b_marking
  writing : FnIs S (N.ki + 4) 3 4 (b_writing N.kE)
  naming : FnIs S (N.ki + 5) 3 3 b_naming
  ledger : FnIs S (N.ki + 6) 1 3 b_ledger
  backing : FnIs S (N.ki + 7) 2 2 (b_backing N.kW N.cN)
  caught : FnIs S (N.ki + 8) 1 1 b_caught
  gM : ∃ nm, S.globs[N.gM]? = some (nm, .int 12)
  gL : ∃ nm, S.globs[N.gL]? = some (nm, .str letterS)
  gS : ∃ nm, S.globs[N.gS]? = some (nm, .int 8)
  cls : ∃ d, S.cls[N.C]? = some d ∧ d.exc = false ∧ d.init = some N.ki ∧ ∀ j, j < 8 → d.meths.lookup j = some (N.ki + 1 + j)
section
variable {S : Sig} {N : HN} {m : MH} {D : Hd} {s : Hs}
theorem most_ok (H : HF S N) (n : Nat) (c : Int) (h1 : 1 ≤ c) (h2 : c ≤ 12) (m : MH) : run S (n + 3) N.kM [.int c] m = .ok (.int ((c - 1) / 3)) m := by
  obtain ⟨_, gM⟩ := H.gM
  have en : run S (n + 2) N.kN [.int c] m = .ok .none m := by
    rw [need_ok H.N_ H.W gM n (.int c)]
    have : isC (.int c) = true := by show (decide (1 ≤ c) && decide (c ≤ 12)) = true; rw [decide_eq_true h1, decide_eq_true h2]; rfl
    rw [this]; rfl
  refine wp_eqn ?_
  exact wp_fn H.M rfl (s_exp (wp_eq (q_call1 rfl en) (s_ret (wp_rfl rfl ⟨rfl, rfl⟩))))
theorem enough_ok (H : HF S N) (n : Nat) (c : Int) (h1 : 1 ≤ c) (h2 : c ≤ 12) (m : MH) : run S (n + 4) N.kE [.int c] m = .ok (.int (enoughI c)) m := by
  obtain ⟨_, gM⟩ := H.gM
  have en : run S (n + 3) N.kN [.int c] m = .ok .none m := by
    rw [need_ok H.N_ H.W gM (n + 1) (.int c)]
    have : isC (.int c) = true := by show (decide (1 ≤ c) && decide (c ≤ 12)) = true; rw [decide_eq_true h1, decide_eq_true h2]; rfl
    rw [this]; rfl
  refine wp_eqn ?_
  refine wp_fn H.E rfl (s_exp (wp_eq (q_call1 rfl en) (s_ret (wp_eq (q_bin (q_bin (q_bin rfl (q_call1 rfl (most_ok H n c h1 h2 m)) rfl) rfl rfl) rfl rfl) ⟨rfl, rfl⟩))))
theorem unlike_ok (H : HF S N) (n : Nat) (a b : Wo) (m : MH) : run S (n + 1) N.kU [a.v, b.v] m = .ok (.bool (unlike a b)) m := by
  refine wp_eqn ?_
  refine wp_fn H.U rfl (s_ret (wp_eq (q_and (x := a.h == b.h) ?_ (q_and (x := a.k == b.k) ?_ (q_and (x := a.n == b.n) ?_ (q_one (v := .bool (a.r != b.r)) ?_)))) ⟨?_, rfl⟩))
  · exact q_cmp1 rfl rfl rfl
  · exact q_cmp1 rfl rfl rfl
  · exact q_cmp1 rfl rfl rfl
  · exact q_cmp1 rfl rfl rfl
  · unfold unlike; simp [Bool.and_assoc]
/-- what a method that tells words gives -/
noncomputable def Hd.ext (D : Hd) (l : List Nat) : Hd := { D with bs := D.bs ++ l }
theorem Hd.ext_nil (D : Hd) : D.ext [] = D := by unfold Hd.ext; rw [List.append_nil]
theorem Hd.ext_ext (D : Hd) (a b : List Nat) : (D.ext a).ext b = D.ext (a ++ b) := by unfold Hd.ext; rw [List.append_assoc]
structure Tells (m : MH) (C : Nat) (D : Hd) (x : Hs × List Wo) (u : V) (m' : MH) : Prop where
  all : ∃ q l, u = .ref q ∧ m'[q]? = some (.list (x.2.map Wo.v)) ∧ m.length ≤ q ∧ q ∉ (D.ext l).all ∧ Ho m' C (D.ext l) x.1 ∧ Mod D.foot m m' ∧ ∀ y ∈ l, m.length ≤ y
theorem tells_nil {C : Nat} {x : Hs × List Wo} {q : Nat} {m' : MH} (k : m'[q]? = some (.list (x.2.map Wo.v))) (g : m.length ≤ q) (o : q ∉ D.all) (h : Ho m' C D x.1) (M : Mod D.foot m m') : Tells m C D x (.ref q) m' :=
  ⟨q, [], rfl, k, g, by rw [Hd.ext_nil]; exact o, by rw [Hd.ext_nil]; exact h, M, fun _ q => nomatch q⟩
theorem tells_use {C : Nat} {p : Hs × List Wo} {x : Mn V} {Q : V → MH → Prop} {E : Nat → MH → Prop} (h : Wp x m (Tells m C D p) nox) (k : ∀ m' q l, m'[q]? = some (.list (p.2.map Wo.v)) → m.length ≤ q → q ∉ (D.ext l).all → Ho m' C (D.ext l) p.1 → Mod D.foot m m' → (∀ y ∈ l, m.length ≤ y) → Q (.ref q) m') : Wp x m Q E :=
  wp_use h fun _ m' ⟨q, l, e, k1, k2, k3, k4, k5, k6⟩ => e ▸ k m' q l k1 k2 k3 k4 k5 k6
theorem marking_ok (H : HF S N) (n : Nat) (w : Wo) (h : Ho m N.C D s) (hl : s.known.length + s.marked.length < lid) : Wp (run S (n + 1) (N.ki + 3) [.ref D.p, w.v]) m (Tells m N.C D (s.marking w)) nox := by
  obtain ⟨eb, kb⟩ := h.mr
  have hc : evT S (run S n) (.all false [(.val (.cmp (.idx (.var 1) (.cnst (Lt.int 0))) [.NotEq] [(.cnst (Lt.str (Str.ofString "say")))])), (.val (.cmp (.idx (.var 1) (.cnst (Lt.int 1))) [.In] [(.attr (.var 0) 12)]))]) [some (.ref D.p), some w.v, none] m = .ok (decide (w.k ≠ sayS ∨ w.n ∈ s.marked)) m := by
    have e1 : evT S (run S n) (.val (.cmp (.idx (.var 1) (.cnst (Lt.int 0))) [.NotEq] [(.cnst (Lt.str (Str.ofString "say")))])) [some (.ref D.p), some w.v, none] m = .ok (!(w.k == sayS)) m := q_val (q_cmp1 rfl rfl rfl)
    have e2 : evT S (run S n) (.val (.cmp (.idx (.var 1) (.cnst (Lt.int 1))) [.In] [(.attr (.var 0) 12)])) [some (.ref D.p), some w.v, none] m = .ok (decide (w.n ∈ s.marked)) m := by
      refine q_val (q_cmp1 rfl (q_attr rfl h.inst rfl) ?_)
      show inV (.int w.n) (.ref D.b) m = _
      rw [in_dict_eq kb rfl (sorted_iD _ _), iD_tD, isSome_tD]
      congr 1
      rw [Bool.eq_iff_iff]; simp
    have := q_all (q_ors e1 (q_ors e2 q_end))
    rw [this]
    congr 1
    rw [Bool.eq_iff_iff]; simp
  refine wp_fn H.marking rfl (q_ite hc ?_)
  unfold Hs.marking
  by_cases z : w.k ≠ sayS ∨ w.n ∈ s.marked
  · rw [if_pos z, decide_eq_true z]
    refine s_ret (pe_list (pes_nil (wp_alloc fun q m' l k g => ?_)))
    exact tells_nil k g (fun c => by have := h.lt q c; omega) (h.le l) l.mod
  · rw [if_neg z, decide_eq_false z]
    have z2 : w.n ∉ s.marked := fun c => z (.inr c)
    refine s_asg (pe_tup (pes_cons (wp_rfl rfl (pes_cons (wp_rfl rfl (pes_cons (wp_rfl rfl (pes_cons (wp_eq (q_attr rfl h.inst rfl) (pes_nil ?_)))))))))) 
    refine s_asgI (wp_rfl rfl (wp_eq (q_attr rfl h.inst rfl) (wp_rfl rfl (w_putd kb rfl (sorted_iD _ _) (by unfold iD; rw [List.length_map]; omega) ?_))))
    have ep : put (.int w.n) (.bool true) (iD s.marked) = iD (s.marked ++ [w.n]) := by
      rw [iD_tD, put_tD _ _ _ _ _ (by rw [List.any_eq_false]; intro x hx; simp; rintro rfl; exact z2 hx)]
      unfold iD tD
      rw [List.map_append]; rfl
    show Wp _ (m.set D.b (.dict (put (.int w.n) (.bool true) (iD s.marked)) (eb + 1))) _ _
    rw [ep]
    have h1 := h.setM (s.marked ++ [w.n]) (eb + 1)
    obtain ⟨ea, ka⟩ := h1.kn
    refine s_asgI (wp_rfl rfl (wp_eq (q_attr rfl h1.inst rfl) (wp_rfl rfl (w_putd ka (k := (mrk w.n w.r s.own).ky) rfl (sorted_kD _ _) (by unfold kD; rw [List.length_map]; show s.known.length < lid; omega) ?_))))
    show Wp _ (List.set _ D.a (.dict (put (mrk w.n w.r s.own).ky (.bool true) (kD s.known)) (ea + 1))) _ _
    rw [put_kD]
    have h2 := h1.setK (addW (mrk w.n w.r s.own) s.known) (ea + 1)
    refine s_ret (pe_list (pes_cons (wp_rfl rfl (pes_nil (wp_alloc fun q m' l k g => ?_)))))
    have g' : m.length ≤ q := by simpa using g
    refine tells_nil k g' (fun c => by have := h.lt q c; omega) (h2.le l) ?_
    exact ((Mod.set (by simp [Hd.foot])).trans (Mod.set (by simp [Hd.foot]))).trans l.mod
end
end Mini

/-! Houses: the methods, part two. -/
namespace Mini
open PySem
section
variable {S : Sig} {N : HN} {m : MH} {D : Hd} {s : Hs}
theorem wp_same {α : Type} {x y : Mn α} {Q : α → MH → Prop} {E : Nat → MH → Prop} (h : x m = y m) (k : Wp y m Q E) : Wp x m Q E := by unfold Wp at k ⊢; rw [h]; exact k
theorem Ho.out {C : Nat} (h : Ho m C D s) {q : Nat} (hq : m.length ≤ q) : q ∉ D.all := fun c => by have := h.lt q c; omega
theorem out_foot {D : Hd} {q : Nat} (h : q ∉ D.all) : q ∉ D.foot := fun c => h (List.mem_append_left _ c)
theorem marks_len (s : Hs) (x : Int) (r : Str) : (s.marks x r).length ≤ s.cnt.toNat := by
  unfold Hs.marks
  exact Nat.le_trans (List.length_filter_le _ _) (by rw [List.length_map, List.length_range]; exact Nat.le_refl _)
theorem writing_ok (H : HF S N) (n : Nat) (x : Int) (r : Str) (h : Ho m N.C D s) (h1 : 1 ≤ s.cnt) (h2 : s.cnt ≤ 12) (hl : s.rows.length < lid) : Wp (run S (n + 5) (N.ki + 4) [.ref D.p, .int x, .str r]) m (Tells m N.C D (s.writing x r)) nox := by
  have hcn : s.cnt.toNat ≤ 12 := by omega
  refine wp_fn H.writing rfl (s_asg (pe_map (List.range s.cnt.toNat) (fun (j : Nat) => V.int (0 + (j : Int))) (fun (j : Nat) => (mrk x r j).v) (fun m' => m' = m) (pes_cons (wp_eq (q_attr rfl h.inst rfl) (pes_nil (wp_eq (srcR1 (by omega)) ⟨rfl, rfl, fun _ _ => rfl, ?_, ?_, ?_⟩))))))
  · intro j hj m' em
    rw [em]
    refine wp_rfl rfl (pe_tup (pes_cons (wp_rfl rfl (pes_cons (wp_rfl rfl (pes_cons (wp_rfl rfl (pes_cons (wp_rfl rfl (pes_nil ⟨?_, rfl⟩))))))))))
    show V.tup [_, _, _, .int (0 + (j : Int))] = _
    rw [Int.zero_add]; rfl
  · rw [List.length_range]; unfold lid; omega
  · intro q1 m1' m1 em l1 k1 g1
    rw [em] at l1 g1
    clear em m1'
    have ha := h.le l1
    obtain ⟨ea, ka⟩ := ha.kn
    have k1 : m1[q1]? = some (.list (((List.range s.cnt.toNat).map fun (j : Nat) => mrk x r j).map Wo.v)) := by rw [List.map_map]; exact k1
    refine s_asg (pe_mapf ((List.range s.cnt.toNat).map fun (j : Nat) => mrk x r j) Wo.v Wo.v (fun w => decide (w ∈ s.known)) (fun m' => m' = m1) (pes_cons (wp_rfl rfl (pes_nil (w_srcl (m := m1) (p := q1) (xs := ((List.range s.cnt.toNat).map fun (j : Nat) => mrk x r j).map Wo.v) k1 ⟨rfl, rfl, ?_, ?_, ?_, ?_⟩)))))
    · intro m' em; rw [em]; exact stays_l k1
    · intro w hw m' em
      rw [em]
      refine wp_rfl rfl (ifs_one (wp_eq (q_val (q_cmp1 (t := decide (w ∈ s.known)) rfl (q_attr rfl ha.inst rfl) ?_)) ⟨rfl, ?_⟩))
      · show inV w.v (.ref D.a) m1 = _
        rw [in_dict_eq ka (k := w.ky) rfl (sorted_kD _ _), look_kD]
      · cases decide (w ∈ s.known) with
        | true => exact bif_t (wp_rfl (m' := m1) (a := w.v) rfl ⟨rfl, rfl⟩)
        | false => rfl
    · rw [List.length_map, List.length_range]; unfold lid; omega
    · intro q2 m2' m2 em l2 k2 g2
      rw [em] at l2 g2
      clear em m2'
      have k2 : m2[q2]? = some (.list ((s.marks x r).map Wo.v)) := k2
      have hb := ha.le l2
      have qo : q2 ∉ D.all := ha.out g2
      obtain ⟨ec, kc⟩ := hb.ro
      obtain ⟨ed, kd⟩ := hb.ba
      have ml := marks_len s x r
      have hc : evT S (run S (n + 4)) (.all false [(.val (.cmp (.bi .len [(.var 3)]) [.Lt] [(.call N.kE [(.attr (.var 0) 8)])])), (.val (.cmp (.var 1) [.In] [(.attr (.var 0) 13)]))]) [some (.ref D.p), some (.int x), some (.str r), some (.ref q2)] m2 = .ok (decide (((s.marks x r).length : Int) < enoughI s.cnt ∨ s.wrote x = true)) m2 := by
        have e1 : evT S (run S (n + 4)) (.val (.cmp (.bi .len [(.var 3)]) [.Lt] [(.call N.kE [(.attr (.var 0) 8)])])) [some (.ref D.p), some (.int x), some (.str r), some (.ref q2)] m2 = .ok (decide (((s.marks x r).length : Int) < enoughI s.cnt)) m2 := by
          refine q_val (q_cmp1 (x := .int (s.marks x r).length) ?_ (q_call1 (q_attr rfl hb.inst rfl) (enough_ok H n s.cnt h1 h2 m2)) rfl)
          show biV .len [.ref q2] m2 = _
          unfold biV; dsimp only; rw [k2]; dsimp only; rw [List.length_map]
        have e2 : evT S (run S (n + 4)) (.val (.cmp (.var 1) [.In] [(.attr (.var 0) 13)])) [some (.ref D.p), some (.int x), some (.str r), some (.ref q2)] m2 = .ok (s.wrote x) m2 := by
          refine q_val (q_cmp1 rfl (q_attr rfl hb.inst rfl) ?_)
          show inV (.int x) (.ref D.c) m2 = _
          rw [in_dict_eq kc rfl (sorted_tD _ _ _ _), rowD, isSome_tD]; rfl
        rw [q_all (q_ors e1 (q_ors e2 q_end))]
        congr 1
        rw [Bool.eq_iff_iff]; simp
      refine q_ite hc ?_
      unfold Hs.writing
      by_cases z : ((s.marks x r).length : Int) < enoughI s.cnt ∨ s.wrote x = true
      · rw [if_pos z, decide_eq_true z]
        refine s_ret (pe_list (pes_nil (wp_alloc fun q m' l k g => ?_)))
        have g3 : m.length ≤ q := Nat.le_trans l1.1 (Nat.le_trans l2.1 g)
        exact tells_nil k g3 (h.out g3) (hb.le l) ((l1.trans (l2.trans l)).mod)
      · rw [if_neg z, decide_eq_false z]
        have zw : s.wrote x = false := by cases w : s.wrote x with | true => exact absurd (.inr w) z | false => rfl
        refine s_asgI (wp_rfl rfl (wp_eq (q_attr rfl hb.inst rfl) (wp_rfl rfl (w_putd kc rfl (sorted_tD _ _ _ _) (by unfold rowD tD; rw [List.length_map]; exact hl) ?_))))
        have ep : put (.int x) (.str r) (rowD s.rows) = rowD (s.rows ++ [(x, r, s.marks x r)]) := by
          unfold rowD
          rw [put_tD _ _ _ _ _ zw]
          unfold tD
          rw [List.map_append]; rfl
        show Wp _ (m2.set D.c (.dict (put (.int x) (.str r) (rowD s.rows)) (ec + 1))) _ _
        rw [ep]
        have F := Hd.upd hb.nd (m := m2) (o' := .dict (rowD (s.rows ++ [(x, r, s.marks x r)])) (ec + 1)) (j := 3) rfl
        have kd' := F 4 _ _ rfl (by decide) kd
        have ki' := F 0 _ _ rfl (by decide) hb.inst
        have zb : ((bak s D).any fun y => y.1 == x) = false := by
          rw [List.any_eq_false]
          intro y hy
          have : y.1 ∈ s.rows.map (·.1) := (List.of_mem_zip (a := y.1) (b := y.2) hy).1
          obtain ⟨t, ht, e⟩ := List.mem_map.mp this
          have := List.any_eq_false.mp zw t ht
          rw [← e]; exact this
        refine s_asgI (wp_rfl rfl (wp_eq (q_attr rfl ki' rfl) (wp_rfl rfl (w_putd kd' rfl (sorted_tD _ _ _ _) (by unfold bakD tD; rw [List.length_map]; unfold bak; rw [List.length_zip, List.length_map, h.len, Nat.min_self]; exact hl) ?_))))
        have ep2 : put (.int x) (.ref q2) (bakD (bak s D)) = bakD (bak s D ++ [(x, q2)]) := by
          unfold bakD
          rw [put_tD _ _ _ _ _ zb]
          unfold tD
          rw [List.map_append]; rfl
        show Wp _ (List.set _ D.d (.dict (put (.int x) (.ref q2) (bakD (bak s D))) (ed + 1))) _ _
        rw [ep2]
        have h3 := hb.setR (n := x) (r := r) (e1 := ec + 1) (e2 := ed + 1) k2 qo
        have k3 : ((m2.set D.c (.dict (rowD (s.rows ++ [(x, r, s.marks x r)])) (ec + 1))).set D.d (.dict (bakD (bak s D ++ [(x, q2)])) (ed + 1)))[q2]? = some (.list ((s.marks x r).map Wo.v)) :=
          set_other (fun e => qo (e ▸ List.mem_append_left _ (by simp [Hd.foot]))) (set_other (fun e => qo (e ▸ List.mem_append_left _ (by simp [Hd.foot]))) k2)
        have el : biV .list [.ref q2] ((m2.set D.c (.dict (rowD (s.rows ++ [(x, r, s.marks x r)])) (ec + 1))).set D.d (.dict (bakD (bak s D ++ [(x, q2)])) (ed + 1))) = alloc (.list ((s.marks x r).map Wo.v)) ((m2.set D.c (.dict (rowD (s.rows ++ [(x, r, s.marks x r)])) (ec + 1))).set D.d (.dict (bakD (bak s D ++ [(x, q2)])) (ed + 1))) := by
          unfold biV; dsimp only; rw [k3]
        refine s_ret (pe_bi (pes_cons (wp_rfl rfl (pes_nil ?_))))
        refine wp_same el (wp_alloc fun q m' l k g => ?_)
        have gl : m2.length ≤ q := by simpa using g
        have g3 : m.length ≤ q := Nat.le_trans l1.1 (Nat.le_trans l2.1 gl)
        have q3 : q2 < m2.length := has_lt k2
        have g4 : m.length ≤ q2 := Nat.le_trans l1.1 g2
        refine ⟨q, [q2], rfl, k, g3, fun c => ?_, h3.le l, ?_, fun y hy => by rw [List.mem_singleton.mp hy]; exact g4⟩
        · have := h3.lt q c
          simp at this; omega
        · exact ((l1.trans l2).mod.trans ((Mod.set (by simp [Hd.foot])).trans (Mod.set (by simp [Hd.foot])))).trans l.mod
noncomputable def Wo.d (w : Wo) : PyData := .tuple [.str w.k, .int w.n, .str w.r, .int w.h]
theorem rd_words (m : MH) (f : Nat) : ∀ l : List Wo, allO (rd (f + 2) m) (l.map Wo.v) = some (l.map Wo.d)
  | [] => rfl
  | w :: l => allO_c rfl (rd_words m f l)
theorem eqv_cons (x y : PyData) (a b : List PyData) : PyData.eqvAll (x :: a) (y :: b) = (PyData.eqv x y && PyData.eqvAll a b) := rfl
theorem eqv_d (a b : Wo) : PyData.eqv a.d b.d = decide (a = b) := by
  obtain ⟨a1, a2, a3, a4⟩ := a
  obtain ⟨b1, b2, b3, b4⟩ := b
  have e : PyData.eqv (Wo.d ⟨a1, a2, a3, a4⟩) (Wo.d ⟨b1, b2, b3, b4⟩) = (a1 == b1 && (a2 == b2 && (a3 == b3 && (a4 == b4 && true)))) := rfl
  rw [e, Bool.eq_iff_iff, decide_eq_true_iff, Bool.and_eq_true_iff, Bool.and_eq_true_iff, Bool.and_eq_true_iff, Bool.and_true, beq_iff_eq, beq_iff_eq, beq_iff_eq, beq_iff_eq]
  exact ⟨fun ⟨p, q, r, s⟩ => by subst p q r s; rfl, fun e => by cases e; exact ⟨rfl, rfl, rfl, rfl⟩⟩
theorem eqv_words : ∀ a b : List Wo, PyData.eqvAll (a.map Wo.d) (b.map Wo.d) = decide (a = b)
  | [], [] => rfl
  | [], _ :: _ => (decide_eq_false fun e => by cases e).symm
  | _ :: _, [] => (decide_eq_false fun e => by cases e).symm
  | x :: a, y :: b => by
    rw [List.map_cons, List.map_cons, eqv_cons, eqv_d, eqv_words a b, Bool.eq_iff_iff, Bool.and_eq_true_iff, decide_eq_true_iff, decide_eq_true_iff, decide_eq_true_iff]
    exact ⟨fun h => by rw [h.1, h.2], fun h => ⟨(List.cons.inj h).1, (List.cons.inj h).2⟩⟩
theorem eq_words {p q : Nat} {a b : List Wo} (hp : m[p]? = some (.list (a.map Wo.v))) (hq : m[q]? = some (.list (b.map Wo.v))) : eqV (.ref p) (.ref q) m = .ok (decide (a = b)) m := by
  have r1 : rd deep m (.ref p) = some (.list (a.map Wo.d)) := by
    show (match m[p]? with | some (.list xs) => (allO (rd 11 m) xs).map PyData.list | _ => none) = _
    rw [hp]; show (allO (rd 11 m) (a.map Wo.v)).map PyData.list = _; rw [rd_words m 9 a]; rfl
  have r2 : rd deep m (.ref q) = some (.list (b.map Wo.d)) := by
    show (match m[q]? with | some (.list xs) => (allO (rd 11 m) xs).map PyData.list | _ => none) = _
    rw [hq]; show (allO (rd 11 m) (b.map Wo.v)).map PyData.list = _; rw [rd_words m 9 b]; rfl
  unfold eqV
  rw [r1, r2]
  show Res.ok (PyData.eqvAll _ _) m = _
  rw [eqv_words]
theorem naming_ok (H : HF S N) (n : Nat) (w : Wo) {ahead : List Wo} {qa : Nat} (ha : m[qa]? = some (.list (ahead.map Wo.v))) (hq : qa ∉ D.all) (h : Ho m N.C D s) (hl : s.named.length < lid) : Wp (run S (n + 1) (N.ki + 5) [.ref D.p, w.v, .ref qa]) m (Tells m N.C D (s.naming w ahead)) nox := by
  refine wp_fn H.naming rfl (s_ite (pt_all (pts_cons (pt_val (pe_cmp (wp_rfl rfl (pe_list (pes_nil (wp_alloc fun q0 m0 l0 k0 g0 => ?_)))))))))
  have ha0 := l0.has ha
  have e0 : cmpV .Eq (.ref qa) (.ref q0) m0 = .ok (decide (ahead = [])) m0 := eq_words ha0 (b := []) k0
  refine wp_eq e0 (wp_rfl rfl ?_)
  have h0 := h.le l0
  obtain ⟨ef, kf⟩ := h0.bl
  cases ahead with
  | nil =>
    rw [show decide (([] : List Wo) = []) = true from by simp]
    refine bif_f ?_
    refine s_ret (pe_list (pes_nil (wp_alloc fun q m' l k g => ?_)))
    have g3 : m.length ≤ q := Nat.le_trans l0.1 g
    exact tells_nil k g3 (h.out g3) (h0.le l) ((l0.trans l).mod)
  | cons a as =>
    have e2 : evT S (run S n) (.val (.cmp (.idx (.var 1) (.cnst (Lt.int 3))) [.In] [(.attr (.var 0) 16)])) [some (.ref D.p), some w.v, some (.ref qa)] m0 = .ok (s.named.any fun x => x.1 == w.h) m0 := by
      refine q_val (q_cmp1 rfl (q_attr rfl h0.inst rfl) ?_)
      show inV (.int w.h) (.ref D.f) m0 = _
      rw [in_dict_eq kf rfl (sorted_tD _ _ _ _), blmD, isSome_tD]
    rw [show decide (a :: as = []) = false from by simp]
    refine bif_t ?_
    refine wp_eq (q_ors e2 q_end) ?_
    rw [Bool.or_false]
    unfold Hs.naming
    dsimp only
    cases z : s.named.any fun x => x.1 == w.h with
    | true =>
      show Wp _ m0 _ _
      refine s_ret (pe_list (pes_nil (wp_alloc fun q m' l k g => ?_)))
      have g3 : m.length ≤ q := Nat.le_trans l0.1 g
      exact tells_nil k g3 (h.out g3) (h0.le l) ((l0.trans l).mod)
    | false =>
      show Wp _ m0 _ _
      rw [if_neg Bool.false_ne_true]
      refine s_asgI (wp_rfl rfl (wp_eq (q_attr rfl h0.inst rfl) (wp_rfl rfl (w_putd kf rfl (sorted_tD _ _ _ _) (by unfold blmD tD; rw [List.length_map]; exact hl) ?_))))
      have ep : put (.int w.h) (.bool true) (blmD s.named) = blmD (s.named ++ [(w.h, a, w)]) := by
        unfold blmD
        rw [put_tD _ _ _ _ _ z]
        unfold tD
        rw [List.map_append]; rfl
      show Wp _ (m0.set D.f (.dict (put (.int w.h) (.bool true) (blmD s.named)) (ef + 1))) _ _
      rw [ep]
      have F := Hd.upd h0.nd (m := m0) (o' := .dict (blmD (s.named ++ [(w.h, a, w)])) (ef + 1)) (j := 6) rfl
      have ki := F 0 _ _ rfl (by decide) h0.inst
      have ke := F 5 _ _ rfl (by decide) h0.na
      have qf : D.f ≠ qa := fun e => hq (e ▸ List.mem_append_left _ (by simp [Hd.foot]))
      have qe : D.e ≠ qa := fun e => hq (e ▸ List.mem_append_left _ (by simp [Hd.foot]))
      have ha1 := set_other (o' := .dict (blmD (s.named ++ [(w.h, a, w)])) (ef + 1)) qf ha0
      have hi : ∀ (m' : MH), m'[qa]? = some (.list ((a :: as).map Wo.v)) → idxV (.ref qa) (.int 0) m' = .ok a.v m' := fun m' k => by
        unfold idxV; dsimp only; rw [k]; rfl
      refine s_exp (pe_smeth (wp_eq (q_attr rfl ki rfl) ⟨0, smK_l ke, rfl, pes_cons (pe_tup (pes_cons (wp_rfl rfl (pes_cons (wp_eq (q_idx rfl rfl (hi _ ha1)) (pes_cons (wp_rfl rfl (pes_nil (pes_nil (w_append ke (by unfold namL; rw [List.length_map]; exact hl) ?_))))))))))⟩))
      have en : namL s.named ++ [V.tup [.int w.h, a.v, w.v]] = namL (s.named ++ [(w.h, a, w)]) := by unfold namL; rw [List.map_append]; rfl
      show Wp _ (List.set _ D.e (.list (namL s.named ++ [V.tup [.int w.h, a.v, w.v]]))) _ _
      rw [en]
      have h1 := h0.setN (x := (w.h, a, w)) (e1 := ef + 1)
      have ha2 := set_other (o' := .list (namL (s.named ++ [(w.h, a, w)]))) qe ha1
      refine s_ret (pe_list (pes_cons (wp_eq (q_idx rfl rfl (hi _ ha2)) (pes_cons (wp_rfl rfl (pes_nil (wp_alloc fun q m' l k g => ?_)))))))
      have gl : m0.length ≤ q := by simpa using g
      have g3 : m.length ≤ q := Nat.le_trans l0.1 gl
      refine tells_nil k g3 (h.out g3) (h1.le l) ?_
      exact (l0.mod.trans ((Mod.set (by simp [Hd.foot])).trans (Mod.set (by simp [Hd.foot])))).trans l.mod
end
end Mini

/-! Houses: the methods, part three. -/
namespace Mini
open PySem
/-- how much a house holds -/
noncomputable def Hs.sz (s : Hs) : Nat := s.known.length + s.marked.length + s.rows.length + s.named.length
theorem Hs.km (s : Hs) : s.known.length + s.marked.length ≤ s.sz := Nat.le_trans (Nat.le_add_right _ _) (Nat.le_add_right _ _)
theorem Hs.kl (s : Hs) : s.known.length ≤ s.sz := Nat.le_trans (Nat.le_add_right _ _) s.km
theorem Hs.rl (s : Hs) : s.rows.length ≤ s.sz := Nat.le_trans (Nat.le_add_left _ _) (Nat.le_add_right _ _)
theorem Hs.nl (s : Hs) : s.named.length ≤ s.sz := Nat.le_add_left _ _
theorem sum_le {a b a' b' c d k : Nat} (h : a' ≤ a + k) (h2 : b' ≤ b + 1) : a' + b' + c + d ≤ a + b + c + d + (k + 1) := by omega
theorem sum_3 {a b c d : Nat} : a + b + (c + 1) + d ≤ a + b + c + d + 1 := by omega
theorem sum_1 {a b c d : Nat} : a + 1 + b + c + d = a + b + c + d + 1 := by omega
theorem addW_len (w : Wo) (l : List Wo) : (addW w l).length ≤ l.length + 1 := by
  unfold addW
  by_cases h : w ∈ l
  · rw [if_pos h]; exact Nat.le_succ _
  · rw [if_neg h, List.length_append]; exact Nat.le_refl _
theorem marking_cnt (s : Hs) (w : Wo) : (s.marking w).1.cnt = s.cnt ∧ (s.marking w).1.rows = s.rows ∧ (s.marking w).1.named = s.named ∧ (s.marking w).1.own = s.own ∧ (s.marking w).1.onw = s.onw ∧ (s.marking w).1.sz ≤ s.sz + 2 ∧ (s.marking w).2.length ≤ 1 := by
  unfold Hs.marking
  split
  · exact ⟨rfl, rfl, rfl, rfl, rfl, Nat.le_add_right _ _, Nat.zero_le _⟩
  · refine ⟨rfl, rfl, rfl, rfl, rfl, ?_, Nat.le_refl _⟩
    exact sum_le (addW_len (mrk w.n w.r s.own) s.known) (Nat.le_of_eq List.length_append)
theorem writing_cnt (s : Hs) (x : Int) (r : Str) : (s.writing x r).1.cnt = s.cnt ∧ (s.writing x r).1.named = s.named ∧ (s.writing x r).1.own = s.own ∧ (s.writing x r).1.onw = s.onw ∧ (s.writing x r).1.sz ≤ s.sz + 1 ∧ (s.writing x r).2.length ≤ s.cnt.toNat := by
  unfold Hs.writing
  split
  · exact ⟨rfl, rfl, rfl, rfl, Nat.le_add_right _ _, Nat.zero_le _⟩
  · refine ⟨rfl, rfl, rfl, rfl, ?_, marks_len s x r⟩
    unfold Hs.sz; rw [List.length_append]; exact sum_3
theorem naming_cnt (s : Hs) (w : Wo) (l : List Wo) : (s.naming w l).1.cnt = s.cnt ∧ (s.naming w l).1.own = s.own ∧ (s.naming w l).1.onw = s.onw ∧ (s.naming w l).1.sz ≤ s.sz + 1 ∧ (s.naming w l).2.length ≤ 2 := by
  cases l with
  | nil => exact ⟨rfl, rfl, rfl, Nat.le_add_right _ _, Nat.zero_le _⟩
  | cons a l =>
    unfold Hs.naming
    dsimp only
    split
    · exact ⟨rfl, rfl, rfl, Nat.le_add_right _ _, Nat.zero_le _⟩
    · refine ⟨rfl, rfl, rfl, ?_, Nat.le_refl _⟩
      unfold Hs.sz; rw [List.length_append]; exact Nat.le_refl _
theorem hear_cnt (s : Hs) (w : Wo) : (s.hear w).1.cnt = s.cnt ∧ (s.hear w).1.own = s.own ∧ (s.hear w).1.onw = s.onw ∧ (s.hear w).1.sz ≤ s.sz + 5 ∧ (s.hear w).2.length ≤ s.cnt.toNat + 3 := by
  unfold Hs.hear
  split
  · exact ⟨rfl, rfl, rfl, Nat.le_add_right _ _, Nat.zero_le _⟩
  · dsimp only
    obtain ⟨a1, a2, a3, a4, a5, a6, a7⟩ := marking_cnt { s with known := s.known ++ [w] } w
    obtain ⟨b1, b2, b3, b4, b5, b6⟩ := writing_cnt (({ s with known := s.known ++ [w] } : Hs).marking w).1 w.n w.r
    obtain ⟨c1, c2, c3, c4, c5⟩ := naming_cnt ((({ s with known := s.known ++ [w] } : Hs).marking w).1.writing w.n w.r).1 w (s.known.filter fun a => unlike a w)
    have z : ({ s with known := s.known ++ [w] } : Hs).sz = s.sz + 1 := by unfold Hs.sz; rw [List.length_append]; exact sum_1
    rw [a1] at b6
    refine ⟨c1.trans (b1.trans a1), c2.trans (b3.trans a4), c3.trans (b4.trans a5), Nat.le_trans c4 (Nat.succ_le_succ (Nat.le_trans b5 (Nat.succ_le_succ (Nat.le_trans a6 (Nat.le_of_eq (congrArg (· + 2) z)))))), ?_⟩
    rw [List.length_append, List.length_append]
    exact Nat.le_trans (Nat.add_le_add (Nat.add_le_add a7 b6) c5) (Nat.le_of_eq (by rw [Nat.add_comm 1]))
section
variable {S : Sig} {N : HN} {m : MH} {D : Hd} {s : Hs}
theorem src_dict {p e : Nat} {kvs : List (Ky × V)} (h : m[p]? = some (.dict kvs e)) : srcV .expr [.ref p] m = .ok (kvs.map fun x => x.1.val, .dict p e) m := by
  show itemsV (.ref p) m = _
  unfold itemsV; dsimp only; rw [h]
theorem stays_d {p e : Nat} {kvs : List (Ky × V)} (h : m[p]? = some (.dict kvs e)) : (Gd.dict p e).stays m = true := by
  unfold Gd.stays; dsimp only; rw [h]; exact beq_self_eq_true e
theorem kD_vals (l : List Wo) : ((kD l).map fun x => x.1.val) = l.map Wo.v := by unfold kD; rw [List.map_map]; rfl
theorem hear_ok (H : HF S N) (n : Nat) (w : Wo) (h : Ho m N.C D s) (h1 : 1 ≤ s.cnt) (h2 : s.cnt ≤ 12) (hl : s.sz + 8 < lid) : Wp (run S (n + 6) (N.ki + 2) [.ref D.p, w.v]) m (Tells m N.C D (s.hear w)) nox := by
  obtain ⟨ea, ka⟩ := h.kn
  obtain ⟨d, hd, hx, hi, hm⟩ := H.cls
  have e0 : evT S (run S (n + 5)) (.val (.cmp (.var 1) [.In] [(.attr (.var 0) 11)])) [some (.ref D.p), some w.v, none] m = .ok (decide (w ∈ s.known)) m := by
    refine q_val (q_cmp1 rfl (q_attr rfl h.inst rfl) ?_)
    show inV w.v (.ref D.a) m = _
    rw [in_dict_eq ka (k := w.ky) rfl (sorted_kD _ _), look_kD]
  refine wp_fn H.hear rfl (q_ite e0 ?_)
  unfold Hs.hear
  by_cases z : w ∈ s.known
  · rw [if_pos z, decide_eq_true z]
    refine s_ret (pe_list (pes_nil (wp_alloc fun q m' l k g => ?_)))
    exact tells_nil k g (h.out g) (h.le l) l.mod
  · rw [if_neg z, decide_eq_false z]
    dsimp only
    have hsl : s.sz < lid := Nat.lt_of_le_of_lt (Nat.le_add_right _ _) hl
    have hkl : s.known.length ≤ lid := Nat.le_of_lt (Nat.lt_of_le_of_lt s.kl hsl)
    refine s_asg (pe_mapf s.known Wo.v Wo.v (fun a => unlike a w) (fun m' => m' = m) (pes_cons (wp_eq (q_attr rfl h.inst rfl) (pes_nil (wp_eq (src_dict ka) ⟨kD_vals _, rfl, ?_, ?_, hkl, ?_⟩)))))
    · intro m' em; rw [em]; exact stays_d ka
    · intro a ha m' em
      rw [em]
      refine wp_rfl rfl (ifs_one (wp_eq (q_val (q_callL (vs := [a.v, w.v]) rfl (unlike_ok H _ a w m))) ⟨rfl, ?_⟩))
      cases unlike a w with
      | true => exact bif_t (wp_rfl (m' := m) (a := a.v) rfl ⟨rfl, rfl⟩)
      | false => rfl
    · intro qa m1' m1 em l1 k1 g1
      rw [em] at l1 g1
      clear em m1'
      have ha := h.le l1
      obtain ⟨ea, ka⟩ := ha.kn
      refine s_asgI (wp_rfl rfl (wp_eq (q_attr rfl ha.inst rfl) (wp_rfl rfl (w_putd ka (k := w.ky) rfl (sorted_kD _ _) (by unfold kD; rw [List.length_map]; exact Nat.lt_of_le_of_lt s.kl hsl) ?_))))
      show Wp _ (m1.set D.a (.dict (put w.ky (.bool true) (kD s.known)) (ea + 1))) _ _
      rw [put_kD, show addW w s.known = s.known ++ [w] from if_neg z]
      have hb := ha.setK (s.known ++ [w]) (ea + 1)
      have qo : qa ∉ D.all := h.out g1
      have kq := set_other (o' := .dict (kD (s.known ++ [w])) (ea + 1)) (fun e => qo (e ▸ List.mem_append_left _ (by simp [Hd.foot])) : D.a ≠ qa) k1
      have M1 : Mod D.foot m (m1.set D.a (.dict (kD (s.known ++ [w])) (ea + 1))) := l1.mod.trans (Mod.set (by simp [Hd.foot]))
      generalize hs1 : ({ s with known := s.known ++ [w] } : Hs) = s1 at hb ⊢
      have sz1 : s1.sz = s.sz + 1 := by rw [← hs1]; unfold Hs.sz; rw [List.length_append]; exact sum_1
      have cn1 : s1.cnt = s.cnt := by rw [← hs1]
      generalize hm2 : m1.set D.a (.dict (kD (s.known ++ [w])) (ea + 1)) = m2 at hb kq M1 ⊢
      have c1 := (marking_cnt s1 w).1
      have c6 := (marking_cnt s1 w).2.2.2.2.2.1
      have c7 := (marking_cnt s1 w).2.2.2.2.2.2
      refine s_ret (pe_bin (pe_bin (pe_meth (wp_rfl rfl ⟨D.p, N.C, _, d, N.ki + 3, rfl, hb.inst, hd, rfl, hm 2 (by decide), wp_rfl rfl (tells_use (marking_ok H (n + 4) w hb (Nat.lt_of_le_of_lt s1.km (by rw [sz1]; exact Nat.lt_of_le_of_lt (Nat.add_le_add_left (show 1 ≤ 8 by decide) s.sz) hl))) fun m3 q1 l3 k3 g3 o3 h3 M3 y3 => ?_)⟩))))
      refine pe_meth (wp_rfl rfl ⟨D.p, N.C, _, d, N.ki + 4, rfl, h3.inst, hd, rfl, hm 3 (by decide), wp_rfl rfl (tells_use (writing_ok (D := D.ext l3) H n w.n w.r h3 (by rw [c1, cn1]; exact h1) (by rw [c1, cn1]; exact h2) (Nat.lt_of_le_of_lt (Hs.rl _) (Nat.lt_of_le_of_lt c6 (by rw [sz1]; exact Nat.lt_of_le_of_lt (Nat.add_le_add_left (show 3 ≤ 8 by decide) s.sz) hl)))) fun m4 q2 l4 k4 g4 o4 h4 M4 y4 => ?_)⟩)
      have b5 := (writing_cnt (s1.marking w).1 w.n w.r).2.2.2.2.1
      have b6 := (writing_cnt (s1.marking w).1 w.n w.r).2.2.2.2.2
      have k34 := M4.has k3 (out_foot (D := D.ext l3) o3)
      have len2 : (s1.marking w).2.length + ((s1.marking w).1.writing w.n w.r).2.length ≤ 13 := by rw [c1, cn1] at b6; exact Nat.add_le_add c7 (Nat.le_trans b6 (toN_le h2))
      refine w_addl k34 k4 (by rw [List.length_map, List.length_map]; exact small_lid len2 (by decide)) fun q5 m5 l5 k5 g5 => ?_
      have h5 := h4.le l5
      have le23 := M3.1
      have le34 := M4.1
      have qa5 : m5[qa]? = some (.list ((s.known.filter fun a => unlike a w).map Wo.v)) := l5.has (M4.has (M3.has kq (out_foot qo)) (show qa ∉ D.foot from out_foot qo))
      have lt2 : qa < m2.length := has_lt kq
      have oa : qa ∉ ((D.ext l3).ext l4).all := fun c => by
        rcases List.mem_append.mp c with c | c
        · exact qo (List.mem_append_left _ c)
        · have c : qa ∈ (D.bs ++ l3) ++ l4 := c
          rcases List.mem_append.mp c with c | c
          · rcases List.mem_append.mp c with c | c
            · exact qo (List.mem_append_right _ c)
            · exact absurd (y3 _ c) (Nat.not_le.mpr lt2)
          · exact absurd (Nat.le_trans le23 (y4 _ c)) (Nat.not_le.mpr lt2)
      refine pe_meth (wp_rfl rfl ⟨D.p, N.C, _, d, N.ki + 5, rfl, h5.inst, hd, rfl, hm 4 (by decide), wp_rfl rfl (tells_use (naming_ok (D := (D.ext l3).ext l4) H (n + 4) w qa5 oa h5 (Nat.lt_of_le_of_lt (Hs.nl _) (Nat.lt_of_le_of_lt (Nat.le_trans b5 (Nat.succ_le_succ c6)) (by rw [sz1]; exact Nat.lt_of_le_of_lt (Nat.add_le_add_left (show 4 ≤ 8 by decide) s.sz) hl)))) fun m6 q6 l6 k6 g6 o6 h6 M6 y6 => ?_)⟩)
      have n5 := (naming_cnt ((s1.marking w).1.writing w.n w.r).1 w (s.known.filter fun a => unlike a w)).2.2.2.2
      have o5 : q5 ∉ ((D.ext l3).ext l4).all := h4.out g5
      have k56 := M6.has k5 (out_foot (D := (D.ext l3).ext l4) o5)
      refine w_addl k56 k6 (by rw [List.length_append, List.length_map, List.length_map, List.length_map]; exact small_lid (Nat.add_le_add len2 n5) (by decide)) fun q7 m7 l7 k7 g7 => ?_
      have h7 := h6.le l7
      have lm : m.length ≤ m2.length := M1.1
      have le56 := M6.1
      have le45 := l5.1
      rw [Hd.ext_ext, Hd.ext_ext] at h7
      rw [Hd.ext_ext, Hd.ext_ext] at h6
      rw [← List.append_assoc] at h6 h7
      have le2 := Nat.le_trans lm le23
      have le3 := Nat.le_trans le2 le34
      refine ⟨q7, l3 ++ l4 ++ l6, rfl, ?_, Nat.le_trans (Nat.le_trans le3 le45) (Nat.le_trans le56 g7), h6.out g7, h7, ?_, fun y hy => ?_⟩
      · rw [k7, List.map_append, List.map_append]
      · exact (M1.trans M3).trans ((M4.trans l5.mod).trans (Mod.trans M6 l7.mod))
      · rcases List.mem_append.mp hy with hy | hy
        · rcases List.mem_append.mp hy with hy | hy
          · exact Nat.le_trans lm (y3 y hy)
          · exact Nat.le_trans le2 (y4 y hy)
        · exact Nat.le_trans (Nat.le_trans le3 le45) (y6 y hy)
theorem call_ok (H : HF S N) (n : Nat) (r : Str) (h : Ho m N.C D s) (hr : rowB (.str r) = true) (hrl : r.length ≤ 64) (h1 : 1 ≤ s.cnt) (h2 : s.cnt ≤ 12) (hl : s.sz + 8 < lid) : Wp (run S (n + 7) (N.ki + 1) [.ref D.p, .str r]) m (Tells m N.C D (s.call r)) nox := by
  obtain ⟨_, gL⟩ := H.gL
  obtain ⟨_, gS⟩ := H.gS
  obtain ⟨d, hd, hx, hi, hm⟩ := H.cls
  have er := is_row_ok H.R gL gS (n + 5) (m := m) (v := .str r) (.str r hrl)
  rw [hr] at er
  refine wp_fn H.call rfl (q_ite (q_not (q_val (q_call1 rfl er))) ?_)
  show Wp _ m _ _
  refine s_asg (pe_tup (pes_cons (wp_rfl rfl (pes_cons (wp_eq (q_attr rfl h.inst rfl) (pes_cons (wp_rfl rfl (pes_cons (wp_eq (q_attr rfl h.inst rfl) (pes_nil ?_))))))))))
  refine s_asgA (wp_eq (q_bin (q_attr rfl h.inst rfl) (q_attr rfl h.inst rfl) rfl) (wp_rfl rfl ⟨D.p, N.C, _, rfl, h.inst, ?_⟩))
  have hb := h.setP (s.onw + s.cnt)
  show Wp _ (m.set D.p (.inst N.C (flds D { s with onw := s.onw + s.cnt }))) _ _
  have M1 : Mod D.foot m (m.set D.p (.inst N.C (flds D { s with onw := s.onw + s.cnt }))) := Mod.set (by simp [Hd.foot])
  generalize hm2 : m.set D.p (.inst N.C (flds D { s with onw := s.onw + s.cnt })) = m2 at hb M1 ⊢
  refine s_ret (pe_bin (pe_list (pes_cons (wp_rfl rfl (pes_nil (wp_alloc fun q0 m0 l0 k0 g0 => ?_))))))
  have h0 := hb.le l0
  refine pe_meth (wp_rfl rfl ⟨D.p, N.C, _, d, N.ki + 2, rfl, h0.inst, hd, rfl, hm 1 (by decide), wp_rfl rfl (tells_use (hear_ok H n ⟨sayS, s.onw, r, s.own⟩ h0 h1 h2 hl) fun m3 q1 l3 k3 g3 o3 h3 M3 y3 => ?_)⟩)
  have o0 : q0 ∉ D.all := hb.out g0
  have k03 := M3.has k0 (out_foot o0)
  have n5 : (Hs.hear { s with onw := s.onw + s.cnt } ⟨sayS, s.onw, r, s.own⟩).2.length ≤ s.cnt.toNat + 3 := (hear_cnt { s with onw := s.onw + s.cnt } ⟨sayS, s.onw, r, s.own⟩).2.2.2.2
  refine w_addl k03 k3 (by rw [List.length_map]; exact small_lid (Nat.add_le_add (Nat.le_refl 1) (Nat.le_trans n5 (Nat.add_le_add_right (toN_le h2) 3))) (by decide)) fun q7 m7 l7 k7 g7 => ?_
  have lm := M1.1
  have lm2 := l0.1
  have lm3 := M3.1
  refine ⟨q7, l3, rfl, k7, Nat.le_trans (Nat.le_trans lm lm2) (Nat.le_trans lm3 g7), h3.out g7, h3.le l7, ?_, fun y hy => Nat.le_trans (Nat.le_trans lm lm2) (y3 y hy)⟩
  exact (M1.trans l0.mod).trans (M3.trans l7.mod)
theorem call_no (H : HF S N) (n : Nat) {v : V} (hv : Pl m v) (hr : rowB v = false) {p : V} : Wp (run S (n + 7) (N.ki + 1) [p, v]) m (fun _ _ => False) (fun c m' => c = N.cR ∧ m' = m) := by
  obtain ⟨_, gL⟩ := H.gL
  obtain ⟨_, gS⟩ := H.gS
  have er := is_row_ok H.R gL gS (n + 5) (m := m) hv
  rw [hr] at er
  exact wp_fn H.call rfl (q_ite (q_not (q_val (q_call1 rfl er))) (s_rse ⟨rfl, rfl⟩))
end
end Mini

/-! Houses: new ones, and what they tell. -/
namespace Mini
open PySem
section
variable {S : Sig} {N : HN} {m : MH} {D : Hd} {s : Hs}
theorem fresh_set {p C : Nat} {fs : List (Nat × V)} (h : m[p]? = some (.inst C fs)) (fs' : List (Nat × V)) (o : MObj) :
    ∃ m', (m ++ [o]).set p (.inst C fs') = m' ∧ m'[p]? = some (.inst C fs') ∧ m'[m.length]? = some o ∧ (∀ q x, q ≠ p → m[q]? = some x → m'[q]? = some x) ∧ m'.length = m.length + 1 ∧ Mod [p] m m' := by
  have hlt := has_lt h
  refine ⟨_, rfl, set_has ((Le.app _ _).has h), ?_, fun q x hq k => ?_, by simp, (Le.app _ _).mod.trans (Mod.set (.head _))⟩
  · rw [List.getElem?_set_ne (by omega)]; exact new_has
  · exact set_other (fun e => hq e.symm) ((Le.app _ _).has k)
/-- a house that knows nothing -/
noncomputable def Hs.new (c o : Int) : Hs := ⟨c, o, o, [], [], [], []⟩
noncomputable def badOwn (c : Int) : V → Bool | .int o => !(decide (0 ≤ o) && decide (o < c)) | _ => true
theorem own_eq (H : HF S N) (n : Nat) {v x : V} {c : Int} (hv : Pl m v) : evT S (run S (n + 1)) (.all false [(.not (.val (.call N.kW [(.var 2)]))), (.not (.val (.cmp (.cnst (Lt.int 0)) [.LtE, .Lt] [(.var 2), (.var 1)])))]) [some x, some (.int c), some v] m = .ok (badOwn c v) m := by
  have ew : evT S (run S (n + 1)) (.not (.val (.call N.kW [(.var 2)]))) [some x, some (.int c), some v] m = .ok (!vW v) m := q_not (q_val (q_call1 rfl (whole_ok H.W n hv)))
  cases hq : vW v with
  | false =>
    rw [hq] at ew
    rw [q_all (short ew)]
    cases v <;> first | rfl | cases hq
  | true =>
    obtain ⟨o, rfl⟩ := vW_is hq
    have e2 := q_ors (S := S) (F := run S (n + 1)) (as := []) (r := [some x, some (.int c), some (.int o)]) (q_not (q_val (q_cmp2 (m := m) (a := .cnst (Lt.int 0)) (b := .var 2) (c := .var 1) (o := .LtE) (o' := .Lt) rfl rfl rfl rfl rfl))) q_end
    rw [Bool.or_false] at e2
    exact q_all (q_ors (x := false) (by rw [ew, hq]; rfl) e2)
theorem init_no1 (H : HF S N) (n : Nat) {v x : V} (hv : Pl m v) (hb : isC v = false) {p : V} : Wp (run S (n + 3) N.ki [p, v, x]) m (fun _ _ => False) (fun c m' => c = N.cC ∧ m' = m) := by
  obtain ⟨_, gM⟩ := H.gM
  have en : run S (n + 2) N.kN [v] m = .exc N.cC m := by rw [need_ok H.N_ H.W gM n hv, hb]; rfl
  refine wp_fn H.I rfl (s_exp (pe_call (wp_rfl rfl (wp_exc en ⟨rfl, rfl⟩))))
theorem init_no2 (H : HF S N) (n : Nat) {x : V} {c : Int} (h1 : 1 ≤ c) (h2 : c ≤ 12) (hx : Pl m x) (hb : badOwn c x = true) {p : V} : Wp (run S (n + 3) N.ki [p, .int c, x]) m (fun _ _ => False) (fun c m' => c = N.cH ∧ m' = m) := by
  obtain ⟨_, gM⟩ := H.gM
  have en : run S (n + 2) N.kN [.int c] m = .ok .none m := by
    rw [need_ok H.N_ H.W gM n (.int c)]
    have : isC (.int c) = true := by show (decide (1 ≤ c) && decide (c ≤ 12)) = true; rw [decide_eq_true h1, decide_eq_true h2]; rfl
    rw [this]; rfl
  refine wp_fn H.I rfl (s_exp (wp_eq (q_call1 rfl en) (q_ite (t := true) ((own_eq H (n + 1) hx).trans (by rw [hb])) (s_rse ⟨rfl, rfl⟩))))
theorem nd7 {p n : Nat} (h : p < n) : [p, n, n + 1, n + 2, n + 3, n + 4, n + 5].Nodup := by
  show (p :: List.range' n 6).Nodup
  exact List.nodup_cons.mpr ⟨fun q => absurd (List.mem_range'_1.mp q).1 (Nat.not_le.mpr h), List.nodup_range'⟩
theorem mem7 {p n y : Nat} (hy : y ∈ [p, n, n + 1, n + 2, n + 3, n + 4, n + 5]) : y = p ∨ n ≤ y := by
  have hy : y ∈ p :: List.range' n 6 := hy
  rcases List.mem_cons.mp hy with e | e
  · exact .inl e
  · exact .inr (List.mem_range'_1.mp e).1
/-- a field takes a new thing -/
theorem new_step {F : Fns} {r : Lo} {E : Nat → MH → Prop} {Q : Fl × Lo → MH → Prop} {ss : List CS} {p C k n : Nat} {fs : List (Nat × V)} {o : MObj} {e : CE} (he : ev S F e r m = .ok (.ref m.length) (m ++ [o])) (hv : ev S F (.var 0) r (m ++ [o]) = .ok (.ref p) (m ++ [o])) (h : m[p]? = some (.inst C fs)) (hn : m.length = n)
    (q : ∀ m', m'[p]? = some (.inst C (fput k (.ref n) fs)) → m'[n]? = some o → (∀ q x, q ≠ p → m[q]? = some x → m'[q]? = some x) → m'.length = n + 1 → Mod [p] m m' → Wp (exs S F ss r) m' Q E) : Wp (exs S F (.asg (.attr (.var 0) k) e :: ss) r) m Q E := by
  subst hn
  obtain ⟨a1, e1, i1, n1, f1, L1, M1⟩ := fresh_set h (fput k (.ref m.length) fs) o
  refine s_asgA (wp_eq he (wp_eq hv ⟨p, C, fs, rfl, (Le.app _ _).has h, ?_⟩))
  rw [e1]
  exact q a1 i1 n1 f1 L1 M1
theorem init_ok (H : HF S N) (n : Nat) {c o : Int} {p : Nat} (h1 : 1 ≤ c) (h2 : c ≤ 12) (h3 : 0 ≤ o) (h4 : o < c) (hp : m[p]? = some (.inst N.C [])) : Wp (run S (n + 3) N.ki [.ref p, .int c, .int o]) m (fun u m' => u = .none ∧ ∃ D, D.p = p ∧ Ho m' N.C D (Hs.new c o) ∧ Mod [p] m m' ∧ ∀ y ∈ D.all, y = p ∨ m.length ≤ y) nox := by
  obtain ⟨_, gM⟩ := H.gM
  have en : run S (n + 2) N.kN [.int c] m = .ok .none m := by
    rw [need_ok H.N_ H.W gM n (.int c)]
    have : isC (.int c) = true := by show (decide (1 ≤ c) && decide (c ≤ 12)) = true; rw [decide_eq_true h1, decide_eq_true h2]; rfl
    rw [this]; rfl
  have hb : badOwn c (.int o) = false := by show (!(decide (0 ≤ o) && decide (o < c))) = false; rw [decide_eq_true h3, decide_eq_true h4]; rfl
  have hlt := has_lt hp
  refine wp_fn H.I rfl (s_exp (wp_eq (q_call1 rfl en) (q_ite (t := false) ((own_eq H (n + 1) (.int o)).trans (by rw [hb])) ?_)))
  clear hb en h1 h2 h3 h4
  refine s_asgA (wp_rfl rfl (wp_rfl rfl ⟨p, N.C, [], rfl, hp, ?_⟩))
  have k1 := set_has (o' := .inst N.C (fput 8 (.int c) [])) hp
  refine s_asgA (wp_rfl rfl (wp_rfl rfl ⟨p, N.C, _, rfl, k1, ?_⟩))
  have k2 := set_has (o' := .inst N.C (fput 9 (.int o) (fput 8 (.int c) []))) k1
  refine s_asgA (wp_rfl rfl (wp_rfl rfl ⟨p, N.C, _, rfl, k2, ?_⟩))
  have k3 := set_has (o' := .inst N.C (fput 10 (.int o) (fput 9 (.int o) (fput 8 (.int c) [])))) k2
  have M0 : Mod [p] m (((m.set p (.inst N.C (fput 8 (.int c) []))).set p (.inst N.C (fput 9 (.int o) (fput 8 (.int c) [])))).set p (.inst N.C (fput 10 (.int o) (fput 9 (.int o) (fput 8 (.int c) []))))) :=
    ((Mod.set (.head _)).trans (Mod.set (.head _))).trans (Mod.set (.head _))
  have L0 : (((m.set p (.inst N.C (fput 8 (.int c) []))).set p (.inst N.C (fput 9 (.int o) (fput 8 (.int c) [])))).set p (.inst N.C (fput 10 (.int o) (fput 9 (.int o) (fput 8 (.int c) []))))).length = m.length := by simp
  clear k1 k2
  generalize ((m.set p (.inst N.C (fput 8 (.int c) []))).set p (.inst N.C (fput 9 (.int o) (fput 8 (.int c) [])))).set p (.inst N.C (fput 10 (.int o) (fput 9 (.int o) (fput 8 (.int c) [])))) = a0 at k3 M0 L0 ⊢
  refine new_step rfl rfl k3 L0 fun a1 i1 n1 f1 L1 M1 => ?_
  refine new_step rfl rfl i1 L1 fun a2 i2 n2 f2 L2 M2 => ?_
  refine new_step rfl rfl i2 L2 fun a3 i3 n3 f3 L3 M3 => ?_
  refine new_step rfl rfl i3 L3 fun a4 i4 n4 f4 L4 M4 => ?_
  refine new_step rfl rfl i4 L4 fun a5 i5 n5 f5 L5 M5 => ?_
  refine new_step rfl rfl i5 L5 fun a6 i6 n6 f6 L6 M6 => ?_
  have g : ∀ k, m.length + k ≠ p := fun k e => absurd hlt (by rw [← e]; exact Nat.not_lt.mpr (Nat.le_add_right _ _))
  refine s_nil ⟨rfl, ⟨p, m.length, m.length + 1, m.length + 2, m.length + 3, m.length + 4, m.length + 5, []⟩, rfl, ⟨i6, ⟨0, ?_⟩, ⟨0, ?_⟩, ⟨0, ?_⟩, ⟨0, ?_⟩, ?_, ⟨0, n6⟩, fun i x e => ?_, rfl, nd7 hlt⟩, ?_, fun y hy => mem7 hy⟩
  · exact f6 _ _ (g 0) (f5 _ _ (g 0) (f4 _ _ (g 0) (f3 _ _ (g 0) (f2 _ _ (g 0) n1))))
  · exact f6 _ _ (g 1) (f5 _ _ (g 1) (f4 _ _ (g 1) (f3 _ _ (g 1) n2)))
  · exact f6 _ _ (g 2) (f5 _ _ (g 2) (f4 _ _ (g 2) n3))
  · exact f6 _ _ (g 3) (f5 _ _ (g 3) n4)
  · exact f6 _ _ (g 4) n5
  · cases e
  · exact ((M0.trans M1).trans (M2.trans M3)).trans ((M4.trans M5).trans M6)
/-- a new house, as an expression -/
theorem caught_ok (H : HF S N) (n : Nat) (h : Ho m N.C D s) : run S (n + 1) (N.ki + 8) [.ref D.p] m = .ok (.ref m.length) (m ++ [.list (namL s.named)]) := by
  rw [run_fn H.caught rfl]
  show Res.bind (Res.bind (Res.bind (Res.bind (Res.bind (ev S (run S n) (.attr (.var 0) 15) [some (.ref D.p)] m) _) _) _) _) _ = _
  rw [q_attr (k := 15) (v := .ref D.e) rfl h.inst rfl]
  show Res.bind (Res.bind (Res.bind (biV .list [.ref D.e] m) _) _) _ = _
  have : biV .list [.ref D.e] m = .ok (.ref m.length) (m ++ [.list (namL s.named)]) := by
    unfold biV; dsimp only; rw [h.na]; rfl
  rw [this]; rfl
/-- the ledger, as told -/
noncomputable def rowOf (l : List (Int × Str × List Wo)) (k : Int) : Str := match l.find? (fun x => x.1 == k) with
  | some x => x.2.1
  | none => Str.empty
noncomputable def ledD (l : List (Int × Str × List Wo)) : List (Ky × V) := (sortI (l.map (·.1))).foldl (fun d i => put (.int i) (.str (rowOf l i)) d) []
theorem keys_tD {α : Type} (g : α → Int) (f : α → V) : ∀ l : List α, isKeyI (tD g f l) = some (l.map g)
  | [] => rfl
  | a :: l => by
    show (isKeyI (tD g f l)).map _ = _
    rw [keys_tD g f l]; rfl
theorem mem_insI {i j : Int} : ∀ {l : List Int}, j ∈ insI i l ↔ j = i ∨ j ∈ l
  | [] => by simp [insI]
  | a :: l => by
    unfold insI
    split
    · simp
    · rw [List.mem_cons, mem_insI, List.mem_cons]; exact ⟨fun h => by rcases h with h | h | h <;> simp [h], fun h => by rcases h with h | h | h <;> simp [h]⟩
theorem mem_sortI {j : Int} : ∀ {l : List Int}, j ∈ sortI l ↔ j ∈ l
  | [] => Iff.rfl
  | a :: l => by
    show j ∈ insI a (sortI l) ↔ _
    rw [mem_insI, mem_sortI, List.mem_cons]
theorem insI_len (i : Int) : ∀ l : List Int, (insI i l).length = l.length + 1
  | [] => rfl
  | a :: l => by
    unfold insI
    split
    · rfl
    · rw [List.length_cons, insI_len, List.length_cons]
theorem sortI_len : ∀ l : List Int, (sortI l).length = l.length
  | [] => rfl
  | a :: l => by
    show (insI a (sortI l)).length = _
    rw [insI_len, sortI_len, List.length_cons]
theorem put_sorted {k j : Int} {v : V} {d : List (Ky × V)} (h : sorted1 (.int k) d = true) : sorted1 (.int k) (put (.int j) v d) = true := by
  induction d with
  | nil => rfl
  | cons a d ih =>
    obtain ⟨b, x⟩ := a
    unfold sorted1 at h ih ⊢
    rw [List.all_cons, Bool.and_eq_true] at h
    show (if b = Ky.int j then (b, v) :: d else (b, x) :: put (.int j) v d).all _ = true
    split
    · rw [List.all_cons, h.1, h.2]; rfl
    · rw [List.all_cons, ih h.2, h.1]; rfl
theorem put_len {k : Ky} {v : V} : ∀ d : List (Ky × V), (put k v d).length ≤ d.length + 1
  | [] => Nat.le_refl _
  | (b, x) :: d => by
    show (if b = k then (b, v) :: d else (b, x) :: put k v d).length ≤ _
    split
    · exact Nat.le_succ _
    · exact Nat.succ_le_succ (put_len (k := k) (v := v) d)
theorem led_use {x : Mn V} {kvs : List (Ky × V)} {Q : V → MH → Prop} {E : Nat → MH → Prop} (h : Wp x m (fun u m' => ∃ q e, u = .ref q ∧ m'[q]? = some (.dict kvs e) ∧ m.length ≤ q ∧ Le m m') nox) (k : ∀ m' q e, m'[q]? = some (.dict kvs e) → m.length ≤ q → Le m m' → Q (.ref q) m') : Wp x m Q E :=
  wp_use h fun _ m' ⟨q, e, e0, k1, k2, k3⟩ => e0 ▸ k m' q e k1 k2 k3
/-- between the turns of the ledger's loop -/
inductive LInv (C : Nat) (D : Hd) (s : Hs) (m m0 : MH) (zs : List Int) (r : Lo) (m' : MH) : Prop
  | mk (a : List Int) (e : Nat) (x : Option V) (er : r = [some (.ref D.p), some (.ref m.length), x]) (e1 : sortI (s.rows.map (·.1)) = a ++ zs) (ka : m'[m.length]? = some (.dict (a.foldl (fun d i => put (.int i) (.str (rowOf s.rows i)) d) []) e)) (kb : m'[m0.length]? = some (.list ((sortI (s.rows.map (·.1))).map V.int))) (hh : Ho m' C D s) (ll : Le m m') (hq : sorted1 (.int 0) (a.foldl (fun d i => put (.int i) (.str (rowOf s.rows i)) d) []) = true) (hz : (a.foldl (fun d i => put (.int i) (.str (rowOf s.rows i)) d) []).length ≤ a.length)
theorem ledger_ok (H : HF S N) (n : Nat) (h : Ho m N.C D s) (hl : s.rows.length < 64) : Wp (run S (n + 1) (N.ki + 6) [.ref D.p]) m (fun u m' => ∃ q e, u = .ref q ∧ m'[q]? = some (.dict (ledD s.rows) e) ∧ m.length ≤ q ∧ Le m m') nox := by
  refine wp_fn H.ledger rfl (s_asg (wp_eq (a := .ref m.length) (m' := m ++ [.dict [] 0]) rfl ?_))
  have l0 : Le m (m ++ [.dict [] 0]) := .app _ _
  have k0 : (m ++ [.dict [] 0])[m.length]? = some (.dict [] 0) := new_has
  generalize m ++ [MObj.dict [] 0] = m0 at l0 k0 ⊢
  have h0 := h.le l0
  obtain ⟨ec, kc⟩ := h0.ro
  have hs : biV .sorted [.ref D.c] m0 = .ok (.ref m0.length) (m0 ++ [.list ((sortI (s.rows.map (·.1))).map V.int)]) := by
    unfold biV; dsimp only; rw [kc]; dsimp only
    unfold rowD
    rw [keys_tD]; dsimp only
    rw [if_pos (by rw [List.length_map]; exact hl)]; rfl
  have k1 : (m0 ++ [MObj.list ((sortI (s.rows.map (·.1))).map V.int)])[m0.length]? = some (.list ((sortI (s.rows.map (·.1))).map V.int)) := new_has
  have l1 : Le m0 (m0 ++ [.list ((sortI (s.rows.map (·.1))).map V.int)]) := .app _ _
  have g1 : m0.length < (m0 ++ [MObj.list ((sortI (s.rows.map (·.1))).map V.int)]).length := by simp
  generalize (m0 ++ [MObj.list ((sortI (s.rows.map (·.1))).map V.int)]) = m1 at k1 l1 g1 hs
  have lt0 := has_lt k0
  have ht : ∀ i ∈ sortI (s.rows.map (·.1)), look (.int i) (rowD s.rows) = some (.str (rowOf s.rows i)) := fun i hi => by
    have hi := mem_sortI.mp hi
    obtain ⟨x, hx, e⟩ := List.mem_map.mp hi
    unfold rowD
    rw [look_tD]
    unfold rowOf
    cases q : s.rows.find? fun x => x.1 == i with
    | none => exact absurd (List.find?_eq_none.mp q x hx) (by simp [e])
    | some y => rfl
  refine s_forz (sortI (s.rows.map (·.1))) V.int (LInv N.C D s m m0) (pes_cons (pe_bi (pes_cons (wp_eq (q_attr rfl h0.inst rfl) (pes_nil (wp_eq hs (pes_nil (w_srcl k1 ⟨rfl, ⟨[], 0, none, rfl, rfl, l1.has k0, k1, h0.le l1, l0.trans l1, rfl, Nat.le_refl _⟩, ?_, ?_, ?_⟩))))))))
  · rintro zs r m' ⟨a, e, x, rfl, e1, ka, kb, hh, ll, hq, hz⟩
    exact stays_l kb
  · rintro z zs r m' ⟨a, e, x, rfl, e1, ka, kb, hh, ll, hq, hz⟩
    obtain ⟨e2, k2⟩ := hh.ro
    have hm : z ∈ sortI (s.rows.map (·.1)) := by rw [e1]; simp
    have al : a.length < 64 := by
      have := congrArg List.length e1
      rw [sortI_len, List.length_map, List.length_append] at this
      exact Nat.lt_of_le_of_lt (Nat.le_trans (Nat.le_add_right _ _) (Nat.le_of_eq this.symm)) hl
    have np : m.length ∉ D.all := h.out (Nat.le_refl _)
    refine wp_rfl rfl (s_asgI (wp_eq (q_idx (q_attr rfl hh.inst rfl) rfl (idx_dict_eq k2 rfl (sorted_tD _ _ _ _) (ht z hm))) (wp_rfl rfl (wp_rfl rfl (w_putd ka rfl hq (Nat.lt_of_le_of_lt hz (Nat.lt_of_lt_of_le al (by decide))) (s_nil ?_))))))
    refine ⟨a ++ [z], e + 1, some (.int z), rfl, by rw [e1, List.append_assoc]; rfl, ?_, set_other (Nat.ne_of_lt lt0) kb, hh.mod (T := [m.length]) (Mod.set (.head _)) fun y hy hy' => ?_, ?_, ?_, ?_⟩
    · rw [List.foldl_append]; exact set_has ka
    · rw [List.mem_singleton.mp hy'] at hy; exact np hy
    · exact ll.set (Nat.le_refl _) _
    · rw [List.foldl_append]; exact put_sorted hq
    · rw [List.foldl_append, List.length_append]
      have := put_len (k := .int z) (v := .str (rowOf s.rows z)) (a.foldl (fun d i => put (.int i) (.str (rowOf s.rows i)) d) [])
      exact Nat.le_trans this (Nat.succ_le_succ hz)
  · rintro r m' ⟨a, e, x, rfl, e1, ka, kb, hh, ll, hq, hz⟩
    rw [List.append_nil] at e1
    refine s_ret (wp_rfl rfl ⟨m.length, e, rfl, ?_, Nat.le_refl _, ll⟩)
    unfold ledD; rw [e1]; exact ka
end
end Mini

namespace C07
open PySem Mini
noncomputable def f_is_whole : List CS := [
  (.ret (.boolop true [(.isi (.var 0) .int), (.not (.isi (.var 0) .bool))]))]
noncomputable def f_need_count : List CS := [
  (.ite (.all false [(.not (.val (.call 0 [(.var 0)]))), (.not (.val (.cmp (.cnst (Lt.int 1)) [.LtE, .LtE] [(.var 0), (.glob 0)])))]) [
    (.rse 2 (Str.ofString "a town has 1 to 12 houses"))] [])]
noncomputable def f_most_liars : List CS := [
  (.exp (.call 1 [(.var 0)])),
  (.ret (.bin .FloorDiv (.bin .Sub (.var 0) (.cnst (Lt.int 1))) (.cnst (Lt.int 3))))]
noncomputable def f_enough : List CS := [
  (.exp (.call 1 [(.var 0)])),
  (.ret (.bin .Add (.bin .FloorDiv (.bin .Add (.var 0) (.call 2 [(.var 0)])) (.cnst (Lt.int 2))) (.cnst (Lt.int 1))))]
noncomputable def f_is_row : List CS := [
  (.ite (.all false [(.not (.val (.isi (.var 0) .str))), (.not (.val (.cmp (.cnst (Lt.int 1)) [.LtE, .LtE] [(.bi .len [(.var 0)]), (.glob 2)])))]) [
    (.ret (.cnst (Lt.bool false)))] []),
  (.for_ .expr (.one 1) [(.var 0)] [
    (.ite (.val (.cmp (.var 1) [.NotIn] [(.glob 1)])) [
      (.ret (.cnst (Lt.bool false)))] [])]),
  (.ret (.cnst (Lt.bool true)))]
noncomputable def f_are_unlike : List CS := [
  (.ret (.boolop true [(.cmp (.idx (.var 0) (.cnst (Lt.int 3))) [.Eq] [(.idx (.var 1) (.cnst (Lt.int 3)))]), (.cmp (.idx (.var 0) (.cnst (Lt.int 0))) [.Eq] [(.idx (.var 1) (.cnst (Lt.int 0)))]), (.cmp (.idx (.var 0) (.cnst (Lt.int 1))) [.Eq] [(.idx (.var 1) (.cnst (Lt.int 1)))]), (.cmp (.idx (.var 0) (.cnst (Lt.int 2))) [.NotEq] [(.idx (.var 1) (.cnst (Lt.int 2)))])]))]
noncomputable def f_house_init : List CS := [
  (.exp (.call 1 [(.var 1)])),
  (.ite (.all false [(.not (.val (.call 0 [(.var 2)]))), (.not (.val (.cmp (.cnst (Lt.int 0)) [.LtE, .Lt] [(.var 2), (.var 1)])))]) [
    (.rse 3 (Str.ofString "no house of the town"))] []),
  (.asg (.attr (.var 0) 8) (.var 1)),
  (.asg (.attr (.var 0) 9) (.var 2)),
  (.asg (.attr (.var 0) 10) (.var 2)),
  (.asg (.attr (.var 0) 11) (.dict [] [])),
  (.asg (.attr (.var 0) 12) (.dict [] [])),
  (.asg (.attr (.var 0) 13) (.dict [] [])),
  (.asg (.attr (.var 0) 14) (.dict [] [])),
  (.asg (.attr (.var 0) 15) (.list [])),
  (.asg (.attr (.var 0) 16) (.dict [] []))]
noncomputable def f_house_call : List CS := [
  (.ite (.not (.val (.call 4 [(.var 1)]))) [
    (.rse 4 (Str.ofString "no row"))] []),
  (.asg (.one (.one 2)) (.tup [(.cnst (Lt.str (Str.ofString "say"))), (.attr (.var 0) 10), (.var 1), (.attr (.var 0) 9)])),
  (.asg (.attr (.var 0) 10) (.bin .Add (.attr (.var 0) 10) (.attr (.var 0) 8))),
  (.ret (.bin .Add (.list [(.var 2)]) (.meth (.var 0) 1 [(.var 2)])))]
noncomputable def f_house_hear : List CS := [
  (.ite (.val (.cmp (.var 1) [.In] [(.attr (.var 0) 11)])) [
    (.ret (.list []))] []),
  (.asg (.one (.one 2)) (.comp (.var 3) (.one 3) 1 .expr [(.attr (.var 0) 11)] [(.val (.call 5 [(.var 3), (.var 1)]))])),
  (.asg (.idx (.attr (.var 0) 11) (.var 1)) (.cnst (Lt.bool true))),
  (.ret (.bin .Add (.bin .Add (.meth (.var 0) 2 [(.var 1)]) (.meth (.var 0) 3 [(.idx (.var 1) (.cnst (Lt.int 1))), (.idx (.var 1) (.cnst (Lt.int 2)))])) (.meth (.var 0) 4 [(.var 1), (.var 2)])))]
noncomputable def f_house_marking : List CS := [
  (.ite (.all false [(.val (.cmp (.idx (.var 1) (.cnst (Lt.int 0))) [.NotEq] [(.cnst (Lt.str (Str.ofString "say")))])), (.val (.cmp (.idx (.var 1) (.cnst (Lt.int 1))) [.In] [(.attr (.var 0) 12)]))]) [
    (.ret (.list []))] []),
  (.asg (.one (.one 2)) (.tup [(.cnst (Lt.str (Str.ofString "mark"))), (.idx (.var 1) (.cnst (Lt.int 1))), (.idx (.var 1) (.cnst (Lt.int 2))), (.attr (.var 0) 9)])),
  (.asg (.idx (.attr (.var 0) 12) (.idx (.var 1) (.cnst (Lt.int 1)))) (.cnst (Lt.bool true))),
  (.asg (.idx (.attr (.var 0) 11) (.var 2)) (.cnst (Lt.bool true))),
  (.ret (.list [(.var 2)]))]
noncomputable def f_house_writing : List CS := [
  (.asg (.one (.one 3)) (.comp (.tup [(.cnst (Lt.str (Str.ofString "mark"))), (.var 1), (.var 2), (.var 4)]) (.one 4) 1 .range [(.attr (.var 0) 8)] [])),
  (.asg (.one (.one 3)) (.comp (.var 4) (.one 4) 1 .expr [(.var 3)] [(.val (.cmp (.var 4) [.In] [(.attr (.var 0) 11)]))])),
  (.ite (.all false [(.val (.cmp (.bi .len [(.var 3)]) [.Lt] [(.call 3 [(.attr (.var 0) 8)])])), (.val (.cmp (.var 1) [.In] [(.attr (.var 0) 13)]))]) [
    (.ret (.list []))] []),
  (.asg (.idx (.attr (.var 0) 13) (.var 1)) (.var 2)),
  (.asg (.idx (.attr (.var 0) 14) (.var 1)) (.var 3)),
  (.ret (.bi .list [(.var 3)]))]
noncomputable def f_house_naming : List CS := [
  (.ite (.all false [(.val (.cmp (.var 2) [.Eq] [(.list [])])), (.val (.cmp (.idx (.var 1) (.cnst (Lt.int 3))) [.In] [(.attr (.var 0) 16)]))]) [
    (.ret (.list []))] []),
  (.asg (.idx (.attr (.var 0) 16) (.idx (.var 1) (.cnst (Lt.int 3)))) (.cnst (Lt.bool true))),
  (.exp (.smeth (.attr (.var 0) 15) .append [(.tup [(.idx (.var 1) (.cnst (Lt.int 3))), (.idx (.var 2) (.cnst (Lt.int 0))), (.var 1)])])),
  (.ret (.list [(.idx (.var 2) (.cnst (Lt.int 0))), (.var 1)]))]
noncomputable def f_house_ledger : List CS := [
  (.asg (.one (.one 1)) (.dict [] [])),
  (.for_ .expr (.one 2) [(.bi .sorted [(.attr (.var 0) 13)])] [
    (.asg (.idx (.var 1) (.var 2)) (.idx (.attr (.var 0) 13) (.var 2)))]),
  (.ret (.var 1))]
noncomputable def f_house_backing : List CS := [
  (.ite (.all false [(.not (.val (.call 0 [(.var 1)]))), (.val (.cmp (.var 1) [.NotIn] [(.attr (.var 0) 13)]))]) [
    (.rse 8 (Str.ofString "nothing is written there"))] []),
  (.ret (.bi .list [(.idx (.attr (.var 0) 14) (.var 1))]))]
noncomputable def f_house_caught : List CS := [
  (.ret (.bi .list [(.attr (.var 0) 15)]))]
noncomputable def f_law_at : List CS := [
  (.ite (.val (.cmp (.var 1) [.Lt] [(.bi .len [(.var 0)])])) [
    (.ret (.idx (.var 0) (.var 1)))] []),
  (.ret (.cnst (Lt.int 0)))]
noncomputable def f_law_sign : List CS := [
  (.asg (.one (.one 1)) (.cnst (Lt.str (Str.ofString " !\"#$&'()*+,-./0123456789:;<=>?@ABCDEFGHIJKLMNOPQRSTUVWXYZ[\\]^_`{|}~\n\t")))),
  (.ret (.idx (.var 1) (.bin .Mod (.var 0) (.bi .len [(.var 1)]))))]
noncomputable def f_law_row : List CS := [
  (.asg (.one (.one 2)) (.cnst (Lt.str (Str.ofString "abcdefghijklmnopqrstuvwxyz")))),
  (.asg (.one (.one 3)) (.bin .Add (.var 0) (.bin .Mult (.bin .Mult (.cnst (Lt.int 31)) (.var 1)) (.bin .Mod (.var 0) (.cnst (Lt.int 2)))))),
  (.asg (.one (.one 4)) (.bin .Mod (.bin .FloorDiv (.var 3) (.cnst (Lt.int 26))) (.cnst (Lt.int 8)))),
  (.asg (.one (.one 5)) (.smeth (.cnst (Lt.str (Str.ofString ""))) .join [(.comp (.idx (.var 2) (.bin .Mod (.bin .Add (.var 3) (.bin .Mult (.bin .Mult (.cnst (Lt.int 5)) (.var 7)) (.bin .Add (.cnst (Lt.int 1)) (.bin .Mod (.var 3) (.cnst (Lt.int 3)))))) (.cnst (Lt.int 26)))) (.one 7) 1 .range [(.var 4)] [])])),
  (.asg (.one (.one 6)) (.var 4)),
  (.ite (.val (.cmp (.bin .Mod (.var 0) (.cnst (Lt.int 2))) [.Eq] [(.cnst (Lt.int 0))])) [
    (.asg (.one (.one 6)) (.bin .Mod (.bin .FloorDiv (.var 0) (.cnst (Lt.int 4))) (.bin .Add (.var 4) (.cnst (Lt.int 1)))))] []),
  (.ite (.val (.cmp (.bin .Mod (.var 0) (.cnst (Lt.int 9))) [.Eq] [(.cnst (Lt.int 4))])) [
    (.ret (.idx (.list [(.cnst (Lt.str (Str.ofString "say"))), (.cnst (Lt.str (Str.ofString "mark"))), (.cnst (Lt.str (Str.ofString "by"))), (.cnst (Lt.str (Str.ofString "house")))]) (.bin .Mod (.var 1) (.cnst (Lt.int 4)))))] []),
  (.ret (.bin .Add (.bin .Add (.slice (.var 5) (.cnst Lt.none) (.var 6) (.cnst Lt.none)) (.idx (.cnst (Lt.str (Str.ofString "kqxz"))) (.bin .Mod (.var 1) (.cnst (Lt.int 4))))) (.slice (.var 5) (.var 6) (.cnst Lt.none) (.cnst Lt.none))))]
noncomputable def f_law_kind : List CS := [
  (.asg (.one (.one 1)) (.list [(.cnst (Lt.str (Str.ofString "count"))), (.cnst (Lt.str (Str.ofString "house"))), (.cnst (Lt.str (Str.ofString "row"))), (.cnst (Lt.str (Str.ofString "word"))), (.cnst (Lt.str (Str.ofString "forged"))), (.cnst (Lt.str (Str.ofString "letter"))), (.cnst (Lt.str (Str.ofString "written"))), (.cnst (Lt.str (Str.ofString "text")))])),
  (.asg (.one (.one 2)) (.list [(.isi (.var 0) (.cls 2)), (.isi (.var 0) (.cls 3)), (.isi (.var 0) (.cls 4))])),
  (.asg (.one (.one 2)) (.bin .Add (.var 2) (.list [(.isi (.var 0) (.cls 5)), (.isi (.var 0) (.cls 6)), (.isi (.var 0) (.cls 7))]))),
  (.asg (.one (.one 2)) (.bin .Add (.var 2) (.list [(.isi (.var 0) (.cls 8)), (.isi (.var 0) (.cls 9))]))),
  (.ite (.all false [(.val (.cmp (.smeth (.var 2) .count [(.cnst (Lt.bool true))]) [.NotEq] [(.cnst (Lt.int 1))])), (.not (.val (.isi (.var 0) (.cls 0))))]) [
    (.ret (.tup [(.cnst (Lt.str (Str.ofString "other")))]))] []),
  (.ret (.tup [(.idx (.var 1) (.smeth (.var 2) .index [(.cnst (Lt.bool true))]))]))]
noncomputable def f_law_made : List CS := [
  (.try_ [
    (.exp (.new 10 [(.var 0), (.var 1)]))] 1 (some 2) (.call 18 [(.var 2)])),
  (.ret (.tup []))]
noncomputable def f_law_asked : List CS := [
  (.try_ [
    (.ite (.val (.cmp (.var 1) [.Eq] [(.cnst (Lt.int 0))])) [
      (.exp (.meth (.var 0) 0 [(.var 2)]))] [
      (.exp (.meth (.var 0) 6 [(.var 2)]))])] 1 (some 3) (.call 18 [(.var 3)])),
  (.ret (.tup []))]
noncomputable def f_law : List CS := [
  (.asg (.one (.one 1)) (.bi .abs [(.call 15 [(.var 0), (.cnst (Lt.int 0))])])),
  (.asg (.one (.one 2)) (.bin .Add (.cnst (Lt.int 1)) (.bin .Mod (.var 1) (.cnst (Lt.int 12))))),
  (.asg (.one (.one 3)) (.idx (.list [(.neg (.cnst (Lt.int 1))), (.var 2), (.cnst (Lt.bool true)), (.cnst (Lt.bool false)), (.cnst Lt.none), (.cnst (Lt.str (Str.ofString "0"))), (.list [(.cnst (Lt.int 0))]), (.dict [] []), (.bin .Add (.cnst (Lt.int 13)) (.var 1))]) (.bin .Mod (.bin .FloorDiv (.var 1) (.cnst (Lt.int 12))) (.cnst (Lt.int 9))))),
  (.asg (.one (.one 4)) (.idx (.list [(.cnst (Lt.int 0)), (.cnst (Lt.int 13)), (.cnst (Lt.bool true)), (.cnst (Lt.bool false)), (.cnst Lt.none), (.cnst (Lt.str (Str.ofString "3"))), (.list [(.cnst (Lt.int 3))]), (.bin .Sub (.neg (.cnst (Lt.int 1))) (.bi .abs [(.var 1)])), (.bin .Add (.cnst (Lt.int 13)) (.bi .abs [(.var 1)]))]) (.bin .Mod (.bin .FloorDiv (.var 1) (.cnst (Lt.int 108))) (.cnst (Lt.int 9))))),
  (.ite (.all false [(.val (.cmp (.call 19 [(.var 4), (.var 3)]) [.NotEq] [(.tup [(.cnst (Lt.str (Str.ofString "count")))])])), (.val (.cmp (.call 19 [(.var 4), (.cnst (Lt.int 0))]) [.NotEq] [(.tup [(.cnst (Lt.str (Str.ofString "count")))])]))]) [
    (.ret (.cnst (Lt.bool false)))] []),
  (.ite (.all false [(.val (.cmp (.call 19 [(.var 2), (.bin .Mod (.bin .FloorDiv (.var 1) (.cnst (Lt.int 7))) (.var 2))]) [.NotEq] [(.tup [])])), (.val (.cmp (.call 19 [(.var 2), (.var 3)]) [.NotEq] [(.tup [(.cnst (Lt.str (Str.ofString "house")))])]))]) [
    (.ret (.cnst (Lt.bool false)))] []),
  (.asg (.one (.one 5)) (.new 10 [(.cnst (Lt.int 4)), (.cnst (Lt.int 1))])),
  (.asg (.one (.one 6)) (.bin .Mod (.call 15 [(.var 0), (.cnst (Lt.int 1))]) (.cnst (Lt.int 100003)))),
  (.for_ .expr (.one 7) [(.slice (.var 0) (.cnst (Lt.int 3)) (.cnst (Lt.int 9)) (.cnst Lt.none))] [
    (.exp (.meth (.var 5) 1 [(.tup [(.cnst (Lt.str (Str.ofString "mark"))), (.bin .Mod (.var 7) (.cnst (Lt.int 2))), (.call 17 [(.var 6), (.bin .Mod (.bin .FloorDiv (.var 7) (.cnst (Lt.int 2))) (.cnst (Lt.int 2)))]), (.idx (.list [(.cnst (Lt.int 0)), (.cnst (Lt.int 2)), (.cnst (Lt.int 3))]) (.bin .Mod (.bin .FloorDiv (.var 7) (.cnst (Lt.int 4))) (.cnst (Lt.int 3))))])]))]),
  (.asg (.one (.one 8)) (.list [(.meth (.var 5) 5 []), (.meth (.var 5) 7 [])])),
  (.asg (.one (.one 7)) (.call 15 [(.var 0), (.cnst (Lt.int 2))])),
  (.asg (.one (.one 9)) (.call 17 [(.var 6), (.cnst (Lt.int 0))])),
  (.asg (.one (.one 10)) (.bin .Mod (.bin .FloorDiv (.var 7) (.cnst (Lt.int 9))) (.bin .Add (.bi .len [(.var 9)]) (.cnst (Lt.int 1))))),
  (.asg (.one (.one 9)) (.idx (.list [(.bin .Add (.bin .Add (.slice (.var 9) (.cnst Lt.none) (.var 10) (.cnst Lt.none)) (.call 16 [(.bin .FloorDiv (.var 7) (.cnst (Lt.int 81)))])) (.slice (.var 9) (.var 10) (.cnst Lt.none) (.cnst Lt.none))), (.cnst (Lt.str (Str.ofString ""))), (.cnst (Lt.str (Str.ofString "abcdefghi"))), (.cnst Lt.none), (.cnst (Lt.int 5)), (.list [(.var 9)]), (.cnst (Lt.bool true)), (.dict [] []), (.tup [(.cnst (Lt.str (Str.ofString "a")))])]) (.bin .Mod (.var 7) (.cnst (Lt.int 9))))),
  (.asg (.one (.one 11)) (.idx (.list [(.bin .Add (.cnst (Lt.int 2)) (.bin .Mod (.bin .FloorDiv (.var 7) (.cnst (Lt.int 9))) (.cnst (Lt.int 9)))), (.neg (.cnst (Lt.int 1))), (.cnst (Lt.bool true)), (.cnst (Lt.bool false)), (.cnst Lt.none), (.cnst (Lt.str (Str.ofString "0"))), (.list [(.cnst (Lt.int 0))]), (.dict [] []), (.cnst (Lt.int 10000))]) (.bin .Mod (.var 7) (.cnst (Lt.int 9))))),
  (.ite (.all false [(.val (.cmp (.call 20 [(.var 5), (.cnst (Lt.int 0)), (.var 9)]) [.NotEq] [(.tup [(.cnst (Lt.str (Str.ofString "row")))])])), (.val (.cmp (.call 20 [(.var 5), (.cnst (Lt.int 1)), (.var 11)]) [.NotEq] [(.tup [(.cnst (Lt.str (Str.ofString "written")))])]))]) [
    (.ret (.cnst (Lt.bool false)))] []),
  (.ite (.val (.cmp (.list [(.meth (.var 5) 5 []), (.meth (.var 5) 7 [])]) [.NotEq] [(.var 8)])) [
    (.ret (.cnst (Lt.bool false)))] []),
  (.ret (.cmp (.idx (.meth (.var 5) 0 [(.cnst (Lt.str (Str.ofString "tea")))]) (.cnst (Lt.int 0))) [.Eq] [(.tup [(.cnst (Lt.str (Str.ofString "say"))), (.cnst (Lt.int 1)), (.cnst (Lt.str (Str.ofString "tea"))), (.cnst (Lt.int 1))])]))]
noncomputable def sig : Sig := {
  fns := [
    { name := (Str.ofString "is_whole"), np := 1, names := [(Str.ofString "thing")], body := f_is_whole },
    { name := (Str.ofString "need_count"), np := 1, names := [(Str.ofString "count")], body := f_need_count },
    { name := (Str.ofString "most_liars"), np := 1, names := [(Str.ofString "count")], body := f_most_liars },
    { name := (Str.ofString "enough"), np := 1, names := [(Str.ofString "count")], body := f_enough },
    { name := (Str.ofString "is_row"), np := 1, names := [(Str.ofString "thing"), (Str.ofString "sign")], body := f_is_row },
    { name := (Str.ofString "are_unlike"), np := 2, names := [(Str.ofString "one"), (Str.ofString "other")], body := f_are_unlike },
    { name := (Str.ofString "__init__"), np := 3, names := [(Str.ofString "self"), (Str.ofString "count"), (Str.ofString "own")], body := f_house_init },
    { name := (Str.ofString "call"), np := 2, names := [(Str.ofString "self"), (Str.ofString "row"), (Str.ofString "word")], body := f_house_call },
    { name := (Str.ofString "hear"), np := 2, names := [(Str.ofString "self"), (Str.ofString "word"), (Str.ofString "ahead")], body := f_house_hear },
    { name := (Str.ofString "marking"), np := 2, names := [(Str.ofString "self"), (Str.ofString "word"), (Str.ofString "mark")], body := f_house_marking },
    { name := (Str.ofString "writing"), np := 3, names := [(Str.ofString "self"), (Str.ofString "number"), (Str.ofString "row"), (Str.ofString "marks")], body := f_house_writing },
    { name := (Str.ofString "naming"), np := 3, names := [(Str.ofString "self"), (Str.ofString "word"), (Str.ofString "ahead")], body := f_house_naming },
    { name := (Str.ofString "ledger"), np := 1, names := [(Str.ofString "self"), (Str.ofString "found"), (Str.ofString "number")], body := f_house_ledger },
    { name := (Str.ofString "backing"), np := 2, names := [(Str.ofString "self"), (Str.ofString "number")], body := f_house_backing },
    { name := (Str.ofString "caught"), np := 1, names := [(Str.ofString "self")], body := f_house_caught },
    { name := (Str.ofString "_law_at"), np := 2, names := [(Str.ofString "_law_script"), (Str.ofString "_law_k")], body := f_law_at },
    { name := (Str.ofString "_law_sign"), np := 1, names := [(Str.ofString "_law_cell"), (Str.ofString "_law_signs")], body := f_law_sign },
    { name := (Str.ofString "_law_row"), np := 2, names := [(Str.ofString "_law_base"), (Str.ofString "_law_k"), (Str.ofString "_law_letters"), (Str.ofString "_law_turned"), (Str.ofString "_law_size"), (Str.ofString "_law_tail"), (Str.ofString "_law_at_here")], body := f_law_row },
    { name := (Str.ofString "_law_kind"), np := 1, names := [(Str.ofString "_law_error"), (Str.ofString "_law_words"), (Str.ofString "_law_found")], body := f_law_kind },
    { name := (Str.ofString "_law_made"), np := 2, names := [(Str.ofString "_law_count"), (Str.ofString "_law_own"), (Str.ofString "_law_error")], body := f_law_made },
    { name := (Str.ofString "_law_asked"), np := 3, names := [(Str.ofString "_law_house"), (Str.ofString "_law_which"), (Str.ofString "_law_thing"), (Str.ofString "_law_error")], body := f_law_asked },
    { name := (Str.ofString "law"), np := 1, names := [(Str.ofString "_law_script"), (Str.ofString "_law_first"), (Str.ofString "_law_count"), (Str.ofString "_law_odd"), (Str.ofString "_law_bad"), (Str.ofString "_law_house"), (Str.ofString "_law_base"), (Str.ofString "_law_cell"), (Str.ofString "_law_kept"), (Str.ofString "_law_row_here"), (Str.ofString "_law_at_here"), (Str.ofString "_law_number")], body := f_law }],
  cls := [
    { name := (Str.ofString "ValueError"), init := none, meths := [], exc := false, supers := [0] },
    { name := (Str.ofString "HouseError"), init := none, meths := [], exc := true, supers := [1, 0] },
    { name := (Str.ofString "BadCount"), init := none, meths := [], exc := true, supers := [2, 1, 0] },
    { name := (Str.ofString "BadHouse"), init := none, meths := [], exc := true, supers := [3, 1, 0] },
    { name := (Str.ofString "BadRow"), init := none, meths := [], exc := true, supers := [4, 1, 0] },
    { name := (Str.ofString "BadWord"), init := none, meths := [], exc := true, supers := [5, 1, 0] },
    { name := (Str.ofString "Forged"), init := none, meths := [], exc := true, supers := [6, 1, 0] },
    { name := (Str.ofString "NoLetter"), init := none, meths := [], exc := true, supers := [7, 1, 0] },
    { name := (Str.ofString "NotWritten"), init := none, meths := [], exc := true, supers := [8, 1, 0] },
    { name := (Str.ofString "NoText"), init := none, meths := [], exc := true, supers := [9, 1, 0] },
    { name := (Str.ofString "House"), init := some 6, meths := [(0, 7), (1, 8), (2, 9), (3, 10), (4, 11), (5, 12), (6, 13), (7, 14)], exc := false, supers := [10] }],
  attrs := [(Str.ofString "call"), (Str.ofString "hear"), (Str.ofString "marking"), (Str.ofString "writing"), (Str.ofString "naming"), (Str.ofString "ledger"), (Str.ofString "backing"), (Str.ofString "caught"), (Str.ofString "count"), (Str.ofString "own"), (Str.ofString "onward"), (Str.ofString "known"), (Str.ofString "marked"), (Str.ofString "rows"), (Str.ofString "backings"), (Str.ofString "named"), (Str.ofString "blames")],
  globs := [((Str.ofString "MOST_HOUSES"), (Lt.int 12)), ((Str.ofString "LETTERS"), (Lt.str (Str.ofString "abcdefghijklmnopqrstuvwxyz"))), ((Str.ofString "MOST_SIGNS"), (Lt.int 8))] }
end C07

namespace Mini
namespace P07
open PySem C07
noncomputable def N7 : HN := ⟨10, 0, 1, 2, 3, 4, 5, 6, 2, 3, 4, 8, 0, 1, 2⟩
theorem H7 : HF sig N7 where
  W := ⟨_, rfl, rfl, rfl, rfl⟩
  N_ := ⟨_, rfl, rfl, rfl, rfl⟩
  M := ⟨_, rfl, rfl, rfl, rfl⟩
  E := ⟨_, rfl, rfl, rfl, rfl⟩
  R := ⟨_, rfl, rfl, rfl, rfl⟩
  U := ⟨_, rfl, rfl, rfl, rfl⟩
  I := ⟨_, rfl, rfl, rfl, rfl⟩
  call := ⟨_, rfl, rfl, rfl, rfl⟩
  hear := ⟨_, rfl, rfl, rfl, rfl⟩
  marking := ⟨_, rfl, rfl, rfl, rfl⟩
  writing := ⟨_, rfl, rfl, rfl, rfl⟩
  naming := ⟨_, rfl, rfl, rfl, rfl⟩
  ledger := ⟨_, rfl, rfl, rfl, rfl⟩
  backing := ⟨_, rfl, rfl, rfl, rfl⟩
  caught := ⟨_, rfl, rfl, rfl, rfl⟩
  gM := ⟨_, rfl⟩
  gL := ⟨_, rfl⟩
  gS := ⟨_, rfl⟩
  cls := ⟨_, rfl, rfl, rfl, by decide⟩
theorem f_at : FnIs sig 15 2 2 b_at := ⟨_, rfl, rfl, rfl, rfl⟩
theorem f_sign : FnIs sig 16 1 2 b_sign := ⟨_, rfl, rfl, rfl, rfl⟩
theorem f_row : FnIs sig 17 2 7 b_row := ⟨_, rfl, rfl, rfl, rfl⟩
theorem f_kind : FnIs sig 18 1 3 b_kind := ⟨_, rfl, rfl, rfl, rfl⟩
variable {m : MH} {D : Hd} {s : Hs}
theorem kind_count (n : Nat) (m : MH) : Wp (run sig (n + 1) 18 [.exc 2]) m (fun v m' => v = .tup [.str (Str.ofString "count")] ∧ Le m m') nox :=
  kind_ok f_kind n 2 (fun c => [2, 1, 0].contains c) _ m (fun _ _ => rfl) rfl (by decide) rfl (by decide)
theorem kind_house (n : Nat) (m : MH) : Wp (run sig (n + 1) 18 [.exc 3]) m (fun v m' => v = .tup [.str (Str.ofString "house")] ∧ Le m m') nox :=
  kind_ok f_kind n 3 (fun c => [3, 1, 0].contains c) _ m (fun _ _ => rfl) rfl (by decide) rfl (by decide)
theorem kind_row (n : Nat) (m : MH) : Wp (run sig (n + 1) 18 [.exc 4]) m (fun v m' => v = .tup [.str (Str.ofString "row")] ∧ Le m m') nox :=
  kind_ok f_kind n 4 (fun c => [4, 1, 0].contains c) _ m (fun _ _ => rfl) rfl (by decide) rfl (by decide)
theorem kind_written (n : Nat) (m : MH) : Wp (run sig (n + 1) 18 [.exc 8]) m (fun v m' => v = .tup [.str (Str.ofString "written")] ∧ Le m m') nox :=
  kind_ok f_kind n 8 (fun c => [8, 1, 0].contains c) _ m (fun _ _ => rfl) rfl (by decide) rfl (by decide)
theorem made_count (n : Nat) {v x : V} (hv : Pl m v) (hb : isC v = false) : Wp (run sig (n + 4) 19 [v, x]) m (fun u m' => u = .tup [.str (Str.ofString "count")] ∧ Le m m') nox := by
  refine wp_run rfl rfl (s_try (s_exp (pe_new (wp_rfl rfl ⟨_, 6, rfl, rfl, rfl, wp_mono (init_no1 H7 n (hv.le (.app _ _)) hb) (fun _ _ q => q.elim) ?_⟩))))
  rintro _ _ ⟨rfl, rfl⟩
  exact ⟨rfl, pe_call (wp_rfl rfl (wp_use (kind_count (n + 2) _) fun a m' q => ⟨q.1, (Le.app _ _).trans q.2⟩))⟩
theorem made_house (n : Nat) {x : V} {c : Int} (h1 : 1 ≤ c) (h2 : c ≤ 12) (hx : Pl m x) (hb : badOwn c x = true) : Wp (run sig (n + 4) 19 [.int c, x]) m (fun u m' => u = .tup [.str (Str.ofString "house")] ∧ Le m m') nox := by
  refine wp_run rfl rfl (s_try (s_exp (pe_new (wp_rfl rfl ⟨_, 6, rfl, rfl, rfl, wp_mono (init_no2 H7 n h1 h2 (hx.le (.app _ _)) hb) (fun _ _ q => q.elim) ?_⟩))))
  rintro _ _ ⟨rfl, rfl⟩
  exact ⟨rfl, pe_call (wp_rfl rfl (wp_use (kind_house (n + 2) _) fun a m' q => ⟨q.1, (Le.app _ _).trans q.2⟩))⟩
/-- only what is new changes -/
theorem mod_new {m' : MH} (h : Mod [m.length] (m ++ [.inst 10 []]) m') : Le m m' := by
  refine ⟨Nat.le_trans (by simp) h.1, fun p hp => ?_⟩
  rw [h.2 p (by simp; omega) (by simp; omega), List.getElem?_append_left hp]
theorem init7 (n : Nat) {c o : Int} (h1 : 1 ≤ c) (h2 : c ≤ 12) (h3 : 0 ≤ o) (h4 : o < c) (m : MH) : Wp (run sig (n + 3) 6 [.ref m.length, .int c, .int o]) (m ++ [.inst 10 []]) (fun u m' => u = .none ∧ ∃ D, D.p = m.length ∧ Ho m' 10 D (Hs.new c o) ∧ Le m m' ∧ ∀ y ∈ D.all, m.length ≤ y) nox := by
  have hp : (m ++ [MObj.inst 10 []])[m.length]? = some (.inst N7.C []) := new_has
  refine wp_mono (init_ok H7 n h1 h2 h3 h4 hp) ?_ fun _ _ q => q.elim
  rintro u m' ⟨e, D, e2, h, M, y⟩
  refine ⟨e, D, e2, h, mod_new M, fun z hz => ?_⟩
  rcases y z hz with h | h
  · omega
  · simp at h; omega
theorem made_ok (n : Nat) {c o : Int} (h1 : 1 ≤ c) (h2 : c ≤ 12) (h3 : 0 ≤ o) (h4 : o < c) : Wp (run sig (n + 4) 19 [.int c, .int o]) m (fun u m' => u = .tup [] ∧ Le m m') nox := by
  refine wp_run rfl rfl (s_try (s_exp (pe_new (wp_rfl rfl ⟨_, 6, rfl, rfl, rfl, wp_mono (init7 n h1 h2 h3 h4 m) ?_ fun _ _ q => q.elim⟩))))
  rintro _ m' ⟨rfl, D, e, h, M, y⟩
  refine ⟨rfl, s_nil (s_ret (wp_rfl rfl ?_))⟩
  exact ⟨rfl, M⟩
theorem new_ok (n : Nat) {F : Fns} {r : Lo} {Q : V → MH → Prop} (q : ∀ D m', Ho m' 10 D (Hs.new 4 1) → Le m m' → (∀ y ∈ D.all, m.length ≤ y) → Q (.ref D.p) m') : Wp (ev sig (run sig (n + 3)) (.new 10 [(.cnst (Lt.int 4)), (.cnst (Lt.int 1))]) r) m Q nox := by
  refine pe_new (wp_rfl rfl ⟨_, 6, rfl, rfl, rfl, wp_mono (init7 n (c := 4) (o := 1) (by decide) (by decide) (by decide) (by decide) m) ?_ fun _ _ q => q.elim⟩)
  rintro _ m' ⟨rfl, D, e, h, M, y⟩
  refine ⟨rfl, ?_⟩
  have := q D m' h M y
  rw [e] at this
  exact this
theorem asked_row (n : Nat) {v x : V} {p : Nat} {fs : List (Nat × V)} (hp : m[p]? = some (.inst 10 fs)) (hn : fget 0 fs = none) (hv : Pl m v) (hb : rowB v = false) : Wp (run sig (n + 8) 20 [.ref p, .int 0, v]) m (fun u m' => u = .tup [.str (Str.ofString "row")] ∧ Le m m') nox := by
  refine wp_run rfl rfl (s_try (s_ite (wp_rfl rfl (s_exp (pe_meth (wp_rfl rfl ⟨p, 10, fs, _, 7, rfl, hp, rfl, hn, rfl, wp_rfl rfl (wp_mono (call_no H7 n hv hb) (fun _ _ q => q.elim) ?_)⟩))))))
  rintro _ _ ⟨rfl, rfl⟩
  exact ⟨rfl, pe_call (wp_rfl rfl (wp_use (kind_row (n + 6) _) fun a m' q => q))⟩
/-- a number at which nothing is written -/
noncomputable def noNum (s : Hs) : V → Bool | .int k => !s.wrote k | _ => true
theorem asked_written (n : Nat) {v : V} (h : Ho m 10 D s) (hv : Pl m v) (hb : noNum s v = true) : Wp (run sig (n + 4) 20 [.ref D.p, .int 1, v]) m (fun u m' => u = .tup [.str (Str.ofString "written")] ∧ Le m m') nox := by
  have hx : Wp (run sig (n + 3) 13 [.ref D.p, v]) m (fun _ _ => False) (fun c m' => c = 8 ∧ m' = m) := by
    obtain ⟨ec, kc⟩ := h.ro
    have ew : evT sig (run sig (n + 2)) (.not (.val (.call 0 [(.var 1)]))) [some (.ref D.p), some v] m = .ok (!vW v) m := q_not (q_val (q_call1 rfl (whole_ok H7.W (n + 1) hv)))
    have e1 : evT sig (run sig (n + 2)) (.all false [(.not (.val (.call 0 [(.var 1)]))), (.val (.cmp (.var 1) [.NotIn] [(.attr (.var 0) 13)]))]) [some (.ref D.p), some v] m = .ok true m := by
      cases hq : vW v with
      | false => rw [hq] at ew; exact q_all (short ew)
      | true =>
        obtain ⟨k, rfl⟩ := vW_is hq
        have hb : (!s.wrote k) = true := hb
        refine q_all (q_ors (x := false) (by rw [ew]; rfl) (q_ors (x := true) (q_val (q_cmp1 rfl (q_attr rfl h.inst rfl) ?_)) q_end))
        show Res.bind (inV (.int k) (.ref D.c) m) _ = _
        rw [in_dict_eq kc rfl (sorted_tD _ _ _ _), rowD, isSome_tD]
        show Res.ok (!s.wrote k) m = _
        rw [hb]
    exact wp_fn H7.backing rfl (q_ite e1 (s_rse ⟨rfl, rfl⟩))
  refine wp_run rfl rfl (s_try (s_ite (wp_rfl rfl (s_exp (pe_meth (wp_rfl rfl ⟨D.p, 10, _, _, 13, rfl, h.inst, rfl, rfl, rfl, wp_rfl rfl (wp_mono hx (fun _ _ q => q.elim) ?_)⟩))))))
  rintro _ _ ⟨rfl, rfl⟩
  exact ⟨rfl, pe_call (wp_rfl rfl (wp_use (kind_written (n + 2) _) fun a m' q => q))⟩
/-- what hearing writes -/
theorem hear_rows (s : Hs) (w : Wo) (k : Int) (h : (s.hear w).1.wrote k = true) : s.wrote k = true ∨ k = w.n := by
  unfold Hs.hear at h
  split at h
  · exact .inl h
  · dsimp only at h
    have hn : ∀ (t : Hs) (l : List Wo), (t.naming w l).1.rows = t.rows := fun t l => by
      cases l with
      | nil => rfl
      | cons a l => unfold Hs.naming; dsimp only; split <;> rfl
    have hm := (marking_cnt { s with known := s.known ++ [w] } w).2.1
    unfold Hs.wrote at h ⊢
    rw [hn] at h
    unfold Hs.writing at h
    split at h
    · rw [hm] at h; exact .inl h
    · dsimp only at h
      rw [List.any_append, hm, Bool.or_eq_true] at h
      rcases h with h | h
      · exact .inl h
      · refine .inr ?_
        simp at h; exact h.symm
end P07
end Mini

namespace Mini
namespace P07
open PySem C07
variable {m : MH} {D : Hd} {s : Hs}
theorem at_mem {xs : List V} {k : Int} (h0 : 0 ≤ k) (h1 : k < xs.length) : ∃ v, at_ xs k = some v ∧ v ∈ xs := by
  have : k.toNat < xs.length := toN_lt h0 h1
  refine ⟨xs[k.toNat], ?_, List.getElem_mem this⟩
  unfold at_; rw [if_pos h0, List.getElem?_eq_getElem this]
theorem toN_len {k : Int} {n : Nat} (h0 : 0 ≤ k) (h1 : k ≤ n) : k.toNat ≤ n := by omega
theorem abs_lid {k : Int} {n : Nat} (h0 : 0 ≤ k) (h1 : k ≤ n) (hl : n ≤ lid) : k.natAbs < 2 ^ 60 := Nat.lt_of_le_of_lt (Nat.le_trans (by omega) hl) (show lid < 2 ^ 60 by decide)
theorem slice_to {t : Str} {k : Int} (h0 : 0 ≤ k) (h1 : k ≤ t.length) (hl : t.length ≤ lid) : sliceV (.str t) .none (.int k) .none m = .ok (.str ⟨(t.cps.toList.take k.toNat).toArray⟩) m := by
  have hb : bound (.int k) = some (some k) := by show (if k.natAbs < 2 ^ 60 then _ else _) = _; rw [if_pos (abs_lid h0 h1 hl)]
  have hc : clampU t.cps.toList.length k = k.toNat := by unfold clampU; rw [if_pos h0, Nat.min_eq_left (show k.toNat ≤ t.cps.toList.length from toN_len h0 h1)]
  have sl : sliceL t.cps.toList .none (.int k) .none = some (t.cps.toList.take k.toNat) := by
    unfold sliceL; dsimp only; rw [hb]
    show some ((t.cps.toList.take (clampU t.cps.toList.length k)).drop 0) = _
    rw [hc, List.drop_zero]
  show (if t.length ≤ lid then ofO ((sliceL t.cps.toList .none (.int k) .none).map fun l => V.str ⟨l.toArray⟩) m else .bad) = _
  rw [if_pos hl, sl]; rfl
theorem slice_from {t : Str} {k : Int} (h0 : 0 ≤ k) (h1 : k ≤ t.length) (hl : t.length ≤ lid) : sliceV (.str t) (.int k) .none .none m = .ok (.str ⟨(t.cps.toList.drop k.toNat).toArray⟩) m := by
  have hb : bound (.int k) = some (some k) := by show (if k.natAbs < 2 ^ 60 then _ else _) = _; rw [if_pos (abs_lid h0 h1 hl)]
  have hc : clampU t.cps.toList.length k = k.toNat := by unfold clampU; rw [if_pos h0, Nat.min_eq_left (show k.toNat ≤ t.cps.toList.length from toN_len h0 h1)]
  have sl : sliceL t.cps.toList (.int k) .none .none = some (t.cps.toList.drop k.toNat) := by
    unfold sliceL; dsimp only; rw [hb]
    show some ((t.cps.toList.take t.cps.toList.length).drop (clampU t.cps.toList.length k)) = _
    rw [hc, List.take_length]
  show (if t.length ≤ lid then ofO ((sliceL t.cps.toList (.int k) .none .none).map fun l => V.str ⟨l.toArray⟩) m else .bad) = _
  rw [if_pos hl, sl]; rfl
/-! equality of what houses tell -/
noncomputable def nd (x : Int × Wo × Wo) : PyData := .tuple [.int x.1, x.2.1.d, x.2.2.d]
theorem rd_named (m : MH) (f : Nat) : ∀ l : List (Int × Wo × Wo), allO (rd (f + 3) m) (namL l) = some (l.map nd)
  | [] => rfl
  | x :: l => by
    exact allO_c rfl (rd_named m f l)
theorem eqv_nd : ∀ l : List (Int × Wo × Wo), PyData.eqvAll (l.map nd) (l.map nd) = true
  | [] => rfl
  | x :: l => by
    have e : PyData.eqv (nd x) (nd x) = (x.1 == x.1 && (PyData.eqv x.2.1.d x.2.1.d && (PyData.eqv x.2.2.d x.2.2.d && true))) := rfl
    rw [List.map_cons, eqv_cons, eqv_nd l, e, eqv_d, eqv_d, beq_self_eq_true, decide_eq_true rfl, decide_eq_true rfl]; rfl
theorem eq_named {p q : Nat} {l : List (Int × Wo × Wo)} (hp : m[p]? = some (.list (namL l))) (hq : m[q]? = some (.list (namL l))) (f : Nat) : eqX (f + 1) m (.ref p) (.ref q) = some true := by
  have r1 : ∀ {p : Nat}, m[p]? = some (.list (namL l)) → rd deep m (.ref p) = some (.list (l.map nd)) := fun {p} hp => by
    show (match m[p]? with | some (.list xs) => (allO (rd 11 m) xs).map PyData.list | _ => none) = _
    rw [hp]; show (allO (rd 11 m) (namL l)).map PyData.list = _; rw [rd_named m 8 l]; rfl
  show (match rd deep m (.ref p), rd deep m (.ref q) with | some x, some y => some (PyData.eqv x y) | _, _ => eqN m (eqX f m) (.ref p) (.ref q)) = _
  rw [r1 hp, r1 hq]
  show some (PyData.eqvAll _ _) = _
  rw [eqv_nd]
theorem look_self {k : Ky} {v : V} : ∀ {d : List (Ky × V)}, (d.map (·.1)).Nodup → (k, v) ∈ d → look k d = some v
  | (b, x) :: d, nd, h => by
    rw [List.map_cons, List.nodup_cons] at nd
    show (if b = k then some x else look k d) = _
    rcases List.mem_cons.mp h with e | e
    · cases e; rw [if_pos rfl]
    · rw [if_neg (fun (c : b = k) => nd.1 (List.mem_map.mpr ⟨(k, v), e, c.symm⟩)), look_self nd.2 e]
theorem dictE_self {d : List (Ky × V)} (nd : (d.map (·.1)).Nodup) (hs : ∀ p ∈ d, ∃ t, p.2 = .str t) : ∀ {r : List (Ky × V)}, (∀ p ∈ r, p ∈ d) → dictE m d r = some true
  | [], _ => rfl
  | (k, v) :: r, h => by
    have hm := h (k, v) (.head _)
    obtain ⟨t, e⟩ := hs _ hm
    have e : v = .str t := e
    subst e
    show (match look k d with | none => some false | some u => (match rd deep m (.str t) with | some x => (match rd deep m u with | some y => (match dictE m d r with | some b => some (PyData.eqv x y && b) | none => none) | none => none) | none => none)) = _
    rw [look_self nd hm, dictE_self nd hs fun p hp => h p (.tail _ hp)]
    show some (t == t && true) = _
    simp
theorem put_nodup {k : Ky} {v : V} : ∀ {d : List (Ky × V)}, (d.map (·.1)).Nodup → ((put k v d).map (·.1)).Nodup ∧ ∀ x ∈ put k v d, x = (k, v) ∨ x ∈ d
  | [], _ => ⟨List.nodup_cons.mpr ⟨List.not_mem_nil, List.nodup_nil⟩, fun x hx => .inl (List.mem_singleton.mp hx)⟩
  | (b, y) :: d, nd => by
    rw [List.map_cons, List.nodup_cons] at nd
    show ((if b = k then (b, v) :: d else (b, y) :: put k v d).map (·.1)).Nodup ∧ ∀ x ∈ (if b = k then (b, v) :: d else (b, y) :: put k v d), _
    by_cases z : b = k
    · rw [if_pos z]
      subst z
      exact ⟨List.nodup_cons.mpr nd, fun x hx => by rcases List.mem_cons.mp hx with e | e; exact .inl e; exact .inr (.tail _ e)⟩
    · rw [if_neg z]
      obtain ⟨i1, i2⟩ := put_nodup (k := k) (v := v) nd.2
      refine ⟨List.nodup_cons.mpr ⟨fun c => ?_, i1⟩, fun x hx => ?_⟩
      · obtain ⟨x, hx, e⟩ := List.mem_map.mp c
        have e : x.1 = b := e
        rcases i2 x hx with q | q
        · rw [q] at e; exact z e.symm
        · exact nd.1 (List.mem_map.mpr ⟨x, q, e⟩)
      · rcases List.mem_cons.mp hx with e | e
        · exact .inr (e ▸ .head _)
        · rcases i2 x e with q | q
          · exact .inl q
          · exact .inr (.tail _ q)
theorem led_ok (l : List (Int × Str × List Wo)) : ((ledD l).map (·.1)).Nodup ∧ (∀ p ∈ ledD l, ∃ t, p.2 = .str t) ∧ intK (ledD l) = true := by
  have key : ∀ (is : List Int) (d : List (Ky × V)), (d.map (·.1)).Nodup → (∀ p ∈ d, ∃ t, p.2 = .str t) → sorted1 (.int 0) d = true → ((is.foldl (fun d i => put (.int i) (.str (rowOf l i)) d) d).map (·.1)).Nodup ∧ (∀ p ∈ is.foldl (fun d i => put (.int i) (.str (rowOf l i)) d) d, ∃ t, p.2 = .str t) ∧ sorted1 (.int 0) (is.foldl (fun d i => put (.int i) (.str (rowOf l i)) d) d) = true := by
    intro is
    induction is with
    | nil => exact fun d a b c => ⟨a, b, c⟩
    | cons i is ih =>
      intro d a b c
      obtain ⟨p1, p2⟩ := put_nodup (k := .int i) (v := .str (rowOf l i)) a
      exact ih _ p1 (fun x hx => by rcases p2 x hx with q | q; rw [q]; exact ⟨_, rfl⟩; exact b x q) (put_sorted c)
  exact key _ [] List.nodup_nil (fun _ h => nomatch h) rfl
theorem eq_led {p q e e' : Nat} {l : List (Int × Str × List Wo)} (hp : m[p]? = some (.dict (ledD l) e)) (hq : m[q]? = some (.dict (ledD l) e')) (hne : p ≠ q) (f : Nat) : eqX (f + 1) m (.ref p) (.ref q) = some true := by
  obtain ⟨h1, h2, h3⟩ := led_ok l
  have r1 : rd deep m (.ref p) = none := by
    show (match m[p]? with | some (.list xs) => (allO (rd 11 m) xs).map PyData.list | _ => none) = _
    rw [hp]
  show (match rd deep m (.ref p), rd deep m (.ref q) with | some x, some y => some (PyData.eqv x y) | _, _ => eqN m (eqX f m) (.ref p) (.ref q)) = _
  rw [r1]
  show eqN m (eqX f m) (.ref p) (.ref q) = _
  show (match m[p]? with | some (.list xs) => (match m[q]? with | some (.list ys) => (if p ≠ q ∧ xs.length = ys.length then zipO (eqX f m) xs ys else none) | _ => none) | some (.dict ks _) => (match m[q]? with | some (.dict ls _) => (if p ≠ q ∧ ks.length = ls.length ∧ (intK ks && intK ls) = true then dictE m ls ks else none) | _ => none) | _ => none) = _
  rw [hp, hq]
  show (if p ≠ q ∧ (ledD l).length = (ledD l).length ∧ (intK (ledD l) && intK (ledD l)) = true then dictE m (ledD l) (ledD l) else none) = _
  rw [if_pos ⟨hne, rfl, by rw [h3]; rfl⟩]
  exact dictE_self h1 h2 fun _ h => h
/-- a ledger and a list of names, twice -/
theorem eq_kept {p q a b c d e e' : Nat} {l : List (Int × Str × List Wo)} {n : List (Int × Wo × Wo)} (hp : m[p]? = some (.list [.ref a, .ref b])) (hq : m[q]? = some (.list [.ref c, .ref d])) (ha : m[a]? = some (.dict (ledD l) e)) (hc : m[c]? = some (.dict (ledD l) e')) (hb : m[b]? = some (.list (namL n))) (hd : m[d]? = some (.list (namL n))) (n1 : p ≠ q) (n2 : a ≠ c) :
    cmpV .NotEq (.ref p) (.ref q) m = .ok false m := by
  have r0 : rd 11 m (.ref a) = none := by
    show (match m[a]? with | some (.list xs) => (allO (rd 10 m) xs).map PyData.list | _ => none) = _
    rw [ha]
  have r1 : rd deep m (.ref p) = none := by
    show (match m[p]? with | some (.list xs) => (allO (rd 11 m) xs).map PyData.list | _ => none) = _
    rw [hp]
    show (allO (rd 11 m) [.ref a, .ref b]).map PyData.list = _
    rw [allO_n r0]; rfl
  have ez : zipO (eqX 8 m) [.ref a, .ref b] [.ref c, .ref d] = some true := by
    show (match eqX 8 m (.ref a) (.ref c) with | some x => (match zipO (eqX 8 m) [.ref b] [.ref d] with | some y => some (x && y) | none => none) | none => none) = _
    rw [eq_led ha hc n2 7]
    show (match (match eqX 8 m (.ref b) (.ref d) with | some x => (match zipO (eqX 8 m) [] [] with | some y => some (x && y) | none => none) | none => none) with | some y => some (true && y) | none => none) = _
    rw [eq_named hb hd 7]; rfl
  have en : eqN m (eqX 8 m) (.ref p) (.ref q) = some true := by
    show (match m[p]? with | some (.list xs) => (match m[q]? with | some (.list ys) => (if p ≠ q ∧ xs.length = ys.length then zipO (eqX 8 m) xs ys else none) | _ => none) | some (.dict ks _) => (match m[q]? with | some (.dict ls _) => (if p ≠ q ∧ ks.length = ls.length ∧ (intK ks && intK ls) = true then dictE m ls ks else none) | _ => none) | _ => none) = _
    rw [hp, hq]
    show (if p ≠ q ∧ 2 = 2 then zipO (eqX 8 m) [.ref a, .ref b] [.ref c, .ref d] else none) = _
    rw [if_pos ⟨n1, rfl⟩, ez]
  show Res.bind (eqV (.ref p) (.ref q) m) _ = _
  have : eqV (.ref p) (.ref q) m = .ok true m := by
    show (match rd deep m (.ref p), rd deep m (.ref q) with | some x, some y => Res.ok (PyData.eqv x y) m | _, _ => (match eqN m (eqX 8 m) (.ref p) (.ref q) with | some c => Res.ok c m | none => .bad)) = _
    rw [r1]
    show (match eqN m (eqX 8 m) (.ref p) (.ref q) with | some c => Res.ok c m | none => .bad) = _
    rw [en]
  rw [this]; rfl
end P07
end Mini

namespace Mini
namespace P07
open PySem C07
variable {m : MH} {D : Hd} {s : Hs}
/-- the end of the law's body -/
noncomputable abbrev Fin7 : Fl × Lo → MH → Prop := fun p _ => match p.1 with | .ret v => v = .bool true | .next => V.none = .bool true | .cont => False
noncomputable def spoil (b cell : Int) : Str := ⟨((rowL b 0).take (cell / 9 % ((row b 0).length + 1)).toNat).toArray⟩ ++ ⟨#[signOf (cell / 81)]⟩ ++ ⟨((rowL b 0).drop (cell / 9 % ((row b 0).length + 1)).toNat).toArray⟩
theorem spoil_eq (b cell : Int) : spoil b cell = ⟨((rowL b 0).take (cell / 9 % ((row b 0).length + 1)).toNat ++ [signOf (cell / 81)] ++ (rowL b 0).drop (cell / 9 % ((row b 0).length + 1)).toNat).toArray⟩ := by
  unfold spoil
  rw [show ((⟨#[signOf (cell / 81)]⟩ : Str)) = ⟨[signOf (cell / 81)].toArray⟩ from rfl, str_app, str_app]
theorem spoil_len (b cell : Int) : (spoil b cell).length ≤ 9 := by
  rw [spoil_eq]
  show ((rowL b 0).take _ ++ [_] ++ (rowL b 0).drop _).length ≤ 9
  have := (rowL_ok b 0).2.2
  rw [row_ln]; exact Nat.succ_le_succ this
theorem spoil_no (b cell : Int) : rowB (.str (spoil b cell)) = false := by
  show (rowS _ && (spoil b cell).cps.toList.all okC) = false
  rw [spoil_eq]
  show (_ && ((rowL b 0).take _ ++ [_] ++ (rowL b 0).drop _).all okC) = false
  rw [List.all_append, List.all_append, List.all_cons, sign_no]
  simp
theorem big9 {x k : Int} (h : k < 2) : 2 + x % 9 ≠ k := Int.ne_of_gt (Int.lt_of_lt_of_le h (Int.le_add_of_nonneg_right (md0 (by decide))))
theorem part3 (n : Nat) (ns : List Int) (b : Int) {a1_ a2 a3 a4 a7 : Option V} (h : Ho m 10 D s) (hc : s.cnt = 4) (ho : s.own = 1) (hw : s.onw = 1) (hz : s.sz ≤ 45) (hr : ∀ k, s.wrote k = true → k = 0 ∨ k = 1) :
    Wp (exs sig (run sig (n + 8)) (f_law.drop 9) [some (.scr ns), a1_, a2, a3, a4, some (.ref D.p), some (.int b), a7, none, none, none, none]) m Fin7 nox := by
  have hrl : s.rows.length < 64 := Nat.lt_of_le_of_lt (Nat.le_trans s.rl hz) (by decide)
  -- kept
  refine s_asg (pe_list (pes_cons (pe_meth (wp_rfl rfl ⟨D.p, 10, _, _, 12, rfl, h.inst, rfl, rfl, rfl, wp_rfl rfl (led_use (ledger_ok H7 (n + 7) h hrl) fun m1 q1 e1 k1 g1 l1 => ?_)⟩))))
  have h1 := h.le l1
  refine pes_cons (pe_meth (wp_rfl rfl ⟨D.p, 10, _, _, 14, rfl, h1.inst, rfl, rfl, rfl, wp_rfl rfl (wp_eq (caught_ok H7 (n + 7) h1) (pes_nil (wp_alloc fun q3 m3 l3 k3 g3 => ?_)))⟩))
  have k2 : (m1 ++ [MObj.list (namL s.named)])[m1.length]? = some (.list (namL s.named)) := new_has
  have l13 : Le m1 m3 := (Le.app _ _).trans l3
  have k1' := l13.has k1
  have k2' := l3.has k2
  have h3 := h1.le l13
  generalize m1.length = q2 at k2' k3
  clear k2 l3 g3 k1 h1 l13 l1 g1
  -- the cell, the row, the place
  refine s_asg (wp_eq (q_callL (vs := [.scr ns, .int 2]) rfl (at_ok f_at (n + 7) ns 2 (by decide) m3)) ?_)
  generalize at0 ns 2 = cell
  refine s_asg (pe_call (wp_rfl rfl (val_use (row_ok f_row (n + 7) b 0 m3) fun m4 l4 => ?_)))
  have k1 := l4.has k1'
  have k2 := l4.has k2'
  have k3 := l4.has k3
  have h4 := h3.le l4
  clear k1' k2' h3 l4
  have rl := row_len b 0
  have el : (row b 0).cps.toList = rowL b 0 := rfl
  have pos : 0 < ((row b 0).length : Int) + 1 := Int.lt_add_one_of_le (Int.natCast_nonneg _)
  refine s_asg (wp_eq (a := .int (cell / 9 % ((row b 0).length + 1))) (m' := m4) (q_bin (q_bin rfl rfl rfl) (q_bin (q_lenS rfl (small_lid rl.2 (by decide))) rfl rfl) (mod_eq pos)) ?_)
  have a0 : 0 ≤ cell / 9 % (((row b 0).length : Int) + 1) := md0 pos
  have a1 : cell / 9 % (((row b 0).length : Int) + 1) < ((row b 0).length : Int) + 1 := md1 pos
  have add_str : ∀ {x y : Str} {m : MH}, x.length + y.length ≤ lid → binV .Add (.str x) (.str y) m = .ok (.str (x ++ y)) m := fun h => if_pos h
  have et : ev sig (run sig (n + 8)) (.bin .Add (.bin .Add (.slice (.var 9) (.cnst Lt.none) (.var 10) (.cnst Lt.none)) (.call 16 [(.bin .FloorDiv (.var 7) (.cnst (Lt.int 81)))])) (.slice (.var 9) (.var 10) (.cnst Lt.none) (.cnst Lt.none))) [some (.scr ns), a1_, a2, a3, a4, some (.ref D.p), some (.int b), some (.int cell), some (.ref q3), some (.str (row b 0)), some (.int (cell / 9 % ((row b 0).length + 1))), none] m4 = .ok (.str (spoil b cell)) m4 := by
    have t1 : ((⟨((rowL b 0).take (cell / 9 % ((row b 0).length + 1)).toNat).toArray⟩ : Str)).length ≤ 8 := by
      show ((rowL b 0).take _).length ≤ 8
      have := (rowL_ok b 0).2.2
      rw [List.length_take]; exact Nat.le_trans (Nat.min_le_right _ _) this
    have t2 : ((⟨((rowL b 0).drop (cell / 9 % ((row b 0).length + 1)).toNat).toArray⟩ : Str)).length ≤ 8 := by
      show ((rowL b 0).drop _).length ≤ 8
      have := (rowL_ok b 0).2.2
      rw [List.length_drop]; exact Nat.le_trans (Nat.sub_le _ _) this
    have t3 : ((⟨((rowL b 0).take (cell / 9 % ((row b 0).length + 1)).toNat).toArray⟩ : Str) ++ ⟨#[signOf (cell / 81)]⟩).length ≤ 9 := by
      rw [show ((⟨#[signOf (cell / 81)]⟩ : Str)) = ⟨[signOf (cell / 81)].toArray⟩ from rfl, str_app]
      show ((rowL b 0).take _ ++ [_]).length ≤ 9
      have t1 : ((rowL b 0).take (cell / 9 % ((row b 0).length + 1)).toNat).length ≤ 8 := t1
      rw [List.length_append, List.length_singleton]; exact Nat.succ_le_succ t1
    refine q_bin (q_bin (q_slice rfl rfl rfl rfl (slice_to a0 (Int.le_of_lt_add_one a1) (small_lid rl.2 (by decide)))) (q_call1 (q_bin rfl rfl rfl) (sign_ok f_sign (n + 7) (cell / 81) m4)) (add_str ?_)) (q_slice rfl rfl rfl rfl (slice_from a0 (Int.le_of_lt_add_one a1) (small_lid rl.2 (by decide)))) (add_str ?_)
    · have : (⟨#[signOf (cell / 81)]⟩ : Str).length = 1 := rfl
      rw [el, this]; exact small_lid (Nat.succ_le_succ t1) (by decide)
    · rw [el]; exact small_lid (Nat.add_le_add t3 t2) (by decide)
  refine s_asg (pe_idx (pe_list (pes_cons (wp_eq et (wp_rfl rfl (wp_alloc fun q5 m5 l5 k5 g5 => ?_))))))
  have c9 : 0 ≤ cell % 9 ∧ cell % 9 < 9 := ⟨md0 (by decide), md1 (by decide)⟩
  obtain ⟨v, ev, mv⟩ := at_mem (xs := [.str (spoil b cell), .str (Str.ofString ""), .str (Str.ofString "abcdefghi"), .none, .int 5, .ref m4.length, .bool true, .ref (m4 ++ [MObj.list [V.str (row b 0)]]).length, .tup [.str (Str.ofString "a")]]) (k := cell % 9) c9.1 c9.2
  refine wp_rfl rfl (w_idxl k5 ev (md60 (by decide) (by decide)) ?_)
  have ll : Le m4 m5 := ((Le.app _ _).trans (Le.app _ _)).trans l5
  have n1 : m5[m4.length]? = some (.list [V.str (row b 0)]) := l5.has ((Le.app _ _).has new_has)
  have n2 : m5[(m4 ++ [MObj.list [V.str (row b 0)]]).length]? = some (.dict [] 0) := l5.has new_has
  have hv : Pl m5 v ∧ rowB v = false := (fa_cons (p := fun v => Pl m5 v ∧ rowB v = false) ⟨.str _ (Nat.le_trans (spoil_len b cell) (by decide)), spoil_no b cell⟩ (fa_cons ⟨.str _ (by decide +kernel), by decide +kernel⟩ (fa_cons ⟨.str _ (by decide +kernel), by decide +kernel⟩ (fa_cons ⟨.none, rfl⟩ (fa_cons ⟨.int _, rfl⟩ (fa_cons ⟨.list _ _ n1, rfl⟩ (fa_cons ⟨.bool _, rfl⟩ (fa_cons ⟨.dict _ _ _ n2, rfl⟩ (fa_cons ⟨.tup _ (by decide +kernel), rfl⟩ fa_nil))))))))) v mv
  have h5 := h4.le ll
  have k1 := ll.has k1
  have k2 := ll.has k2
  have k3 := ll.has k3
  clear n1 n2 mv ev k5 g5 l5 et h4 ll
  -- the number
  refine s_asg (pe_idx (pe_list (wp_rfl rfl (wp_alloc fun q6 m6 l6 k6 g6 => ?_))))
  obtain ⟨x, ex, mx⟩ := at_mem (xs := [.int (2 + cell / 9 % 9), .int (-1), .bool true, .bool false, .none, .str (Str.ofString "0"), .ref m5.length, .ref (m5 ++ [MObj.list [V.int 0]]).length, .int 10000]) (k := cell % 9) c9.1 c9.2
  refine wp_rfl rfl (w_idxl k6 ex (md60 (by decide) (by decide)) ?_)
  have ll : Le m5 m6 := ((Le.app _ _).trans (Le.app _ _)).trans l6
  have n1 : m6[m5.length]? = some (.list [V.int 0]) := l6.has ((Le.app _ _).has new_has)
  have n2 : m6[(m5 ++ [MObj.list [V.int 0]]).length]? = some (.dict [] 0) := l6.has new_has
  have no : ∀ k : Int, k ≠ 0 → k ≠ 1 → noNum s (.int k) = true := fun k z1 z2 => by
    show (!s.wrote k) = true
    cases q : s.wrote k with
    | false => rfl
    | true => rcases hr k q with e | e; exact absurd e z1; exact absurd e z2
  have hx : Pl m6 x ∧ noNum s x = true := (fa_cons (p := fun x => Pl m6 x ∧ noNum s x = true) ⟨.int _, no _ (big9 (by decide)) (big9 (by decide))⟩ (fa_cons ⟨.int _, no _ (by decide) (by decide)⟩ (fa_cons ⟨.bool _, rfl⟩ (fa_cons ⟨.bool _, rfl⟩ (fa_cons ⟨.none, rfl⟩ (fa_cons ⟨.str _ (by decide +kernel), rfl⟩ (fa_cons ⟨.list _ _ n1, rfl⟩ (fa_cons ⟨.dict _ _ _ n2, rfl⟩ (fa_cons ⟨.int _, no _ (by decide) (by decide)⟩ fa_nil))))))))) x mx
  have h6 := h5.le ll
  have k1 := ll.has k1
  have k2 := ll.has k2
  have k3 := ll.has k3
  have hv6 := hv.1.le ll
  clear n1 n2 mx ex k6 g6 l6 h5
  -- what is asked
  refine s_ite (pt_all (pts_cons (pt_val (pe_cmp (pe_call (wp_rfl rfl (val_use (asked_row (x := .none) n h6.inst rfl hv6 hv.2) fun m7 l7 => ?_)))))))
  have h7 := h6.le l7
  refine wp_rfl rfl (wp_rfl rfl (wp_rfl rfl (bif_t (pts_cons (pt_val (pe_cmp (pe_call (wp_rfl rfl (val_use (asked_written (n + 4) h7 (hx.1.le l7) hx.2) fun m8 l8 => ?_)))))))))
  have h8 := h7.le l8
  refine wp_rfl rfl (wp_rfl rfl (wp_rfl rfl (bif_t (wp_rfl rfl ?_))))
  have k1 := l8.has (l7.has k1)
  have k2 := l8.has (l7.has k2)
  have k3 := l8.has (l7.has k3)
  show Wp _ m8 _ _
  -- kept is kept
  refine s_ite (pt_val (pe_cmp (pe_list (pes_cons (pe_meth (wp_rfl rfl ⟨D.p, 10, _, _, 12, rfl, h8.inst, rfl, rfl, rfl, wp_rfl rfl (led_use (ledger_ok H7 (n + 7) h8 hrl) fun m9 q9 e9 k9 g9 l9 => ?_)⟩))))))
  have h9 := h8.le l9
  refine pes_cons (pe_meth (wp_rfl rfl ⟨D.p, 10, _, _, 14, rfl, h9.inst, rfl, rfl, rfl, wp_rfl rfl (wp_eq (caught_ok H7 (n + 7) h9) (pes_nil (wp_alloc fun qb mb lb kb gb => ?_)))⟩))
  have ka : (m9 ++ [MObj.list (namL s.named)])[m9.length]? = some (.list (namL s.named)) := new_has
  have l9b : Le m9 mb := (Le.app _ _).trans lb
  have h10 := h9.le l9b
  refine wp_rfl rfl (wp_eq (eq_kept kb (l9b.has (l9.has k3)) (l9b.has k9) (l9b.has (l9.has k1)) (lb.has ka) (l9b.has (l9.has k2)) (Nat.ne_of_gt (Nat.lt_of_lt_of_le (has_lt ((Le.app _ _).has (l9.has k3))) gb)) (Nat.ne_of_gt (Nat.lt_of_lt_of_le (has_lt k1) g9))) (wp_rfl rfl ?_))
  show Wp _ mb _ _
  -- a call
  have hcl := call_ok H7 (n + 1) (Str.ofString "tea") h10 (by decide +kernel) (by decide +kernel) (by rw [hc]; decide) (by rw [hc]; decide) (Nat.lt_of_le_of_lt (Nat.add_le_add_right hz 8) (by decide))
  refine s_ret (pe_cmp (pe_idx (pe_meth (wp_rfl rfl ⟨D.p, 10, _, _, 7, rfl, h10.inst, rfl, rfl, rfl, wp_rfl rfl (tells_use hcl fun mc qc lc kc gc oc hcc Mc yc => ?_)⟩))))
  refine wp_rfl rfl ?_
  have e0 : idxV (.ref qc) (.int 0) mc = .ok (.tup [.str sayS, .int 1, .str (Str.ofString "tea"), .int 1]) mc := by
    unfold idxV; dsimp only; rw [kc]
    show Res.ok (V.tup [.str sayS, .int s.onw, .str (Str.ofString "tea"), .int s.own]) mc = _
    rw [ho, hw]
  refine wp_eq e0 (wp_rfl rfl (wp_rfl rfl ?_))
  rfl
end P07
end Mini

namespace Mini
namespace P07
open PySem C07
variable {m : MH} {D : Hd} {s : Hs}
theorem cut39 (ns : List Int) : ∃ zs : List Int, cut (ns.map V.int) (some 3) (some 9) = zs.map V.int ∧ zs.length ≤ 9 := by
  refine ⟨(ns.take (clampU ns.length 9)).drop (clampU ns.length 3), ?_, ?_⟩
  · unfold cut; dsimp only; rw [List.length_map, List.map_drop, List.map_take]
  · rw [List.length_drop, List.length_take]
    have : clampU ns.length 9 ≤ 9 := by unfold clampU; rw [if_pos (by decide)]; exact Nat.min_le_left _ _
    exact Nat.le_trans (Nat.sub_le _ _) (Nat.le_trans (Nat.min_le_left _ _) this)
theorem slice_scr {ns : List Int} : sliceV (.scr ns) (.int 3) (.int 9) .none m = alloc (.list (cut (ns.map V.int) (some 3) (some 9))) m := rfl
theorem sz45 {n : Nat} : 5 * (9 - n) ≤ 45 := Nat.mul_le_mul_left 5 (Nat.sub_le 9 n)
theorem sz_go {n a b : Nat} (h : n + 1 ≤ 9) (h1 : a ≤ b + 5) (h2 : b ≤ 5 * (9 - (n + 1))) : a ≤ 5 * (9 - n) := by omega
/-- between the turns of the loop -/
inductive I7 (ns zs : List Int) (a1 a2 a3 a4 : Option V) (D : Hd) (b : Int) (m1 : MH) (ys : List Int) (r : Lo) (m' : MH) : Prop
  | mk (hy : ys.length ≤ 9) (l : List Nat) (s : Hs) (a7 : Option V) (er : r = [some (.scr ns), a1, a2, a3, a4, some (.ref D.p), some (.int b), a7, none, none, none, none]) (h : Ho m' 10 (D.ext l) s) (hc : s.cnt = 4) (ho : s.own = 1) (hw : s.onw = 1) (hs : s.sz ≤ 5 * (9 - ys.length)) (hr : ∀ k, s.wrote k = true → k = 0 ∨ k = 1) (k : m'[m1.length]? = some (.list (zs.map V.int))) (hq : m1.length ∉ (D.ext l).all)
theorem part2 (n : Nat) (ns : List Int) {a1 a2 a3 a4 : Option V} :
    Wp (exs sig (run sig (n + 8)) (f_law.drop 6) [some (.scr ns), a1, a2, a3, a4, none, none, none, none, none, none, none]) m Fin7 nox := by
  refine s_asg (new_ok (n + 5) (F := run sig (n + 8)) fun D m1 h1 l1 y1 => ?_)
  refine s_asg (wp_eq (q_bin (q_callL (vs := [.scr ns, .int 1]) rfl (at_ok f_at (n + 7) ns 1 (by decide) m1)) rfl rfl) ?_)
  generalize at0 ns 1 % 100003 = b
  obtain ⟨zs, ez, hz⟩ := cut39 ns
  refine s_forz zs V.int (I7 ns zs a1 a2 a3 a4 D b m1) (pes_cons (wp_eq (a := .ref m1.length) (m' := m1 ++ [.list (zs.map V.int)]) ?_ (pes_nil (w_srcl new_has ⟨rfl, ?_, ?_, ?_, ?_⟩))))
  · have e : ∀ {r : Lo}, r[0]? = some (some (.scr ns)) → ev sig (run sig (n + 8)) (.slice (.var 0) (.cnst (Lt.int 3)) (.cnst (Lt.int 9)) (.cnst Lt.none)) r m1 = sliceV (.scr ns) (.int 3) (.int 9) .none m1 := fun {r} hr => by
      have : ev sig (run sig (n + 8)) (.var 0) r m1 = .ok (.scr ns) m1 := by
        show (match r[0]? with | some (some v) => ret v | _ => bad) m1 = _
        rw [hr]; rfl
      show Res.bind (ev sig (run sig (n + 8)) (.var 0) r m1) _ = _
      rw [this]; rfl
    rw [e rfl, slice_scr, ez]; rfl
  · refine ⟨hz, [], Hs.new 4 1, none, rfl, ?_, rfl, rfl, rfl, Nat.zero_le _, fun k q => (by cases q), new_has, ?_⟩
    · rw [Hd.ext_nil]; exact h1.le (.app _ _)
    · rw [Hd.ext_nil]; exact h1.out (Nat.le_refl _)
  · rintro ys r m' ⟨_, l, s, a7, _, h, _, _, _, _, _, k, _⟩
    exact stays_l k
  · rintro z ys r m' ⟨hy, l, s, a7, rfl, h, hc, ho, hw, hs, hr, k, hq⟩
    rw [List.length_cons] at hy hs
    refine wp_rfl rfl (s_exp (pe_meth (wp_rfl rfl ⟨D.p, 10, _, _, 8, rfl, h.inst, rfl, rfl, rfl, pes_cons (pe_tup (pes_cons (wp_rfl rfl (pes_cons (wp_rfl rfl (pes_cons (pe_call (wp_rfl rfl (val_use (row_ok f_row (n + 7) b (z / 2 % 2) m') fun m2 l2 => ?_)))))))))⟩)))
    refine pes_cons (pe_idx (pe_list (wp_rfl rfl (wp_alloc fun q3 m3 l3 k3 g3 => ?_))))
    have c3 : 0 ≤ z / 4 % 3 ∧ z / 4 % 3 < 3 := ⟨md0 (by decide), md1 (by decide)⟩
    obtain ⟨v, ev, mv⟩ := at_mem (xs := [V.int 0, .int 2, .int 3]) (k := z / 4 % 3) c3.1 c3.2
    obtain ⟨o, rfl⟩ : ∃ o, v = .int o := (fa_cons (p := fun v => ∃ o, v = V.int o) ⟨_, rfl⟩ (fa_cons ⟨_, rfl⟩ (fa_cons ⟨_, rfl⟩ fa_nil))) v mv
    refine wp_rfl rfl (w_idxl k3 ev (md60 (by decide) (by decide)) (pes_nil (pes_nil ?_)))
    have h3 := h.le (l2.trans l3)
    have k := (l2.trans l3).has k
    have hh := hear_ok (D := D.ext l) H7 (n + 2) ⟨markS, z % 2, row b (z / 2 % 2), o⟩ h3 (by rw [hc]; decide) (by rw [hc]; decide) (Nat.lt_of_le_of_lt (Nat.add_le_add_right (Nat.le_trans hs sz45) 8) (by decide))
    refine tells_use hh fun m4 q4 l4 k4 g4 o4 h4 M4 y4 => ?_
    obtain ⟨c1, c2, c3, c4, c5⟩ := hear_cnt s ⟨markS, z % 2, row b (z / 2 % 2), o⟩
    rw [Hd.ext_ext] at h4
    refine s_nil ⟨Nat.le_of_succ_le hy, l ++ l4, _, _, rfl, h4, c1.trans hc, c2.trans ho, c3.trans hw, sz_go hy c4 hs, fun j hj => ?_, M4.has k (out_foot (D := D.ext l) hq), fun c => ?_⟩
    · rcases hear_rows s _ j hj with q | q
      · exact hr j q
      · have q : j = z % 2 := q
        rw [q]; exact Int.emod_two_eq z
    · rcases List.mem_append.mp c with c | c
      · exact hq (List.mem_append_left _ c)
      · have c : m1.length ∈ D.bs ++ (l ++ l4) := c
        rw [← List.append_assoc] at c
        rcases List.mem_append.mp c with c | c
        · exact hq (List.mem_append_right _ c)
        · exact absurd (y4 _ c) (Nat.not_le.mpr (has_lt k))
  · rintro r m' ⟨hy, l, s, a7, rfl, h, hc, ho, hw, hs, hr, k, hq⟩
    exact part3 (D := D.ext l) n ns b h hc ho hw hs hr
end P07
end Mini

namespace Mini
namespace P07
open PySem C07
theorem law_holds (n : Nat) (ns : List Int) (hn : ns.length ≤ 63) : Wp (run sig (n + 9) 21 [.scr ns]) [] (fun v _ => v = .bool true) nox := by
  refine wp_run rfl rfl ?_
  refine s_asg (pe_bi (pes_cons (wp_eq (q_callL (vs := [.scr ns, .int 0]) rfl (at_ok f_at (n + 7) ns 0 (by decide) [])) (pes_nil (wp_rfl rfl ?_)))))
  generalize hf : (if at0 ns 0 < 0 then -at0 ns 0 else at0 ns 0) = f
  have f0 : 0 ≤ f := by rw [← hf]; exact abs_nn _
  refine s_asg (wp_rfl rfl ?_)
  have c0 : 1 ≤ 1 + f % 12 := one_md.1
  have c1 : 1 + f % 12 ≤ 12 := one_md.2
  have cp : 0 < 1 + f % 12 := Int.lt_of_lt_of_le (by decide) c0
  refine s_asg (pe_idx (pe_list (wp_rfl rfl (wp_alloc fun q1 m1 l1 k1 g1 => ?_))))
  obtain ⟨v, ev, mv⟩ := at_mem (xs := [.int (-1), .int (1 + f % 12), .bool true, .bool false, .none, .str (Str.ofString "0"), .ref 0, .ref 1, .int (13 + f)]) (k := f / 12 % 9) (md0 (by decide)) (md1 (n := 9) (by decide))
  refine wp_rfl rfl (w_idxl k1 ev (md60 (by decide) (by decide)) ?_)
  have n1 : m1[0]? = some (.list [V.int 0]) := l1.has rfl
  have n2 : m1[1]? = some (.dict [] 0) := l1.has rfl
  have bi : ∀ k : Int, k < 0 ∨ 1 + f % 12 ≤ k → badOwn (1 + f % 12) (.int k) = true := fun k h => by
    show (!(decide (0 ≤ k) && decide (k < 1 + f % 12))) = true
    rcases h with h | h
    · rw [decide_eq_false (Int.not_le.mpr h)]; rfl
    · rw [decide_eq_false (p := k < 1 + f % 12) (Int.not_lt.mpr h), Bool.and_false]; rfl
  have h13 : 13 ≤ 13 + f := Int.le_add_of_nonneg_right f0
  have hv : Pl m1 v ∧ badOwn (1 + f % 12) v = true := (fa_cons (p := fun v => Pl m1 v ∧ badOwn (1 + f % 12) v = true) ⟨.int _, bi _ (.inl (by decide))⟩ (fa_cons ⟨.int _, bi _ (.inr (Int.le_refl _))⟩ (fa_cons ⟨.bool _, rfl⟩ (fa_cons ⟨.bool _, rfl⟩ (fa_cons ⟨.none, rfl⟩ (fa_cons ⟨.str _ (by decide +kernel), rfl⟩ (fa_cons ⟨.list _ _ n1, rfl⟩ (fa_cons ⟨.dict _ _ _ n2, rfl⟩ (fa_cons ⟨.int _, bi _ (.inr (Int.le_trans c1 (Int.le_trans (by decide) h13)))⟩ fa_nil))))))))) v mv
  clear n1 n2 mv ev k1 g1
  refine s_asg (pe_idx (pe_list (wp_rfl rfl (wp_alloc fun q2 m2 l2 k2 g2 => ?_))))
  have ab : (if f < 0 then -f else f) = f := if_neg (Int.not_lt.mpr f0)
  rw [ab] at k2
  obtain ⟨x, ex, mx⟩ := at_mem (xs := [.int 0, .int 13, .bool true, .bool false, .none, .str (Str.ofString "3"), .ref m1.length, .int (-1 - f), .int (13 + f)]) (k := f / 108 % 9) (md0 (by decide)) (md1 (n := 9) (by decide))
  refine wp_rfl rfl (w_idxl k2 ex (md60 (by decide) (by decide)) ?_)
  have n1 : m2[m1.length]? = some (.list [V.int 3]) := l2.has new_has
  have bi : ∀ k : Int, k < 1 ∨ 12 < k → isC (.int k) = false := fun k h => by
    show (decide (1 ≤ k) && decide (k ≤ 12)) = false
    rcases h with h | h
    · rw [decide_eq_false (Int.not_le.mpr h)]; rfl
    · rw [decide_eq_false (p := k ≤ 12) (Int.not_le.mpr h), Bool.and_false]
  have hx : Pl m2 x ∧ isC x = false := (fa_cons (p := fun x => Pl m2 x ∧ isC x = false) ⟨.int _, bi _ (.inl (by decide))⟩ (fa_cons ⟨.int _, bi _ (.inr (by decide))⟩ (fa_cons ⟨.bool _, rfl⟩ (fa_cons ⟨.bool _, rfl⟩ (fa_cons ⟨.none, rfl⟩ (fa_cons ⟨.str _ (by decide +kernel), rfl⟩ (fa_cons ⟨.list _ _ n1, rfl⟩ (fa_cons ⟨.int _, bi _ (.inl (Int.lt_of_le_of_lt (Int.sub_le_self (-1) f0) (by decide)))⟩ (fa_cons ⟨.int _, bi _ (.inr (Int.lt_of_lt_of_le (by decide) h13))⟩ fa_nil))))))))) x mx
  have hv2 : Pl m2 v := hv.1.le ((Le.app _ _).trans l2)
  clear n1 mx ex k2 g2 ab
  refine s_ite (pt_all (pts_cons (pt_val (pe_cmp (pe_call (wp_rfl rfl (val_use (made_count (n + 4) hx.1 hx.2) fun m3 l3 => ?_)))))))
  refine wp_rfl rfl (wp_rfl rfl (wp_rfl rfl (bif_t (pts_cons (pt_val (pe_cmp (pe_call (wp_rfl rfl (val_use (made_count (n + 4) (hx.1.le l3) hx.2) fun m4 l4 => ?_)))))))))
  refine wp_rfl rfl (wp_rfl rfl (wp_rfl rfl (bif_t (wp_rfl rfl ?_))))
  show Wp _ m4 _ _
  refine s_ite (pt_all (pts_cons (pt_val (pe_cmp (pe_call (pes_cons (wp_rfl rfl (pes_cons (wp_eq (q_bin (q_bin rfl rfl rfl) rfl (mod_eq cp)) (pes_nil (val_use (made_ok (n + 4) c0 c1 (md0 cp) (md1 cp)) fun m5 l5 => ?_)))))))))))
  refine wp_rfl rfl (wp_rfl rfl (wp_rfl rfl (bif_t (pts_cons (pt_val (pe_cmp (pe_call (wp_rfl rfl (val_use (made_house (n + 4) c0 c1 ((hv2.le l3).le (l4.trans l5)) hv.2) fun m6 l6 => ?_)))))))))
  refine wp_rfl rfl (wp_rfl rfl (wp_rfl rfl (bif_t (wp_rfl rfl ?_))))
  show Wp _ m6 _ _
  exact part2 n ns
end P07
end Mini

open PySem PySem.W PyProof.Rows
namespace Mini
noncomputable def keep07 : List Nat := [1, 2, 3, 4, 5, 6, 7, 8, 9, 11, 12, 13, 14, 15, 17, 18, 19, 20, 22, 24, 25, 26, 27, 28, 29, 30]
noncomputable def chk07 (K : Frag) : Bool := chkOf C07.sig [18] 21 K
theorem said07 : PySem.Challenge.rw_uf030037_07.wellSaid = true := by kernel_rfl
theorem run07 : ∀ w os, (runT PySem.Challenge.rw_uf030037_07.prog 3600 w os).map (fun s => looksT PySem.Challenge.rw_uf030037_07.prog (view PySem.Challenge.rw_uf030037_07.prog keep07) PySem.Challenge.rw_uf030037_07.row.records (fun h => chk07 (fragAt (List.range 286) h)) w s.abs) = some (true, openGood (view PySem.Challenge.rw_uf030037_07.prog keep07) [], true) := by intro w os; kernel_rfl
end Mini

open PySem PySem.W PyProof.Rows Mini
namespace Mini
theorem t07 : PySem.Challenge.rw_uf030037_07.Holds := by
  refine own_head (keep := keep07) (as := List.range 286) (chk := chk07) (N := 3600) (d := ((defOf (view PySem.Challenge.rw_uf030037_07.prog keep07) PySem.Challenge.rw_uf030037_07.row.name).get (by kernel_rfl)).1) (kwd := []) said07 (by kernel_rfl) (by decide +kernel) (fun s => rfl) run07 (by kernel_rfl) (by kernel_rfl) (by kernel_rfl) (by kernel_rfl) (by kernel_rfl) ⟨rfl, rfl, rfl, rfl, rfl, by kernel_rfl⟩ ⟨[.list []], by decide +kernel, by decide +kernel⟩ ?_
  intro w s₀ s₁ mg mb G Y fa o pm cd doc dV kV ho hd hcd hD hmg hg args vals as hpre hlay hrd hwl hlo
  obtain ⟨K, KX, hck⟩ := Y
  refine Ground.open G ?_
  intro T B D TE TW
  have hmg' : mg (Str.ofString "law") = some (.ref fa) := hmg
  clear hd hcd hD hmg ho
  wrow_args hpre hlay hrd hwl hlo
  rename_i ns _ _ _ _ _ _ _ l vs _ hL _ _ _ hI _ hlen _
  refine glue (S := C07.sig) (qok := [18]) (k := 21) (n := 9) (d := _) T (by kernel_rfl) KX hg hck rfl hmg' hL hI (by omega) (by decide) (P07.law_holds 0 ns (by omega)) ?_ ?_
  · intro cls; rfl
  · wrow_post
end Mini
theorem PySem.Challenge.cw_uf030037_07_holds : PySem.Challenge.rw_uf030037_07.Holds :=
  Mini.t07
