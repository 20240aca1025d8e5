import PyProof.Rows.All
import PyProof.Meets
import PyProof.Ns1
import PyProof.ListIndex
import PyProof.ForAny
import PyProof.CallRoads
import PyProof.CallType
import PyProof.Cells
import PyProof.PlainList
import PyProof.StrWalks
import PyProof.CompFree
import PyProof.PureInt
import PyProof.MeetsSeq
import PyProof.DictKinds
import PyProof.MeetsDictList
import PyProof.DictStraight
import PyProof.TupleKey
import PyProof.DictWalks
import PyProof.EqAt
import PyProof.EqKinds
import PyProof.P3Statements
import PyProof.ExcClass
import PyProof.ExcArgsOwn
import PyProof.ExcAttrAll.ValueError
import PyProof.RaisesMany
import PyProof.StationsW
import PyProof.StrBlockL
import PyProof.StrLawsChain
import PyProof.RangeIter
import PyProof.WalksMore
import PyProof.RangeFor
import PyProof.InstLoad
import PyProof.InstStoreFacts
import PyProof.IsiHeapPairs
import PyProof.IsiPairs
import PyProof.IsiSeqPairs
import PyProof.ListIndexNeg
import PyProof.NsDelKeeps
import PyProof.ObjNew
import PyProof.StrCalls2
import PyProof.Rows.AttrNodeAny
import PyProof.Rows.StrItems
import PyProof.StrLawsTight
import PyProof.RulesAssignMore
import PyProof.Rows.SortWalk
import PyProof.Rows.Range3
import PyProof.Rows.SetFrom
import OpenK.KCall
import OpenK.KMake
import OpenK.TopRead
import OpenK.KWalk
import OpenK.KLine
import KE.KPop
import KE.KDictSum
import KE.KEqDict
import KE.KIntText
import OpenK.KOwn
import KE.KIsAll
import KE.KTryMore
import Wide.Txt2
import Wide.All
import OpenK.AllK
import Wide.FinOn
import PySem.Challenge.RW_uf030037_03
set_option Elab.async false
set_option maxRecDepth 100000
set_option maxHeartbeats 8000000
set_option autoImplicit false
set_option linter.all false
set_option genSizeOf false
set_option genInjectivity false
set_option bootstrap.genMatcherCode false
/-! The small language: values, objects, core trees, and what they mean. -/
namespace Mini
open PySem

inductive V where
  | none | bool (b : Bool) | int (i : Int) | str (s : Str) | tup (xs : List V) | ref (n : Nat) | fn (k : Nat) | exc (c : Nat) | scr (ns : List Int)

inductive Ky where
  | int (i : Int) | str (s : Str) | tup (ks : List (Sum Int Str))
  deriving DecidableEq

inductive MObj where
  | list (xs : List V)
  | dict (kvs : List (Ky × V)) (e : Nat)
  | inst (c : Nat) (fs : List (Nat × V))

noncomputable abbrev MH := List MObj

inductive Res (α : Type) where
  | ok (a : α) (m : MH)
  | exc (c : Nat) (m : MH)
  | bad

noncomputable abbrev Mn (α : Type) := MH → Res α

noncomputable def Res.bind {α β : Type} (r : Res α) (f : α → Mn β) : Res β := match r with
  | .ok a m => f a m
  | .exc c m => .exc c m
  | .bad => .bad

/-- no exception leaves a loop -/
noncomputable def Res.nox {α : Type} (r : Res α) : Res α := match r with
  | .exc _ _ => .bad
  | r => r
noncomputable def ret {α : Type} (a : α) : Mn α := fun m => .ok a m
noncomputable def bad {α : Type} : Mn α := fun _ => .bad
noncomputable def bnd {α β : Type} (x : Mn α) (f : α → Mn β) : Mn β := fun m => (x m).bind f
noncomputable def ofO {α : Type} : Option α → Mn α
  | some a => ret a
  | Option.none => bad

/-! ## data, equality, keys -/
noncomputable def Ky.val : Ky → V
  | .int i => .int i
  | .str s => .str s
  | .tup ks => .tup (ks.map fun x => match x with | .inl i => .int i | .inr s => .str s)
noncomputable def Ky.sort : Ky → Nat
  | .int _ => 0
  | .str _ => 1
  | .tup _ => 2

noncomputable def allO {α β : Type} (g : α → Option β) : List α → Option (List β)
  | [] => some []
  | x :: xs => match g x, allO g xs with
    | some d, some ds => some (d :: ds)
    | _, _ => Option.none

noncomputable def rd : Nat → MH → V → Option PyData
  | 0, _, _ => Option.none
  | f + 1, m, v => match v with
    | .none => some .none
    | .bool b => some (.bool b)
    | .int i => some (.int i)
    | .str s => some (.str s)
    | .tup xs => (allO (rd f m) xs).map .tuple
    | .ref n => match m[n]? with
      | some (.list xs) => (allO (rd f m) xs).map .list
      | _ => Option.none
    | _ => Option.none

noncomputable def atom : V → Option (Sum Int Str)
  | .int i => some (.inl i)
  | .str s => some (.inr s)
  | _ => Option.none
noncomputable def toKey : V → Option Ky
  | .int i => some (.int i)
  | .str s => some (.str s)
  | .tup xs => (allO atom xs).map .tup
  | _ => Option.none

/-- the fuel of a reading -/
noncomputable def deep : Nat := 12
noncomputable def look (k : Ky) : List (Ky × V) → Option V
  | [] => Option.none
  | (k', v) :: r => if k' = k then some v else look k r
noncomputable def eqV (a b : V) : Mn Bool := fun m => match rd deep m a with
  | some x => match rd deep m b with
    | some y => .ok (PyData.eqv x y) m
    | Option.none => .bad
  | Option.none => .bad

/-! ## places in sequences -/
noncomputable def at_ {α : Type} (xs : List α) (i : Int) : Option α :=
  if 0 ≤ i then xs[i.toNat]? else if 0 ≤ i + xs.length then xs[(i + xs.length).toNat]? else Option.none
/-- the clamped bound of a cut by ones -/
noncomputable def clampU (n : Nat) (i : Int) : Nat := if 0 ≤ i then min i.toNat n else (i + n).toNat
noncomputable def cut {α : Type} (xs : List α) (lo hi : Option Int) : List α :=
  let a := match lo with | some i => clampU xs.length i | Option.none => 0
  let b := match hi with | some i => clampU xs.length i | Option.none => xs.length
  (xs.take b).drop a

/-! ## dicts -/
noncomputable def put (k : Ky) (v : V) : List (Ky × V) → List (Ky × V)
  | [] => [(k, v)]
  | (k', v') :: r => if k' = k then (k', v) :: r else (k', v') :: put k v r
noncomputable def drop_ (k : Ky) : List (Ky × V) → List (Ky × V)
  | [] => []
  | (k', v') :: r => if k' = k then r else (k', v') :: drop_ k r
noncomputable def sorted1 (k : Ky) (kvs : List (Ky × V)) : Bool := kvs.all fun p => p.1.sort == k.sort

noncomputable def fget (i : Nat) : List (Nat × V) → Option V
  | [] => Option.none
  | (j, v) :: r => if j = i then some v else fget i r
noncomputable def fput (i : Nat) (v : V) : List (Nat × V) → List (Nat × V)
  | [] => [(i, v)]
  | (j, v') :: r => if j = i then (j, v) :: r else (j, v') :: fput i v r

/-! ## core trees -/
inductive Bi where
  | len | abs | int | str | list | tuple | dict | sorted | max2 | min2 | max1 | lenset
  deriving DecidableEq
inductive Sm where
  | append | pop | clear | get | join | split | count | index
  deriving DecidableEq
inductive Ty where
  | int | bool | str | list | tuple | dict | cls (c : Nat)
  deriving DecidableEq
inductive IK where
  | expr | range | enum
  deriving DecidableEq
inductive CT where
  | one (i : Nat) | many (is : List Nat)
  deriving DecidableEq
inductive Lt where
  | none | bool (b : Bool) | int (i : Int) | str (s : Str)
  deriving DecidableEq
noncomputable def Lt.val : Lt → V
  | .none => .none
  | .bool b => .bool b
  | .int i => .int i
  | .str s => .str s

mutual
inductive CE where
  | cnst (v : Lt)
  | var (i : Nat)
  | glob (i : Nat)
  | fnv (k : Nat)
  | bin (op : Operator) (a b : CE)
  | neg (a : CE)
  | not (a : CE)
  | boolop (isAnd : Bool) (as : List CE)
  | cmp (a : CE) (ops : List CmpOp) (bs : List CE)
  | ite (c : CB) (a b : CE)
  | tup (as : List CE)
  | list (as : List CE)
  | dict (ks : List Str) (vs : List CE)
  | idx (a i : CE)
  | slice (a lo hi st : CE)
  | attr (a : CE) (n : Nat)
  | call (k : Nat) (as : List CE)
  | callv (f : CE) (as : List CE)
  | new (c : Nat) (as : List CE)
  | meth (o : CE) (n : Nat) (as : List CE)
  | smeth (o : CE) (n : Sm) (as : List CE)
  | bi (b : Bi) (as : List CE)
  | listrange (as : List CE)
  | isi (a : CE) (t : Ty)
  | comp (elt : CE) (t : CT) (nl : Nat) (k : IK) (src : List CE) (ifs : List CB)
/-- tests -/
inductive CB where
  | not (b : CB)
  | all (isAnd : Bool) (bs : List CB)
  | val (e : CE)
end

inductive CTgt where
  | one (t : CT) | attr (o : CE) (n : Nat) | idx (o i : CE) | idx2 (o i o' i' : CE)

inductive CS where
  | asg (t : CTgt) (e : CE)
  | exp (e : CE)
  | ite (c : CB) (a b : List CS)
  | for_ (k : IK) (t : CT) (src : List CE) (body : List CS)
  | wh (c : CB) (body : List CS)
  | ret (e : CE)
  | rse (c : Nat) (msg : Str)
  | try_ (body : List CS) (c : Nat) (nm : Option Nat) (h : CE)
  | cont
  | pass

structure FnD where
  name : Str
  np : Nat
  names : List Str
  body : List CS
structure ClsD where
  name : Str
  init : Option Nat
  meths : List (Nat × Nat)
  exc : Bool
  supers : List Nat
structure Sig where
  fns : List FnD
  cls : List ClsD
  attrs : List Str
  globs : List (Str × Lt)

noncomputable abbrev Lo := List (Option V)

/-! ## operations -/
/-- the greatest length of a text or a list that is made -/
noncomputable def lid : Nat := 4194304
noncomputable def truth (v : V) : Mn Bool := fun m => match v with
  | .none => .ok false m
  | .bool b => .ok b m
  | .int i => .ok (i != 0) m
  | .str s => if s.length ≤ lid then .ok (s.length != 0) m else .bad
  | .tup xs => if xs.length ≤ lid then .ok (!xs.isEmpty) m else .bad
  | .ref n => match m[n]? with
    | some (.list xs) => .ok (!xs.isEmpty) m
    | _ => .bad
  | _ => .bad

noncomputable def alloc (o : MObj) : Mn V := fun m => .ok (.ref m.length) (m ++ [o])
noncomputable def binV (op : Operator) (a b : V) : Mn V := fun m => match op, a, b with
  | .Add, .int i, .int j => .ok (.int (i + j)) m
  | .Sub, .int i, .int j => .ok (.int (i - j)) m
  | .Mult, .int i, .int j => if i.natAbs < 1073741824 ∨ j.natAbs < 1073741824 then .ok (.int (i * j)) m else .bad
  | .FloorDiv, .int i, .int j => if 0 < j ∧ j.natAbs < 1073741824 then .ok (.int (i / j)) m else .bad
  | .Mod, .int i, .int j => if 0 < j then .ok (.int (i % j)) m else .bad
  | .Add, .str x, .str y => if x.length + y.length ≤ lid then .ok (.str (x ++ y)) m else .bad
  | .Add, .tup x, .tup y => if x.length + y.length ≤ lid then .ok (.tup (x ++ y)) m else .bad
  | .Add, .ref p, .ref q => match m[p]?, m[q]? with
    | some (.list x), some (.list y) => if x.length + y.length ≤ lid then alloc (.list (x ++ y)) m else .bad
    | _, _ => .bad
  | .Add, .scr ns, .ref q => match m[q]? with
    | some (.list y) => if ns.length + y.length ≤ lid then alloc (.list (ns.map .int ++ y)) m else .bad
    | _ => .bad
  | _, _, _ => .bad

noncomputable def inV (x c : V) : Mn Bool := fun m => match c with
  | .str y => match x with
    | .str s => match s.cps.toList with
      | [c] => .ok (decide (c ∈ y.cps.toList)) m
      | _ => .bad
    | _ => .bad
  | _ => .bad

noncomputable def isV (x c : V) : Mn Bool := fun m => match c with
  | .none => .ok (match x with | .none => true | _ => false) m
  | .bool b => .ok (match x with | .bool d => d == b | _ => false) m
  | _ => .bad

noncomputable def cmpV (op : CmpOp) (a b : V) : Mn Bool := match op with
  | .Eq => eqV a b
  | .NotEq => bnd (eqV a b) fun c => ret (!c)
  | .In => inV a b
  | .NotIn => bnd (inV a b) fun c => ret (!c)
  | .Is => isV a b
  | .IsNot => bnd (isV a b) fun c => ret (!c)
  | .Lt => match a, b with | .int i, .int j => ret (decide (i < j)) | _, _ => bad
  | .LtE => match a, b with | .int i, .int j => ret (decide (i ≤ j)) | _, _ => bad
  | .Gt => match a, b with | .int i, .int j => ret (decide (i > j)) | _, _ => bad
  | .GtE => match a, b with | .int i, .int j => ret (decide (i ≥ j)) | _, _ => bad

noncomputable def idxV (a i : V) : Mn V := fun m => match a with
  | .tup xs => match i with
    | .int k => if k.natAbs < 2 ^ 60 then ofO (at_ xs k) m else .bad
    | _ => .bad
  | .str s => match i with
    | .int k => if k.natAbs < 2 ^ 60 then ofO ((at_ s.cps.toList k).map fun c => .str ⟨#[c]⟩) m else .bad
    | _ => .bad
  | .ref n => match m[n]? with
    | some (.list xs) => match i with
      | .int k => if k.natAbs < 2 ^ 60 then ofO (at_ xs k) m else .bad
      | _ => .bad
    | _ => .bad
  | .scr ns => match i with
    | .int k => if 0 ≤ k then ofO ((ns[k.toNat]?).map .int) m else .bad
    | _ => .bad
  | _ => .bad

noncomputable def bound (v : V) : Option (Option Int) := match v with
  | .none => some Option.none
  | .int i => if i.natAbs < 2 ^ 60 then some (some i) else Option.none
  | _ => Option.none
noncomputable def sliceL {α : Type} (xs : List α) (lo hi st : V) : Option (List α) :=
  match st with
  | .none => match bound lo, bound hi with
    | some a, some b => some (cut xs a b)
    | _, _ => Option.none
  | _ => Option.none
noncomputable def sliceV (a lo hi st : V) : Mn V := fun m => match a with
  | .tup xs => match st with
    | .none => if xs.length ≤ lid then ofO ((sliceL xs lo hi .none).map .tup) m else .bad
    | _ => .bad
  | .str s => match st with
    | .none => if s.length ≤ lid then ofO ((sliceL s.cps.toList lo hi .none).map fun l => .str ⟨l.toArray⟩) m else .bad
    | _ => .bad
  | .ref n => match m[n]? with
    | some (.list xs) => match st with
      | .none => match sliceL xs lo hi .none with
        | some l => alloc (.list l) m
        | Option.none => .bad
      | _ => .bad
    | _ => .bad
  | _ => .bad

noncomputable def attrV (a : V) (n : Nat) : Mn V := fun m => match a with
  | .ref p => match m[p]? with
    | some (.inst _ fs) => ofO (fget n fs) m
    | _ => .bad
  | _ => .bad

noncomputable def isIntL : List V → Option (List Int)
  | [] => some []
  | .int i :: r => (isIntL r).map (i :: ·)
  | _ :: _ => Option.none
noncomputable def isKeyI : List (Ky × V) → Option (List Int)
  | [] => some []
  | (.int i, _) :: r => (isKeyI r).map (i :: ·)
  | _ :: _ => Option.none
noncomputable def insI (i : Int) : List Int → List Int
  | [] => [i]
  | j :: r => if i ≤ j then i :: j :: r else j :: insI i r
noncomputable def sortI : List Int → List Int
  | [] => []
  | i :: r => insI i (sortI r)
noncomputable def stepD (acc : List Int) (x : Int) : List Int := if acc.any (· == x) then acc else acc ++ [x]
noncomputable def dedupI (l : List Int) : List Int := l.foldl stepD []

noncomputable def rangeL (lo hi : Int) : List V := (List.range (hi - lo).toNat).map fun (k : Nat) => V.int (lo + k)
noncomputable def rangeS (lo hi st : Int) : List V := (List.range ((hi - lo + st - 1) / st).toNat).map fun (k : Nat) => V.int (lo + k * st)
noncomputable def rangeV : List V → Option (List V)
  | [.int n] => if n.natAbs < 2 ^ 30 then some (rangeL 0 n) else Option.none
  | [.int a, .int b] => if a.natAbs < 2 ^ 30 && b.natAbs < 2 ^ 30 then some (rangeL a b) else Option.none
  | [.int a, .int b, .int c] => if a.natAbs < 2 ^ 30 && b.natAbs < 2 ^ 30 && 0 < c && c < 2 ^ 30 then some (rangeS a b c) else Option.none
  | _ => Option.none

noncomputable def intText (i : Int) : Str := Str.ofString (toString i)
/-- the pieces of a text between two signs -/
noncomputable def splitC (c : Nat) : List Nat → List (List Nat)
  | [] => [[]]
  | x :: l => if x = c then [] :: splitC c l else match splitC c l with
    | [] => [[x]]
    | p :: ps => (x :: p) :: ps
noncomputable def isDig (c : Nat) : Bool := decide (48 ≤ c) && decide (c ≤ 57)
noncomputable def digV (l : List Nat) : Nat := l.foldl (fun acc c => acc * 10 + (c - 48)) 0

noncomputable def biV (b : Bi) (as : List V) : Mn V := fun m => match b, as with
  | .len, [.str s] => if s.length ≤ lid then .ok (.int s.length) m else .bad
  | .len, [.tup xs] => if xs.length ≤ lid then .ok (.int xs.length) m else .bad
  | .len, [.scr ns] => .ok (.int ns.length) m
  | .len, [.ref n] => match m[n]? with
    | some (.list xs) => .ok (.int xs.length) m
    | _ => .bad
  | .abs, [.int i] => .ok (.int (if i < 0 then -i else i)) m
  | .int, [.bool c] => .ok (.int (if c then 1 else 0)) m
  | .int, [.str x] => if x.cps.toList.all isDig && (!x.cps.toList.isEmpty && decide (x.length ≤ 600)) then .ok (.int (digV x.cps.toList)) m else .bad
  | .str, [.int i] => if i.natAbs < 1000000 then .ok (.str (intText i)) m else .bad
  | .list, [.tup xs] => if xs.length ≤ lid then alloc (.list xs) m else .bad
  | .list, [.ref n] => match m[n]? with
    | some (.list xs) => alloc (.list xs) m
    | some (.dict kvs _) => match isKeyI kvs with
      | some is => alloc (.list (is.map .int)) m
      | Option.none => .bad
    | _ => .bad
  | .tuple, [.ref n] => match m[n]? with
    | some (.list xs) => .ok (.tup xs) m
    | _ => .bad
  | .dict, [.ref n] => match m[n]? with
    | some (.dict kvs _) => alloc (.dict kvs 0) m
    | _ => .bad
  | .sorted, [.ref n] => match m[n]? with
    | some (.list xs) => match isIntL xs with
      | some is => if is.length < 64 then alloc (.list ((sortI is).map .int)) m else .bad
      | Option.none => .bad
    | some (.dict kvs _) => match isKeyI kvs with
      | some is => if is.length < 64 then alloc (.list ((sortI is).map .int)) m else .bad
      | Option.none => .bad
    | _ => .bad
  | .max2, [.int i, .int j] => .ok (.int (if j > i then j else i)) m
  | .min2, [.int i, .int j] => .ok (.int (if j < i then j else i)) m
  | .lenset, [.ref n] => match m[n]? with
    | some (.list xs) => match isIntL xs with
      | some is => if is.length < 4000 then .ok (.int (dedupI is).length) m else .bad
      | Option.none => .bad
    | _ => .bad
  | _, _ => .bad

noncomputable def isiV (S : Sig) (a : V) (t : Ty) : Mn Bool := fun m => match t, a with
  | .cls c, .exc d => match S.cls[d]? with
    | some x => if x.exc then .ok (x.supers.contains c) m else .bad
    | Option.none => .bad
  | .cls _, _ => .bad
  | .int, .int _ => .ok true m
  | .int, .bool _ => .ok true m
  | .bool, .bool _ => .ok true m
  | .str, .str _ => .ok true m
  | .tuple, .tup _ => .ok true m
  | t, .ref n => match m[n]? with
    | some (.list _) => .ok (t == .list) m
    | some (.dict _ _) => .ok (t == .dict) m
    | _ => .bad
  | _, .fn _ => .bad
  | _, .exc _ => .bad
  | _, .scr _ => .bad
  | _, _ => .ok false m

noncomputable def isStrL : List V → Option (List Str)
  | [] => some []
  | .str x :: r => (isStrL r).map (x :: ·)
  | _ :: _ => Option.none
noncomputable def isBoolL : List V → Option (List Bool)
  | [] => some []
  | .bool x :: r => (isBoolL r).map (x :: ·)
  | _ :: _ => Option.none
noncomputable def joinS (sep : Str) : List Str → Str
  | [] => Str.empty
  | x :: r => r.foldl (fun acc p => acc ++ sep ++ p) x
noncomputable def sumLen (sep : Str) (l : List Str) : Nat := l.foldl (fun k x => k + x.length + sep.length) 0
/-- the kind of a method's owner: a list, a dict, a text -/
noncomputable def smK (o : V) (m : MH) : Option Nat := match o with
  | .ref p => match m[p]? with
    | some (.list _) => some 0
    | some (.dict _ _) => some 1
    | _ => Option.none
  | .str _ => some 2
  | _ => Option.none
/-- the methods that are served -/
noncomputable def smH (k : Nat) (n : Sm) : Bool := match k, n with
  | 0, .count => true
  | 0, .index => true
  | 2, .join => true
  | 2, .split => true
  | _, _ => false
/-- the methods of lists, dicts and texts -/
noncomputable def listM (p : Nat) (xs : List V) (n : Sm) (as : List V) : Mn V := fun m => match n with
  | .append => (match as with | [v] => (if xs.length < lid then .ok .none (m.set p (.list (xs ++ [v]))) else .bad) | _ => .bad)
  | .pop => (match as with
    | [i] => (match i with
      | .int k => if 0 ≤ k then (match xs[k.toNat]? with
          | some v => if k.natAbs < 2 ^ 60 then .ok v (m.set p (.list (xs.eraseIdx k.toNat))) else .bad
          | Option.none => .bad)
        else .bad
      | _ => .bad)
    | _ => .bad)
  | .clear => (match as with | [] => .ok .none (m.set p (.list [])) | _ => .bad)
  | .count => (match as with
    | [i] => (match i with
      | .bool b => (match isBoolL xs with | some bs => .ok (.int (bs.count b)) m | Option.none => .bad)
      | _ => .bad)
    | _ => .bad)
  | .index => (match as with
    | [i] => (match i with
      | .bool b => (match isBoolL xs with | some bs => if bs.contains b then .ok (.int (bs.idxOf b)) m else .bad | Option.none => .bad)
      | _ => .bad)
    | _ => .bad)
  | _ => .bad
noncomputable def dictM (p : Nat) (kvs : List (Ky × V)) (e : Nat) (n : Sm) (as : List V) : Mn V := fun m => match n with
  | .get => (match as with
    | [k, d] => (match toKey k with
      | some k => if sorted1 k kvs then .ok ((look k kvs).getD d) m else .bad
      | Option.none => .bad)
    | _ => .bad)
  | .pop => (match as with
    | [k] => (match k with
      | .int i => if sorted1 (.int i) kvs then (match look (.int i) kvs with
          | some v => .ok v (m.set p (.dict (drop_ (.int i) kvs) (e + 1)))
          | Option.none => .bad)
        else .bad
      | _ => .bad)
    | _ => .bad)
  | .clear => (match as with | [] => .ok .none (m.set p (.dict [] (e + 1))) | _ => .bad)
  | _ => .bad
noncomputable def strM (s : Str) (n : Sm) (as : List V) : Mn V := fun m => match n with
  | .join => (match as with
    | [v] => (match v with
      | .ref p => (match m[p]? with
        | some (.list xs) => (match isStrL xs with
          | some l => if sumLen s l ≤ lid then .ok (.str (joinS s l)) m else .bad
          | Option.none => .bad)
        | _ => .bad)
      | _ => .bad)
    | _ => .bad)
  | .split => (match as with
    | [v] => (match v with
      | .str sep => (match sep.cps.toList with
        | [c] => if s.length ≤ 4000 then alloc (.list ((splitC c s.cps.toList).map fun l => .str ⟨l.toArray⟩)) m else .bad
        | _ => .bad)
      | _ => .bad)
    | _ => .bad)
  | _ => .bad
noncomputable def smethV (k : Nat) (o : V) (n : Sm) (as : List V) : Mn V := fun m => match k with
  | 0 => (match o with
    | .ref p => (match m[p]? with | some (.list xs) => listM p xs n as m | _ => .bad)
    | _ => .bad)
  | 1 => (match o with
    | .ref p => (match m[p]? with | some (.dict kvs e) => dictM p kvs e n as m | _ => .bad)
    | _ => .bad)
  | 2 => (match o with
    | .str s => strM s n as m
    | _ => .bad)
  | _ => .bad

/-! ## what a for goes over -/
mutual
noncomputable def V.same : V → V → Bool
  | .none, y => match y with | .none => true | _ => false
  | .bool a, y => match y with | .bool b => a == b | _ => false
  | .int a, y => match y with | .int b => a == b | _ => false
  | .str a, y => match y with | .str b => a == b | _ => false
  | .tup xs, y => match y with | .tup ys => V.sames xs ys | _ => false
  | .ref a, y => match y with | .ref b => a == b | _ => false
  | .fn a, y => match y with | .fn b => a == b | _ => false
  | .exc a, y => match y with | .exc b => a == b | _ => false
  | .scr a, y => match y with | .scr b => a == b | _ => false
noncomputable def V.sames : List V → List V → Bool
  | [], ys => ys.isEmpty
  | x :: xs, ys => match ys with
    | [] => false
    | y :: ys => V.same x y && V.sames xs ys
end
mutual
theorem same_self : ∀ v : V, V.same v v = true
  | .none => rfl
  | .bool b => beq_self_eq_true b
  | .int i => beq_self_eq_true i
  | .str s => beq_self_eq_true s
  | .tup xs => sames_self xs
  | .ref n => beq_self_eq_true n
  | .fn n => beq_self_eq_true n
  | .exc n => beq_self_eq_true n
  | .scr n => beq_self_eq_true n
theorem sames_self : ∀ xs : List V, V.sames xs xs = true
  | [] => rfl
  | x :: xs => by show (V.same x x && V.sames xs xs) = true; rw [same_self x, sames_self xs]; rfl
end

inductive Gd where
  | none | list (n : Nat) (xs : List V) | dict (n : Nat) (e : Nat)
/-- the object that is gone over stays -/
noncomputable def Gd.stays (g : Gd) (m : MH) : Bool := match g with
  | .none => true
  | .list n xs => match m[n]? with
    | some (.list ys) => V.sames xs ys
    | _ => false
  | .dict n e => match m[n]? with
    | some (.dict _ e') => e == e'
    | _ => false

noncomputable def itemsV (v : V) : Mn (List V × Gd) := fun m => match v with
  | .str s => .ok (s.cps.toList.map fun c => .str ⟨#[c]⟩, .none) m
  | .ref n => match m[n]? with
    | some (.list xs) => .ok (xs, .list n xs) m
    | _ => .bad
  | _ => .bad
noncomputable def enumL : Nat → List V → List V
  | _, [] => []
  | k, x :: xs => .tup [.int k, x] :: enumL (k + 1) xs
noncomputable def enumV (v : V) : Mn (List V × Gd) := fun m => match v with
  | .ref n => match m[n]? with
    | some (.list xs) => .ok (enumL 0 xs, .list n xs) m
    | _ => .bad
  | _ => .bad
noncomputable def srcV (k : IK) (vs : List V) : Mn (List V × Gd) := match k, vs with
  | .expr, [v] => itemsV v
  | .range, vs => match rangeV vs with
    | some l => ret (l, .none)
    | Option.none => bad
  | .enum, [v] => enumV v
  | _, _ => bad

noncomputable def setMany : List Nat → List V → Lo → Option Lo
  | [], [], r => some r
  | i :: is, v :: vs, r => setMany is vs (r.set i (some v))
  | _, _, _ => Option.none
/-- a target of names takes a value -/
noncomputable def setT (t : CT) (v : V) (r : Lo) : Mn Lo := fun m => match t with
  | .one i => .ok (r.set i (some v)) m
  | .many is => match v with
    | .tup vs => ofO (setMany is vs r) m
    | _ => .bad

noncomputable def putAttr (o : V) (n : Nat) (v : V) : Mn Unit := fun m => match o with
  | .ref p => match m[p]? with
    | some (.inst c fs) => .ok () (m.set p (.inst c (fput n v fs)))
    | _ => .bad
  | _ => .bad
noncomputable def putIdx (o i v : V) : Mn Unit := fun m => match o with
  | .ref p => match m[p]? with
    | some (.list xs) => match i with
      | .int k => if 0 ≤ k ∧ k < xs.length then .ok () (m.set p (.list (xs.set k.toNat v))) else if k < 0 ∧ 0 ≤ k + xs.length then .ok () (m.set p (.list (xs.set (k + xs.length).toNat v))) else .bad
      | _ => .bad
    | _ => .bad
  | _ => .bad

inductive Fl where
  | next | cont | ret (v : V)

/-- a for: the turns -/
noncomputable def forD (g : Gd) (step : V → Lo → Mn (Fl × Lo)) : List V → Lo → Mn (Fl × Lo)
  | [], r => fun m => if g.stays m then .ok (.next, r) m else .bad
  | v :: vs, r => fun m => if g.stays m then (step v r m).bind (fun p => match p.1 with
      | .ret x => ret (.ret x, p.2)
      | _ => forD g step vs p.2) else .bad
noncomputable def consO (o : Option V) (r : List V) : List V := match o with
  | some x => x :: r
  | Option.none => r
/-- a comprehension: the turns, the items so far behind -/
noncomputable def compD (g : Gd) (step : V → Mn (Option V)) : List V → Mn (List V)
  | [] => fun m => if g.stays m then .ok [] m else .bad
  | v :: vs => fun m => if g.stays m then (step v m).nox.bind (fun o => bnd (compD g step vs) fun r => ret (consO o r)) else .bad
noncomputable def whileD (c : Lo → Mn Bool) (body : Lo → Mn (Fl × Lo)) : Nat → Lo → Mn (Fl × Lo)
  | 0, _ => bad
  | n + 1, r => bnd (fun m => (c r m).nox) fun b => if b then bnd (fun m => (body r m).nox) fun p => match p.1 with
      | .ret x => ret (.ret x, p.2)
      | _ => whileD c body n p.2
    else ret (.next, r)
noncomputable def fuelW : Nat := 1000000

noncomputable abbrev Fns := Nat → List V → Mn V
/-- a call of a value -/
noncomputable def callvD (F : Fns) (N : Nat) (as : Mn (List V)) (x : V) : Mn V := match x with
  | .fn k => if k < N then bnd as fun vs => F k vs else bad
  | _ => bad

/-- a new instance -/
noncomputable def newR (v u : V) : Mn V := match u with
  | .none => ret v
  | _ => bad
noncomputable def newD (S : Sig) (F : Fns) (c : Nat) (vs : List V) : Mn V := match S.cls[c]? with
  | some d => if d.exc then bad else match d.init with
    | some k => bnd (alloc (.inst c [])) fun x => bnd (F k (x :: vs)) (newR x)
    | Option.none => bad
  | Option.none => bad
/-- the method of an instance -/
noncomputable def methK (S : Sig) (n : Nat) (x : V) : Mn Nat := fun m => match x with
  | .ref p => match m[p]? with
    | some (.inst c fs) => match S.cls[c]? with
      | some d => match fget n fs with
        | Option.none => ofO (d.meths.lookup n) m
        | some _ => .bad
      | Option.none => .bad
    | _ => .bad
  | _ => .bad

mutual
noncomputable def ev (S : Sig) (F : Fns) : CE → Lo → Mn V
  | .cnst v, _ => ret v.val
  | .var i, r => match r[i]? with
    | some (some v) => ret v
    | _ => bad
  | .glob i, _ => match S.globs[i]? with
    | some p => ret p.2.val
    | Option.none => bad
  | .fnv k, _ => ret (.fn k)
  | .bin op a b, r => bnd (ev S F a r) fun x => bnd (ev S F b r) fun y => binV op x y
  | .neg a, r => bnd (ev S F a r) fun x => match x with
    | .int i => ret (.int (-i))
    | _ => bad
  | .not a, r => bnd (ev S F a r) fun x => bnd (truth x) fun b => ret (.bool (!b))
  | .boolop c as, r => evB S F c as r
  | .cmp a ops bs, r => bnd (ev S F a r) fun x => evC S F x ops bs r
  | .ite c a b, r => bnd (evT S F c r) fun t => if t then ev S F a r else ev S F b r
  | .tup as, r => bnd (evs S F as r) fun vs => ret (.tup vs)
  | .list as, r => bnd (evs S F as r) fun vs => alloc (.list vs)
  | .dict ks vs, r => evD S F ks vs r []
  | .idx a i, r => bnd (ev S F a r) fun x => bnd (ev S F i r) fun y => idxV x y
  | .slice a lo hi st, r => bnd (ev S F a r) fun x => bnd (ev S F lo r) fun l => bnd (ev S F hi r) fun h => bnd (ev S F st r) fun t => sliceV x l h t
  | .attr a n, r => bnd (ev S F a r) fun x => attrV x n
  | .call k as, r => bnd (evs S F as r) fun vs => F k vs
  | .callv f as, r => bnd (ev S F f r) fun x => callvD F S.fns.length (evs S F as r) x
  | .new c as, r => bnd (evs S F as r) fun vs => newD S F c vs
  | .meth o n as, r => bnd (ev S F o r) fun x => bnd (methK S n x) fun k => bnd (evs S F as r) fun vs => F k (x :: vs)
  | .smeth o n as, r => bnd (ev S F o r) fun x => fun m => match smK x m with
    | some k => if smH k n then bnd (evs S F as r) (fun vs => smethV k x n vs) m else .bad
    | Option.none => .bad
  | .bi b as, r => bnd (evs S F as r) fun vs => biV b vs
  | .listrange as, r => bnd (evs S F as r) fun vs => match rangeV vs with
    | some l => if l.length ≤ lid then alloc (.list l) else bad
    | Option.none => bad
  | .isi a t, r => bnd (ev S F a r) fun x => bnd (isiV S x t) fun b => ret (.bool b)
  | .comp elt t nl k src ifs, r => bnd (evs S F src r) fun vs => bnd (srcV k vs) fun p =>
      bnd (compD p.2 (fun v => bnd (setT t v (r ++ List.replicate nl Option.none)) fun r' => bnd (evIf S F ifs r') fun b =>
        if b then bnd (ev S F elt r') fun x => ret (some x) else ret Option.none) p.1) fun l => if l.length ≤ lid then alloc (.list l) else bad
/-- a test -/
noncomputable def evT (S : Sig) (F : Fns) : CB → Lo → Mn Bool
  | .not a, r => bnd (evT S F a r) fun b => ret (!b)
  | .all c as, r => evTs S F c as r
  | .val e, r => bnd (ev S F e r) truth
noncomputable def evTs (S : Sig) (F : Fns) (c : Bool) : List CB → Lo → Mn Bool
  | [], _ => ret c
  | a :: as, r => bnd (evT S F a r) fun b => if b == c then evTs S F c as r else ret b
/-- the tests of a comprehension -/
noncomputable def evIf (S : Sig) (F : Fns) : List CB → Lo → Mn Bool
  | [], _ => ret true
  | a :: as, r => bnd (evT S F a r) fun b => if b then evIf S F as r else ret false
noncomputable def evs (S : Sig) (F : Fns) : List CE → Lo → Mn (List V)
  | [], _ => ret []
  | a :: as, r => bnd (ev S F a r) fun x => bnd (evs S F as r) fun xs => ret (x :: xs)
noncomputable def evB (S : Sig) (F : Fns) (c : Bool) : List CE → Lo → Mn V
  | [], _ => bad
  | a :: as, r => match as with
    | [] => ev S F a r
    | _ :: _ => bnd (ev S F a r) fun x => bnd (truth x) fun b => if b == c then evB S F c as r else ret x
noncomputable def evC (S : Sig) (F : Fns) (x : V) (ops : List CmpOp) : List CE → Lo → Mn V
  | [], _ => bad
  | a :: as, r => match ops with
    | [] => bad
    | op :: ops' => bnd (ev S F a r) fun y => bnd (cmpV op x y) fun b => match as with
      | [] => (match ops' with | [] => ret (.bool b) | _ => bad)
      | _ :: _ => if b then evC S F y ops' as r else ret (.bool false)
/-- a dict's display: the values first, then the stores -/
noncomputable def evD (S : Sig) (F : Fns) (ks : List Str) : List CE → Lo → List (Ky × V) → Mn V
  | [], _, acc => match ks with
    | [] => alloc (.dict acc 0)
    | _ => bad
  | v :: vs, r, acc => match ks with
    | [] => bad
    | s :: ks' => bnd (ev S F v r) fun y => evD S F ks' vs r (put (.str s) y acc)
end

noncomputable def asgT (S : Sig) (F : Fns) (t : CTgt) (v : V) (r : Lo) : Mn Lo := match t with
  | .one t => setT t v r
  | .attr o n => bnd (ev S F o r) fun x => bnd (putAttr x n v) fun _ => ret r
  | .idx o i => bnd (ev S F o r) fun x => bnd (ev S F i r) fun y => bnd (putIdx x y v) fun _ => ret r
  | .idx2 o i o' i' => match v with
    | .tup [a, b] => bnd (ev S F o r) fun x => bnd (ev S F i r) fun y => bnd (putIdx x y a) fun _ =>
        bnd (ev S F o' r) fun x' => bnd (ev S F i' r) fun y' => bnd (putIdx x' y' b) fun _ => ret r
    | _ => bad

noncomputable def exR (nm : Option Nat) (d : Nat) (r : Lo) : Lo := match nm with
  | some i => r.set i (some (.exc d))
  | Option.none => r
noncomputable def exN (nm : Option Nat) (r : Lo) : Lo := match nm with
  | some i => r.set i Option.none
  | Option.none => r
/-- the clause of a try takes it -/
noncomputable def tryX (S : Sig) (c : Nat) (nm : Option Nat) (h : Lo → Mn V) (r : Lo) (d : Nat) : Mn (Fl × Lo) := fun m =>
  if ((S.cls[d]?).any fun k => k.supers.contains c) = true then ((h (exR nm d r) m).nox).bind fun v => ret (.ret v, exN nm r) else .bad
/-- a try with one clause that returns -/
noncomputable def tryD (S : Sig) (x : Mn (Fl × Lo)) (c : Nat) (nm : Option Nat) (h : Lo → Mn V) (r : Lo) : Mn (Fl × Lo) := fun m => match x m with
  | .ok a m' => .ok a m'
  | .exc d m' => tryX S c nm h r d m'
  | .bad => .bad

mutual
noncomputable def ex (S : Sig) (F : Fns) : CS → Lo → Mn (Fl × Lo)
  | .asg t e, r => bnd (ev S F e r) fun v => bnd (asgT S F t v r) fun r' => ret (.next, r')
  | .exp e, r => bnd (ev S F e r) fun _ => ret (.next, r)
  | .ite c a b, r => bnd (evT S F c r) fun t => if t then exs S F a r else exs S F b r
  | .for_ k t src body, r => bnd (evs S F src r) fun vs => bnd (srcV k vs) fun p => forD p.2 (fun v r' => bnd (setT t v r') fun r'' => exs S F body r'') p.1 r
  | .wh c body, r => whileD (fun r' => evT S F c r') (fun r' => exs S F body r') fuelW r
  | .ret e, r => bnd (ev S F e r) fun v => ret (.ret v, r)
  | .rse c _, _ => fun m => .exc c m
  | .try_ body c nm h, r => tryD S (exs S F body r) c nm (fun r' => ev S F h r') r
  | .cont, r => ret (.cont, r)
  | .pass, r => ret (.next, r)
noncomputable def exs (S : Sig) (F : Fns) : List CS → Lo → Mn (Fl × Lo)
  | [], r => ret (.next, r)
  | s :: ss, r => bnd (ex S F s r) fun p => match p.1 with
    | .next => exs S F ss p.2
    | f => ret (f, p.2)
end

noncomputable def finF (p : Fl × Lo) : Mn V := match p.1 with
  | .ret v => ret v
  | .next => ret .none
  | .cont => bad
noncomputable def callF (S : Sig) (F : Fns) (k : Nat) (vs : List V) : Mn V := match S.fns[k]? with
  | some d => if vs.length = d.np then bnd (exs S F d.body (vs.map some ++ List.replicate (d.names.length - d.np) Option.none)) finF else bad
  | Option.none => bad
/-- the calls, so deep -/
noncomputable def run (S : Sig) : Nat → Fns
  | 0 => fun _ _ => bad
  | n + 1 => callF S (run S n)

end Mini

/-! How a heap of the model bears a small heap. -/
namespace Mini
open PySem

theorem hide {C : Prop} (h : ∀ G : Prop, (C → G) → G) : C := h C id
structure Wd where
  prog : Program
  w : World
  S : Sig
  fa : Nat → Addr
  ca : Nat → Addr
  base : Heap

noncomputable abbrev Io := List (Addr × Addr)
noncomputable def Foot (io : Io) (b : Addr) : Prop := ∃ p ∈ io, b = p.1 ∨ b = p.2
theorem foot_append {io new : Io} {b : Addr} (x : Foot (io ++ new) b) : Foot io b ∨ Foot new b := by
  refine hide fun GOAL hGOAL => ?_
  obtain ⟨p, hp, e⟩ := x
  refine hGOAL ?_
  clear hGOAL GOAL
  rcases List.mem_append.mp hp with h | h
  · exact .inl ⟨p, h, e⟩
  · exact .inr ⟨p, h, e⟩

inductive IntsR : List Int → List Value → Prop
  | nil : IntsR [] []
  | cons (i : Int) (t : Tok) {ns : List Int} {vs : List Value} : IntsR ns vs → IntsR (i :: ns) (.int i t :: vs)

noncomputable abbrev tupO (vs : Array Value) (n : Nat) : Obj := { cls := .type "tuple", data := .seq vs n }
noncomputable abbrev lstO (vs : Array Value) (n : Nat) : Obj := { cls := .type "list", data := .seq vs n }
mutual
inductive VR (W : Wd) (h : Heap) (io : Io) : V → Value → Prop
  | none : VR W h io .none .none
  | bool (b : Bool) : VR W h io (.bool b) (.bool b)
  | int (i : Int) (t : Tok) : VR W h io (.int i) (.int i t)
  | str (s : Str) (t : Tok) : PyData.strOk s = true → VR W h io (.str s) (.str s t)
  | tup {a : Addr} {vs : Array Value} {n : Nat} {xs : List V} : h.get? a = some (tupO vs n) → VRs W h io xs vs.toList → VR W h io (.tup xs) (.ref a)
  | ref {n : Nat} {a d : Addr} : io[n]? = some (a, d) → VR W h io (.ref n) (.ref a)
  | fn (k : Nat) : VR W h io (.fn k) (.ref (W.fa k))
  | exc {c : Nat} {a : Addr} {o : Obj} {vs : Array Value} : h.get? a = some o → o.cls = .ref (W.ca c) → o.data = .fields vs → VR W h io (.exc c) (.ref a)
  | scr {ns : List Int} {l : Addr} {o : Obj} {vs : Array Value} {n : Nat} : W.base.get? l = some o → o.cls = .type "list" → o.data = .seq vs n → IntsR ns vs.toList → ns.length ≤ lid → VR W h io (.scr ns) (.ref l)
inductive VRs (W : Wd) (h : Heap) (io : Io) : List V → List Value → Prop
  | nil : VRs W h io [] []
  | cons {x : V} {v : Value} {xs : List V} {vs : List Value} : VR W h io x v → VRs W h io xs vs → VRs W h io (x :: xs) (v :: vs)
end

noncomputable def atHash (w : World) : Sum Int Str → Int
  | .inl i => hashInt i
  | .inr s => hashStr w s
noncomputable def kyHash (w : World) : Ky → Int
  | .int i => hashInt i
  | .str s => hashStr w s
  | .tup ks => reduceHash (Builtin.Tuple.tupleHashOf (ks.map (atHash w)))

inductive ERs (W : Wd) (h : Heap) (io : Io) : List (Ky × V) → List DictEntry → Prop
  | nil : ERs W h io [] []
  | cons {k : Ky} {v : V} {key u : Value} {kvs : List (Ky × V)} {es : List DictEntry} : VR W h io k.val key → VR W h io v u → ERs W h io kvs es → ERs W h io ((k, v) :: kvs) (⟨kyHash W.w k, key, u⟩ :: es)
/-- the fields of an instance, by their names -/
noncomputable def FEs (W : Wd) (h : Heap) (io : Io) (fs : List (Nat × V)) (mA : Str → Option Value) : Prop :=
  (∀ x u, mA x = some u → ∃ i v, W.S.attrs[i]? = some x ∧ fget i fs = some v ∧ VR W h io v u) ∧ (∀ i v, fget i fs = some v → ∃ x u, W.S.attrs[i]? = some x ∧ mA x = some u ∧ VR W h io v u)

/-- a plain class of the program's own -/
structure ClsOk (W : Wd) (c : Nat) (D : ClsD) (N : Addr) (mN : Str → Option Value) : Prop where
  dat : W.S.cls[c]? = some D
  exc : D.exc = false
  obj : ∃ nm q bs sn sub col dd k0 k1 k2 k3 k5, W.base.get? (W.ca c) = some (excClassObj nm q (W.ca c) N bs [.type "object"] true sn sub false col dd k0 k1 k2 k3 k5 "object.__new__")
  ns : W.base.Ns N mN
  ga : mN "__getattribute__" = none
  gh : mN "__getattr__" = none
  sa : mN "__setattr__" = none
  has : ∀ (i : Nat) (x : Str), W.S.attrs[i]? = some x → mN x = (D.meths.lookup i).map fun k => .ref (W.fa k)
  low : ∀ (i : Nat) (x : Str), W.S.attrs[i]? = some x → typeLookup (.type "object") x = pure none
  uniq : ∀ (i j : Nat) (x : Str), W.S.attrs[i]? = some x → W.S.attrs[j]? = some x → i = j
  few : W.S.attrs.length ≤ 1000
  mlt : ∀ (i k : Nat), D.meths.lookup i = some k → k < W.S.fns.length
noncomputable abbrev instO (C dx : Addr) : Obj := { cls := .ref C, dict := some dx, data := .plain }
noncomputable def OR (W : Wd) (h : Heap) (io : Io) (a d : Addr) : MObj → Prop
  | .list xs => a = d ∧ ∃ vs n, h.get? a = some (lstO vs n) ∧ VRs W h io xs vs.toList ∧ xs.length ≤ lid
  | .dict kvs _ => a = d ∧ ∃ o es n, h.get? a = some o ∧ o.ExactDict ∧ o.data = .dict es n ∧ ERs W h io kvs es.toList ∧ (kvs.map (·.1)).Nodup ∧ kvs.length ≤ lid
  | .inst c fs => a ≠ d ∧ ∃ mA, h.get? a = some (instO (W.ca c) d) ∧ h.Ns1 d mA ∧ FEs W h io fs mA ∧ ∃ D N mN, ClsOk W c D N mN

structure HR (W : Wd) (h : Heap) (io : Io) (m : MH) : Prop where
  keep : W.base.StaysIn h
  len : io.length = m.length
  obj : ∀ (n : Nat) (p : Addr × Addr) (o : MObj), io[n]? = some p → m[n]? = some o → OR W h io p.1 p.2 o
  fresh : ∀ b, Foot io b → W.base.get? b = none
  apart : ∀ (i j : Nat) (p q : Addr × Addr), i ≠ j → io[i]? = some p → io[j]? = some q → p.1 ≠ q.1 ∧ p.1 ≠ q.2 ∧ p.2 ≠ q.2

/-- what no statement changes -/
noncomputable def Solid (o : Obj) : Prop := (o.cls = .type "tuple" ∧ ∃ vs n, o.data = .seq vs n) ∨ (∃ C vs, o.cls = .ref C ∧ o.data = .fields vs)

structure Step (own fr : List Addr) (h : Heap) (io : Io) (m : MH) (h' : Heap) (io' : Io) (m' : MH) : Prop where
  alive : ∀ b o, h.get? b = some o → ∃ o', h'.get? b = some o'
  solid : ∀ b o, h.get? b = some o → Solid o → h'.get? b = some o
  keep : ∀ b o, h.get? b = some o → ¬ Foot io b → b ∉ own → b ∉ fr → h'.get? b = some o
  slots : ∀ b o, h.get? b = some o → ¬ Foot io b → b ∉ own → ∃ sl, h'.get? b = some { o with slots := sl }
  grow : ∃ new, io' = io ++ new ∧ ∀ p ∈ new, h.get? p.1 = none ∧ h.get? p.2 = none
  dicts : ∀ (n : Nat) (p : Addr × Addr) (kvs : List (Ky × V)) (e : Nat), io[n]? = some p → m[n]? = some (.dict kvs e) → ∃ (kvs' : List (Ky × V)) (e' : Nat), m'[n]? = some (.dict kvs' e') ∧ e ≤ e' ∧ (e' = e → h'.get? p.1 = h.get? p.1 ∧ kvs' = kvs)

section
variable {W : Wd} {h h' h'' : Heap} {io io' io'' : Io} {m m' m'' : MH} {own fr : List Addr}

theorem Step.refl : Step own fr h io m h io m where
  alive := fun _ o e => ⟨o, e⟩
  solid := fun _ _ e _ => e
  keep := fun _ _ e _ _ _ => e
  slots := fun _ o e _ _ => ⟨o.slots, e⟩
  grow := ⟨[], by simp, fun _ hp => nomatch hp⟩
  dicts := fun _ _ kvs e _ hm => ⟨kvs, e, hm, Nat.le_refl _, fun _ => ⟨rfl, rfl⟩⟩

theorem Step.nofoot (x : Step own fr h io m h' io' m') {b : Addr} {o : Obj} (hb : h.get? b = some o) (hf : ¬ Foot io b) : ¬ Foot io' b := by
  refine hide fun GOAL hGOAL => ?_
  obtain ⟨new, rfl, hn⟩ := x.grow
  refine hGOAL ?_
  clear hGOAL GOAL
  intro q
  rcases foot_append q with q | ⟨p, hp, e⟩
  · exact hf q
  · rcases e with e | e
    · rw [e, (hn p hp).1] at hb; cases hb
    · rw [e, (hn p hp).2] at hb; cases hb

theorem Step.trans (x : Step own fr h io m h' io' m') (y : Step own fr h' io' m' h'' io'' m'') : Step own fr h io m h'' io'' m'' where
  alive := fun b o e => let ⟨o', e'⟩ := x.alive b o e; y.alive b o' e'
  solid := fun b o e s => y.solid b o (x.solid b o e s) s
  keep := fun b o e f1 f2 f3 => y.keep b o (x.keep b o e f1 f2 f3) (x.nofoot e f1) f2 f3
  slots := fun b o e f1 f2 => by
    obtain ⟨sl, e'⟩ := x.slots b o e f1 f2
    obtain ⟨sl', e''⟩ := y.slots b _ e' (x.nofoot e f1) f2
    exact ⟨sl', e''⟩
  grow := by
    refine hide fun GOAL hGOAL => ?_
    obtain ⟨n1, rfl, h1⟩ := x.grow
    refine hGOAL ?_
    clear hGOAL GOAL
    refine hide fun GOAL hGOAL => ?_
    obtain ⟨n2, rfl, h2⟩ := y.grow
    refine hGOAL ?_
    clear hGOAL GOAL
    refine ⟨n1 ++ n2, by simp, fun p hp => ?_⟩
    rcases List.mem_append.mp hp with hp | hp
    · exact h1 p hp
    · have back : ∀ b, h'.get? b = none → h.get? b = none := fun b e => by
        cases q : h.get? b with
        | none => rfl
        | some o => obtain ⟨o', e'⟩ := x.alive b o q; rw [e] at e'; cases e'
      exact ⟨back _ (h2 p hp).1, back _ (h2 p hp).2⟩
  dicts := fun n p kvs e hi hm => by
    refine hide fun GOAL hGOAL => ?_
    obtain ⟨k1, e1, hm1, l1, s1⟩ := x.dicts n p kvs e hi hm
    refine hGOAL ?_
    clear hGOAL GOAL
    have hi' : io'[n]? = some p := by
      refine hide fun GOAL hGOAL => ?_
      obtain ⟨new, rfl, _⟩ := x.grow
      refine hGOAL ?_
      clear hGOAL GOAL
      rw [List.getElem?_append_left (by exact (List.getElem?_eq_some_iff.mp hi).1)]; exact hi
    refine hide fun GOAL hGOAL => ?_
    obtain ⟨k2, e2, hm2, l2, s2⟩ := y.dicts n p k1 e1 hi' hm1
    refine hGOAL ?_
    clear hGOAL GOAL
    refine ⟨k2, e2, hm2, Nat.le_trans l1 l2, fun q => ?_⟩
    have q1 : e1 = e := by omega
    have q2 : e2 = e1 := by omega
    exact ⟨(s2 q2).1.trans (s1 q1).1, (s2 q2).2.trans (s1 q1).2⟩

theorem Step.io_get (x : Step own fr h io m h' io' m') {n : Nat} {p : Addr × Addr} (hi : io[n]? = some p) : io'[n]? = some p := by
  refine hide fun GOAL hGOAL => ?_
  obtain ⟨new, rfl, _⟩ := x.grow
  refine hGOAL ?_
  clear hGOAL GOAL
  rw [List.getElem?_append_left (List.getElem?_eq_some_iff.mp hi).1]; exact hi

/-- what solid things and the table keep -/
theorem VR.mono (x : ∀ b o, h.get? b = some o → Solid o → h'.get? b = some o) (y : ∀ (n : Nat) (p : Addr × Addr), io[n]? = some p → io'[n]? = some p) {v : V} {u : Value} (k : VR W h io v u) : VR W h' io' v u :=
  VR.rec (motive_1 := fun v u _ => VR W h' io' v u) (motive_2 := fun v u _ => VRs W h' io' v u) .none .bool .int .str (fun h1 _ ih => .tup (x _ _ h1 (.inl ⟨rfl, _, _, rfl⟩)) ih) (fun h1 => .ref (y _ _ h1)) .fn (fun h1 h2 h3 => .exc (x _ _ h1 (.inr ⟨_, _, h2, h3⟩)) h2 h3) .scr .nil (fun _ _ h1 h2 => .cons h1 h2) k
theorem VRs.mono (x : ∀ b o, h.get? b = some o → Solid o → h'.get? b = some o) (y : ∀ (n : Nat) (p : Addr × Addr), io[n]? = some p → io'[n]? = some p) {v : List V} {u : List Value} (k : VRs W h io v u) : VRs W h' io' v u :=
  VRs.rec (motive_1 := fun v u _ => VR W h' io' v u) (motive_2 := fun v u _ => VRs W h' io' v u) .none .bool .int .str (fun h1 _ ih => .tup (x _ _ h1 (.inl ⟨rfl, _, _, rfl⟩)) ih) (fun h1 => .ref (y _ _ h1)) .fn (fun h1 h2 h3 => .exc (x _ _ h1 (.inr ⟨_, _, h2, h3⟩)) h2 h3) .scr .nil (fun _ _ h1 h2 => .cons h1 h2) k
theorem ERs.mono (x : ∀ b o, h.get? b = some o → Solid o → h'.get? b = some o) (y : ∀ (n : Nat) (p : Addr × Addr), io[n]? = some p → io'[n]? = some p) {kvs : List (Ky × V)} {es : List DictEntry} (e : ERs W h io kvs es) : ERs W h' io' kvs es := by
  induction e with
  | nil => exact .nil
  | cons h1 h2 _ ih => exact .cons (h1.mono x y) (h2.mono x y) ih
theorem FEs.mono (x : ∀ b o, h.get? b = some o → Solid o → h'.get? b = some o) (y : ∀ (n : Nat) (p : Addr × Addr), io[n]? = some p → io'[n]? = some p) {fs : List (Nat × V)} {mA : Str → Option Value} (e : FEs W h io fs mA) : FEs W h' io' fs mA :=
  ⟨fun z u q => (e.1 z u q).imp fun _ q => q.imp fun _ q => ⟨q.1, q.2.1, q.2.2.mono x y⟩, fun i v q => (e.2 i v q).imp fun _ q => q.imp fun _ q => ⟨q.1, q.2.1, q.2.2.mono x y⟩⟩
theorem VR.step (x : Step own fr h io m h' io' m') {v : V} {u : Value} (k : VR W h io v u) : VR W h' io' v u := k.mono x.solid fun _ _ => x.io_get
theorem VRs.step (x : Step own fr h io m h' io' m') {v : List V} {u : List Value} (k : VRs W h io v u) : VRs W h' io' v u := k.mono x.solid fun _ _ => x.io_get
theorem ERs.step (x : Step own fr h io m h' io' m') {kvs : List (Ky × V)} {es : List DictEntry} (e : ERs W h io kvs es) : ERs W h' io' kvs es := e.mono x.solid fun _ _ => x.io_get
theorem FEs.step (x : Step own fr h io m h' io' m') {fs : List (Nat × V)} {mA : Str → Option Value} (e : FEs W h io fs mA) : FEs W h' io' fs mA := e.mono x.solid fun _ _ => x.io_get

theorem VRs.length {xs : List V} {vs : List Value} (x : VRs W h io xs vs) : vs.length = xs.length := by
  induction xs generalizing vs with
  | nil => cases x; rfl
  | cons y ys ih => cases x with | cons _ r => simp [ih r]
theorem VRs.get {xs : List V} {vs : List Value} (x : VRs W h io xs vs) {k : Nat} {v : V} (hk : xs[k]? = some v) : ∃ u, vs[k]? = some u ∧ VR W h io v u := by
  induction xs generalizing vs k with
  | nil => simp at hk
  | cons y ys ih =>
    cases x with
    | cons h1 r =>
      cases k with
      | zero => simp at hk; subst hk; exact ⟨_, rfl, h1⟩
      | succ k => simp at hk; simpa using ih r hk
theorem VRs.append {xs ys : List V} {vs us : List Value} (x : VRs W h io xs vs) (y : VRs W h io ys us) : VRs W h io (xs ++ ys) (vs ++ us) := by
  induction xs generalizing vs with
  | nil => cases x; exact y
  | cons z zs ih => cases x with | cons h1 r => exact .cons h1 (ih r)
theorem VRs.snoc {xs : List V} {vs : List Value} {v : V} {u : Value} (x : VRs W h io xs vs) (y : VR W h io v u) : VRs W h io (xs ++ [v]) (vs ++ [u]) := x.append (.cons y .nil)
theorem VRs.take {xs : List V} {vs : List Value} (x : VRs W h io xs vs) (k : Nat) : VRs W h io (xs.take k) (vs.take k) := by
  induction xs generalizing vs k with
  | nil => cases x; simp; exact .nil
  | cons z zs ih => cases x with | cons h1 r => cases k with
    | zero => exact .nil
    | succ k => exact .cons h1 (ih r k)
theorem VRs.drop {xs : List V} {vs : List Value} (x : VRs W h io xs vs) (k : Nat) : VRs W h io (xs.drop k) (vs.drop k) := by
  induction xs generalizing vs k with
  | nil => cases x; simp; exact .nil
  | cons z zs ih => cases x with | cons h1 r => cases k with
    | zero => exact .cons h1 r
    | succ k => exact ih r k
theorem VRs.set {xs : List V} {vs : List Value} (x : VRs W h io xs vs) (k : Nat) {v : V} {u : Value} (y : VR W h io v u) : VRs W h io (xs.set k v) (vs.set k u) := by
  induction xs generalizing vs k with
  | nil => cases x; exact .nil
  | cons z zs ih => cases x with | cons h1 r => cases k with
    | zero => exact .cons y r
    | succ k => exact .cons h1 (ih r k)
theorem IntsR.length {ns : List Int} {vs : List Value} (x : IntsR ns vs) : vs.length = ns.length := by
  induction x with
  | nil => rfl
  | cons _ _ _ ih => simp [ih]
theorem IntsR.vrs {ns : List Int} {vs : List Value} (x : IntsR ns vs) : VRs W h io (ns.map .int) vs := by
  induction x with
  | nil => exact .nil
  | cons i t _ ih => exact .cons (.int i t) ih

theorem OR.step_same (x : Step own fr h io m h' io' m') {a d : Addr} {o : MObj} (k : OR W h io a d o) (ha : ∀ o, h.get? a = some o → h'.get? a = some o) (hd : ∀ o, h.get? d = some o → h'.get? d = some o) : OR W h' io' a d o := by
  cases o with
  | list xs =>
    refine hide fun GOAL hGOAL => ?_
    obtain ⟨e, vs, n, h1, h4, h5⟩ := k
    refine hGOAL ?_
    clear hGOAL GOAL
    exact ⟨e, vs, n, ha _ h1, h4.step x, h5⟩
  | dict kvs ep =>
    refine hide fun GOAL hGOAL => ?_
    obtain ⟨e, o, es, n, h1, h2, h3, h4, h5⟩ := k
    refine hGOAL ?_
    clear hGOAL GOAL
    exact ⟨e, o, es, n, ha _ h1, h2, h3, h4.step x, h5⟩
  | inst c fs =>
    refine hide fun GOAL hGOAL => ?_
    obtain ⟨e, mA, h1, h2, h3, h4⟩ := k
    refine hGOAL ?_
    clear hGOAL GOAL
    exact ⟨e, mA, ha _ h1, h2.at hd, h3.step x, h4⟩

/-- the objects of the footing are there, and of these kinds -/
theorem HR.foot {b : Addr} (x : HR W h io m) (f : Foot io b) : ∃ o, h.get? b = some o ∧ ¬ Solid o ∧ (∀ v, o.data ≠ .cell v) ∧ (∀ vs, o.data ≠ .fields vs) ∧ (∀ f, o.data ≠ .func f) := by
  refine hide fun GOAL hGOAL => ?_
  obtain ⟨p, hp, e⟩ := f
  refine hGOAL ?_
  clear hGOAL GOAL
  obtain ⟨n, hn⟩ := List.getElem?_of_mem hp
  have hlt : n < m.length := by rw [← x.len]; exact (List.getElem?_eq_some_iff.mp hn).1
  have hm : m[n]? = some m[n] := List.getElem?_eq_getElem hlt
  have k := x.obj n p _ hn hm
  have sd : ∀ o : Obj, o.ExactDict → ∀ es ep, o.data = .dict es ep → ¬ Solid o := by
    rintro o hx es ep hd (⟨hc, vs, n, hs⟩ | ⟨C, vs, hc, hs⟩)
    · rw [hd] at hs; cases hs
    · rw [hd] at hs; cases hs
  cases hq : m[n] with
  | list xs =>
    rw [hq] at k
    refine hide fun GOAL hGOAL => ?_
    obtain ⟨e', vs, n', h1, _⟩ := k
    refine hGOAL ?_
    clear hGOAL GOAL
    refine ⟨lstO vs n', ?_, ?_, ?_, ?_, ?_⟩
    · rcases e with e | e
      · rw [e]; exact h1
      · rw [e, ← e']; exact h1
    · rintro (⟨hc, _⟩ | ⟨C, ws, hc, hs⟩)
      · simp at hc
      · cases hs
    all_goals (intro v q; cases q)
  | dict kvs ep =>
    rw [hq] at k
    refine hide fun GOAL hGOAL => ?_
    obtain ⟨e', o, es, n', h1, h2, h3, _⟩ := k
    refine hGOAL ?_
    clear hGOAL GOAL
    refine ⟨o, ?_, sd o h2 _ _ h3, ?_, ?_, ?_⟩
    · rcases e with e | e
      · rw [e]; exact h1
      · rw [e, ← e']; exact h1
    · intro v q; rw [h3] at q; cases q
    · intro v q; rw [h3] at q; cases q
    · intro v q; rw [h3] at q; cases q
  | inst c fs =>
    rw [hq] at k
    refine hide fun GOAL hGOAL => ?_
    obtain ⟨e', mA, h1, ⟨od, es, n', h2, h3, _⟩, _⟩ := k
    refine hGOAL ?_
    clear hGOAL GOAL
    rcases e with e | e
    · refine ⟨_, by rw [e]; exact h1, ?_, ?_, ?_, ?_⟩
      · rintro (⟨hc, _⟩ | ⟨C, ws, hc, hs⟩)
        · cases hc
        · cases hs
      all_goals (intro v q; cases q)
    · refine ⟨_, by rw [e]; exact h2, ?_, ?_, ?_, ?_⟩
      · rintro (⟨_, vs, n, hs⟩ | ⟨C, vs, hc, hs⟩)
        · rw [h3] at hs; cases hs
        · rw [h3] at hs; cases hs
      all_goals (intro v q; rw [h3] at q; cases q)

theorem HR.nofoot_of_solid {b : Addr} {o : Obj} (x : HR W h io m) (hb : h.get? b = some o) (hs : Solid o) : ¬ Foot io b := fun f => by
  refine hide fun GOAL hGOAL => ?_
  obtain ⟨o', h1, h2, _⟩ := x.foot f
  refine hGOAL ?_
  clear hGOAL GOAL
  rw [hb] at h1; cases h1; exact h2 hs
theorem HR.nofoot_of_cell {b : Addr} {o : Obj} {v : Option Value} (x : HR W h io m) (hb : h.get? b = some o) (hs : o.data = .cell v) : ¬ Foot io b := fun f => by
  refine hide fun GOAL hGOAL => ?_
  obtain ⟨o', h1, _, h2, _⟩ := x.foot f
  refine hGOAL ?_
  clear hGOAL GOAL
  rw [hb] at h1; cases h1; exact h2 _ hs
theorem HR.there {n : Nat} {p : Addr × Addr} (x : HR W h io m) (hn : io[n]? = some p) : ∃ o, h.get? p.1 = some o := by
  refine hide fun GOAL hGOAL => ?_
  obtain ⟨o, ho, _⟩ := x.foot ⟨p, List.mem_of_getElem? hn, .inl rfl⟩
  refine hGOAL ?_
  clear hGOAL GOAL
  exact ⟨o, ho⟩
/-- nothing but new objects -/
theorem Step.of_keeps (x : HR W h io m) (hk : ∀ b o, h.get? b = some o → h'.get? b = some o) : Step own fr h io m h' io m where
  alive := fun b o e => ⟨o, hk b o e⟩
  solid := fun b o e _ => hk b o e
  keep := fun b o e _ _ _ => hk b o e
  slots := fun b o e _ _ => ⟨o.slots, hk b o e⟩
  grow := ⟨[], by simp, fun _ hp => nomatch hp⟩
  dicts := fun n p kvs e hi hm => ⟨kvs, e, hm, Nat.le_refl _, fun _ => ⟨by
    obtain ⟨o, ho⟩ := x.there hi
    rw [ho]; exact hk _ _ ho, rfl⟩⟩
theorem HR.of_keeps (x : HR W h io m) (hk : ∀ b o, h.get? b = some o → h'.get? b = some o) : HR W h' io m where
  keep := fun b o e => hk b o (x.keep b o e)
  len := x.len
  obj := fun n p o hi hm => (x.obj n p o hi hm).step_same (Step.of_keeps (own := []) (fr := []) x hk) (hk _) (hk _)
  fresh := x.fresh
  apart := x.apart

theorem HR.of_foot (x : HR W h io m) (st : Step own fr h io m h' io m) (hf : ∀ b o, Foot io b → h.get? b = some o → h'.get? b = some o) (hb : W.base.StaysIn h') : HR W h' io m where
  keep := hb
  len := x.len
  obj := fun n p o hi hm => (x.obj n p o hi hm).step_same st (fun o e => hf _ o ⟨p, List.mem_of_getElem? hi, .inl rfl⟩ e) (fun o e => hf _ o ⟨p, List.mem_of_getElem? hi, .inr rfl⟩ e)
  fresh := x.fresh
  apart := x.apart

/-- an address of the frame's own changes -/
theorem step_own {L : Addr} (x : HR W h io m) (hL : L ∈ own) (hk : ∀ b o, b ≠ L → h.get? b = some o → h'.get? b = some o) (hs : ∀ o, h.get? L = some o → ¬ Solid o ∧ ∃ o', h'.get? L = some o') (hf : ¬ Foot io L) :
    Step own fr h io m h' io m where
  alive := fun b o e => by
    by_cases q : b = L
    · subst q; exact (hs o e).2
    · exact ⟨o, hk b o q e⟩
  solid := fun b o e so => by
    by_cases q : b = L
    · subst q; exact absurd so (hs o e).1
    · exact hk b o q e
  keep := fun b o e _ ho _ => hk b o (fun q => ho (q ▸ hL)) e
  slots := fun b o e _ ho => ⟨o.slots, hk b o (fun q => ho (q ▸ hL)) e⟩
  grow := ⟨[], by simp, fun _ hp => nomatch hp⟩
  dicts := fun n p kvs e hi hm => ⟨kvs, e, hm, Nat.le_refl _, fun _ => ⟨by
    obtain ⟨o, ho⟩ := x.there hi
    rw [ho]; exact hk _ _ (fun q => hf ⟨p, List.mem_of_getElem? hi, .inl q.symm⟩) ho, rfl⟩⟩
theorem HR.ofOwn {L : Addr} (x : HR W h io m) (hL : L ∈ own) (hk : ∀ b o, b ≠ L → h.get? b = some o → h'.get? b = some o) (hs : ∀ o, h.get? L = some o → ¬ Solid o ∧ ∃ o', h'.get? L = some o') (hf : ¬ Foot io L) (hb : W.base.get? L = none) :
    HR W h' io m := x.of_foot (fr := []) (step_own x hL hk hs hf) (fun b o f e => hk b o (fun q => hf (q ▸ f)) e) fun b o e => hk b o (fun q => by rw [q, hb] at e; cases e) (x.keep b o e)

/-- a new object -/
theorem step_alloc (x : HR W h io m) {a d : Addr} {o : MObj} (hk : ∀ b o, h.get? b = some o → h'.get? b = some o) (ha : h.get? a = none) (hd : h.get? d = none) :
    Step own fr h io m h' (io ++ [(a, d)]) (m ++ [o]) where
  alive := fun b o e => ⟨o, hk b o e⟩
  solid := fun b o e _ => hk b o e
  keep := fun b o e _ _ _ => hk b o e
  slots := fun b o e _ _ => ⟨o.slots, hk b o e⟩
  grow := ⟨[(a, d)], rfl, fun p hp => by rw [List.mem_singleton.mp hp]; exact ⟨ha, hd⟩⟩
  dicts := fun n p kvs e hi hm => ⟨kvs, e, by rw [List.getElem?_append_left (List.getElem?_eq_some_iff.mp hm).1]; exact hm, Nat.le_refl _, fun _ => ⟨by
    obtain ⟨o, ho⟩ := x.there hi
    rw [ho]; exact hk _ _ ho, rfl⟩⟩
theorem HR.alloc (x : HR W h io m) {a d : Addr} {o : MObj} (hk : ∀ b o, h.get? b = some o → h'.get? b = some o) (ha : h.get? a = none) (hd : h.get? d = none)
    (k : OR W h' (io ++ [(a, d)]) a d o) : HR W h' (io ++ [(a, d)]) (m ++ [o]) where
  keep := fun b o e => hk b o (x.keep b o e)
  len := by simp [x.len]
  obj := fun n p o' hi hm => by
    by_cases q : n < io.length
    · rw [List.getElem?_append_left q] at hi
      rw [List.getElem?_append_left (x.len ▸ q)] at hm
      exact (x.obj n p o' hi hm).step_same (step_alloc (own := []) (fr := []) (o := o) x hk ha hd) (hk _) (hk _)
    · have q1 : n = io.length := by
        have := (List.getElem?_eq_some_iff.mp hi).1
        simp at this; omega
      subst q1
      rw [List.getElem?_append_right (Nat.le_refl _)] at hi
      rw [x.len, List.getElem?_append_right (Nat.le_refl _)] at hm
      simp at hi hm
      subst hi hm
      exact k
  fresh := fun b f => by
    rcases foot_append f with f | ⟨p, hp, e⟩
    · exact x.fresh b f
    · rw [List.mem_singleton.mp hp] at e
      cases q : W.base.get? b with
      | none => rfl
      | some o =>
        have := x.keep b o q
        rcases e with e | e <;> subst e
        · rw [ha] at this; cases this
        · rw [hd] at this; cases this
  apart := fun i j p q hij hi hj => by
    have lo : ∀ (n : Nat) (p : Addr × Addr), (io ++ [(a, d)])[n]? = some p → (n < io.length ∧ io[n]? = some p) ∨ (n = io.length ∧ p = (a, d)) := fun n p hn => by
      by_cases q : n < io.length
      · rw [List.getElem?_append_left q] at hn; exact .inl ⟨q, hn⟩
      · have q1 : n = io.length := by
          have := (List.getElem?_eq_some_iff.mp hn).1
          simp at this; omega
        subst q1
        rw [List.getElem?_append_right (Nat.le_refl _)] at hn
        simp at hn
        exact .inr ⟨rfl, hn.symm⟩
    have off : ∀ (n : Nat) (p : Addr × Addr), io[n]? = some p → p.1 ≠ a ∧ p.1 ≠ d ∧ p.2 ≠ a ∧ p.2 ≠ d := fun n p hn => by
      refine hide fun GOAL hGOAL => ?_
      obtain ⟨o1, h1, _⟩ := x.foot ⟨p, List.mem_of_getElem? hn, .inl rfl⟩
      refine hGOAL ?_
      clear hGOAL GOAL
      refine hide fun GOAL hGOAL => ?_
      obtain ⟨o2, h2, _⟩ := x.foot ⟨p, List.mem_of_getElem? hn, .inr rfl⟩
      refine hGOAL ?_
      clear hGOAL GOAL
      refine ⟨fun e => ?_, fun e => ?_, fun e => ?_, fun e => ?_⟩
      · rw [e, ha] at h1; cases h1
      · rw [e, hd] at h1; cases h1
      · rw [e, ha] at h2; cases h2
      · rw [e, hd] at h2; cases h2
    rcases lo i p hi with ⟨_, hi⟩ | ⟨ei, rfl⟩ <;> rcases lo j q hj with ⟨_, hj⟩ | ⟨ej, rfl⟩
    · exact x.apart i j p q hij hi hj
    · refine hide fun GOAL hGOAL => ?_
      obtain ⟨h1, h2, h3, h4⟩ := off i p hi
      refine hGOAL ?_
      clear hGOAL GOAL
      exact ⟨h1, h2, h4⟩
    · refine hide fun GOAL hGOAL => ?_
      obtain ⟨h1, h2, h3, h4⟩ := off j q hj
      refine hGOAL ?_
      clear hGOAL GOAL
      exact ⟨Ne.symm h1, Ne.symm h3, Ne.symm h4⟩
    · exact absurd (ei.trans ej.symm) hij

/-- an object changes -/
theorem step_set (x : HR W h io m) {n : Nat} {p : Addr × Addr} {o o1 : MObj} (hi : io[n]? = some p) (hm : m[n]? = some o) (hk : ∀ b o, b ≠ p.1 → b ≠ p.2 → h.get? b = some o → h'.get? b = some o)
    (h1 : ∃ o', h'.get? p.1 = some o') (h2 : ∃ o', h'.get? p.2 = some o') (hd : ∀ kvs e, o = .dict kvs e → ∃ kvs' e', o1 = .dict kvs' e' ∧ e < e') : Step own fr h io m h' io (m.set n o1) where
  alive := fun b o e => by
    by_cases q : b = p.1
    · subst q; exact h1
    · by_cases q2 : b = p.2
      · subst q2; exact h2
      · exact ⟨o, hk b o q q2 e⟩
  solid := fun b o e s => hk b o (fun q => x.nofoot_of_solid e s ⟨p, List.mem_of_getElem? hi, .inl q⟩) (fun q => x.nofoot_of_solid e s ⟨p, List.mem_of_getElem? hi, .inr q⟩) e
  keep := fun b o e f _ _ => hk b o (fun q => f ⟨p, List.mem_of_getElem? hi, .inl q⟩) (fun q => f ⟨p, List.mem_of_getElem? hi, .inr q⟩) e
  slots := fun b o e f _ => ⟨o.slots, hk b o (fun q => f ⟨p, List.mem_of_getElem? hi, .inl q⟩) (fun q => f ⟨p, List.mem_of_getElem? hi, .inr q⟩) e⟩
  grow := ⟨[], by simp, fun _ hp => nomatch hp⟩
  dicts := fun k q kvs e hq hmk => by
    by_cases z : k = n
    · subst z
      rw [hm] at hmk; cases hmk
      refine hide fun GOAL hGOAL => ?_
      obtain ⟨kvs', e', rfl, hlt⟩ := hd kvs e rfl
      refine hGOAL ?_
      clear hGOAL GOAL
      refine ⟨kvs', e', by simp [(List.getElem?_eq_some_iff.mp hm).1], by omega, fun w => by omega⟩
    · refine ⟨kvs, e, by rw [List.getElem?_set_ne (Ne.symm z)]; exact hmk, Nat.le_refl _, fun _ => ⟨?_, rfl⟩⟩
      obtain ⟨o, ho⟩ := x.there hq
      refine hide fun GOAL hGOAL => ?_
      obtain ⟨a1, a2, a3⟩ := x.apart k n q p z hq hi
      refine hGOAL ?_
      clear hGOAL GOAL
      rw [ho]; exact hk _ _ a1 a2 ho
theorem HR.set (x : HR W h io m) {n : Nat} {p : Addr × Addr} {o o1 : MObj} (hi : io[n]? = some p) (hm : m[n]? = some o) (hk : ∀ b o, b ≠ p.1 → b ≠ p.2 → h.get? b = some o → h'.get? b = some o)
    (hd : ∀ kvs e, o = .dict kvs e → ∃ kvs' e', o1 = .dict kvs' e' ∧ e < e') (h1 : ∃ o', h'.get? p.1 = some o') (h2 : ∃ o', h'.get? p.2 = some o') (k : OR W h' io p.1 p.2 o1) : HR W h' io (m.set n o1) where
  keep := fun b o e => hk b o (fun q => by rw [x.fresh b ⟨p, List.mem_of_getElem? hi, .inl q⟩] at e; cases e) (fun q => by rw [x.fresh b ⟨p, List.mem_of_getElem? hi, .inr q⟩] at e; cases e) (x.keep b o e)
  len := by simp [x.len]
  obj := fun j q o' hj hmj => by
    by_cases z : j = n
    · subst z
      rw [hi] at hj; cases hj
      rw [List.getElem?_set_self (List.getElem?_eq_some_iff.mp hm).1] at hmj; cases hmj
      exact k
    · rw [List.getElem?_set_ne (Ne.symm z)] at hmj
      refine hide fun GOAL hGOAL => ?_
      obtain ⟨a1, a2, a3⟩ := x.apart j n q p z hj hi
      refine hGOAL ?_
      clear hGOAL GOAL
      refine hide fun GOAL hGOAL => ?_
      obtain ⟨b1, b2, b3⟩ := x.apart n j p q (Ne.symm z) hi hj
      refine hGOAL ?_
      clear hGOAL GOAL
      exact (x.obj j q o' hj hmj).step_same (step_set (own := []) (fr := []) x hi hm hk h1 h2 hd) (fun o e => hk _ o a1 a2 e) (fun o e => hk _ o (Ne.symm b2) a3 e)
  fresh := x.fresh
  apart := x.apart
end
end Mini

/-! The store of an item in a list. -/
namespace Mini
open PySem PySem.Calls

section
variable {prog : Program} {w : World} {A : Around} {E : Value → Shared → Prop} {s : Shared}
theorem setItem_lst {l : Addr} {ws : Array Value} {c : Nat} {k : Int} {t : Tok} {v : Value} {Q : Unit → Shared → Prop} (h1 : s.heap.get? l = some (lstO ws c)) (h0 : 0 ≤ k) (hf : k < 2 ^ 63) (hn : k < ws.size)
    (hQ : Q () { s with heap := s.heap.update l (Obj.mapSeq (·.setIfInBounds k.toNat v)) }) : wpAny (model prog w) A (setItem (.ref l) (.int k t) v) Q E s := by
  have hT : s.TypeIs (.ref l) "list" := ⟨_, h1, rfl⟩
  unfold setItem
  refine wpAny_holding ?_
  refine wpAny_bind (wpAny_sequenceKey hT (by decide) ?_)
  refine wpAny_bind (wpAny_callSpecial?_slot (name := Str.ofString "__setitem__") hT slot_list_setitem (wpAny_call_entry slot_list_setitem hT entry_list_setitem ?_ (args_list_setitem _ _ _)))
  show wpAny _ _ (Builtin.List.listSubscript? (.int k t) >>= _) _ _ s
  refine wpAny_bind (wpAny_listSubscript_int (fitsIndex_of h0 hf) ?_)
  clear hf
  obtain ⟨j, rfl⟩ := Int.eq_ofNat_of_zero_le h0
  have hj : j < ws.size := by omega
  show wpAny _ _ ((seqItemAt l j >>= fun r => pure (r.map (j, ·))) >>= _) _ _ s
  refine wpAny_bind (wpAny_bind (wpAny_seqItemAt h1 rfl (wpAny_pure ?_)))
  rw [Array.getElem?_eq_getElem hj]
  show wpAny _ _ (setSeqItemAt l j v >>= _) _ _ s
  refine wpAny_bind (wpAny_setSeqItemAt h1 rfl ?_)
  exact wpAny_pure ⟨.none, rfl, wpAny_pure hQ⟩
theorem setItem_neg {l : Addr} {ws : Array Value} {c : Nat} {k : Int} {t : Tok} {v : Value} {Q : Unit → Shared → Prop} (h1 : s.heap.get? l = some (lstO ws c)) (h0 : k < 0) (hf : -(2 ^ 63) ≤ k) (hn : 0 ≤ k + ws.size)
    (hQ : Q () { s with heap := s.heap.update l (Obj.mapSeq (·.setIfInBounds (k + ws.size).toNat v)) }) : wpAny (model prog w) A (setItem (.ref l) (.int k t) v) Q E s := by
  have hT : s.TypeIs (.ref l) "list" := ⟨_, h1, rfl⟩
  unfold setItem
  refine wpAny_holding ?_
  refine wpAny_bind (wpAny_sequenceKey hT (by decide) ?_)
  refine wpAny_bind (wpAny_callSpecial?_slot (name := Str.ofString "__setitem__") hT slot_list_setitem (wpAny_call_entry slot_list_setitem hT entry_list_setitem ?_ (args_list_setitem _ _ _)))
  show wpAny _ _ (Builtin.List.listSubscript? (.int k t) >>= _) _ _ s
  refine wpAny_bind (wpAny_listSubscript_int (fitsIndex_neg h0 hf) ?_)
  clear hf
  have hidx := seqIndex_neg (n := ws.size) h0 (by omega)
  have hj : (k + ws.size).toNat < ws.size := by omega
  obtain ⟨j, rfl⟩ : ∃ j : Nat, k = Int.negSucc j := by
    cases k with
    | ofNat n => exact absurd h0 (Int.not_lt.mpr (Int.ofNat_nonneg n))
    | negSucc n => exact ⟨n, rfl⟩
  show wpAny _ _ ((Builtin.List.listItems (.ref l) >>= fun xs => pure ((seqIndex? (Int.negSucc j) xs.size).bind fun i => xs[i]?.map (i, ·))) >>= _) _ _ s
  refine wpAny_bind (wpAny_bind ?_)
  show wpAny _ _ (seqItems? (.ref l) >>= _) _ _ s
  refine wpAny_bind (wpAny_seqItems h1 rfl (wpAny_pure (wpAny_pure ?_)))
  rw [hidx]
  simp only [Option.bind_some, Array.getElem?_eq_getElem hj, Option.map_some]
  show wpAny _ _ (setSeqItemAt l _ v >>= _) _ _ s
  refine wpAny_bind (wpAny_setSeqItemAt h1 rfl ?_)
  exact wpAny_pure ⟨.none, rfl, wpAny_pure hQ⟩
end
end Mini

/-! Frames, and what a step of the walk says. -/
namespace Mini
open PySem

noncomputable def frs (fs : List Env) : List Addr := fs.filterMap (·.frame)

structure FR (W : Wd) (h : Heap) (io : Io) (env : Env) (vis : List (Option Str)) (r : Lo) : Prop where
  kind : env.scope.kind = .function
  glob : env.globals = mainGlobals
  blt : env.builtins = builtinsNs
  nofoot : ¬ Foot io env.locals
  fresh : W.base.get? env.locals = none
  loc : ∃ mp, h.Ns env.locals mp ∧ ∀ (i : Nat) (x : Str) (v : V), vis[i]? = some (some x) → r[i]? = some (some v) → env.kindOf x = some .local → ∃ u, mp x = some u ∧ VR W h io v u
  cel : ∀ (i : Nat) (x : Str) (v : V), vis[i]? = some (some x) → r[i]? = some (some v) → (env.kindOf x = some .cell ∨ env.kindOf x = some .free) → ∃ c u, env.cells.lookup x = some c ∧ h.IsCell c (some u) ∧ VR W h io v u
  cells : ∀ (x : Str) (c : Addr), env.cells.lookup x = some c → (∃ o, h.IsCell c o) ∧ W.base.get? c = none ∧ c ≠ env.locals
  celex : ∀ (i : Nat) (x : Str), vis[i]? = some (some x) → (env.kindOf x = some .cell ∨ env.kindOf x = some .free) → ∃ c, env.cells.lookup x = some c
  apart : ∀ (x y : Str) (c : Addr), env.cells.lookup x = some c → env.cells.lookup y = some c → x = y
  inj : ∀ (i j : Nat) (x : Str), vis[i]? = some (some x) → vis[j]? = some (some x) → i = j
  len : r.length = vis.length

noncomputable def FF (W : Wd) (h : Heap) (io : Io) (fs : List Env) : Prop :=
  ∀ env ∈ fs, env.scope.kind ≠ .module ∧ ∃ L o es n, env.frame = some L ∧ W.base.get? L = none ∧ ¬ Foot io L ∧ h.get? L = some o ∧ o.data = .dict es n

structure AR (A : Around) (fs : List Env) (n : Nat) : Prop where
  frames : A.frames = some fs
  depth : A.depth + 4 * n ≤ 900
  units : A.units + 40 * n + 400 ≤ 9000

noncomputable def Same (s s' : Shared) : Prop := s'.gens = s.gens ∧ s'.os = s.os
theorem Same.refl (s : Shared) : Same s s := ⟨rfl, rfl⟩
theorem Same.trans {a b c : Shared} (x : Same a b) (y : Same b c) : Same a c := ⟨y.1.trans x.1, y.2.trans x.2⟩

/-- the end of an expression -/
noncomputable def NP (W : Wd) (own fr : List Addr) (s : Shared) (io : Io) (m : MH) {α β : Type} (P : Heap → Io → α → β → Prop) (R : Res α) (u : β) (s' : Shared) : Prop :=
  ∃ v m' io', R = .ok v m' ∧ Step own fr s.heap io m s'.heap io' m' ∧ HR W s'.heap io' m' ∧ P s'.heap io' v u ∧ Same s s'
/-- what stays while an exception flies -/
noncomputable def Kp (W : Wd) (h0 : Heap) (io : Io) (fs : List Env) (g B : Heap) : Prop :=
  ∀ b o, g.get? b = some o → (Foot io b ∨ Solid o ∨ W.base.get? b = some o ∨ ((∃ o', h0.get? b = some o') ∧ b ∉ frs fs)) → B.get? b = some o
/-- an exception came from a callee, or it was made here -/
noncomputable def Fly (W : Wd) (fs : List Env) (h0 : Heap) (io : Io) (g : Heap) (a : Addr) (c : Nat) (h' : Heap) : Prop :=
  ∃ B, Kp W h0 io fs g B ∧ ((∃ a0, Heap.FlyingW B fs a (.ref (W.ca c)) a0 h' ∧ g.UpToSlots h') ∨ (∃ a0 L env, fs.head? = some env ∧ env.frame = some L ∧ Heap.HeldW B fs a (.ref (W.ca c)) a0 L h' ∧ g.UpToSlots h') ∨ (∃ args, B.StaysIn g ∧ g.FunFrames B fs ∧ Heap.MadeExcOf g h' a (.ref (W.ca c)) args))
/-- an exception that flies -/
noncomputable def XP (W : Wd) (own : List Addr) (fs : List Env) (s : Shared) (io : Io) (m : MH) {α : Type} (R : Res α) (e : Value) (s' : Shared) : Prop :=
  ∃ c m' io' a g, R = .exc c m' ∧ e = .ref a ∧ Step own (frs fs) s.heap io m g io' m' ∧ HR W g io' m' ∧ Fly W fs s.heap io' g a c s'.heap ∧ Same s s'

noncomputable abbrev VP (W : Wd) : Heap → Io → V → Value → Prop := fun h io v u => VR W h io v u
noncomputable abbrev VsP (W : Wd) : Heap → Io → List V → List Value → Prop := fun h io v u => VRs W h io v u
noncomputable abbrev BP : Heap → Io → Bool → Bool → Prop := fun _ _ b c => b = c

section
variable {W : Wd} {h h' : Heap} {io io' : Io} {m m' : MH} {own fr : List Addr} {env : Env} {vis : List (Option Str)} {r : Lo} {fs : List Env} {s s' : Shared}

theorem ns_slots {h h' : Heap} {L : Addr} {mp : Str → Option Value} (x : h.Ns L mp) (k : ∀ o, h.get? L = some o → ∃ sl, h'.get? L = some { o with slots := sl }) : h'.Ns L mp := by
  refine hide fun GOAL hGOAL => ?_
  obtain ⟨o, es, ep, ho, hd, r⟩ := x
  refine hGOAL ?_
  clear hGOAL GOAL
  obtain ⟨sl, e⟩ := k o ho
  exact ⟨_, es, ep, e, hd, r⟩
theorem cell_slots {h h' : Heap} {c : Addr} {v : Option Value} (x : h.IsCell c v) (k : ∀ o, h.get? c = some o → ∃ sl, h'.get? c = some { o with slots := sl }) : h'.IsCell c v := by
  refine hide fun GOAL hGOAL => ?_
  obtain ⟨o, ho, hd⟩ := x
  refine hGOAL ?_
  clear hGOAL GOAL
  obtain ⟨sl, e⟩ := k o ho
  exact ⟨_, e, hd⟩

theorem FR.step (F : FR W h io env vis r) (H : HR W h io m) (x : Step own fr h io m h' io' m') (hL : env.locals ∉ own) (hc : ∀ y c, env.cells.lookup y = some c → c ∉ own) : FR W h' io' env vis r := by
  have sc : ∀ y c, env.cells.lookup y = some c → ∀ o, h.get? c = some o → ∃ sl, h'.get? c = some { o with slots := sl } := fun y c hy o ho => by
    refine hide fun GOAL hGOAL => ?_
    obtain ⟨⟨v, oc, hoc, hd⟩, _⟩ := F.cells y c hy
    refine hGOAL ?_
    clear hGOAL GOAL
    refine x.slots c o ho ?_ (hc y c hy)
    exact H.nofoot_of_cell hoc hd
  refine hide fun GOAL hGOAL => ?_
  obtain ⟨mp, hn, hl⟩ := F.loc
  refine hGOAL ?_
  clear hGOAL GOAL
  refine hide fun GOAL hGOAL => ?_
  obtain ⟨oL, _, _, hoL, _⟩ := id hn
  refine hGOAL ?_
  clear hGOAL GOAL
  refine ⟨F.kind, F.glob, F.blt, x.nofoot hoL F.nofoot, F.fresh, ⟨mp, ns_slots hn fun o ho => x.slots _ o ho F.nofoot hL, fun i y v h1 h2 h3 => ?_⟩, fun i y v h1 h2 h3 => ?_, fun y c hy => ?_, F.celex, F.apart, F.inj, F.len⟩
  · refine hide fun GOAL hGOAL => ?_
    obtain ⟨u, e, k⟩ := hl i y v h1 h2 h3
    refine hGOAL ?_
    clear hGOAL GOAL
    exact ⟨u, e, k.step x⟩
  · refine hide fun GOAL hGOAL => ?_
    obtain ⟨c, u, e, k1, k2⟩ := F.cel i y v h1 h2 h3
    refine hGOAL ?_
    clear hGOAL GOAL
    exact ⟨c, u, e, cell_slots k1 (sc y c e), k2.step x⟩
  · refine hide fun GOAL hGOAL => ?_
    obtain ⟨⟨o, k1⟩, k2, k3⟩ := F.cells y c hy
    refine hGOAL ?_
    clear hGOAL GOAL
    exact ⟨⟨o, cell_slots k1 (sc y c hy)⟩, k2, k3⟩
theorem FR.step0 (F : FR W h io env vis r) (H : HR W h io m) (x : Step [] fr h io m h' io' m') : FR W h' io' env vis r := F.step H x (fun q => nomatch q) fun _ _ _ q => nomatch q

theorem FF.step (F : FF W h io fs) (x : Step own fr h io m h' io' m') (ho : ∀ L ∈ frs fs, L ∉ own) : FF W h' io' fs := by
  intro env he
  refine hide fun GOAL hGOAL => ?_
  obtain ⟨hk, L, o, es, n, h1, h2, h3, h4, h5⟩ := F env he
  refine hGOAL ?_
  clear hGOAL GOAL
  obtain ⟨sl, e⟩ := x.slots L o h4 h3 (ho L (List.mem_filterMap.mpr ⟨env, he, h1⟩))
  exact ⟨hk, L, _, es, n, h1, h2, x.nofoot h4 h3, e, h5⟩
theorem FF.step0 (F : FF W h io fs) (x : Step [] fr h io m h' io' m') : FF W h' io' fs := F.step x fun _ _ q => nomatch q
theorem FF.funFrames (F : FF W h io fs) : h.FunFrames W.base fs := by
  induction fs with
  | nil => trivial
  | cons env fs ih =>
    refine hide fun GOAL hGOAL => ?_
    obtain ⟨hk, L, o, es, n, h1, h2, h3, h4, h5⟩ := F env (.head _)
    refine hGOAL ?_
    clear hGOAL GOAL
    exact ⟨hk, ⟨L, o, h1, h2, h4, fun vs q => by rw [h5] at q; cases q⟩, ih fun e he => F e (.tail _ he)⟩

theorem AR.cline {A : Around} {n : Nat} (x : AR A fs n) : A.units + 400 < cLine := by have := x.units; simp only [cLine]; omega

/-- a first part's exception is the whole's -/
theorem XP.bind {α β : Type} {R : Res α} {f : α → Mn β} {e : Value} {s₁ : Shared} {io₁ : Io} {m₁ : MH} (x : XP W own fs s₁ io₁ m₁ R e s') (st : Step own (frs fs) s.heap io m s₁.heap io₁ m₁) (sm : Same s s₁) : XP W own fs s io m (R.bind f) e s' := by
  refine hide fun GOAL hGOAL => ?_
  obtain ⟨c, m', io', a, g, rfl, h2, h3, h4, ⟨B, h5, h6⟩, h7⟩ := x
  refine hGOAL ?_
  clear hGOAL GOAL
  exact ⟨c, m', io', a, g, rfl, h2, st.trans h3, h4, ⟨B, fun b o e q => h5 b o e (q.imp id (Or.imp id (Or.imp id fun ⟨⟨o', e'⟩, q⟩ => ⟨st.alive b o' e', q⟩))), h6⟩, sm.trans h7⟩
theorem XP.mono {α : Type} {R : Res α} {e : Value} {s₁ : Shared} {io₁ : Io} {m₁ : MH} (x : XP W own fs s₁ io₁ m₁ R e s') (st : Step own (frs fs) s.heap io m s₁.heap io₁ m₁) (sm : Same s s₁) : XP W own fs s io m R e s' := by
  refine hide fun GOAL hGOAL => ?_
  obtain ⟨c, m', io', a, g, rfl, h2, h3, h4, ⟨B, h5, h6⟩, h7⟩ := x
  refine hGOAL ?_
  clear hGOAL GOAL
  exact ⟨c, m', io', a, g, rfl, h2, st.trans h3, h4, ⟨B, fun b o e q => h5 b o e (q.imp id (Or.imp id (Or.imp id fun ⟨⟨o', e'⟩, q⟩ => ⟨st.alive b o' e', q⟩))), h6⟩, sm.trans h7⟩
theorem NP.mono {α β : Type} {P : Heap → Io → α → β → Prop} {R : Res α} {u : β} {s₁ : Shared} {io₁ : Io} {m₁ : MH} (x : NP W own fr s₁ io₁ m₁ P R u s') (st : Step own fr s.heap io m s₁.heap io₁ m₁) (sm : Same s s₁) : NP W own fr s io m P R u s' := by
  refine hide fun GOAL hGOAL => ?_
  obtain ⟨v, m', io', rfl, h2, h3, h4, h5⟩ := x
  refine hGOAL ?_
  clear hGOAL GOAL
  exact ⟨v, m', io', rfl, st.trans h2, h3, h4, sm.trans h5⟩

/-- a tree bears a meaning -/
noncomputable def Si (W : Wd) (own : List Addr) (A : Around) (fs : List Env) {α β : Type} (P : Heap → Io → α → β → Prop) (t : Sem β) (s : Shared) (io : Io) (m : MH) (R : Res α) : Prop :=
  R ≠ .bad → wpAny (model W.prog W.w) A t (NP W own (frs fs) s io m P R) (XP W own fs s io m R) s

section
variable {α α' β β' γ : Type} {A : Around} {P : Heap → Io → α → β → Prop} {P' : Heap → Io → α' → β' → Prop}
theorem Res.bind_ne {R : Res α} {f : α → Mn α'} (h : R.bind f ≠ .bad) : R ≠ .bad := fun q => h (by rw [q]; rfl)

/-- one after the other -/
theorem Si.bind {t : Sem β} {k : β → Sem β'} {R : Res α} {f : α → Mn α'} (x : Si W own A fs P t s io m R)
    (y : ∀ u s₁ io₁ m₁ v, R = .ok v m₁ → Step own (frs fs) s.heap io m s₁.heap io₁ m₁ → HR W s₁.heap io₁ m₁ → P s₁.heap io₁ v u → Same s s₁ → Si W own A fs P' (k u) s₁ io₁ m₁ (f v m₁)) :
    Si W own A fs P' (t >>= k) s io m (R.bind f) := by
  intro hne
  refine wpAny_bind (wpAny_mono (x (Res.bind_ne hne)) (fun u s₁ hp => ?_) fun e s₁ hp => hp.bind .refl (.refl _))
  refine hide fun GOAL hGOAL => ?_
  obtain ⟨v, m₁, io₁, rfl, st, hr, hp, sm⟩ := hp
  refine hGOAL ?_
  clear hGOAL GOAL
  exact wpAny_mono (y u s₁ io₁ m₁ v rfl st hr hp sm hne) (fun _ _ z => z.mono st sm) fun _ _ z => z.mono st sm
theorem Si.pure {u : β} {v : α} (H : HR W s.heap io m) (p : P s.heap io v u) : Si W own A fs P (Pure.pure u) s io m (.ok v m) :=
  fun _ => wpAny_pure ⟨v, m, io, rfl, .refl, H, p, .refl _⟩
theorem Si.bad {t : Sem β} : Si W own A fs P t s io m .bad := fun h => absurd rfl h
/-- a step that only turns the state without a word -/
theorem Si.standAt {pos : Pos} {k : Unit → Sem β} {R : Res α} (x : Si W own A fs P (k ()) s io m R) : Si W own A fs P (PySem.standAt pos >>= k) s io m R :=
  fun h => wpAny_bind (wpAny_standAt (x h))
theorem Si.holding {vs : List Value} {t : Sem β} {R : Res α} (x : Si W own A fs P t s io m R) : Si W own A fs P (holding vs t) s io m R := fun h => wpAny_holding (x h)
theorem wpAny_operate {M : Model} {A : Around} {E : Value → Shared → Prop} {s : Shared} {vs : List Value} {t : Sem Value} {Q : Value → Shared → Prop} (h : wpAny M A t Q E s) : wpAny M A (operate vs t) Q E s :=
  fun Γ p hΓ => by rw [Sem.wp_operate]; exact h Γ p hΓ
theorem Si.operate {vs : List Value} {t : Sem Value} {P : Heap → Io → α → Value → Prop} {R : Res α} (x : Si W own A fs P t s io m R) : Si W own A fs P (operate vs t) s io m R := fun h => wpAny_operate (x h)
end
end
end Mini

/-! An exception is noted in a frame. -/
namespace Mini
open PySem
section
variable {M : Model} {A : Around} {E : Value → Shared → Prop} {s : Shared} {W : Wd} {fs : List Env} {env : Env}
theorem looks_made {base h : Heap} {outer : List Env} {L e : Addr} {cls : Value} {args : List Value} {Q : Unit → Shared → Prop}
    (hfr : A.frames = some (env :: outer)) (hf : env.frame = some L) (hkb : base.StaysIn h) (hl : h.FunFrames base (env :: outer)) (hx : Heap.MadeExcOf h s.heap e cls args)
    (hQ : ∀ h' t, Heap.HeldW base (env :: outer) e cls (.ref t) L h' → s.heap.UpToSlots h' → Q () { s with heap := h' }) : wpAny M A (noteFrame (.ref e) env) Q E s := by
  refine hide fun GOAL hGOAL => ?_
  obtain ⟨t, he, htn, ht⟩ := hx.there
  refine hGOAL ?_
  clear hGOAL GOAL
  have fresh : ∀ b, h.get? b = none → base.get? b = none := fun b hb => by
    cases hq : base.get? b with
    | none => rfl
    | some o' => have := hkb b o' hq; rw [hb] at this; cases this
  unfold noteFrame
  simp only [hf]
  refine wpAny_bind (wpAny_field (x := .none) he rfl rfl ?_)
  rw [if_neg (by decide)]
  refine wpAny_entryW (a0 := .ref t) hfr (hl.of_keeps fun b o hb _ => ⟨o, hx.keeps b o hb, rfl⟩) hf he (fun b o hb => hx.keeps b o (hkb b o hb)) (fresh e hx.new) rfl (show 1 < 6 by decide) rfl fun h' hN => ?_
  refine hide fun GOAL hGOAL => ?_
  obtain ⟨k1, k2, k3, k4⟩ := hN
  refine hGOAL ?_
  clear hGOAL GOAL
  exact hQ h' t ⟨k1, fresh e hx.new, k2, k3⟩ k4
/-- the flight of a held one -/
theorem setFlight_held {base : Heap} {l : List Env} {e L L' : Addr} {cls a0 : Value} {Q : Unit → Shared → Prop} (R : Heap.HeldW base l e cls a0 L' s.heap)
    (h : ∀ h', Heap.HeldW base l e cls a0 L h' → s.heap.UpToSlots h' → Q () { s with heap := h' }) : wpAny M A (setFlight (.ref e) (some L)) Q E s := by
  refine hide fun GOAL hGOAL => ?_
  obtain ⟨hkb, hen, hl, oe, vs, T, oT, ts, he, hcls, hd, h1, hnT, hTe, hT, hdT, h3⟩ := R
  refine hGOAL ?_
  clear hGOAL GOAL
  have hsz3 : 3 < ts.size := (Array.getElem?_eq_some_iff.mp h3).1
  have other : ∀ b, b ≠ T → (s.heap.update T (Obj.mapFields (·.setIfInBounds 3 ((some L).elim Value.none fun f => rawInt f)))).get? b = s.heap.get? b :=
    fun b hb => Heap.get?_update_other _ _ (Ne.symm hb)
  have noRecord : ∀ b o, s.heap.get? b = some o → (∀ vs, o.data ≠ .fields vs) → b ≠ T := fun b o hb hnf q => by
    rw [q, hT] at hb; injection hb with hb; subst hb; exact hnf ts hdT
  unfold setFlight
  refine wpAny_bind (wpAny_field he hd h1 ?_)
  rw [if_pos (show (Value.ref T != Value.none) = true from by simp)]
  refine wpAny_setField hT hdT hsz3 (h _ ⟨fun b o hbo => (other b fun q => by rw [q, hnT] at hbo; cases hbo).trans (hkb b o hbo), hen,
    hl.of_keeps fun b o hb hnf => ⟨o, (other b (noRecord b o hb hnf)).trans hb, rfl⟩, ?_⟩ fun b o hb hnf => ⟨o.slots, (other b (noRecord b o hb hnf)).trans hb⟩)
  exact ⟨oe, vs, T, _, _, (other e (Ne.symm hTe)).trans he, hcls, hd, h1, hnT, hTe, Heap.get?_update_self _ hT (Obj.isFreed_of_fields (Obj.data_mapFields hdT _)), Obj.data_mapFields hdT _, by simp [hsz3]⟩
/-- however it came, it is noted -/
theorem note_any {h0 : Heap} {io : Io} {g : Heap} {a c : Nat} {Q : Unit → Shared → Prop} {L : Addr} (hA : A.frames = some (env :: fs)) (hf : env.frame = some L) (x : Fly W (env :: fs) h0 io g a c s.heap)
    (k : ∀ B h' a0, Kp W h0 io (env :: fs) g B → Heap.HeldW B (env :: fs) a (.ref (W.ca c)) a0 L h' → g.UpToSlots h' → Q () { s with heap := h' }) : wpAny M A (noteFrame (.ref a) env) Q E s := by
  refine hide fun GOAL hGOAL => ?_
  obtain ⟨B, kp, fly⟩ := x
  refine hGOAL ?_
  clear hGOAL GOAL
  rcases fly with ⟨a0, f1, f2⟩ | ⟨a0, L', env', f0, f0', f1, f2⟩ | ⟨args, f1, f2, f3⟩
  · exact wpAny_looks_onW hA hf f1 fun h' q1 q2 => k B h' a0 kp q1 (f2.trans q2)
  · cases f0
    rw [hf] at f0'; cases f0'
    exact wpAny_noteFrame_againW hf f1.2.2.2 (k B _ a0 kp f1 f2)
  · exact looks_made hA hf f1 f2 f3 fun h' t q1 q2 => k B h' _ kp q1 ((Heap.UpToSlots.of_keeps f3.keeps).trans q2)
/-- it comes back through a block of the frame's own -/
theorem noted_back {io : Io} {m : MH} {own : List Addr} {α : Type} {R : Res α} {e : Value} {s₀ : Shared} {L : Addr} (hA : A.frames = some (env :: fs)) (hf : env.frame = some L) (x : XP W own (env :: fs) s₀ io m R e s) :
    notedBy M A env (cameBackBy M A env (XP W own (env :: fs) s₀ io m R)) e s := by
  refine hide fun GOAL hGOAL => ?_
  obtain ⟨c, m', io', a, g, h1, rfl, st, Hg, fly, sm⟩ := x
  refine hGOAL ?_
  clear hGOAL GOAL
  refine note_any hA hf fly fun B h' a0 kp hh up => ?_
  refine hide fun GOAL hGOAL => ?_
  obtain ⟨oe, vs, T, oT, ts, he, hcls, hd, hv, _⟩ := id hh.2.2.2
  refine hGOAL ?_
  clear hGOAL GOAL
  unfold cameBackBy
  refine wpAny_bind (wpAny_field he hd hv ?_)
  rw [if_neg (show ¬ ((Value.ref T == Value.none) = true) from by simp)]
  rw [hf]
  first
    | refine wpAny_bind (wpAny_pure ?_)
    | skip
  refine setFlight_held (L := L) hh fun h₂ hh₂ up₂ => ?_
  exact ⟨c, m', io', a, g, h1, rfl, st, Hg, ⟨B, kp, .inr (.inl ⟨a0, L, env, rfl, hf, hh₂, up.trans up₂⟩)⟩, sm⟩
end
end Mini

namespace Mini
open PySem

theorem lid_eq : lid = 4194304 := rfl
section
variable {W : Wd} {own : List Addr} {A : Around} {fs : List Env} {s : Shared} {io : Io} {m : MH} {n : Nat}

/-! ## reading -/
theorem allO_cons {α β : Type} {g : α → Option β} {x : α} {xs : List α} {ds : List β} (h : allO g (x :: xs) = some ds) : ∃ d r, ds = d :: r ∧ g x = some d ∧ allO g xs = some r := by
  unfold allO at h
  cases h1 : g x with
  | none => rw [h1] at h; cases h
  | some d =>
    cases h2 : allO g xs with
    | none => rw [h1, h2] at h; cases h
    | some r => rw [h1, h2] at h; cases h; exact ⟨d, r, rfl, rfl, rfl⟩

theorem readsAll_of {f : Nat} (one : ∀ (v : V) (u : Value) (d : PyData), rd f m v = some d → VR W s.heap io v u → (∃ as, Reads s.heap u d as) ∧ d.canLay0 = true ∧ d.depth ≤ f) : ∀ (xs : List V) (us : List Value) (ds : List PyData), allO (rd f m) xs = some ds → VRs W s.heap io xs us → (∃ as, ReadsAll s.heap us ds as) ∧ PyData.canLayAll0 ds = true ∧ PyData.depthAll ds ≤ f
  | [], us, ds, h, k => by
    cases k
    simp [allO] at h; subst h
    exact ⟨⟨_, .nil⟩, rfl, by simp [PyData.depthAll]⟩
  | x :: xs, us, ds, h, k => by
    refine hide fun GOAL hGOAL => ?_
    obtain ⟨d, r, rfl, h1, h2⟩ := allO_cons h
    refine hGOAL ?_
    clear hGOAL GOAL
    cases k with
    | cons k1 k2 =>
      refine hide fun GOAL hGOAL => ?_
      obtain ⟨⟨as, r1⟩, c1, d1⟩ := one x _ d h1 k1
      refine hGOAL ?_
      clear hGOAL GOAL
      refine hide fun GOAL hGOAL => ?_
      obtain ⟨⟨bs, r2⟩, c2, d2⟩ := readsAll_of one xs _ r h2 k2
      refine hGOAL ?_
      clear hGOAL GOAL
      exact ⟨⟨_, .cons r1 r2⟩, by simp [PyData.canLayAll0, c1, c2], by simp only [PyData.depthAll]; omega⟩
theorem reads_of (H : HR W s.heap io m) : ∀ (f : Nat) (v : V) (u : Value) (d : PyData), rd f m v = some d → VR W s.heap io v u → (∃ as, Reads s.heap u d as) ∧ d.canLay0 = true ∧ d.depth ≤ f
  | 0, _, _, _, h, _ => nomatch (show none = some _ from h)
  | f + 1, v, u, d, h, k => by
    cases k with
    | none => have h : some PyData.none = some d := h; cases h; exact ⟨⟨_, .none⟩, rfl, by simp [PyData.depth]⟩
    | bool b => have h : some (PyData.bool b) = some d := h; cases h; exact ⟨⟨_, .bool b⟩, rfl, by simp [PyData.depth]⟩
    | int i t => have h : some (PyData.int i) = some d := h; cases h; exact ⟨⟨_, .int i t⟩, rfl, by simp [PyData.depth]⟩
    | str x t ok => have h : some (PyData.str x) = some d := h; cases h; exact ⟨⟨_, .str x t⟩, by simpa [PyData.canLay0] using ok, by simp [PyData.depth]⟩
    | tup h1 h4 =>
      simp only [rd, Option.map_eq_some_iff] at h
      refine hide fun GOAL hGOAL => ?_
      obtain ⟨ds, hds, rfl⟩ := h
      refine hGOAL ?_
      clear hGOAL GOAL
      refine hide fun GOAL hGOAL => ?_
      obtain ⟨⟨as, hr⟩, hc, hd⟩ := readsAll_of (reads_of H f) _ _ ds hds h4
      refine hGOAL ?_
      clear hGOAL GOAL
      exact ⟨⟨_, .tuple h1 rfl rfl hr⟩, by simpa [PyData.canLay0] using hc, by simp only [PyData.depth]; omega⟩
    | ref h1 =>
      rename_i k a d'
      simp only [rd] at h
      split at h
      · rename_i xs hx
        simp only [Option.map_eq_some_iff] at h
        refine hide fun GOAL hGOAL => ?_
        obtain ⟨ds, hds, rfl⟩ := h
        refine hGOAL ?_
        clear hGOAL GOAL
        refine hide fun GOAL hGOAL => ?_
        obtain ⟨_, vs, n', g1, g4, _⟩ := H.obj _ _ _ h1 hx
        refine hGOAL ?_
        clear hGOAL GOAL
        refine hide fun GOAL hGOAL => ?_
        obtain ⟨⟨as, hr⟩, hc, hd⟩ := readsAll_of (reads_of H f) _ _ ds hds g4
        refine hGOAL ?_
        clear hGOAL GOAL
        exact ⟨⟨_, .list g1 rfl rfl hr⟩, by simpa [PyData.canLay0] using hc, by simp only [PyData.depth]; omega⟩
      · cases h
    | fn k => exact nomatch (show none = some d from h)
    | exc _ _ _ => exact nomatch (show none = some d from h)
    | scr _ _ _ _ _ => exact nomatch (show none = some d from h)

/-- a bool's value -/
noncomputable abbrev BV : Heap → Io → Bool → Value → Prop := fun _ _ b u => u = .bool b

theorem ne_zero_int (k : Nat) : ((k : Int) != 0) = (k != 0) := by
  rw [Bool.eq_iff_iff]; simp
theorem empty_of {xs : List V} {vs : Array Value} (e : vs.toList.length = xs.length) : (!vs.isEmpty) = !xs.isEmpty := by
  rw [Array.length_toList] at e
  cases xs with
  | nil => have : vs = #[] := Array.eq_empty_of_size_eq_zero e; subst this; rfl
  | cons x xs =>
    have : vs.isEmpty = false := by
      rw [Array.isEmpty_eq_false_iff]; intro q; subst q; simp at e
    rw [this]; rfl
theorem truth_sim (H : HR W s.heap io m) {v : V} {u : Value} (k : VR W s.heap io v u) : Si W own A fs BP (truthy u) s io m (truth v m) := by
  cases k with
  | none => exact fun _ => wpAny_pure (a := false) ⟨false, m, io, rfl, .refl, H, rfl, .refl _⟩
  | bool b => exact fun _ => wpAny_truthy_bool ⟨b, m, io, rfl, .refl, H, rfl, .refl _⟩
  | int i t => exact fun _ => P.truthy_int ⟨_, m, io, rfl, .refl, H, rfl, .refl _⟩
  | str x t ok =>
    simp only [truth]
    split
    · rename_i hl
      exact fun _ => P.truthy_str (by rw [lid_eq] at hl; omega) ⟨_, m, io, rfl, .refl, H, (ne_zero_int _).symm, rfl, rfl⟩
    · exact Si.bad
  | tup h1 h4 =>
    simp only [truth]
    split
    · rename_i hl
      have e := h4.length
      exact fun _ => PyProof.Rows.truthy_tuple ⟨_, h1, rfl, _, rfl⟩ (by rw [lid_eq] at hl; rw [Array.length_toList] at e; omega) ⟨_, m, io, rfl, .refl, H, (empty_of e).symm, rfl, rfl⟩
    · exact Si.bad
  | ref h1 =>
    simp only [truth]
    split
    · rename_i xs hx
      refine hide fun GOAL hGOAL => ?_
      obtain ⟨_, vs, n', g1, g4, g5⟩ := H.obj _ _ _ h1 hx
      refine hGOAL ?_
      clear hGOAL GOAL
      have e := g4.length
      exact fun _ => wpAny_truthy_list ⟨_, g1, rfl, _, rfl⟩ (by rw [lid_eq] at g5; rw [Array.length_toList] at e; omega) ⟨_, m, io, rfl, .refl, H, (empty_of e).symm, rfl, rfl⟩
    · exact Si.bad
  | fn k => exact Si.bad
  | exc _ _ _ => exact Si.bad
  | scr _ _ _ _ _ => exact Si.bad

/-! ## new objects -/
theorem push_keeps {h : Heap} (o : Obj) : ∀ b o', h.get? b = some o' → (h.push o).get? b = some o' := fun _ _ e => Heap.get?_push_of_some o e
theorem get_size (h : Heap) : h.get? h.objs.size = none := by
  cases q : h.get? h.objs.size with
  | none => rfl
  | some o => exact absurd (Heap.lt_size q) (Nat.lt_irrefl _)
theorem np_list {fr : List Addr} (H : HR W s.heap io m) {vs : Array Value} {xs : List V} {k tk : Nat} (hv : VRs W s.heap io xs vs.toList) (hl : xs.length ≤ lid) :
    NP W own fr s io m (VP W) (alloc (.list xs) m) (.ref s.heap.objs.size) { s with heap := s.heap.push (lstO vs k), toks := tk } := by
  have st : Step own fr s.heap io m (s.heap.push (lstO vs k)) (io ++ [(s.heap.objs.size, s.heap.objs.size)]) (m ++ [.list xs]) := step_alloc H (push_keeps _) (get_size _) (get_size _)
  refine ⟨_, _, _, rfl, st, H.alloc (push_keeps _) (get_size _) (get_size _) ⟨rfl, vs, k, Heap.get?_push_size _ rfl, hv.step st, hl⟩, .ref (d := s.heap.objs.size) ?_, rfl, rfl⟩
  rw [← H.len]; simp
theorem np_tup {fr : List Addr} (H : HR W s.heap io m) {vs : Array Value} {xs : List V} {k tk : Nat} (hv : VRs W s.heap io xs vs.toList) :
    NP W own fr s io m (VP W) (.ok (.tup xs) m) (.ref s.heap.objs.size) { s with heap := s.heap.push (tupO vs k), toks := tk } := by
  have st : Step own fr s.heap io m (s.heap.push (tupO vs k)) io m := .of_keeps H (push_keeps _)
  exact ⟨_, _, _, rfl, st, H.of_keeps (push_keeps _), .tup (Heap.get?_push_size _ rfl) (hv.step st), rfl, rfl⟩
theorem np_val {fr : List Addr} (H : HR W s.heap io m) {v : V} {u : Value} {tk : Nat} (hv : VR W s.heap io v u) : NP W own fr s io m (VP W) (.ok v m) u { s with toks := tk } :=
  ⟨v, m, io, rfl, .refl, H, hv, rfl, rfl⟩
theorem strOk_append {x y : Str} (hx : PyData.strOk x = true) (hy : PyData.strOk y = true) : PyData.strOk (x ++ y) = true := by
  unfold PyData.strOk at *
  rw [Str.cps_append]
  simp only [Array.all_append, hx, hy, Bool.and_self]

theorem sizeLine_lid {k : Nat} (h : k ≤ lid) : k ≤ sizeLine := by rw [lid_eq] at h; show k ≤ 2 ^ 24; omega

/-! ## operators -/
theorem bits_small {i : Int} (h : i.natAbs < 1073741824) : Builtin.Int.intBits i ≤ 64 := by
  unfold Builtin.Int.intBits
  split
  · omega
  · rename_i h0
    have h1 : i.natAbs ≠ 0 := by
      intro q
      have : i = 0 := by omega
      subst this; simp at h0
    have := (Nat.log2_lt h1 (k := 30)).mpr (by omega)
    omega
theorem bin_cases {Pr : Operator → V → V → Prop} (a1 : ∀ i j, Pr .Add (.int i) (.int j)) (a2 : ∀ i j, Pr .Sub (.int i) (.int j)) (a3 : ∀ i j, Pr .Mult (.int i) (.int j)) (a4 : ∀ i j, Pr .FloorDiv (.int i) (.int j)) (a5 : ∀ i j, Pr .Mod (.int i) (.int j))
    (a6 : ∀ x y, Pr .Add (.str x) (.str y)) (a7 : ∀ x y, Pr .Add (.tup x) (.tup y)) (a8 : ∀ p q, Pr .Add (.ref p) (.ref q)) (a9 : ∀ ns q, Pr .Add (.scr ns) (.ref q)) (bad : ∀ op a b, binV op a b = (fun _ => .bad) → Pr op a b) (op : Operator) (a b : V) : Pr op a b := by
  cases op <;> first | (exact bad _ _ _ rfl) | skip
  all_goals cases a <;> first | (exact bad _ _ _ rfl) | skip
  all_goals cases b <;> first | (exact a1 _ _) | (exact a2 _ _) | (exact a3 _ _) | (exact a4 _ _) | (exact a5 _ _) | (exact a6 _ _) | (exact a7 _ _) | (exact a8 _ _) | (exact a9 _ _) | (exact bad _ _ _ rfl)
theorem bin_sim (H : HR W s.heap io m) {op : Operator} {v x : V} {u y : Value} (k : VR W s.heap io v u) (l : VR W s.heap io x y) :
    Si W own A fs (VP W) (binaryOp op u y) s io m (binV op v x m) := by
  revert k l
  refine bin_cases (Pr := fun op v x => VR W s.heap io v u → VR W s.heap io x y → Si W own A fs (VP W) (binaryOp op u y) s io m (binV op v x m)) ?_ ?_ ?_ ?_ ?_ ?_ ?_ ?_ ?_ ?_ op v x
  · intro i j k l; cases k; cases l; exact fun _ => P.add_int (np_val H (.int _ _))
  · intro i j k l; cases k; cases l; exact fun _ => P.sub_int (np_val H (.int _ _))
  · intro i j k l; cases k; cases l
    show Si W own A fs (VP W) _ s io m (if i.natAbs < 1073741824 ∨ j.natAbs < 1073741824 then .ok (.int (i * j)) m else .bad)
    split
    · rename_i hc
      intro _
      refine P.mul_int (np_val H (.int _ _)) ?_
      rcases hc with hc | hc
      · exact IntMulOk.of_left (bits_small hc)
      · exact IntMulOk.of_right (bits_small hc)
    · exact Si.bad
  · intro i j k l; cases k; cases l
    show Si W own A fs (VP W) _ s io m (if 0 < j ∧ j.natAbs < 1073741824 then .ok (.int (i / j)) m else .bad)
    split
    · rename_i hj
      rw [← Int.fdiv_eq_ediv_of_nonneg _ (Int.le_of_lt hj.1)]
      exact fun _ => PyProof.Rows.floordiv_int (Int.ne_of_gt hj.1) (np_val H (.int _ _)) (.inl (PyProof.noPylong_small hj.2))
    · exact Si.bad
  · intro i j k l; cases k; cases l
    show Si W own A fs (VP W) _ s io m (if 0 < j then .ok (.int (i % j)) m else .bad)
    split
    · rename_i hj
      rw [← Int.fmod_eq_emod_of_nonneg _ (Int.le_of_lt hj)]
      exact fun _ => PyProof.Rows.mod_int (Int.ne_of_gt hj) (np_val H (.int _ _))
    · exact Si.bad
  · intro x y k l
    cases k with | str _ _ k1 => cases l with | str _ _ l1 =>
    show Si W own A fs (VP W) _ s io m (if x.length + y.length ≤ lid then .ok (.str (x ++ y)) m else .bad)
    split
    · rename_i hl
      exact fun _ => PyProof.Rows.add_str (fun t' tk => np_val H (.str _ _ (strOk_append k1 l1))) (sizeLine_lid hl)
    · exact Si.bad
  · intro xs ys k l
    cases k with | tup h1 h4 => cases l with | tup g1 g4 =>
    rename_i a1 vs1 n1 a2 vs2 n2
    show Si W own A fs (VP W) _ s io m (if xs.length + ys.length ≤ lid then .ok (.tup (xs ++ ys)) m else .bad)
    split
    · rename_i hl
      have e1 := h4.length
      have e2 := g4.length
      rw [Array.length_toList] at e1 e2
      intro _
      by_cases q1 : vs1.isEmpty = true
      · have z1 : xs = [] := by
          have : vs1.size = 0 := by simpa using q1
          exact List.eq_nil_of_length_eq_zero (by omega)
        subst z1
        exact concat_meets ⟨_, h1, rfl⟩ ⟨_, g1, rfl⟩ noFill_tuple_add seq_tuple_add PySem.F.slot_tuple_add PySem.F.entry_tuple_add (PySem.F.args_tuple_add_2 _ _)
          (PyProof.Rows.tuple_addW0 _ _ vs1 vs2 n1 n2 none none #[] #[] q1) ⟨h1, g1, np_val (tk := s.toks) H (by simpa using VR.tup g1 g4)⟩
      · by_cases q2 : vs2.isEmpty = true
        · have z2 : ys = [] := by
            have : vs2.size = 0 := by simpa using q2
            exact List.eq_nil_of_length_eq_zero (by omega)
          subst z2
          exact concat_meets ⟨_, h1, rfl⟩ ⟨_, g1, rfl⟩ noFill_tuple_add seq_tuple_add PySem.F.slot_tuple_add PySem.F.entry_tuple_add (PySem.F.args_tuple_add_2 _ _)
            (PyProof.Rows.tuple_addW1 _ _ vs1 vs2 n1 n2 none none #[] #[] q1 q2) ⟨h1, g1, np_val (tk := s.toks) H (by simpa using VR.tup h1 h4)⟩
        · exact concat_meets ⟨_, h1, rfl⟩ ⟨_, g1, rfl⟩ noFill_tuple_add seq_tuple_add PySem.F.slot_tuple_add PySem.F.entry_tuple_add (PySem.F.args_tuple_add_2 _ _)
            (PyProof.Rows.tuple_addW2 _ _ vs1 vs2 n1 n2 none none #[] #[] q1 q2 (sizeLine_lid (by omega))) ⟨h1, g1, np_tup H (by rw [Array.toList_append]; exact h4.append g4)⟩
    · exact Si.bad
  · intro p q k l
    cases k with | ref h1 => cases l with | ref g1 =>
    show Si W own A fs (VP W) _ s io m (match m[p]?, m[q]? with | some (.list x), some (.list y) => if x.length + y.length ≤ lid then alloc (.list (x ++ y)) m else .bad | _, _ => .bad)
    split
    · rename_i x y hx hy
      refine hide fun GOAL hGOAL => ?_
      obtain ⟨_, vs, n', a1, a4, a5⟩ := H.obj _ _ _ h1 hx
      refine hGOAL ?_
      clear hGOAL GOAL
      refine hide fun GOAL hGOAL => ?_
      obtain ⟨_, ws, n2, b1, b4, b5⟩ := H.obj _ _ _ g1 hy
      refine hGOAL ?_
      clear hGOAL GOAL
      split
      · rename_i hl
        have e1 := a4.length
        have e2 := b4.length
        rw [Array.length_toList] at e1 e2
        exact fun _ => P.add_list a1 b1 (np_list H (by rw [Array.toList_append]; exact a4.append b4) (by simpa using hl)) (sizeLine_lid (by omega))
      · exact Si.bad
    · exact Si.bad
  · intro ns q k l
    cases l with | ref g1 =>
    cases k with | @scr _ l' o vs n' h1 h2 h3 h4 h5 =>
    show Si W own A fs (VP W) _ s io m (match m[q]? with | some (.list y) => if ns.length + y.length ≤ lid then alloc (.list (ns.map .int ++ y)) m else .bad | _ => .bad)
    split
    · rename_i y hy
      refine hide fun GOAL hGOAL => ?_
      obtain ⟨_, ws, n2, b1, b4, b5⟩ := H.obj _ _ _ g1 hy
      refine hGOAL ?_
      clear hGOAL GOAL
      split
      · rename_i hl
        refine hide fun GOAL hGOAL => ?_
        obtain ⟨cl, dd, dt, sl⟩ := o
        refine hGOAL ?_
        clear hGOAL GOAL
        have h2 : cl = _ := h2
        have h3 : dt = _ := h3
        subst h2 h3
        have e1 := h4.length
        have e2 := b4.length
        rw [Array.length_toList] at e1 e2
        exact fun _ => concat_meets ⟨_, H.keep _ _ h1, rfl⟩ ⟨_, b1, rfl⟩ noFill_list_add seq_list_add PySem.F.slot_list_add PySem.F.entry_list_add (PySem.F.args_list_add_2 _ _)
          (PyProof.Rows.list_addW _ _ vs ws n' n2 dd none sl #[] (sizeLine_lid (by omega))) ⟨H.keep _ _ h1, b1, np_list H (by rw [Array.toList_append]; exact h4.vrs.append b4) (by simpa using hl)⟩
      · exact Si.bad
    · exact Si.bad
  · intro op a b e k l; rw [e]; exact Si.bad

theorem np_bool {fr : List Addr} (H : HR W s.heap io m) {b : Bool} {tk : Nat} : NP W own fr s io m BV (.ok b m) (.bool b) { s with toks := tk } := ⟨b, m, io, rfl, .refl, H, rfl, rfl, rfl⟩

/-- «not in» by «in» -/
theorem notIn_of_in {M : Model} {A : Around} {E : Value → Shared → Prop} {s : Shared} {a b : Value} {Q : Value → Shared → Prop} (h : wpAny M A (compareOp .In a b) (fun v s' => ∃ c, v = .bool c ∧ Q (.bool (!c)) s') E s) :
    wpAny M A (compareOp .NotIn a b) Q E s := by
  intro Γ p hΓ
  have h1 := h Γ p hΓ
  show Sem.wp M Γ (contains b a >>= fun c => pure (Value.bool (!c))) _ _ p s
  have h2 : Sem.wp M Γ (contains b a >>= fun c => pure (Value.bool c)) (fun v _ s' => ∃ c, v = .bool c ∧ Q (.bool (!c)) s') (fun e _ s' => E e s') p s := h1
  rw [Sem.wp_bind'] at h2 ⊢
  refine Sem.wp_mono M Γ _ (fun c p' s' h' => ?_) (fun _ _ _ x => x) p s h2
  refine hide fun GOAL hGOAL => ?_
  obtain ⟨c', e, q⟩ := h'
  refine hGOAL ?_
  clear hGOAL GOAL
  cases e
  exact q

theorem isNot_of_is {M : Model} {A : Around} {E : Value → Shared → Prop} {s : Shared} {a b : Value} {Q : Value → Shared → Prop} (h : wpAny M A (compareOp .Is a b) (fun v s' => ∃ c, v = .bool c ∧ Q (.bool (!c)) s') E s) :
    wpAny M A (compareOp .IsNot a b) Q E s := by
  intro Γ p hΓ
  have h1 := h Γ p hΓ
  show Sem.wp M Γ (isSame a b >>= fun c => pure (Value.bool (!c))) _ _ p s
  have h2 : Sem.wp M Γ (isSame a b >>= fun c => pure (Value.bool c)) (fun v _ s' => ∃ c, v = .bool c ∧ Q (.bool (!c)) s') (fun e _ s' => E e s') p s := h1
  rw [Sem.wp_bind'] at h2 ⊢
  refine Sem.wp_mono M Γ _ (fun c p' s' h' => ?_) (fun _ _ _ x => x) p s h2
  refine hide fun GOAL hGOAL => ?_
  obtain ⟨c', e, q⟩ := h'
  refine hGOAL ?_
  clear hGOAL GOAL
  cases e
  exact q

/-- the turned word from the plain one -/
theorem Si.not {t t' : Sem Value} {R : Res Bool} (x : Si W own A fs BV t s io m R)
    (k : ∀ (E : Value → Shared → Prop) (Q : Value → Shared → Prop), wpAny (model W.prog W.w) A t (fun v s' => ∃ c, v = .bool c ∧ Q (.bool (!c)) s') E s → wpAny (model W.prog W.w) A t' Q E s) : Si W own A fs BV t' s io m (R.bind fun c => ret (!c)) := by
  intro hne
  refine k _ _ (wpAny_mono (x (Res.bind_ne hne)) (fun u s' p => ?_) fun e s' p => p.bind .refl (.refl _))
  refine hide fun GOAL hGOAL => ?_
  obtain ⟨v, m', io', rfl, a1, a2, a3, a4⟩ := p
  refine hGOAL ?_
  clear hGOAL GOAL
  exact ⟨v, a3, _, m', io', rfl, a1, a2, rfl, a4⟩

theorem vr_none {v : V} {u : Value} {h : Heap} : VR W h io v u → (u == .none) = (match v with | .none => true | _ => false) := fun k => by
  cases k <;> rfl
theorem vr_bool {v : V} {u : Value} {h : Heap} (b : Bool) : VR W h io v u → isSame u (.bool b) = pure (u == .bool b) ∧ (u == .bool b) = (match v with | .bool d => d == b | _ => false) := fun k => by
  cases k with
  | bool c => cases c <;> cases b <;> exact ⟨rfl, rfl⟩
  | _ => exact ⟨rfl, rfl⟩
theorem is_sim (H : HR W s.heap io m) {v x : V} {u y : Value} (k : VR W s.heap io v u) (l : VR W s.heap io x y) : Si W own A fs BV (compareOp .Is u y) s io m (isV v x m) := by
  unfold isV
  split
  · cases l
    intro _
    show wpAny _ _ (isSame u .none >>= fun c => pure (Value.bool c)) _ _ s
    rw [isSame_none]
    refine wpAny_pure ?_
    exact ⟨_, m, io, rfl, .refl, H, congrArg Value.bool (vr_none k), rfl, rfl⟩
  · rename_i b
    cases l
    intro _
    show wpAny _ _ (isSame u (.bool b) >>= fun c => pure (Value.bool c)) _ _ s
    rw [(vr_bool b k).1]
    refine wpAny_pure ?_
    exact ⟨_, m, io, rfl, .refl, H, congrArg Value.bool (vr_bool b k).2, rfl, rfl⟩
  · exact Si.bad
end
end Mini

namespace Mini
open PySem

section
variable {W : Wd} {h : Heap} {io : Io}

/-! ## dicts with keys that are carried by value -/
section
variable {K : Type} [DecidableEq K] (knd : KeyKind W.prog W.w K) (emb : K → Ky)
structure Emb : Prop where
  inj : ∀ a b, emb a = emb b → a = b
  is : ∀ {h : Heap} {io : Io} k u, VR W h io (emb k).val u → knd.is k u = true
  hash : ∀ k, kyHash W.w (emb k) = knd.hash k
  back : ∀ {h h' : Heap} {io : Io} k u, VR W h io (emb k).val u → VR W h' io (emb k).val u

variable {knd emb}
end


/-! ## the pure dict -/
/-! ## tuples as keys -/
end

structure WOk (W : Wd) : Prop where
  sys : ∃ o, W.base.get? sysModules = some o
  nolimit : W.base.NoLimit

section
variable {W : Wd} {own : List Addr} {A : Around} {fs : List Env} {s : Shared} {io : Io} {m : MH} {n : Nat}
section
variable {h : Heap} {K : Type} [DecidableEq K] {knd : KeyKind W.prog W.w K} {emb : K → Ky}
end

theorem sameBut_keeps {h h' : Heap} {d : Addr} (hs : Heap.SameBut d h h') : ∀ b o, b ≠ d → h.get? b = some o → h'.get? b = some o := fun b _ hb e => (hs.2 b hb).trans e

end
end Mini

/-! Equality, of what holds dicts too. -/
namespace Mini
open PySem PySem.W

section
variable {W : Wd} {own : List Addr} {A : Around} {fs : List Env} {s : Shared} {io : Io} {m : MH} {n : Nat}

/-- what eqN says, as an equality, as an inequality, and of items -/
structure EqAll (A : Around) (s : Shared) (u y : Value) (b : Bool) : Prop where
  eq : SeqAt.RcAt A s u y b
  ne : SeqAt.RcNeAt A s u y (!b)
theorem eqV_cases (v x : V) : (∃ d e, rd deep m v = some d ∧ rd deep m x = some e ∧ eqV v x m = .ok (PyData.eqv d e) m) ∨ eqV v x m = .bad := by
  have e : eqV v x m = (match rd deep m v with | some a => (match rd deep m x with | some c => .ok (PyData.eqv a c) m | none => .bad) | none => .bad) := rfl
  rw [e]
  cases h1 : rd deep m v with
  | none => exact .inr rfl
  | some d =>
    cases h2 : rd deep m x with
    | none => exact .inr rfl
    | some e => exact .inl ⟨d, e, rfl, rfl, rfl⟩

theorem eq_sim (ok : WOk W) (H : HR W s.heap io m) (R : AR A fs n) {v x : V} {u y : Value} (k : VR W s.heap io v u) (l : VR W s.heap io x y) :
    Si W own A fs BV (compareOp .Eq u y) s io m (cmpV .Eq v x m) := by
  show Si W own A fs BV (compareOp .Eq u y) s io m (eqV v x m)
  have hc := R.cline
  rcases eqV_cases (m := m) v x with ⟨d, e, h1, h2, q⟩ | q
  · rw [q]
    obtain ⟨⟨as, r1⟩, c1, d1⟩ := reads_of H _ _ _ _ h1 k
    obtain ⟨⟨bs, r2⟩, c2, d2⟩ := reads_of H _ _ _ _ h2 l
    intro _
    refine SeqAt.compareEq_reads r1 r2 c1 c2 ?_ ⟨_, m, io, rfl, .refl, H, rfl, .refl _⟩
    have h3 : min d.depth e.depth ≤ 12 := Nat.le_trans (Nat.min_le_left _ _) d1
    omega
  · rw [q]; exact Si.bad
theorem ne_sim (ok : WOk W) (H : HR W s.heap io m) (R : AR A fs n) {v x : V} {u y : Value} (k : VR W s.heap io v u) (l : VR W s.heap io x y) :
    Si W own A fs BV (compareOp .NotEq u y) s io m (cmpV .NotEq v x m) := by
  show Si W own A fs BV (compareOp .NotEq u y) s io m ((eqV v x m).bind fun c => ret (!c))
  have hc := R.cline
  rcases eqV_cases (m := m) v x with ⟨d, e, h1, h2, q⟩ | q
  · rw [q]
    obtain ⟨⟨as, r1⟩, c1, d1⟩ := reads_of H _ _ _ _ h1 k
    obtain ⟨⟨bs, r2⟩, c2, d2⟩ := reads_of H _ _ _ _ h2 l
    intro _
    refine SeqAt.compareNe_reads r1 r2 c1 c2 ?_ ⟨_, m, io, rfl, .refl, H, rfl, .refl _⟩
    have h3 : min d.depth e.depth ≤ 12 := Nat.le_trans (Nat.min_le_left _ _) d1
    omega
  · rw [q]; exact Si.bad
end
end Mini

/-! dict.pop of a key that is a whole number. -/
namespace Mini
open PySem
section
variable {W : Wd} {h h' : Heap} {fs : List Env} {s s' : Shared} {io io' : Io} {m m' : MH} {own fr : List Addr} {A : Around} {n : Nat}

end
end Mini

namespace Mini
open PySem
section
variable {W : Wd} {own : List Addr} {A : Around} {fs : List Env} {s : Shared} {io : Io} {m : MH} {n : Nat}

theorem in_sim (ok : WOk W) (H : HR W s.heap io m) (R : AR A fs n) {v x : V} {u y : Value} (k : VR W s.heap io v u) (l : VR W s.heap io x y) :
    Si W own A fs BV (compareOp .In u y) s io m (inV v x m) := by
  have hc := R.cline
  unfold inV
  split
  · cases l with | str _ t okk =>
    split
    · rename_i z
      cases k with | str _ t' okz =>
      split
      · rename_i c hz
        have e : z = ⟨#[c]⟩ := by
          obtain ⟨⟨z'⟩⟩ := z
          simp only at hz
          subst hz; rfl
        subst e
        intro _
        refine P.in_str ?_
        rw [StrLaws.found_one]
        exact ⟨_, m, io, rfl, .refl, H, rfl, .refl _⟩
      · exact Si.bad
    · exact Si.bad
  · exact Si.bad

theorem cmp_sim (ok : WOk W) (H : HR W s.heap io m) (R : AR A fs n) {op : CmpOp} {v x : V} {u y : Value} (k : VR W s.heap io v u) (l : VR W s.heap io x y) :
    Si W own A fs BV (compareOp op u y) s io m (cmpV op v x m) := by
  cases op with
  | Eq => exact eq_sim ok H R k l
  | NotEq => exact ne_sim ok H R k l
  | In => exact in_sim ok H R k l
  | NotIn => exact (in_sim ok H R k l).not fun _ _ h => notIn_of_in h
  | Is => exact is_sim H k l
  | IsNot => exact (is_sim H k l).not fun _ _ h => isNot_of_is h
  | Lt =>
    simp only [cmpV]
    split
    · cases k; cases l; exact fun _ => P.lt_int ⟨_, m, io, rfl, .refl, H, rfl, rfl, rfl⟩
    · exact Si.bad
  | LtE =>
    simp only [cmpV]
    split
    · cases k; cases l; exact fun _ => P.le_int ⟨_, m, io, rfl, .refl, H, rfl, rfl, rfl⟩
    · exact Si.bad
  | Gt =>
    simp only [cmpV]
    split
    · cases k; cases l; exact fun _ => P.gt_int ⟨_, m, io, rfl, .refl, H, rfl, rfl, rfl⟩
    · exact Si.bad
  | GtE =>
    simp only [cmpV]
    split
    · cases k; cases l; exact fun _ => P.ge_int ⟨_, m, io, rfl, .refl, H, rfl, rfl, rfl⟩
    · exact Si.bad

/-! ## items -/
theorem at_seq {α : Type} {xs : List α} {i : Int} {v : α} (h : at_ xs i = some v) : ∃ k, seqIndex? i xs.length = some k ∧ xs[k]? = some v := by
  unfold at_ at h
  unfold seqIndex?
  split at h
  · rename_i h0
    have hlt := (List.getElem?_eq_some_iff.mp h).1
    refine ⟨i.toNat, ?_, h⟩
    simp only [show ¬ i < 0 by omega, if_false]
    rw [if_pos]
    simp only [Bool.and_eq_true, decide_eq_true_eq]; omega
  · split at h
    · rename_i h0 h1
      have hlt := (List.getElem?_eq_some_iff.mp h).1
      refine ⟨(i + xs.length).toNat, ?_, h⟩
      simp only [show i < 0 by omega, if_true]
      rw [if_pos]
      simp only [Bool.and_eq_true, decide_eq_true_eq]; omega
    · cases h
theorem sub_operate (slice : Expr) (o i : Value) : ∃ ops, subscripted slice false o i = operate ops (getItem o i) := by
  cases slice <;> first | (exact ⟨_, rfl⟩) | skip
  rename_i st _
  cases st <;> exact ⟨_, rfl⟩

theorem si_tail {value slice : Expr} {u y : Value} {T id : String} {α : Type} {P : Heap → Io → α → Value → Prop} {R : Res α} (x : Si W own A fs P (getItem u y) s io m R) (hT : s.TypeIs u T) (hl : typeLookup (.type T) "__getitem__" = pure (some (.builtin id))) :
    Si W own A fs P (PyProof.Rows.subscriptTail value slice u y) s io m R := by
  intro hne
  obtain ⟨ops, e⟩ := sub_operate slice u y
  exact PyProof.Rows.tail_any hT hl (x hne) e

theorem VRs.get_arr {h : Heap} {xs : List V} {vs : Array Value} (x : VRs W h io xs vs.toList) {k : Nat} {v : V} (hk : xs[k]? = some v) : ∃ u, vs[k]? = some u ∧ VR W h io v u := by
  refine hide fun GOAL hGOAL => ?_
  obtain ⟨u, e, r⟩ := x.get hk
  refine hGOAL ?_
  clear hGOAL GOAL
  exact ⟨u, by rw [← Array.getElem?_toList]; exact e, r⟩
theorem VRs.size {h : Heap} {xs : List V} {vs : Array Value} (x : VRs W h io xs vs.toList) : vs.size = xs.length := by
  have := x.length; rw [Array.length_toList] at this; exact this
theorem strOk_get {x : Str} {c k : Nat} (ok : PyData.strOk x = true) (h : x.cps[k]? = some c) : PyData.strOk ⟨#[c]⟩ = true := by
  unfold PyData.strOk at *
  have := Array.all_eq_true.mp ok k (Array.getElem?_eq_some_iff.mp h).1
  rw [(Array.getElem?_eq_some_iff.mp h).2] at this
  simpa using this

theorem idx_sim (H : HR W s.heap io m) (R : AR A fs n) {value slice : Expr} {v x : V} {u y : Value} (k : VR W s.heap io v u) (l : VR W s.heap io x y) :
    Si W own A fs (VP W) (PyProof.Rows.subscriptTail value slice u y) s io m (idxV v x m) := by
  unfold idxV
  split
  · rename_i xs
    cases k with | @tup a vs n' _ g1 g2 =>
    split
    · rename_i k
      cases l
      split
      · rename_i hk
        cases q : at_ xs k with
        | none => exact Si.bad
        | some z =>
          refine hide fun GOAL hGOAL => ?_
          obtain ⟨j, e1, e2⟩ := at_seq q
          refine hGOAL ?_
          clear hGOAL GOAL
          refine hide fun GOAL hGOAL => ?_
          obtain ⟨z', f1, f2⟩ := g2.get_arr e2
          refine hGOAL ?_
          clear hGOAL GOAL
          refine si_tail (T := "tuple") (fun _ => P.getItem_tuple g1 (by omega) (by omega) (by rw [g2.size]; exact e1) f1 (np_val (tk := s.toks) H f2)) ⟨_, g1, rfl⟩ F.slot_tuple_getitem.lookup
      · exact Si.bad
    · exact Si.bad
  · rename_i z
    cases k with | @str _ t okz =>
    split
    · rename_i k
      cases l
      split
      · rename_i hk
        cases q : at_ z.cps.toList k with
        | none => exact Si.bad
        | some c =>
          refine hide fun GOAL hGOAL => ?_
          obtain ⟨j, e1, e2⟩ := at_seq q
          refine hGOAL ?_
          clear hGOAL GOAL
          rw [Array.getElem?_toList] at e2
          refine si_tail (T := "str") (fun _ => P.getItem_str (c := c) (by simp; omega) ?_ (np_val H (.str _ _ (strOk_get okz e2)))) rfl F.slot_str_getitem.lookup
          rw [Array.length_toList] at e1
          show (seqIndex? k z.cps.size).bind _ = _
          rw [e1]; exact e2
      · exact Si.bad
    · exact Si.bad
  · cases k with | ref g1 =>
    split
    · rename_i xs hx
      refine hide fun GOAL hGOAL => ?_
      obtain ⟨_, vs, n', a1, a2, a3⟩ := H.obj _ _ _ g1 hx
      refine hGOAL ?_
      clear hGOAL GOAL
      split
      · rename_i k
        cases l
        split
        · rename_i hk
          cases q : at_ xs k with
          | none => exact Si.bad
          | some z =>
            refine si_tail (T := "list") (fun _ => ?_) ⟨_, a1, rfl⟩ slot_list_getitem.lookup
            unfold at_ at q
            split at q
            · rename_i h0
              refine hide fun GOAL hGOAL => ?_
              obtain ⟨z', f1, f2⟩ := a2.get_arr q
              refine hGOAL ?_
              clear hGOAL GOAL
              exact wpAny_getItem_list ⟨_, a1, rfl, _, rfl⟩ h0 (by omega) f1 (np_val (tk := s.toks) H f2)
            · split at q
              · rename_i h0 h1
                refine hide fun GOAL hGOAL => ?_
                obtain ⟨z', f1, f2⟩ := a2.get_arr q
                refine hGOAL ?_
                clear hGOAL GOAL
                exact wpAny_getItem_list_neg ⟨_, a1, rfl, _, rfl⟩ (by omega) (by rw [a2.size]; omega) (by omega) (by rw [a2.size]; exact f1) (np_val (tk := s.toks) H f2)
              · cases q
        · exact Si.bad
      · exact Si.bad
    · exact Si.bad
  · rename_i ns
    cases k with | @scr _ l' o vs n' h1 h2 h3 h4 h5 =>
    split
    · rename_i k
      cases l
      split
      · rename_i hk
        cases q : (ns[k.toNat]?).map V.int with
        | none => exact Si.bad
        | some z =>
          have q' : (ns.map V.int)[k.toNat]? = some z := by rw [List.getElem?_map]; exact q
          refine hide fun GOAL hGOAL => ?_
          obtain ⟨z', f1, f2⟩ := (h4.vrs (W := W) (h := s.heap) (io := io)).get_arr q'
          refine hGOAL ?_
          clear hGOAL GOAL
          have hlt : k.toNat < ns.length := by have := (List.getElem?_eq_some_iff.mp q').1; simpa using this
          refine si_tail (T := "list") (fun _ => wpAny_getItem_list ⟨_, H.keep _ _ h1, h2, _, h3⟩ hk (by rw [lid_eq] at h5; omega) f1 (np_val (tk := s.toks) H f2)) ⟨_, H.keep _ _ h1, h2⟩ slot_list_getitem.lookup
      · exact Si.bad
    · exact Si.bad
  · exact Si.bad
end
end Mini

namespace Mini
open PySem

/-! ## cuts: the model's picks -/
theorem pick_run {α : Type} (xs : List α) (a : Nat) : ∀ c, (List.range c).filterMap (fun k => xs[a + k]?) = (xs.drop a).take c := by
  intro c
  induction c with
  | zero => simp
  | succ c ih =>
    rw [List.range_succ, List.filterMap_append, ih, List.take_add_one]
    congr 1
    rw [List.getElem?_drop, List.filterMap_cons, List.filterMap_nil]
    cases xs[a + c]? <;> rfl
theorem run_cut {α : Type} (xs : List α) {a b : Nat} (hb : b ≤ xs.length) : (List.range (b - a)).filterMap (fun k => xs[a + k]?) = (xs.take b).drop a := by
  rw [pick_run, List.drop_take]
noncomputable def lowB (n : Nat) (lo : Option Int) : Nat := match lo with | some i => clampU n i | Option.none => 0
noncomputable def highB (n : Nat) (hi : Option Int) : Nat := match hi with | some i => clampU n i | Option.none => n
theorem cut_eq {α : Type} (xs : List α) (lo hi : Option Int) : cut xs lo hi = (xs.take (highB xs.length hi)).drop (lowB xs.length lo) := rfl
theorem highB_le (n : Nat) (hi : Option Int) : highB n hi ≤ n := by
  unfold highB clampU; split
  · split <;> omega
  · exact Nat.le_refl _
theorem clip_eq (n : Nat) (i : Int) : (max 0 (min (if i < 0 then i + n else i) (n : Int))) = (clampU n i : Int) := by
  unfold clampU
  by_cases h : 0 ≤ i
  · rw [if_neg (Int.not_lt.mpr h), if_pos h]
    rcases Int.le_total i (n : Int) with z | z
    · rw [Int.min_eq_left z, Int.max_eq_right h, Nat.min_eq_left (Int.toNat_le.mpr z), Int.toNat_of_nonneg h]
    · rw [Int.min_eq_right z, Int.max_eq_right (Int.natCast_nonneg n), Nat.min_eq_right ((Int.le_toNat h).mpr z)]
  · have h' : i < 0 := Int.not_le.mp h
    rw [if_pos h', if_neg h, Int.min_eq_left (Int.le_of_lt (by have := Int.add_lt_add_right h' (n : Int); rwa [Int.zero_add] at this)), Int.toNat_eq_max, Int.max_comm]
theorem bounds_eq (lo hi : Option Int) (n : Nat) : sliceBounds lo hi none n = ((lowB n lo : Int), (highB n hi : Int), 1) := by
  unfold sliceBounds lowB highB
  cases lo <;> cases hi <;> simp [clip_eq]
theorem range_one (a b : Nat) : sliceRange (a : Int) (b : Int) 1 = (List.range (b - a)).map fun k => a + k := by
  unfold sliceRange
  have e : (if (1 : Int) > 0 then (if (a : Int) < b then ((b : Int) - a + 1 - 1) / 1 else 0) else (if (a : Int) > b then ((a : Int) - b - 1 - 1) / (-1) else 0)).toNat = b - a := by
    rw [if_pos (by decide)]
    by_cases h : (a : Int) < b
    · rw [if_pos h, Int.ediv_one, Int.add_sub_cancel]; exact Int.toNat_sub b a
    · rw [if_neg h]; exact (Nat.sub_eq_zero_of_le (Int.ofNat_le.mp (Int.not_lt.mp h))).symm
  simp only [e]
  refine List.map_congr_left fun k _ => by omega
theorem pick_cut (items : Array Value) (lo hi : Option Int) : (slicePick items lo hi none).toList = cut items.toList lo hi := by
  unfold slicePick
  rw [bounds_eq, cut_eq]
  simp only [range_one, List.filterMap_map]
  rw [Array.length_toList]
  rw [← run_cut items.toList (b := highB items.size hi) (a := lowB items.size lo) (by rw [Array.length_toList]; exact highB_le _ _)]
  congr 1
  funext k
  simp only [Function.comp, Array.getElem?_toList]
theorem str_cut (x : Str) (t : Tok) (l u : Option (Int × Tok)) {Q : Value → Shared → Prop} {s : Shared} (h : ∀ t' tk, Q (.str ⟨(cut x.cps.toList (l.map (·.1)) (u.map (·.1))).toArray⟩ t') { s with toks := tk }) (hsz : x.length ≤ sizeLine) : (sliceMade x t l u none).post Q s := by
  have e1 : slicePicked x l u none = (List.range (highB x.length (u.map (·.1)) - lowB x.length (l.map (·.1)))).map fun k => lowB x.length (l.map (·.1)) + k := by
    unfold slicePicked
    have : Builtin.Str.strSliceIndices (l.map (·.1)) (u.map (·.1)) ((Option.map (·.1) (none : Option (Int × Tok))).getD 1) x.length = sliceRange (sliceBounds (l.map (·.1)) (u.map (·.1)) none x.length).1 (sliceBounds (l.map (·.1)) (u.map (·.1)) none x.length).2.1 1 := by
      cases l <;> cases u <;> rfl
    rw [this, bounds_eq]
    exact range_one _ _
  have e2 : (slicePicked x l u none).filterMap (x.cps[·]?) = cut x.cps.toList (l.map (·.1)) (u.map (·.1)) := by
    rw [e1, List.filterMap_map, cut_eq, Array.length_toList]
    rw [← run_cut x.cps.toList (b := highB x.cps.size (u.map (·.1))) (a := lowB x.cps.size (l.map (·.1))) (by rw [Array.length_toList]; exact highB_le _ _)]
    refine congrArg (fun f => List.filterMap f _) ?_
    funext k
    simp only [Function.comp, Array.getElem?_toList]
    rfl
  unfold sliceMade
  split
  · rename_i hc
    have hlen : (slicePicked x l u none).length = x.length := by simpa using hc
    have : cut x.cps.toList (l.map (·.1)) (u.map (·.1)) = x.cps.toList := by
      rw [cut_eq, Array.length_toList]
      rw [e1] at hlen
      simp only [List.length_map, List.length_range] at hlen
      have h1 := highB_le x.length (u.map (·.1))
      have h2 : lowB x.cps.size (l.map (·.1)) = 0 ∧ highB x.cps.size (u.map (·.1)) = x.cps.size ∨ x.cps.size = 0 := by
        change highB x.cps.size _ - lowB x.cps.size _ = x.cps.size at hlen
        change highB x.cps.size _ ≤ x.cps.size at h1
        omega
      rcases h2 with ⟨h2, h3⟩ | h2
      · rw [h2, h3, ← Array.length_toList, List.drop_zero, List.take_length]
      · have : x.cps.toList = [] := List.eq_nil_of_length_eq_zero (by rw [Array.length_toList]; exact h2)
        rw [this]; simp
    have h' := h t s.toks
    rw [this] at h'
    exact h'
  · rw [e2]
    refine ⟨?_, h _ _⟩
    show (cut x.cps.toList (l.map (·.1)) (u.map (·.1))).toArray.size ≤ sizeLine
    rw [List.size_toArray, cut_eq, List.length_drop, List.length_take, Array.length_toList]
    change x.cps.size ≤ sizeLine at hsz
    omega

section
variable {W : Wd} {own : List Addr} {A : Around} {fs : List Env} {s : Shared} {io : Io} {m : MH} {n : Nat}

theorem VRs.cut {h : Heap} {xs : List V} {vs : List Value} (x : VRs W h io xs vs) (lo hi : Option Int) : VRs W h io (Mini.cut xs lo hi) (Mini.cut vs lo hi) := by
  rw [cut_eq, cut_eq, x.length]; exact (x.take _).drop _
theorem cut_length {α : Type} (xs : List α) (lo hi : Option Int) : (Mini.cut xs lo hi).length ≤ xs.length := by
  rw [cut_eq, List.length_drop, List.length_take]; omega
theorem strOk_cut {x : Str} (ok : PyData.strOk x = true) (lo hi : Option Int) : PyData.strOk ⟨(Mini.cut x.cps.toList lo hi).toArray⟩ = true := by
  unfold PyData.strOk at *
  rw [List.all_toArray, List.all_eq_true]
  intro c hc
  rw [cut_eq] at hc
  have := List.mem_of_mem_take (List.mem_of_mem_drop hc)
  exact Array.all_eq_true_iff_forall_mem.mp ok c (Array.mem_toList_iff.mp this)

theorem part_of {v : V} {u : Value} {o : Option Int} (k : VR W s.heap io v u) (h : bound v = some o) : IsPart u o := by
  unfold bound at h
  split at h
  · cases h; cases k; exact .none
  · cases k
    split at h
    · cases h; exact .int _ _
    · cases h
  · cases h
theorem adjust_eq (lo hi : Option Int) (n : Nat) : Builtin.Slice.sliceAdjust lo hi 1 (n : Int) = ((lowB n lo : Int), (highB n hi : Int)) := by
  unfold Builtin.Slice.sliceAdjust lowB highB clampU
  have c : ∀ v : Int, (if v < 0 then max (v + (n : Int)) 0 else min v (n : Int)) = ((if 0 ≤ v then min v.toNat n else (v + n).toNat : Nat) : Int) := fun v => by
    by_cases h : 0 ≤ v
    · rw [if_neg (Int.not_lt.mpr h), if_pos h]
      rcases Int.le_total v (n : Int) with z | z
      · rw [Int.min_eq_left z, Nat.min_eq_left (Int.toNat_le.mpr z), Int.toNat_of_nonneg h]
      · rw [Int.min_eq_right z, Nat.min_eq_right ((Int.le_toNat h).mpr z)]
    · rw [if_pos (Int.not_le.mp h), if_neg h, Int.toNat_eq_max]
  simp only [show ¬ (1 : Int) < 0 by decide, if_false]
  cases lo <;> cases hi <;> simp only [c] <;> rfl
theorem places_eq (a b : Nat) : Builtin.Slice.slicePlaces (a : Int) (b : Int) 1 = b - a := by
  unfold Builtin.Slice.slicePlaces
  rw [if_pos (by decide)]
  by_cases h : (a : Int) < b
  · rw [if_pos h, Int.ediv_one, Int.sub_add_cancel]; exact Int.toNat_sub b a
  · rw [if_neg h]; exact (Nat.sub_eq_zero_of_le (Int.ofNat_le.mp (Int.not_lt.mp h))).symm
theorem slicePart {v : Value} {o : Option Int} {E : Value → Shared → Prop} {Q : Option Int → Shared → Prop} (h : IsPart v o) (q : Q o s) : wpAny (model W.prog W.w) A (Builtin.Slice.slicePartIndex v) Q E s := by
  cases h with
  | none => exact PyProof.Rows.slicePart_none q
  | int i t => exact PyProof.Rows.slicePart_int q

theorem getItem_tuple_cut {E : Value → Shared → Prop} {t sl : Addr} {items : Array Value} {nn : Nat} {vl vu : Value} {lo hi : Option Int} {Q : Value → Shared → Prop} (ht : s.heap.get? t = some (tupO items nn)) (hs : s.heap.IsSliceOf sl vl vu .none) (pl : IsPart vl lo) (pu : IsPart vu hi) (hsz : items.size ≤ sizeLine)
    (h0 : Mini.cut items.toList lo hi = items.toList → Q (.ref t) s)
    (h : Q (.ref s.heap.objs.size) { s with heap := s.heap.push (tupO (Mini.cut items.toList lo hi).toArray 0) }) : wpAny (model W.prog W.w) A (getItem (.ref t) (.ref sl)) Q E s := by
  have htt : PyProof.Rows.IsTup s.heap t items := ⟨_, ht, rfl, _, rfl⟩
  refine hide fun GOAL hGOAL => ?_
  obtain ⟨os, hos, hcs, hds⟩ := id hs
  refine hGOAL ?_
  clear hGOAL GOAL
  have hTs : s.TypeIs (.ref sl) "slice" := ⟨os, hos, hcs⟩
  have hsz2 : sizeOk (.seq (Mini.cut items.toList lo hi).toArray) := by
    show (Mini.cut items.toList lo hi).toArray.size ≤ sizeLine
    rw [List.size_toArray]
    have h1 := cut_length items.toList lo hi
    have h2 : items.toList.length = items.size := Array.length_toList
    omega
  unfold getItem
  try with_reducible refine wpAny_holding ?_
  refine wpAny_bind (wpAny_sequenceKey htt.typeIs (by decide) ?_)
  refine wpAny_bind (wpAny_callSpecial?_slot (name := Str.ofString "__getitem__") htt.typeIs PyProof.Rows.slot_tuple_getitem
    (wpAny_call_entry PyProof.Rows.slot_tuple_getitem htt.typeIs PyProof.Rows.entry_tuple_getitem ?_ (PyProof.Rows.args_tuple_getitem _ _)))
  show wpAny _ _ (Builtin.Tuple.tupleItemsOf (.ref t) >>= _) _ _ s
  refine wpAny_bind (PyProof.Rows.tupleItemsOf_ htt ?_)
  refine wpAny_bind (wpAny_typeOf hTs ?_)
  rw [if_pos (by decide)]
  have happ : ∀ {Q : Int × Int × Nat → Shared → Prop} {E : Value → Shared → Prop} {A : Around}, Q ((lowB items.size lo : Int), 1, highB items.size hi - lowB items.size lo) s → wpAny (model W.prog W.w) A (Builtin.Slice.sliceApplied (.ref sl) (pure (items.size : Int))) Q E s := by
    intro Q E A q
    unfold Builtin.Slice.sliceApplied Builtin.Slice.sliceFields
    refine wpAny_bind (wpAny_bind (wpAny_field hos hds (x := vl) rfl (wpAny_bind (wpAny_field hos hds (x := vu) rfl (wpAny_bind (wpAny_field hos hds (x := .none) rfl (wpAny_pure ?_)))))))
    refine wpAny_bind (PyProof.Rows.slicePart_none ?_)
    show wpAny _ _ (if ((1 : Int) == 0) = true then _ else _) _ _ s
    rw [if_neg (by decide)]
    refine wpAny_bind (slicePart pl (wpAny_bind (slicePart pu (wpAny_bind (wpAny_pure ?_)))))
    show wpAny _ _ (match Builtin.Slice.sliceAdjust lo hi 1 (items.size : Int) with | (lo, hi) => pure (lo, (1 : Int), Builtin.Slice.slicePlaces lo hi 1)) _ _ s
    rw [adjust_eq]
    show wpAny _ _ (pure ((lowB items.size lo : Int), (1 : Int), Builtin.Slice.slicePlaces (lowB items.size lo : Int) (highB items.size hi : Int) 1)) _ _ s
    rw [places_eq]
    exact wpAny_pure q
  refine wpAny_bind (happ ?_)
  have hb := highB_le items.size hi
  have pk : ((List.range (highB items.size hi - lowB items.size lo)).filterMap fun (k : Nat) => items[((lowB items.size lo : Int) + (k : Int) * 1).toNat]?) = Mini.cut items.toList lo hi := by
    rw [cut_eq, Array.length_toList, ← run_cut items.toList (b := highB items.size hi) (a := lowB items.size lo) (by rw [Array.length_toList]; exact hb)]
    congr 1
    funext k
    rw [Array.getElem?_toList]
    congr 1; omega
  by_cases hw : ((lowB items.size lo : Int) == 0 && (1 : Int) == 1 && (highB items.size hi - lowB items.size lo) == items.size) = true
  · have hw' : lowB items.size lo = 0 ∧ highB items.size hi - lowB items.size lo = items.size := by
      simp only [Bool.and_eq_true, beq_iff_eq] at hw
      exact ⟨by omega, hw.2⟩
    have : Mini.cut items.toList lo hi = items.toList := by
      rw [cut_eq, Array.length_toList, hw'.1, show highB items.size hi = items.size by omega, List.drop_zero, ← Array.length_toList, List.take_length]
    show wpAny _ _ (if ((lowB items.size lo : Int) == 0 && (1 : Int) == 1 && (highB items.size hi - lowB items.size lo) == items.size) = true then _ else _) _ _ s
    rw [if_pos hw]
    refine wpAny_bind ?_
    unfold Builtin.Tuple.tupleIsExact
    refine wpAny_bind (wpAny_typeOf htt.typeIs (wpAny_pure ?_))
    rw [if_pos (by decide)]
    exact wpAny_bind (wpAny_rule (wpAny_pure ⟨_, rfl, wpAny_pure (h0 this)⟩))
  · show wpAny _ _ (if ((lowB items.size lo : Int) == 0 && (1 : Int) == 1 && (highB items.size hi - lowB items.size lo) == items.size) = true then _ else _) _ _ s
    rw [if_neg hw, pk]
    first
      | exact wpAny_bind (m := Builtin.Tuple.tupleExact _) (wpAny_newObj_type (wpAny_pure ⟨_, rfl, wpAny_pure h⟩) hsz2)
      | exact wpAny_bind (m := Builtin.Tuple.tupleExact _) (wpAny_newObj_type (wpAny_bind (wpAny_pure (wpAny_pure ⟨_, rfl, wpAny_pure h⟩))) hsz2)
      | exact wpAny_bind (wpAny_bind (m := Builtin.Tuple.tupleExact _) (wpAny_newObj_type (wpAny_pure (wpAny_pure ⟨_, rfl, wpAny_pure h⟩)) hsz2))
      | exact wpAny_bind (wpAny_bind (m := Builtin.Tuple.tupleExact _) (wpAny_newObj_type (wpAny_pure ⟨_, rfl, wpAny_pure h⟩) hsz2))

theorem si_getItem {value slice : Expr} {u y : Value} {T id : String} {α : Type} {P : Heap → Io → α → Value → Prop} {R : Res α} (hT : s.TypeIs u T) (hl : typeLookup (.type T) "__getitem__" = pure (some (.builtin id)))
    (x : wpAny (model W.prog W.w) A (getItem u y) (NP W own (frs fs) s io m P R) (XP W own fs s io m R) s) : Si W own A fs P (PyProof.Rows.subscriptTail value slice u y) s io m R := si_tail (fun _ => x) hT hl
theorem partOf_vr {v : V} {u : Value} {o : Option Int} (k : VR W s.heap io v u) (h : bound v = some o) : ∃ q : Option (Int × Tok), u = partValue q ∧ q.map (·.1) = o := by
  cases part_of k h with
  | none => exact ⟨none, rfl, rfl⟩
  | int i t => exact ⟨some (i, t), rfl, rfl⟩

theorem sliceL_none {α : Type} {xs l : List α} {lo hi : V} (h : sliceL xs lo hi .none = some l) : ∃ a b, bound lo = some a ∧ bound hi = some b ∧ l = Mini.cut xs a b := by
  have h : (match bound lo, bound hi with | some a, some b => some (cut xs a b) | _, _ => none) = some l := h
  cases h1 : bound lo with
  | none => rw [h1] at h; cases h
  | some a =>
    cases h2 : bound hi with
    | none => rw [h1, h2] at h; cases h
    | some b => rw [h1, h2] at h; cases h; exact ⟨a, b, rfl, rfl, rfl⟩

theorem slice_sim (H : HR W s.heap io m) {value slice : Expr} {v lo hi st : V} {u ul uh us : Value} {sl : Addr} (k : VR W s.heap io v u) (kl : VR W s.heap io lo ul) (kh : VR W s.heap io hi uh) (ks : VR W s.heap io st us) (hs : s.heap.IsSliceOf sl ul uh us) :
    Si W own A fs (VP W) (PyProof.Rows.subscriptTail value slice u (.ref sl)) s io m (sliceV v lo hi st m) := by
  unfold sliceV
  split
  · rename_i xs
    cases k with | @tup a vs n' _ g1 g2 =>
    split
    · cases ks
      split
      · rename_i hl
        cases q : sliceL xs lo hi .none with
        | none => exact Si.bad
        | some l =>
          refine hide fun GOAL hGOAL => ?_
          obtain ⟨a, b, h1, h2, rfl⟩ := sliceL_none q
          refine hGOAL ?_
          clear hGOAL GOAL
          have hsz := g2.size
          refine si_getItem (T := "tuple") ⟨_, g1, rfl⟩ F.slot_tuple_getitem.lookup ?_
          refine getItem_tuple_cut g1 hs (part_of kl h1) (part_of kh h2) (sizeLine_lid (by omega)) (fun e => ?_) (np_tup H (by exact g2.cut _ _))
          refine np_val (tk := s.toks) H (.tup g1 ?_)
          have := g2.cut a b
          rw [e] at this
          exact this
      · exact Si.bad
    · exact Si.bad
  · rename_i z
    cases k with | @str _ t okz =>
    split
    · cases ks
      split
      · rename_i hl
        cases q : sliceL z.cps.toList lo hi .none with
        | none => exact Si.bad
        | some l =>
          refine hide fun GOAL hGOAL => ?_
          obtain ⟨a, b, h1, h2, rfl⟩ := sliceL_none q
          refine hGOAL ?_
          clear hGOAL GOAL
          refine hide fun GOAL hGOAL => ?_
          obtain ⟨ql, rfl, rfl⟩ := partOf_vr kl h1
          refine hGOAL ?_
          clear hGOAL GOAL
          refine hide fun GOAL hGOAL => ?_
          obtain ⟨qh, rfl, rfl⟩ := partOf_vr kh h2
          refine hGOAL ?_
          clear hGOAL GOAL
          refine si_getItem (T := "str") rfl F.slot_str_getitem.lookup ?_
          refine hide fun GOAL hGOAL => ?_
          obtain ⟨o, ho, hc, hd⟩ := hs
          refine hGOAL ?_
          clear hGOAL GOAL
          refine wpAny_getItem_str_slice (l := ql) (u := qh) (st := none) ⟨o, ho, hc, hd⟩ (by decide) ?_
          exact str_cut z t ql qh (fun t' tk => np_val H (.str _ _ (strOk_cut okz _ _))) (sizeLine_lid hl)
      · exact Si.bad
    · exact Si.bad
  · cases k with | ref g1 =>
    split
    · rename_i xs hx
      refine hide fun GOAL hGOAL => ?_
      obtain ⟨_, vs, n', a1, a2, a3⟩ := H.obj _ _ _ g1 hx
      refine hGOAL ?_
      clear hGOAL GOAL
      have ll := a2.size
      split
      · cases ks
        cases q : sliceL xs lo hi .none with
        | none => exact Si.bad
        | some l =>
          refine hide fun GOAL hGOAL => ?_
          obtain ⟨a, b, h1, h2, rfl⟩ := sliceL_none q
          refine hGOAL ?_
          clear hGOAL GOAL
          refine si_getItem (T := "list") ⟨_, a1, rfl⟩ slot_list_getitem.lookup ?_
          refine wpAny_getItem_list_slice ⟨_, a1, rfl, _, rfl⟩ hs (part_of kl h1) (part_of kh h2) .none (by simp) (np_list H ?_ ?_) (sizeLine_lid (by omega))
          · rw [pick_cut]; exact a2.cut _ _
          · exact Nat.le_trans (cut_length _ _ _) a3
      · exact Si.bad
    · exact Si.bad
  · exact Si.bad
end
end Mini

/-! Expressions: the rules that put a walk together. -/
namespace Mini
open PySem PySem.W

/-- where an expression is evaluated -/
structure Sit (W : Wd) (fs : List Env) (env : Env) (vis : List (Option Str)) (s : Shared) (io : Io) (m : MH) (r : Lo) : Prop where
  H : HR W s.heap io m
  F : FR W s.heap io env vis r
  G : FF W s.heap io fs

section
variable {W : Wd} {fs : List Env} {env : Env} {vis : List (Option Str)} {s s' : Shared} {io io' : Io} {m m' : MH} {r : Lo} {fr : List Addr} {A : Around} {n : Nat}
theorem Sit.step (Z : Sit W fs env vis s io m r) (H : HR W s'.heap io' m') (st : Step [] fr s.heap io m s'.heap io' m') : Sit W fs env vis s' io' m' r := ⟨H, Z.F.step0 Z.H st, Z.G.step0 st⟩

noncomputable def SiE (W : Wd) (A : Around) (fs : List Env) (env : Env) (vis : List (Option Str)) (t : Sem Value) (c : Lo → Mn V) : Prop :=
  ∀ (s : Shared) (io : Io) (m : MH) (r : Lo), Sit W fs env vis s io m r → Si W [] A fs (VP W) t s io m (c r m)
noncomputable def SiB (W : Wd) (A : Around) (fs : List Env) (env : Env) (vis : List (Option Str)) (t : Sem Bool) (c : Lo → Mn Bool) : Prop :=
  ∀ (s : Shared) (io : Io) (m : MH) (r : Lo), Sit W fs env vis s io m r → Si W [] A fs BP t s io m (c r m)
noncomputable def SiL (W : Wd) (A : Around) (fs : List Env) (env : Env) (vis : List (Option Str)) (t : Sem (List Value)) (c : Lo → Mn (List V)) : Prop :=
  ∀ (s : Shared) (io : Io) (m : MH) (r : Lo), Sit W fs env vis s io m r → Si W [] A fs (VsP W) t s io m (c r m)

variable {a b c : Expr} {pos : Pos} {ca cb cc : Lo → Mn V}

theorem e_const {v : Lt} {k : Const} {j : Nat} (h : (match v, k with | .none, .none => true | .bool b, .bool d => b == d | .int i, .int j => i == j | .str x, .str y => x == y && PyData.strOk x | _, _ => false) = true) : SiE W A fs env vis (eval (.Constant k j pos) env) (fun _ => ret v.val) := by
  intro s io m r Z
  cases v <;> cases k <;> first | (exact absurd h Bool.false_ne_true) | skip
  · exact fun _ => wpAny_Constant_none (np_val (tk := s.toks) Z.H .none)
  · rw [beq_iff_eq.mp h]
    exact fun _ => wpAny_Constant_bool (np_val (tk := s.toks) Z.H (.bool _))
  · rw [beq_iff_eq.mp h]
    exact fun _ => wpAny_Constant_int (np_val Z.H (.int _ _))
  · simp only [Bool.and_eq_true, beq_iff_eq] at h
    rw [← h.1]
    exact fun _ => wpAny_Constant_str (np_val Z.H (.str _ _ h.2))

theorem e_var {i : Nat} {x : Str} (hv : vis[i]? = some (some x)) (hk : env.kindOf x = some .local ∨ env.kindOf x = some .cell ∨ env.kindOf x = some .free) (hd : (x == ("__debug__" : Str)) = false) (hc : (x == ("__classdict__" : Str)) = false) :
    SiE W A fs env vis (eval (.Name x pos) env) (fun r => match r[i]? with | some (some v) => ret v | _ => bad) := by
  intro s io m r Z
  have key : ∀ o : Option (Option V), r[i]? = o → Si W [] A fs (VP W) (eval (.Name x pos) env) s io m ((match o with | some (some v) => ret v | _ => bad : Mn V) m) := by
   intro o hr
   match o, hr with
   | none, _ => exact .bad
   | some none, _ => exact .bad
   | some (some v), hr =>
    intro _
    refine wpAny_Name ?_ hd
    rcases hk with hk | hk | hk
    · refine hide fun GOAL hGOAL => ?_
      obtain ⟨mp, hn, hl⟩ := Z.F.loc
      refine hGOAL ?_
      clear hGOAL GOAL
      refine hide fun GOAL hGOAL => ?_
      obtain ⟨u, e, k⟩ := hl i x v hv hr hk
      refine hGOAL ?_
      clear hGOAL GOAL
      exact wpAny_loadName_local Z.F.kind hk hn e (np_val (tk := s.toks) Z.H k)
    · refine hide fun GOAL hGOAL => ?_
      obtain ⟨c, u, e, k1, k2⟩ := Z.F.cel i x v hv hr (.inl hk)
      refine hGOAL ?_
      clear hGOAL GOAL
      exact wpAny_loadName_cell Z.F.kind hk e k1 (np_val (tk := s.toks) Z.H k2)
    · refine hide fun GOAL hGOAL => ?_
      obtain ⟨c, u, e, k1, k2⟩ := Z.F.cel i x v hv hr (.inr hk)
      refine hGOAL ?_
      clear hGOAL GOAL
      exact wpAny_loadName_free Z.F.kind hk e k1 (np_val (tk := s.toks) Z.H k2) hc
  exact key _ rfl

theorem e_bin {op : Operator} (ha : SiE W A fs env vis (eval a env) ca) (hb : SiE W A fs env vis (eval b env) cb) :
    SiE W A fs env vis (eval (.BinOp a op b pos) env) (fun r => bnd (ca r) fun x => bnd (cb r) fun y => binV op x y) := by
  intro s io m r Z
  rw [eval_BinOp]
  refine Si.bind (ha s io m r Z) fun u s₁ io₁ m₁ v _ st H₁ k sm => ?_
  refine Si.bind (Si.holding (hb _ _ _ r (Z.step H₁ st))) fun u' s₂ io₂ m₂ v' _ st₂ H₂ k₂ sm₂ => ?_
  exact .standAt (.operate (bin_sim H₂ (VR.step st₂ k) k₂))

theorem e_not (ha : SiE W A fs env vis (eval a env) ca) : SiE W A fs env vis (eval (.UnaryOp .Not a pos) env) (fun r => bnd (ca r) fun x => bnd (truth x) fun b => ret (.bool (!b))) := by
  intro s io m r Z
  rw [arm_eval_UnaryOp]
  refine Si.bind (ha s io m r Z) fun u s₁ io₁ m₁ v _ st H₁ k sm => .standAt (.holding ?_)
  refine Si.holding (t := truthy u >>= fun b => Pure.pure (Value.bool (!b))) ?_
  refine Si.bind (truth_sim H₁ k) fun b s₂ io₂ m₂ b' _ _ H₂ k₂ _ => ?_
  cases k₂
  exact .pure H₂ (.bool _)

theorem e_ite {ct : Lo → Mn Bool} {test : Expr} (ht : SiB W A fs env vis (isTrue test env (eval test env)) ct) (ha : SiE W A fs env vis (eval a env) ca) (hb : SiE W A fs env vis (eval b env) cb) :
    SiE W A fs env vis (eval (.IfExp test a b pos) env) (fun r => bnd (ct r) fun t => if t then ca r else cb r) := by
  intro s io m r Z
  rw [arm_eval_IfExp]
  refine Si.bind (ht s io m r Z) fun u s₁ io₁ m₁ v _ st H₁ k sm => ?_
  cases k
  cases u
  · exact hb _ _ _ r (Z.step H₁ st)
  · exact ha _ _ _ r (Z.step H₁ st)

theorem e_idx (R : AR A fs n) (ha : SiE W A fs env vis (eval a env) ca) (hb : SiE W A fs env vis (eval b env) cb) :
    SiE W A fs env vis (eval (.Subscript a b pos) env) (fun r => bnd (ca r) fun x => bnd (cb r) fun y => idxV x y) := by
  intro s io m r Z
  rw [arm_eval_Subscript]
  refine Si.bind (ha s io m r Z) fun u s₁ io₁ m₁ v _ st H₁ k sm => ?_
  refine Si.bind (Si.holding (hb _ _ _ r (Z.step H₁ st))) fun u' s₂ io₂ m₂ v' _ st₂ H₂ k₂ sm₂ => ?_
  exact .standAt (idx_sim H₂ R (VR.step st₂ k) k₂)

theorem bnd_assoc {α β γ : Type} (x : Mn α) (f : α → Mn β) (g : β → Mn γ) : bnd (bnd x f) g = bnd x fun a => bnd (f a) g := by
  funext m
  show ((x m).bind f).bind g = (x m).bind fun a m => (f a m).bind g
  cases x m <;> rfl

/-! ### lists of expressions -/
theorem l_nil : SiL W A fs env vis (spliced (backTo pos (starEach [] env))) (fun _ => ret []) := fun _ _ _ _ Z => .pure Z.H .nil
theorem l_cons {rest : List Expr} {cl : Lo → Mn (List V)} (ha : SiE W A fs env vis (eval a env) ca) (hl : SiL W A fs env vis (spliced (backTo pos (starEach rest env))) cl) (he : starEach (a :: rest) env = (false, eval a env) :: starEach rest env) :
    SiL W A fs env vis (spliced (backTo pos (starEach (a :: rest) env))) (fun r => bnd (ca r) fun x => bnd (cl r) fun xs => ret (x :: xs)) := by
  intro s io m r Z
  rw [he]
  show Si W [] A fs (VsP W) (eval a env >>= fun v => (PySem.holding [v] (spliced (backTo pos (starEach rest env)))) >>= fun vs => Pure.pure (v :: vs)) s io m _
  refine Si.bind (ha s io m r Z) fun u s₁ io₁ m₁ v _ st H₁ k sm => ?_
  refine Si.bind (Si.holding (hl _ _ _ r (Z.step H₁ st))) fun u' s₂ io₂ m₂ v' _ st₂ H₂ k₂ sm₂ => ?_
  exact .pure H₂ (.cons (VR.step st₂ k) k₂)

theorem e_tup {es : List Expr} {j : Nat} {cl : Lo → Mn (List V)} (hl : SiL W A fs env vis (spliced (backTo pos (starEach es env))) cl) (hn : ∀ r m vs m', cl r m = .ok vs m' → vs.length ≤ lid) : SiE W A fs env vis (eval (.Tuple es j pos) env) (fun r => bnd (cl r) fun vs => ret (.tup vs)) := by
  intro s io m r Z
  rw [arm_eval_Tuple]
  refine .standAt (Si.bind (hl s io m r Z) fun u s₁ io₁ m₁ v e st H₁ k sm => ?_)
  exact fun _ => wpAny_newTuple (np_tup (tk := s₁.toks) H₁ k) (by have := hn _ _ _ _ e; rw [← k.length] at this; exact sizeLine_lid this)
theorem e_list {es : List Expr} {cl : Lo → Mn (List V)} (hl : SiL W A fs env vis (spliced (backTo pos (starEach es env))) cl) (hn : ∀ r m vs m', cl r m = .ok vs m' → vs.length ≤ lid) : SiE W A fs env vis (eval (.List es pos) env) (fun r => bnd (cl r) fun vs => alloc (.list vs)) := by
  intro s io m r Z
  rw [arm_eval_List]
  refine .standAt (Si.bind (hl s io m r Z) fun u s₁ io₁ m₁ v e st H₁ k sm => ?_)
  exact fun _ => wpAny_newList (np_list (tk := s₁.toks) H₁ k (hn _ _ _ _ e)) (by have := hn _ _ _ _ e; rw [← k.length] at this; exact sizeLine_lid this)

/-! ### and, or -/
theorem b_one {op : BoolOp} (ha : SiE W A fs env vis (eval a env) ca) : SiE W A fs env vis (boolOp pos op (evalEach [a] env)) ca := ha
theorem b_cons {op : BoolOp} {c : Bool} {rest : List Expr} {cb : Lo → Mn V} (hop : (op = .And ∧ c = true) ∨ (op = .Or ∧ c = false)) (ha : SiE W A fs env vis (eval a env) ca) (hb : SiE W A fs env vis (boolOp pos op (evalEach (b :: rest) env)) cb) :
    SiE W A fs env vis (boolOp pos op (evalEach (a :: b :: rest) env)) (fun r => bnd (ca r) fun x => bnd (truth x) fun t => if t == c then cb r else ret x) := by
  intro s io m r Z
  rcases hop with ⟨rfl, rfl⟩ | ⟨rfl, rfl⟩ <;>
  refine Si.bind (ha s io m r Z) fun u s₁ io₁ m₁ v _ st H₁ k sm => .standAt ?_ <;>
  refine Si.bind (Si.holding (truth_sim H₁ k)) fun t s₂ io₂ m₂ t' _ st₂ H₂ k₂ sm₂ => ?_ <;>
  cases k₂ <;> cases t
  · exact .pure H₂ (VR.step st₂ k)
  · exact hb _ _ _ r ((Z.step H₁ st).step H₂ st₂)
  · exact hb _ _ _ r ((Z.step H₁ st).step H₂ st₂)
  · exact .pure H₂ (VR.step st₂ k)

/-! ### comparisons -/
noncomputable def SiC (W : Wd) (A : Around) (fs : List Env) (env : Env) (vis : List (Option Str)) (t : Value → Sem Value) (c : V → Lo → Mn V) : Prop :=
  ∀ (s : Shared) (io : Io) (m : MH) (r : Lo) (x : V) (u : Value), Sit W fs env vis s io m r → VR W s.heap io x u → Si W [] A fs (VP W) (t u) s io m (c x r m)
noncomputable def SiCB (W : Wd) (A : Around) (fs : List Env) (env : Env) (vis : List (Option Str)) (t : Value → Sem Bool) (c : V → Lo → Mn V) : Prop :=
  ∀ (s : Shared) (io : Io) (m : MH) (r : Lo) (x : V) (u : Value), Sit W fs env vis s io m r → VR W s.heap io x u → Si W [] A fs BP (t u) s io m (bnd (c x r) truth m)

theorem marked_one {op : CmpOp} (hb : behindInMarks op b = false) : markedEach [op] [b] (evalEach [b] env) = [eval b env] := by
  show [markedBehindIn op b (eval b env)] = _
  rw [markedBehindIn_of_false hb]
theorem c_one (ok : WOk W) (R : AR A fs n) {op : CmpOp} (hm : behindInMarks op b = false) (hb : SiE W A fs env vis (eval b env) cb) :
    SiC W A fs env vis (fun u => compareChain pos u [op] (markedEach [op] [b] (evalEach [b] env))) (fun x r => bnd (cb r) fun y => bnd (cmpV op x y) fun c => ret (.bool c)) := by
  intro s io m r x u Z k
  show Si W [] A fs (VP W) (compareChain pos u [op] (markedEach [op] [b] (evalEach [b] env))) s io m _
  rw [marked_one hm]
  refine Si.bind (Si.holding (hb _ _ _ r Z)) fun u' s₂ io₂ m₂ v' _ st₂ H₂ k₂ sm₂ => .standAt (.operate ?_)
  have := cmp_sim (own := []) ok H₂ R (op := op) (VR.step st₂ k) k₂
  intro hne
  refine wpAny_mono (this (Res.bind_ne hne)) (fun u s' p => ?_) fun e s' p => p.bind .refl (.refl _)
  refine hide fun GOAL hGOAL => ?_
  obtain ⟨v, m', io', e, a1, a2, a3, a4⟩ := p
  refine hGOAL ?_
  clear hGOAL GOAL
  cases a3
  exact ⟨.bool v, m', io', by show (cmpV op x v' m₂).bind _ = _; rw [e]; rfl, a1, a2, .bool v, a4⟩
theorem c_more (ok : WOk W) (R : AR A fs n) {op : CmpOp} {op' : CmpOp} {ops : List CmpOp} {b' : Expr} {rest : List Expr} {cc : V → Lo → Mn V} (hb : SiE W A fs env vis (eval b env) cb)
    (hc : SiC W A fs env vis (fun u => compareChain pos u (op' :: ops) (markedEach (op' :: ops) (b' :: rest) (evalEach (b' :: rest) env))) cc) :
    SiC W A fs env vis (fun u => compareChain pos u (op :: op' :: ops) (markedEach (op :: op' :: ops) (b :: b' :: rest) (evalEach (b :: b' :: rest) env))) (fun x r => bnd (cb r) fun y => bnd (cmpV op x y) fun c => if c then cc y r else ret (.bool false)) := by
  intro s io m r x u Z k
  show Si W [] A fs (VP W) (PySem.holding [u] (eval b env) >>= fun rv => PySem.standAt pos >>= fun _ => PySem.holding [u, rv] (compareOp op u rv) >>= fun c => release [u, rv] [c] >>= fun _ => PySem.holding [c, rv] (truthy c) >>= fun t => if t then compareChain pos rv (op' :: ops) (markedEach (op' :: ops) (b' :: rest) (evalEach (b' :: rest) env)) else Pure.pure c) s io m _
  refine Si.bind (Si.holding (hb _ _ _ r Z)) fun u' s₂ io₂ m₂ v' _ st₂ H₂ k₂ sm₂ => .standAt ?_
  refine Si.bind (Si.holding (cmp_sim ok H₂ R (VR.step st₂ k) k₂)) fun u₃ s₃ io₃ m₃ v₃ _ st₃ H₃ k₃ sm₃ => ?_
  cases k₃
  have : Si W [] A fs (VP W) (PySem.holding [.bool v₃, u'] (truthy (.bool v₃)) >>= fun t => if t then compareChain pos u' (op' :: ops) (markedEach (op' :: ops) (b' :: rest) (evalEach (b' :: rest) env)) else Pure.pure (.bool v₃)) s₃ io₃ m₃ ((if v₃ then cc v' r else ret (.bool false)) m₃) := by
    intro hne
    refine wpAny_bind (wpAny_holding (wpAny_truthy_bool ?_))
    cases v₃
    · exact Si.pure (own := []) (A := A) (fs := fs) H₃ (.bool false) hne
    · exact hc _ _ _ r v' u' ((Z.step H₂ st₂).step H₃ st₃) (VR.step st₃ k₂) hne
  exact fun hne => wpAny_bind (wpAny_release (this hne))

theorem t_one (ok : WOk W) (R : AR A fs n) {op : CmpOp} (hm : behindInMarks op b = false) (hb : SiE W A fs env vis (eval b env) cb) :
    SiCB W A fs env vis (fun u => testChain pos u [op] (markedEach [op] [b] (evalEach [b] env))) (fun x r => bnd (cb r) fun y => bnd (cmpV op x y) fun c => ret (.bool c)) := by
  intro s io m r x u Z k
  show Si W [] A fs BP (testChain pos u [op] (markedEach [op] [b] (evalEach [b] env))) s io m _
  rw [marked_one hm, bnd_assoc]
  refine Si.bind (Si.holding (hb _ _ _ r Z)) fun u' s₂ io₂ m₂ v' _ st₂ H₂ k₂ sm₂ => .standAt ?_
  rw [bnd_assoc]
  refine Si.bind (Si.operate (cmp_sim ok H₂ R (VR.step st₂ k) k₂)) fun u₃ s₃ io₃ m₃ v₃ _ st₃ H₃ k₃ sm₃ => .holding ?_
  cases k₃
  exact fun _ => wpAny_truthy_bool ⟨v₃, m₃, io₃, rfl, .refl, H₃, rfl, .refl _⟩
theorem t_more (ok : WOk W) (R : AR A fs n) {op : CmpOp} {op' : CmpOp} {ops : List CmpOp} {b' : Expr} {rest : List Expr} {cc : V → Lo → Mn V} (hb : SiE W A fs env vis (eval b env) cb)
    (hc : SiCB W A fs env vis (fun u => testChain pos u (op' :: ops) (markedEach (op' :: ops) (b' :: rest) (evalEach (b' :: rest) env))) cc) :
    SiCB W A fs env vis (fun u => testChain pos u (op :: op' :: ops) (markedEach (op :: op' :: ops) (b :: b' :: rest) (evalEach (b :: b' :: rest) env))) (fun x r => bnd (cb r) fun y => bnd (cmpV op x y) fun c => if c then cc y r else ret (.bool false)) := by
  intro s io m r x u Z k
  show Si W [] A fs BP (PySem.holding [u] (eval b env) >>= fun rv => PySem.standAt pos >>= fun _ => PySem.holding [u, rv] (compareOp op u rv) >>= fun c => release [u, rv] [c] >>= fun _ => PySem.holding [c, rv] (truthy c) >>= fun t => if t then testChain pos rv (op' :: ops) (markedEach (op' :: ops) (b' :: rest) (evalEach (b' :: rest) env)) else Pure.pure false) s io m _
  rw [bnd_assoc]
  refine Si.bind (Si.holding (hb _ _ _ r Z)) fun u' s₂ io₂ m₂ v' _ st₂ H₂ k₂ sm₂ => .standAt ?_
  rw [bnd_assoc]
  refine Si.bind (Si.holding (cmp_sim ok H₂ R (VR.step st₂ k) k₂)) fun u₃ s₃ io₃ m₃ v₃ _ st₃ H₃ k₃ sm₃ => ?_
  cases k₃
  have : Si W [] A fs BP (PySem.holding [.bool v₃, u'] (truthy (.bool v₃)) >>= fun t => if t then testChain pos u' (op' :: ops) (markedEach (op' :: ops) (b' :: rest) (evalEach (b' :: rest) env)) else Pure.pure false) s₃ io₃ m₃ (bnd (if v₃ then cc v' r else ret (.bool false)) truth m₃) := by
    intro hne
    refine wpAny_bind (wpAny_holding (wpAny_truthy_bool ?_))
    cases v₃
    · exact Si.pure (own := []) (A := A) (fs := fs) (v := false) H₃ rfl hne
    · exact hc _ _ _ r v' u' ((Z.step H₂ st₂).step H₃ st₃) (VR.step st₃ k₂) hne
  exact fun hne => wpAny_bind (wpAny_release (this hne))

theorem e_cmp {ops : List CmpOp} {bs : List Expr} {cc : V → Lo → Mn V} (ha : SiE W A fs env vis (eval a env) ca) (hc : SiC W A fs env vis (fun u => compareChain pos u ops (markedEach ops bs (evalEach bs env))) cc) :
    SiE W A fs env vis (eval (.Compare a ops bs pos) env) (fun r => bnd (ca r) fun x => cc x r) := by
  intro s io m r Z
  rw [arm_eval_Compare]
  exact Si.bind (ha s io m r Z) fun u s₁ io₁ m₁ v _ st H₁ k sm => hc _ _ _ r v u (Z.step H₁ st) k
theorem t_cmp {ops : List CmpOp} {bs : List Expr} {cc : V → Lo → Mn V} {whole : Sem Value} (ha : SiE W A fs env vis (eval a env) ca) (hc : SiCB W A fs env vis (fun u => testChain pos u ops (markedEach ops bs (evalEach bs env))) cc) :
    SiB W A fs env vis (isTrue (.Compare a ops bs pos) env whole) (fun r => bnd (bnd (ca r) fun x => cc x r) truth) := by
  intro s io m r Z
  show Si W [] A fs BP _ s io m (bnd (bnd (ca r) fun x => cc x r) truth m)
  rw [bnd_assoc]
  show Si W [] A fs BP (eval a env >>= fun u => testChain pos u ops (markedEach ops bs (evalEach bs env))) s io m _
  exact Si.bind (ha s io m r Z) fun u s₁ io₁ m₁ v _ st H₁ k sm => hc _ _ _ r v u (Z.step H₁ st) k

/-! ### tests -/
theorem t_val (ha : SiE W A fs env vis (eval a env) ca) (hs : isTrue a env (eval a env) = (do let v ← eval a env; PySem.standAt a.pos; PySem.holding [v] (truthy v))) : SiB W A fs env vis (isTrue a env (eval a env)) (fun r => bnd (ca r) truth) := by
  intro s io m r Z
  rw [hs]
  exact Si.bind (ha s io m r Z) fun u s₁ io₁ m₁ v _ st H₁ k sm => .standAt (.holding (truth_sim H₁ k))
theorem t_not {ct : Lo → Mn Bool} {whole : Sem Value} (ha : SiB W A fs env vis (isTrue a env (eval a env)) ct) : SiB W A fs env vis (isTrue (.UnaryOp .Not a pos) env whole) (fun r => bnd (ct r) fun b => ret (!b)) := by
  intro s io m r Z
  show Si W [] A fs BP (isTrue a env (eval a env) >>= fun b => Pure.pure (!b)) s io m _
  refine Si.bind (ha s io m r Z) fun u s₁ io₁ m₁ v _ st H₁ k sm => ?_
  cases k
  exact .pure H₁ rfl
theorem t_nil {op : BoolOp} {c : Bool} (hop : (op = .And ∧ c = true) ∨ (op = .Or ∧ c = false)) : SiB W A fs env vis (allTrue op [] env) (fun _ => ret c) := by
  intro s io m r Z
  rcases hop with ⟨rfl, rfl⟩ | ⟨rfl, rfl⟩
  · exact .pure (u := true) Z.H rfl
  · exact .pure (u := false) Z.H rfl
theorem t_cons {op : BoolOp} {c : Bool} {rest : List Expr} {ct cts : Lo → Mn Bool} (hop : (op = .And ∧ c = true) ∨ (op = .Or ∧ c = false)) (ha : SiB W A fs env vis (isTrue a env (eval a env)) ct) (hb : SiB W A fs env vis (allTrue op rest env) cts) :
    SiB W A fs env vis (allTrue op (a :: rest) env) (fun r => bnd (ct r) fun b => if b == c then cts r else ret b) := by
  intro s io m r Z
  rcases hop with ⟨rfl, rfl⟩ | ⟨rfl, rfl⟩ <;>
  refine Si.bind (ha s io m r Z) fun t s₁ io₁ m₁ v _ st H₁ k sm => ?_ <;>
  cases k <;> cases t
  · exact .pure H₁ rfl
  · exact hb _ _ _ r (Z.step H₁ st)
  · exact hb _ _ _ r (Z.step H₁ st)
  · exact .pure H₁ rfl
theorem t_all {op : BoolOp} {es : List Expr} {whole : Sem Value} {ct : Lo → Mn Bool} (h : SiB W A fs env vis (allTrue op es env) ct) : SiB W A fs env vis (isTrue (.BoolOp op es pos) env whole) ct := h

/-! ### slices -/
noncomputable def SiO (W : Wd) (A : Around) (fs : List Env) (env : Env) (vis : List (Option Str)) (o : Option Expr) (c : Lo → Mn V) : Prop := SiE W A fs env vis (valueOrNone (evalOpt o env)) c
theorem o_none : SiO W A fs env vis none (fun _ => ret .none) := fun _ _ _ _ Z => .pure Z.H .none
theorem o_some (ha : SiE W A fs env vis (eval a env) ca) : SiO W A fs env vis (some a) ca := ha
noncomputable def SlP (W : Wd) (h : Heap) (io : Io) (p : V × V × V) (u : Value) : Prop := ∃ sl ul uh us, u = .ref sl ∧ h.IsSliceOf sl ul uh us ∧ VR W h io p.1 ul ∧ VR W h io p.2.1 uh ∧ VR W h io p.2.2 us
theorem e_slice3 {lo hi st : Option Expr} {cl ch cs : Lo → Mn V} (hl : SiO W A fs env vis lo cl) (hh : SiO W A fs env vis hi ch) (hs : SiO W A fs env vis st cs) (Z : Sit W fs env vis s io m r) :
    Si W [] A fs (SlP W) (eval (.Slice lo hi st pos) env) s io m (bnd (cl r) (fun l => bnd (ch r) fun h => bnd (cs r) fun t => ret (l, h, t)) m) := by
  rw [arm_eval_Slice]
  refine Si.bind (hl _ _ _ r Z) fun ul s₁ io₁ m₁ vl _ st₁ H₁ k₁ _ => ?_
  have Z₁ := Z.step H₁ st₁
  refine Si.bind (Si.holding (hh _ _ _ r Z₁)) fun uh s₂ io₂ m₂ vh _ st₂ H₂ k₂ _ => ?_
  have Z₂ := Z₁.step H₂ st₂
  refine Si.bind (Si.holding (hs _ _ _ r Z₂)) fun us s₃ io₃ m₃ vs _ st₃ H₃ k₃ _ => ?_
  have st4 : Step [] (frs fs) s₃.heap io₃ m₃ (s₃.heap.push { cls := .type "slice", data := .fields #[ul, uh, us] }) io₃ m₃ := .of_keeps H₃ (push_keeps _)
  exact fun _ => wpAny_mono (Q := fun v s' => v = .ref s₃.heap.objs.size ∧ s' = { s₃ with heap := s₃.heap.push { cls := .type "slice", data := .fields #[ul, uh, us] } }) (fun _ _ _ => ⟨rfl, rfl⟩) (fun v s' q => by
    obtain ⟨rfl, rfl⟩ := q
    exact ⟨_, m₃, io₃, rfl, st4, H₃.of_keeps (push_keeps _), ⟨_, ul, uh, us, rfl, .new _ _ _ _, ((VR.step st₂ k₁).step st₃).step st4, (VR.step st₃ k₂).step st4, VR.step st4 k₃⟩, .refl _⟩) fun _ _ q => q
theorem e_slice {lo hi st : Option Expr} {cl ch cs : Lo → Mn V} {pos' : Pos} (ha : SiE W A fs env vis (eval a env) ca) (hl : SiO W A fs env vis lo cl) (hh : SiO W A fs env vis hi ch) (hs : SiO W A fs env vis st cs) :
    SiE W A fs env vis (eval (.Subscript a (.Slice lo hi st pos') pos) env) (fun r => bnd (ca r) fun x => bnd (cl r) fun l => bnd (ch r) fun h => bnd (cs r) fun t => sliceV x l h t) := by
  intro s io m r Z
  rw [arm_eval_Subscript]
  refine Si.bind (ha s io m r Z) fun u s₁ io₁ m₁ v _ st₁ H₁ k₁ _ => ?_
  have e : (bnd (cl r) fun l => bnd (ch r) fun h => bnd (cs r) fun t => sliceV v l h t) = bnd (bnd (cl r) fun l => bnd (ch r) fun h => bnd (cs r) fun t => ret (l, h, t)) fun p => sliceV v p.1 p.2.1 p.2.2 := by
    simp only [bnd_assoc]; rfl
  rw [e]
  refine Si.bind (Si.holding (e_slice3 hl hh hs (Z.step H₁ st₁))) fun u' s₂ io₂ m₂ p _ st₂ H₂ k₂ sm₂ => .standAt ?_
  refine hide fun GOAL hGOAL => ?_
  obtain ⟨sl, ul, uh, us, rfl, q1, q2, q3, q4⟩ := k₂
  refine hGOAL ?_
  clear hGOAL GOAL
  exact slice_sim H₂ (VR.step st₂ k₁) q2 q3 q4 q1
end
end Mini

/-! Names of the module, and calls. -/
namespace Mini
open PySem PySem.W

structure Gl (W : Wd) (K : Frag) : Prop where
  ok : WOk W
  X : K.In W.base
  top : ∃ mg mb, W.base.Ns mainGlobals mg ∧ W.base.Ns builtinsNs mb ∧ (∀ x : Str, x ≠ "__name__" → mb x = bootBuiltins x) ∧ ∃ pp loose, TopRead pp loose mg mb W.base

section
variable {W : Wd} {K : Frag} {fs : List Env} {env : Env} {vis : List (Option Str)} {s s' : Shared} {io io' : Io} {m m' : MH} {r : Lo} {fr : List Addr} {A : Around} {n : Nat} {pos p : Pos}

theorem HR.get (H : HR W s.heap io m) (gl : Gl W K) {a : Addr} {o : Obj} (h : K.lookup a = some o) : s.heap.get? a = some o := H.keep _ _ (gl.X _ _ h)

theorem name_K {x : Str} {v : Value} {Q : Value → Shared → Prop} {E : Value → Shared → Prop} {M : Model} (gl : Gl W K) (Z : Sit W fs env vis s io m r) (e : nsIn K mainGlobals x = some (some v)) (hx : env.kindOf x = some .globalImplicit) (hd : (x == ("__debug__" : Str)) = false) (h : Q v s) : wpAny M A (eval (.Name x p) env) Q E s := by
  refine hide fun GOAL hGOAL => ?_
  obtain ⟨mg, mb, g, b, _⟩ := gl.top
  refine hGOAL ?_
  clear hGOAL GOAL
  refine Calls.Name_function_global Z.F.kind hx (Calls.loadGlobal_global (mg := mg) ?_ (mg_of gl.X g e) h) hd
  rw [Z.F.glob]; exact g.keeps Z.H.keep
theorem name_B {x : Str} {v : Value} {Q : Value → Shared → Prop} {E : Value → Shared → Prop} {M : Model} (gl : Gl W K) (Z : Sit W fs env vis s io m r) (e : nsIn K mainGlobals x = some none) (hv : bootBuiltins x = some v) (hn : (x == ("__name__" : Str)) = false) (hx : env.kindOf x = some .globalImplicit) (hd : (x == ("__debug__" : Str)) = false) (h : Q v s) : wpAny M A (eval (.Name x p) env) Q E s := by
  refine hide fun GOAL hGOAL => ?_
  obtain ⟨mg, mb, g, b, hb, _⟩ := gl.top
  refine hGOAL ?_
  clear hGOAL GOAL
  have hn' : x ≠ "__name__" := fun q => by rw [q] at hn; simp at hn
  refine Calls.Name_function_global Z.F.kind hx (Calls.loadGlobal_builtin (mg := mg) (mb := mb) ?_ (mg_none_of gl.X g e) ?_ (by rw [hb x hn', hv]) h) hd
  · rw [Z.F.glob]; exact g.keeps Z.H.keep
  · rw [Z.F.blt]; exact b.keeps Z.H.keep

/-- no starred ones -/
noncomputable def noStar : List Expr → Bool
  | [] => true
  | .Starred _ _ :: _ => false
  | _ :: r => noStar r
theorem star_cons {e : Expr} {rest : List Expr} (h : noStar (e :: rest) = true) : starEach (e :: rest) env = (false, eval e env) :: starEach rest env := by
  cases e <;> first | rfl | (exact absurd h Bool.false_ne_true)
theorem noStar_tail {e : Expr} {rest : List Expr} (h : noStar (e :: rest) = true) : noStar rest = true := by
  cases e <;> first | exact h | (exact absurd h Bool.false_ne_true)
theorem plain_of {es : List Expr} (h : noStar es = true) : (backTo pos (starEach es env)).any (·.1) = false := by
  induction es with
  | nil => rfl
  | cons e rest ih => rw [star_cons h]; exact ih (noStar_tail h)

theorem args_of {M : Model} {E : Value → Shared → Prop} {f : Value} {es : List Expr} {Q : Args → Shared → Prop} (hs : noStar es = true) (h : wpAny M A (spliced (backTo pos (starEach es env))) (fun vs s' => Q ⟨vs, []⟩ s') E s) :
    wpAny M A (evalArgs f true (backTo pos (starEach es env)) []) Q E s := by
  cases es with
  | nil =>
    unfold evalArgs
    show wpAny M A (spliced [] >>= _) Q E s
    refine wpAny_bind (wpAny_mono (show wpAny M A (spliced []) (fun vs s' => Q ⟨vs, []⟩ s') E s from h) (fun vs s' q => ?_) fun _ _ x => x)
    refine wpAny_bind (wpAny_pure ?_)
    refine wpAny_holding ?_
    exact wpAny_bind (wpAny_pure (wpAny_bind (wpAny_pure (wpAny_pure q))))
  | cons e rest =>
    rw [star_cons hs] at h ⊢
    exact Calls.evalArgs_plain h

variable {es : List Expr} {cl : Lo → Mn (List V)} {Fk : List V → Mn V}
/-- what a callee does -/
noncomputable def SiF (W : Wd) (A : Around) (fs : List Env) (f : Value) (Fk : List V → Mn V) : Prop :=
  ∀ (s : Shared) (io : Io) (m : MH) (vs : List V) (us : List Value), HR W s.heap io m → FF W s.heap io fs → VRs W s.heap io vs us → Si W [] A fs (VP W) (call f us) s io m (Fk vs m)

/-- the same, as code -/
noncomputable def SiK (W : Wd) (A : Around) (fs : List Env) (f : Value) (Fk : List V → Mn V) : Prop :=
  ∀ (s : Shared) (io : Io) (m : MH) (vs : List V) (us : List Value), HR W s.heap io m → FF W s.heap io fs → VRs W s.heap io vs us → Fk vs m ≠ .bad →
    codeAny (model W.prog W.w) A (.call f ⟨us, []⟩) (fun r s' => match r with | .ok (.ret v) => NP W [] (frs fs) s io m (VP W) (Fk vs m) v s' | .ok _ => False | .error e => XP W [] fs s io m (Fk vs m) e s') s
theorem SiK.f {f : Value} {Fk : List V → Mn V} (x : SiK W A fs f Fk) : SiF W A fs f Fk := fun s io m vs us H G hu hne => wpAny_call (x s io m vs us H G hu hne)
/-- inside the call of a class -/
noncomputable def born (A : Around) : Around := { A with depth := A.depth + 1, units := A.units + 1 }
theorem e_callB {x : Str} {id : String} (gl : Gl W K) (e : nsIn K mainGlobals x = some none) (hv : bootBuiltins x = some (.builtin id)) (hn : (x == ("__name__" : Str)) = false) (hx : env.kindOf x = some .globalImplicit) (hd : (x == ("__debug__" : Str)) = false) (hs : noStar es = true)
    (hl : SiL W A fs env vis (spliced (backTo pos (starEach es env))) cl) (hf : SiF W A fs (.builtin id) Fk) : SiE W A fs env vis (eval (.Call (.Name x p) es [] pos) env) (fun r => bnd (cl r) fun vs => Fk vs) := by
  intro s io m r Z hne
  refine wpAny_Call_NameR (name_B gl Z e hv hn hx hd (Calls.callWith_builtin (plain_of hs) (args_of hs ?_)))
  refine wpAny_mono (hl s io m r Z (Res.bind_ne hne)) (fun us s' q => ?_) fun _ _ q => q.bind .refl (.refl _)
  refine hide fun GOAL hGOAL => ?_
  obtain ⟨vs, m', io', e', st, H, k, sm⟩ := q
  refine hGOAL ?_
  clear hGOAL GOAL
  have hne' : Fk vs m' ≠ .bad := fun q => hne (by show (cl r m).bind _ = _; rw [e']; exact q)
  have ee : bnd (cl r) (fun vs => Fk vs) m = Fk vs m' := by show (cl r m).bind _ = _; rw [e']; rfl
  show wpAny (model W.prog W.w) A (call (.builtin id) us) (NP W [] (frs fs) s io m (VP W) (bnd (cl r) (fun vs => Fk vs) m)) (XP W [] fs s io m (bnd (cl r) (fun vs => Fk vs) m)) s'
  rw [ee]
  exact wpAny_mono (hf _ _ _ _ _ H (Z.G.step0 st) k hne') (fun _ _ z => z.mono st sm) fun _ _ z => z.mono st sm
theorem e_callT {x : Str} {id : String} (gl : Gl W K) (e : nsIn K mainGlobals x = some none) (hv : bootBuiltins x = some (.type id)) (hn : (x == ("__name__" : Str)) = false) (hx : env.kindOf x = some .globalImplicit) (hd : (x == ("__debug__" : Str)) = false) (hs : noStar es = true)
    (hl : SiL W A fs env vis (spliced (backTo pos (starEach es env))) cl) (hf : SiF W A fs (.type id) Fk) : SiE W A fs env vis (eval (.Call (.Name x p) es [] pos) env) (fun r => bnd (cl r) fun vs => Fk vs) := by
  intro s io m r Z hne
  refine wpAny_Call_NameR (name_B gl Z e hv hn hx hd (callWith_type (plain_of hs) (args_of hs ?_)))
  refine wpAny_mono (hl s io m r Z (Res.bind_ne hne)) (fun us s' q => ?_) fun _ _ q => q.bind .refl (.refl _)
  refine hide fun GOAL hGOAL => ?_
  obtain ⟨vs, m', io', e', st, H, k, sm⟩ := q
  refine hGOAL ?_
  clear hGOAL GOAL
  have hne' : Fk vs m' ≠ .bad := fun q => hne (by show (cl r m).bind _ = _; rw [e']; exact q)
  have ee : bnd (cl r) (fun vs => Fk vs) m = Fk vs m' := by show (cl r m).bind _ = _; rw [e']; rfl
  show wpAny (model W.prog W.w) A (call (.type id) us) (NP W [] (frs fs) s io m (VP W) (bnd (cl r) (fun vs => Fk vs) m)) (XP W [] fs s io m (bnd (cl r) (fun vs => Fk vs) m)) s'
  rw [ee]
  exact wpAny_mono (hf _ _ _ _ _ H (Z.G.step0 st) k hne') (fun _ _ z => z.mono st sm) fun _ _ z => z.mono st sm
theorem e_callF {x : Str} {a : Addr} {o : Obj} {fd : FuncData} (gl : Gl W K) (e : nsIn K mainGlobals x = some (some (.ref a))) (ho : K.lookup a = some o) (hdata : o.data = .func fd) (hx : env.kindOf x = some .globalImplicit) (hd : (x == ("__debug__" : Str)) = false) (hs : noStar es = true)
    (hl : SiL W A fs env vis (spliced (backTo pos (starEach es env))) cl) (hf : SiF W A fs (.ref a) Fk) : SiE W A fs env vis (eval (.Call (.Name x p) es [] pos) env) (fun r => bnd (cl r) fun vs => Fk vs) := by
  intro s io m r Z hne
  refine wpAny_Call_NameR (name_K gl Z e hx hd (Calls.callWith_function (o := o) (fd := fd) (args_of hs ?_)))
  refine wpAny_mono (hl s io m r Z (Res.bind_ne hne)) (fun us s' q => ?_) fun _ _ q => q.bind .refl (.refl _)
  refine hide fun GOAL hGOAL => ?_
  obtain ⟨vs, m', io', e', st, H, k, sm⟩ := q
  refine hGOAL ?_
  clear hGOAL GOAL
  have hne' : Fk vs m' ≠ .bad := fun q => hne (by show (cl r m).bind _ = _; rw [e']; exact q)
  have ee : bnd (cl r) (fun vs => Fk vs) m = Fk vs m' := by show (cl r m).bind _ = _; rw [e']; rfl
  refine ⟨⟨H.get gl ho, hdata⟩, ?_⟩
  show wpAny (model W.prog W.w) A (call (.ref a) us) (NP W [] (frs fs) s io m (VP W) (bnd (cl r) (fun vs => Fk vs) m)) (XP W [] fs s io m (bnd (cl r) (fun vs => Fk vs) m)) s'
  rw [ee]
  exact wpAny_mono (hf _ _ _ _ _ H (Z.G.step0 st) k hne') (fun _ _ z => z.mono st sm) fun _ _ z => z.mono st sm
end
end Mini

/-! Statements. -/
namespace Mini
open PySem PySem.W

noncomputable def ownOf (env : Env) : List Addr := env.locals :: env.cells.filterMap fun q => env.cells.lookup q.1

structure Stt (W : Wd) (fs : List Env) (env : Env) (vis : List (Option Str)) (s : Shared) (io : Io) (m : MH) (r : Lo) : Prop where
  H : HR W s.heap io m
  F : FR W s.heap io env vis r
  G : FF W s.heap io fs
  fr : env.frame = some env.locals
  dis : ∀ L ∈ frs fs, L ∉ ownOf env

inductive FlR (W : Wd) (h : Heap) (io : Io) : Fl → Flow → Prop
  | next : FlR W h io .next .next
  | cont : FlR W h io .cont .cont
  | ret {v : V} {u : Value} : VR W h io v u → FlR W h io (.ret v) (.ret u)

noncomputable abbrev SP (W : Wd) (env : Env) (vis : List (Option Str)) : Heap → Io → Fl × Lo → Flow → Prop := fun h io p f => FlR W h io p.1 f ∧ FR W h io env vis p.2
noncomputable abbrev RP (W : Wd) (env : Env) (vis : List (Option Str)) : Heap → Io → Lo → Unit → Prop := fun h io r _ => FR W h io env vis r

section
variable {W : Wd} {fs : List Env} {env : Env} {vis : List (Option Str)} {s s' : Shared} {io io' : Io} {m m' : MH} {r r' : Lo} {fr own own' : List Addr} {A : Around} {n : Nat} {pos p : Pos}

theorem Step.wk {h h' : Heap} (x : Step own fr h io m h' io' m') (k : ∀ b ∈ own, b ∈ own') : Step own' fr h io m h' io' m' :=
  ⟨x.alive, x.solid, fun b o e f1 f2 => x.keep b o e f1 fun q => f2 (k b q), fun b o e f1 f2 => x.slots b o e f1 fun q => f2 (k b q), x.grow, x.dicts⟩
theorem Stt.sit (Z : Stt W fs env vis s io m r) : Sit W (env :: fs) env vis s io m r := by
  refine ⟨Z.H, Z.F, fun e he => ?_⟩
  rcases List.mem_cons.mp he with rfl | he
  · refine hide fun GOAL hGOAL => ?_
    obtain ⟨mp, ⟨o, es, ep, ho, hd, _⟩, _⟩ := Z.F.loc
    refine hGOAL ?_
    clear hGOAL GOAL
    exact ⟨by rw [Z.F.kind]; simp, e.locals, o, es, ep, Z.fr, Z.F.fresh, Z.F.nofoot, ho, hd⟩
  · exact Z.G e he
theorem Stt.step (Z : Stt W fs env vis s io m r) (H : HR W s'.heap io' m') (st : Step [] fr s.heap io m s'.heap io' m') : Stt W fs env vis s' io' m' r := ⟨H, Z.F.step0 Z.H st, Z.G.step0 st, Z.fr, Z.dis⟩
theorem Stt.stepO (Z : Stt W fs env vis s io m r) (H : HR W s'.heap io' m') (st : Step (ownOf env) fr s.heap io m s'.heap io' m') (F : FR W s'.heap io' env vis r') : Stt W fs env vis s' io' m' r' := ⟨H, F, Z.G.step st Z.dis, Z.fr, Z.dis⟩

theorem not_solid_dict {o : Obj} {es : Array DictEntry} {k : Nat} (h : o.data = .dict es k) : ¬ Solid o := by
  rintro (⟨_, _, _, e⟩ | ⟨_, _, _, e⟩) <;> rw [h] at e <;> cases e
theorem not_solid_cell {o : Obj} {v : Option Value} (h : o.data = .cell v) : ¬ Solid o := by
  rintro (⟨_, _, _, e⟩ | ⟨_, _, _, e⟩) <;> rw [h] at e <;> cases e

/-- a name takes a value -/
theorem store_sim (Z : Stt W fs env vis s io m r) {i : Nat} {x : Str} {v : V} {u : Value} (hv : vis[i]? = some (some x)) (hk : env.kindOf x = some .local ∨ env.kindOf x = some .cell) (k : VR W s.heap io v u) :
    Si W (ownOf env) A (env :: fs) (RP W env vis) (storeName env x u) s io m (.ok (r.set i (some v)) m) := by
  intro _
  have hi : i < vis.length := (List.getElem?_eq_some_iff.mp hv).1
  have F := Z.F
  -- the new row
  have row : ∀ (j : Nat) (y : Str) (w : V), vis[j]? = some (some y) → (r.set i (some v))[j]? = some (some w) → (y = x ∧ w = v) ∨ (y ≠ x ∧ r[j]? = some (some w)) := by
    intro j y w h1 h2
    by_cases q : i = j
    · subst q
      rw [List.getElem?_set_self (by rw [F.len]; exact hi)] at h2
      rw [hv] at h1
      cases h1; cases h2; exact .inl ⟨rfl, rfl⟩
    · rw [List.getElem?_set_ne q] at h2
      refine .inr ⟨fun e => q (F.inj i j x hv (e ▸ h1)), h2⟩
  rcases hk with hk | hk
  · refine hide fun GOAL hGOAL => ?_
    obtain ⟨mp, hn, hl⟩ := F.loc
    refine hGOAL ?_
    clear hGOAL GOAL
    refine hide fun GOAL hGOAL => ?_
    obtain ⟨oL, esL, epL, hoL, hdL, _⟩ := id hn
    refine hGOAL ?_
    clear hGOAL GOAL
    refine wpAny_storeName_local hk hn (fun h' hn' hs => ?_) (by rw [F.kind]; rfl)
    have kk : ∀ b o, b ≠ env.locals → s.heap.get? b = some o → h'.get? b = some o := fun b o q e => (hs.2 b q).trans e
    have lv : ∀ o, s.heap.get? env.locals = some o → ¬ Solid o ∧ ∃ o', h'.get? env.locals = some o' := fun o ho => by
      rw [hoL] at ho; cases ho
      refine hide fun GOAL hGOAL => ?_
      obtain ⟨o', _, _, ho', _⟩ := id hn'
      refine hGOAL ?_
      clear hGOAL GOAL
      exact ⟨not_solid_dict hdL, o', ho'⟩
    have st : Step (ownOf env) (frs (env :: fs)) s.heap io m h' io m := step_own Z.H (L := env.locals) (by simp [ownOf]) kk lv F.nofoot
    have H' : HR W h' io m := Z.H.ofOwn (own := ownOf env) (L := env.locals) (by simp [ownOf]) kk lv F.nofoot F.fresh
    refine ⟨_, m, io, rfl, st, H', ?_, rfl, rfl⟩
    refine ⟨F.kind, F.glob, F.blt, F.nofoot, F.fresh, ⟨_, hn', fun j y w h1 h2 h3 => ?_⟩, fun j y w h1 h2 h3 => ?_, fun y c hy => ?_, F.celex, F.apart, F.inj, by simp [F.len]⟩
    · rcases row j y w h1 h2 with ⟨rfl, rfl⟩ | ⟨q, h2⟩
      · exact ⟨u, by simp, k.step st⟩
      · refine hide fun GOAL hGOAL => ?_
        obtain ⟨u', e, k'⟩ := hl j y w h1 h2 h3
        refine hGOAL ?_
        clear hGOAL GOAL
        exact ⟨u', by simp [q, e], k'.step st⟩
    · rcases row j y w h1 h2 with ⟨rfl, rfl⟩ | ⟨q, h2⟩
      · rw [hk] at h3; simp at h3
      · refine hide fun GOAL hGOAL => ?_
        obtain ⟨c, u', e, k1, k2⟩ := F.cel j y w h1 h2 h3
        refine hGOAL ?_
        clear hGOAL GOAL
        refine ⟨c, u', e, ?_, k2.step st⟩
        refine hide fun GOAL hGOAL => ?_
        obtain ⟨oc, hoc, hdc⟩ := k1
        refine hGOAL ?_
        clear hGOAL GOAL
        exact ⟨oc, kk c oc (F.cells y c e).2.2 hoc, hdc⟩
    · refine hide fun GOAL hGOAL => ?_
      obtain ⟨⟨o, oc, hoc, hdc⟩, k2, k3⟩ := F.cells y c hy
      refine hGOAL ?_
      clear hGOAL GOAL
      exact ⟨⟨o, oc, kk c oc k3 hoc, hdc⟩, k2, k3⟩
  · obtain ⟨c, hc⟩ := F.celex i x hv (.inl hk)
    refine hide fun GOAL hGOAL => ?_
    obtain ⟨⟨o0, oc, hoc, hdc⟩, c2, c3⟩ := F.cells x c hc
    refine hGOAL ?_
    clear hGOAL GOAL
    have nf : ¬ Foot io c := Z.H.nofoot_of_cell hoc hdc
    refine wpAny_storeName_cell F.kind hk hc ⟨oc, hoc, hdc⟩ fun h' hn' hs => ?_
    have kk : ∀ b o, b ≠ c → s.heap.get? b = some o → h'.get? b = some o := fun b o q e => (hs.2 b q).trans e
    have lv : ∀ o, s.heap.get? c = some o → ¬ Solid o ∧ ∃ o', h'.get? c = some o' := fun o ho => by
      rw [hoc] at ho; cases ho
      refine hide fun GOAL hGOAL => ?_
      obtain ⟨o', ho', _⟩ := id hn'
      refine hGOAL ?_
      clear hGOAL GOAL
      exact ⟨not_solid_cell hdc, o', ho'⟩
    have hin : c ∈ ownOf env := by
      exact List.mem_cons_of_mem _ (List.mem_filterMap.mpr ⟨(x, c), mem_of_lookup hc, hc⟩)
    have st : Step (ownOf env) (frs (env :: fs)) s.heap io m h' io m := step_own Z.H (L := c) hin kk lv nf
    have H' : HR W h' io m := Z.H.ofOwn (own := ownOf env) (L := c) hin kk lv nf c2
    refine ⟨_, m, io, rfl, st, H', ?_, rfl, rfl⟩
    refine hide fun GOAL hGOAL => ?_
    obtain ⟨mp, hn, hl⟩ := F.loc
    refine hGOAL ?_
    clear hGOAL GOAL
    have other : ∀ y c', env.cells.lookup y = some c' → y ≠ x → c' ≠ c := fun y c' hy q e => q (F.apart y x c (e ▸ hy) hc)
    refine ⟨F.kind, F.glob, F.blt, F.nofoot, F.fresh, ⟨mp, ?_, fun j y w h1 h2 h3 => ?_⟩, fun j y w h1 h2 h3 => ?_, fun y c' hy => ?_, F.celex, F.apart, F.inj, by simp [F.len]⟩
    · exact hn.sameBut hs (Ne.symm c3)
    · rcases row j y w h1 h2 with ⟨rfl, rfl⟩ | ⟨q, h2⟩
      · rw [hk] at h3; simp at h3
      · refine hide fun GOAL hGOAL => ?_
        obtain ⟨u', e, k'⟩ := hl j y w h1 h2 h3
        refine hGOAL ?_
        clear hGOAL GOAL
        exact ⟨u', e, k'.step st⟩
    · rcases row j y w h1 h2 with ⟨rfl, rfl⟩ | ⟨q, h2⟩
      · exact ⟨c, u, hc, hn', k.step st⟩
      · refine hide fun GOAL hGOAL => ?_
        obtain ⟨c', u', e, k1, k2⟩ := F.cel j y w h1 h2 h3
        refine hGOAL ?_
        clear hGOAL GOAL
        refine ⟨c', u', e, ?_, k2.step st⟩
        refine hide fun GOAL hGOAL => ?_
        obtain ⟨oc', hoc', hdc'⟩ := k1
        refine hGOAL ?_
        clear hGOAL GOAL
        exact ⟨oc', kk c' oc' (other y c' e q) hoc', hdc'⟩
    · refine hide fun GOAL hGOAL => ?_
      obtain ⟨⟨o, oc', hoc', hdc'⟩, k2, k3⟩ := F.cells y c' hy
      refine hGOAL ?_
      clear hGOAL GOAL
      by_cases q : c' = c
      · subst q; exact ⟨⟨_, hn'⟩, k2, k3⟩
      · exact ⟨⟨o, oc', kk c' oc' q hoc', hdc'⟩, k2, k3⟩
end
end Mini

/-! The keys of a dict, one by one, whatever they are. -/
namespace Mini
open PySem PySem.W

section
variable {prog : Program} {w : World} {A : Around} {E : Value → Shared → Prop} {s : Shared} {it d : Addr} {i ep : Nat} {o : Obj} {es : Array DictEntry}

end
end Mini

/-! What a loop goes over. -/
namespace Mini
open PySem PySem.W

section
variable {W : Wd} {h h' : Heap} {fs : List Env} {env : Env} {vis : List (Option Str)} {s s' : Shared} {io io' io₀ : Io} {m m' m₀ : MH} {r r' : Lo} {fr own own' : List Addr} {A : Around} {n : Nat} {pos p : Pos}

noncomputable def Sol (h h' : Heap) : Prop := ∀ b o, h.get? b = some o → Solid o → h'.get? b = some o
theorem VR.sol (x : Sol h h') {v : V} {u : Value} (k : VR W h io v u) : VR W h' io v u := k.mono x fun _ _ e => e
theorem VRs.sol (x : Sol h h') {v : List V} {u : List Value} (k : VRs W h io v u) : VRs W h' io v u := k.mono x fun _ _ e => e
theorem ERs.sol (x : Sol h h') {kvs : List (Ky × V)} {es : List DictEntry} (e : ERs W h io kvs es) : ERs W h' io kvs es := e.mono x fun _ _ e => e
theorem FEs.sol (x : Sol h h') {fs : List (Nat × V)} {mA : Str → Option Value} (e : FEs W h io fs mA) : FEs W h' io fs mA := e.mono x fun _ _ e => e
theorem OR.sol (x : Sol h h') {a d : Addr} {o : MObj} (k : OR W h io a d o) (ha : ∀ o, h.get? a = some o → h'.get? a = some o) (hd : ∀ o, h.get? d = some o → h'.get? d = some o) : OR W h' io a d o := by
  cases o with
  | list xs =>
    refine hide fun GOAL hGOAL => ?_
    obtain ⟨e, vs, n, h1, h4, h5⟩ := k
    refine hGOAL ?_
    clear hGOAL GOAL
    exact ⟨e, vs, n, ha _ h1, h4.sol x, h5⟩
  | dict kvs ep =>
    refine hide fun GOAL hGOAL => ?_
    obtain ⟨e, o, es, n, h1, h2, h3, h4, h5⟩ := k
    refine hGOAL ?_
    clear hGOAL GOAL
    exact ⟨e, o, es, n, ha _ h1, h2, h3, h4.sol x, h5⟩
  | inst c fs =>
    refine hide fun GOAL hGOAL => ?_
    obtain ⟨e, mA, h1, h2, h3, h4⟩ := k
    refine hGOAL ?_
    clear hGOAL GOAL
    exact ⟨e, mA, ha _ h1, h2.at hd, h3.sol x, h4⟩
theorem HR.sol (H : HR W h io m) (x : Sol h h') (hf : ∀ b o, Foot io b → h.get? b = some o → h'.get? b = some o) (hb : ∀ b o, W.base.get? b = some o → h'.get? b = some o) : HR W h' io m :=
  ⟨hb, H.len, fun n p o hi hm => (H.obj n p o hi hm).sol x (fun o => hf p.1 o ⟨p, List.mem_of_getElem? hi, .inl rfl⟩) fun o => hf p.2 o ⟨p, List.mem_of_getElem? hi, .inr rfl⟩, H.fresh, H.apart⟩

/-- objects that were not there at the start change -/
structure Side (W : Wd) (wr : List Addr) (h₀ h : Heap) (io : Io) (h' : Heap) : Prop where
  keep : ∀ b o, b ∉ wr → h.get? b = some o → h'.get? b = some o
  new : ∀ b ∈ wr, h₀.get? b = none
  foot : ∀ b ∈ wr, ¬ Foot io b
  soft : ∀ b ∈ wr, ∀ o, h.get? b = some o → ¬ Solid o
theorem Side.sol {wr : List Addr} {h₀ : Heap} (x : Side W wr h₀ h io h') : Sol h h' := fun b o e so => x.keep b o (fun q => x.soft b q o e so) e
theorem Side.step {wr : List Addr} {h₀ : Heap} (x : Side W wr h₀ h io h') (H : HR W h io m) (st : Step own fr h₀ io₀ m₀ h io m) : Step own fr h₀ io₀ m₀ h' io m := by
  have nw : ∀ b o, h₀.get? b = some o → b ∉ wr := fun b o e q => by rw [x.new b q] at e; cases e
  refine ⟨fun b o e => ?_, fun b o e so => ?_, fun b o e f1 f2 f3 => x.keep _ _ (nw b o e) (st.keep b o e f1 f2 f3), fun b o e f1 f2 => ?_, st.grow, fun n p kvs ep hi hm => ?_⟩
  · obtain ⟨o', e'⟩ := st.alive b o e
    exact ⟨o', x.keep _ _ (nw b o e) e'⟩
  · exact x.keep _ _ (nw b o e) (st.solid b o e so)
  · obtain ⟨sl, e'⟩ := st.slots b o e f1 f2
    exact ⟨sl, x.keep _ _ (nw b o e) e'⟩
  · refine hide fun GOAL hGOAL => ?_
    obtain ⟨k', e', q1, q2, q3⟩ := st.dicts n p kvs ep hi hm
    refine hGOAL ?_
    clear hGOAL GOAL
    refine ⟨k', e', q1, q2, fun q => ⟨?_, (q3 q).2⟩⟩
    have hi' := st.io_get hi
    obtain ⟨o, ho⟩ := H.there hi'
    rw [← (q3 q).1, ho]
    exact x.keep _ _ (fun w => x.foot _ w ⟨p, List.mem_of_getElem? hi', .inl rfl⟩) ho
theorem Side.hr {wr : List Addr} {h₀ : Heap} (x : Side W wr h₀ h io h') (H : HR W h io m) (hb : ∀ b o, W.base.get? b = some o → h₀.get? b = some o) : HR W h' io m :=
  H.sol x.sol (fun b o f e => x.keep b o (fun q => x.foot b q f) e) fun b o e => x.keep b o (fun q => by have := hb b o e; rw [x.new b q] at this; cases this) (H.keep b o e)

theorem lot_plain {target : Expr} {I : Addr} {o : Obj} {T : String} {ws : Array Value} {u : Value} {Q : Unit → Shared → Prop} {E : Value → Shared → Prop} {M : Model} (ho : s.heap.get? I = some o) (hc : o.cls = .type T) (hd : o.data = .fields ws)
    (hT : (["enumerate", "zip", "dict_itemiterator", "dict_reverseitemiterator", "odict_iterator", "itertools.zip_longest", "itertools.pairwise"].contains T) = false) (h : Q () s) : wpAny M A (letOwnedTupleGo target (.ref I) u) Q E s := by
  have key : ∀ a : Addr, wpAny M A (do
      let o ← load I
      match o.cls, o.data with
      | .type n, .fields vs =>
        if ["enumerate", "zip", "dict_itemiterator", "dict_reverseitemiterator", "odict_iterator", "itertools.zip_longest", "itertools.pairwise"].contains n && vs[0]? == some (rawInt a) then
          rule "for.unpacks-the-owned-tuple"
          updateField I 0 .none
      | _, _ => pure ()) Q E s := fun a => by
    refine wpAny_bind (wpAny_load ho ?_)
    rw [hc, hd]
    simp only [hT, Bool.false_and]
    exact wpAny_pure h
  unfold letOwnedTupleGo
  cases target <;> first | exact wpAny_pure h | skip
  all_goals
    cases u <;> first | exact wpAny_pure h | exact key _

/-- a thing that is gone over: the iterator, what it writes, the items -/
structure Wk (W : Wd) (A : Around) (I : Addr) (wr : List Addr) (g : Gd) (vs : List V) (St : Nat → Heap → Io → Prop) : Prop where
  soft : ∀ {i : Nat} {h : Heap} {io : Io}, St i h io → ∀ b ∈ wr, ¬ Foot io b ∧ ∀ o, h.get? b = some o → ¬ Solid o
  stay : ∀ {i : Nat} {h h' : Heap} {io io' : Io} {m m' : MH} {own fr : List Addr}, St i h io → HR W h io m → HR W h' io' m' → Step own fr h io m h' io' m' → (∀ b ∈ wr, b ∉ own ∧ b ∉ fr) → g.stays m = true → g.stays m' = true → St i h' io'
  item : ∀ {i : Nat} {s : Shared} {io : Io} {m : MH} {v : V} {Q : Option Value → Shared → Prop} {E : Value → Shared → Prop}, vs[i]? = some v → St i s.heap io → HR W s.heap io m → g.stays m = true →
    (∀ u h' tk, VR W s.heap io v u → St (i + 1) h' io → (∀ b o, b ∉ wr → s.heap.get? b = some o → h'.get? b = some o) → Q (some u) { s with heap := h', toks := tk }) → wpAny (model W.prog W.w) A (pyNext (.ref I)) Q E s
  alive : ∀ {i : Nat} {h : Heap} {io : Io}, St i h io → ∀ b ∈ wr, ∃ o, h.get? b = some o
  self : ∀ {i : Nat} {s : Shared} {io : Io} {Q : Value → Shared → Prop} {E : Value → Shared → Prop}, St i s.heap io → Q (.ref I) s → wpAny (model W.prog W.w) A (pyIter (.ref I)) Q E s
  lot : ∀ {i : Nat} {s : Shared} {io : Io} {target : Expr} {u : Value} {Q : Unit → Shared → Prop} {E : Value → Shared → Prop}, St i s.heap io → (∀ h', St i h' io → (∀ b o, b ∉ wr → s.heap.get? b = some o → h'.get? b = some o) → Q () { s with heap := h' }) → wpAny (model W.prog W.w) A (letOwnedTupleGo target (.ref I) u) Q E s
  done : ∀ {s : Shared} {io : Io} {m : MH} {Q : Option Value → Shared → Prop} {E : Value → Shared → Prop}, St vs.length s.heap io → HR W s.heap io m → g.stays m = true →
    (∀ h' tk, (∀ b o, b ∉ wr → s.heap.get? b = some o → h'.get? b = some o) → Q none { s with heap := h', toks := tk }) → wpAny (model W.prog W.w) A (pyNext (.ref I)) Q E s

theorem no_tf {C : Prop} (h : false = true) : C := by cases h
mutual
theorem same_eq : ∀ (x y : V), V.same x y = true → x = y
  | .none, y, h => by cases y <;> first | rfl | (exact no_tf h)
  | .bool a, y, h => by cases y <;> first | (exact no_tf h) | (exact congrArg V.bool (eq_of_beq h))
  | .int a, y, h => by cases y <;> first | (exact no_tf h) | (exact congrArg V.int (eq_of_beq h))
  | .str a, y, h => by cases y <;> first | (exact no_tf h) | (exact congrArg V.str (eq_of_beq h))
  | .tup xs, y, h => by cases y <;> first | (exact no_tf h) | (exact congrArg V.tup (sames_eq xs _ h))
  | .ref a, y, h => by cases y <;> first | (exact no_tf h) | (exact congrArg V.ref (eq_of_beq h))
  | .fn a, y, h => by cases y <;> first | (exact no_tf h) | (exact congrArg V.fn (eq_of_beq h))
  | .exc a, y, h => by cases y <;> first | (exact no_tf h) | (exact congrArg V.exc (eq_of_beq h))
  | .scr a, y, h => by cases y <;> first | (exact no_tf h) | (exact congrArg V.scr (eq_of_beq h))
theorem sames_eq : ∀ (xs ys : List V), V.sames xs ys = true → xs = ys
  | [], ys, h => by
    cases ys with
    | nil => rfl
    | cons _ _ => exact no_tf h
  | x :: xs, ys, h => by
    cases ys with
    | nil => exact no_tf h
    | cons y ys =>
      have h : (V.same x y && V.sames xs ys) = true := h
      rw [Bool.and_eq_true] at h
      rw [same_eq x y h.1, sames_eq xs ys h.2]
end

theorem fields_soft {o : Obj} {T : String} {vs : Array Value} (hc : o.cls = .type T) (hd : o.data = .fields vs) : ¬ Solid o := by
  rintro (⟨_, _, _, e⟩ | ⟨C, _, e, _⟩)
  · rw [hd] at e; cases e
  · rw [hc] at e; cases e

theorem Wk.list {I a d : Addr} {k : Nat} {xs : List V} (hh : A.handled = none) : Wk W A I [I] (.list k xs) xs (fun i h io => h.IsListIter I a i ∧ io[k]? = some (a, d) ∧ ¬ Foot io I) where
  soft := fun ⟨⟨o, ho, hc, hd⟩, _, nf⟩ b hb => by
    rw [List.mem_singleton.mp hb]
    exact ⟨nf, fun o' e => by rw [ho] at e; cases e; exact fields_soft hc hd⟩
  stay := fun ⟨⟨o, ho, hc, hd⟩, hi, nf⟩ H _ st hb _ _ => by
    have q := hb I (.head _)
    exact ⟨⟨o, st.keep _ _ ho nf q.1 q.2, hc, hd⟩, st.io_get hi, st.nofoot ho nf⟩
  item := fun {i s io m v Q E} hv ⟨hit, hi, nf⟩ H hg hQ => by
    simp only [Gd.stays] at hg
    split at hg
    · rename_i ys hm
      have e := sames_eq _ _ hg
      subst e
      refine hide fun GOAL hGOAL => ?_
      obtain ⟨_, us, c, h1, h2, h3⟩ := H.obj _ _ _ hi hm
      refine hGOAL ?_
      clear hGOAL GOAL
      refine hide fun GOAL hGOAL => ?_
      obtain ⟨u, hu, ku⟩ := h2.get hv
      refine hGOAL ?_
      clear hGOAL GOAL
      refine wpAny_pyNext_list_item hit ⟨_, h1, rfl, c, rfl⟩ (by simpa using hu) fun h' hit' hs => ?_
      exact hQ u h' s.toks ku ⟨hit', hi, nf⟩ fun b o hb e => (hs.2 b (by simpa using hb)).trans e
    · cases hg
  alive := fun ⟨⟨o, ho, _⟩, _⟩ b hb => by rw [List.mem_singleton.mp hb]; exact ⟨o, ho⟩
  self := fun st hQ => wpAny_pyIter_listiter st.1 hQ
  lot := fun {i s io target u Q E} st hQ => by
    refine hide fun GOAL hGOAL => ?_
    obtain ⟨⟨o, ho, hc, hd⟩, _⟩ := id st
    refine hGOAL ?_
    clear hGOAL GOAL
    exact lot_plain ho hc hd (by decide) (hQ _ st fun _ _ _ e => e)
  done := fun {s io m Q E} ⟨hit, hi, nf⟩ H hg hQ => by
    simp only [Gd.stays] at hg
    split at hg
    · rename_i ys hm
      have e := sames_eq _ _ hg
      subst e
      refine hide fun GOAL hGOAL => ?_
      obtain ⟨_, us, c, h1, h2, h3⟩ := H.obj _ _ _ hi hm
      refine hGOAL ?_
      clear hGOAL GOAL
      have hl := h2.length
      refine wpAny_pyNext_list_end hh hit ⟨_, h1, rfl, c, rfl⟩ (by simp at hl; simp [hl]) fun h' hs => ?_
      exact hQ h' s.toks fun b o hb e => hs b o (by simpa using hb) e
    · cases hg

/-- from the kit's walks over what stays -/
theorem Wk.of_walks {I : Addr} {fp : List Addr} {k : Nat} {P : Nat → Value → Prop} {St : Nat → Heap → Prop} {vs : List V} (hw : Walks W.prog W.w A I fp [I] k P St) (hk : k = vs.length)
    (hP : ∀ (i : Nat) (v : V) (u : Value) (h : Heap) (io : Io), vs[i]? = some v → P i u → VR W h io v u)
    (hI : ∀ i h, St i h → ∃ o T ws, h.get? I = some o ∧ o.cls = .type T ∧ o.data = .fields ws ∧ (["enumerate", "zip", "dict_itemiterator", "dict_reverseitemiterator", "odict_iterator", "itertools.zip_longest", "itertools.pairwise"].contains T) = false)
    (hfp : ∀ b ∈ fp, b = I ∨ ∃ o, W.base.get? b = some o) : Wk W A I [I] .none vs (fun i h io => St i h ∧ ¬ Foot io I) where
  soft := fun ⟨st, nf⟩ b hb => by
    rw [List.mem_singleton.mp hb]
    refine hide fun GOAL hGOAL => ?_
    obtain ⟨o, T, ws, ho, hc, hd, hT⟩ := hI _ _ st
    refine hGOAL ?_
    clear hGOAL GOAL
    exact ⟨nf, fun o' e => by rw [ho] at e; cases e; exact fields_soft hc hd⟩
  stay := fun {i h h' io io' m m' own fr} ⟨st, nf⟩ H H' x hb _ _ => by
    refine hide fun GOAL hGOAL => ?_
    obtain ⟨o, T, ws, ho, hc, hd, hT⟩ := hI _ _ st
    refine hGOAL ?_
    clear hGOAL GOAL
    have q := hb I (.head _)
    refine ⟨hw.frame i h h' st fun b hb o' e => ?_, x.nofoot ho nf⟩
    rcases hfp b hb with rfl | ⟨ob, k⟩
    · exact x.keep _ _ e nf q.1 q.2
    · rw [H.keep _ _ k] at e; cases e; exact H'.keep _ _ k
  item := fun {i s io m v Q E} hv ⟨st, nf⟩ H hg hQ => by
    have hi : i < k := by rw [hk]; exact (List.getElem?_eq_some_iff.mp hv).1
    exact hw.item i s Q E hi st fun u h' tk p st' kk => hQ u h' tk (hP i v u _ _ hv p) ⟨st', nf⟩ kk
  alive := fun ⟨st, _⟩ b hb => by
    refine hide fun GOAL hGOAL => ?_
    obtain ⟨o, _, _, ho, _⟩ := hI _ _ st
    refine hGOAL ?_
    clear hGOAL GOAL
    rw [List.mem_singleton.mp hb]; exact ⟨o, ho⟩
  self := fun {i s io Q E} st hQ => hw.self i s Q E st.1 hQ
  lot := fun {i s io target u Q E} st hQ => by
    refine hide fun GOAL hGOAL => ?_
    obtain ⟨o, T, ws, ho, hc, hd, hT⟩ := hI _ _ st.1
    refine hGOAL ?_
    clear hGOAL GOAL
    exact lot_plain ho hc hd hT (hQ _ st fun _ _ _ e => e)
  done := fun {s io m Q E} ⟨st, nf⟩ H hg hQ => hw.done s Q E (hk ▸ st) hQ

/-- a source: its iterator is made, and then gone over -/
noncomputable def SrcP (W : Wd) (A : Around) (fs : List Env) (own : List Addr) (s : Shared) (io : Io) (m : MH) (p : List V × Gd) (t : Sem Value) : Prop :=
  ∀ (Q : Value → Shared → Prop) (E : Value → Shared → Prop), (∀ I wr St h' tk, Wk W A I wr p.2 p.1 St → St 0 h' io → (∀ b o, s.heap.get? b = some o → h'.get? b = some o) → (∀ b ∈ wr, s.heap.get? b = none) → (p.2.stays m = true) → Q (.ref I) { s with heap := h', toks := tk }) → wpAny (model W.prog W.w) A t Q E s
theorem nofoot_size (H : HR W s.heap io m) : ¬ Foot io s.heap.objs.size := fun f => by
  refine hide fun GOAL hGOAL => ?_
  obtain ⟨o, e, _⟩ := H.foot f
  refine hGOAL ?_
  clear hGOAL GOAL
  rw [get_size] at e; cases e
theorem iter_sim (ok : WOk W) (hh : A.handled = none) (H : HR W s.heap io m) {v : V} {u : Value} (k : VR W s.heap io v u) {p : List V × Gd} {m' : MH} (hp : itemsV v m = .ok p m') : m' = m ∧ SrcP W A fs own s io m p (pyIter u) := by
  cases k with
  | none => cases hp
  | bool b => cases hp
  | int i t => cases hp
  | fn k => cases hp
  | exc => cases hp
  | tup _ _ => cases hp
  | str x t hx =>
    cases hp
    refine ⟨rfl, fun Q E hQ => ?_⟩
    have key : ∀ (T : String) (hT : (["enumerate", "zip", "dict_itemiterator", "dict_reverseitemiterator", "odict_iterator", "itertools.zip_longest", "itertools.pairwise"].contains T) = false) (hw : Walks W.prog W.w A s.heap.objs.size [s.heap.objs.size] [s.heap.objs.size] x.cps.size (SignAt x) (fun i h => h.IsStrIter s.heap.objs.size T x t i)), Wk W A s.heap.objs.size [s.heap.objs.size] .none (x.cps.toList.map fun c => V.str ⟨#[c]⟩) (fun i h io => h.IsStrIter s.heap.objs.size T x t i ∧ ¬ Foot io s.heap.objs.size) := fun T hT hw => by
      refine Wk.of_walks hw (by simp) (fun i v u h io hv hP => ?_) (fun i h ⟨o, ho, hc, hd⟩ => ⟨o, T, _, ho, hc, hd, hT⟩) fun b hb => .inl (by simpa using hb)
      refine hide fun GOAL hGOAL => ?_
      obtain ⟨c, t', e1, rfl⟩ := hP
      refine hGOAL ?_
      clear hGOAL GOAL
      rw [List.getElem?_map, Array.getElem?_toList, e1] at hv
      cases hv
      exact .str _ _ (strOk_get hx e1)
    cases ha : x.cps.all (· < 128)
    · exact wpAny_pyIter_wide ha (hQ _ _ _ _ _ (key _ (by decide) (Walks.strWide hh _ x t)) ⟨⟨_, Heap.get?_push_size _ rfl, rfl, rfl⟩, nofoot_size H⟩ (push_keeps _) (fun b hb => by rw [List.mem_singleton.mp hb]; exact get_size _) rfl)
    · exact wpAny_pyIter_ascii ha (hQ _ _ _ _ _ (key _ (by decide) (Walks.strAscii hh _ x t)) ⟨⟨_, Heap.get?_push_size _ rfl, rfl, rfl⟩, nofoot_size H⟩ (push_keeps _) (fun b hb => by rw [List.mem_singleton.mp hb]; exact get_size _) rfl)
  | @ref n a d hi =>
    simp only [itemsV] at hp
    split at hp
    · rename_i xs hm
      cases hp
      refine hide fun GOAL hGOAL => ?_
      obtain ⟨_, us, c, h1, h2, h3⟩ := H.obj _ _ _ hi hm
      refine hGOAL ?_
      clear hGOAL GOAL
      refine ⟨rfl, fun Q E hQ => wpAny_pyIter_list ⟨_, h1, rfl, c, rfl⟩ ?_⟩
      refine hQ _ _ _ _ _ (Wk.list (a := a) (d := d) hh) ⟨⟨_, Heap.get?_push_size _ rfl, rfl, rfl⟩, hi, nofoot_size H⟩ (push_keeps _) (fun b hb => by rw [List.mem_singleton.mp hb]; exact get_size _) ?_
      simp only [Gd.stays, hm]; exact sames_self xs
    · cases hp
  | scr _ _ _ _ _ => cases hp
end
end Mini

/-! Statements: the rules. -/
namespace Mini
open PySem PySem.W

section
variable {W : Wd} {K : Frag} {h h' : Heap} {fs : List Env} {env : Env} {vis : List (Option Str)} {s s' : Shared} {io io' io₀ : Io} {m m' m₀ : MH} {r r' : Lo} {fr own own' : List Addr} {A : Around} {n : Nat} {pos p : Pos}

noncomputable def SiS (W : Wd) (A : Around) (fs : List Env) (env : Env) (vis : List (Option Str)) (t : Sem Flow) (c : Lo → Mn (Fl × Lo)) : Prop :=
  ∀ (s : Shared) (io : Io) (m : MH) (r : Lo), Stt W fs env vis s io m r → Si W (ownOf env) A (env :: fs) (SP W env vis) t s io m (c r m)

theorem x_nil : SiS W A fs env vis (execs [] env) (fun r => ret (.next, r)) := fun _ _ _ _ Z => .pure (u := Flow.next) Z.H ⟨.next, Z.F⟩
theorem x_cons {st : Stmt} {rest : List Stmt} {c1 c2 : Lo → Mn (Fl × Lo)} (h1 : SiS W A fs env vis (exec st env) c1) (h2 : SiS W A fs env vis (execs rest env) c2) :
    SiS W A fs env vis (execs (st :: rest) env) (fun r => bnd (c1 r) fun p => match p.1 with | .next => c2 p.2 | f => ret (f, p.2)) := by
  intro s io m r Z
  rw [execs_cons]
  refine Si.bind (h1 s io m r Z) fun f s₁ io₁ m₁ p _ st H₁ k sm => ?_
  obtain ⟨q, r₁⟩ := p
  obtain ⟨kf, kF⟩ := k
  cases kf with
  | next => exact h2 _ _ _ _ (Z.stepO H₁ st kF)
  | cont => exact .pure H₁ ⟨.cont, kF⟩
  | ret kv => exact .pure H₁ ⟨.ret kv, kF⟩

theorem Si.bindE {α β α' β' : Type} {P : Heap → Io → α → β → Prop} {P' : Heap → Io → α' → β' → Prop} {t : Sem β} {k : β → Sem β'} {R : Res α} {f : α → Mn α'} (x : Si W [] A fs P t s io m R)
    (y : ∀ u s₁ io₁ m₁ v, R = .ok v m₁ → Step [] (frs fs) s.heap io m s₁.heap io₁ m₁ → HR W s₁.heap io₁ m₁ → P s₁.heap io₁ v u → Same s s₁ → Si W own A fs P' (k u) s₁ io₁ m₁ (f v m₁)) :
    Si W own A fs P' (t >>= k) s io m (R.bind f) := by
  intro hne
  refine wpAny_bind (wpAny_mono (x (Res.bind_ne hne)) (fun u s₁ hp => ?_) fun e s₁ hp => ?_)
  · refine hide fun GOAL hGOAL => ?_
    obtain ⟨v, m₁, io₁, rfl, st, hr, hp, sm⟩ := hp
    refine hGOAL ?_
    clear hGOAL GOAL
    have st' := st.wk (own' := own) fun _ q => nomatch q
    exact wpAny_mono (y u s₁ io₁ m₁ v rfl st hr hp sm hne) (fun _ _ z => z.mono st' sm) fun _ _ z => z.mono st' sm
  · refine hide fun GOAL hGOAL => ?_
    obtain ⟨c, m', io', a, g, h1, h2, h3, h4, h5, h6⟩ := hp
    refine hGOAL ?_
    clear hGOAL GOAL
    exact XP.bind (R := R) ⟨c, m', io', a, g, h1, h2, h3.wk (fun _ q => nomatch q), h4, h5, h6⟩ .refl (.refl _)

theorem x_ret {e : Expr} {c : Lo → Mn V} (he : SiE W A (env :: fs) env vis (eval e env) c) : SiS W A fs env vis (exec (.Return (some e) pos) env) (fun r => bnd (c r) fun v => ret (.ret v, r)) := by
  intro s io m r Z
  rw [exec_Return_some]
  refine .standAt (Si.bindE (he s io m r Z.sit) fun u s₁ io₁ m₁ v _ st H₁ k sm => ?_)
  exact .pure H₁ ⟨.ret k, Z.F.step0 Z.H st⟩
theorem x_pass : SiS W A fs env vis (exec (.Pass pos) env) (fun r => ret (.next, r)) := fun _ _ _ _ Z => .standAt (.pure Z.H ⟨.next, Z.F⟩)
theorem x_cont : SiS W A fs env vis (exec (.Continue pos) env) (fun r => ret (.cont, r)) := fun _ _ _ _ Z => .standAt (.pure Z.H ⟨.cont, Z.F⟩)
theorem x_if {test : Expr} {body orelse : List Stmt} {ct : Lo → Mn Bool} {ca cb : Lo → Mn (Fl × Lo)} (ht : SiB W A (env :: fs) env vis (isTrue test env (eval test env)) ct) (ha : SiS W A fs env vis (execs body env) ca) (hb : SiS W A fs env vis (execs orelse env) cb) :
    SiS W A fs env vis (exec (.If test body orelse pos) env) (fun r => bnd (ct r) fun t => if t then ca r else cb r) := by
  intro s io m r Z
  rw [exec_If]
  refine .standAt (Si.bindE (ht s io m r Z.sit) fun u s₁ io₁ m₁ v _ st H₁ k sm => ?_)
  cases k
  cases u
  · exact hb _ _ _ r (Z.step H₁ st)
  · exact ha _ _ _ r (Z.step H₁ st)

theorem x_exp {e : Expr} {c : Lo → Mn V} (hs : swapsWith e none pos.line env = Pure.pure false) (he : SiE W A (env :: fs) env vis (eval e env) c) : SiS W A fs env vis (exec (.Expr e pos) env) (fun r => bnd (c r) fun _ => ret (.next, r)) := by
  intro s io m r Z
  rw [exec_Expr env e pos (by unfold interactive; rw [Z.F.kind]; rfl) hs]
  refine .standAt (Si.bindE (he s io m r Z.sit) fun u s₁ io₁ m₁ v _ st H₁ k sm => ?_)
  exact fun _ => wpAny_dropValue ⟨_, m₁, io₁, rfl, .refl, H₁, ⟨.next, Z.F.step0 Z.H st⟩, .refl _⟩

/-! ### assignments -/
noncomputable def SiA (W : Wd) (A : Around) (fs : List Env) (env : Env) (vis : List (Option Str)) (target : Expr) (c : V → Lo → Mn Lo) : Prop :=
  ∀ (s : Shared) (io : Io) (m : MH) (r : Lo) (v : V) (u : Value), Stt W fs env vis s io m r → VR W s.heap io v u → Si W (ownOf env) A (env :: fs) (RP W env vis) (assign target env u) s io m (c v r m)
theorem Si.bindName {x : Str} {u : Value} {α : Type} {P : Heap → Io → α → Unit → Prop} {R : Res α} (h : Si W own A fs P (storeName env x u) s io m R) : Si W own A fs P (PySem.bindName env x u) s io m R := fun hne => wpAny_bindName (h hne)
theorem a_name {i : Nat} {x : Str} (hv : vis[i]? = some (some x)) (hk : env.kindOf x = some .local ∨ env.kindOf x = some .cell) : SiA W A fs env vis (.Name x pos) (fun v r m => .ok (r.set i (some v)) m) :=
  fun _ _ _ _ _ _ Z k => .standAt (.bindName (store_sim Z hv hk k))

theorem x_asg {target value : Expr} {c : Lo → Mn V} {ca : V → Lo → Mn Lo} (he : SiE W A (env :: fs) env vis (eval value env) c) (ha : SiA W A fs env vis target ca) (hs : swapsWithSole [target] value pos.line env = Pure.pure false) (hw : swappedStores [target] value env = Pure.pure none) (hst : (assignEach [target] env).map (·.2) = [assign target env]) :
    SiS W A fs env vis (exec (.Assign [target] value pos) env) (fun r => bnd (c r) fun v => bnd (ca v r) fun r' => ret (.next, r')) := by
  intro s io m r Z hne
  refine wpAny_Assign_stores ?_ hs hw
  rw [hst]
  refine wpAny_mono (he s io m r Z.sit (Res.bind_ne hne)) (fun u s₁ q => ?_) fun e s₁ hp => ?_
  · refine hide fun GOAL hGOAL => ?_
    obtain ⟨v, m₁, io₁, e1, st, H₁, k, sm⟩ := q
    refine hGOAL ?_
    clear hGOAL GOAL
    have ee : bnd (c r) (fun v => bnd (ca v r) fun r' => ret ((Fl.next, r') : Fl × Lo)) m = (ca v r m₁).bind fun r' => ret ((Fl.next, r') : Fl × Lo) := by show (c r m).bind _ = _; rw [e1]; rfl
    dsimp only at hne ⊢
    rw [ee] at hne ⊢
    have st' := st.wk (own' := ownOf env) fun _ q => nomatch q
    refine wpAny_mono (ha s₁ io₁ m₁ r v u (Z.step H₁ st) k (Res.bind_ne hne)) (fun _ s₂ q => ?_) fun e s₂ q => (q.mono st' sm).bind .refl (.refl _)
    refine hide fun GOAL hGOAL => ?_
    obtain ⟨r₂, m₂, io₂, e2, st2, H2, k2, sm2⟩ := q
    refine hGOAL ?_
    clear hGOAL GOAL
    exact ⟨(.next, r₂), m₂, io₂, by rw [e2]; rfl, st'.trans st2, H2, ⟨.next, k2⟩, sm.trans sm2⟩
  · refine hide fun GOAL hGOAL => ?_
    obtain ⟨c', m', io', a, g, h1, h2, h3, h4, h5, h6⟩ := hp
    refine hGOAL ?_
    clear hGOAL GOAL
    exact XP.bind (R := c r m) ⟨c', m', io', a, g, h1, h2, h3.wk (fun _ q => nomatch q), h4, h5, h6⟩ .refl (.refl _)

/-! ### loops -/
noncomputable def ItP (W : Wd) (A : Around) (h₀ : Heap) : Heap → Io → List V × Gd → Value → Prop := fun h io p u => ∃ I wr St, u = .ref I ∧ Wk W A I wr p.2 p.1 St ∧ St 0 h io ∧ ∀ b ∈ wr, h₀.get? b = none
noncomputable def SiSrc (W : Wd) (A : Around) (fs : List Env) (env : Env) (vis : List (Option Str)) (iter : Expr) (c : Lo → Mn (List V × Gd)) : Prop :=
  ∀ (s : Shared) (io : Io) (m : MH) (r : Lo), Sit W fs env vis s io m r → c r m ≠ .bad → wpAny (model W.prog W.w) A (eval iter env) (fun x s₁ => wpAny (model W.prog W.w) A (pyIter x) (fun it s₂ => NP W [] (frs fs) s io m (ItP W A s.heap) (c r m) it s₂) (XP W [] fs s io m (c r m)) s₁) (XP W [] fs s io m (c r m)) s

theorem dead_before {h₀ : Heap} (st : Step own fr h₀ io₀ m₀ h io m) {b : Addr} (e : h.get? b = none) : h₀.get? b = none := by
  cases q : h₀.get? b with
  | none => rfl
  | some o => obtain ⟨o', e'⟩ := st.alive b o q; rw [e] at e'; cases e'

theorem src_expr {iter : Expr} {c : Lo → Mn V} (ok : WOk W) (hh : A.handled = none) (he : SiE W A fs env vis (eval iter env) c) : SiSrc W A fs env vis iter (fun r => bnd (c r) itemsV) := by
  intro s io m r Z hne
  refine wpAny_mono (he s io m r Z (Res.bind_ne hne)) (fun u s₁ q => ?_) fun e s₁ q => q.bind .refl (.refl _)
  refine hide fun GOAL hGOAL => ?_
  obtain ⟨v, m₁, io₁, e1, st, H₁, k, sm⟩ := q
  refine hGOAL ?_
  clear hGOAL GOAL
  have ee : bnd (c r) itemsV m = itemsV v m₁ := by show (c r m).bind _ = _; rw [e1]; rfl
  dsimp only at hne ⊢
  rw [ee] at hne ⊢
  cases hq : itemsV v m₁ with
  | bad => exact absurd hq hne
  | exc c' m' => unfold itemsV at hq; split at hq <;> first | cases hq | (split at hq <;> cases hq)
  | ok p m' =>
    obtain ⟨rfl, key⟩ := iter_sim (fs := fs) (own := []) ok hh H₁ k hq
    refine key _ _ fun I wr St h' tk hw h0 hk hn hg => ?_
    have st2 : Step [] (frs fs) s₁.heap io₁ m' h' io₁ m' := .of_keeps H₁ hk
    exact ⟨p, m', io₁, rfl, st.trans st2, H₁.of_keeps hk, ⟨I, wr, St, rfl, hw, h0, fun b hb => dead_before st (hn b hb)⟩, sm⟩

theorem FR.sideN {wr : List Addr} {h₀ : Heap} (F : FR W h io env vis r) (x : Side W wr h₀ h io h') (hL : env.locals ∉ wr) (hc : ∀ y c, env.cells.lookup y = some c → c ∉ wr) : FR W h' io env vis r := by
  refine hide fun GOAL hGOAL => ?_
  obtain ⟨mp, hn, hl⟩ := F.loc
  refine hGOAL ?_
  clear hGOAL GOAL
  have sc : ∀ y c v, env.cells.lookup y = some c → h.IsCell c v → h'.IsCell c v := fun y c v hy ⟨o, ho, hd⟩ => ⟨o, x.keep _ _ (hc y c hy) ho, hd⟩
  refine ⟨F.kind, F.glob, F.blt, F.nofoot, F.fresh, ⟨mp, ?_, fun i y v h1 h2 h3 => ?_⟩, fun i y v h1 h2 h3 => ?_, fun y c hy => ?_, F.celex, F.apart, F.inj, F.len⟩
  · refine hide fun GOAL hGOAL => ?_
    obtain ⟨o, es, ep, ho, hd, q⟩ := hn
    refine hGOAL ?_
    clear hGOAL GOAL
    exact ⟨o, es, ep, x.keep _ _ hL ho, hd, q⟩
  · refine hide fun GOAL hGOAL => ?_
    obtain ⟨u, e, k⟩ := hl i y v h1 h2 h3
    refine hGOAL ?_
    clear hGOAL GOAL
    exact ⟨u, e, k.sol x.sol⟩
  · refine hide fun GOAL hGOAL => ?_
    obtain ⟨c, u, e, k1, k2⟩ := F.cel i y v h1 h2 h3
    refine hGOAL ?_
    clear hGOAL GOAL
    exact ⟨c, u, e, sc y c _ e k1, k2.sol x.sol⟩
  · refine hide fun GOAL hGOAL => ?_
    obtain ⟨⟨o, k1⟩, k2, k3⟩ := F.cells y c hy
    refine hGOAL ?_
    clear hGOAL GOAL
    exact ⟨⟨o, sc y c _ hy k1⟩, k2, k3⟩
theorem FR.side {wr : List Addr} {h₀ : Heap} (F : FR W h io env vis r) (x : Side W wr h₀ h io h') (hL : ∃ o, h₀.get? env.locals = some o) (hc : ∀ y c, env.cells.lookup y = some c → ∃ o, h₀.get? c = some o) : FR W h' io env vis r := by
  have nw : ∀ b, (∃ o, h₀.get? b = some o) → b ∉ wr := fun b ⟨o, e⟩ q => by rw [x.new b q] at e; cases e
  refine hide fun GOAL hGOAL => ?_
  obtain ⟨mp, hn, hl⟩ := F.loc
  refine hGOAL ?_
  clear hGOAL GOAL
  have sc : ∀ y c v, env.cells.lookup y = some c → h.IsCell c v → h'.IsCell c v := fun y c v hy ⟨o, ho, hd⟩ => ⟨o, x.keep _ _ (nw c (hc y c hy)) ho, hd⟩
  refine ⟨F.kind, F.glob, F.blt, F.nofoot, F.fresh, ⟨mp, ?_, fun i y v h1 h2 h3 => ?_⟩, fun i y v h1 h2 h3 => ?_, fun y c hy => ?_, F.celex, F.apart, F.inj, F.len⟩
  · refine hide fun GOAL hGOAL => ?_
    obtain ⟨o, es, ep, ho, hd, q⟩ := hn
    refine hGOAL ?_
    clear hGOAL GOAL
    exact ⟨o, es, ep, x.keep _ _ (nw _ hL) ho, hd, q⟩
  · refine hide fun GOAL hGOAL => ?_
    obtain ⟨u, e, k⟩ := hl i y v h1 h2 h3
    refine hGOAL ?_
    clear hGOAL GOAL
    exact ⟨u, e, k.sol x.sol⟩
  · refine hide fun GOAL hGOAL => ?_
    obtain ⟨c, u, e, k1, k2⟩ := F.cel i y v h1 h2 h3
    refine hGOAL ?_
    clear hGOAL GOAL
    exact ⟨c, u, e, sc y c _ e k1, k2.sol x.sol⟩
  · refine hide fun GOAL hGOAL => ?_
    obtain ⟨⟨o, k1⟩, k2, k3⟩ := F.cells y c hy
    refine hGOAL ?_
    clear hGOAL GOAL
    exact ⟨⟨o, sc y c _ hy k1⟩, k2, k3⟩

theorem forD_stays {g : Gd} {step : V → Lo → Mn (Fl × Lo)} {vs : List V} (h : forD g step vs r m ≠ .bad) : g.stays m = true := by
  cases q : g.stays m with
  | true => rfl
  | false => exact absurd (by cases vs <;> simp [forD, q]) h

/-- between two turns of a for -/
inductive FInv (W : Wd) (fs : List Env) (env : Env) (vis : List (Option Str)) (s : Shared) (io : Io) (m : MH) (St : Nat → Heap → Io → Prop) (g : Gd) (f : V → Lo → Mn (Fl × Lo)) (vs : List V) (R : Res (Fl × Lo)) (k : Nat) (s' : Shared) : Prop
  | mk (i : Nat) (r' : Lo) (io' : Io) (m' : MH) : k = vs.length - i → i ≤ vs.length → Step (ownOf env) (frs (env :: fs)) s.heap io m s'.heap io' m' → HR W s'.heap io' m' → FR W s'.heap io' env vis r' → St i s'.heap io' → Same s s' → forD g f (vs.drop i) r' m' = R → FInv W fs env vis s io m St g f vs R k s'
theorem x_for (hA : A.frames = some (env :: fs)) {target iter : Expr} {body : List Stmt} {c : Lo → Mn (List V × Gd)} {ca : V → Lo → Mn Lo} {cb : Lo → Mn (Fl × Lo)} (hsrc : SiSrc W A (env :: fs) env vis iter c) (ha : SiA W A fs env vis target ca) (hb : SiS W A fs env vis (execs body env) cb) (hf : ∀ x, foldedSetIterable iter env x = Pure.pure x) :
    SiS W A fs env vis (exec (.For target iter body [] pos) env) (fun r => bnd (c r) fun p => forD p.2 (fun v r' => bnd (ca v r') fun r'' => cb r'') p.1 r) := by
  intro s io m r Z hne
  refine wpAny_For (wpAny_mono (hsrc s io m r Z.sit (Res.bind_ne hne)) (fun x s₁ q => wpAny_mono q (fun it s₂ q => ?_) fun e s₁ q => ?_) fun e s₁ q => ?_) hf
  rotate_left
  · refine hide fun GOAL hGOAL => ?_
    obtain ⟨c', m', io', a, g, h1, h2, h3, h4, h5, h6⟩ := q
    refine hGOAL ?_
    clear hGOAL GOAL
    exact XP.bind (R := c r m) ⟨c', m', io', a, g, h1, h2, h3.wk (fun _ q => nomatch q), h4, h5, h6⟩ .refl (.refl _)
  · refine hide fun GOAL hGOAL => ?_
    obtain ⟨c', m', io', a, g, h1, h2, h3, h4, h5, h6⟩ := q
    refine hGOAL ?_
    clear hGOAL GOAL
    exact XP.bind (R := c r m) ⟨c', m', io', a, g, h1, h2, h3.wk (fun _ q => nomatch q), h4, h5, h6⟩ .refl (.refl _)
  refine hide fun GOAL hGOAL => ?_
  obtain ⟨⟨vs, g⟩, m₂, io₂, e2, st₂, H₂, ⟨I, wr, St, rfl, hw, h0, hnew⟩, sm₂⟩ := q
  refine hGOAL ?_
  clear hGOAL GOAL
  have ee : bnd (c r) (fun p => forD p.2 (fun v r' => bnd (ca v r') fun r'' => cb r'') p.1 r) m = forD g (fun v r' => bnd (ca v r') fun r'' => cb r'') vs r m₂ := by show (c r m).bind _ = _; rw [e2]; rfl
  dsimp only at hne ⊢
  rw [ee] at hne ⊢
  have hL : ∃ o, s.heap.get? env.locals = some o := by obtain ⟨_, ⟨o, _, _, ho, _⟩, _⟩ := Z.F.loc; exact ⟨o, ho⟩
  have hC : ∀ y c, env.cells.lookup y = some c → ∃ o, s.heap.get? c = some o := fun y c hy => by obtain ⟨⟨_, o, ho, _⟩, _⟩ := Z.F.cells y c hy; exact ⟨o, ho⟩
  have hOwn : ∀ b ∈ ownOf env, ∃ o, s.heap.get? b = some o := fun b hb => by
    rcases List.mem_cons.mp hb with rfl | hb
    · exact hL
    · refine hide fun GOAL hGOAL => ?_
      obtain ⟨⟨y, c'⟩, hm, hq⟩ := List.mem_filterMap.mp hb
      refine hGOAL ?_
      clear hGOAL GOAL
      exact hC y b hq
  have hFr : ∀ b ∈ frs (env :: fs), ∃ o, s.heap.get? b = some o := fun b hb => by
    refine hide fun GOAL hGOAL => ?_
    obtain ⟨e, he, hf⟩ := List.mem_filterMap.mp hb
    refine hGOAL ?_
    clear hGOAL GOAL
    refine hide fun GOAL hGOAL => ?_
    obtain ⟨_, L, o, _, _, h1, _, _, h4, _⟩ := Z.sit.G e he
    refine hGOAL ?_
    clear hGOAL GOAL
    rw [h1] at hf; cases hf; exact ⟨o, h4⟩
  have hwr : ∀ b ∈ wr, b ∉ ownOf env ∧ b ∉ frs (env :: fs) := fun b hb => ⟨fun q => (by obtain ⟨o, e⟩ := hOwn b q; rw [hnew b hb] at e; cases e), fun q => (by obtain ⟨o, e⟩ := hFr b q; rw [hnew b hb] at e; cases e)⟩
  have hbase : ∀ b o, W.base.get? b = some o → s.heap.get? b = some o := Z.H.keep
  refine codeAny_forLoop_any (I := FInv W fs env vis s io m St g (fun v r' => bnd (ca v r') fun r'' => cb r'') vs (forD g (fun v r' => bnd (ca v r') fun r'' => cb r'') vs r m₂)) (fun k s' hI => ?_) vs.length ⟨0, r, io₂, m₂, by simp, Nat.zero_le _, st₂.wk (fun _ q => nomatch q), H₂, Z.F.step0 Z.H st₂, h0, sm₂, by simp⟩
  refine hide fun GOAL hGOAL => ?_
  obtain ⟨i, r', io', m', hk, hi, st, H, F, hst, sm, he⟩ := hI
  refine hGOAL ?_
  clear hGOAL GOAL
  have hne' : forD g (fun v r' => bnd (ca v r') fun r'' => cb r'') (vs.drop i) r' m' ≠ .bad := by rw [he]; exact hne
  have hg := forD_stays hne'
  have sft := hw.soft hst
  by_cases hlt : i < vs.length
  · have hv : vs[i]? = some vs[i] := List.getElem?_eq_getElem hlt
    have hd : vs.drop i = vs[i] :: vs.drop (i + 1) := List.drop_eq_getElem_cons hlt
    refine hw.item hv hst H hg fun u h₁ tk ku hst₁ kk => ?_
    have sd : Side W wr s.heap s'.heap io' h₁ := ⟨kk, hnew, fun b hb => (sft b hb).1, fun b hb => (sft b hb).2⟩
    refine hw.lot (s := { s' with heap := h₁, toks := tk }) hst₁ fun h₂ hst₂ kk₂ => ?_
    have sft₁ := hw.soft hst₁
    have H1 := sd.hr H hbase
    have st1 := sd.step H st
    have sd₂ : Side W wr s.heap h₁ io' h₂ := ⟨kk₂, hnew, fun b hb => (sft₁ b hb).1, fun b hb => (sft₁ b hb).2⟩
    have H2 := sd₂.hr H1 hbase
    have st2 := sd₂.step H1 st1
    have F2 := (F.side sd hL hC).side sd₂ hL hC
    have Z2 : Stt W fs env vis { s' with heap := h₂, toks := tk } io' m' r' := ⟨H2, F2, Z.G.step st2 Z.dis, Z.fr, Z.dis⟩
    have ku2 : VR W h₂ io' vs[i] u := (ku.sol sd.sol).sol sd₂.sol
    rw [hd] at he hne'
    simp only [forD, hg, if_true] at he hne'
    have hne1 : ca vs[i] r' m' ≠ .bad := fun q => hne' (by show ((ca vs[i] r' m').bind cb).bind _ = _; rw [q]; rfl)
    refine wpAny_mono (ha _ io' m' r' vs[i] u Z2 ku2 hne1) (fun _ s₃ q => ?_) fun e s₃ q => ?_
    rotate_left
    · rw [← he]
      exact noted_back hA Z.fr ((q.bind (f := cb) .refl (.refl _)).bind st2 (sm.trans ⟨rfl, rfl⟩))
    refine hide fun GOAL hGOAL => ?_
    obtain ⟨r₃, m₃, io₃, e3, st3, H3, F3, sm3⟩ := q
    refine hGOAL ?_
    clear hGOAL GOAL
    have st3' := st2.trans st3
    have Z3 : Stt W fs env vis s₃ io₃ m₃ r₃ := ⟨H3, F3, Z.G.step st3' Z.dis, Z.fr, Z.dis⟩
    have e4 : bnd (ca vs[i] r') (fun r'' => cb r'') m' = cb r₃ m₃ := by show (ca vs[i] r' m').bind _ = _; rw [e3]; rfl
    rw [e4] at he hne'
    have hne2 : cb r₃ m₃ ≠ .bad := fun q => hne' (by rw [q]; rfl)
    refine wpAny_mono (hb s₃ io₃ m₃ r₃ Z3 hne2) (fun f s₄ q => ?_) fun e s₄ q => ?_
    rotate_left
    · rw [← he]
      exact noted_back hA Z.fr (q.bind st3' (sm.trans (Same.trans ⟨rfl, rfl⟩ sm3)))
    refine hide fun GOAL hGOAL => ?_
    obtain ⟨⟨fl, r₄⟩, m₄, io₄, e5, st4, H4, ⟨kf, F4⟩, sm4⟩ := q
    refine hGOAL ?_
    clear hGOAL GOAL
    rw [e5] at he hne'
    have st4' := st3'.trans st4
    have go : forD g (fun v r' => bnd (ca v r') fun r'' => cb r'') (vs.drop (i + 1)) r₄ m₄ = forD g (fun v r' => bnd (ca v r') fun r'' => cb r'') vs r m₂ → ∃ k', k' < k ∧ FInv W fs env vis s io m St g (fun v r' => bnd (ca v r') fun r'' => cb r'') vs (forD g (fun v r' => bnd (ca v r') fun r'' => cb r'') vs r m₂) k' s₄ := fun q => by
      have hg4 : g.stays m₄ = true := forD_stays (by rw [q]; exact hne)
      exact ⟨vs.length - (i + 1), by omega, i + 1, r₄, io₄, m₄, rfl, hlt, st4', H4, F4, hw.stay hst₂ H2 H4 (st3.trans st4) hwr hg hg4, sm.trans (Same.trans ⟨rfl, rfl⟩ (sm3.trans sm4)), q⟩
    cases kf with
    | next => exact go he
    | cont => exact go he
    | ret kv => exact ⟨_, m₄, io₄, he.symm, st4', H4, ⟨.ret kv, F4⟩, sm.trans (Same.trans ⟨rfl, rfl⟩ (sm3.trans sm4))⟩
  · have hi' : i = vs.length := by omega
    subst hi'
    refine hw.done hst H hg fun h₁ tk kk => ?_
    have sd : Side W wr s.heap s'.heap io' h₁ := ⟨kk, hnew, fun b hb => (sft b hb).1, fun b hb => (sft b hb).2⟩
    rw [List.drop_length] at he
    simp only [forD, hg, if_true] at he
    exact wpAny_execs_nil ⟨_, m', io', he.symm, sd.step H st, sd.hr H hbase, ⟨.next, F.side sd hL hC⟩, sm.trans ⟨rfl, rfl⟩⟩
end
end Mini

/-! Targets that are tuples of names. -/
namespace Mini
open PySem PySem.W

section
variable {W : Wd} {fs : List Env} {env : Env} {vis : List (Option Str)} {s s' : Shared} {io io' : Io} {m m' : MH} {r r' : Lo} {A : Around} {n : Nat} {pos p : Pos}

/-- targets that are names -/
noncomputable def Tgs (env : Env) (vis : List (Option Str)) : List Nat → List Expr → Prop
  | [], es => es = []
  | i :: is, es => ∃ x p es', es = .Name x p :: es' ∧ vis[i]? = some (some x) ∧ (env.kindOf x = some .local ∨ env.kindOf x = some .cell) ∧ Tgs env vis is es'
theorem Tgs.len : ∀ {is : List Nat} {es : List Expr}, Tgs env vis is es → (assignEach es env).length = is.length ∧ (assignEach es env).findIdx? (·.1) = none
  | [], _, h => by cases h; exact ⟨rfl, rfl⟩
  | i :: is, _, ⟨x, p, es', e, _, _, t⟩ => by
    subst e
    obtain ⟨h1, h2⟩ := t.len
    have e : assignEach (.Name x p :: es') env = (false, assign (.Name x p) env) :: assignEach es' env := rfl
    rw [e, List.findIdx?_cons, h2]
    exact ⟨by simp [h1], rfl⟩
theorem setMany_len : ∀ {is : List Nat} {vs : List V} {r r' : Lo}, setMany is vs r = some r' → is.length = vs.length
  | [], [], _, _, _ => rfl
  | [], _ :: _, _, _, h => by cases h
  | _ :: _, [], _, _, h => by cases h
  | i :: is, v :: vs, r, r', h => congrArg Nat.succ (setMany_len (show setMany is vs (r.set i (some v)) = some r' from h))
theorem many_go : ∀ {is : List Nat} {elts : List Expr}, Tgs env vis is elts → ∀ {vs : List V} {us : List Value} {s : Shared} {io : Io} {m : MH} {r : Lo}, Stt W fs env vis s io m r → VRs W s.heap io vs us →
    Si W (ownOf env) A (env :: fs) (RP W env vis) (assignInOrder ((assignEach elts env).map (·.2)) us) s io m (ofO (setMany is vs r) m)
  | [], _, h, vs, us, s, io, m, r, Z, k => by
    cases h
    cases k with
    | nil => exact Si.pure (P := RP W env vis) Z.H Z.F
    | cons _ _ => exact Si.bad
  | i :: is, _, ⟨x, p, es', e, hv, hk, t⟩, vs, us, s, io, m, r, Z, k => by
    subst e
    cases k with
    | nil => exact Si.bad
    | @cons v u vs us k1 k2 =>
      refine Si.bind (R := (.ok (r.set i (some v)) m : Res Lo)) (f := fun r' m' => ofO (setMany is vs r') m') (.holding (a_name (pos := p) hv hk _ _ _ _ _ _ Z k1)) fun _ s₁ io₁ m₁ r₁ e st H kF sm => ?_
      cases e
      exact many_go t (Z.stepO H st kF) (k2.step st)
theorem a_many (hh : A.handled = none) {is : List Nat} {elts : List Expr} {x1 : Nat} (ht : Tgs env vis is elts) : SiA W A fs env vis (.Tuple elts x1 pos) (fun v r => setT (.many is) v r) := by
  intro s io m r v u Z k
  cases k with
  | @tup a vs c xs h1 h4 =>
    show Si W (ownOf env) A (env :: fs) (RP W env vis) _ s io m (ofO (setMany is xs r) m)
    intro hne
    have hl : is.length = xs.length := by
      cases q : setMany is xs r with
      | none => rw [q] at hne; exact absurd rfl hne
      | some r' => exact setMany_len q
    refine wpAny_assign_Tuple hh ⟨_, h1, rfl, c, rfl⟩ (by rw [ht.len.1, hl]; have := h4.length; simpa using this.symm) ht.len.2 fun h' hx => ?_
    have hk : ∀ b o, s.heap.get? b = some o → h'.get? b = some o := fun b o e => hx b o (fun q => by rw [q, get_size] at e; cases e) e
    have st : Step (ownOf env) (frs (env :: fs)) s.heap io m h' io m := .of_keeps Z.H hk
    have st0 : Step [] (frs (env :: fs)) s.heap io m h' io m := .of_keeps Z.H hk
    have Z' : Stt W fs env vis { s with heap := h' } io m r := Z.step (Z.H.of_keeps hk) st0
    exact wpAny_mono (many_go ht Z' (h4.step st) hne) (fun _ _ z => z.mono st ⟨rfl, rfl⟩) fun _ _ z => z.mono st ⟨rfl, rfl⟩
  | _ => exact Si.bad
end
end Mini

/-! Exceptions: raise, try. -/
namespace Mini
open PySem PySem.W PyProof.Rows

/-- what no assignment stands in: the frame's own stays -/
noncomputable def SiQ (W : Wd) (A : Around) (fs : List Env) (env : Env) (vis : List (Option Str)) (t : Sem Flow) (c : Lo → Mn (Fl × Lo)) : Prop :=
  ∀ (s : Shared) (io : Io) (m : MH) (r : Lo), Stt W fs env vis s io m r → Si W [] A (env :: fs) (SP W env vis) t s io m (c r m)

section
variable {W : Wd} {K : Frag} {h h' h₀ : Heap} {fs l : List Env} {env : Env} {vis : List (Option Str)} {s s' : Shared} {io io' : Io} {m m' : MH} {r r' : Lo} {own : List Addr} {A : Around} {n : Nat} {pos p : Pos}

theorem XP.wk {α : Type} {R : Res α} {e : Value} {own' : List Addr} (x : XP W own l s io m R e s') (k : ∀ b ∈ own, b ∈ own') : XP W own' l s io m R e s' := by
  refine hide fun GOAL hGOAL => ?_
  obtain ⟨c, m', io', a, g, h1, h2, h3, h4, h5, h6⟩ := x
  refine hGOAL ?_
  clear hGOAL GOAL
  exact ⟨c, m', io', a, g, h1, h2, h3.wk k, h4, h5, h6⟩
theorem ff_mem {b : Addr} (F : FF W h io l) (hb : b ∈ frs l) : ∃ o es n, ¬ Foot io b ∧ h.get? b = some o ∧ o.data = .dict es n := by
  refine hide fun GOAL hGOAL => ?_
  obtain ⟨e, he, hf⟩ := List.mem_filterMap.mp hb
  refine hGOAL ?_
  clear hGOAL GOAL
  refine hide fun GOAL hGOAL => ?_
  obtain ⟨_, L, o, es, n, h1, _, h3, h4, h5⟩ := F e he
  refine hGOAL ?_
  clear hGOAL GOAL
  rw [h1] at hf; cases hf
  exact ⟨o, es, n, h3, h4, h5⟩

/-- the exception has landed: what was there is there -/
theorem land {g B h6 : Heap} (G0 : FF W h io l) (st : Step [] (frs l) h io m g io' m') (Hg : HR W g io' m') (kp : Kp W h io' l g B) (fl : B.StaysIn h6) (up : g.UpToSlots h6) :
    Step [] (frs l) h io m h6 io' m' ∧ HR W h6 io' m' := by
  have get : ∀ b o, g.get? b = some o → (Foot io' b ∨ Solid o ∨ W.base.get? b = some o ∨ ((∃ o', h.get? b = some o') ∧ b ∉ frs l)) → h6.get? b = some o := fun b o e q => fl b o (kp b o e q)
  have frm : ∀ b, b ∈ frs l → ∀ o, h.get? b = some o → ∃ sl, h6.get? b = some { o with slots := sl } := fun b hb o ho => by
    refine hide fun GOAL hGOAL => ?_
    obtain ⟨o1, es, n, h1, h2, h3⟩ := ff_mem G0 hb
    refine hGOAL ?_
    clear hGOAL GOAL
    rw [ho] at h2; cases h2
    obtain ⟨sl, e1⟩ := st.slots b o ho h1 (fun q => nomatch q)
    obtain ⟨sl2, e2⟩ := up b _ e1 (fun vs q => by rw [show ({ o with slots := sl } : Obj).data = o.data from rfl, h3] at q; cases q)
    exact ⟨sl2, e2⟩
  have ft : ∀ b o, Foot io' b → g.get? b = some o → h6.get? b = some o := fun b o f e => get b o e (.inl f)
  refine ⟨⟨fun b o e => ?_, fun b o e so => get b o (st.solid b o e so) (.inr (.inl so)), fun b o e f1 f2 f3 => get b o (st.keep b o e f1 f2 f3) (.inr (.inr (.inr ⟨⟨o, e⟩, f3⟩))), fun b o e f1 f2 => ?_, st.grow, fun n p kvs e hi hm => ?_⟩, ?_⟩
  · by_cases hb : b ∈ frs l
    · obtain ⟨sl, q⟩ := frm b hb o e; exact ⟨_, q⟩
    · obtain ⟨o', q⟩ := st.alive b o e; exact ⟨o', get b o' q (.inr (.inr (.inr ⟨⟨o, e⟩, hb⟩)))⟩
  · by_cases hb : b ∈ frs l
    · exact frm b hb o e
    · obtain ⟨sl, q⟩ := st.slots b o e f1 f2; exact ⟨sl, get b _ q (.inr (.inr (.inr ⟨⟨o, e⟩, hb⟩)))⟩
  · refine hide fun GOAL hGOAL => ?_
    obtain ⟨k1, e1, h1, h2, h3⟩ := st.dicts n p kvs e hi hm
    refine hGOAL ?_
    clear hGOAL GOAL
    refine ⟨k1, e1, h1, h2, fun q => ⟨?_, (h3 q).2⟩⟩
    obtain ⟨o, ho⟩ := Hg.there (st.io_get hi)
    rw [← (h3 q).1, ho]
    exact ft _ _ ⟨p, List.mem_of_getElem? (st.io_get hi), .inl rfl⟩ ho
  · refine ⟨fun b o e => get b o (Hg.keep b o e) (.inr (.inr (.inl e))), Hg.len, fun n p o hi hm => ?_, Hg.fresh, Hg.apart⟩
    exact (Hg.obj n p o hi hm).sol (fun b o e so => get b o e (.inr (.inl so))) (fun o e => ft _ o ⟨p, List.mem_of_getElem? hi, .inl rfl⟩ e) (fun o e => ft _ o ⟨p, List.mem_of_getElem? hi, .inr rfl⟩ e)

/-- raise of a class of the file -/
theorem x_raise {x : Str} {c : Nat} {args : List Expr} {np cpos : Pos} {cl : Lo → Mn (List V)} {mg mb : Str → Option Value} {pp : Program} {loose : List Str} {bmB bmN : List Value} {Bn B newId nid initId inN : String} (gl : Gl W K) (hh : A.handled = none)
    (Fn : ExcBaseFacts Bn newId inN bmN) (hBn : bmB.contains (.type Bn) = true) (F : ExcBaseFacts B nid initId bmB) (hbase : bmB.contains (.type "BaseException") = true)
    (T : TopRead pp loose mg mb W.base) (e : nsIn K mainGlobals x = some (some (.ref (W.ca c)))) (hq : excIn K (W.ca c) bmB newId = true) (hx : env.kindOf x = some .globalImplicit) (hd : (x == ("__debug__" : Str)) = false) (hs : noStar args = true)
    (hl : SiL W A (env :: fs) env vis (spliced (backTo cpos (starEach args env))) cl) (hn : ∀ r m vs m', cl r m = .ok vs m' → vs.length ≤ lid) :
    SiS W A fs env vis (exec (.Raise (some (.Call (.Name x np) args [] cpos)) none pos) env) (fun r => bnd (cl r) fun _ m => .exc c m) := by
  intro s io m r Z hne
  have OW := own_of_in gl.X T e hq
  refine hide fun GOAL hGOAL => ?_
  obtain ⟨bm, N, nm, qn, bs, hdct, sn, sub, ab, col, dd, k0, k1, k2, k3, k5, mN, hC, hN, hni, TL0⟩ := OW.obj
  refine hGOAL ?_
  clear hGOAL GOAL
  refine wpAny_Raise_call_subU Fn hBn F (mN := mN) (bm := bm) (N := N) (nm := nm) (q := qn) (bs := bs) (hdct := hdct) (sn := sn) (sub := sub) (ab := ab) (col := col) (dd := dd) (k0 := k0) (k1 := k1) (k2 := k2) (k3 := k3) (k5 := k5) (TL0.hasType hbase) hh (plain_of hs) hni (name_K gl Z.sit e hx hd ⟨rfl, args_of hs ?_⟩)
  refine wpAny_mono (hl s io m r Z.sit (Res.bind_ne hne)) (fun us s' q => ?_) fun _ _ q => (q.bind .refl (.refl _)).wk fun _ q => nomatch q
  refine hide fun GOAL hGOAL => ?_
  obtain ⟨vs, m', io', e', st, H, kv, sm⟩ := q
  refine hGOAL ?_
  clear hGOAL GOAL
  have hlen : us.length ≤ sizeLine := by rw [kv.length]; exact sizeLine_lid (hn r m vs m' e')
  have ee : bnd (cl r) (fun _ m => .exc c m) m = (.exc c m' : Res (Fl × Lo)) := by show (cl r m).bind _ = _; rw [e']; rfl
  refine ⟨rfl, hlen, H.keep _ _ hC, ?_, TL0.keeps H.keep, fun h' e0 hm => ?_⟩
  · obtain ⟨o, es, ep, ho, r⟩ := hN; exact ⟨o, es, ep, H.keep _ _ ho, r⟩
  dsimp only
  rw [ee]
  have G' : FF W s'.heap io' (env :: fs) := Z.sit.G.step0 st
  have hin : ∀ e ∈ env :: fs, ∀ b, e.frame = some b → b ∈ frs (env :: fs) := fun e he b hb => List.mem_filterMap.mpr ⟨e, he, hb⟩
  refine ⟨c, m', io', e0, s'.heap, rfl, rfl, st.wk (fun _ q => nomatch q), H, ⟨hideAll s'.heap (frs (env :: fs)), fun b o q hk => ?_, .inr (.inr ⟨us, fun b o q => of_hideAll _ q, funFrames_hide G'.funFrames hin, hm⟩)⟩, sm⟩
  refine hideAll_get _ q fun hb => ?_
  refine hide fun GOAL hGOAL => ?_
  obtain ⟨o1, es, n, h1, h2, h3⟩ := ff_mem G' hb
  refine hGOAL ?_
  clear hGOAL GOAL
  rw [q] at h2; cases h2
  rcases hk with hk | hk | hk | hk
  · exact h1 hk
  · rcases hk with ⟨_, vs, n, hv⟩ | ⟨C, vs, _, hv⟩
    · rw [h3] at hv; cases hv
    · rw [h3] at hv; cases hv
  · refine hide fun GOAL hGOAL => ?_
    obtain ⟨e1, he, hf⟩ := List.mem_filterMap.mp hb
    refine hGOAL ?_
    clear hGOAL GOAL
    refine hide fun GOAL hGOAL => ?_
    obtain ⟨_, L, _, _, _, f1, f2, _⟩ := G' e1 he
    refine hGOAL ?_
    clear hGOAL GOAL
    rw [f1] at hf; cases hf
    rw [f2] at hk; cases hk
  · exact hk.2 hb

theorem q_nil : SiQ W A fs env vis (execs [] env) (fun r => ret (.next, r)) := fun _ _ _ _ Z => .pure (u := Flow.next) Z.H ⟨.next, Z.F⟩
theorem q_cons {st : Stmt} {rest : List Stmt} {c1 c2 : Lo → Mn (Fl × Lo)} (h1 : SiQ W A fs env vis (exec st env) c1) (h2 : SiQ W A fs env vis (execs rest env) c2) :
    SiQ W A fs env vis (execs (st :: rest) env) (fun r => bnd (c1 r) fun p => match p.1 with | .next => c2 p.2 | f => ret (f, p.2)) := by
  intro s io m r Z
  rw [execs_cons]
  refine Si.bind (h1 s io m r Z) fun f s₁ io₁ m₁ p _ st H₁ k sm => ?_
  obtain ⟨q, r₁⟩ := p
  obtain ⟨kf, kF⟩ := k
  cases kf with
  | next => exact h2 _ _ _ _ (Z.stepO H₁ (st.wk fun _ q => nomatch q) kF)
  | cont => exact .pure H₁ ⟨.cont, kF⟩
  | ret kv => exact .pure H₁ ⟨.ret kv, kF⟩
theorem q_ret {e : Expr} {c : Lo → Mn V} (he : SiE W A (env :: fs) env vis (eval e env) c) : SiQ W A fs env vis (exec (.Return (some e) pos) env) (fun r => bnd (c r) fun v => ret (.ret v, r)) := by
  intro s io m r Z
  rw [exec_Return_some]
  refine .standAt (Si.bindE (he s io m r Z.sit) fun u s₁ io₁ m₁ v _ st H₁ k sm => ?_)
  exact .pure H₁ ⟨.ret k, Z.F.step0 Z.H st⟩
theorem q_if {test : Expr} {body orelse : List Stmt} {ct : Lo → Mn Bool} {ca cb : Lo → Mn (Fl × Lo)} (ht : SiB W A (env :: fs) env vis (isTrue test env (eval test env)) ct) (ha : SiQ W A fs env vis (execs body env) ca) (hb : SiQ W A fs env vis (execs orelse env) cb) :
    SiQ W A fs env vis (exec (.If test body orelse pos) env) (fun r => bnd (ct r) fun t => if t then ca r else cb r) := by
  intro s io m r Z
  rw [exec_If]
  refine .standAt (Si.bindE (ht s io m r Z.sit) fun u s₁ io₁ m₁ v _ st H₁ k sm => ?_)
  cases k
  cases u
  · exact hb _ _ _ r (Z.step H₁ st)
  · exact ha _ _ _ r (Z.step H₁ st)
theorem q_exp {e : Expr} {c : Lo → Mn V} (hs : swapsWith e none pos.line env = Pure.pure false) (he : SiE W A (env :: fs) env vis (eval e env) c) : SiQ W A fs env vis (exec (.Expr e pos) env) (fun r => bnd (c r) fun _ => ret (.next, r)) := by
  intro s io m r Z
  rw [exec_Expr env e pos (by unfold interactive; rw [Z.F.kind]; rfl) hs]
  refine .standAt (Si.bindE (he s io m r Z.sit) fun u s₁ io₁ m₁ v _ st H₁ k sm => ?_)
  exact fun _ => wpAny_dropValue ⟨_, m₁, io₁, rfl, .refl, H₁, ⟨.next, Z.F.step0 Z.H st⟩, .refl _⟩

/-- the name of a clause goes -/
theorem name_goes {i : Nat} {x : Str} {k : Pos} (Z : Stt W fs env vis s io m r) (hv : vis[i]? = some (some x)) (hk : env.kindOf x = some .local) :
    Si W (ownOf env) A (env :: fs) (RP W env vis) (do bindName env x .none; unbindBehindTheSuite env x k) s io m (.ok (r.set i none) m) := by
  intro _
  have hi : i < vis.length := (List.getElem?_eq_some_iff.mp hv).1
  have F := Z.F
  have row : ∀ (j : Nat) (y : Str) (w : V), vis[j]? = some (some y) → (r.set i none)[j]? = some (some w) → y ≠ x ∧ r[j]? = some (some w) := by
    intro j y w h1 h2
    by_cases q : i = j
    · subst q
      rw [List.getElem?_set_self (by rw [F.len]; exact hi)] at h2
      cases h2
    · rw [List.getElem?_set_ne q] at h2
      exact ⟨fun e => q (F.inj i j x hv (e ▸ h1)), h2⟩
  refine hide fun GOAL hGOAL => ?_
  obtain ⟨mp, hn, hl⟩ := F.loc
  refine hGOAL ?_
  clear hGOAL GOAL
  refine hide fun GOAL hGOAL => ?_
  obtain ⟨oL, esL, epL, hoL, hdL, _⟩ := id hn
  refine hGOAL ?_
  clear hGOAL GOAL
  refine wpAny_nameGoes_keeps hk hn (by rw [F.kind]; rfl) fun h' v' hn' hs => ?_
  have kk : ∀ b o, b ≠ env.locals → s.heap.get? b = some o → h'.get? b = some o := fun b o q e => (hs.2 b q).trans e
  have lv : ∀ o, s.heap.get? env.locals = some o → ¬ Solid o ∧ ∃ o', h'.get? env.locals = some o' := fun o ho => by
    rw [hoL] at ho; cases ho
    refine hide fun GOAL hGOAL => ?_
    obtain ⟨o', _, _, ho', _⟩ := id hn'
    refine hGOAL ?_
    clear hGOAL GOAL
    exact ⟨not_solid_dict hdL, o', ho'⟩
  have st : Step (ownOf env) (frs (env :: fs)) s.heap io m h' io m := step_own Z.H (L := env.locals) (by simp [ownOf]) kk lv F.nofoot
  have H' : HR W h' io m := Z.H.ofOwn (own := ownOf env) (L := env.locals) (by simp [ownOf]) kk lv F.nofoot F.fresh
  refine ⟨_, m, io, rfl, st, H', ?_, rfl, rfl⟩
  refine ⟨F.kind, F.glob, F.blt, F.nofoot, F.fresh, ⟨_, hn', fun j y w h1 h2 h3 => ?_⟩, fun j y w h1 h2 h3 => ?_, fun y c hy => ?_, F.celex, F.apart, F.inj, by simp [F.len]⟩
  · obtain ⟨q, h2⟩ := row j y w h1 h2
    refine hide fun GOAL hGOAL => ?_
    obtain ⟨u', e, k'⟩ := hl j y w h1 h2 h3
    refine hGOAL ?_
    clear hGOAL GOAL
    exact ⟨u', by simp [q, e], k'.step st⟩
  · obtain ⟨q, h2⟩ := row j y w h1 h2
    refine hide fun GOAL hGOAL => ?_
    obtain ⟨c, u', e, k1, k2⟩ := F.cel j y w h1 h2 h3
    refine hGOAL ?_
    clear hGOAL GOAL
    refine ⟨c, u', e, ?_, k2.step st⟩
    refine hide fun GOAL hGOAL => ?_
    obtain ⟨oc, hoc, hdc⟩ := k1
    refine hGOAL ?_
    clear hGOAL GOAL
    exact ⟨oc, kk c oc (F.cells y c e).2.2 hoc, hdc⟩
  · refine hide fun GOAL hGOAL => ?_
    obtain ⟨⟨o, oc, hoc, hdc⟩, k2, k3⟩ := F.cells y c hy
    refine hGOAL ?_
    clear hGOAL GOAL
    exact ⟨⟨o, oc, kk c oc k3 hoc, hdc⟩, k2, k3⟩

/-- the name of a clause -/
noncomputable def NmOk (env : Env) (vis : List (Option Str)) : Option Str → Option Nat → Prop
  | none, none => True
  | some x, some i => vis[i]? = some (some x) ∧ env.kindOf x = some .local
  | _, _ => False

theorem x_try {S : Sig} {x : Str} {c : Nat} {np hp rp : Pos} {body : List Stmt} {e : Expr} {nm : Option Str} {ni : Option Nat} {cb : Lo → Mn (Fl × Lo)} {ch : Lo → Mn V} (gl : Gl W K) (hA : A.frames = some (env :: fs)) (hb : SiQ W A fs env vis (execs body env) cb)
    (he : ∀ a, SiE W (A.mark (some (.ref a))) (env :: fs) env vis (eval e env) ch) (ex : nsIn K mainGlobals x = some (some (.ref (W.ca c)))) (hx : env.kindOf x = some .globalImplicit) (hd : (x == ("__debug__" : Str)) = false)
    (hm : ∀ d, ((S.cls[d]?).any fun k => k.supers.contains c) = true → exmOne K (.ref (W.ca d)) (.ref (W.ca c)) = some true) (hnm : NmOk env vis nm ni) :
    SiS W A fs env vis (exec (.Try body [.ExceptHandler (some (.Name x np)) nm [.Return (some e) rp] hp] [] [] pos) env) (fun r => tryD S (cb r) c ni ch r) := by
  intro s io m r Z hne
  have hb' : cb r m ≠ .bad := fun q => hne (by show tryD S (cb r) c ni ch r m = _; unfold tryD; rw [q])
  refine wpAny_Try_except (wpAny_mono (hb s io m r Z hb') (fun f s₁ q => ?_) fun e1 s₁ q => ?_)
  · refine hide fun GOAL hGOAL => ?_
    obtain ⟨⟨fl, r1⟩, m1, io1, e1, st, H, ⟨kf, F⟩, sm⟩ := q
    refine hGOAL ?_
    clear hGOAL GOAL
    have ee : tryD S (cb r) c ni ch r m = .ok (fl, r1) m1 := by unfold tryD; rw [e1]
    dsimp only
    rw [ee]
    have st' := st.wk (own' := ownOf env) (fun _ q => nomatch q)
    cases kf with
    | next => exact wpAny_execs_nil ⟨_, m1, io1, rfl, st', H, ⟨.next, F⟩, sm⟩
    | cont => exact ⟨_, m1, io1, rfl, st', H, ⟨.cont, F⟩, sm⟩
    | ret kv => exact ⟨_, m1, io1, rfl, st', H, ⟨.ret kv, F⟩, sm⟩
  · refine hide fun GOAL hGOAL => ?_
    obtain ⟨d, m1, io1, a, g, e1, rfl, st, Hg, fly, sm⟩ := q
    refine hGOAL ?_
    clear hGOAL GOAL
    dsimp only at hne ⊢
    have ee : tryD S (cb r) c ni ch r m = tryX S c ni ch r d m1 := by unfold tryD; rw [e1]
    rw [ee] at hne ⊢
    by_cases hs : ((S.cls[d]?).any fun k => k.supers.contains c) = true
    rotate_left
    · exact absurd (if_neg hs) hne
    · have e0 : tryX S c ni ch r d m1 = ((ch (exR ni d r) m1).nox).bind fun v => ret (.ret v, exN ni r) := if_pos hs
      rw [e0] at hne ⊢
      obtain ⟨v, m2, e2⟩ : ∃ v m2, ch (exR ni d r) m1 = .ok v m2 := by
        cases q : ch (exR ni d r) m1 with
        | ok v m2 => exact ⟨v, m2, rfl⟩
        | exc c m2 => rw [q] at hne; exact absurd rfl hne
        | bad => rw [q] at hne; exact absurd rfl hne
      have e3 : ((ch (exR ni d r) m1).nox).bind (fun v => ret (Fl.ret v, exN ni r)) = .ok (.ret v, exN ni r) m2 := by rw [e2]; rfl
      rw [e3]
      refine note_any hA Z.fr fly fun B h4 a0 kp held up4 => ?_
      refine wpAny_landsW held fun h5 fl5 up5 => ?_
      obtain ⟨st5, H5⟩ := land Z.sit.G st Hg kp fl5.1 (up4.trans up5)
      have Z5 : Sit W (env :: fs) env vis { s₁ with heap := h5 } io1 m1 r := Z.sit.step H5 st5
      have LT : Looks (model W.prog W.w) h5 (typeOf (.ref a)) (.ref (W.ca d)) := by
        refine hide fun GOAL hGOAL => ?_
        obtain ⟨ob, hob, hc⟩ := fl5.there
        refine hGOAL ?_
        clear hGOAL GOAL
        rw [← hc]; exact (Looks.ld hob).andThen .now
      refine wpAny_handleBy_cons (codeAny_handlers_test (name_K gl Z5 ex hx hd ((exm_one (gl.X.keeps H5.keep) LT (hm d hs)).here ?_))) (by intro q; cases q)
      have suite : ∀ (s' : Shared) (io' : Io) (r' : Lo), Stt W fs env vis s' io' m1 r' → r' = exR ni d r → Step (ownOf env) (frs (env :: fs)) s.heap io m s'.heap io' m1 → Same s s' → ∀ (Q : Flow → Shared → Prop) (E : Value → Shared → Prop),
          (∀ f s₂, NP W (ownOf env) (frs (env :: fs)) s io m (SP W env vis) (.ok (.ret v, r') m2) f s₂ → Q f s₂) → wpAny (model W.prog W.w) (A.mark (some (.ref a))) (execs [.Return (some e) rp] env) Q E s' := by
        intro s' io' r' Z' hr st' sm' Q E hQ
        subst hr
        have key := x_cons (x_ret (pos := rp) (he a)) (x_nil (W := W) (A := A.mark (some (.ref a))) (fs := fs) (env := env) (vis := vis)) s' io' m1 _ Z'
        have er : (bnd (bnd (ch (exR ni d r)) fun v => ret (Fl.ret v, exR ni d r)) fun p => match p.1 with | .next => ret (.next, p.2) | f => ret (f, p.2)) m1 = .ok (.ret v, exR ni d r) m2 := by
          show Res.bind (Res.bind (ch (exR ni d r) m1) _) _ = _
          rw [e2]; rfl
        have key2 : Si W (ownOf env) (A.mark (some (.ref a))) (env :: fs) (SP W env vis) (execs [.Return (some e) rp] env) s' io' m1 (.ok (.ret v, exR ni d r) m2) := by
          rw [← er]; exact key
        refine wpAny_mono (key2 (fun q => by cases q)) (fun f s₂ q => hQ f s₂ (q.mono st' sm')) fun _ _ q => ?_
        refine hide fun GOAL hGOAL => ?_
        obtain ⟨_, _, _, _, _, q, _⟩ := q
        refine hGOAL ?_
        clear hGOAL GOAL
        cases q
      cases ni with
      | none =>
        cases nm with
        | some y => exact hnm.elim
        | none =>
          refine codeAny_handlers_suite ?_
          refine lands_againW fl5 fun h6 fl6 up6 => ?_
          obtain ⟨st6, H6⟩ := land Z.sit.G st Hg kp fl6.1 ((up4.trans up5).trans up6)
          have Z6 : Stt W fs env vis { s₁ with heap := h6 } io1 m1 r := ⟨H6, Z.F.step0 Z.H st6, Z.G.step0 st6, Z.fr, Z.dis⟩
          exact suite _ _ r Z6 rfl (st6.wk fun _ q => nomatch q) ⟨sm.1, sm.2⟩ _ _ fun f s₂ q => q
      | some i =>
        cases nm with
        | none => exact hnm.elim
        | some y =>
          obtain ⟨hv, hk⟩ := hnm
          refine codeAny_handlers_suite_as ?_
          refine lands_againW fl5 fun h6 fl6 up6 => ?_
          obtain ⟨st6, H6⟩ := land Z.sit.G st Hg kp fl6.1 ((up4.trans up5).trans up6)
          have Z6 : Stt W fs env vis { s₁ with heap := h6 } io1 m1 r := ⟨H6, Z.F.step0 Z.H st6, Z.G.step0 st6, Z.fr, Z.dis⟩
          refine hide fun GOAL hGOAL => ?_
          obtain ⟨oe, ws, hoe, hoec, hoed, _⟩ := fl6.first
          refine hGOAL ?_
          clear hGOAL GOAL
          refine wpAny_mono (store_sim (A := A.mark (some (.ref a))) Z6 hv (.inl hk) (.exc (c := d) hoe hoec hoed) (fun q => by cases q)) (fun _ s₇ q => ?_) fun _ _ q => ?_
          rotate_left
          · refine hide fun GOAL hGOAL => ?_
            obtain ⟨_, _, _, _, _, q, _⟩ := q
            refine hGOAL ?_
            clear hGOAL GOAL
            cases q
          refine hide fun GOAL hGOAL => ?_
          obtain ⟨_, _, io7, e7, st7, H7, F7, sm7⟩ := q
          refine hGOAL ?_
          clear hGOAL GOAL
          cases e7
          have Z7 : Stt W fs env vis s₇ io7 m1 (r.set i (some (.exc d))) := ⟨H7, F7, (Z6.G.step st7 Z.dis), Z.fr, Z.dis⟩
          have st7' := (st6.wk (own' := ownOf env) fun _ q => nomatch q).trans st7
          refine suite _ _ _ Z7 rfl st7' (sm.trans ⟨sm7.1, sm7.2⟩) _ _ fun f s₈ q => ?_
          refine hide fun GOAL hGOAL => ?_
          obtain ⟨_, _, io8, e8, st8, H8, ⟨kf, F8⟩, sm8⟩ := q
          refine hGOAL ?_
          clear hGOAL GOAL
          cases e8
          have Z8 : Stt W fs env vis s₈ io8 m2 (r.set i (some (.exc d))) := ⟨H8, F8, Z.G.step st8 Z.dis, Z.fr, Z.dis⟩
          refine wpAny_mono (name_goes (A := A) (k := hp) Z8 hv hk (fun q => by cases q)) (fun _ s₉ q => ?_) fun _ _ q => ?_
          rotate_left
          · refine hide fun GOAL hGOAL => ?_
            obtain ⟨_, _, _, _, _, q, _⟩ := q
            refine hGOAL ?_
            clear hGOAL GOAL
            cases q
          refine hide fun GOAL hGOAL => ?_
          obtain ⟨_, _, io9, e9, st9, H9, F9, sm9⟩ := q
          refine hGOAL ?_
          clear hGOAL GOAL
          cases e9
          have st10 := st8.trans st9
          have er : (r.set i (some (V.exc d))).set i none = r.set i none := List.set_set ..
          rw [er] at F9
          cases kf with
          | ret kv => exact ⟨_, _, io9, rfl, st10, H9, ⟨.ret (kv.step st9), F9⟩, sm8.trans sm9⟩
end
end Mini

/-! while, range, stores. -/
namespace Mini
open PySem PySem.W

section
variable {W : Wd} {K : Frag} {h h' : Heap} {fs : List Env} {env : Env} {vis : List (Option Str)} {s s' : Shared} {io io' io₀ : Io} {m m' m₀ : MH} {r r' : Lo} {fr own own' : List Addr} {A : Around} {n : Nat} {pos p : Pos}

/-- between two turns of a while -/
inductive WInv (W : Wd) (fs : List Env) (env : Env) (vis : List (Option Str)) (s : Shared) (io : Io) (m : MH) (ct : Lo → Mn Bool) (cb : Lo → Mn (Fl × Lo)) (R : Res (Fl × Lo)) (k : Nat) (s' : Shared) : Prop
  | mk (r' : Lo) (io' : Io) (m' : MH) : Step (ownOf env) (frs (env :: fs)) s.heap io m s'.heap io' m' → HR W s'.heap io' m' → FR W s'.heap io' env vis r' → Same s s' → whileD ct cb k r' m' = R → WInv W fs env vis s io m ct cb R k s'
/-! ### range -/
theorem Wk.range {I : Addr} {a c : Int} {k : Nat} {vs : List V} (hh : A.handled = none) (hk : k = vs.length) (hv : ∀ (i : Nat) (v : V), vs[i]? = some v → v = .int (a + i * c)) : Wk W A I [I] .none vs (fun i h io => IsRangeIter h I (a + (i : Nat) * c) ((k : Int) - (i : Nat)) c ∧ ¬ Foot io I) :=
  Wk.of_walks (Walks.range hh I a c k) hk (fun i v u h io e ⟨t, q⟩ => by rw [hv i v e, q]; exact .int _ _) (fun i h ht => ⟨_, _, _, ht, rfl, rfl, by decide⟩) fun b hb => .inl (by simpa using hb)

theorem ranged_get {f : Nat → V} {k i : Nat} {v : V} (h : ((List.range k).map f)[i]? = some v) : v = f i := by
  rw [List.getElem?_map] at h
  cases q : (List.range k)[i]? with
  | none => rw [q] at h; cases h
  | some j =>
    rw [q] at h
    have hk : j = i := by
      obtain ⟨hlt, e⟩ := List.getElem?_eq_some_iff.mp q
      simp at e; omega
    cases h; rw [hk]
theorem range_size3 {a b c : Int} (hc : 0 < c) : Builtin.Range.rangeSize a b c = (((b - a + c - 1) / c).toNat : Int) := by
  unfold Builtin.Range.rangeSize
  simp only [show c > 0 from hc, if_true]
  have e : (b - a + c - 1) / c = (b - a - 1) / c + 1 := by
    have : b - a + c - 1 = (b - a - 1) + 1 * c := by omega
    rw [this, Int.add_mul_ediv_right _ _ (by omega)]
  split
  · have : 0 ≤ (b - a - 1) / c := Int.ediv_nonneg (by omega) (by omega)
    omega
  · rename_i hle
    have h2 : (b - a - 1) / c < 0 := Int.ediv_neg_of_neg_of_pos (by omega) hc
    omega
theorem fitL {i : Int} (h1 : -(2 ^ 40) ≤ i) (h2 : i ≤ 2 ^ 40) : Builtin.Range.rangeFitsLong i = true := by
  unfold Builtin.Range.rangeFitsLong
  rw [Bool.and_eq_true]
  exact ⟨decide_eq_true (Int.le_trans (by decide) h1), decide_eq_true (Int.lt_of_le_of_lt h2 (by decide))⟩
theorem near {a : Int} (h : a.natAbs < 2 ^ 31) : -(2 ^ 31) ≤ a ∧ a ≤ 2 ^ 31 := by omega
theorem div_near {x c : Int} (hx : 0 ≤ x) (h : x ≤ 2 ^ 32) (hc : 0 < c) : -(2 ^ 40) ≤ x / c + 1 ∧ x / c + 1 ≤ 2 ^ 40 := by
  have h1 : 0 ≤ x / c := Int.ediv_nonneg hx (Int.le_of_lt hc)
  have h2 : x / c ≤ x := Int.ediv_le_self _ hx
  clear hc
  omega
theorem gap {a b : Int} (a1 : -(2 ^ 31) ≤ a) (b2 : b ≤ 2 ^ 31) (h : a < b) : 0 ≤ b - a - 1 ∧ b - a - 1 ≤ 2 ^ 32 := by omega
theorem last_near {b c : Int} (b1 : -(2 ^ 31) ≤ b) (b2 : b ≤ 2 ^ 31) (c1 : -(2 ^ 31) ≤ c) (c2 : c ≤ 2 ^ 31) : -(2 ^ 40) ≤ b + (c - 1) ∧ b + (c - 1) ≤ 2 ^ 40 := by omega
theorem range_small {a b c : Int} (ha : a.natAbs < 2 ^ 31) (hb : b.natAbs < 2 ^ 31) (hc : c.natAbs < 2 ^ 31) (h0 : 0 < c) : Builtin.Range.small a b c = true := by
  obtain ⟨a1, a2⟩ := near ha
  obtain ⟨b1, b2⟩ := near hb
  obtain ⟨c1, c2⟩ := near hc
  have far : ∀ {i : Int}, -(2 ^ 31) ≤ i → i ≤ 2 ^ 31 → Builtin.Range.rangeFitsLong i = true := fun h1 h2 => fitL (Int.le_trans (by decide) h1) (Int.le_trans h2 (by decide))
  have hs : Builtin.Range.rangeFitsLong (Builtin.Range.rangeSize a b c) = true := by
    unfold Builtin.Range.rangeSize
    rw [if_pos h0]
    by_cases h : a < b
    · rw [if_pos h]
      have g := gap a1 b2 h
      have d := div_near g.1 g.2 h0
      exact fitL d.1 d.2
    · rw [if_neg h]; rfl
  have l := last_near b1 b2 c1 c2
  unfold Builtin.Range.small
  rw [far a1 a2, far b1 b2, far c1 c2, hs, if_pos h0, fitL l.1 l.2, Bool.or_true]; rfl

/-- the range of a loop -/
theorem call_range_sim {vs : List V} {us : List Value} {l : List V} {m : MH} (H : HR W s.heap io m) (k : VRs W s.heap io vs us) (hr : rangeV vs = some l) {Q : Value → Shared → Prop} {E : Value → Shared → Prop}
    (hQ : ∀ (a b c : Int) (o : Obj) (tk : Nat) (t u v : Tok), a.natAbs < 2 ^ 31 → b.natAbs < 2 ^ 31 → c.natAbs < 2 ^ 31 → 0 < c → (l.length : Int) = Builtin.Range.rangeSize a b c → (∀ (i : Nat) (v : V), l[i]? = some v → v = .int (a + i * c)) → IsRange (s.heap.push o) s.heap.objs.size a b c t u v → Q (.ref s.heap.objs.size) { s with heap := s.heap.push o, toks := tk }) :
    wpAny (model W.prog W.w) A (call (.type "range") us) Q E s := by
  have e30 : (2 : Nat) ^ 30 < 2 ^ 31 := by decide
  unfold rangeV at hr
  split at hr
  · split at hr <;> cases hr
    rename_i hlt
    cases k with
    | cons k1 k2 =>
      cases k2
      cases k1
      refine call_range_1 (hQ 0 _ 1 _ _ _ _ _ (by decide) (Nat.lt_trans hlt e30) (by decide) (by decide) ?_ (fun i v e => ?_) (.new _ _ _ _ _ _ _))
      · rw [range_size3 (by decide)]; simp [rangeL]
      · rw [ranged_get e, Int.mul_one]
  · split at hr <;> cases hr
    rename_i hlt
    simp only [Bool.and_eq_true, decide_eq_true_eq] at hlt
    cases k with
    | cons k1 k2 =>
      cases k2 with
      | cons k2 k3 =>
        cases k3; cases k1; cases k2
        refine call_range_2 (hQ _ _ 1 _ _ _ _ _ (Nat.lt_trans hlt.1 e30) (Nat.lt_trans hlt.2 e30) (by decide) (by decide) ?_ (fun i v e => ?_) (.new _ _ _ _ _ _ _))
        · rw [range_size3 (by decide)]; simp [rangeL]
        · rw [ranged_get e, Int.mul_one]
  · split at hr <;> cases hr
    rename_i hlt
    simp only [Bool.and_eq_true, decide_eq_true_eq] at hlt
    cases k with
    | cons k1 k2 =>
      cases k2 with
      | cons k2 k3 =>
        cases k3 with
        | cons k3 k4 =>
          cases k4; cases k1; cases k2; cases k3
          refine PySem.call_range_3 (by omega) (hp := .inl (PyProof.noPylong_small (by omega))) (hQ _ _ _ _ _ _ _ _ (Nat.lt_trans hlt.1.1.1 e30) (Nat.lt_trans hlt.1.1.2 e30) (by omega) hlt.1.2 ?_ (fun i v e => ?_) (.new _ _ _ _ _ _ _))
          · rw [range_size3 hlt.1.2]; simp [rangeS]
          · rw [ranged_get e]
  · cases hr

theorem src_range {x : Str} {es : List Expr} {cl : Lo → Mn (List V)} (hh : A.handled = none) (gl : Gl W K) (e : nsIn K mainGlobals x = some none) (hv : bootBuiltins x = some (.type "range")) (hn : (x == ("__name__" : Str)) = false) (hx : env.kindOf x = some .globalImplicit) (hd : (x == ("__debug__" : Str)) = false) (hs : noStar es = true)
    (hl : SiL W A fs env vis (spliced (backTo pos (starEach es env))) cl) : SiSrc W A fs env vis (.Call (.Name x p) es [] pos) (fun r => bnd (cl r) fun vs => match rangeV vs with | some l => ret (l, .none) | none => bad) := by
  intro s io m r Z hne
  dsimp only at hne ⊢
  refine wpAny_Call_NameR (name_B gl Z e hv hn hx hd (callWith_type (plain_of hs) (args_of hs ?_)))
  refine wpAny_mono (hl s io m r Z (Res.bind_ne hne)) (fun us s₁ q => ?_) fun _ _ q => q.bind .refl (.refl _)
  refine hide fun GOAL hGOAL => ?_
  obtain ⟨vs, m₁, io₁, e1, st, H, k, sm⟩ := q
  refine hGOAL ?_
  clear hGOAL GOAL
  have ee : bnd (cl r) (fun vs => match rangeV vs with | some l => ret (l, Gd.none) | none => bad) m = (match rangeV vs with | some l => ret (l, Gd.none) | none => bad) m₁ := by show (cl r m).bind _ = _; rw [e1]; rfl
  rw [ee] at hne ⊢
  show wpAny (model W.prog W.w) A (call (.type "range") us) _ _ s₁
  have fin : ∀ (a b c : Int) (o : Obj) (tk : Nat) (t u v : Tok) (l : List V), a.natAbs < 2 ^ 31 → b.natAbs < 2 ^ 31 → c.natAbs < 2 ^ 31 → 0 < c → (l.length : Int) = Builtin.Range.rangeSize a b c → (∀ (i : Nat) (v : V), l[i]? = some v → v = .int (a + i * c)) → IsRange (s₁.heap.push o) s₁.heap.objs.size a b c t u v →
      wpAny (model W.prog W.w) A (pyIter (.ref s₁.heap.objs.size)) (fun it s₂ => NP W [] (frs fs) s io m (ItP W A s.heap) (.ok (l, Gd.none) m₁) it s₂) (XP W [] fs s io m (.ok (l, Gd.none) m₁ : Res (List V × Gd))) { s₁ with heap := s₁.heap.push o, toks := tk } := by
    intro a b c o tk t u v l ha hb hc h0 hsz hle hr
    have st1 : Step [] (frs fs) s₁.heap io₁ m₁ (s₁.heap.push o) io₁ m₁ := .of_keeps H (push_keeps _)
    have H1 : HR W (s₁.heap.push o) io₁ m₁ := H.of_keeps (push_keeps _)
    refine wpAny_pyIter_range hr (range_small ha hb hc h0) ?_
    have st2 : Step [] (frs fs) (s₁.heap.push o) io₁ m₁ _ io₁ m₁ := .of_keeps H1 (push_keeps { cls := .type "range_iterator", data := .fields #[rawInt a, rawInt (Builtin.Range.rangeSize a b c), rawInt c] })
    refine ⟨(l, .none), m₁, io₁, rfl, (st.trans st1).trans st2, H1.of_keeps (push_keeps _), ⟨_, _, _, rfl, Wk.range (a := a) (c := c) (k := l.length) hh rfl hle, ⟨?_, ?_⟩, fun b hb => ?_⟩, sm⟩
    · have := Heap.get?_push_size (h := s₁.heap.push o) (o := { cls := .type "range_iterator", data := .fields #[rawInt a, rawInt (Builtin.Range.rangeSize a b c), rawInt c] }) rfl
      rw [← hsz] at this ⊢
      simpa [IsRangeIter] using this
    · exact nofoot_size (s := { s₁ with heap := s₁.heap.push o }) H1
    · rw [List.mem_singleton.mp hb]
      exact dead_before (st.trans st1) (get_size _)
  cases hr : rangeV vs with
  | none => rw [hr] at hne; exact absurd rfl hne
  | some l => exact call_range_sim H k hr fun a b c o tk t u v ha hb hc h0 hsz hle hr => fin a b c o tk t u v l ha hb hc h0 hsz hle hr
end
end Mini

/-! The calls of functions. -/
namespace Mini
open PySem PySem.W

theorem zip_lookup_none {names : List Str} {us : List Value} (h : us.length = names.length) : ∀ n ∈ names, ((names.zip us).lookup n).isNone = false := by
  induction names generalizing us with
  | nil => intro n hn; cases hn
  | cons a as ih =>
    cases us with
    | nil => cases h
    | cons u us =>
      intro n hn
      simp only [List.zip_cons_cons, List.lookup_cons]
      cases q : n == a with
      | true => rfl
      | false =>
        rcases List.mem_cons.mp hn with rfl | hn
        · simp at q
        · exact ih (by simpa using h) n hn

theorem filterMap_zip {names : List Str} {us : List Value} (h : us.length = names.length) (hd : names.Nodup) : (names.filterMap fun n => ((names.zip us).lookup n).map (n, ·)) = names.zip us := by
  have key : ∀ (ns : List Str) (vs : List Value) (g : Str → Option Value), vs.length = ns.length → ns.Nodup → (∀ n v, (n, v) ∈ ns.zip vs → g n = some v) → (ns.filterMap fun n => (g n).map (n, ·)) = ns.zip vs := by
    intro ns
    induction ns with
    | nil => intro vs g _ _ _; simp
    | cons a as ih =>
      intro vs g hl hn hg
      cases vs with
      | nil => cases hl
      | cons u us =>
        have h1 := hg a u (by simp)
        rw [List.filterMap_cons]
        simp only [h1, Option.map_some, List.zip_cons_cons]
        rw [ih us g (by simpa using hl) (List.nodup_cons.mp hn).2 fun n v e => hg n v (by simp [e])]
  refine key names us _ h hd fun n v e => ?_
  clear key
  induction names generalizing us with
  | nil => simp at e
  | cons a as ih =>
    cases us with
    | nil => simp at e
    | cons u us =>
      simp only [List.zip_cons_cons, List.mem_cons, Prod.mk.injEq] at e
      simp only [List.zip_cons_cons, List.lookup_cons]
      rcases e with ⟨rfl, rfl⟩ | e
      · simp
      · have : n ≠ a := fun q => (List.nodup_cons.mp hd).1 (q ▸ (List.of_mem_zip e).1)
        have : (n == a) = false := by simpa using this
        rw [this]
        exact ih (by simpa using h) (List.nodup_cons.mp hd).2 e

theorem bindArgs_plain {fd : FuncData} {us : List Value} (hp : fd.params.posonlyargs = []) (hk : fd.params.kwonlyargs = []) (hv : fd.params.vararg = none) (hw : fd.params.kwarg = none) (hd : fd.defaults = .none) (hn : (fd.params.args.map (·.arg)).Nodup) (hl : us.length = fd.params.args.length) :
    bindArgs fd ⟨us, []⟩ = Pure.pure ((fd.params.args.map (·.arg)).zip us) := by
  cases fd with | mk name qualname params body scope globals closure defaults kwd doc pym ann code ct =>
  cases params with | mk posonly args vararg kwonly kwdf kwarg dflt =>
  have hp : posonly = [] := hp
  have hk : kwonly = [] := hk
  have hv : vararg = none := hv
  have hw : kwarg = none := hw
  have hd : defaults = .none := hd
  subst hp hk hv hw hd
  have hn : (args.map (·.arg)).Nodup := hn
  have hl : us.length = args.length := hl
  have hm : ∀ k, ((List.take k (args.map (·.arg))).filter fun n => (((args.map (·.arg)).zip us).lookup n).isNone) = [] := by
    intro k
    rw [List.filter_eq_nil_iff]
    intro n hn' q
    rw [zip_lookup_none (by simpa using hl) n (List.mem_of_mem_take hn')] at q
    cases q
  have hz := filterMap_zip (names := args.map (·.arg)) (us := us) (by simpa using hl) hn
  rw [List.filterMap_map] at hz
  have e1 : seqItems? Value.none = Pure.pure none := rfl
  unfold bindArgs
  simp [hl, e1, hm]
  exact congrArg Pure.pure hz
section
variable {W : Wd} {K : Frag} {h h' h₀ : Heap} {fs : List Env} {env : Env} {vis : List (Option Str)} {s s' : Shared} {io io' io₀ : Io} {m m' m₀ : MH} {r r' : Lo} {fr fr' own own' : List Addr} {A : Around} {n : Nat} {pos p : Pos}

/-- what is new counts for nothing -/
theorem Step.shrink (H : HR W h₀ io m) (x : Step own fr h io m h' io' m') (k : ∀ b o, h₀.get? b = some o → h.get? b = some o) (ho : ∀ b ∈ own, h₀.get? b = none ∨ b ∈ own') (hf : ∀ b ∈ fr, h₀.get? b = none ∨ b ∈ fr') : Step own' fr' h₀ io m h' io' m' := by
  have oo : ∀ b o, h₀.get? b = some o → b ∉ own' → b ∉ own := fun b o e q w => by
    rcases ho b w with z | z
    · rw [z] at e; cases e
    · exact q z
  have ff : ∀ b o, h₀.get? b = some o → b ∉ fr' → b ∉ fr := fun b o e q w => by
    rcases hf b w with z | z
    · rw [z] at e; cases e
    · exact q z
  refine ⟨fun b o e => x.alive b o (k b o e), fun b o e so => x.solid b o (k b o e) so, fun b o e f1 f2 f3 => x.keep b o (k b o e) f1 (oo b o e f2) (ff b o e f3), fun b o e f1 f2 => x.slots b o (k b o e) f1 (oo b o e f2), ?_, ?_⟩
  · refine hide fun GOAL hGOAL => ?_
    obtain ⟨new, e, hn⟩ := x.grow
    refine hGOAL ?_
    clear hGOAL GOAL
    have back : ∀ b, h.get? b = none → h₀.get? b = none := fun b e => by
      cases q : h₀.get? b with
      | none => rfl
      | some o => rw [k b o q] at e; cases e
    exact ⟨new, e, fun p hp => ⟨back _ (hn p hp).1, back _ (hn p hp).2⟩⟩
  · intro i p kvs e hi hm
    refine hide fun GOAL hGOAL => ?_
    obtain ⟨k', e', q1, q2, q3⟩ := x.dicts i p kvs e hi hm
    refine hGOAL ?_
    clear hGOAL GOAL
    refine ⟨k', e', q1, q2, fun q => ⟨?_, (q3 q).2⟩⟩
    obtain ⟨o, ho⟩ := H.there hi
    rw [(q3 q).1, ho, k _ _ ho]

theorem bindL_other {kind : Str → Option NameKind} {y : Str} : ∀ (binds : List (Str × Value)) (mp : Str → Option Value), y ∉ binds.map (·.1) → bindL kind binds mp y = mp y
  | [], _, _ => rfl
  | (n, v) :: r, mp, h => by
    simp only [List.map_cons, List.mem_cons, not_or] at h
    simp only [bindL]
    rw [bindL_other r _ h.2]
    split
    · simp [h.1]
    · rfl
theorem bindC_other {kind : Str → Option NameKind} {y : Str} : ∀ (binds : List (Str × Value)) (mp : Str → Option Value), y ∉ binds.map (·.1) → bindC kind binds mp y = mp y
  | [], _, _ => rfl
  | (n, v) :: r, mp, h => by
    simp only [List.map_cons, List.mem_cons, not_or] at h
    simp only [bindC]
    rw [bindC_other r _ h.2]
    split
    · rfl
    · simp [h.1]
theorem bindL_get {kind : Str → Option NameKind} {y : Str} {u : Value} (hk : kind y = some .local) : ∀ (binds : List (Str × Value)) (mp : Str → Option Value), (binds.map (·.1)).Nodup → (y, u) ∈ binds → bindL kind binds mp y = some u
  | [], _, _, h => nomatch h
  | (n, v) :: r, mp, hn, h => by
    simp only [List.map_cons, List.nodup_cons] at hn
    simp only [bindL]
    rcases List.mem_cons.mp h with e | h
    · cases e
      rw [bindL_other r _ hn.1]; simp [hk]
    · exact bindL_get hk r _ hn.2 h
theorem bindC_get {kind : Str → Option NameKind} {y : Str} {u : Value} (hk : kind y = some .cell) : ∀ (binds : List (Str × Value)) (mp : Str → Option Value), (binds.map (·.1)).Nodup → (y, u) ∈ binds → bindC kind binds mp y = some u
  | [], _, _, h => nomatch h
  | (n, v) :: r, mp, hn, h => by
    simp only [List.map_cons, List.nodup_cons] at hn
    simp only [bindC]
    rcases List.mem_cons.mp h with e | h
    · cases e
      rw [bindC_other r _ hn.1]; simp [hk]
    · exact bindC_get hk r _ hn.2 h

theorem frame_start {kindOf : Str → Option NameKind} {names : List Str} {np : Nat} {vs : List V} {us : List Value} {i : Nat} {x : Str} {v : V} (hl : vs.length = np) (hu : VRs W h io vs us) (hv : (names.map some)[i]? = some (some x)) (hr : (vs.map some ++ List.replicate (names.length - np) (none : Option V))[i]? = some (some v)) :
    ∃ u, (x, u) ∈ (names.take np).zip us ∧ VR W h io v u := by
  have hi : i < vs.length := by
    rcases Nat.lt_or_ge i vs.length with q | q
    · exact q
    · rw [List.getElem?_append_right (by simpa using q)] at hr
      have := List.mem_of_getElem? hr
      simp at this
  rw [List.getElem?_append_left (by simpa using hi), List.getElem?_map] at hr
  cases q : vs[i]? with
  | none => rw [q] at hr; cases hr
  | some v' =>
    rw [q] at hr; cases hr
    refine hide fun GOAL hGOAL => ?_
    obtain ⟨u, hu', ku⟩ := hu.get q
    refine hGOAL ?_
    clear hGOAL GOAL
    refine ⟨u, ?_, ku⟩
    rw [List.getElem?_map] at hv
    have hx : names[i]? = some x := by
      cases w : names[i]? with
      | none => rw [w] at hv; cases hv
      | some y => rw [w] at hv; cases hv; rfl
    have : ((names.take np).zip us)[i]? = some (x, u) := by
      rw [List.getElem?_zip_eq_some]
      exact ⟨by rw [List.getElem?_take_of_lt (by omega)]; exact hx, hu'⟩
    exact List.mem_of_getElem? this

/-- a function's frame, as it is entered -/
theorem enter_sim {scope : Scope} {names : List Str} {np : Nat} {vs : List V} {us : List Value} {binds : List (Str × Value)} {qual : Str} {func : Option Addr} {code : Value} (H : HR W s.heap io m) (G : FF W s.heap io fs) (hl : vs.length = np) (hnp : np ≤ names.length) (hu : VRs W s.heap io vs us)
    (hk : scope.kind = .function) (hn : names.Nodup) (hkind : ∀ x ∈ names, scope.names.lookup x = some .local ∨ scope.names.lookup x = some .cell) (hb : binds = (names.take np).zip us)
    (he : env = newEnv scope s.heap.objs.size mainGlobals (cellsFrom (s.heap.objs.size + 1) scope.names []) qual func code none builtinsNs) (hI : InCallC s env.locals (bindL env.kindOf binds fun _ => none) env.cells (bindC env.kindOf binds fun _ => none) s') :
    Stt W fs env (names.map some) s' io m (vs.map some ++ List.replicate (names.length - np) none) ∧ (∀ b ∈ ownOf env, s.heap.get? b = none) := by
  have hloc : env.locals = s.heap.objs.size := by rw [he]; rfl
  have hkd : ∀ x, env.kindOf x = scope.names.lookup x := fun x => by rw [he]; rfl
  have keep := hI.toInCall.keep
  have hsz : us.length = np := by rw [hu.length, hl]
  have bn : binds.map (·.1) = names.take np := by
    rw [hb, List.map_fst_zip (by rw [hsz]; simp; omega)]
  have bnd' : (binds.map (·.1)).Nodup := by rw [bn]; exact hn.sublist (List.take_sublist _ _)
  have up : ∀ b, s.heap.objs.size ≤ b → s.heap.get? b = none := fun b hb => by
    cases q : s.heap.get? b with
    | none => rfl
    | some o => exact absurd (Heap.lt_size q) (Nat.not_lt.mpr hb)
  have celUp : ∀ q ∈ env.cells, s.heap.get? q.2 = none := fun q hq => up _ (by have := hI.above q.1 q.2 hq; rw [hloc] at this; exact Nat.le_of_lt this)
  have basN : ∀ b, s.heap.get? b = none → W.base.get? b = none := fun b e => by
    cases q : W.base.get? b with
    | none => rfl
    | some o => rw [H.keep _ _ q] at e; cases e
  have nfN : ∀ b, s.heap.get? b = none → ¬ Foot io b := fun b e f => by
    refine hide fun GOAL hGOAL => ?_
    obtain ⟨o, ho, _⟩ := H.foot f
    refine hGOAL ?_
    clear hGOAL GOAL
    rw [e] at ho; cases ho
  have st : Step [] [] s.heap io m s'.heap io m := .of_keeps H keep
  have own0 : ∀ b ∈ ownOf env, s.heap.get? b = none := fun b hb => by
    rcases List.mem_cons.mp hb with rfl | hb
    · exact up _ (by rw [hloc]; exact Nat.le_refl _)
    · refine hide fun GOAL hGOAL => ?_
      obtain ⟨q, hq, e⟩ := List.mem_filterMap.mp hb
      refine hGOAL ?_
      clear hGOAL GOAL
      exact celUp _ (mem_of_lookup e)
  have cex : ∀ x, scope.names.lookup x = some .cell → ∃ c, env.cells.lookup x = some c := fun x hx => by
    have := cellsFrom_some scope.names (s.heap.objs.size + 1) [] (x := x) (.inl hx)
    have e : env.cells = cellsFrom (s.heap.objs.size + 1) scope.names [] := by rw [he]; rfl
    rw [e]
    exact Option.isSome_iff_exists.mp this
  have memNames : ∀ (i : Nat) (x : Str), (names.map some)[i]? = some (some x) → names[i]? = some x := fun i x hv => by
    rw [List.getElem?_map] at hv
    cases w : names[i]? with
    | none => rw [w] at hv; cases hv
    | some y => rw [w] at hv; cases hv; rfl
  have nofree : ∀ (i : Nat) (x : Str), (names.map some)[i]? = some (some x) → env.kindOf x ≠ some .free := fun i x hv q => by
    rw [hkd] at q
    rcases hkind x (List.mem_of_getElem? (memNames i x hv)) with e | e <;> rw [q] at e <;> cases e
  refine ⟨⟨H.of_keeps keep, ⟨?_, ?_, ?_, ?_, ?_, ⟨_, hI.toInCall.ns, fun i x v h1 h2 h3 => ?_⟩, fun i x v h1 h2 h3 => ?_, fun x c hc => ?_, fun i x h1 h2 => ?_, fun x y c h1 h2 => ?_, fun i j x h1 h2 => ?_, ?_⟩, G.step0 st, ?_, fun L hL q => ?_⟩, own0⟩
  · rw [he]; exact hk
  · rw [he]; rfl
  · rw [he]; rfl
  · exact nfN _ (own0 _ (.head _))
  · exact basN _ (own0 _ (.head _))
  · refine hide fun GOAL hGOAL => ?_
    obtain ⟨u, hm, ku⟩ := frame_start (kindOf := env.kindOf) hl hu h1 h2
    refine hGOAL ?_
    clear hGOAL GOAL
    exact ⟨u, bindL_get h3 binds _ bnd' (hb ▸ hm), ku.step st⟩
  · rcases h3 with h3 | h3
    · refine hide fun GOAL hGOAL => ?_
      obtain ⟨u, hm, ku⟩ := frame_start (kindOf := env.kindOf) hl hu h1 h2
      refine hGOAL ?_
      clear hGOAL GOAL
      obtain ⟨c, hc⟩ := cex x (by rw [← hkd]; exact h3)
      refine ⟨c, u, hc, ?_, ku.step st⟩
      have := hI.cell x c hc
      rwa [bindC_get h3 binds _ bnd' (hb ▸ hm)] at this
    · exact absurd h3 (nofree i x h1)
  · have hm := mem_of_lookup hc
    exact ⟨⟨_, hI.cell x c hc⟩, basN _ (celUp _ hm), fun e => by have := hI.above x c hm; rw [e] at this; exact absurd this (Nat.lt_irrefl _)⟩
  · rcases h2 with h2 | h2
    · exact cex x (by rw [← hkd]; exact h2)
    · exact absurd h2 (nofree i x h1)
  · have h1' := mem_of_lookup h1
    have h2' := mem_of_lookup h2
    have : ∀ (l : List (Str × Addr)), l.Pairwise (fun x y => x.2 ≠ y.2) → ∀ a ∈ l, ∀ b ∈ l, a.2 = b.2 → a = b := by
      intro l hp
      induction l with
      | nil => intro a ha; cases ha
      | cons z zs ih =>
        obtain ⟨p1, p2⟩ := List.pairwise_cons.mp hp
        intro a ha b hb e
        rcases List.mem_cons.mp ha with ea | ha' <;> rcases List.mem_cons.mp hb with eb | hb'
        · rw [ea, eb]
        · rw [ea] at e; exact absurd e (p1 b hb')
        · rw [eb] at e; exact absurd e.symm (p1 a ha')
        · exact ih p2 a ha' b hb' e
    exact congrArg Prod.fst (this _ hI.apart _ h1' _ h2' rfl)
  · have e1 := memNames i x h1
    have e2 := memNames j x h2
    exact (List.getElem?_inj (List.getElem?_eq_some_iff.mp e1).1 hn).mp (e1.trans e2.symm)
  · simp [hl]; omega
  · rw [he]; rfl
  · have := own0 L q
    refine hide fun GOAL hGOAL => ?_
    obtain ⟨e, hee, hf⟩ := List.mem_filterMap.mp hL
    refine hGOAL ?_
    clear hGOAL GOAL
    refine hide fun GOAL hGOAL => ?_
    obtain ⟨_, L', o, _, _, h1, _, _, h4, _⟩ := G e hee
    refine hGOAL ?_
    clear hGOAL GOAL
    rw [h1] at hf; cases hf; rw [this] at h4; cases h4
end
end Mini

/-! The calls of functions, whole. -/
namespace Mini
open PySem PySem.W

/-- the head of a function, as the walk needs it -/
noncomputable def fnHead (K : Frag) (fd : FuncData) (d : FnD) : Bool :=
  fd.scope.kind == .function && !fd.scope.isCoroutine && !fd.scope.isGenerator && fd.globals == mainGlobals && fd.builtins == builtinsNs && fd.closure.isEmpty && fd.params.posonlyargs.isEmpty && fd.params.kwonlyargs.isEmpty && fd.params.vararg.isNone && fd.params.kwarg.isNone &&
  (match fd.defaults with | .none => true | _ => false) && decide (fd.params.args.map (·.arg) = d.names.take d.np) && decide (d.np ≤ d.names.length) && decide d.names.Nodup && (d.names.all fun x => fd.scope.names.lookup x == some .local || fd.scope.names.lookup x == some .cell) && codeIn K fd.code fd.qualname

section
variable {W : Wd} {K : Frag} {h h' h₀ : Heap} {fs : List Env} {env : Env} {vis : List (Option Str)} {s s' : Shared} {io io' io₀ : Io} {m m' m₀ : MH} {r r' : Lo} {fr fr' own own' : List Addr} {A : Around} {n : Nat} {pos p : Pos}

theorem leave_sim {e : Value} {α β : Type} {R : Res α} {f : α → Mn β} (hA : A.frames = some (env :: fs)) (hf : env.frame = some env.locals) {s₀ : Shared} (H : HR W s₀.heap io m) (k : ∀ b o, s₀.heap.get? b = some o → s.heap.get? b = some o) (own0 : ∀ b ∈ ownOf env, s₀.heap.get? b = none) (sm : Same s₀ s)
    (x : XP W (ownOf env) (env :: fs) s io m R e s') : wpAny (model W.prog W.w) A (leaving env e) (fun _ s'' => XP W [] fs s₀ io m (R.bind f) e s'') (fun _ _ => False) s' := by
  refine hide fun GOAL hGOAL => ?_
  obtain ⟨c, m', io', a, g, rfl, rfl, st, Hg, ⟨B, kp, fly⟩, sm'⟩ := x
  refine hGOAL ?_
  clear hGOAL GOAL
  have hL : s₀.heap.get? env.locals = none := own0 _ (.head _)
  have frs' : ∀ b ∈ frs (env :: fs), s₀.heap.get? b = none ∨ b ∈ frs fs := fun b hb => by
    have e : frs (env :: fs) = env.locals :: frs fs := by simp [frs, hf]
    rw [e] at hb
    rcases List.mem_cons.mp hb with rfl | hb
    · exact .inl hL
    · exact .inr hb
  have st0 : Step [] (frs fs) s₀.heap io m g io' m' := st.shrink H k (fun b hb => .inl (own0 b hb)) frs'
  have kp0 : Kp W s₀.heap io' fs g B := fun b o e q => kp b o e (q.imp id (Or.imp id (Or.imp id fun ⟨⟨o', e'⟩, q⟩ => ⟨⟨o', k b o' e'⟩, fun w => by
    rcases frs' b w with z | z
    · rw [z] at e'; cases e'
    · exact q z⟩)))
  rcases fly with ⟨a0, f1, f2⟩ | ⟨a0, L, env', f0, f0', f1, f2⟩ | ⟨args, f1, f2, f3⟩
  · refine wpAny_leaves_onW hA hf f1 fun h' q1 q2 => ?_
    exact ⟨c, m', io', a, g, rfl, rfl, st0, Hg, ⟨B, kp0, .inl ⟨a0, q1, f2.trans q2⟩⟩, sm.trans ⟨sm'.1, sm'.2⟩⟩
  · cases f0
    unfold leaving
    refine wpAny_bind (wpAny_noteFrame_againW f0' f1.2.2.2 ?_)
    refine wpAny_landsW f1 fun h' q1 q2 => ?_
    obtain ⟨k1, k2, ⟨_, _, k3⟩, k4⟩ := q1
    exact ⟨c, m', io', a, g, rfl, rfl, st0, Hg, ⟨B, kp0, .inl ⟨a0, ⟨k1, k2, k3, k4⟩, f2.trans q2⟩⟩, sm.trans ⟨sm'.1, sm'.2⟩⟩
  · refine wpAny_leaves_madeW hA hf f1 f2 f3 fun h' t q1 q2 q3 q4 => ?_
    exact ⟨c, m', io', a, g, rfl, rfl, st0, Hg, ⟨B, kp0, .inl ⟨_, q1, (Heap.UpToSlots.of_keeps f3.keeps).trans q4⟩⟩, sm.trans ⟨sm'.1, sm'.2⟩⟩

theorem AR.deeper {A : Around} (R : AR A fs (n + 1)) (env : Env) : AR (A.deeper env) (env :: fs) n :=
  ⟨by show A.frames.map (env :: ·) = _; rw [R.frames]; rfl, by have := R.depth; show A.depth + 1 + 4 * n ≤ 900; omega, by have := R.units; show A.units + 3 + 40 * n + 400 ≤ 9000; omega⟩

theorem call_sim {a : Addr} {o : Obj} {fd : FuncData} {body : List Stmt} {d : FnD} {Fb : Lo → Mn (Fl × Lo)} (gl : Gl W K) (R : AR A fs (n + 1)) (ho : K.lookup a = some o) (hdata : o.data = .func fd) (hh : fnHead K fd d = true) (hb : fd.body = .stmts body)
    (hbody : ∀ env : Env, env.scope = fd.scope → SiS W (A.deeper env) fs env (d.names.map some) (execs body env) Fb) :
    SiK W A fs (.ref a) (fun vs => if vs.length = d.np then bnd (Fb (vs.map some ++ List.replicate (d.names.length - d.np) none)) finF else bad) := by
  intro s io m vs us H G hu
  dsimp only
  simp only [fnHead, Bool.and_eq_true, beq_iff_eq, Bool.not_eq_true', decide_eq_true_eq, List.isEmpty_iff, Option.isNone_iff_eq_none] at hh
  refine hide fun GOAL hGOAL => ?_
  obtain ⟨⟨⟨⟨⟨⟨⟨⟨⟨⟨⟨⟨⟨⟨⟨h1, h2⟩, h3⟩, h4⟩, h5⟩, h6⟩, h7⟩, h8⟩, h9⟩, h10⟩, h11⟩, h12⟩, h13⟩, h14⟩, h15⟩, h16⟩ := hh
  refine hGOAL ?_
  clear hGOAL GOAL
  have hdef : fd.defaults = .none := by
    cases q : fd.defaults <;> rw [q] at h11 <;> first | rfl | (exact absurd h11 Bool.false_ne_true)
  split
  · rename_i hl
    intro hne
    have hlen : us.length = fd.params.args.length := by
      have := congrArg List.length h12
      simp at this
      rw [hu.length, hl]; omega
    have hnd : (fd.params.args.map (·.arg)).Nodup := by rw [h12]; exact h14.sublist (List.take_sublist _ _)
    refine codeAny_call_function (by have := R.depth; simp only [recursionLimit]; omega) (H.get gl ho) hdata h2 h3 hb ((codeRec_of gl.X h16).keeps H.keep) ?_
    rw [bindArgs_plain h7 h8 h9 h10 hdef hnd hlen]
    refine wpAny_pure ?_
    rw [h4, h5, h6]
    have hkinds : ∀ x ∈ d.names, fd.scope.names.lookup x = some .local ∨ fd.scope.names.lookup x = some .cell := fun x hx => by
      have := List.all_eq_true.mp h15 x hx
      simpa using this
    refine wpAny_newFunctionEnv_cells h1 (fun x hx => ?_) fun env he s₂ hI => ?_
    · have hxn : x.1 ∈ d.names := by
        have := (List.of_mem_zip (show (x.1, x.2) ∈ _ from hx)).1
        rw [h12] at this
        exact List.mem_of_mem_take this
      rcases hkinds _ hxn with e | e
      · exact .inl e
      · exact .inr ⟨e, cellsFrom_some _ _ _ (.inl e)⟩
    · rw [h12] at hI
      obtain ⟨Z, own0⟩ := enter_sim H G hl h13 hu h1 h14 hkinds rfl he hI
      have keep := hI.toInCall.keep
      refine hide fun GOAL hGOAL => ?_
      obtain ⟨hs, htk, hse⟩ := hI.toInCall.same
      refine hGOAL ?_
      clear hGOAL GOAL
      have sm : Same s s₂ := by rw [hse]; exact ⟨rfl, rfl⟩
      refine ⟨gl.ok.nolimit.keeps (fun b o e => keep b o (H.keep b o e)), codeAny_func ?_⟩
      have hsc : env.scope = fd.scope := by rw [he]; rfl
      have Rd := R.deeper env
      refine wpAny_mono (hbody env hsc s₂ io m _ Z (Res.bind_ne hne)) (fun f s₃ q => ?_) fun e s₃ q => ?_
      · refine hide fun GOAL hGOAL => ?_
        obtain ⟨⟨fl, r₃⟩, m₃, io₃, e3, st3, H3, ⟨kf, F3⟩, sm3⟩ := q
        refine hGOAL ?_
        clear hGOAL GOAL
        have frs' : ∀ b ∈ frs (env :: fs), s.heap.get? b = none ∨ b ∈ frs fs := fun b hb => by
          have e : frs (env :: fs) = env.locals :: frs fs := by simp [frs, Z.fr]
          rw [e] at hb
          rcases List.mem_cons.mp hb with rfl | hb
          · exact .inl (own0 _ (.head _))
          · exact .inr hb
        have st0 : Step [] (frs fs) s.heap io m s₃.heap io₃ m₃ := st3.shrink H keep (fun b hb => .inl (own0 b hb)) frs'
        have ee : ∀ g : Fl × Lo → Mn V, bnd (Fb (vs.map some ++ List.replicate (d.names.length - d.np) none)) g m = g (fl, r₃) m₃ := fun g => by show (Fb _ m).bind _ = _; rw [e3]; rfl
        rw [ee] at hne ⊢
        cases kf with
        | next => exact ⟨_, m₃, io₃, rfl, st0, H3, .none, sm.trans sm3⟩
        | cont => exact absurd rfl hne
        | ret kv => exact ⟨_, m₃, io₃, rfl, st0, H3, kv, sm.trans sm3⟩
      · exact wpAny_mono (leave_sim Rd.frames Z.fr H keep own0 sm q) (fun _ _ q => q) fun _ _ q => q.elim
  · exact fun h => absurd rfl h
end
end Mini

/-! Comprehensions. -/
namespace Mini
open PySem PySem.W

section
variable {W : Wd} {K : Frag} {h h' h₀ : Heap} {fs : List Env} {env : Env} {vis : List (Option Str)} {s s' : Shared} {io io' io₀ : Io} {m m' m₀ : MH} {r r' : Lo} {fr fr' own own' : List Addr} {A : Around} {n : Nat} {pos p : Pos}

theorem closure_of {scope : Scope} (hc : ∀ x k, (x, k) ∈ scope.names → k = .free → ∃ c, env.cells.lookup x = some c) :
    ∃ cl, closureFor scope env = Pure.pure cl ∧ (∀ x c, cl.lookup x = some c → env.cells.lookup x = some c) ∧ (∀ x, (x, NameKind.free) ∈ scope.names → ∃ c, cl.lookup x = some c) := by
  have key : ∀ (l : List (Str × NameKind)) (f : (Str × NameKind) → List (Str × Addr) → Sem (ForInStep (List (Str × Addr)))) (cs : List (Str × Addr)),
      (∀ x k cs, f (x, k) cs = if k == .free then (do let c ← cellOf env x; Pure.pure (.yield ((x, c) :: cs))) else Pure.pure (.yield cs)) →
      (∀ x k, (x, k) ∈ l → k = .free → ∃ c, env.cells.lookup x = some c) → (∀ x c, cs.lookup x = some c → env.cells.lookup x = some c) →
      ∃ cl, forIn l cs f = Pure.pure cl ∧ (∀ x c, cl.lookup x = some c → env.cells.lookup x = some c) ∧ (∀ x, (x, NameKind.free) ∈ l → ∃ c, cl.lookup x = some c) ∧ (∀ x c, cs.lookup x = some c → ∃ c', cl.lookup x = some c') := by
    intro l
    induction l with
    | nil => intro f cs _ _ h2; exact ⟨cs, rfl, h2, fun _ q => (by cases q), fun x c q => ⟨c, q⟩⟩
    | cons p l ih =>
      intro f cs hf hl h2
      obtain ⟨x, k⟩ := p
      rw [List.forIn_cons, hf]
      by_cases q : k = .free
      · subst q
        obtain ⟨c, hcx⟩ := hl x .free (.head _) rfl
        have e1 : cellOf env x = Pure.pure c := by unfold cellOf; rw [hcx]
        rw [e1]
        obtain ⟨cl, g1, g2, g3, g4⟩ := ih f ((x, c) :: cs) hf (fun y j hy => hl y j (.tail _ hy)) (fun y c' hy => by
          rw [List.lookup_cons] at hy
          cases z : y == x with
          | true => rw [z] at hy; cases hy; rw [beq_iff_eq.mp z]; exact hcx
          | false => rw [z] at hy; exact h2 y c' hy)
        refine ⟨cl, g1, g2, fun y hy => ?_, fun y c' hy => ?_⟩
        · rcases List.mem_cons.mp hy with e | hy
          · cases e; exact g4 x c (by simp)
          · exact g3 y hy
        · by_cases z : y = x
          · subst z; exact g4 y c (by simp)
          · exact g4 y c' (by rw [List.lookup_cons]; have : (y == x) = false := by simpa using z
                              rw [this]; exact hy)
      · have q' : (k == NameKind.free) = false := by simpa using q
        simp only [q', Bool.false_eq_true, if_false]
        refine hide fun GOAL hGOAL => ?_
        obtain ⟨cl, g1, g2, g3, g4⟩ := ih f cs hf (fun y j hy => hl y j (.tail _ hy)) h2
        refine hGOAL ?_
        clear hGOAL GOAL
        refine ⟨cl, g1, g2, fun y hy => ?_, g4⟩
        rcases List.mem_cons.mp hy with e | hy
        · cases e; exact absurd rfl q
        · exact g3 y hy
  have e : closureFor scope env = (forIn scope.names ([] : List (Str × Addr)) (fun (p : Str × NameKind) cs => if p.2 == .free then (do let c ← cellOf env p.1; Pure.pure (ForInStep.yield ((p.1, c) :: cs))) else Pure.pure (ForInStep.yield cs)) >>= fun cs => Pure.pure cs) := rfl
  rw [e]
  obtain ⟨cl, g1, g2, g3, _⟩ := key scope.names (fun (p : Str × NameKind) cs => if p.2 == .free then (do let c ← cellOf env p.1; Pure.pure (ForInStep.yield ((p.1, c) :: cs))) else Pure.pure (ForInStep.yield cs)) [] (fun x k cs => rfl) hc (fun _ _ q => by cases q)
  exact ⟨cl, by rw [g1]; rfl, g2, g3⟩

/-- a local name takes a value -/
theorem storeL_sim (H : HR W s.heap io m) (F : FR W s.heap io env vis r) (ho : env.locals ∈ own) {i : Nat} {x : Str} {v : V} {u : Value} (hv : vis[i]? = some (some x)) (hk : env.kindOf x = some .local) (k : VR W s.heap io v u) :
    Si W own A fs (RP W env vis) (storeName env x u) s io m (.ok (r.set i (some v)) m) := by
  intro _
  have hi : i < vis.length := (List.getElem?_eq_some_iff.mp hv).1
  have row : ∀ (j : Nat) (y : Str) (w : V), vis[j]? = some (some y) → (r.set i (some v))[j]? = some (some w) → (y = x ∧ w = v) ∨ (y ≠ x ∧ r[j]? = some (some w)) := by
    intro j y w h1 h2
    by_cases q : i = j
    · subst q
      rw [List.getElem?_set_self (by rw [F.len]; exact hi)] at h2
      rw [hv] at h1
      cases h1; cases h2; exact .inl ⟨rfl, rfl⟩
    · rw [List.getElem?_set_ne q] at h2
      refine .inr ⟨fun e => q (F.inj i j x hv (e ▸ h1)), h2⟩
  refine hide fun GOAL hGOAL => ?_
  obtain ⟨mp, hn, hl⟩ := F.loc
  refine hGOAL ?_
  clear hGOAL GOAL
  refine hide fun GOAL hGOAL => ?_
  obtain ⟨oL, esL, epL, hoL, hdL, _⟩ := id hn
  refine hGOAL ?_
  clear hGOAL GOAL
  refine wpAny_storeName_local hk hn (fun h' hn' hs => ?_) (by rw [F.kind]; rfl)
  have kk : ∀ b o, b ≠ env.locals → s.heap.get? b = some o → h'.get? b = some o := fun b o q e => (hs.2 b q).trans e
  have lv : ∀ o, s.heap.get? env.locals = some o → ¬ Solid o ∧ ∃ o', h'.get? env.locals = some o' := fun o ho => by
    rw [hoL] at ho; cases ho
    refine hide fun GOAL hGOAL => ?_
    obtain ⟨o', _, _, ho', _⟩ := id hn'
    refine hGOAL ?_
    clear hGOAL GOAL
    exact ⟨not_solid_dict hdL, o', ho'⟩
  have st : Step own (frs fs) s.heap io m h' io m := step_own H (L := env.locals) ho kk lv F.nofoot
  have H' : HR W h' io m := H.ofOwn (own := own) (L := env.locals) ho kk lv F.nofoot F.fresh
  refine ⟨_, m, io, rfl, st, H', ?_, rfl, rfl⟩
  refine ⟨F.kind, F.glob, F.blt, F.nofoot, F.fresh, ⟨_, hn', fun j y w h1 h2 h3 => ?_⟩, fun j y w h1 h2 h3 => ?_, fun y c hy => ?_, F.celex, F.apart, F.inj, by simp [F.len]⟩
  · rcases row j y w h1 h2 with ⟨rfl, rfl⟩ | ⟨q, h2⟩
    · exact ⟨u, by simp, k.step st⟩
    · refine hide fun GOAL hGOAL => ?_
      obtain ⟨u', e, k'⟩ := hl j y w h1 h2 h3
      refine hGOAL ?_
      clear hGOAL GOAL
      exact ⟨u', by simp [q, e], k'.step st⟩
  · rcases row j y w h1 h2 with ⟨rfl, rfl⟩ | ⟨q, h2⟩
    · rw [hk] at h3; simp at h3
    · refine hide fun GOAL hGOAL => ?_
      obtain ⟨c, u', e, k1, k2⟩ := F.cel j y w h1 h2 h3
      refine hGOAL ?_
      clear hGOAL GOAL
      refine ⟨c, u', e, ?_, k2.step st⟩
      refine hide fun GOAL hGOAL => ?_
      obtain ⟨oc, hoc, hdc⟩ := k1
      refine hGOAL ?_
      clear hGOAL GOAL
      exact ⟨oc, kk c oc (F.cells y c e).2.2 hoc, hdc⟩
  · refine hide fun GOAL hGOAL => ?_
    obtain ⟨⟨o, oc, hoc, hdc⟩, k2, k3⟩ := F.cells y c hy
    refine hGOAL ?_
    clear hGOAL GOAL
    exact ⟨⟨o, oc, kk c oc k3 hoc, hdc⟩, k2, k3⟩

theorem FR.weak (F : FR W h io env vis r) (k : ∀ (j : Nat) (w : V), r'[j]? = some (some w) → r[j]? = some (some w)) (hl : r'.length = r.length) : FR W h io env vis r' := by
  refine hide fun GOAL hGOAL => ?_
  obtain ⟨mp, hn, hl'⟩ := F.loc
  refine hGOAL ?_
  clear hGOAL GOAL
  exact ⟨F.kind, F.glob, F.blt, F.nofoot, F.fresh, ⟨mp, hn, fun i x v h1 h2 h3 => hl' i x v h1 (k i v h2) h3⟩, fun i x v h1 h2 h3 => F.cel i x v h1 (k i v h2) h3, F.cells, F.celex, F.apart, F.inj, hl.trans F.len⟩

/-! ### the tests of a comprehension -/
noncomputable def tests (ifs : List Expr) (env : Env) (b : Bool) : Sem Bool := forIn ifs b fun c r => if r = true then do let ok ← isTrue c env (eval c env); Pure.pure (ForInStep.yield ok) else Pure.pure (ForInStep.yield r)
theorem tests_false (ifs : List Expr) : tests ifs env false = Pure.pure false := by
  induction ifs with
  | nil => rfl
  | cons c cs ih => unfold tests; rw [List.forIn_cons]; exact ih
theorem if_nil : SiB W A fs env vis (tests [] env true) (fun _ => ret true) := fun _ _ _ _ Z => .pure (u := true) Z.H rfl
theorem if_cons {c : Expr} {cs : List Expr} {ct cts : Lo → Mn Bool} (hc : SiB W A fs env vis (isTrue c env (eval c env)) ct) (hs : SiB W A fs env vis (tests cs env true) cts) :
    SiB W A fs env vis (tests (c :: cs) env true) (fun r => bnd (ct r) fun b => if b then cts r else ret false) := by
  intro s io m r Z hne
  unfold tests
  rw [List.forIn_cons]
  refine wpAny_bind ?_
  simp only [if_true]
  refine wpAny_bind (wpAny_mono (hc s io m r Z (Res.bind_ne hne)) (fun b s₁ q => wpAny_pure ?_) fun _ _ q => q.bind .refl (.refl _))
  refine hide fun GOAL hGOAL => ?_
  obtain ⟨b', m₁, io₁, e1, st, H₁, rfl, sm⟩ := q
  refine hGOAL ?_
  clear hGOAL GOAL
  have ee : bnd (ct r) (fun b => if b then cts r else ret false) m = (if b' then cts r else ret false) m₁ := by show (ct r m).bind _ = _; rw [e1]; rfl
  dsimp only at hne ⊢
  rw [ee] at hne ⊢
  cases b' with
  | false =>
    show wpAny _ _ (tests cs env false) _ _ _
    rw [tests_false]
    exact wpAny_pure ⟨false, m₁, io₁, rfl, st, H₁, rfl, sm⟩
  | true => exact wpAny_mono (hs s₁ io₁ m₁ r (Z.step H₁ st) hne) (fun _ _ z => z.mono st sm) fun _ _ z => z.mono st sm

theorem relabel_free {env : Env} : ∀ {names : List (Str × NameKind)} {x : Str}, names.lookup x = some .free →
    (names.map fun (n, k) => if (k == NameKind.free && env.scope.kind == .function && env.kindOf n == some .cell) then (n, NameKind.cell) else (n, k)).lookup x = some .cell ∨ (names.map fun (n, k) => if (k == NameKind.free && env.scope.kind == .function && env.kindOf n == some .cell) then (n, NameKind.cell) else (n, k)).lookup x = some .free
  | [], _, h => by simp at h
  | (n, k) :: r, x, h => by
    have ih := @relabel_free env r x
    simp only [List.map_cons]
    cases hx : x == n with
    | true =>
      simp only [List.lookup_cons, hx] at h
      cases h
      by_cases hc : (NameKind.free == NameKind.free && env.scope.kind == .function && env.kindOf n == some .cell) = true
      · rw [if_pos hc]; left; simp [List.lookup_cons, hx]
      · rw [if_neg hc]; right; simp [List.lookup_cons, hx]
    | false =>
      simp only [List.lookup_cons, hx] at h
      by_cases hc : (k == NameKind.free && env.scope.kind == .function && env.kindOf n == some .cell) = true
      · rw [if_pos hc]; simp only [List.lookup_cons, hx]; exact ih h
      · rw [if_neg hc]; simp only [List.lookup_cons, hx]; exact ih h

/-- what a comprehension's scope must be -/
structure CompOk (scope : Scope) (env : Env) (vis vis' : List (Option Str)) (nl : Nat) : Prop where
  kind : scope.kind = .function
  names : ∀ x ∈ scope.names, x.2 = .local → scope.names.lookup x.1 = some .local
  cell : ∀ x ∈ scope.names, x.2 ≠ .cell
  cap : ∀ x ∈ scope.names, x.2 = .free → ∃ i : Nat, vis[i]? = some (some x.1) ∧ (env.kindOf x.1 = some .cell ∨ env.kindOf x.1 = some .free)
  see : ∀ (i : Nat) (x : Str), vis'[i]? = some (some x) → (vis.length ≤ i ∧ scope.names.lookup x = some .local) ∨ (vis[i]? = some (some x) ∧ scope.names.lookup x = some .free)
  inj : ∀ (i j : Nat) (x : Str), vis'[i]? = some (some x) → vis'[j]? = some (some x) → i = j
  len : vis'.length = vis.length + nl

theorem comp_enter {scope : Scope} {vis' : List (Option Str)} {nl : Nat} {cl : List (Str × Addr)} {C : Addr} (ck : CompOk scope env vis vis' nl) (H : HR W h io m) (F : FR W h io env vis r) (g2 : ∀ x c, cl.lookup x = some c → env.cells.lookup x = some c) (g3 : ∀ x, (x, NameKind.free) ∈ scope.names → ∃ c, cl.lookup x = some c)
    (hk : ∀ b o, h.get? b = some o → h'.get? b = some o) (hC : h.get? C = none) (hn : h'.Ns C (fun _ => none)) : FR W h' io (compEnvC scope cl C env) vis' (r ++ List.replicate nl none) := by
  have basN : W.base.get? C = none := by
    cases q : W.base.get? C with
    | none => rfl
    | some o => rw [H.keep _ _ q] at hC; cases hC
  have nf : ¬ Foot io C := fun f => by
    refine hide fun GOAL hGOAL => ?_
    obtain ⟨o, ho, _⟩ := H.foot f
    refine hGOAL ?_
    clear hGOAL GOAL
    rw [hC] at ho; cases ho
  have st : Step [] [] h io m h' io m := .of_keeps H hk
  have F' := F.step0 H st
  have old : ∀ (i : Nat) (x : Str) (v : V), vis'[i]? = some (some x) → (r ++ List.replicate nl none)[i]? = some (some v) → vis[i]? = some (some x) ∧ scope.names.lookup x = some .free ∧ r[i]? = some (some v) := by
    intro i x v h1 h2
    have hi : i < r.length := by
      rcases Nat.lt_or_ge i r.length with q | q
      · exact q
      · rw [List.getElem?_append_right q] at h2
        have := List.mem_of_getElem? h2
        simp at this
    rw [List.getElem?_append_left hi] at h2
    rcases ck.see i x h1 with ⟨q, _⟩ | ⟨q1, q2⟩
    · rw [F.len] at hi; omega
    · exact ⟨q1, q2, h2⟩
  have kd : ∀ x, scope.names.lookup x = some .free → (compEnvC scope cl C env).kindOf x = some .cell ∨ (compEnvC scope cl C env).kindOf x = some .free := fun x hx => relabel_free hx
  have capk : ∀ x, scope.names.lookup x = some .free → env.kindOf x = some .cell ∨ env.kindOf x = some .free := fun x hx => by
    refine hide fun GOAL hGOAL => ?_
    obtain ⟨i, _, q⟩ := ck.cap (x, .free) (mem_of_lookup hx) rfl
    refine hGOAL ?_
    clear hGOAL GOAL
    exact q
  refine ⟨ck.kind, F.glob, F.blt, nf, basN, ⟨_, hn, fun i x v h1 h2 h3 => ?_⟩, fun i x v h1 h2 h3 => ?_, fun x c hc => ?_, fun i x h1 h2 => ?_, fun x y c h1 h2 => F.apart x y c (g2 x c h1) (g2 y c h2), ck.inj, by simp [F.len, ck.len]⟩
  · refine hide fun GOAL hGOAL => ?_
    obtain ⟨q1, q2, q3⟩ := old i x v h1 h2
    refine hGOAL ?_
    clear hGOAL GOAL
    rcases kd x q2 with e | e <;> rw [e] at h3 <;> cases h3
  · refine hide fun GOAL hGOAL => ?_
    obtain ⟨q1, q2, q3⟩ := old i x v h1 h2
    refine hGOAL ?_
    clear hGOAL GOAL
    refine hide fun GOAL hGOAL => ?_
    obtain ⟨c, u, e, k1, k2⟩ := F'.cel i x v q1 q3 (capk x q2)
    refine hGOAL ?_
    clear hGOAL GOAL
    obtain ⟨c', hc'⟩ := g3 x (mem_of_lookup q2)
    have := g2 x c' hc'
    rw [e] at this; cases this
    exact ⟨c, u, hc', k1, k2⟩
  · refine hide fun GOAL hGOAL => ?_
    obtain ⟨k1, k2, k3⟩ := F'.cells x c (g2 x c hc)
    refine hGOAL ?_
    clear hGOAL GOAL
    refine ⟨k1, k2, fun e => ?_⟩
    refine hide fun GOAL hGOAL => ?_
    obtain ⟨⟨_, o, ho, _⟩, _⟩ := F.cells x c (g2 x c hc)
    refine hGOAL ?_
    clear hGOAL GOAL
    rw [e] at ho; rw [show (compEnvC scope cl C env).locals = C from rfl, hC] at ho; cases ho
  · rcases ck.see i x h1 with ⟨_, q⟩ | ⟨q1, q2⟩
    · have : (compEnvC scope cl C env).kindOf x = some .local := lookup_relabel_local q
      rcases h2 with e | e <;> rw [this] at e <;> cases e
    · exact g3 x (mem_of_lookup q2)

theorem compD_ok {g : Gd} {step : V → Mn (Option V)} : ∀ {vs : List V} {m : MH}, compD g step vs m ≠ .bad → ∃ l m', compD g step vs m = .ok l m' := by
  intro vs
  induction vs with
  | nil =>
    intro m h
    simp only [compD] at h ⊢
    split at h
    · rename_i q; exact ⟨[], m, by simp [q]⟩
    · exact absurd rfl h
  | cons v vs ih =>
    intro m h
    simp only [compD] at h ⊢
    split at h
    · rename_i q
      simp only [q, if_true]
      cases e : step v m with
      | bad => rw [e] at h; exact absurd rfl h
      | exc c m' => rw [e] at h; exact absurd rfl h
      | ok o m' =>
        rw [e] at h
        have h' : (compD g step vs m').bind (fun r => ret (consO o r)) ≠ .bad := h
        refine hide fun GOAL hGOAL => ?_
        obtain ⟨l, m'', e'⟩ := ih (Res.bind_ne h')
        refine hGOAL ?_
        clear hGOAL GOAL
        refine ⟨consO o l, m'', ?_⟩
        show (compD g step vs m').bind (fun r => ret (consO o r)) = _
        rw [e']; rfl
    · exact absurd rfl h
theorem compD_cons {g : Gd} {step : V → Mn (Option V)} {v : V} {vs : List V} {L : List V} {m mL : MH} (h : compD g step (v :: vs) m = .ok L mL) : g.stays m = true ∧ ∃ o m' L', step v m = .ok o m' ∧ compD g step vs m' = .ok L' mL ∧ L = consO o L' := by
  simp only [compD] at h
  split at h
  · rename_i q
    refine ⟨q, ?_⟩
    cases e : step v m with
    | bad => rw [e] at h; cases h
    | exc c m' => rw [e] at h; cases h
    | ok o m' =>
      rw [e] at h
      have h' : (compD g step vs m').bind (fun r => ret (consO o r)) = .ok L mL := h
      cases e2 : compD g step vs m' with
      | bad => rw [e2] at h'; cases h'
      | exc c m'' => rw [e2] at h'; cases h'
      | ok l m'' =>
        rw [e2] at h'
        cases h'
        exact ⟨o, m', l, rfl, e2, rfl⟩
  · cases h
theorem compD_stays {g : Gd} {step : V → Mn (Option V)} {vs : List V} {L : List V} {m mL : MH} (h : compD g step vs m = .ok L mL) : g.stays m = true := by
  cases q : g.stays m with
  | true => rfl
  | false => cases vs <;> simp [compD, q] at h
end
end Mini

/-! Comprehensions, whole. -/
namespace Mini
open PySem PySem.W

section
variable {W : Wd} {K : Frag} {h h' h₀ : Heap} {fs : List Env} {env : Env} {vis : List (Option Str)} {s s' s₀ : Shared} {io io' io₀ : Io} {m m' m₀ : MH} {r r' : Lo} {fr fr' own own' : List Addr} {A : Around} {n : Nat} {pos p : Pos}

noncomputable def stepOf (j : Nat) (row : Lo) (cif : Lo → Mn Bool) (celt : Lo → Mn V) (v : V) : Mn (Option V) :=
  bnd (setT (.one j) v row) fun r' => bnd (cif r') fun b => if b then bnd (celt r') fun x => ret (some x) else ret none

theorem not_solid_list {us : Array Value} {c : Nat} : ¬ Solid (lstO us c) := by
  rintro (⟨e, _⟩ | ⟨_, _, _, e⟩)
  · simp at e
  · cases e

/-- between two turns of a comprehension -/
inductive CInv (W : Wd) (fs : List Env) (s₀ : Shared) (io₀ : Io) (m₀ : MH) (cenv : Env) (vis' : List (Option Str)) (row : Lo) (St : Nat → Heap → Io → Prop) (D : Addr) (g : Gd) (f : V → Mn (Option V)) (vs L : List V) (mL : MH) (k : Nat) (s' : Shared) : Prop
  | mk (i : Nat) (io' : Io) (m' : MH) (outs L' : List V) (us : Array Value) (c : Nat) : k = vs.length - i → i ≤ vs.length → Step [] (frs fs) s₀.heap io₀ m₀ s'.heap io' m' → HR W s'.heap io' m' → FR W s'.heap io' cenv vis' row → St i s'.heap io' → s'.heap.get? D = some (lstO us c) → VRs W s'.heap io' outs us.toList → ¬ Foot io' D → Same s₀ s' →
      compD g f (vs.drop i) m' = .ok L' mL → L = outs ++ L' → CInv W fs s₀ io₀ m₀ cenv vis' row St D g f vs L mL k s'
theorem comp_core {elt iter : Expr} {ifs : List Expr} {scope : Scope} {cpos px : Pos} {cenv : Env} {vis' : List (Option Str)} {row : Lo} {D I : Addr} {wr : List Addr} {g : Gd} {vs L : List V} {St : Nat → Heap → Io → Prop} {x : Str} {j c0 : Nat} {cif : Lo → Mn Bool} {celt : Lo → Mn V} {io₂ : Io} {m₂ mL : MH} {RR : Result → Shared → Prop}
    (H0 : HR W s₀.heap io₀ m₀) (G0 : FF W s₀.heap io₀ fs) (hw : Wk W A I wr g vs St) (hnew : ∀ b ∈ wr, s₀.heap.get? b = none) (hD0 : s₀.heap.get? D = none) (hC0 : s₀.heap.get? cenv.locals = none) (hDC : D ≠ cenv.locals) (hDw : D ∉ wr) (hCw : cenv.locals ∉ wr)
    (hv : vis'[j]? = some (some x)) (hk : cenv.kindOf x = some .local) (hrow : row[j]? = some none) (hcel : ∀ y c, cenv.cells.lookup y = some c → ∃ o, s₀.heap.get? c = some o)
    (hifs : SiB W A fs cenv vis' (tests ifs cenv true) cif) (helt : SiE W A fs cenv vis' (eval elt cenv) celt)
    (st₂ : Step [] (frs fs) s₀.heap io₀ m₀ s.heap io₂ m₂) (H₂ : HR W s.heap io₂ m₂) (F₂ : FR W s.heap io₂ cenv vis' row) (hst₂ : St 0 s.heap io₂) (hD₂ : s.heap.get? D = some (lstO #[] c0)) (nfD : ¬ Foot io₂ D) (sm₂ : Same s₀ s)
    (hL : compD g (stepOf j row cif celt) vs m₂ = .ok L mL) (hlen : L.length ≤ lid)
    (fin : ∀ s' io' us c, Step [] (frs fs) s₀.heap io₀ m₀ s'.heap io' mL → HR W s'.heap io' mL → s'.heap.get? D = some (lstO us c) → VRs W s'.heap io' L us.toList → ¬ Foot io' D → (∃ mC, s'.heap.Ns cenv.locals mC) ∧ ¬ Foot io' cenv.locals → Same s₀ s' → RR (.ok .next) s') :
    codeAny (model W.prog W.w) A (.compStart (.ListComp elt [⟨.Name x px, iter, ifs, 0⟩] scope cpos) 0 (.ref I) (.ref D) cenv) RR s := by
  have hFr : ∀ b ∈ frs fs, ∃ o, s₀.heap.get? b = some o := fun b hb => by
    refine hide fun GOAL hGOAL => ?_
    obtain ⟨e, he, hf⟩ := List.mem_filterMap.mp hb
    refine hGOAL ?_
    clear hGOAL GOAL
    refine hide fun GOAL hGOAL => ?_
    obtain ⟨_, L, o, _, _, h1, _, _, h4, _⟩ := G0 e he
    refine hGOAL ?_
    clear hGOAL GOAL
    rw [h1] at hf; cases hf; exact ⟨o, h4⟩
  have frN : ∀ b, s₀.heap.get? b = none → b ∉ frs fs := fun b e q => by obtain ⟨o, ho⟩ := hFr b q; rw [e] at ho; cases ho
  have hbase : ∀ b o, W.base.get? b = some o → s₀.heap.get? b = some o := H0.keep
  have basD : W.base.get? D = none := by
    cases q : W.base.get? D with
    | none => rfl
    | some o => rw [hbase _ _ q] at hD0; cases hD0
  have celN : ∀ y c, cenv.cells.lookup y = some c → ∀ b, s₀.heap.get? b = none → c ≠ b := fun y c hy b hb e => by
    obtain ⟨o, ho⟩ := hcel y c hy
    rw [e, hb] at ho; cases ho
  have loop : codeAny (model W.prog W.w) A (.compLoop (.ListComp elt [⟨.Name x px, iter, ifs, 0⟩] scope cpos) 0 (.ref I) (.ref D) cenv) RR s := by
    refine codeAny_compLoop_tests (I := CInv W fs s₀ io₀ m₀ cenv vis' row St D g (stepOf j row cif celt) vs L mL) (fun k s' hI => ?_) vs.length ⟨0, io₂, m₂, [], L, #[], c0, by simp, Nat.zero_le _, st₂, H₂, F₂, hst₂, hD₂, .nil, nfD, sm₂, by simpa using hL, by simp⟩
    refine hide fun GOAL hGOAL => ?_
    obtain ⟨i, io', m', outs, L', us, c, hk', hi, st, H, F, hst, hD, hus, nf, sm, he, hLe⟩ := hI
    refine hGOAL ?_
    clear hGOAL GOAL
    have hg := compD_stays he
    have sft := hw.soft hst
    by_cases hlt : i < vs.length
    · have hvi : vs[i]? = some vs[i] := List.getElem?_eq_getElem hlt
      rw [List.drop_eq_getElem_cons hlt] at he
      refine hide fun GOAL hGOAL => ?_
      obtain ⟨_, o, m₅, L₅, es, ec, eL⟩ := compD_cons he
      refine hGOAL ?_
      clear hGOAL GOAL
      refine hw.item hvi hst H hg fun u h₁ tk ku hst₁ kk => ?_
      have sd : Side W wr s₀.heap s'.heap io' h₁ := ⟨kk, hnew, fun b hb => (sft b hb).1, fun b hb => (sft b hb).2⟩
      have H1 := sd.hr H hbase
      have st1 := sd.step H st
      have F1 := F.sideN sd hCw fun y c hy q => celN y c hy c (hnew c q) rfl
      have hD1 : h₁.get? D = some (lstO us c) := kk _ _ hDw hD
      have hus1 := hus.sol sd.sol
      have ku1 := ku.sol sd.sol
      -- the target
      refine wpAny_assign_Name ?_
      refine wpAny_mono (storeL_sim (s := { s' with heap := h₁, toks := tk }) (A := A) (fs := fs) (own := [cenv.locals]) H1 F1 (.head _) hv hk ku1 (fun q => nomatch q)) (fun _ s₂ q => ?_) fun e s₂ q => ?_
      rotate_left
      · obtain ⟨c', m'', io'', a, g', h1, _⟩ := q; cases h1
      refine hide fun GOAL hGOAL => ?_
      obtain ⟨r₂, mq, io₂', e2, st2, H2, F2, sm2⟩ := q
      refine hGOAL ?_
      clear hGOAL GOAL
      cases e2
      have st2' : Step [] (frs fs) s₀.heap io₀ m₀ s₂.heap io₂' m' := by
        refine ((st1.wk (own' := [cenv.locals]) fun _ q => nomatch q).trans st2).shrink H0 (fun _ _ e => e) (fun b hb => ?_) fun b hb => .inr hb
        rw [List.mem_singleton.mp hb]; exact .inl hC0
      have hD2 : s₂.heap.get? D = some (lstO us c) := st2.keep _ _ hD1 nf (by simpa using hDC) (frN _ hD0)
      have nf2 : ¬ Foot io₂' D := st2.nofoot hD1 nf
      have hus2 := hus1.step st2
      have hst2 : St (i + 1) s₂.heap io₂' := hw.stay hst₁ H1 H2 st2 (fun b hb => ⟨fun q => hCw (by rw [← List.mem_singleton.mp q]; exact hb), frN _ (hnew b hb)⟩) hg hg
      have Z2 : Sit W fs cenv vis' s₂ io₂' m' (row.set j (some vs[i])) := ⟨H2, F2, G0.step0 st2'⟩
      -- the tests
      have es' : (cif (row.set j (some vs[i])) m').bind (fun b => if b then bnd (celt (row.set j (some vs[i]))) fun x => ret (some x) else ret none) = .ok o m₅ := es
      have hne1 : cif (row.set j (some vs[i])) m' ≠ .bad := fun q => by rw [q] at es'; cases es'
      refine wpAny_mono (hifs s₂ io₂' m' _ Z2 hne1) (fun ok s₃ q => ?_) fun e s₃ q => ?_
      rotate_left
      · refine hide fun GOAL hGOAL => ?_
        obtain ⟨c', m'', io'', a, g', h1, _⟩ := q
        refine hGOAL ?_
        clear hGOAL GOAL
        rw [h1] at es'; cases es'
      refine hide fun GOAL hGOAL => ?_
      obtain ⟨ok', m₃, io₃, e3, st3, H3, rfl, sm3⟩ := q
      refine hGOAL ?_
      clear hGOAL GOAL
      rw [e3] at es'
      have Z3 := Z2.step H3 st3
      have hD3 : s₃.heap.get? D = some (lstO us c) := st3.keep _ _ hD2 nf2 (fun q => nomatch q) (frN _ hD0)
      have wrN : ∀ b ∈ wr, b ∉ ([] : List Addr) ∧ b ∉ frs fs := fun b hb => ⟨(fun q => nomatch q), frN _ (hnew b hb)⟩
      have weak : ∀ {h : Heap} {io : Io}, FR W h io cenv vis' (row.set j (some vs[i])) → FR W h io cenv vis' row := fun F => F.weak (fun a w e => by
        by_cases q : j = a
        · subst q; rw [hrow] at e; cases e
        · rw [List.getElem?_set_ne q]; exact e) (by simp)
      cases ok' with
      | false =>
        simp only [Bool.false_eq_true, if_false]
        have es2 : (Res.ok none m₃ : Res (Option V)) = .ok o m₅ := es'
        cases es2
        refine ⟨vs.length - (i + 1), by omega, i + 1, io₃, m₅, outs, L₅, us, c, rfl, hlt, st2'.trans st3, H3, weak Z3.F, hw.stay hst2 H2 H3 st3 wrN hg (compD_stays ec), hD3, hus2.step st3, st3.nofoot hD2 nf2, (sm.trans (Same.trans ⟨rfl, rfl⟩ sm2)).trans sm3, ec, ?_⟩
        rw [hLe, eL]; rfl
      | true =>
        simp only [if_true]
        have es2 : (celt (row.set j (some vs[i])) m₃).bind (fun x => ret (some x)) = .ok o m₅ := es'
        have hne2 : celt (row.set j (some vs[i])) m₃ ≠ .bad := fun q => by rw [q] at es2; cases es2
        refine wpAny_mono (helt s₃ io₃ m₃ _ Z3 hne2) (fun y s₄ q => ?_) fun e s₄ q => ?_
        rotate_left
        · refine hide fun GOAL hGOAL => ?_
          obtain ⟨c', m'', io'', a, g', h1, _⟩ := q
          refine hGOAL ?_
          clear hGOAL GOAL
          rw [h1] at es2; cases es2
        refine hide fun GOAL hGOAL => ?_
        obtain ⟨y', m₄, io₄, e4, st4, H4, k4, sm4⟩ := q
        refine hGOAL ?_
        clear hGOAL GOAL
        rw [e4] at es2
        cases es2
        have nf3 := st3.nofoot hD2 nf2
        have hD4 : s₄.heap.get? D = some (lstO us c) := st4.keep _ _ hD3 nf3 (fun q => nomatch q) (frN _ hD0)
        have nf4 := st4.nofoot hD3 nf3
        have hus4 := (hus2.step st3).step st4
        have hst4 : St (i + 1) s₄.heap io₄ := hw.stay hst2 H2 H4 (st3.trans st4) wrN hg (compD_stays ec)
        have ol : us.size ≤ lid := by
          have e1 := hus.length
          have e2 : L.length = outs.length + L'.length := by rw [hLe, List.length_append]
          have : us.size = outs.length := by simpa using e1
          omega
        refine wpAny_list_append_plain ⟨c, hD4⟩ (fun h₅ ⟨c5, hD5⟩ hs5 => ?_) (sizeLine_lid ol)
        have kk5 : ∀ b o, b ≠ D → s₄.heap.get? b = some o → h₅.get? b = some o := fun b o q e => (hs5.2 b q).trans e
        have lv5 : ∀ o, s₄.heap.get? D = some o → ¬ Solid o ∧ ∃ o', h₅.get? D = some o' := fun o ho => by
          rw [hD4] at ho; cases ho; exact ⟨not_solid_list, _, hD5⟩
        have st5 : Step [D] (frs fs) s₄.heap io₄ m₅ h₅ io₄ m₅ := step_own H4 (L := D) (.head _) kk5 lv5 nf4
        have H5 : HR W h₅ io₄ m₅ := H4.ofOwn (own := [D]) (L := D) (.head _) kk5 lv5 nf4 basD
        have st5' : Step [] (frs fs) s₀.heap io₀ m₀ h₅ io₄ m₅ := by
          refine ((((st2'.trans st3).trans st4).wk (own' := [D]) fun _ q => nomatch q).trans st5).shrink H0 (fun _ _ e => e) (fun b hb => ?_) fun b hb => .inr hb
          rw [List.mem_singleton.mp hb]; exact .inl hD0
        have F5 : FR W h₅ io₄ cenv vis' row := (weak (Z3.F.step0 H3 st4)).step H4 st5 (by simpa using Ne.symm hDC) fun y c hy => by simpa using celN y c hy D hD0
        refine ⟨vs.length - (i + 1), by omega, i + 1, io₄, m₅, outs ++ [y'], L₅, us.push y, c5, rfl, hlt, st5', H5, F5, hw.stay hst4 H4 H5 st5 (fun b hb => ⟨fun q => hDw (by rw [← List.mem_singleton.mp q]; exact hb), frN _ (hnew b hb)⟩) (compD_stays ec) (compD_stays ec), hD5, ?_, nf4, ((sm.trans (Same.trans ⟨rfl, rfl⟩ sm2)).trans sm3).trans (sm4.trans ⟨rfl, rfl⟩), ec, ?_⟩
        · rw [Array.toList_push]; exact (hus4.step st5).snoc (VR.step st5 k4)
        · rw [hLe, eL]; simp [consO]
    · have hi' : i = vs.length := by omega
      subst hi'
      refine hw.done hst H hg fun h₁ tk kk => ?_
      have sd : Side W wr s₀.heap s'.heap io' h₁ := ⟨kk, hnew, fun b hb => (sft b hb).1, fun b hb => (sft b hb).2⟩
      rw [List.drop_length] at he
      simp only [compD, hg, if_true] at he
      cases he
      rw [List.append_nil] at hLe
      subst hLe
      have F1 := F.sideN sd hCw fun y c hy q => celN y c hy c (hnew c q) rfl
      refine hide fun GOAL hGOAL => ?_
      obtain ⟨mC, hn, _⟩ := F1.loc
      refine hGOAL ?_
      clear hGOAL GOAL
      exact fin { s' with heap := h₁, toks := tk } io' us c (sd.step H st) (sd.hr H hbase) (kk _ _ hDw hD) (hus.sol sd.sol) nf ⟨⟨mC, hn⟩, F1.nofoot⟩ (sm.trans ⟨rfl, rfl⟩)
  exact codeAny_compStart_list loop (hw.self hst₂ loop)
end
end Mini

/-! Comprehensions as expressions and as values of names. -/
namespace Mini
open PySem PySem.W

section
variable {W : Wd} {K : Frag} {h h' h₀ : Heap} {fs : List Env} {env : Env} {vis : List (Option Str)} {s s' s₀ : Shared} {io io' io₀ : Io} {m m' m₀ : MH} {r r' : Lo} {fr fr' own own' : List Addr} {A : Around} {n : Nat} {pos p : Pos}

theorem VRs.ext (x : ∀ (n : Nat) (p : Addr × Addr), io[n]? = some p → io'[n]? = some p) {v : List V} {u : List Value} (k : VRs W h io v u) : VRs W h io' v u := k.mono (fun _ _ e _ => e) x
theorem ERs.ext (x : ∀ (n : Nat) (p : Addr × Addr), io[n]? = some p → io'[n]? = some p) {kvs : List (Ky × V)} {es : List DictEntry} (e : ERs W h io kvs es) : ERs W h io' kvs es := e.mono (fun _ _ e _ => e) x
theorem FEs.ext (x : ∀ (n : Nat) (p : Addr × Addr), io[n]? = some p → io'[n]? = some p) {fs : List (Nat × V)} {mA : Str → Option Value} (e : FEs W h io fs mA) : FEs W h io' fs mA := e.mono (fun _ _ e _ => e) x
theorem OR.ext (x : ∀ (n : Nat) (p : Addr × Addr), io[n]? = some p → io'[n]? = some p) {a d : Addr} {o : MObj} (k : OR W h io a d o) : OR W h io' a d o := by
  cases o with
  | list xs =>
    obtain ⟨e, vs, n, h1, h4, h5⟩ := k
    exact ⟨e, vs, n, h1, h4.ext x, h5⟩
  | dict kvs ep =>
    obtain ⟨e, o, es, n, h1, h2, h3, h4, h5⟩ := k
    exact ⟨e, o, es, n, h1, h2, h3, h4.ext x, h5⟩
  | inst c fs =>
    obtain ⟨e, mA, h1, h2, h3, h4⟩ := k
    exact ⟨e, mA, h1, h2, h3.ext x, h4⟩

/-- a list that was made beside is taken in -/
theorem adopt {D : Addr} {us : Array Value} {c : Nat} {L : List V} (st : Step own fr h₀ io₀ m₀ h io m) (H : HR W h io m) (hD : h.get? D = some (lstO us c)) (hus : VRs W h io L us.toList) (hl : L.length ≤ lid) (nf : ¬ Foot io D) (hD0 : h₀.get? D = none) (basD : W.base.get? D = none) :
    Step own fr h₀ io₀ m₀ h (io ++ [(D, D)]) (m ++ [.list L]) ∧ HR W h (io ++ [(D, D)]) (m ++ [.list L]) ∧ VR W h (io ++ [(D, D)]) (.ref m.length) (.ref D) := by
  have ex : ∀ (n : Nat) (p : Addr × Addr), io[n]? = some p → (io ++ [(D, D)])[n]? = some p := fun n p e => by
    rw [List.getElem?_append_left (List.getElem?_eq_some_iff.mp e).1]; exact e
  have last : (io ++ [(D, D)])[m.length]? = some (D, D) := by rw [← H.len]; simp
  refine ⟨⟨st.alive, st.solid, st.keep, st.slots, ?_, fun n p kvs e hi hm => ?_⟩, ⟨H.keep, by simp [H.len], fun n p o hi hm => ?_, fun b f => ?_, fun i j p q hij hi hj => ?_⟩, .ref last⟩
  · obtain ⟨new, e, hn⟩ := st.grow
    refine ⟨new ++ [(D, D)], by rw [e, List.append_assoc], fun p hp => ?_⟩
    rcases List.mem_append.mp hp with hp | hp
    · exact hn p hp
    · rw [List.mem_singleton.mp hp]; exact ⟨hD0, hD0⟩
  · obtain ⟨k', e', q1, q2, q3⟩ := st.dicts n p kvs e hi hm
    exact ⟨k', e', by rw [List.getElem?_append_left (List.getElem?_eq_some_iff.mp q1).1]; exact q1, q2, q3⟩
  · rcases Nat.lt_or_ge n m.length with hlt | hge
    · rw [List.getElem?_append_left hlt] at hm
      rw [List.getElem?_append_left (by rw [H.len]; exact hlt)] at hi
      exact (H.obj n p o hi hm).ext ex
    · have hn : n = m.length := by
        have := (List.getElem?_eq_some_iff.mp hm).1
        simp at this; omega
      subst hn
      rw [last] at hi
      cases hi
      rw [List.getElem?_append_right (Nat.le_refl _)] at hm
      simp at hm
      subst hm
      exact ⟨rfl, us, c, hD, hus.ext ex, hl⟩
  · rcases foot_append f with f | ⟨p, hp, e⟩
    · exact H.fresh b f
    · rw [List.mem_singleton.mp hp] at e
      rcases e with e | e <;> rw [e] <;> exact basD
  · have nfp : ∀ (k : Nat) (p : Addr × Addr), io[k]? = some p → p.1 ≠ D ∧ p.2 ≠ D := fun k p hk => ⟨fun e => nf ⟨p, List.mem_of_getElem? hk, .inl e.symm⟩, fun e => nf ⟨p, List.mem_of_getElem? hk, .inr e.symm⟩⟩
    have cut : ∀ (k : Nat) (p : Addr × Addr), (io ++ [(D, D)])[k]? = some p → io[k]? = some p ∨ (k = io.length ∧ p = (D, D)) := fun k p hk => by
      rcases Nat.lt_or_ge k io.length with hlt | hge
      · rw [List.getElem?_append_left hlt] at hk; exact .inl hk
      · have := (List.getElem?_eq_some_iff.mp hk).1
        simp at this
        have hn : k = io.length := by omega
        subst hn
        simp at hk
        exact .inr ⟨rfl, hk.symm⟩
    rcases cut i p hi with a | ⟨a, rfl⟩ <;> rcases cut j q hj with b | ⟨b, rfl⟩
    · exact H.apart i j p q hij a b
    · have := nfp i p a; exact ⟨this.1, this.1, this.2⟩
    · have := nfp j q b; exact ⟨Ne.symm this.1, Ne.symm this.2, Ne.symm this.2⟩
    · omega

/-- a comprehension, up to what is done with its list -/
theorem comp_sim {elt iter : Expr} {ifs : List Expr} {scope : Scope} {px fp : Pos} {vis' : List (Option Str)} {nl j : Nat} {x : Str} {csrc : Lo → Mn (List V × Gd)} {cif : Lo → Mn Bool} {celt : Lo → Mn V} {use : Option (Value → Sem Unit)} {Q : Value → Shared → Prop} {E : Value → Shared → Prop}
    (ck : CompOk scope env vis vis' nl) (hs : ∀ x, foldedSetIterable iter env x = Pure.pure x) (hv : vis'[j]? = some (some x)) (hj : vis.length ≤ j) (hsrc : SiSrc W A fs env vis iter csrc)
    (hifs : ∀ cl C, SiB W A fs (compEnvC scope cl C env) vis' (tests ifs (compEnvC scope cl C env) true) cif) (helt : ∀ cl C, SiE W A fs (compEnvC scope cl C env) vis' (eval elt (compEnvC scope cl C env)) celt)
    (Z : Sit W fs env vis s io m r) (hne : (csrc r m).bind (fun p => bnd (compD p.2 (stepOf j (r ++ List.replicate nl none) cif celt) p.1) fun l => if l.length ≤ lid then alloc (.list l) else bad) ≠ .bad)
    (hX : ∀ e s', XP W [] fs s io m (csrc r m) e s' → E e s')
    (fin : ∀ s' io' D C L us c mL p m₂, csrc r m = .ok p m₂ → compD p.2 (stepOf j (r ++ List.replicate nl none) cif celt) p.1 m₂ = .ok L mL → L.length ≤ lid → s.heap.get? D = none → s.heap.get? C = none → D ≠ C → Step [] (frs fs) s.heap io m s'.heap io' mL → HR W s'.heap io' mL → s'.heap.get? D = some (lstO us c) → VRs W s'.heap io' L us.toList → ¬ Foot io' D → (∃ mC, s'.heap.Ns C mC) ∧ ¬ Foot io' C → Same s s' → compPost (model W.prog W.w) A E use Q (.ref D) C (.ok .next) s') :
    wpAny (model W.prog W.w) A (comprehension (.ListComp elt [⟨.Name x px, iter, ifs, 0⟩] scope pos) scope env fp (newList []) false (eval iter env) use) Q E s := by
  obtain ⟨cl, g1, g2, g3⟩ := closure_of (scope := scope) (env := env) fun y k hy hk => by
    obtain ⟨i, q1, q2⟩ := ck.cap (y, k) hy hk
    exact Z.F.celex i y q1 q2
  refine wpAny_comprehension_free (g := ⟨.Name x px, iter, ifs, 0⟩) (gs := []) rfl hs g1 ck.kind ck.names ?_
  refine wpAny_mono (hsrc s io m r Z (Res.bind_ne hne)) (fun xv s₁ q => wpAny_mono q (fun it s₂ q => ?_) hX) hX
  obtain ⟨⟨vs, g⟩, m₂, io₂, e2, st₂, H₂, ⟨I, wr, St, rfl, hw, h0, hnew⟩, sm₂⟩ := q
  rw [e2] at hne
  have hne' : (compD g (stepOf j (r ++ List.replicate nl none) cif celt) vs m₂).bind (fun l => if l.length ≤ lid then alloc (.list l) else bad) ≠ .bad := hne
  obtain ⟨L, mL, eL⟩ := compD_ok (Res.bind_ne hne')
  have hlen : L.length ≤ lid := by
    rcases Nat.lt_or_ge lid L.length with q | q
    · refine absurd ?_ hne'
      rw [eL]
      show (if L.length ≤ lid then alloc (.list L) else bad) mL = _
      rw [if_neg (by omega)]; rfl
    · exact q
  have Z2 := Z.step H₂ st₂
  refine wpAny_newList ?_ (by decide)
  -- the list, then the frame
  have k3 : ∀ b o, s₂.heap.get? b = some o → (s₂.heap.push (lstO #[] 0)).get? b = some o := push_keeps _
  refine wpAny_newFunctionEnv ck.cell (fun y hy => nomatch hy) (fun h₄ hn₄ hs₄ => ?_) ck.kind
  have k4 : ∀ b o, (s₂.heap.push (lstO #[] 0)).get? b = some o → h₄.get? b = some o := fun b o e => by
    have hb : b ≠ (s₂.heap.push (lstO #[] 0)).objs.size := fun q => by rw [q, get_size] at e; cases e
    exact (hs₄.2 b hb).trans (push_keeps _ _ _ e)
  have sz : (s₂.heap.push (lstO #[] 0)).objs.size = s₂.heap.objs.size + 1 := Heap.size_push ..
  have kk : ∀ b o, s₂.heap.get? b = some o → h₄.get? b = some o := fun b o e => k4 b o (k3 b o e)
  have cD : s₂.heap.get? s₂.heap.objs.size = none := get_size _
  have cC3 : (s₂.heap.push (lstO #[] 0)).get? (s₂.heap.push (lstO #[] 0)).objs.size = none := get_size _
  have cC : s₂.heap.get? (s₂.heap.push (lstO #[] 0)).objs.size = none := by
    cases q : s₂.heap.get? (s₂.heap.push (lstO #[] 0)).objs.size with
    | none => rfl
    | some o => rw [k3 _ _ q] at cC3; cases cC3
  have hD0 : s.heap.get? s₂.heap.objs.size = none := dead_before st₂ cD
  have hC0 : s.heap.get? (s₂.heap.push (lstO #[] 0)).objs.size = none := dead_before st₂ cC
  have hDC : s₂.heap.objs.size ≠ (s₂.heap.push (lstO #[] 0)).objs.size := by rw [sz]; exact Nat.ne_of_lt (Nat.lt_succ_self _)
  have st4 : Step [] (frs fs) s₂.heap io₂ m₂ h₄ io₂ m₂ := .of_keeps H₂ kk
  have H4 : HR W h₄ io₂ m₂ := H₂.of_keeps kk
  have hn' : h₄.Ns (s₂.heap.push (lstO #[] 0)).objs.size (fun _ => none) := hn₄
  have F4 : FR W h₄ io₂ (compEnvC scope cl (s₂.heap.push (lstO #[] 0)).objs.size env) vis' (r ++ List.replicate nl none) := comp_enter ck H₂ Z2.F g2 g3 kk cC hn'
  have hjl : j < vis'.length := (List.getElem?_eq_some_iff.mp hv).1
  have lk : scope.names.lookup x = some .local := by
    rcases ck.see j x hv with ⟨_, q⟩ | ⟨q, _⟩
    · exact q
    · have := (List.getElem?_eq_some_iff.mp q).1; omega
  have wrAlive : ∀ b ∈ wr, ∀ z, s₂.heap.get? z = none → z ∉ wr ∨ True := fun _ _ _ _ => .inr trivial
  have kd : (compEnvC scope cl (s₂.heap.push (lstO #[] 0)).objs.size env).kindOf x = some .local := lookup_relabel_local lk
  have hrow : (r ++ List.replicate nl (none : Option V))[j]? = some none := by
    rw [List.getElem?_append_right (by rw [Z.F.len]; exact hj), List.getElem?_replicate]
    have := ck.len
    rw [if_pos (by rw [Z.F.len]; omega)]
  show codeAny (model W.prog W.w) A (.compStart _ 0 (.ref I) (.ref s₂.heap.objs.size) (compEnvC scope cl (s₂.heap.push (lstO #[] 0)).objs.size env)) _ _
  refine comp_core (s := { s₂ with heap := h₄, toks := s₂.toks + 0 }) (s₀ := s) (c0 := 0) Z.H Z.G hw hnew hD0 hC0 hDC ?_ ?_ hv kd hrow (fun y c hy => ?_) (hifs _ _) (helt _ _) (st₂.trans st4) H4 F4 (hw.stay h0 H₂ H4 st4 (fun b hb => ⟨(fun q => nomatch q), ?_⟩) (compD_stays eL) (compD_stays eL)) (k4 _ _ (Heap.get?_push_size _ rfl)) (fun f => ?_) (sm₂.trans ⟨rfl, rfl⟩) eL hlen
    fun s' io' us c a1 a2 a3 a4 a5 a6 a7 => fin s' io' _ _ L us c mL _ m₂ e2 eL hlen hD0 hC0 hDC a1 a2 a3 a4 a5 a6 a7
  · intro q; obtain ⟨_, hz⟩ := hw.alive h0 _ q; rw [cD] at hz; cases hz
  · intro q; obtain ⟨_, hz⟩ := hw.alive h0 _ q; rw [show (compEnvC scope cl (s₂.heap.push (lstO #[] 0)).objs.size env).locals = (s₂.heap.push (lstO #[] 0)).objs.size from rfl, cC] at hz; cases hz
  · obtain ⟨⟨_, o, ho, _⟩, _⟩ := Z.F.cells y c (g2 y c hy)
    exact ⟨o, ho⟩
  · intro q
    obtain ⟨e, he, hf⟩ := List.mem_filterMap.mp q
    obtain ⟨_, L', o, _, _, h1, _, _, h4, _⟩ := Z.G e he
    rw [h1] at hf; cases hf; rw [hnew b hb] at h4; cases h4
  · obtain ⟨o, ho, _⟩ := H₂.foot f
    rw [cD] at ho; cases ho

theorem side_ns {C : Addr} {mC : Str → Option Value} (hC0 : h₀.get? C = none) (hn : h.Ns C mC) (nf : ¬ Foot io C) (hs : Heap.SameBut C h h') : Side W [C] h₀ h io h' :=
  ⟨fun b o hb e => (hs.2 b (by simpa using hb)).trans e, fun b hb => by rw [List.mem_singleton.mp hb]; exact hC0, fun b hb => by rw [List.mem_singleton.mp hb]; exact nf, fun b hb o ho => by
    rw [List.mem_singleton.mp hb] at ho
    obtain ⟨o', es, ep, ho', hd, _⟩ := hn
    rw [ho'] at ho; cases ho; exact not_solid_dict hd⟩

theorem e_comp {elt iter : Expr} {ifs : List Expr} {scope : Scope} {px : Pos} {vis' : List (Option Str)} {nl j : Nat} {x : Str} {csrc : Lo → Mn (List V × Gd)} {cif : Lo → Mn Bool} {celt : Lo → Mn V}
    (ck : CompOk scope env vis vis' nl) (hs : ∀ x, foldedSetIterable iter env x = Pure.pure x) (hv : vis'[j]? = some (some x)) (hj : vis.length ≤ j) (hsrc : SiSrc W A fs env vis iter csrc)
    (hifs : ∀ cl C, SiB W A fs (compEnvC scope cl C env) vis' (tests ifs (compEnvC scope cl C env) true) cif) (helt : ∀ cl C, SiE W A fs (compEnvC scope cl C env) vis' (eval elt (compEnvC scope cl C env)) celt) :
    SiE W A fs env vis (eval (.ListComp elt [⟨.Name x px, iter, ifs, 0⟩] scope pos) env) (fun r => bnd (csrc r) fun p => bnd (compD p.2 (stepOf j (r ++ List.replicate nl none) cif celt) p.1) fun l => if l.length ≤ lid then alloc (.list l) else bad) := by
  intro s io m r Z hne
  dsimp only at hne ⊢
  refine comp_sim (Q := NP W [] (frs fs) s io m (VP W) _) (use := none) ck hs hv hj hsrc hifs helt Z hne (fun e s' q => q.bind .refl (.refl _)) ?_
  intro s' io' D C L us c mL p m₂ e1 e2 hl hD0 hC0 hDC st H hD hus nf hC sm
  obtain ⟨⟨mC, hn⟩, nfC⟩ := hC
  refine ⟨mC, hn, fun h' hs' => ?_⟩
  have sd : Side W [C] s.heap s'.heap io' h' := side_ns hC0 hn nfC hs'
  have st' := sd.step H st
  have H' := sd.hr H Z.H.keep
  have basD : W.base.get? D = none := by
    cases q : W.base.get? D with
    | none => rfl
    | some o => rw [Z.H.keep _ _ q] at hD0; cases hD0
  obtain ⟨a1, a2, a3⟩ := adopt st' H' (sd.keep _ _ (by simpa using hDC) hD) (hus.sol sd.sol) hl nf hD0 basD
  refine ⟨.ref mL.length, mL ++ [.list L], _, ?_, a1, a2, a3, sm.trans ⟨rfl, rfl⟩⟩
  show (csrc r m).bind _ = _
  rw [e1]
  show (compD p.2 _ p.1 m₂).bind _ = _
  rw [e2]
  show (if L.length ≤ lid then alloc (.list L) else bad) mL = _
  rw [if_pos hl]; rfl

noncomputable def compRes (csrc : Lo → Mn (List V × Gd)) (cif : Lo → Mn Bool) (celt : Lo → Mn V) (j nl i : Nat) (r : Lo) (m : MH) : Res (Fl × Lo) :=
  bnd (bnd (csrc r) fun p => bnd (compD p.2 (stepOf j (r ++ List.replicate nl none) cif celt) p.1) fun l => if l.length ≤ lid then alloc (.list l) else bad) (fun v => bnd (fun m => .ok (r.set i (some v)) m) fun r' => ret (Fl.next, r')) m
/-- a name takes a comprehension's list: the store goes ahead of the leave -/
theorem x_asg_comp {elt iter : Expr} {ifs : List Expr} {scope : Scope} {px py cpos : Pos} {vis' : List (Option Str)} {nl j i : Nat} {x y : Str} {csrc : Lo → Mn (List V × Gd)} {cif : Lo → Mn Bool} {celt : Lo → Mn V}
    (ck : CompOk scope env vis vis' nl) (hs : ∀ x, foldedSetIterable iter env x = Pure.pure x) (hv : vis'[j]? = some (some x)) (hj : vis.length ≤ j) (hsrc : SiSrc W A (env :: fs) env vis iter csrc)
    (hifs : ∀ cl C, SiB W A (env :: fs) (compEnvC scope cl C env) vis' (tests ifs (compEnvC scope cl C env) true) cif) (helt : ∀ cl C, SiE W A (env :: fs) (compEnvC scope cl C env) vis' (eval elt (compEnvC scope cl C env)) celt)
    (hsw : swapsWithSole [.Name y py] (.ListComp elt [⟨.Name x px, iter, ifs, 0⟩] scope cpos) pos.line env = Pure.pure true) (hyv : vis[i]? = some (some y)) (hyk : env.kindOf y = some .local) :
    SiS W A fs env vis (exec (.Assign [.Name y py] (.ListComp elt [⟨.Name x px, iter, ifs, 0⟩] scope cpos) pos) env) (fun r => bnd (bnd (csrc r) fun p => bnd (compD p.2 (stepOf j (r ++ List.replicate nl none) cif celt) p.1) fun l => if l.length ≤ lid then alloc (.list l) else bad) fun v => bnd (fun m => .ok (r.set i (some v)) m) fun r' => ret (.next, r')) := by
  intro s io m r Z
  show Si W (ownOf env) A (env :: fs) (SP W env vis) _ s io m (compRes csrc cif celt j nl i r m)
  intro hne
  rw [exec_Assign_arm]
  refine wpAny_bind (wpAny_standAt ?_)
  rw [hsw]
  refine wpAny_bind (wpAny_pure ?_)
  simp only [if_true]
  have hne0 : (csrc r m).bind (fun p => bnd (compD p.2 (stepOf j (r ++ List.replicate nl none) cif celt) p.1) fun l => if l.length ≤ lid then alloc (.list l) else bad) ≠ .bad := Res.bind_ne hne
  refine wpAny_bind ?_
  suffices main : wpAny (model W.prog W.w) A (comprehension (.ListComp elt [⟨.Name x px, iter, ifs, 0⟩] scope cpos) scope env (firstIterPos [⟨.Name x px, iter, ifs, 0⟩] cpos) (newList []) false (eval iter env) (some fun v => assignAll v ((assignEach [.Name y py] env).map (·.2)))) (fun _ s' => NP W (ownOf env) (frs (env :: fs)) s io m (SP W env vis) (compRes csrc cif celt j nl i r m) Flow.next s') (XP W (ownOf env) (env :: fs) s io m (compRes csrc cif celt j nl i r m)) s from
    wpAny_bind (wpAny_mono main (fun _ s' q => wpAny_pure (wpAny_pure q)) fun _ _ q => q)
  have lift : ∀ e s', XP W [] (env :: fs) s io m (csrc r m) e s' → XP W (ownOf env) (env :: fs) s io m (compRes csrc cif celt j nl i r m) e s' := fun e s' q => by
    obtain ⟨c', m', io', a, g, h1, h2, h3, h4, h5, h6⟩ := q
    refine ⟨c', m', io', a, g, ?_, h2, h3.wk (fun _ q => nomatch q), h4, h5, h6⟩
    simp only [compRes, bnd, h1, Res.bind]
  have go := comp_sim (W := W) (A := A) (fs := env :: fs) (env := env) (vis := vis) (s := s) (io := io) (m := m) (r := r) (pos := cpos) (fp := firstIterPos [⟨.Name x px, iter, ifs, 0⟩] cpos) (elt := elt) (iter := iter) (ifs := ifs) (scope := scope) (px := px) (vis' := vis') (nl := nl) (j := j) (x := x) (csrc := csrc) (cif := cif) (celt := celt)
    (use := some fun v => assignAll v ((assignEach [.Name y py] env).map (·.2))) (Q := fun _ s' => NP W (ownOf env) (frs (env :: fs)) s io m (SP W env vis) (compRes csrc cif celt j nl i r m) Flow.next s') (E := XP W (ownOf env) (env :: fs) s io m (compRes csrc cif celt j nl i r m)) ck hs hv hj hsrc hifs helt Z.sit hne0 lift
  refine go ?_
  clear go
  intro s' io' D C L us c mL p m₂ e1 e2 hl hD0 hC0 hDC st H hD hus nf hC sm
  obtain ⟨⟨mC, hn⟩, nfC⟩ := hC
  have eT : compRes csrc cif celt j nl i r m = .ok (.next, r.set i (some (.ref mL.length))) (mL ++ [.list L]) := by
    simp only [compRes, bnd, e1, Res.bind, e2, if_pos hl, alloc, ret]
  have basD : W.base.get? D = none := by
    cases q : W.base.get? D with
    | none => rfl
    | some o => rw [Z.H.keep _ _ q] at hD0; cases hD0
  obtain ⟨a1, a2, a3⟩ := adopt st H hD hus hl nf hD0 basD
  have nfC' : ¬ Foot (io' ++ [(D, D)]) C := fun f => by
    rcases foot_append f with f | ⟨q, hq, e⟩
    · exact nfC f
    · rw [List.mem_singleton.mp hq] at e
      rcases e with e | e <;> exact hDC e.symm
  have Z' : Stt W fs env vis s' (io' ++ [(D, D)]) (mL ++ [.list L]) r := ⟨a2, Z.F.step0 Z.H a1, Z.G.step0 a1, Z.fr, Z.dis⟩
  have hLo : ∃ o, s.heap.get? env.locals = some o := by obtain ⟨_, ⟨o, _, _, ho, _⟩, _⟩ := Z.F.loc; exact ⟨o, ho⟩
  have hCl : C ∉ ownOf env := fun q => by
    rcases List.mem_cons.mp q with e | q
    · obtain ⟨o, ho⟩ := hLo; rw [← e, hC0] at ho; cases ho
    · obtain ⟨⟨z, c'⟩, hm, hq⟩ := List.mem_filterMap.mp q
      obtain ⟨⟨_, o, ho, _⟩, _⟩ := Z.F.cells z C hq
      rw [hC0] at ho; cases ho
  have nfr : C ∉ frs (env :: fs) := fun q => by
    obtain ⟨e, he, hf⟩ := List.mem_filterMap.mp q
    obtain ⟨_, L', o, _, _, h1, _, _, h4, _⟩ := Z.sit.G e he
    rw [h1] at hf; cases hf; rw [hC0] at h4; cases h4
  have as := a_name (W := W) (fs := fs) (A := A) (pos := py) hyv (.inl hyk) s' _ _ r _ _ Z' a3 (fun q => nomatch q)
  have key : wpAny (model W.prog W.w) A (assign (.Name y py) env (.ref D)) (fun _ s'' => ∃ mC, s''.heap.Ns C mC ∧ ∀ h', Heap.SameBut C s''.heap h' → NP W (ownOf env) (frs (env :: fs)) s io m (SP W env vis) (compRes csrc cif celt j nl i r m) Flow.next { s'' with heap := h' }) (XP W (ownOf env) (env :: fs) s io m (compRes csrc cif celt j nl i r m)) s' := by
    refine wpAny_mono as (fun _ s'' q => ?_) fun e s'' q => ?_
    rotate_left
    · obtain ⟨c', m', io', a, g, h1, _⟩ := q; cases h1
    obtain ⟨r₂, m₃, io₃, e3, st3, H3, F3, sm3⟩ := q
    cases e3
    obtain ⟨oC, esC, epC, hoC, hdC, hrC⟩ := hn
    have hoC' := st3.keep _ _ hoC nfC' hCl nfr
    have hn3 : s''.heap.Ns C mC := ⟨oC, esC, epC, hoC', hdC, hrC⟩
    refine ⟨mC, hn3, fun h' hs' => ?_⟩
    have nfC3 := st3.nofoot hoC nfC'
    have sd : Side W [C] s.heap s''.heap io₃ h' := side_ns hC0 hn3 nfC3 hs'
    have stT := (a1.wk (own' := ownOf env) fun _ q => nomatch q).trans st3
    have F' : FR W h' io₃ env vis (r.set i (some (.ref mL.length))) := F3.side sd hLo fun z c hz => by obtain ⟨⟨_, o, ho, _⟩, _⟩ := Z.F.cells z c hz; exact ⟨o, ho⟩
    exact ⟨(.next, r.set i (some (.ref mL.length))), _, io₃, eT, sd.step H3 stT, sd.hr H3 Z.H.keep, ⟨.next, F'⟩, (sm.trans sm3).trans ⟨rfl, rfl⟩⟩
  exact key
end
end Mini

/-! Builtins. -/
namespace Mini
open PySem PySem.W

noncomputable def tyName : Ty → String
  | .int => "int"
  | .bool => "bool"
  | .str => "str"
  | .list => "list"
  | .tuple => "tuple"
  | .dict => "dict"
  | .cls _ => ""

section
variable {W : Wd} {K : Frag} {h h' h₀ : Heap} {fs : List Env} {env : Env} {vis : List (Option Str)} {s s' s₀ : Shared} {io io' io₀ : Io} {m m' m₀ : MH} {r r' : Lo} {fr fr' own own' : List Addr} {A : Around} {n : Nat} {pos p : Pos}

theorem isi_sim {S : Sig} (H : HR W s.heap io m) {t : Ty} (ht : ∀ c, t ≠ .cls c) {v : V} {u : Value} (k : VR W s.heap io v u) : Si W own A fs BV (call (.builtin "isinstance") [u, .type (tyName t)]) s io m (isiV S v t m) := by
  cases t with
  | int =>
    cases k with
    | none => exact fun _ => IsiPair.NoneType_int (np_bool  H)
    | bool b => exact fun _ => IsiPair.bool_int (np_bool (tk := s.toks) H)
    | int i t => exact fun _ => IsiPair.int_int (np_bool (tk := s.toks) H)
    | str x t hx => exact fun _ => IsiPair.str_int (np_bool  H)
    | tup ha hx => exact fun _ => IsiPair.tuple_int ha rfl (np_bool  H)
    | @ref n a d hi =>
      show Si W own A fs BV _ s io m (match m[n]? with | some (.list _) => .ok (Ty.int == Ty.list) m | some (.dict _ _) => .ok (Ty.int == Ty.dict) m | _ => .bad)
      split
      · rename_i xs hm
        refine hide fun GOAL hGOAL => ?_
        obtain ⟨_, us, c, h1, _⟩ := H.obj _ _ _ hi hm
        refine hGOAL ?_
        clear hGOAL GOAL
        exact fun _ => IsiPair.list_int h1 rfl (np_bool  H)
      · rename_i kvs e hm
        refine hide fun GOAL hGOAL => ?_
        obtain ⟨_, o, es, c, h1, h2, _⟩ := H.obj _ _ _ hi hm
        refine hGOAL ?_
        clear hGOAL GOAL
        exact fun _ => IsiPair.dict_int h1 h2.1 (np_bool  H)
      · exact .bad
    | fn k => exact .bad
    | exc => exact .bad
    | scr => exact .bad
  | bool =>
    cases k with
    | none => exact fun _ => IsiPair.NoneType_bool (np_bool  H)
    | bool b => exact fun _ => IsiPair.bool_bool (np_bool (tk := s.toks) H)
    | int i t => exact fun _ => IsiPair.int_bool (np_bool  H)
    | str x t hx => exact fun _ => IsiPair.str_bool (np_bool  H)
    | tup ha hx => exact fun _ => IsiPair.tuple_bool ha rfl (np_bool  H)
    | @ref n a d hi =>
      show Si W own A fs BV _ s io m (match m[n]? with | some (.list _) => .ok (Ty.bool == Ty.list) m | some (.dict _ _) => .ok (Ty.bool == Ty.dict) m | _ => .bad)
      split
      · rename_i xs hm
        refine hide fun GOAL hGOAL => ?_
        obtain ⟨_, us, c, h1, _⟩ := H.obj _ _ _ hi hm
        refine hGOAL ?_
        clear hGOAL GOAL
        exact fun _ => IsiPair.list_bool h1 rfl (np_bool  H)
      · rename_i kvs e hm
        refine hide fun GOAL hGOAL => ?_
        obtain ⟨_, o, es, c, h1, h2, _⟩ := H.obj _ _ _ hi hm
        refine hGOAL ?_
        clear hGOAL GOAL
        exact fun _ => IsiPair.dict_bool h1 h2.1 (np_bool  H)
      · exact .bad
    | fn k => exact .bad
    | exc => exact .bad
    | scr => exact .bad
  | str =>
    cases k with
    | none => exact fun _ => IsiPair.NoneType_str (np_bool  H)
    | bool b => exact fun _ => IsiPair.bool_str (np_bool  H)
    | int i t => exact fun _ => IsiPair.int_str (np_bool  H)
    | str x t hx => exact fun _ => IsiPair.str_str (np_bool (tk := s.toks) H)
    | tup ha hx => exact fun _ => IsiPair.tuple_str ha rfl (np_bool  H)
    | @ref n a d hi =>
      show Si W own A fs BV _ s io m (match m[n]? with | some (.list _) => .ok (Ty.str == Ty.list) m | some (.dict _ _) => .ok (Ty.str == Ty.dict) m | _ => .bad)
      split
      · rename_i xs hm
        refine hide fun GOAL hGOAL => ?_
        obtain ⟨_, us, c, h1, _⟩ := H.obj _ _ _ hi hm
        refine hGOAL ?_
        clear hGOAL GOAL
        exact fun _ => IsiPair.list_str h1 rfl (np_bool  H)
      · rename_i kvs e hm
        refine hide fun GOAL hGOAL => ?_
        obtain ⟨_, o, es, c, h1, h2, _⟩ := H.obj _ _ _ hi hm
        refine hGOAL ?_
        clear hGOAL GOAL
        exact fun _ => IsiPair.dict_str h1 h2.1 (np_bool  H)
      · exact .bad
    | fn k => exact .bad
    | exc => exact .bad
    | scr => exact .bad
  | list =>
    cases k with
    | none => exact fun _ => IsiPair.NoneType_list (np_bool  H)
    | bool b => exact fun _ => IsiPair.bool_list (np_bool  H)
    | int i t => exact fun _ => IsiPair.int_list (np_bool  H)
    | str x t hx => exact fun _ => IsiPair.str_list (np_bool  H)
    | tup ha hx => exact fun _ => IsiPair.tuple_list ha rfl (np_bool  H)
    | @ref n a d hi =>
      show Si W own A fs BV _ s io m (match m[n]? with | some (.list _) => .ok (Ty.list == Ty.list) m | some (.dict _ _) => .ok (Ty.list == Ty.dict) m | _ => .bad)
      split
      · rename_i xs hm
        refine hide fun GOAL hGOAL => ?_
        obtain ⟨_, us, c, h1, _⟩ := H.obj _ _ _ hi hm
        refine hGOAL ?_
        clear hGOAL GOAL
        exact fun _ => IsiPair.list_list h1 rfl (np_bool (tk := s.toks) H)
      · rename_i kvs e hm
        refine hide fun GOAL hGOAL => ?_
        obtain ⟨_, o, es, c, h1, h2, _⟩ := H.obj _ _ _ hi hm
        refine hGOAL ?_
        clear hGOAL GOAL
        exact fun _ => IsiPair.dict_list h1 h2.1 (np_bool  H)
      · exact .bad
    | fn k => exact .bad
    | exc => exact .bad
    | scr => exact .bad
  | tuple =>
    cases k with
    | none => exact fun _ => IsiPair.NoneType_tuple (np_bool  H)
    | bool b => exact fun _ => IsiPair.bool_tuple (np_bool  H)
    | int i t => exact fun _ => IsiPair.int_tuple (np_bool  H)
    | str x t hx => exact fun _ => IsiPair.str_tuple (np_bool  H)
    | tup ha hx => exact fun _ => IsiPair.tuple_tuple ha rfl (np_bool (tk := s.toks) H)
    | @ref n a d hi =>
      show Si W own A fs BV _ s io m (match m[n]? with | some (.list _) => .ok (Ty.tuple == Ty.list) m | some (.dict _ _) => .ok (Ty.tuple == Ty.dict) m | _ => .bad)
      split
      · rename_i xs hm
        refine hide fun GOAL hGOAL => ?_
        obtain ⟨_, us, c, h1, _⟩ := H.obj _ _ _ hi hm
        refine hGOAL ?_
        clear hGOAL GOAL
        exact fun _ => IsiPair.list_tuple h1 rfl (np_bool  H)
      · rename_i kvs e hm
        refine hide fun GOAL hGOAL => ?_
        obtain ⟨_, o, es, c, h1, h2, _⟩ := H.obj _ _ _ hi hm
        refine hGOAL ?_
        clear hGOAL GOAL
        exact fun _ => IsiPair.dict_tuple h1 h2.1 (np_bool  H)
      · exact .bad
    | fn k => exact .bad
    | exc => exact .bad
    | scr => exact .bad
  | dict =>
    cases k with
    | none => exact fun _ => IsiPair.NoneType_dict (np_bool  H)
    | bool b => exact fun _ => IsiPair.bool_dict (np_bool  H)
    | int i t => exact fun _ => IsiPair.int_dict (np_bool  H)
    | str x t hx => exact fun _ => IsiPair.str_dict (np_bool  H)
    | tup ha hx => exact fun _ => IsiPair.tuple_dict ha rfl (np_bool  H)
    | @ref n a d hi =>
      show Si W own A fs BV _ s io m (match m[n]? with | some (.list _) => .ok (Ty.dict == Ty.list) m | some (.dict _ _) => .ok (Ty.dict == Ty.dict) m | _ => .bad)
      split
      · rename_i xs hm
        refine hide fun GOAL hGOAL => ?_
        obtain ⟨_, us, c, h1, _⟩ := H.obj _ _ _ hi hm
        refine hGOAL ?_
        clear hGOAL GOAL
        exact fun _ => IsiPair.list_dict h1 rfl (np_bool  H)
      · rename_i kvs e hm
        refine hide fun GOAL hGOAL => ?_
        obtain ⟨_, o, es, c, h1, h2, _⟩ := H.obj _ _ _ hi hm
        refine hGOAL ?_
        clear hGOAL GOAL
        exact fun _ => IsiPair.dict_dict h1 h2.1 (np_bool (tk := s.toks) H)
      · exact .bad
    | fn k => exact .bad
    | exc => exact .bad
    | scr => exact .bad
  | cls c => exact absurd rfl (ht c)
end
end Mini

/-! Texts: split, and numbers written as texts. -/
namespace Mini
open PySem PySem.W PyProof.Rows
open Builtin Builtin.Str

noncomputable def joinC (c : Nat) : List (List Nat) → List Nat
  | [] => []
  | p :: r => match r with
    | [] => p
    | _ :: _ => p ++ c :: joinC c r
theorem splitC_ne (c : Nat) : ∀ l : List Nat, splitC c l ≠ []
  | [] => fun h => by cases h
  | x :: l => by
    show (if x = c then [] :: splitC c l else match splitC c l with | [] => [[x]] | p :: ps => (x :: p) :: ps) ≠ []
    split
    · exact fun h => by cases h
    · cases splitC c l <;> exact fun h => by cases h
theorem splitC_free {c : Nat} : ∀ {p : List Nat} (r : List Nat), c ∉ p → splitC c (p ++ c :: r) = p :: splitC c r
  | [], r, _ => if_pos rfl
  | x :: p, r, h => by
    have hx : ¬ x = c := fun e => h (e ▸ .head _)
    show (if x = c then [] :: splitC c (p ++ c :: r) else match splitC c (p ++ c :: r) with | [] => [[x]] | p :: ps => (x :: p) :: ps) = _
    rw [if_neg hx, splitC_free r fun q => h (.tail _ q)]
theorem splitC_one {c : Nat} : ∀ {p : List Nat}, c ∉ p → splitC c p = [p]
  | [], _ => rfl
  | x :: p, h => by
    have hx : ¬ x = c := fun e => h (e ▸ .head _)
    show (if x = c then [] :: splitC c p else match splitC c p with | [] => [[x]] | p :: ps => (x :: p) :: ps) = _
    rw [if_neg hx, splitC_one fun q => h (.tail _ q)]
theorem splitC_join {c : Nat} : ∀ {ps : List (List Nat)}, ps ≠ [] → (∀ p ∈ ps, c ∉ p) → splitC c (joinC c ps) = ps
  | [], h, _ => absurd rfl h
  | [p], _, h => splitC_one (h p (.head _))
  | p :: q :: r, _, h => by
    show splitC c (p ++ c :: joinC c (q :: r)) = _
    rw [splitC_free _ (h p (.head _)), splitC_join (fun e => by cases e) fun x hx => h x (.tail _ hx)]
theorem join_cps (c : Nat) : ∀ l : List Str, (Str.join ⟨#[c]⟩ l).cps.toList = joinC c (l.map (·.cps.toList))
  | [] => rfl
  | [a] => rfl
  | a :: b :: r => by
    show (a ++ ⟨#[c]⟩ ++ Str.join ⟨#[c]⟩ (b :: r)).cps.toList = a.cps.toList ++ c :: joinC c ((b :: r).map (·.cps.toList))
    rw [← join_cps c (b :: r)]
    show (a.cps ++ #[c] ++ (Str.join ⟨#[c]⟩ (b :: r)).cps).toList = _
    simp
theorem split_eq (x : Str) (c : Nat) : (splitC c x.cps.toList).map (fun l => (⟨l.toArray⟩ : Str)) = Txt.split x ⟨#[c]⟩ := by
  have h1 := congrArg (fun z : Str => z.cps.toList) (StrLaws.join_split x ⟨#[c]⟩)
  rw [join_cps] at h1
  have h2 : splitC c x.cps.toList = (Txt.split x ⟨#[c]⟩).map (·.cps.toList) := by
    rw [← h1]
    refine splitC_join (fun e => ?_) fun p hp => ?_
    · have := split_pos x ⟨#[c]⟩
      rw [List.map_eq_nil_iff.mp e] at this
      exact absurd this (by decide)
    · obtain ⟨z, hz, rfl⟩ := List.mem_map.mp hp
      exact StrLaws.split_free x c z hz
  rw [h2, List.map_map]
  have : ((fun l : List Nat => (⟨l.toArray⟩ : Str)) ∘ fun z : Str => z.cps.toList) = _root_.id := by funext z; rfl
  rw [this, List.map_id]
section
variable {W : Wd} {K : Frag} {fs : List Env} {s : Shared} {io : Io} {m : MH} {A : Around}
theorem split_call {x y : Str} {t u : Tok} {Q : Value → Shared → Prop} {E : Value → Shared → Prop} (hy : (y.length == 0) = false)
    (hq : ∀ (l : List (Str × Tok)) (tk : Nat), l.map (·.1) = Txt.split x y → Q (.ref s.heap.objs.size) { s with heap := s.heap.push (lstO (strValues l).toArray 0), toks := tk })
    (hsz : x.length ≤ sizeLine) (hsz2 : (Txt.split x y).length ≤ sizeLine) :
    wpAny (model W.prog W.w) A (call (.builtin "str.split") [.str x t, .str y u]) Q E s := by
  cases h1 : (decide (x.length < y.length) || decide (strKind x < strKind y))
  · cases hf : (occurrences x y 0 x.length (x.length + 1)).isEmpty
    · refine call_meets F.slot_str_split (typeIs_str _ _ _) F.entry_str_split (F.args_str_split_2 _ _) (meets_str_split_sep x y t u h1 hy hf hsz (by rw [show Txt.split x y = _ from (if_neg (ne_true_of_eq_false h1)).trans (if_neg (ne_true_of_eq_false hf))] at hsz2; exact hsz2)) ?_
      have := hq (numbered s.toks (partsBetween x (occurrences x y 0 x.length (x.length + 1)) y.length)) (s.toks + (partsBetween x (occurrences x y 0 x.length (x.length + 1)) y.length).length) ((numbered_texts _ _).trans ((if_neg (ne_true_of_eq_false h1)).trans (if_neg (ne_true_of_eq_false hf))).symm)
      rw [← strsFrom_eq] at this
      exact this
    · exact call_meets F.slot_str_split (typeIs_str _ _ _) F.entry_str_split (F.args_str_split_2 _ _) (meets_str_split_not_found x y t u h1 hy hf)
        (hq [(x, t)] s.toks ((if_neg (ne_true_of_eq_false h1)).trans (if_pos hf)).symm)
  · exact call_meets F.slot_str_split (typeIs_str _ _ _) F.entry_str_split (F.args_str_split_2 _ _) (meets_str_split_cannot_occur x y t u h1)
      (hq [(x, t)] s.toks (if_pos h1).symm)
theorem strOk_piece {x : Str} {c : Nat} (ok : PyData.strOk x = true) : ∀ p ∈ splitC c x.cps.toList, PyData.strOk ⟨p.toArray⟩ = true := by
  have key : ∀ (l : List Nat), (∀ a ∈ l, a < 0x110000) → ∀ p ∈ splitC c l, ∀ a ∈ p, a < 0x110000 := by
    intro l
    induction l with
    | nil => intro _ p hp a ha; rw [List.mem_singleton.mp hp] at ha; cases ha
    | cons x l ih =>
      intro h p hp a ha
      have ih := ih fun a ha => h a (.tail _ ha)
      have hp : p ∈ (if x = c then [] :: splitC c l else match splitC c l with | [] => [[x]] | p :: ps => (x :: p) :: ps) := hp
      split at hp
      · rcases List.mem_cons.mp hp with e | e
        · rw [e] at ha; cases ha
        · exact ih p e a ha
      · cases q : splitC c l with
        | nil => exact absurd q (splitC_ne c l)
        | cons p0 ps =>
          rw [q] at hp ih
          rcases List.mem_cons.mp hp with e | e
          · rw [e] at ha
            rcases List.mem_cons.mp ha with e | e
            · rw [e]; exact h x (.head _)
            · exact ih p0 (.head _) a e
          · exact ih p (.tail _ e) a ha
  intro p hp
  unfold PyData.strOk at *
  rw [List.all_toArray, List.all_eq_true]
  intro a ha
  exact decide_eq_true (key x.cps.toList (fun a ha => of_decide_eq_true (Array.all_eq_true_iff_forall_mem.mp ok a (Array.mem_toList_iff.mp ha))) p hp a ha)
theorem vrs_pieces {h : Heap} : ∀ {ps : List (List Nat)} {l : List (Str × Tok)}, l.map (·.1) = ps.map (fun p => (⟨p.toArray⟩ : Str)) → (∀ p ∈ ps, PyData.strOk ⟨p.toArray⟩ = true) → VRs W h io (ps.map fun p => V.str ⟨p.toArray⟩) (strValues l)
  | [], [], _, _ => .nil
  | [], _ :: _, e, _ => by cases e
  | _ :: _, [], e, _ => by cases e
  | p :: ps, (z, t) :: l, e, ok => by
    have e1 : z = ⟨p.toArray⟩ := (List.cons.inj e).1
    subst e1
    exact .cons (.str _ _ (ok p (.head _))) (vrs_pieces (List.cons.inj e).2 fun q hq => ok q (.tail _ hq))
theorem int_text {x : Str} {t : Tok} {Q : Value → Shared → Prop} {E : Value → Shared → Prop} (hd : x.cps.toList.all isDig = true) (hn : x.cps.toList.isEmpty = false) (hl : x.length ≤ 600) (h : Q (.int (digV x.cps.toList) s.toks) { s with toks := s.toks + 1 }) : wpAny (model W.prog W.w) A (call (.type "int") [.str x t]) Q E s := by
  refine KIN.call_text (PySem.intText_digits (fun c hc => ?_) (fun e => ?_) (Nat.le_trans hl (by decide))) (Nat.le_trans hl (by decide)) h
  · have := List.all_eq_true.mp hd c hc
    have := Bool.and_eq_true_iff.mp this
    exact ⟨of_decide_eq_true this.1, of_decide_eq_true this.2⟩
  · rw [e] at hn; cases hn
theorem str_ok_int (i : Int) : PyData.strOk (intText i) = true := by
  unfold intText
  rw [Str.ofString_eq_toList]
  unfold PyData.strOk
  rw [List.all_toArray, List.all_eq_true]
  intro a ha
  obtain ⟨c, _, rfl⟩ := List.mem_map.mp ha
  refine decide_eq_true ?_
  rcases c.valid with h | ⟨_, h⟩
  · exact Nat.lt_trans h (by decide)
  · exact h
theorem log_small {n : Nat} (h : n < 1000000) : n.log2 < 1920 := by
  by_cases z : n = 0
  · subst z; decide
  · exact Nat.lt_trans ((Nat.log2_lt z).mpr (Nat.lt_trans h (by decide : 1000000 < 2 ^ 20))) (by decide)
end
end Mini

/-! isinstance of an exception. -/
namespace Mini
open PySem PySem.W PyProof.Rows PySem.Calls PySem.Builtin PySem.Builtin.ObjectAttr PySem.Builtin.Getset_descriptor

/-- what the look at an exception's class needs of the file's class -/
noncomputable def excCls (K : Frag) (D : Addr) : Bool :=
  findIn K (.ref D) "__getattribute__" == some (some (.builtin "BaseException.__getattribute__")) && findIn K (.ref D) "__getattr__" == some none && findIn K (.ref D) "__class__" == some (some (.builtin "object.__class__")) && specialIn K (.builtin "object.__class__") "__get__" == some (some (.builtin "getset_descriptor.__get__")) && takesIn K (.builtin "object.__class__") == some true &&
  mroIn K D (.type "object") == some true && mroIn K D (.type "BaseException") == some true && (match K.lookup D with | some o => (match o.data with | .cls _ => true | _ => false) | none => false)

section
variable {prog : Program} {w : World} {A : Around} {E : Value → Shared → Prop} {h : Heap} {g : Array GenState} {d : Drawn} {t : Nat} {os : OsState} {a D : Addr} {K : Frag}

theorem exc_get {R : Result → Shared → Prop} (X : K.In h) (L0 : Looks (model prog w) h (typeOf (.ref a)) (.ref D)) (hm : mroIn K D (.type "object") = some true) (hq : R (.ok (.ret (.ref D))) ⟨h, g, d, t, os⟩) :
    codeAny (model prog w) A (.call (.builtin "getset_descriptor.__get__") ⟨[.builtin "object.__class__", .ref a, .ref D], []⟩) R ⟨h, g, d, t, os⟩ := by
  have L1 := looks_mroIn (M := model prog w) X hm
  refine codeAny_call_builtin KF.slot_gs.plain KF.entry_gs (KF.slot_gs.check _ _ _ _ _ _ _ _ KF.type_class (KF.args_gs _ _ _) ?_)
  unfold Builtin.«getset_descriptor.__get__» descrGet
  rw [dga_obj]
  refine wpAny_bind (wpAny_pure ?_)
  unfold descrGetter descrCheckInstance descrNameAndClass isInstance
  simp only [KF.owner_class]
  repeat lk
  refine ⟨Code.quiet_builtin _ (by decide +kernel), codeAny_builtin KF.entry_class ?_⟩
  unfold Builtin.«object.__class__» shownTypeOf
  repeat lk
  exact hq
theorem exc_entry {tk : Tok} {Q : Fin → Shared → Prop} (X : K.In h) (L0 : Looks (model prog w) h (typeOf (.ref a)) (.ref D)) (hm : mroIn K D (.type "object") = some true) (LF : Looks (model prog w) h (find (.ref a) (.ref D) "__class__") (.bind (.builtin "getset_descriptor.__get__") (.builtin "object.__class__"))) (hq : Q (.done (.ret (.ref D))) ⟨h, g, d, t, os⟩) :
    wpAny (model prog w) A (Builtin.«object.__getattribute__» ⟨[.ref a, .str "__class__" tk], []⟩) Q E ⟨h, g, d, t, os⟩ := by
  repeat (any_goals (first | assumption | with_reducible refine Looks.at L0 ?_ | with_reducible refine Looks.at LF ?_ | wp_step))
  refine exc_get X L0 hm ?_
  repeat (any_goals (first | assumption | wp_step))
theorem exc_check {M : Model} {nameV : Value} {Q : Unit → Shared → Prop} (X : K.In h) (L0 : Looks M h (typeOf (.ref a)) (.ref D)) (hb : mroIn K D (.type "BaseException") = some true) (hq : Q () ⟨h, g, d, t, os⟩) : wpAny M A (checkBuiltinCall "BaseException.__getattribute__" ⟨[.ref a, nameV], []⟩) Q E ⟨h, g, d, t, os⟩ := by
  have hk : builtinKind "BaseException.__getattribute__" = some .slot := by decide +kernel
  have hsplit : splitId "BaseException.__getattribute__" = some ("BaseException", "__getattribute__") := by decide +kernel
  have L1 := looks_mroIn (M := M) X hb
  have ha := F.args_bexc_ga (.ref a) nameV
  simp only [checkBuiltinCall, hk, hsplit]
  refine wpAny_bind ?_
  unfold isInstance
  repeat (first | with_reducible refine Looks.at L0 ?_ | with_reducible refine Looks.at L1 ?_ | wp_step)
  exact hq
theorem exc_call {tk : Tok} {R : Result → Shared → Prop} (X : K.In h) (L0 : Looks (model prog w) h (typeOf (.ref a)) (.ref D)) (hm : mroIn K D (.type "object") = some true) (hb : mroIn K D (.type "BaseException") = some true) (LF : Looks (model prog w) h (find (.ref a) (.ref D) "__class__") (.bind (.builtin "getset_descriptor.__get__") (.builtin "object.__class__"))) (hq : R (.ok (.ret (.ref D))) ⟨h, g, d, t, os⟩) :
    codeAny (model prog w) A (.call (.builtin "BaseException.__getattribute__") ⟨[.ref a, .str "__class__" tk], []⟩) R ⟨h, g, d, t, os⟩ :=
  codeAny_call_builtin F.attr_ValueError.ga.plain F.entry_bexc_ga (exc_check X L0 hb (exc_entry X L0 hm LF hq))
theorem exc_by {tk : Tok} {Q : Value → Shared → Prop} (X : K.In h) (L0 : Looks (model prog w) h (typeOf (.ref a)) (.ref D)) (hc : excCls K D = true) (hq : Q (.ref D) ⟨h, g, d, t, os⟩) :
    wpAny (model prog w) A (getAttrBy (.ref a) (.str "__class__" tk) false) Q E ⟨h, g, d, t, os⟩ := by
  simp only [excCls, Bool.and_eq_true, beq_iff_eq] at hc
  refine hide fun GOAL hGOAL => ?_
  obtain ⟨⟨⟨⟨⟨⟨⟨c1, c2⟩, c3⟩, c4⟩, c5⟩, c6⟩, c7⟩, c8⟩ := hc
  refine hGOAL ?_
  clear hGOAL GOAL
  have L1 := looks_findIn (M := model prog w) X c1
  have L2 := looks_findIn (M := model prog w) X c2
  have f3 := F.attr_ValueError.ga.bind (.ref a)
  have hx2 : (Value.builtin "BaseException.__getattribute__" == Value.builtin "object.__getattribute__") = false := by decide +kernel
  have hx1 : (onTheHeap (Value.ref D) && Value.builtin "BaseException.__getattribute__" == Value.builtin "object.__getattribute__") = false := by rw [hx2]; rfl
  have LF : Looks (model prog w) h (find (.ref a) (.ref D) "__class__") (.bind (.builtin "getset_descriptor.__get__") (.builtin "object.__class__")) := by
    refine (looks_findIn (M := model prog w) X c3).andThen ((looks_specialIn (M := model prog w) X c4).andThen ?_)
    exact (show Looks (model prog w) h (dataDescriptor? (some (.builtin "object.__class__")) (some (.builtin "getset_descriptor.__get__"))) (some (.builtin "getset_descriptor.__get__", .builtin "object.__class__")) from (looks_takesIn (M := model prog w) X c5).andThen .now).andThen (Looks.tag .now)
  repeat (any_goals (first | assumption | with_reducible refine Looks.at L0 ?_ | with_reducible refine Looks.at L1 ?_ | with_reducible refine Looks.at L2 ?_ | wp_step))
  refine exc_call X L0 c6 c7 LF ?_
  repeat (any_goals (first | assumption | wp_step))
theorem exc_attr {Q : Option Value → Shared → Prop} (X : K.In h) (L0 : Looks (model prog w) h (typeOf (.ref a)) (.ref D)) (hc : excCls K D = true) (hq : Q (some (.ref D)) ⟨h, g, d, t + 1, os⟩) :
    wpAny (model prog w) A (getAttr? (.ref a) "__class__") Q E ⟨h, g, d, t, os⟩ := by
  unfold getAttr? getAttrBy?
  repeat (any_goals (first | assumption | with_reducible apply exc_by X L0 hc | wp_step))
end
/-- an exception of a class -/
noncomputable def ExcAt (a D : Addr) (h : Heap) : Prop := ∃ o, h.get? a = some o ∧ o.cls = .ref D
theorem ExcAt.ty {a D : Addr} {h : Heap} {M : Model} (p : ExcAt a D h) : Looks M h (typeOf (.ref a)) (.ref D) := by
  refine hide fun GOAL hGOAL => ?_
  obtain ⟨o, h1, h2⟩ := p
  refine hGOAL ?_
  clear hGOAL GOAL
  exact h2 ▸ (Looks.ld h1).andThen .now
theorem kitx_exc {K : Frag} {a D : Addr} (hc : excCls K D = true) : KitX K (.ref a) (.ref D) (ExcAt a D) where
  ty := fun _ _ _ p => p.ty
  it := fun M h X _ => by
    simp only [excCls, Bool.and_eq_true] at hc
    have hc := hc.2
    split at hc
    · rename_i o ho
      split at hc
      · rename_i cd hd
        intro A' Q' E' s' k q
        refine hide fun GOAL hGOAL => ?_
        obtain ⟨oc, odi, oda, osl⟩ := o
        refine hGOAL ?_
        clear hGOAL GOAL
        dsimp only at hd
        subst hd
        unfold isType loadHead
        exact wpAny_bind (wpAny_loadPart (k _ _ (X _ _ ho)) (wpAny_pure q))
      · cases hc
    · cases hc
  ne := fun h tp dd its n sl X htp => by
    refine Bool.eq_false_iff.mpr fun q => ?_
    have e : D = tp := Value.ref.inj (beq_iff_eq.mp q)
    subst e
    simp only [excCls, Bool.and_eq_true] at hc
    have hc := hc.2
    split at hc
    · rename_i o ho
      split at hc
      · rename_i cd hd
        have z := (X _ _ ho).symm.trans htp
        cases z
        cases hd
      · cases hc
    · cases hc
  ca := fun {_ _ _ _ _ s} X p k => by obtain ⟨h, g, d, t, os⟩ := s; exact exc_attr X p.ty hc k

theorem isi_cls {W : Wd} {S : Sig} {K : Frag} {A : Around} {fs : List Env} {s : Shared} {io : Io} {m : MH} {own : List Addr} {c : Nat} {cv : Value} (X : K.In W.base) (hrel : ∀ d x, S.cls[d]? = some x → x.exc = true → excCls K (W.ca d) = true ∧ kitOne K (.ref (W.ca d)) cv = some (x.supers.contains c))
    (H : HR W s.heap io m) {v : V} {u : Value} (k : VR W s.heap io v u) : Si W own A fs BV (call (.builtin "isinstance") [u, cv]) s io m (isiV S v (.cls c) m) := by
  cases k with
  | @exc d a o vs h1 h2 h3 =>
    have e0 : isiV S (.exc d) (.cls c) m = (match S.cls[d]? with | some x => if x.exc then .ok (x.supers.contains c) m else .bad | none => .bad) := rfl
    rw [e0]
    cases ed : S.cls[d]? with
    | none => exact .bad
    | some x =>
      dsimp only
      by_cases hx : x.exc = true
      · rw [if_pos hx]
        obtain ⟨q1, q2⟩ := hrel d x ed hx
        exact fun _ => kia_one (kitx_exc q1) (X.keeps H.keep) ⟨o, h1, h2⟩ q2 (by intro q; cases q) fun tk => ⟨_, m, io, rfl, .refl, H, rfl, rfl, rfl⟩
      · rw [if_neg hx]; exact .bad
  | _ => exact .bad
end Mini

/-! Builtins, again. -/
namespace Mini
open PySem PySem.W PyProof.Rows

noncomputable def biFn : Bi → Value
  | .len => .builtin "len"
  | .abs => .builtin "abs"
  | .int => .type "int"
  | .str => .type "str"
  | .list => .type "list"
  | .tuple => .type "tuple"
  | .dict => .type "dict"
  | .sorted => .builtin "sorted"
  | .max2 => .builtin "max"
  | .min2 => .builtin "min"
  | .max1 => .builtin "max"
  | .lenset => .none

section
variable {W : Wd} {K : Frag} {h h' h₀ : Heap} {fs : List Env} {env : Env} {vis : List (Option Str)} {s s' s₀ : Shared} {io io' io₀ : Io} {m m' m₀ : MH} {r r' : Lo} {fr fr' own own' : List Addr} {A : Around} {n : Nat} {pos p : Pos}

theorem np_new {D : Addr} {us : Array Value} {c tk : Nat} {L : List V} (H : HR W s.heap io m) (hk : ∀ b o, s.heap.get? b = some o → h'.get? b = some o) (hD : h'.get? D = some (lstO us c)) (hus : VRs W s.heap io L us.toList) (hl : L.length ≤ lid) (hD0 : s.heap.get? D = none) :
    NP W own fr s io m (VP W) (alloc (.list L) m) (.ref D) { s with heap := h', toks := tk } := by
  have st : Step own fr s.heap io m h' io m := .of_keeps H hk
  have nf : ¬ Foot io D := fun f => by
    refine hide fun GOAL hGOAL => ?_
    obtain ⟨o, ho, _⟩ := H.foot f
    refine hGOAL ?_
    clear hGOAL GOAL
    rw [hD0] at ho; cases ho
  have basD : W.base.get? D = none := by
    cases q : W.base.get? D with
    | none => rfl
    | some o => rw [H.keep _ _ q] at hD0; cases hD0
  refine hide fun GOAL hGOAL => ?_
  obtain ⟨a1, a2, a3⟩ := adopt st (H.of_keeps hk) hD (hus.step st) hl nf hD0 basD
  refine hGOAL ?_
  clear hGOAL GOAL
  exact ⟨_, _, _, rfl, a1, a2, a3, rfl, rfl⟩

theorem small_fit {k : Nat} (hk : k ≤ lid) : (k : Int) < 2 ^ 63 := by have : lid = 4194304 := rfl; omega

theorem ints_of {xs : List V} {is : List Int} {us : List Value} (h : isIntL xs = some is) (k : VRs W s.heap io xs us) : IntsAre us is ∧ is.length = xs.length := by
  induction xs generalizing is us with
  | nil => cases k; cases h; exact ⟨.nil, rfl⟩
  | cons x xs ih =>
    cases k with
    | cons k1 k2 =>
      cases k1 <;> simp only [isIntL] at h <;> first | cases h | skip
      cases q : isIntL xs with
      | none => rw [q] at h; cases h
      | some js =>
        rw [q] at h
        simp only [Option.map_some, Option.some.injEq] at h
        subst h
        obtain ⟨a, b⟩ := ih q k2
        exact ⟨.cons _ _ a, by simp [b]⟩
noncomputable def biOk : Bi → Bool
  | .len | .int | .str => true
  | _ => false

theorem bi_cases {Pr : Bi → List V → Prop} (l1 : ∀ s, Pr .len [.str s]) (l2 : ∀ xs, Pr .len [.tup xs]) (l3 : ∀ ns, Pr .len [.scr ns]) (l4 : ∀ n, Pr .len [.ref n]) (a1 : ∀ i, Pr .abs [.int i]) (i1 : ∀ c, Pr .int [.bool c]) (i2 : ∀ s, Pr .int [.str s]) (s1 : ∀ i, Pr .str [.int i]) (t1 : ∀ xs, Pr .list [.tup xs]) (t2 : ∀ n, Pr .list [.ref n])
    (o1 : ∀ n, Pr .sorted [.ref n]) (u1 : ∀ n, Pr .tuple [.ref n]) (x1 : ∀ i j, Pr .max2 [.int i, .int j]) (x2 : ∀ i j, Pr .min2 [.int i, .int j]) (bad : ∀ b vs, biOk b = false ∨ biV b vs = (fun _ => .bad) → Pr b vs) (b : Bi) (vs : List V) : Pr b vs := by
  cases hb : biOk b with
  | false => exact bad b vs (.inl hb)
  | true =>
    cases vs with
    | nil => exact bad b [] (.inr (by cases b <;> rfl))
    | cons v vs =>
      cases vs with
      | nil =>
        cases b <;> first | (cases hb; done) | skip
        all_goals cases v <;> first | (exact l1 _) | (exact l2 _) | (exact l3 _) | (exact l4 _) | (exact a1 _) | (exact i1 _) | (exact i2 _) | (exact s1 _) | (exact t1 _) | (exact t2 _) | (exact o1 _) | (exact u1 _) | (exact bad _ _ (.inr rfl))
      | cons v' vs =>
        cases vs with
        | nil =>
          cases b <;> first | (exact bad _ _ (.inr rfl)) | skip
          all_goals cases v <;> first | (exact bad _ _ (.inr rfl)) | skip
          all_goals cases v' <;> first | (exact x1 _ _) | (exact x2 _ _) | (exact bad _ _ (.inr rfl))
        | cons v'' vs => exact bad _ _ (.inr (by cases b <;> first | rfl | (cases v <;> first | rfl | (cases v' <;> rfl))))
theorem bi_sim (ok : WOk W) (hh : A.handled = none) {b : Bi} (hb : biOk b = true) : SiF W A fs (biFn b) (biV b) := by
  intro s io m vs us H G hu
  revert us
  revert hb
  refine bi_cases (Pr := fun b vs => biOk b = true → ∀ us, VRs W s.heap io vs us → Si W [] A fs (VP W) (call (biFn b) us) s io m (biV b vs m)) ?_ ?_ ?_ ?_ ?_ ?_ ?_ ?_ ?_ ?_ ?_ ?_ ?_ ?_ ?_ b vs
  · intro x hb us hu
    cases hu with | cons k1 k2 => cases k2; cases k1 with | str x t hx =>
    show Si W [] A fs (VP W) _ s io m (if x.length ≤ lid then .ok (.int x.length) m else .bad)
    split
    · rename_i hl
      exact fun _ => P.len_str (by have := small_fit hl; omega) (np_val H (.int _ _))
    · exact .bad
  · intro xs hb us hu
    cases hu with | cons k1 k2 => cases k2; cases k1 with | @tup a ws c _ ha hx =>
    show Si W [] A fs (VP W) _ s io m (if xs.length ≤ lid then .ok (.int xs.length) m else .bad)
    split
    · rename_i hl
      have e : ws.size = xs.length := hx.size
      have := PyProof.Rows.len_tuple (prog := W.prog) (w := W.w) (A := A) (E := XP W [] fs s io m (.ok (.int xs.length) m : Res V)) (s := s) (Q := NP W [] (frs fs) s io m (VP W) (.ok (.int xs.length) m)) ⟨_, ha, rfl, c, rfl⟩ (by rw [e]; exact small_fit hl) (by rw [e]; exact np_val H (.int _ _))
      exact fun _ => this
    · exact .bad
  · intro ns hb us hu
    cases hu with | cons k1 k2 => cases k2; cases k1 with | @scr _ l o ws c hl hc hd hi hn =>
    have e : ws.size = ns.length := by simpa using hi.length
    refine fun _ => Calls.call_len_list ⟨o, H.keep _ _ hl, hc, c, hd⟩ (by rw [e]; exact small_fit hn) ?_
    rw [e]; exact np_val H (.int _ _)
  · intro k hb us hu
    cases hu with | cons k1 k2 => cases k2; cases k1 with | @ref k a d hi =>
    show Si W [] A fs (VP W) _ s io m (match m[k]? with | some (.list xs) => .ok (.int xs.length) m | _ => .bad)
    split
    · rename_i xs hm
      refine hide fun GOAL hGOAL => ?_
      obtain ⟨_, ws, c, h1, h2, h3⟩ := H.obj _ _ _ hi hm
      refine hGOAL ?_
      clear hGOAL GOAL
      have e : ws.size = xs.length := h2.size
      refine fun _ => Calls.call_len_list ⟨_, h1, rfl, c, rfl⟩ (by rw [e]; exact small_fit h3) ?_
      rw [e]; exact np_val H (.int _ _)
    · exact .bad
  · intro i hb; cases hb
  · intro c hb us hu
    cases hu with | cons k1 k2 => cases k2; cases k1
                                  exact fun _ => call_int_bool (np_val H (.int _ _))
  · intro x hb us hu
    cases hu with | cons k1 k2 => cases k2; cases k1 with | str x t hx =>
    show Si W [] A fs (VP W) _ s io m (if (x.cps.toList.all isDig && (!x.cps.toList.isEmpty && decide (x.length ≤ 600))) = true then .ok (.int (digV x.cps.toList)) m else .bad)
    split
    · rename_i hc
      obtain ⟨h1, h2⟩ := Bool.and_eq_true_iff.mp hc
      obtain ⟨h3, h4⟩ := Bool.and_eq_true_iff.mp h2
      exact fun _ => int_text h1 (by simpa using h3) (of_decide_eq_true h4) (np_val H (.int _ _))
    · exact .bad
  · intro i hb us hu
    cases hu with | cons k1 k2 => cases k2; cases k1 with | int i t =>
    show Si W [] A fs (VP W) _ s io m (if i.natAbs < 1000000 then .ok (.str (intText i)) m else .bad)
    split
    · rename_i hc
      exact fun _ => P.str_of_int (log_small hc) (np_val H (.str _ _ (str_ok_int i)))
    · exact .bad
  · intro i hb; cases hb
  · intro i hb; cases hb
  · intro i hb; cases hb
  · intro i hb; cases hb
  · intro i j hb; cases hb
  · intro i j hb; cases hb
  · intro b vs hq hb us hu
    rcases hq with hq | hq
    · rw [hq] at hb; cases hb
    · rw [hq]; exact .bad
end
end Mini

/-! str.split by one sign. -/
namespace Mini
open PySem PySem.W PyProof.Rows
section
variable {W : Wd} {fs : List Env} {s : Shared} {io : Io} {m : MH} {A : Around}
theorem split_sim (H : HR W s.heap io m) {x sep : Str} {t u : Tok} (ok : PyData.strOk x = true) {c : Nat} (hc : sep.cps.toList = [c]) (hl : x.length ≤ 4000) :
    Si W [] A fs (VP W) (call (.builtin "str.split") [.str x t, .str sep u]) s io m (alloc (.list ((splitC c x.cps.toList).map fun l => V.str ⟨l.toArray⟩)) m) := by
  have es : sep = ⟨#[c]⟩ := by
    obtain ⟨⟨l⟩⟩ := sep
    simp only at hc
    subst hc; rfl
  subst es
  have sl := split_le x ⟨#[c]⟩
  have hs : sizeLine = sizeLine := rfl
  refine fun _ => split_call rfl (fun l tk e => ?_) (sizeLine_lid (Nat.le_trans hl (by decide))) (sizeLine_lid (Nat.le_trans sl (Nat.le_trans (Nat.add_le_add_right hl 2) (by decide))))
  rw [← split_eq] at e
  refine np_new (tk := tk) H (push_keeps _) (Heap.get?_push_size _ rfl) (by simpa using vrs_pieces e (strOk_piece ok)) ?_ (get_size _)
  have : ((splitC c x.cps.toList).map (fun l => (⟨l.toArray⟩ : Str))).length ≤ x.length + 2 := by rw [split_eq]; exact sl
  rw [List.length_map] at this ⊢
  have e : lid = 4194304 := rfl
  omega
end
end Mini

/-! Methods. -/
namespace Mini
open PySem PySem.W PyProof.Rows

noncomputable def smType : Nat → String
  | 0 => "list"
  | 1 => "dict"
  | _ => "str"
noncomputable def smName : Sm → String
  | .append => "append"
  | .pop => "pop"
  | .clear => "clear"
  | .get => "get"
  | .join => "join"
  | .split => "split"
  | .count => "count"
  | .index => "index"
noncomputable def smId (k : Nat) (n : Sm) : String := match k, n with
  | 0, .append => "list.append"
  | 0, .pop => "list.pop"
  | 0, .count => "list.count"
  | 0, .index => "list.index"
  | 1, .pop => "dict.pop"
  | 2, .split => "str.split"
  | _, _ => "str.join"

section
variable {W : Wd} {K : Frag} {h h' h₀ : Heap} {fs : List Env} {env : Env} {vis : List (Option Str)} {s s' s₀ : Shared} {io io' io₀ : Io} {m m' m₀ : MH} {r r' : Lo} {fr fr' own own' : List Addr} {A : Around} {n : Nat} {pos p : Pos}

theorem np_setList {α β : Type} {P : Heap → Io → β → α → Prop} (H : HR W s.heap io m) {i : Nat} {p : Addr × Addr} {xs xs' : List V} (hi : io[i]? = some p) (hm : m[i]? = some (.list xs)) {h' : Heap} {tk : Nat} (hs : Heap.SameBut p.1 s.heap h') {us' : Array Value} {c' : Nat} (h1 : h'.get? p.1 = some (lstO us' c')) (h2 : VRs W s.heap io xs' us'.toList) (h3 : xs'.length ≤ lid) {v : β} {u : α}
    (hP : ∀ st : Step own fr s.heap io m h' io (m.set i (.list xs')), P h' io v u) : NP W own fr s io m P (.ok v (m.set i (.list xs'))) u { s with heap := h', toks := tk } := by
  obtain ⟨hpp, _⟩ := H.obj _ _ _ hi hm
  have hk : ∀ b o, b ≠ p.1 → b ≠ p.2 → s.heap.get? b = some o → h'.get? b = some o := fun b o q _ ho => sameBut_keeps hs b o q ho
  have hd : ∀ kv ep, MObj.list xs = .dict kv ep → ∃ kvs2 e2, MObj.list xs' = .dict kvs2 e2 ∧ ep < e2 := fun kv ep q => by cases q
  have st : Step own fr s.heap io m h' io (m.set i (.list xs')) := step_set H hi hm hk ⟨_, h1⟩ ⟨_, hpp ▸ h1⟩ hd
  exact ⟨v, _, io, rfl, st, H.set hi hm hk hd ⟨_, h1⟩ ⟨_, hpp ▸ h1⟩ ⟨hpp, us', c', h1, h2.step st, h3⟩, hP st, rfl, rfl⟩

theorem texts_of {xs : List V} {l : List Str} {us : List Value} (h : isStrL xs = some l) (k : VRs W s.heap io xs us) : ∃ ts : List (Str × Tok), us = strValues ts ∧ ts.map (·.1) = l ∧ ∀ x ∈ l, PyData.strOk x = true := by
  induction xs generalizing l us with
  | nil => cases k; cases h; exact ⟨[], rfl, rfl, fun _ q => nomatch q⟩
  | cons x xs ih =>
    cases k with
    | cons k1 k2 =>
      cases k1 <;> simp only [isStrL] at h <;> first | cases h | skip
      rename_i y t hy
      cases q : isStrL xs with
      | none => rw [q] at h; cases h
      | some js =>
        rw [q] at h
        simp only [Option.map_some, Option.some.injEq] at h
        subst h
        refine hide fun GOAL hGOAL => ?_
        obtain ⟨ts, a, b, c⟩ := ih q k2
        refine hGOAL ?_
        clear hGOAL GOAL
        refine ⟨(y, t) :: ts, by rw [a]; rfl, by simp [b], fun z hz => ?_⟩
        rcases List.mem_cons.mp hz with rfl | hz
        · exact hy
        · exact c z hz

theorem glued_eq (sep : Str) (l : List Str) : Txt.join sep l = joinS sep l := by
  show (⟨(l.drop 1).foldl (fun acc p => acc ++ sep.cps ++ p.cps) (l.headD Str.empty).cps⟩ : Str) = joinS sep l
  cases l with
  | nil => rfl
  | cons x r =>
    show (⟨r.foldl (fun acc p => acc ++ sep.cps ++ p.cps) x.cps⟩ : Str) = r.foldl (fun acc p => acc ++ sep ++ p) x
    induction r generalizing x with
    | nil => rfl
    | cons y r ih => exact ih (x ++ sep ++ y)
theorem joinS_ok {sep : Str} {l : List Str} (hs : PyData.strOk sep = true) (hl : ∀ x ∈ l, PyData.strOk x = true) : PyData.strOk (joinS sep l) = true := by
  cases l with
  | nil => show PyData.strOk Str.empty = true; simp [PyData.strOk, Str.empty]
  | cons x r =>
    have key : ∀ (r : List Str) (x : Str), PyData.strOk x = true → (∀ y ∈ r, PyData.strOk y = true) → PyData.strOk (r.foldl (fun acc p => acc ++ sep ++ p) x) = true := by
      intro r
      induction r with
      | nil => intro x hx _; exact hx
      | cons y r ih => intro x hx hr; exact ih _ (strOk_append (strOk_append hx hs) (hr y (.head _))) fun z hz => hr z (.tail _ hz)
    exact key r x (hl x (.head _)) fun y hy => hl y (.tail _ hy)

noncomputable def eqT (b : Bool) : Value → Bool | .bool c => c == b | _ => false
theorem isBoolL_cons {x : V} {xs : List V} {bs : List Bool} (h : isBoolL (x :: xs) = some bs) : ∃ c r, x = .bool c ∧ isBoolL xs = some r ∧ bs = c :: r := by
  cases x with
  | bool c =>
    have h : (isBoolL xs).map (c :: ·) = some bs := h
    cases q : isBoolL xs with
    | none => rw [q] at h; cases h
    | some r => rw [q] at h; cases h; exact ⟨c, r, rfl, rfl, rfl⟩
  | _ => cases h
theorem bools_of {b : Bool} : ∀ {xs : List V} {bs : List Bool} {us : List Value}, isBoolL xs = some bs → VRs W s.heap io xs us → us = bs.map Value.bool ∧ us.countP (eqT b) = bs.count b
  | [], bs, us, h, k => by
    cases k
    have h : some [] = some bs := h
    cases h
    exact ⟨rfl, rfl⟩
  | x :: xs, bs, us, h, k => by
    obtain ⟨c, r, rfl, q, rfl⟩ := isBoolL_cons h
    cases k with
    | cons k1 k2 =>
      cases k1
      obtain ⟨e1, e2⟩ := bools_of (b := b) q k2
      refine ⟨by rw [e1]; rfl, ?_⟩
      rw [List.countP_cons, List.count_cons, e2]; rfl
theorem count_sim {a : Addr} {ws : Array Value} {c : Nat} {xs : List V} {bs : List Bool} {b : Bool} (H : HR W s.heap io m) (h1 : s.heap.get? a = some (lstO ws c)) (h2 : VRs W s.heap io xs ws.toList) (hb : isBoolL xs = some bs) :
    Si W [] A fs (VP W) (call (.builtin "list.count") [.ref a, .bool b]) s io m (.ok (.int (bs.count b)) m) := by
  obtain ⟨e1, e2⟩ := bools_of (b := b) hb h2
  refine fun _ => call_meets PySem.F.slot_list_count ⟨_, h1, rfl⟩ PySem.F.entry_list_count (PySem.F.args_list_count_2 _ _) (PySem.SeqAt.list_countAt a ws c none #[] (.bool b) (eqT b)) ⟨h1, fun y hy => ?_, ?_⟩
  · have hy : y ∈ ws.toList := by simpa using hy
    rw [e1] at hy
    obtain ⟨d, _, rfl⟩ := List.mem_map.1 hy
    exact PySem.SeqAt.EqAt.bool_bool d b
  · rw [e2]
    exact np_val H (.int _ _)
theorem idx_facts (b : Bool) : ∀ bs : List Bool, bs.contains b = true → bs[bs.idxOf b]? = some b ∧ ∀ (k : Nat) (d : Bool), k < bs.idxOf b → bs[k]? = some d → (d == b) = false
  | [], h => by simp at h
  | x :: bs, h => by
    rw [List.idxOf_cons]
    cases q : x == b with
    | true =>
      refine ⟨by rw [cond_true]; exact congrArg some (eq_of_beq q), fun k d hk => absurd hk (Nat.not_lt_zero _)⟩
    | false =>
      have h' : bs.contains b = true := by
        have : (b == x) = false := by cases x <;> cases b <;> first | rfl | (cases q)
        rw [List.contains_cons, this, Bool.false_or] at h; exact h
      obtain ⟨h1, h2⟩ := idx_facts b bs h'
      refine ⟨by simpa using h1, fun k d hk hd => ?_⟩
      cases k with
      | zero => have : x = d := by simpa using hd
                rw [← this]; exact q
      | succ k => exact h2 k d (by simpa using hk) (by simpa using hd)
theorem index_sim {a : Addr} {ws : Array Value} {c : Nat} {xs : List V} {bs : List Bool} {b : Bool} (H : HR W s.heap io m) (h1 : s.heap.get? a = some (lstO ws c)) (h2 : VRs W s.heap io xs ws.toList) (h3 : xs.length ≤ lid) (hb : isBoolL xs = some bs) (hc : bs.contains b = true) :
    Si W [] A fs (VP W) (call (.builtin "list.index") [.ref a, .bool b]) s io m (.ok (.int (bs.idxOf b)) m) := by
  obtain ⟨e1, _⟩ := bools_of (b := b) hb h2
  obtain ⟨f1, f2⟩ := idx_facts b bs hc
  have hj : bs.idxOf b < bs.length := (List.getElem?_eq_some_iff.mp f1).1
  have hsz : ws.size = bs.length := by rw [← Array.length_toList, e1, List.length_map]
  have hsz2 : ws.size = xs.length := h2.size
  have get : ∀ (k : Nat) (hk : k < ws.size), ∃ d, bs[k]? = some d ∧ ws[k] = .bool d := by
    intro k hk
    have hk' : k < bs.length := by omega
    refine ⟨bs[k], List.getElem?_eq_getElem hk', ?_⟩
    have : ws.toList[k]? = some (.bool bs[k]) := by rw [e1, List.getElem?_map, List.getElem?_eq_getElem hk']; rfl
    rw [Array.getElem?_toList, Array.getElem?_eq_getElem hk] at this
    exact Option.some.inj this
  refine fun _ => call_meets PySem.F.slot_list_index ⟨_, h1, rfl⟩ PySem.F.entry_list_index (PySem.F.args_list_index_2 _ _) (PySem.SeqAt.list_indexAt a ws c none #[] (.bool b) (eqT b) (bs.idxOf b) (by omega) (by have : lid = 4194304 := rfl; omega) ?_ ?_) ⟨h1, fun y hy => ?_, ?_⟩
  · obtain ⟨d, g1, g2⟩ := get (bs.idxOf b) (by omega)
    rw [g2]; rw [f1] at g1; cases g1; exact beq_self_eq_true b
  · intro k hk hlt
    obtain ⟨d, g1, g2⟩ := get k hk
    rw [g2]; exact f2 k d hlt g1
  · have hy : y ∈ ws.toList := by simpa using hy
    rw [e1] at hy
    obtain ⟨d, _, rfl⟩ := List.mem_map.1 hy
    exact PySem.SeqAt.EqAt.bool_bool d b
  · exact np_val H (.int _ _)
theorem smH_of {k : Nat} {sm : Sm} (h : smH k sm = true) : (k = 2 ∧ sm = .join) ∨ (k = 0 ∧ sm = .count) ∨ (k = 0 ∧ sm = .index) ∨ (k = 2 ∧ sm = .split) := by
  unfold smH at h
  split at h <;> first | (exact .inl ⟨rfl, rfl⟩) | (exact .inr (.inl ⟨rfl, rfl⟩)) | (exact .inr (.inr (.inl ⟨rfl, rfl⟩))) | (exact .inr (.inr (.inr ⟨rfl, rfl⟩))) | cases h
theorem sm_at {q : Nat} {n : Sm} {vs : List V} {o : Option MObj} (hm : m[q]? = o) : smethV 0 (.ref q) n vs m = (match (generalizing := false) o with | some (.list xs) => listM q xs n vs m | _ => .bad) := by subst hm; rfl
theorem sm_list {o : V} {n : Sm} {vs : List V} {u : Value} {t : Sem Value} (kx : VR W s.heap io o u) (h : ∀ (q : Nat) (a d : Addr) (xs : List V), o = .ref q → u = .ref a → io[q]? = some (a, d) → m[q]? = some (.list xs) → Si W [] A fs (VP W) t s io m (listM q xs n vs m)) : Si W [] A fs (VP W) t s io m (smethV 0 o n vs m) := by
  cases kx with
  | @ref q a d hi =>
    cases hm : m[q]? with
    | none => rw [sm_at hm]; exact .bad
    | some o =>
      rw [sm_at hm]
      cases o with
      | list xs => exact h q a d xs rfl rfl hi hm
      | _ => exact .bad
  | _ => exact .bad
theorem sm_sim {k : Nat} {sm : Sm} (hH : smH k sm = true) (H : HR W s.heap io m) {x : V} {u : Value} {vs : List V} {us : List Value} (kx : VR W s.heap io x u) (hu : VRs W s.heap io vs us) :
    Si W [] A fs (VP W) (call (.builtin (smId k sm)) (u :: us)) s io m (smethV k x sm vs m) := by
  rcases smH_of hH with ⟨rfl, rfl⟩ | ⟨rfl, rfl⟩ | ⟨rfl, rfl⟩ | ⟨rfl, rfl⟩
  · cases kx with
    | str z tz hz =>
      cases hu with
      | nil => exact .bad
      | cons k1 k2 =>
        cases k2 with
        | cons _ _ => exact .bad
        | nil =>
          cases k1 with
          | @ref q a d hi =>
            show Si W [] A fs (VP W) _ s io m (match m[q]? with | some (.list xs) => (match isStrL xs with | some l => if sumLen z l ≤ lid then .ok (.str (joinS z l)) m else .bad | Option.none => .bad) | _ => .bad)
            cases hm : m[q]? with
            | none => exact .bad
            | some o =>
              cases o with
              | list xs =>
                cases hl : isStrL xs with
                | none => show Si W [] A fs (VP W) _ s io m (match isStrL xs with | some l => if sumLen z l ≤ lid then .ok (.str (joinS z l)) m else .bad | Option.none => .bad); rw [hl]; exact .bad
                | some l =>
                  show Si W [] A fs (VP W) _ s io m (match isStrL xs with | some l => if sumLen z l ≤ lid then .ok (.str (joinS z l)) m else .bad | Option.none => .bad)
                  rw [hl]
                  show Si W [] A fs (VP W) _ s io m (if sumLen z l ≤ lid then .ok (.str (joinS z l)) m else .bad)
                  by_cases hlen : sumLen z l ≤ lid
                  · rw [if_pos hlen]
                    obtain ⟨_, ws, c, h1, h2, h3⟩ := H.obj _ _ _ hi hm
                    obtain ⟨ts, e1, e2, e3⟩ := texts_of (s := s) hl h2
                    have htl : Builtin.Str.tooLong ((ts.map (·.1)).toArray.foldl (· + ·.length + z.length) 0) = false := by
                      rw [e2]
                      have : sizeLine = 16777216 := sizeLine_eq
                      have q : (l.toArray.foldl (· + ·.length + z.length) 0) = sumLen z l := by simp [sumLen]
                      rw [q]
                      unfold Builtin.Str.tooLong
                      have : lid = 4194304 := rfl
                      simp; omega
                    refine fun _ => call_meets PySem.F.slot_str_join (typeIs_str _ _ _) PySem.F.entry_str_join (PySem.F.args_str_join_2 _ _) (meets_str_join_list z tz a ts htl) ⟨⟨_, h1, rfl, c, ?_⟩, post_join ts ⟨joinFit_length htl, fun t' k' => ?_⟩⟩
                    · show Data.seq ws c = _
                      rw [← e1, Array.toArray_toList]
                    · rw [e2, glued_eq]
                      exact np_val H (.str _ _ (joinS_ok hz e3))
                  · rw [if_neg hlen]; exact .bad
              | _ => exact .bad
          | _ => exact .bad
    | _ => exact .bad
  · refine sm_list kx fun q a d xs ho hu' hi hm => ?_
    subst ho; subst hu'
    obtain ⟨_, ws, c, h1, h2, h3⟩ := H.obj _ _ _ hi hm
    cases hu with
    | nil => exact .bad
    | cons k1 k2 =>
      cases k2 with
      | cons _ _ => exact .bad
      | nil =>
        cases k1 with
        | bool b =>
          cases hb : isBoolL xs with
          | none => show Si W [] A fs (VP W) _ s io m (match isBoolL xs with | some bs => .ok (.int (bs.count b)) m | Option.none => .bad); rw [hb]; exact .bad
          | some bs =>
            show Si W [] A fs (VP W) _ s io m (match isBoolL xs with | some bs => .ok (.int (bs.count b)) m | Option.none => .bad)
            rw [hb]; exact count_sim H h1 h2 hb
        | _ => exact .bad
  · refine sm_list kx fun q a d xs ho hu' hi hm => ?_
    subst ho; subst hu'
    obtain ⟨_, ws, c, h1, h2, h3⟩ := H.obj _ _ _ hi hm
    cases hu with
    | nil => exact .bad
    | cons k1 k2 =>
      cases k2 with
      | cons _ _ => exact .bad
      | nil =>
        cases k1 with
        | bool b =>
          cases hb : isBoolL xs with
          | none => show Si W [] A fs (VP W) _ s io m (match isBoolL xs with | some bs => if bs.contains b then .ok (.int (bs.idxOf b)) m else .bad | Option.none => .bad); rw [hb]; exact .bad
          | some bs =>
            show Si W [] A fs (VP W) _ s io m (match isBoolL xs with | some bs => if bs.contains b then .ok (.int (bs.idxOf b)) m else .bad | Option.none => .bad)
            rw [hb]
            show Si W [] A fs (VP W) _ s io m (if bs.contains b = true then .ok (.int (bs.idxOf b)) m else .bad)
            by_cases hc : bs.contains b = true
            · rw [if_pos hc]; exact index_sim H h1 h2 h3 hb hc
            · rw [if_neg hc]; exact .bad
        | _ => exact .bad
  · cases kx with
    | str z tz hz =>
      cases hu with
      | nil => exact .bad
      | cons k1 k2 =>
        cases k2 with
        | cons _ _ => exact .bad
        | nil =>
          cases k1 with
          | str sep tu hu =>
            show Si W [] A fs (VP W) _ s io m (match sep.cps.toList with | [c] => (if z.length ≤ 4000 then alloc (.list ((splitC c z.cps.toList).map fun l => V.str ⟨l.toArray⟩)) m else .bad) | _ => .bad)
            cases hc : sep.cps.toList with
            | nil => exact .bad
            | cons c r =>
              cases r with
              | cons _ _ => exact .bad
              | nil =>
                show Si W [] A fs (VP W) _ s io m (if z.length ≤ 4000 then _ else _)
                by_cases hl : z.length ≤ 4000
                · rw [if_pos hl]; exact split_sim H hz hc hl
                · rw [if_neg hl]; exact .bad
          | _ => exact .bad
    | _ => exact .bad
end
end Mini

/-! Method calls, stores by key, displays. -/
namespace Mini
open PySem PySem.W PyProof.Rows

noncomputable def noSuper : Expr → Bool
  | .Call (.Name _ _) [] [] _ => false
  | _ => true

section
variable {W : Wd} {K : Frag} {h h' h₀ : Heap} {fs : List Env} {env : Env} {vis : List (Option Str)} {s s' s₀ : Shared} {io io' io₀ : Io} {m m' m₀ : MH} {r r' : Lo} {fr fr' own own' : List Addr} {A : Around} {n : Nat} {pos p apos : Pos}

theorem base_of {o : Expr} {name : Str} (h : noSuper o = true) : attributeBase o name env (eval o env) = eval o env := by
  cases o <;> first | rfl | skip
  rename_i f es kws pos
  cases f <;> first | rfl | skip
  cases es <;> first | rfl | skip
  cases kws <;> first | rfl | (exact no_tf h)

theorem plain_all {es : List Expr} (h : noStar es = true) : (backTo pos (starEach es env)).all (fun x => !x.1) = true := by
  induction es with
  | nil => rfl
  | cons e rest ih => rw [star_cons h]; exact ih (noStar_tail h)

theorem sm_slot (k : Nat) (sm : Sm) (h : smH k sm = true) : PlainAttrs (smType k) ∧ Slot (smType k) (Str.ofString (smName sm)) (smId k sm) ∧ typeOf (.builtin (smId k sm)) = Pure.pure (.type "method_descriptor") := by
  rcases smH_of h with ⟨rfl, rfl⟩ | ⟨rfl, rfl⟩ | ⟨rfl, rfl⟩ | ⟨rfl, rfl⟩
  · exact ⟨PySem.F.plainAttrs_str, PySem.F.slot_str_join, PySem.F.type_str_join⟩
  · exact ⟨PySem.F.plainAttrs_list, PySem.F.slot_list_count, PySem.F.type_list_count⟩
  · exact ⟨PySem.F.plainAttrs_list, PySem.F.slot_list_index, PySem.F.type_list_index⟩
  · exact ⟨PySem.F.plainAttrs_str, PySem.F.slot_str_split, PySem.F.type_str_split⟩
theorem Si.res {α β : Type} {P : Heap → Io → α → β → Prop} {t : Sem β} {R R' : Res α} (x : Si W own A fs P t s io m R) (e : R' = R) : Si W own A fs P t s io m R' := e ▸ x

theorem e_smeth {o : Expr} {es : List Expr} {sm : Sm} {co : Lo → Mn V} {cl : Lo → Mn (List V)} (hb : noSuper o = true) (hs : noStar es = true) (hfew : es.length < 29) (hline : (apos.endLine == pos.line) = true) (ho : SiE W A fs env vis (eval o env) co) (hl : SiL W A fs env vis (spliced (backTo pos (starEach es env))) cl) :
    SiE W A fs env vis (eval (.Call (.Attribute o (Str.ofString (smName sm)) apos) es [] pos) env) (fun r => bnd (co r) fun x => fun m => match smK x m with | some k => if smH k sm then bnd (cl r) (fun vs => smethV k x sm vs) m else .bad | none => .bad) := by
  intro s io m r Z hne
  dsimp only at hne ⊢
  refine wpAny_Call_method_late (base_of hb) ?_ hline rfl ?_
  · rw [plain_all hs]; rw [arm_keywordEach_nil]; simp [backToKw]; omega
  refine wpAny_mono (ho s io m r Z (Res.bind_ne hne)) (fun ov s₁ q => ?_) fun _ _ q => q.bind .refl (.refl _)
  refine hide fun GOAL hGOAL => ?_
  obtain ⟨x, m₁, io₁, e1, st, H₁, kx, sm₁⟩ := q
  refine hGOAL ?_
  clear hGOAL GOAL
  have ee : ∀ f : V → Mn V, bnd (co r) f m = f x m₁ := fun f => by show (co r m).bind _ = _; rw [e1]; rfl
  rw [ee] at hne ⊢
  cases hk : smK x m₁ with
  | none => rw [hk] at hne; exact absurd rfl hne
  | some k =>
    rw [hk] at hne
    dsimp only at hne ⊢
    by_cases hH : smH k sm = true
    · rw [if_pos hH] at hne ⊢
      have Z₁ := Z.step H₁ st
      -- the owner's type
      have ty : s₁.TypeIs ov (smType k) ∧ (∀ a, ov = .ref a → ∃ ob, s₁.heap.get? a = some ob ∧ ob.dict = none) := by
        cases kx with
        | @ref q a d hi =>
          simp only [smK] at hk
          split at hk
          · rename_i xs hm
            cases hk
            refine hide fun GOAL hGOAL => ?_
            obtain ⟨_, ws, c, h1, _⟩ := H₁.obj _ _ _ hi hm
            refine hGOAL ?_
            clear hGOAL GOAL
            exact ⟨⟨_, h1, rfl⟩, fun b e => by cases e; exact ⟨_, h1, rfl⟩⟩
          · rename_i kvs e hm
            cases hk
            refine hide fun GOAL hGOAL => ?_
            obtain ⟨_, o', es', c, h1, h2, _⟩ := H₁.obj _ _ _ hi hm
            refine hGOAL ?_
            clear hGOAL GOAL
            exact ⟨⟨_, h1, h2.1⟩, fun b e => by cases e; exact ⟨_, h1, h2.2.1⟩⟩
          · cases hk
        | str x t hx => cases hk; exact ⟨typeIs_str _ _ _, fun _ e => nomatch e⟩
        | none => cases hk
        | bool b => cases hk
        | int i t => cases hk
        | fn k => cases hk
        | tup => cases hk
        | exc => cases hk
        | scr => cases hk
      have call : wpAny (model W.prog W.w) A (callWith pos (.builtin (smId k sm)) [ov] (backTo pos (starEach es env)) []) (NP W [] (frs fs) s io m (VP W) (bnd (cl r) (fun vs => smethV k x sm vs) m₁)) (XP W [] fs s io m (bnd (cl r) (fun vs => smethV k x sm vs) m₁)) s₁ := by
        refine Calls.callWith_builtin (plain_of hs) (args_of hs ?_)
        refine wpAny_mono (hl s₁ io₁ m₁ r Z₁ (Res.bind_ne hne)) (fun us s₂ q => ?_) fun _ _ q => (q.mono st sm₁).bind .refl (.refl _)
        refine hide fun GOAL hGOAL => ?_
        obtain ⟨vs, m₂, io₂, e2, st2, H2, kv, sm2⟩ := q
        refine hGOAL ?_
        clear hGOAL GOAL
        have ee2 : bnd (cl r) (fun vs => smethV k x sm vs) m₁ = smethV k x sm vs m₂ := by show (cl r m₁).bind _ = _; rw [e2]; rfl
        rw [ee2] at hne ⊢
        exact wpAny_mono (sm_sim hH H2 (VR.step st2 kx) kv hne) (fun _ _ z => z.mono (st.trans st2) (sm₁.trans sm2)) fun _ _ z => z.mono (st.trans st2) (sm₁.trans sm2)
      refine hide fun GOAL hGOAL => ?_
      obtain ⟨p1, p2, p3⟩ := sm_slot k sm hH
      refine hGOAL ?_
      clear hGOAL GOAL
      exact ⟨_, _, p1, p2, p3, ty.1, ty.2, call⟩
    · rw [if_neg hH] at hne; exact absurd rfl hne

/-! ### stores by key -/
theorem put_sim (R : AR A fs n) (H : HR W s.heap io m) {x y v : V} {u iu vu : Value} (kx : VR W s.heap io x u) (ky : VR W s.heap io y iu) (kv : VR W s.heap io v vu) : Si W own A fs (fun _ _ (_ _ : Unit) => True) (setItem u iu vu) s io m (putIdx x y v m) := by
  have bad : ∀ {R : Res Unit}, R = .bad → Si W own A fs (fun _ _ (_ _ : Unit) => True) (setItem u iu vu) s io m R := fun e => e ▸ .bad
  cases kx with
  | @ref q a d hi =>
    cases hm : m[q]? with
    | none => exact bad (by unfold putIdx; dsimp only; rw [hm])
    | some o =>
      cases o with
      | inst c fls => exact bad (by unfold putIdx; dsimp only; rw [hm])
      | dict kvs e => exact bad (by unfold putIdx; dsimp only; rw [hm])
      | list xs =>
        cases ky with
        | int k t =>
          have ee : putIdx (.ref q) (.int k) v m = if 0 ≤ k ∧ k < xs.length then .ok () (m.set q (.list (xs.set k.toNat v))) else if k < 0 ∧ 0 ≤ k + xs.length then .ok () (m.set q (.list (xs.set (k + xs.length).toNat v))) else .bad := by unfold putIdx; dsimp only; rw [hm]
          refine Si.res ?_ ee
          refine hide fun GOAL hGOAL => ?_
          obtain ⟨hpp, ws, c, h1, h2, h3⟩ := H.obj _ _ _ hi hm
          refine hGOAL ?_
          clear hGOAL GOAL
          have hsz : ws.size = xs.length := h2.size
          by_cases hc : 0 ≤ k ∧ k < xs.length
          · refine Si.res ?_ (if_pos hc)
            refine fun _ => setItem_lst h1 hc.1 (by have : xs.length ≤ 4194304 := h3; omega) (by omega) ?_
            have z := PySem.IsL.update h1 (fun xs => xs.setIfInBounds k.toNat vu)
            exact np_setList (tk := s.toks) H hi hm (Heap.SameBut.update ..) z (by rw [Array.toList_setIfInBounds]; exact h2.set _ kv) (by rw [List.length_set]; exact h3) fun _ => trivial
          · refine Si.res ?_ (if_neg hc)
            by_cases hd : k < 0 ∧ 0 ≤ k + xs.length
            · refine Si.res ?_ (if_pos hd)
              refine fun _ => setItem_neg h1 hd.1 (by have : xs.length ≤ 4194304 := h3; omega) (by omega) ?_
              rw [hsz]
              have z := PySem.IsL.update h1 (fun xs_1 => xs_1.setIfInBounds (k + xs.length).toNat vu)
              exact np_setList (tk := s.toks) H hi hm (Heap.SameBut.update ..) z (by rw [Array.toList_setIfInBounds]; exact h2.set _ kv) (by rw [List.length_set]; exact h3) fun _ => trivial
            · exact Si.res .bad (if_neg hd)
        | _ => exact bad (by unfold putIdx; dsimp only; rw [hm])
  | _ => exact bad rfl

theorem a_idx {o i : Expr} {co ci : Lo → Mn V} (R : AR A (env :: fs) n) (ho : SiE W A (env :: fs) env vis (eval o env) co) (hi : SiE W A (env :: fs) env vis (eval i env) ci) : SiA W A fs env vis (.Subscript o i pos) (fun v r => bnd (co r) fun x => bnd (ci r) fun y => bnd (putIdx x y v) fun _ => ret r) := by
  intro s io m r v u Z k
  rw [arm_assign_Subscript]
  refine Si.bindE (Si.holding (ho s io m r Z.sit)) fun ov s₁ io₁ m₁ x _ st₁ H₁ kx sm₁ => ?_
  have Z₁ := Z.step H₁ st₁
  refine Si.bindE (Si.holding (hi s₁ io₁ m₁ r Z₁.sit)) fun iv s₂ io₂ m₂ y _ st₂ H₂ ky sm₂ => .standAt ?_
  have Z₂ := Z₁.step H₂ st₂
  refine Si.bindE (Si.holding (put_sim R H₂ (VR.step st₂ kx) ky ((VR.step st₁ k).step st₂))) fun _ s₃ io₃ m₃ _ _ st₃ H₃ _ sm₃ => ?_
  exact fun _ => wpAny_release ⟨r, m₃, io₃, rfl, .refl, H₃, Z₂.F.step0 Z₂.H st₃, .refl _⟩

/-! ### displays -/
/-! ### list(range(..)) -/
end
end Mini

/-! Two items of lists take the parts of a pair. -/
namespace Mini
open PySem PySem.W
section
variable {W : Wd} {fs : List Env} {env : Env} {vis : List (Option Str)} {A : Around} {n : Nat} {pos p p' : Pos}
theorem same_lo {x : Mn V} {f : V → Mn V} {g : V → V → Mn Unit} {r r1 : Lo} {m m1 : MH} (e : bnd x (fun a => bnd (f a) fun b => bnd (g a b) fun _ => ret r) m = .ok r1 m1) : r1 = r := by
  have e : (x m).bind (fun a => bnd (f a) fun b => bnd (g a b) fun _ => ret r) = .ok r1 m1 := e
  cases q : x m with
  | bad => rw [q] at e; cases e
  | exc _ _ => rw [q] at e; cases e
  | ok a m2 =>
    rw [q] at e
    have e : (f a m2).bind (fun b => bnd (g a b) fun _ => ret r) = .ok r1 m1 := e
    cases q : f a m2 with
    | bad => rw [q] at e; cases e
    | exc _ _ => rw [q] at e; cases e
    | ok b m3 =>
      rw [q] at e
      have e : (g a b m3).bind (fun _ => ret r) = .ok r1 m1 := e
      cases q : g a b m3 with
      | bad => rw [q] at e; cases e
      | exc _ _ => rw [q] at e; cases e
      | ok c m4 => rw [q] at e; cases e; rfl
theorem bind_ret {α : Type} (R : Res α) : R.bind (fun a => ret a) = R := by cases R <;> rfl
theorem a_idx2 {o i o' i' : Expr} {x1 : Nat} {co ci co' ci' : Lo → Mn V} (hh : A.handled = none) (h1 : SiA W A fs env vis (.Subscript o i p) (fun v r => bnd (co r) fun x => bnd (ci r) fun y => bnd (putIdx x y v) fun _ => ret r)) (h2 : SiA W A fs env vis (.Subscript o' i' p') (fun v r => bnd (co' r) fun x => bnd (ci' r) fun y => bnd (putIdx x y v) fun _ => ret r)) :
    SiA W A fs env vis (.Tuple [.Subscript o i p, .Subscript o' i' p'] x1 pos) (fun v r => match v with
      | .tup [a, b] => bnd (co r) fun x => bnd (ci r) fun y => bnd (putIdx x y a) fun _ => bnd (co' r) fun x' => bnd (ci' r) fun y' => bnd (putIdx x' y' b) fun _ => ret r
      | _ => bad) := by
  intro s io m r v u Z k
  cases k with
  | @tup t vs c xs g1 g4 =>
    cases xs with
    | nil => exact Si.bad
    | cons a xs =>
      cases xs with
      | nil => exact Si.bad
      | cons b xs =>
        cases xs with
        | cons _ _ => exact Si.bad
        | nil =>
          show Si W (ownOf env) A (env :: fs) (RP W env vis) _ s io m (bnd (co r) (fun x => bnd (ci r) fun y => bnd (putIdx x y a) fun _ => bnd (co' r) fun x' => bnd (ci' r) fun y' => bnd (putIdx x' y' b) fun _ => ret r) m)
          have eq : bnd (co r) (fun x => bnd (ci r) fun y => bnd (putIdx x y a) fun _ => bnd (co' r) fun x' => bnd (ci' r) fun y' => bnd (putIdx x' y' b) fun _ => ret r) m = (bnd (co r) (fun x => bnd (ci r) fun y => bnd (putIdx x y a) fun _ => ret r) m).bind (fun _ => bnd (co' r) fun x' => bnd (ci' r) fun y' => bnd (putIdx x' y' b) fun _ => ret r) := by
            show (co r m).bind _ = ((co r m).bind _).bind _
            cases co r m with
            | bad => rfl
            | exc _ _ => rfl
            | ok x m1 =>
              show (ci r m1).bind _ = ((ci r m1).bind _).bind _
              cases ci r m1 with
              | bad => rfl
              | exc _ _ => rfl
              | ok y m2 =>
                show (putIdx x y a m2).bind _ = ((putIdx x y a m2).bind _).bind _
                cases putIdx x y a m2 <;> rfl
          rw [eq]
          intro hne
          have hsz : vs.size = 2 := g4.size
          refine wpAny_assign_Tuple hh ⟨_, g1, rfl, c, rfl⟩ (by rw [hsz]; rfl) rfl fun h' hx => ?_
          have hk : ∀ b o, s.heap.get? b = some o → h'.get? b = some o := fun b o e => hx b o (fun q => by rw [q, get_size] at e; cases e) e
          have st : Step (ownOf env) (frs (env :: fs)) s.heap io m h' io m := .of_keeps Z.H hk
          have Z' : Stt W fs env vis { s with heap := h' } io m r := Z.step (Z.H.of_keeps hk) (.of_keeps (own := []) (fr := frs (env :: fs)) Z.H hk)
          have g5 := g4.step st
          generalize hus : vs.toList = us at g5
          cases g5 with
          | @cons _ u1 _ _ k1 k2 =>
            cases k2 with
            | @cons _ u2 _ _ k2 k3 =>
              cases k3
              have key : Si W (ownOf env) A (env :: fs) (RP W env vis) (PySem.holding [u2] (assign (.Subscript o i p) env u1) >>= fun _ => (PySem.holding [] (assign (.Subscript o' i' p') env u2) >>= fun _ => Pure.pure ())) { s with heap := h' } io m ((bnd (co r) (fun x => bnd (ci r) fun y => bnd (putIdx x y a) fun _ => ret r) m).bind (fun _ => bnd (co' r) fun x' => bnd (ci' r) fun y' => bnd (putIdx x' y' b) fun _ => ret r)) := by
                refine Si.bind (.holding (h1 _ _ _ r a _ Z' k1)) fun _ s₁ io₁ m₁ r₁ e st1 H kF sm => ?_
                have er := same_lo e
                subst er
                have Z1 : Stt W fs env vis s₁ io₁ m₁ r₁ := Z'.stepO H st1 kF
                have := Si.bind (f := fun r' => ret r') (P' := RP W env vis) (k := fun _ => (Pure.pure () : Sem Unit)) (.holding (vs := []) (h2 _ _ _ r₁ b _ Z1 (k2.step st1))) fun _ s₂ io₂ m₂ r₂ e2 st2 H2 kF2 sm2 => .pure H2 kF2
                rw [bind_ret] at this
                exact this
              exact wpAny_mono (key hne) (fun _ _ z => z.mono st ⟨rfl, rfl⟩) fun _ _ z => z.mono st ⟨rfl, rfl⟩
  | _ => exact Si.bad
end
end Mini

/-! How many different whole numbers a list holds. -/
namespace Mini
open PySem PySem.W PyProof.Rows
section
variable {W : Wd} {K : Frag} {fs : List Env} {env : Env} {vis : List (Option Str)} {s : Shared} {io : Io} {m : MH} {r : Lo} {A : Around} {pos p : Pos}
theorem getD_range : ∀ ns : List Int, (List.range ns.length).map (fun i => ns.getD i 0) = ns := fun ns => by
  apply List.ext_getElem
  · simp
  · intro i h1 h2
    simp at h1
    simp [h1]
theorem first_dedup (ns : List Int) : (firstMet (fun i => ns.getD i 0) ns.length) = dedupI ns := by
  unfold firstMet dedupI
  rw [getD_range]
  rfl
theorem lens_of {vs : List V} (h : biV .lenset vs m ≠ .bad) : ∃ n xs is, vs = [.ref n] ∧ m[n]? = some (.list xs) ∧ isIntL xs = some is ∧ is.length < 4000 ∧ biV .lenset vs m = .ok (.int (dedupI is).length) m := by
  cases vs with
  | nil => exact absurd rfl h
  | cons v vs =>
    cases vs with
    | cons _ _ => exact absurd (by cases v <;> rfl) h
    | nil =>
      cases v with
      | ref n =>
        have e : biV .lenset [.ref n] m = (match m[n]? with | some (.list xs) => (match isIntL xs with | some is => (if is.length < 4000 then (.ok (.int (dedupI is).length) m : Res V) else .bad) | none => .bad) | _ => .bad) := rfl
        rw [e] at h ⊢
        cases hm : m[n]? with
        | none => rw [hm] at h; exact absurd rfl h
        | some o =>
          rw [hm] at h
          cases o with
          | dict _ _ => exact absurd rfl h
          | inst _ _ => exact absurd rfl h
          | list xs =>
            dsimp only at h ⊢
            cases hk : isIntL xs with
            | none => rw [hk] at h; exact absurd rfl h
            | some is =>
              rw [hk] at h
              dsimp only at h ⊢
              by_cases hb : is.length < 4000
              · exact ⟨n, xs, is, rfl, hm, hk, hb, if_pos hb⟩
              · rw [if_neg hb] at h; exact absurd rfl h
      | _ => exact absurd rfl h
theorem e_lenset {x y : Str} {p' pos' : Pos} {es : List Expr} {cl : Lo → Mn (List V)} (hh : A.handled = none) (gl : Gl W K) (e : nsIn K mainGlobals x = some none) (hv : bootBuiltins x = some (.type "set")) (hn : (x == ("__name__" : Str)) = false) (hx : env.kindOf x = some .globalImplicit) (hd : (x == ("__debug__" : Str)) = false)
    (e' : nsIn K mainGlobals y = some none) (hv' : bootBuiltins y = some (.builtin "len")) (hn' : (y == ("__name__" : Str)) = false) (hx' : env.kindOf y = some .globalImplicit) (hd' : (y == ("__debug__" : Str)) = false) (hs : noStar es = true)
    (hl : SiL W A fs env vis (spliced (backTo pos (starEach es env))) cl) :
    SiE W A fs env vis (eval (.Call (.Name y p') [.Call (.Name x p) es [] pos] [] pos') env) (fun r => bnd (cl r) fun vs => biV .lenset vs) := by
  intro s io m r Z hne
  dsimp only at hne ⊢
  refine wpAny_Call_NameR (name_B gl Z e' hv' hn' hx' hd' (Calls.callWith_builtin rfl (args_of (s := s) (es := [.Call (.Name x p) es [] pos]) rfl ?_)))
  refine PyProof.Rows.spliced_more ?_
  refine wpAny_Call_NameR (name_B gl Z e hv hn hx hd (PySem.callWith_type (plain_of hs) (args_of hs ?_)))
  refine wpAny_mono (hl s io m r Z (Res.bind_ne hne)) (fun us s₁ q => ?_) fun _ _ q => q.bind .refl (.refl _)
  refine hide fun GOAL hGOAL => ?_
  obtain ⟨vs, m₁, io₁, e1, st, H, k, sm⟩ := q
  refine hGOAL ?_
  clear hGOAL GOAL
  have ee : ∀ f : List V → Mn V, bnd (cl r) f m = f vs m₁ := fun f => by show (cl r m).bind _ = _; rw [e1]; rfl
  rw [ee] at hne ⊢
  show wpAny (model W.prog W.w) A (call (.type "set") us) _ _ s₁
  refine hide fun GOAL hGOAL => ?_
  obtain ⟨n, xs, is, rfl, hm, hk, hb, eq⟩ := lens_of hne
  refine hGOAL ?_
  clear hGOAL GOAL hne
  rw [eq]
  cases k with
  | cons k1 k2 =>
    cases k2
    cases k1 with
    | @ref n a d hi =>
      refine hide fun GOAL hGOAL => ?_
      obtain ⟨_, ws, c, h1, h2, h3⟩ := H.obj _ _ _ hi hm
      refine hGOAL ?_
      clear hGOAL GOAL
      obtain ⟨ia, il⟩ := ints_of (s := s₁) hk h2
      have sz : ws.size = is.length := by rw [h2.size, il]
      refine call_set_list hh ⟨_, h1, rfl, c, rfl⟩ ia (by rw [sz]; unfold scanBound; omega) fun h' tk hS hkp => ?_
      refine PyProof.Rows.spliced_none ?_
      rw [sz, first_dedup] at hS
      refine hide fun GOAL hGOAL => ?_
      obtain ⟨so, se, sep, stt, q1, q2, q3, _, _, q6, q7, q8⟩ := hS
      refine hGOAL ?_
      clear hGOAL GOAL
      have kp : ∀ b o, s₁.heap.get? b = some o → h'.get? b = some o := fun b o e => hkp b o (Heap.lt_size e) e
      show wpAny (model W.prog W.w) A (call (.builtin "len") [.ref s₁.heap.objs.size]) _ _ _
      refine call_len_set q1 q2 q3 q7 (by have : scanBound = 4096 := rfl; omega) ?_
      rw [q8]
      have := np_val (own := []) (fr := frs fs) (s := { s₁ with heap := h', toks := tk }) (tk := tk + 1 + 1) (H.of_keeps kp) (.int (dedupI is).length (tk + 1))
      exact (this.mono (.of_keeps H kp) ⟨rfl, rfl⟩).mono st sm
end
end Mini

/-! Instances: fields, methods, new ones. -/
namespace Mini
open PySem PySem.W PyProof.Rows

section
variable {W : Wd} {K : Frag} {h h' h₀ : Heap} {fs : List Env} {env : Env} {vis : List (Option Str)} {s s' s₀ : Shared} {io io' io₀ : Io} {m m' m₀ : MH} {r r' : Lo} {fr fr' own own' : List Addr} {A : Around} {n : Nat} {pos p apos : Pos}

end
end Mini

/-! The look at a tree: does it bear a core tree? -/
namespace Mini
open PySem PySem.W PyProof.Rows

structure Cx where
  sc : Scope
  vis : List (Option Str)
/-- what does not change in a program -/
structure Px where
  K : Frag
  S : Sig
  fa : Nat → Addr
  ca : Nat → Addr
  /-- loops may stand here (no exception is handled) -/
  loud : Bool
  /-- what may be called: all, or these -/
  ok : Option (List Nat)
  /-- what may be called while an exception is handled -/
  qok : List Nat
noncomputable def Px.can (P : Px) (k : Nat) : Bool := match P.ok with
  | none => true
  | some l => l.contains k
/-- within a handler -/
noncomputable def Px.quiet (P : Px) : Px := { P with loud := false, ok := some P.qok, qok := [] }

noncomputable def isLoc (Γ : Cx) (i : Nat) (x : Str) : Bool := (match Γ.vis[i]? with | some (some y) => y == x | _ => false) && (match Γ.sc.names.lookup x with | some .local => true | some .cell => true | some .free => true | _ => false) && !(x == ("__debug__" : Str)) && !(x == ("__classdict__" : Str))
noncomputable def isTgt (Γ : Cx) (i : Nat) (x : Str) : Bool := (match Γ.vis[i]? with | some (some y) => y == x | _ => false) && (match Γ.sc.names.lookup x with | some .local => true | some .cell => true | _ => false)
noncomputable def isGlb (Γ : Cx) (x : Str) : Bool := (match Γ.sc.names.lookup x with | some .globalImplicit => true | _ => false) && !(x == ("__debug__" : Str)) && !(x == ("__name__" : Str))
noncomputable def isBlt (P : Px) (Γ : Cx) (x : Str) (id : String) : Bool := isGlb Γ x && (match nsIn P.K mainGlobals x with | some none => true | _ => false) && (match bootBuiltins x with | some (.builtin y) => y == id | _ => false)
noncomputable def isTyp (P : Px) (Γ : Cx) (x : Str) (id : String) : Bool := isGlb Γ x && (match nsIn P.K mainGlobals x with | some none => true | _ => false) && (match bootBuiltins x with | some (.type y) => y == id | _ => false)
noncomputable def isFun (P : Px) (Γ : Cx) (k : Nat) (x : Str) : Bool := P.can k && isGlb Γ x && (match nsIn P.K mainGlobals x with | some (some (.ref a)) => a == P.fa k && (match P.K.lookup a with | some o => (match o.data with | .func _ => true | _ => false) | none => false) | _ => false)
noncomputable def isBi (P : Px) (Γ : Cx) (b : Bi) (x : Str) : Bool := match biFn b with
  | .builtin id => isBlt P Γ x id
  | .type id => isTyp P Γ x id
  | _ => false
/-! classes of exceptions -/
noncomputable def bmV : List Value := [.type "ValueError", .type "Exception", .type "BaseException", .type "object"]
noncomputable def clsV (P : Px) (c : Nat) : Value := match c with
  | 0 => .type "ValueError"
  | c => .ref (P.ca c)
noncomputable def isOwn (P : Px) (Γ : Cx) (c : Nat) (x : Str) : Bool := isGlb Γ x && (match nsIn P.K mainGlobals x with | some (some (.ref a)) => a == P.ca c | _ => false)
noncomputable def isCls (P : Px) (Γ : Cx) (c : Nat) (x : Str) : Bool := match c with
  | 0 => isTyp P Γ x "ValueError"
  | c + 1 => isOwn P Γ (c + 1) x
noncomputable def allCls (f : Nat → ClsD → Bool) : Nat → List ClsD → Bool
  | _, [] => true
  | k, d :: ds => f k d && allCls f (k + 1) ds
/-- isinstance of a class, for every exception -/
noncomputable def relI (P : Px) (c : Nat) (d : Nat) (x : ClsD) : Bool := !x.exc || (excCls P.K (P.ca d) && kitOne P.K (.ref (P.ca d)) (clsV P c) == some (x.supers.contains c))
/-- a clause takes what it should -/
noncomputable def relT (P : Px) (c : Nat) (d : Nat) (x : ClsD) : Bool := !(x.supers.contains c) || exmOne P.K (.ref (P.ca d)) (.ref (P.ca c)) == some true
/-! classes of objects -/
noncomputable def six {α : Type} (l : List α) : Option (α × α × α × α × α × α) := match l with
  | [] => none
  | a :: l => match l with
    | [] => none
    | b :: l => match l with
      | [] => none
      | c :: l => match l with
        | [] => none
        | d :: l => match l with
          | [] => none
          | e :: l => match l with
            | [] => none
            | f :: l => match l with
              | [] => some (a, b, c, d, e, f)
              | _ :: _ => none
noncomputable def clsIn (d : Data) : Option ClassData := match d with
  | .cls cd => some cd
  | _ => none
/-- a plain class: where its namespace lies -/
noncomputable def plainC (K : Frag) (C : Addr) : Option Addr := (K.lookup C).bind fun o => (clsIn o.data).bind fun cd => (six o.slots.toList).bind fun q =>
  if o.cls == .type "type" && cd.mro == [.ref C, .type "object"] && q.2.2.2.2.1 == some (.builtin "object.__new__") && !cd.hasDel && cd.hasDict && !cd.abstract && nsOkIn K cd.ns then some cd.ns else none
noncomputable def isCst : Lt → Const → Bool
  | .none, .none => true
  | .bool b, .bool d => b == d
  | .int i, .int j => i == j
  | .str x, .str y => x == y && PyData.strOk x
  | _, _ => false
/-- a value that was written at the top -/
noncomputable def isVal (v : Value) (l : Lt) : Bool := match l with
  | .int i => (match v with | .int j _ => i == j | _ => false)
  | .str x => (match v with | .str y _ => x == y && PyData.strOk x | _ => false)
  | .bool b => (match v with | .bool c => b == c | _ => false)
  | .none => (match v with | .none => true | _ => false)
noncomputable def isCon (P : Px) (Γ : Cx) (i : Nat) (x : Str) : Bool := isGlb Γ x && (nsIn P.K mainGlobals x).any fun o => o.any fun v => (P.S.globs[i]?).any fun p => isVal v p.2
noncomputable def isOp : Bool → BoolOp → Bool
  | true, .And => true
  | false, .Or => true
  | _, _ => false
noncomputable def eV {β : Type} (d : β) (hBoolOp : BoolOp → List Expr → β) (hBinOp : Expr → Operator → Expr → β) (hUnaryOp : UnaryOp → Expr → β) (hIfExp : Expr → Expr → Expr → β) (hDict : List (Option Expr) → List Expr → β) (hSet : β) (hListComp : Expr → List Comprehension → Scope → β) (hSetComp : β) (hDictComp : β) (hCompare : Expr → List CmpOp → List Expr → β) (hCall : Expr → List Expr → List Keyword → Pos → β) (hConstant : Const → β) (hAttribute : Expr → Str → Pos → β) (hSubscript : Expr → Expr → β) (hName : Str → Pos → β) (hList : List Expr → β) (hTuple : List Expr → β) (hSlice : Option Expr → Option Expr → Option Expr → β) (e : Expr) : β := Expr.casesOn (motive_1 := fun _ => β) e (fun a0 a1 _ => hBoolOp a0 a1) (fun _ _ _ => d) (fun a0 a1 a2 _ => hBinOp a0 a1 a2) (fun a0 a1 _ => hUnaryOp a0 a1) (fun _ _ _ _ => d) (fun a0 a1 a2 _ => hIfExp a0 a1 a2) (fun a0 a1 _ => hDict a0 a1) (fun _ _ _ => hSet) (fun a0 a1 a2 _ => hListComp a0 a1 a2) (fun _ _ _ _ => hSetComp) (fun _ _ _ _ _ => hDictComp) (fun _ _ _ _ => d) (fun _ _ => d) (fun _ _ => d) (fun _ _ => d) (fun a0 a1 a2 _ => hCompare a0 a1 a2) (fun a0 a1 a2 a3 => hCall a0 a1 a2 a3) (fun _ _ _ _ => d) (fun _ _ => d) (fun a0 _ _ => hConstant a0) (fun a0 a1 a2 => hAttribute a0 a1 a2) (fun a0 a1 _ => hSubscript a0 a1) (fun _ _ => d) (fun a0 a1 => hName a0 a1) (fun a0 _ => hList a0) (fun a0 _ _ => hTuple a0) (fun a0 a1 a2 _ => hSlice a0 a1 a2)
noncomputable def noSlice : Expr → Bool := eV true (fun _ _ => true) (fun _ _ _ => true) (fun _ _ => true) (fun _ _ _ => true) (fun _ _ => true) true (fun _ _ _ => true) true true (fun _ _ _ => true) (fun _ _ _ _ => true) (fun _ => true) (fun _ _ _ => true) (fun _ _ => true) (fun _ _ => true) (fun _ => true) (fun _ => true) (fun _ _ _ => false)
noncomputable def noSet : Expr → Bool := eV true (fun _ _ => true) (fun _ _ _ => true) (fun _ _ => true) (fun _ _ _ => true) (fun _ _ => true) false (fun _ _ _ => true) true true (fun _ _ _ => true) (fun _ _ _ _ => true) (fun _ => true) (fun _ _ _ => true) (fun _ _ => true) (fun _ _ => true) (fun _ => true) (fun _ => true) (fun _ _ _ => true)
noncomputable def noneC : CE → Bool
  | .cnst .none => true
  | _ => false
/-- a test that is a value's truth -/
noncomputable def isNot : UnaryOp → Bool | .Not => true | _ => false
noncomputable def plainT : Expr → Bool := eV true (fun _ _ => false) (fun _ _ _ => true) (fun op _ => !isNot op) (fun _ _ _ => false) (fun _ _ => true) true (fun _ _ _ => true) true true (fun _ _ _ => false) (fun _ _ _ _ => true) (fun _ => true) (fun _ _ _ => true) (fun _ _ => true) (fun _ _ => true) (fun _ => true) (fun _ => true) (fun _ _ _ => true)

/-- the names that a comprehension sees -/
noncomputable def seen (scope : Scope) (x : Str) : List (Option Str) → List (Option Str)
  | [] => [some x]
  | o :: r => (match o with | some y => (match scope.names.lookup y with | some .free => some y | _ => none) | none => none) :: seen scope x r
noncomputable def relab (scope : Scope) (sc : Scope) : Scope :=
  { scope with names := scope.names.map fun (n, k) => if (k == .free && sc.kind == .function && sc.names.lookup n == some .cell) then (n, .cell) else (n, k) }
noncomputable def compIn (scope : Scope) (x : Str) (Γ : Cx) : Cx := ⟨relab scope Γ.sc, seen scope x Γ.vis⟩
noncomputable def compLk (scope : Scope) (x : Str) (Γ : Cx) : Bool :=
  scope.kind == .function && (scope.names.all fun p => !(p.2 == .local) || scope.names.lookup p.1 == some .local) && (scope.names.all fun p => !(p.2 == .cell)) &&
  (scope.names.all fun p => !(p.2 == .free) || (Γ.vis.contains (some p.1) && (Γ.sc.names.lookup p.1 == some .cell || Γ.sc.names.lookup p.1 == some .free))) && scope.names.lookup x == some .local && decide (Γ.vis.filterMap id).Nodup && Γ.sc.kind == .function

/-! ## views -/
noncomputable def vConst : Expr → Option Const := eV none (fun _ _ => none) (fun _ _ _ => none) (fun _ _ => none) (fun _ _ _ => none) (fun _ _ => none) none (fun _ _ _ => none) none none (fun _ _ _ => none) (fun _ _ _ _ => none) (fun c => some c) (fun _ _ _ => none) (fun _ _ => none) (fun _ _ => none) (fun _ => none) (fun _ => none) (fun _ _ _ => none)
noncomputable def vName : Expr → Option (Str × Pos) := eV none (fun _ _ => none) (fun _ _ _ => none) (fun _ _ => none) (fun _ _ _ => none) (fun _ _ => none) none (fun _ _ _ => none) none none (fun _ _ _ => none) (fun _ _ _ _ => none) (fun _ => none) (fun _ _ _ => none) (fun _ _ => none) (fun x p => some (x, p)) (fun _ => none) (fun _ => none) (fun _ _ _ => none)
noncomputable def vBin : Expr → Option (Expr × Operator × Expr) := eV none (fun _ _ => none) (fun l op r => some (l, op, r)) (fun _ _ => none) (fun _ _ _ => none) (fun _ _ => none) none (fun _ _ _ => none) none none (fun _ _ _ => none) (fun _ _ _ _ => none) (fun _ => none) (fun _ _ _ => none) (fun _ _ => none) (fun _ _ => none) (fun _ => none) (fun _ => none) (fun _ _ _ => none)
noncomputable def vUn : Expr → Option (UnaryOp × Expr) := eV none (fun _ _ => none) (fun _ _ _ => none) (fun op x => some (op, x)) (fun _ _ _ => none) (fun _ _ => none) none (fun _ _ _ => none) none none (fun _ _ _ => none) (fun _ _ _ _ => none) (fun _ => none) (fun _ _ _ => none) (fun _ _ => none) (fun _ _ => none) (fun _ => none) (fun _ => none) (fun _ _ _ => none)
noncomputable def vBool : Expr → Option (BoolOp × List Expr) := eV none (fun op es => some (op, es)) (fun _ _ _ => none) (fun _ _ => none) (fun _ _ _ => none) (fun _ _ => none) none (fun _ _ _ => none) none none (fun _ _ _ => none) (fun _ _ _ _ => none) (fun _ => none) (fun _ _ _ => none) (fun _ _ => none) (fun _ _ => none) (fun _ => none) (fun _ => none) (fun _ _ _ => none)
noncomputable def vCmp : Expr → Option (Expr × List CmpOp × List Expr) := eV none (fun _ _ => none) (fun _ _ _ => none) (fun _ _ => none) (fun _ _ _ => none) (fun _ _ => none) none (fun _ _ _ => none) none none (fun l ops cs => some (l, ops, cs)) (fun _ _ _ _ => none) (fun _ => none) (fun _ _ _ => none) (fun _ _ => none) (fun _ _ => none) (fun _ => none) (fun _ => none) (fun _ _ _ => none)
noncomputable def vIf : Expr → Option (Expr × Expr × Expr) := eV none (fun _ _ => none) (fun _ _ _ => none) (fun _ _ => none) (fun t x y => some (t, x, y)) (fun _ _ => none) none (fun _ _ _ => none) none none (fun _ _ _ => none) (fun _ _ _ _ => none) (fun _ => none) (fun _ _ _ => none) (fun _ _ => none) (fun _ _ => none) (fun _ => none) (fun _ => none) (fun _ _ _ => none)
noncomputable def vTup : Expr → Option (List Expr) := eV none (fun _ _ => none) (fun _ _ _ => none) (fun _ _ => none) (fun _ _ _ => none) (fun _ _ => none) none (fun _ _ _ => none) none none (fun _ _ _ => none) (fun _ _ _ _ => none) (fun _ => none) (fun _ _ _ => none) (fun _ _ => none) (fun _ _ => none) (fun _ => none) (fun es => some es) (fun _ _ _ => none)
noncomputable def vList : Expr → Option (List Expr) := eV none (fun _ _ => none) (fun _ _ _ => none) (fun _ _ => none) (fun _ _ _ => none) (fun _ _ => none) none (fun _ _ _ => none) none none (fun _ _ _ => none) (fun _ _ _ _ => none) (fun _ => none) (fun _ _ _ => none) (fun _ _ => none) (fun _ _ => none) (fun es => some es) (fun _ => none) (fun _ _ _ => none)
noncomputable def vSub : Expr → Option (Expr × Expr) := eV none (fun _ _ => none) (fun _ _ _ => none) (fun _ _ => none) (fun _ _ _ => none) (fun _ _ => none) none (fun _ _ _ => none) none none (fun _ _ _ => none) (fun _ _ _ _ => none) (fun _ => none) (fun _ _ _ => none) (fun x y => some (x, y)) (fun _ _ => none) (fun _ => none) (fun _ => none) (fun _ _ _ => none)
noncomputable def vSlice : Expr → Option (Option Expr × Option Expr × Option Expr) := eV none (fun _ _ => none) (fun _ _ _ => none) (fun _ _ => none) (fun _ _ _ => none) (fun _ _ => none) none (fun _ _ _ => none) none none (fun _ _ _ => none) (fun _ _ _ _ => none) (fun _ => none) (fun _ _ _ => none) (fun _ _ => none) (fun _ _ => none) (fun _ => none) (fun _ => none) (fun l h s => some (l, h, s))
noncomputable def vCall : Expr → Option (Expr × List Expr × List Keyword × Pos) := eV none (fun _ _ => none) (fun _ _ _ => none) (fun _ _ => none) (fun _ _ _ => none) (fun _ _ => none) none (fun _ _ _ => none) none none (fun _ _ _ => none) (fun f es kws pos => some (f, es, kws, pos)) (fun _ => none) (fun _ _ _ => none) (fun _ _ => none) (fun _ _ => none) (fun _ => none) (fun _ => none) (fun _ _ _ => none)
noncomputable def vAttr : Expr → Option (Expr × Str × Pos) := eV none (fun _ _ => none) (fun _ _ _ => none) (fun _ _ => none) (fun _ _ _ => none) (fun _ _ => none) none (fun _ _ _ => none) none none (fun _ _ _ => none) (fun _ _ _ _ => none) (fun _ => none) (fun x nm p => some (x, nm, p)) (fun _ _ => none) (fun _ _ => none) (fun _ => none) (fun _ => none) (fun _ _ _ => none)
noncomputable def vComp : Expr → Option (Expr × List Comprehension × Scope) := eV none (fun _ _ => none) (fun _ _ _ => none) (fun _ _ => none) (fun _ _ _ => none) (fun _ _ => none) none (fun e gs sc => some (e, gs, sc)) none none (fun _ _ _ => none) (fun _ _ _ _ => none) (fun _ => none) (fun _ _ _ => none) (fun _ _ => none) (fun _ _ => none) (fun _ => none) (fun _ => none) (fun _ _ _ => none)
noncomputable def vOne {α : Type} : List α → Option α | [x] => some x | _ => none
noncomputable def vTwo {α : Type} : List α → Option (α × α) | [x, y] => some (x, y) | _ => none
/-- a call by name -/
noncomputable def vCallN (e : Expr) : Option (Str × List Expr) := (vCall e).bind fun q => if q.2.2.1.isEmpty then (vName q.1).map fun x => (x.1, q.2.1) else none
/-- what is gone over -/
noncomputable def mSrc (P : Px) (Γ : Cx) (f : List Expr → Bool) (k : IK) (e : Expr) : Bool := P.loud && match k with
  | .expr => f [e]
  | .range => (vCallN e).any fun q => isTyp P Γ q.1 "range" && noStar q.2 && f q.2
  | .enum => false

noncomputable def isTy (P : Px) (Γ : Cx) (t : Ty) (y : Str) : Bool := match t with
  | .cls c => isCls P Γ c y && allCls (relI P c) 0 P.S.cls
  | t => isTyp P Γ y (tyName t) && !(tyName t == "")

mutual
noncomputable def mE (P : Px) (Γ : Cx) : CE → Expr → Bool
  | .cnst v, e => (vConst e).any fun c => isCst v c
  | .var i, e => (vName e).any fun x => isLoc Γ i x.1
  | .bin op a b, e => (vBin e).any fun q => decide (op = q.2.1) && mE P Γ a q.1 && mE P Γ b q.2.2
  | .neg _, _ => false
  | .not a, e => (vUn e).any fun q => isNot q.1 && mE P Γ a q.2
  | .boolop c as, e => (vBool e).any fun q => isOp c q.1 && mEs P Γ as q.2 && !as.isEmpty
  | .cmp a ops bs, e => (vCmp e).any fun q => decide (ops = q.2.1) && mE P Γ a q.1 && mEs P Γ bs q.2.2 && decide (ops.length = bs.length) && !bs.isEmpty && q.2.2.all noSet
  | .ite c a b, e => (vIf e).any fun q => mB P Γ c q.1 && mE P Γ a q.2.1 && mE P Γ b q.2.2
  | .tup as, e => (vTup e).any fun es => mEs P Γ as es && noStar es && decide (as.length ≤ 1000)
  | .list as, e => (vList e).any fun es => mEs P Γ as es && noStar es && decide (as.length ≤ 1000)
  | .dict _ _, _ => false
  | .idx a i, e => (vSub e).any fun q => noSlice q.2 && mE P Γ a q.1 && mE P Γ i q.2
  | .slice a lo hi st, e => (vSub e).any fun q => mE P Γ a q.1 && (vSlice q.2).any fun t => t.1.elim (noneC lo) (fun l => mE P Γ lo l) && t.2.1.elim (noneC hi) (fun l => mE P Γ hi l) && t.2.2.elim (noneC st) (fun l => mE P Γ st l)
  | .call k as, e => (vCallN e).any fun q => isFun P Γ k q.1 && noStar q.2 && mEs P Γ as q.2
  | .bi b as, e => (vCallN e).any fun q => P.loud && (if b = .lenset then ((vOne q.2).any fun e1 => (vCallN e1).any fun p => isBlt P Γ q.1 "len" && isTyp P Γ p.1 "set" && noStar p.2 && mEs P Γ as p.2) else (biOk b && isBi P Γ b q.1 && noStar q.2 && mEs P Γ as q.2))
  | .smeth o n as, e => (vCall e).any fun q => (vAttr q.1).any fun t => t.2.1 == Str.ofString (smName n) && noSuper t.1 && noStar q.2.1 && decide (q.2.1.length < 29) && t.2.2.endLine == q.2.2.2.line && q.2.2.1.isEmpty && mE P Γ o t.1 && mEs P Γ as q.2.1
  | .isi a t, e => (vCallN e).any fun q => (vTwo q.2).any fun p => (vName p.2).any fun y => isBlt P Γ q.1 "isinstance" && isTy P Γ t y.1 && noStar [p.1] && mE P Γ a p.1
  | .listrange _, _ => false
  | .comp elt t nl k src ifs, e => (vComp e).any fun q => (vOne q.2.1).any fun g => (vName g.target).any fun x => decide (t = .one Γ.vis.length) && decide (nl = 1) && g.is_async == 0 && compLk q.2.2 x.1 Γ && noSet g.iter && mSrc P Γ (fun es => mEs P Γ src es) k g.iter && mIfs P (compIn q.2.2 x.1 Γ) ifs g.ifs && mE P (compIn q.2.2 x.1 Γ) elt q.1
  | .glob i, e => (vName e).any fun x => isCon P Γ i x.1
  | .fnv _, _ => false
  | .attr _ _, _ => false
  | .callv _ _, _ => false
  | .new _ _, _ => false
  | .meth _ _ _, _ => false
noncomputable def mEs (P : Px) (Γ : Cx) : List CE → List Expr → Bool
  | [], es => es.isEmpty
  | a :: as, es => match es with
    | [] => false
    | e :: es => mE P Γ a e && mEs P Γ as es
noncomputable def mB (P : Px) (Γ : Cx) : CB → Expr → Bool
  | .not b, e => (vUn e).any fun q => isNot q.1 && mB P Γ b q.2
  | .all c bs, e => (vBool e).any fun q => isOp c q.1 && mIfs P Γ bs q.2
  | .val c, e => (plainT e || (vCmp e).isSome) && mE P Γ c e
noncomputable def mIfs (P : Px) (Γ : Cx) : List CB → List Expr → Bool
  | [], es => es.isEmpty
  | b :: bs, es => match es with
    | [] => false
    | e :: es => mB P Γ b e && mIfs P Γ bs es
end

noncomputable def isComp : Expr → Bool := eV false (fun _ _ => false) (fun _ _ _ => false) (fun _ _ => false) (fun _ _ _ => false) (fun _ _ => false) false (fun _ _ _ => true) true true (fun _ _ _ => false) (fun _ _ _ _ => false) (fun _ => false) (fun _ _ _ => false) (fun _ _ => false) (fun _ _ => false) (fun _ => false) (fun _ => false) (fun _ _ _ => false)
noncomputable def sV {β : Type} (d : β) (hReturn : Option Expr → β) (hAssign : List Expr → Expr → Pos → β) (hFor : Expr → Expr → List Stmt → List Stmt → β) (hWhile : Expr → List Stmt → List Stmt → β) (hIf : Expr → List Stmt → List Stmt → β) (hRaise : Option Expr → Option Expr → β) (hTry : List Stmt → List ExceptHandler → List Stmt → List Stmt → β) (hExpr : Expr → β) (hPass : β) (hContinue : β) (e : Stmt) : β := Stmt.casesOn (motive_2 := fun _ => β) e (fun _ _ _ _ _ _ _ _ _ _ => d) (fun _ _ _ _ _ _ _ _ _ _ => d) (fun _ _ _ _ _ _ _ _ _ _ _ => d) (fun a0 _ => hReturn a0) (fun _ _ => d) (fun a0 a1 a2 => hAssign a0 a1 a2) (fun _ _ _ _ _ _ _ => d) (fun _ _ _ _ => d) (fun _ _ _ _ _ => d) (fun a0 a1 a2 a3 _ => hFor a0 a1 a2 a3) (fun _ _ _ _ _ => d) (fun a0 a1 a2 _ => hWhile a0 a1 a2) (fun a0 a1 a2 _ => hIf a0 a1 a2) (fun _ _ _ => d) (fun _ _ _ => d) (fun _ _ _ => d) (fun a0 a1 _ => hRaise a0 a1) (fun a0 a1 a2 a3 _ => hTry a0 a1 a2 a3) (fun _ _ _ _ _ => d) (fun _ _ _ => d) (fun _ _ => d) (fun _ _ _ _ => d) (fun _ _ => d) (fun _ _ => d) (fun a0 _ => hExpr a0) (fun _ => hPass) (fun _ => d) (fun _ => hContinue)
noncomputable def vAsg : Stmt → Option (List Expr × Expr × Pos) := sV none (fun _ => none) (fun ts v pos => some (ts, v, pos)) (fun _ _ _ _ => none) (fun _ _ _ => none) (fun _ _ _ => none) (fun _ _ => none) (fun _ _ _ _ => none) (fun _ => none) none none
noncomputable def vExp : Stmt → Option Expr := sV none (fun _ => none) (fun _ _ _ => none) (fun _ _ _ _ => none) (fun _ _ _ => none) (fun _ _ _ => none) (fun _ _ => none) (fun _ _ _ _ => none) (fun v => some v) none none
noncomputable def vIfS : Stmt → Option (Expr × List Stmt × List Stmt) := sV none (fun _ => none) (fun _ _ _ => none) (fun _ _ _ _ => none) (fun _ _ _ => none) (fun t x y => some (t, x, y)) (fun _ _ => none) (fun _ _ _ _ => none) (fun _ => none) none none
noncomputable def vFor : Stmt → Option (Expr × Expr × List Stmt × List Stmt) := sV none (fun _ => none) (fun _ _ _ => none) (fun t i b e => some (t, i, b, e)) (fun _ _ _ => none) (fun _ _ _ => none) (fun _ _ => none) (fun _ _ _ _ => none) (fun _ => none) none none
noncomputable def vRet : Stmt → Option (Option Expr) := sV none (fun v => some v) (fun _ _ _ => none) (fun _ _ _ _ => none) (fun _ _ _ => none) (fun _ _ _ => none) (fun _ _ => none) (fun _ _ _ _ => none) (fun _ => none) none none
noncomputable def vCont : Stmt → Bool := sV false (fun _ => false) (fun _ _ _ => false) (fun _ _ _ _ => false) (fun _ _ _ => false) (fun _ _ _ => false) (fun _ _ => false) (fun _ _ _ _ => false) (fun _ => false) false true
noncomputable def vPass : Stmt → Bool := sV false (fun _ => false) (fun _ _ _ => false) (fun _ _ _ _ => false) (fun _ _ _ => false) (fun _ _ _ => false) (fun _ _ => false) (fun _ _ _ _ => false) (fun _ => false) true false
noncomputable def vRse : Stmt → Option (Option Expr × Option Expr) := sV none (fun _ => none) (fun _ _ _ => none) (fun _ _ _ _ => none) (fun _ _ _ => none) (fun _ _ _ => none) (fun e c => some (e, c)) (fun _ _ _ _ => none) (fun _ => none) none none
noncomputable def vTry : Stmt → Option (List Stmt × List ExceptHandler × List Stmt × List Stmt) := sV none (fun _ => none) (fun _ _ _ => none) (fun _ _ _ _ => none) (fun _ _ _ => none) (fun _ _ _ => none) (fun _ _ => none) (fun b h o f => some (b, h, o, f)) (fun _ => none) none none
/-- a clause: its class, its name, what it returns -/
noncomputable def vHand : ExceptHandler → Option (Expr × Option Str × Expr)
  | .ExceptHandler (some t) nm [s] _ => (vRet s).bind fun o => o.map fun e => (t, nm, e)
  | _ => none
noncomputable def okNm (Γ : Cx) (ni : Option Nat) (nm : Option Str) : Bool := match ni, nm with
  | none, none => true
  | some i, some x => (match Γ.vis[i]? with | some (some y) => y == x | _ => false) && (match Γ.sc.names.lookup x with | some .local => true | _ => false)
  | _, _ => false
mutual
/-- no assignment stands here -/
noncomputable def qS : CS → Bool
  | .exp _ => true
  | .ret _ => true
  | .ite _ a b => qSs a && qSs b
  | _ => false
noncomputable def qSs : List CS → Bool
  | [] => true
  | c :: cs => qS c && qSs cs
end
/-- a name takes a value: a comprehension's store goes ahead -/
noncomputable def okComp (Γ : Cx) (y : Str × Pos) (v : Expr) : Bool := !isComp v || (vComp v).any fun q => !(Γ.sc.names.lookup y.1 == some .local) || (y.2.line == v.pos.line && !(q.2.2.names.any fun (n, k) => n == y.1 && (k == .local || k == .cell)))
noncomputable def mT (Γ : Cx) (t : CT) (e : Expr) : Bool := match t with
  | .one i => (vName e).any fun x => isTgt Γ i x.1
  | .many _ => false
noncomputable def mTs (Γ : Cx) : List Nat → List Expr → Bool
  | [], es => es.isEmpty
  | i :: is, es => match es with
    | [] => false
    | e :: es => (vName e).any (fun x => isTgt Γ i x.1) && mTs Γ is es
noncomputable def mTF (Γ : Cx) (t : CT) (e : Expr) : Bool := match t with
  | .one i => (vName e).any fun x => isTgt Γ i x.1
  | .many is => (vTup e).any fun es => mTs Γ is es
noncomputable def mAsg (P : Px) (Γ : Cx) (t : CTgt) (c : CE) (tg v : Expr) : Bool := match t with
  | .one t => match t with
    | .one i => mT Γ (.one i) tg && mE P Γ c v && (vName tg).any fun y => okComp Γ y v
    | .many is => P.loud && mTF Γ (.many is) tg && mE P Γ c v && !isComp v && (vTup v).isNone
  | .idx o i => (vSub tg).any fun q => mE P Γ o q.1 && mE P Γ i q.2 && mE P Γ c v && !isComp v
  | .attr _ _ => false
  | .idx2 o i o' i' => (vTup tg).any fun es => (vTwo es).any fun p => (vSub p.1).any fun q => (vSub p.2).any fun q' => P.loud && mE P Γ o q.1 && mE P Γ i q.2 && mE P Γ o' q'.1 && mE P Γ i' q'.2 && mE P Γ c v && !isComp v
mutual
noncomputable def mS (P : Px) (Γ : Cx) : CS → Stmt → Bool
  | .asg t e, s => (vAsg s).any fun q => (vOne q.1).any fun tg => mAsg P Γ t e tg q.2.1
  | .exp e, s => (vExp s).any fun v => mE P Γ e v && !isComp v
  | .ite c a b, s => (vIfS s).any fun q => mB P Γ c q.1 && mSs P Γ a q.2.1 && mSs P Γ b q.2.2
  | .for_ k t src body, s => (vFor s).any fun q => q.2.2.2.isEmpty && mTF Γ t q.1 && noSet q.2.1 && mSrc P Γ (fun es => mEs P Γ src es) k q.2.1 && mSs P Γ body q.2.2.1
  | .wh _ _, _ => false
  | .ret e, s => (vRet s).any fun o => o.any fun v => mE P Γ e v
  | .cont, s => vCont s
  | .pass, s => vPass s
  | .rse c msg, s => (vRse s).any fun q => q.2.isNone && q.1.any fun e => (vCallN e).any fun t => P.loud && isOwn P Γ c t.1 && excIn P.K (P.ca c) bmV "ValueError.__new__" && noStar t.2 && mEs P Γ [.cnst (.str msg)] t.2
  | .try_ body c ni h, s => (vTry s).any fun q => q.2.2.1.isEmpty && q.2.2.2.isEmpty && (vOne q.2.1).any fun hd => (vHand hd).any fun t => (vName t.1).any fun x => isOwn P Γ c x.1 && allCls (relT P c) 0 P.S.cls && okNm Γ ni t.2.1 && qSs body && mSs P Γ body q.1 && mE P.quiet Γ h t.2.2
noncomputable def mSs (P : Px) (Γ : Cx) : List CS → List Stmt → Bool
  | [], ss => ss.isEmpty
  | a :: as, ss => match ss with
    | [] => false
    | s :: ss => mS P Γ a s && mSs P Γ as ss
end

/-- a function -/
noncomputable def mF (P : Px) (k : Nat) (d : FnD) : Bool := match P.K.lookup (P.fa k) with
  | some o => (match o.data with
    | .func fd => (match fd.body with
      | .stmts body => o.cls == .type "function" && fnHead P.K fd d && mSs P ⟨fd.scope, d.names.map some⟩ d.body body
      | _ => false)
    | _ => false)
  | none => false
noncomputable def mFs (P : Px) : Nat → List FnD → Bool
  | _, [] => true
  | k, d :: ds => (!P.can k || mF P k d) && mFs P (k + 1) ds
end Mini

/-! A tree that bears a core tree goes as the core tree does: expressions. -/
namespace Mini
open PySem PySem.W PyProof.Rows

structure Fx (W : Wd) (P : Px) (A : Around) (fs : List Env) (n : Nat) (F : Fns) : Prop where
  gl : Gl W P.K
  R : AR A fs n
  S : W.S = P.S
  fa : W.fa = P.fa
  ca : W.ca = P.ca
  hh : P.loud = true → A.handled = none
  calls : ∀ k, P.can k = true → SiF W A fs (.ref (W.fa k)) (F k)
  new : P.ok = none → ∀ k, k < P.S.fns.length → SiK W (born A) fs (.ref (W.fa k)) (F k)
  qcalls : ∀ A', AR A' fs n → ∀ k, P.qok.contains k = true → SiF W A' fs (.ref (W.fa k)) (F k)
  objs : P.ok = none → ∀ k, k < P.S.fns.length → ∃ o fd, P.K.lookup (P.fa k) = some o ∧ o.data = .func fd ∧ o.cls = .type "function"

section
variable {W : Wd} {P : Px} {fs : List Env} {env : Env} {A : Around} {n : Nat} {F : Fns} {pos p : Pos} {Γ : Cx}

theorem glb_of {x : Str} (hsc : env.scope = Γ.sc) (h : isGlb Γ x = true) : env.kindOf x = some .globalImplicit ∧ (x == ("__debug__" : Str)) = false ∧ (x == ("__name__" : Str)) = false := by
  simp only [isGlb, Bool.and_eq_true, Bool.not_eq_true'] at h
  refine hide fun GOAL hGOAL => ?_
  obtain ⟨⟨h1, h2⟩, h3⟩ := h
  refine hGOAL ?_
  clear hGOAL GOAL
  refine ⟨?_, h2, h3⟩
  show env.scope.names.lookup x = _
  rw [hsc]
  split at h1
  · assumption
  · cases h1
theorem blt_of {x : Str} {id : String} (hsc : env.scope = Γ.sc) (h : isBlt P Γ x id = true) : env.kindOf x = some .globalImplicit ∧ (x == ("__debug__" : Str)) = false ∧ (x == ("__name__" : Str)) = false ∧ nsIn P.K mainGlobals x = some none ∧ bootBuiltins x = some (.builtin id) := by
  simp only [isBlt, Bool.and_eq_true] at h
  refine hide fun GOAL hGOAL => ?_
  obtain ⟨⟨h1, h2⟩, h3⟩ := h
  refine hGOAL ?_
  clear hGOAL GOAL
  refine hide fun GOAL hGOAL => ?_
  obtain ⟨a, b, c⟩ := glb_of hsc h1
  refine hGOAL ?_
  clear hGOAL GOAL
  refine ⟨a, b, c, ?_, ?_⟩
  · split at h2
    · assumption
    · cases h2
  · split at h3
    · rename_i e; rw [e, beq_iff_eq.mp h3]
    · cases h3
theorem typ_of {x : Str} {id : String} (hsc : env.scope = Γ.sc) (h : isTyp P Γ x id = true) : env.kindOf x = some .globalImplicit ∧ (x == ("__debug__" : Str)) = false ∧ (x == ("__name__" : Str)) = false ∧ nsIn P.K mainGlobals x = some none ∧ bootBuiltins x = some (.type id) := by
  simp only [isTyp, Bool.and_eq_true] at h
  refine hide fun GOAL hGOAL => ?_
  obtain ⟨⟨h1, h2⟩, h3⟩ := h
  refine hGOAL ?_
  clear hGOAL GOAL
  refine hide fun GOAL hGOAL => ?_
  obtain ⟨a, b, c⟩ := glb_of hsc h1
  refine hGOAL ?_
  clear hGOAL GOAL
  refine ⟨a, b, c, ?_, ?_⟩
  · split at h2
    · assumption
    · cases h2
  · split at h3
    · rename_i e; rw [e, beq_iff_eq.mp h3]
    · cases h3
theorem fun_of {x : Str} {k : Nat} (hsc : env.scope = Γ.sc) (h : isFun P Γ k x = true) : P.can k = true ∧ env.kindOf x = some .globalImplicit ∧ (x == ("__debug__" : Str)) = false ∧ nsIn P.K mainGlobals x = some (some (.ref (P.fa k))) ∧ ∃ o fd, P.K.lookup (P.fa k) = some o ∧ o.data = .func fd := by
  simp only [isFun, Bool.and_eq_true] at h
  obtain ⟨⟨h0, h1⟩, h2⟩ := h
  refine hide fun GOAL hGOAL => ?_
  obtain ⟨a, b, _⟩ := glb_of hsc h1
  refine hGOAL ?_
  clear hGOAL GOAL
  split at h2
  · rename_i q e
    simp only [Bool.and_eq_true, beq_iff_eq] at h2
    obtain ⟨e1, h2⟩ := h2
    subst e1
    refine ⟨h0, a, b, e, ?_⟩
    split at h2
    · rename_i o ho
      split at h2
      · rename_i fd hd; exact ⟨o, fd, ho, hd⟩
      · cases h2
    · cases h2
  · cases h2

theorem own_of {x : Str} {c : Nat} (hsc : env.scope = Γ.sc) (h : isOwn P Γ c x = true) : env.kindOf x = some .globalImplicit ∧ (x == ("__debug__" : Str)) = false ∧ nsIn P.K mainGlobals x = some (some (.ref (P.ca c))) := by
  obtain ⟨h1, h2⟩ := Bool.and_eq_true_iff.mp h
  obtain ⟨a, b, _⟩ := glb_of hsc h1
  refine ⟨a, b, ?_⟩
  split at h2
  · rename_i q e; rw [e, beq_iff_eq.mp h2]
  · cases h2
theorem allCls_get {f : Nat → ClsD → Bool} : ∀ {ds : List ClsD} {j i : Nat} {d : ClsD}, allCls f j ds = true → ds[i]? = some d → f (j + i) d = true
  | [], j, i, d, _, h => by simp at h
  | x :: ds, j, i, d, hm, h => by
    obtain ⟨h1, h2⟩ := Bool.and_eq_true_iff.mp hm
    cases i with
    | zero =>
      have e : x = d := by simpa using h
      rw [e] at h1; exact h1
    | succ i =>
      have := allCls_get h2 (show ds[i]? = some d by simpa using h)
      rwa [show j + 1 + i = j + (i + 1) by omega] at this
theorem evs_len {S : Sig} : ∀ {cs : List CE} {r : Lo} {m : MH} {vs : List V} {m' : MH}, evs S F cs r m = .ok vs m' → vs.length = cs.length
  | [], r, m, vs, m', h => by cases h; rfl
  | c :: cs, r, m, vs, m', h => by
    have h' : (ev S F c r m).bind (fun x => bnd (evs S F cs r) fun xs => ret (x :: xs)) = .ok vs m' := h
    cases e1 : ev S F c r m with
    | bad => rw [e1] at h'; cases h'
    | exc k m1 => rw [e1] at h'; cases h'
    | ok x m1 =>
      rw [e1] at h'
      have h2 : (evs S F cs r m1).bind (fun xs => ret (x :: xs)) = .ok vs m' := h'
      cases e2 : evs S F cs r m1 with
      | bad => rw [e2] at h2; cases h2
      | exc k m2 => rw [e2] at h2; cases h2
      | ok xs m2 =>
        rw [e2] at h2; cases h2
        simp [evs_len e2]

theorem op_of {c : Bool} {op : BoolOp} (h : isOp c op = true) : (op = .And ∧ c = true) ∨ (op = .Or ∧ c = false) := by
  cases c <;> cases op <;> first | (exact absurd h Bool.false_ne_true) | simp

theorem seen_len (scope : Scope) (x : Str) : ∀ vis, (seen scope x vis).length = vis.length + 1
  | [] => rfl
  | _ :: r => by simp [seen, seen_len scope x r]
theorem seen_get (scope : Scope) (x : Str) : ∀ (vis : List (Option Str)) (i : Nat) (y : Str), (seen scope x vis)[i]? = some (some y) → (i = vis.length ∧ y = x) ∨ (vis[i]? = some (some y) ∧ scope.names.lookup y = some .free)
  | [], i, y, h => by
    cases i with
    | zero => simp [seen] at h; exact .inl ⟨rfl, h.symm⟩
    | succ i => simp [seen] at h
  | o :: r, i, y, h => by
    cases i with
    | zero =>
      simp only [seen, List.getElem?_cons_zero, Option.some.injEq] at h
      right
      split at h
      · split at h
        · rename_i e; cases h; exact ⟨rfl, e⟩
        · cases h
      · cases h
    | succ i =>
      simp only [seen, List.getElem?_cons_succ] at h
      rcases seen_get scope x r i y h with ⟨a, b⟩ | a
      · exact .inl ⟨by simp [a], b⟩
      · exact .inr (by simpa using a)
theorem seen_last (scope : Scope) (x : Str) : ∀ (vis : List (Option Str)), (seen scope x vis)[vis.length]? = some (some x)
  | [] => rfl
  | _ :: r => by simp [seen, seen_last scope x r]
theorem nodup_inj : ∀ {vis : List (Option Str)}, (vis.filterMap id).Nodup → ∀ (i j : Nat) (y : Str), vis[i]? = some (some y) → vis[j]? = some (some y) → i = j
  | [], _, i, j, y, h, _ => by simp at h
  | o :: r, hn, i, j, y, h1, h2 => by
    have tail : (r.filterMap id).Nodup := by
      cases o with
      | none => simpa using hn
      | some z => simp at hn; exact hn.2
    have no : o = some y → ∀ k : Nat, r[k]? = some (some y) → False := fun e k hk => by
      subst e
      simp at hn
      exact hn.1 (List.mem_of_getElem? hk)
    cases i with
    | zero =>
      cases j with
      | zero => rfl
      | succ j => simp at h1 h2; exact (no h1 j h2).elim
    | succ i =>
      cases j with
      | zero => simp at h1 h2; exact (no h2 i h1).elim
      | succ j => simp at h1 h2; rw [nodup_inj tail i j y h1 h2]

theorem compOk_of {scope : Scope} {x : Str} (hsc : env.scope = Γ.sc) (h : compLk scope x Γ = true) : CompOk scope env Γ.vis (seen scope x Γ.vis) 1 := by
  simp only [compLk, Bool.and_eq_true, beq_iff_eq, decide_eq_true_eq] at h
  refine hide fun GOAL hGOAL => ?_
  obtain ⟨⟨⟨⟨⟨⟨h1, h2⟩, h3⟩, h4⟩, h5⟩, h6⟩, h7⟩ := h
  refine hGOAL ?_
  clear hGOAL GOAL
  refine ⟨h1, fun q hq e => ?_, fun q hq e => ?_, fun q hq e => ?_, fun i y hy => ?_, fun i j y h1' h2' => ?_, seen_len ..⟩
  · have := List.all_eq_true.mp h2 q hq
    simpa [e] using this
  · have := List.all_eq_true.mp h3 q hq
    simp [e] at this
  · have := List.all_eq_true.mp h4 q hq
    simp only [e, beq_self_eq_true, Bool.not_true, Bool.false_or, Bool.and_eq_true, Bool.or_eq_true, beq_iff_eq] at this
    obtain ⟨a, b⟩ := this
    obtain ⟨i, hi⟩ := List.getElem?_of_mem (List.contains_iff_mem.mp a)
    refine ⟨i, hi, ?_⟩
    show env.scope.names.lookup q.1 = _ ∨ env.scope.names.lookup q.1 = _
    rw [hsc]; exact b
  · rcases seen_get scope x Γ.vis i y hy with ⟨a, b⟩ | ⟨a, b⟩
    · exact .inl ⟨by omega, by rw [b]; exact h5⟩
    · exact .inr ⟨a, b⟩
  · rcases seen_get scope x Γ.vis i y h1' with ⟨a, b⟩ | ⟨a, b⟩ <;> rcases seen_get scope x Γ.vis j y h2' with ⟨c, d⟩ | ⟨c, d⟩
    · omega
    · rw [b, h5] at d; cases d
    · rw [d, h5] at b; cases b
    · exact nodup_inj h6 i j y a c

theorem relab_eq {scope : Scope} (hsc : env.scope = Γ.sc) : relabel scope env = relab scope Γ.sc := by
  unfold relabel relab Env.kindOf
  rw [hsc]

theorem set_of {iter : Expr} (h : noSet iter = true) (x : Value) : foldedSetIterable iter env x = Pure.pure x := by
  unfold foldedSetIterable
  cases iter <;> first | (exact absurd h Bool.false_ne_true) | rfl
theorem marks_of {op : CmpOp} {e : Expr} (h : noSet e = true) : behindInMarks op e = false := by
  cases e <;> first | (exact absurd h Bool.false_ne_true) | rfl
theorem plain_of_test {e : Expr} (h : plainT e = true) : isTrue e env (eval e env) = (do let v ← eval e env; PySem.standAt e.pos; PySem.holding [v] (truthy v)) := by
  cases e <;> first | rfl | (exact absurd h Bool.false_ne_true) | skip
  rename_i op x pos
  cases op <;> first | rfl | (exact absurd h Bool.false_ne_true)
end
end Mini

/-! Classes of objects: what the look at them gives. -/
namespace Mini
open PySem PySem.W PyProof.Rows

theorem no_true {C : Prop} (h : false = true) : C := by cases h
theorem and_of {a b : Bool} (h : (a && b) = true) : a = true ∧ b = true := by cases a <;> cases b <;> first | (exact ⟨rfl, rfl⟩) | (exact no_true h)
theorem of_dec {p : Prop} [Decidable p] (h : decide p = true) : p := of_decide_eq_true h
section
variable {W : Wd} {P : Px} {fs : List Env} {env : Env} {A : Around} {n : Nat} {F : Fns} {pos p : Pos} {Γ : Cx} {K : Frag} {h : Heap}

end
end Mini

/-! A tree that bears a core tree goes as the core tree does: expressions, whole. -/
namespace Mini
open PySem PySem.W PyProof.Rows

section
variable {W : Wd} {P : Px} {fs : List Env} {A : Around} {n : Nat} {F : Fns}

theorem e_isi {vis : List (Option Str)} {env : Env} {x y : Str} {a : Expr} {pos px py : Pos} {t : Ty} {tv : Value} {ca : Lo → Mn V} {K : Frag} (gl : Gl W K) (e1 : nsIn K mainGlobals x = some none) (b1 : bootBuiltins x = some (.builtin "isinstance")) (n1 : (x == ("__name__" : Str)) = false) (k1 : env.kindOf x = some .globalImplicit) (d1 : (x == ("__debug__" : Str)) = false)
    (hy : ∀ {s : Shared} {io : Io} {m : MH} {r : Lo} {Q : Value → Shared → Prop} {E : Value → Shared → Prop}, Sit W fs env vis s io m r → Q tv s → wpAny (model W.prog W.w) A (eval (.Name y py) env) Q E s)
    (hsim : ∀ {s : Shared} {io : Io} {m : MH} {v : V} {u : Value}, HR W s.heap io m → VR W s.heap io v u → Si W [] A fs BV (call (.builtin "isinstance") [u, tv]) s io m (isiV W.S v t m)) (hs : noStar [a] = true) (ha : SiE W A fs env vis (eval a env) ca) :
    SiE W A fs env vis (eval (.Call (.Name x px) [a, .Name y py] [] pos) env) (fun r => bnd (ca r) fun v => bnd (isiV W.S v t) fun b => ret (.bool b)) := by
  intro s io m r Z hne
  dsimp only at hne ⊢
  have hs' : noStar [a, .Name y py] = true := by cases a <;> first | rfl | exact absurd hs Bool.false_ne_true
  refine wpAny_Call_NameR (name_B gl Z e1 b1 n1 k1 d1 (Calls.callWith_builtin (plain_of hs') (args_of hs' ?_)))
  refine PyProof.Rows.spliced_more ?_ (star_cons hs')
  refine wpAny_mono (ha s io m r Z (Res.bind_ne hne)) (fun u s₁ q => ?_) fun _ _ q => q.bind .refl (.refl _)
  obtain ⟨v, m₁, io₁, e, st, H, k, sm⟩ := q
  have ee : ∀ f : V → Mn V, bnd (ca r) f m = f v m₁ := fun f => by show (ca r m).bind _ = _; rw [e]; rfl
  rw [ee] at hne ⊢
  refine PyProof.Rows.spliced_more (hy (Z.step H st) ?_) rfl
  refine PyProof.Rows.spliced_none ?_
  show wpAny (model W.prog W.w) A (call (.builtin "isinstance") [u, tv]) _ _ s₁
  refine wpAny_mono (hsim H k (Res.bind_ne hne)) (fun w s₂ q => ?_) fun _ _ q => (q.mono st sm).bind .refl (.refl _)
  obtain ⟨b, m₂, io₂, e', st2, H2, k2', sm2⟩ := q
  cases k2'
  exact ⟨.bool b, m₂, io₂, by show (isiV W.S v t m₁).bind _ = _; rw [e']; rfl, st.trans st2, H2, .bool b, sm.trans sm2⟩

theorem ty_of {t : Ty} (h : (!(tyName t == "")) = true) : ∀ c, t ≠ .cls c := fun c e => by subst e; exact absurd h Bool.false_ne_true


theorem no_some {α : Type} {a : α} {C : Prop} (h : (none : Option α) = some a) : C := by cases h
theorem no_cons {α : Type} {a : α} {l : List α} {C : Prop} (h : [] = a :: l) : C := by cases h
theorem no_succ {n : Nat} {C : Prop} (h : 0 = n + 1) : C := by cases h
theorem any_of {α : Type} {o : Option α} {f : α → Bool} (h : o.any f = true) : ∃ a, o = some a ∧ f a = true := by
  cases o with
  | none => exact no_true h
  | some a => exact ⟨a, rfl, h⟩
noncomputable def IsConst (c : Const) (e : Expr) : Prop := ∃ k pos, e = .Constant c k pos
theorem vConst_of' {e : Expr} {c : Const} (h : vConst e = some c) : IsConst c e :=
  Expr.casesOn (motive_1 := fun e => vConst e = some c → IsConst c e) e (fun _ _ _ h => no_some h) (fun _ _ _ h => no_some h) (fun _ _ _ _ h => no_some h) (fun _ _ _ h => no_some h) (fun _ _ _ _ h => no_some h) (fun _ _ _ _ h => no_some h) (fun _ _ _ h => no_some h) (fun _ _ _ h => no_some h) (fun _ _ _ _ h => no_some h) (fun _ _ _ _ h => no_some h) (fun _ _ _ _ _ h => no_some h) (fun _ _ _ _ h => no_some h) (fun _ _ h => no_some h) (fun _ _ h => no_some h) (fun _ _ h => no_some h) (fun _ _ _ _ h => no_some h) (fun _ _ _ _ h => no_some h) (fun _ _ _ _ h => no_some h) (fun _ _ h => no_some h) (fun _ _ _ h => by cases h; exact ⟨_, _, rfl⟩) (fun _ _ _ h => no_some h) (fun _ _ _ h => no_some h) (fun _ _ h => no_some h) (fun _ _ h => no_some h) (fun _ _ h => no_some h) (fun _ _ _ h => no_some h) (fun _ _ _ _ h => no_some h) h
theorem vConst_of {e : Expr} {c : Const} (h : vConst e = some c) : ∃ k pos, e = .Constant c k pos := vConst_of' h
noncomputable def IsName (c : Str × Pos) (e : Expr) : Prop := e = .Name c.1 c.2
theorem vName_of' {e : Expr} {c : Str × Pos} (h : vName e = some c) : IsName c e :=
  Expr.casesOn (motive_1 := fun e => vName e = some c → IsName c e) e (fun _ _ _ h => no_some h) (fun _ _ _ h => no_some h) (fun _ _ _ _ h => no_some h) (fun _ _ _ h => no_some h) (fun _ _ _ _ h => no_some h) (fun _ _ _ _ h => no_some h) (fun _ _ _ h => no_some h) (fun _ _ _ h => no_some h) (fun _ _ _ _ h => no_some h) (fun _ _ _ _ h => no_some h) (fun _ _ _ _ _ h => no_some h) (fun _ _ _ _ h => no_some h) (fun _ _ h => no_some h) (fun _ _ h => no_some h) (fun _ _ h => no_some h) (fun _ _ _ _ h => no_some h) (fun _ _ _ _ h => no_some h) (fun _ _ _ _ h => no_some h) (fun _ _ h => no_some h) (fun _ _ _ h => no_some h) (fun _ _ _ h => no_some h) (fun _ _ _ h => no_some h) (fun _ _ h => no_some h) (fun _ _ h => by cases h; rfl) (fun _ _ h => no_some h) (fun _ _ _ h => no_some h) (fun _ _ _ _ h => no_some h) h
theorem vName_of {e : Expr} {c : Str × Pos} (h : vName e = some c) : e = .Name c.1 c.2 := vName_of' h
noncomputable def IsBin (c : Expr × Operator × Expr) (e : Expr) : Prop := ∃ pos, e = .BinOp c.1 c.2.1 c.2.2 pos
theorem vBin_of' {e : Expr} {c : Expr × Operator × Expr} (h : vBin e = some c) : IsBin c e :=
  Expr.casesOn (motive_1 := fun e => vBin e = some c → IsBin c e) e (fun _ _ _ h => no_some h) (fun _ _ _ h => no_some h) (fun _ _ _ _ h => by cases h; exact ⟨_, rfl⟩) (fun _ _ _ h => no_some h) (fun _ _ _ _ h => no_some h) (fun _ _ _ _ h => no_some h) (fun _ _ _ h => no_some h) (fun _ _ _ h => no_some h) (fun _ _ _ _ h => no_some h) (fun _ _ _ _ h => no_some h) (fun _ _ _ _ _ h => no_some h) (fun _ _ _ _ h => no_some h) (fun _ _ h => no_some h) (fun _ _ h => no_some h) (fun _ _ h => no_some h) (fun _ _ _ _ h => no_some h) (fun _ _ _ _ h => no_some h) (fun _ _ _ _ h => no_some h) (fun _ _ h => no_some h) (fun _ _ _ h => no_some h) (fun _ _ _ h => no_some h) (fun _ _ _ h => no_some h) (fun _ _ h => no_some h) (fun _ _ h => no_some h) (fun _ _ h => no_some h) (fun _ _ _ h => no_some h) (fun _ _ _ _ h => no_some h) h
theorem vBin_of {e : Expr} {c : Expr × Operator × Expr} (h : vBin e = some c) : ∃ pos, e = .BinOp c.1 c.2.1 c.2.2 pos := vBin_of' h
noncomputable def IsUn (c : UnaryOp × Expr) (e : Expr) : Prop := ∃ pos, e = .UnaryOp c.1 c.2 pos
theorem vUn_of' {e : Expr} {c : UnaryOp × Expr} (h : vUn e = some c) : IsUn c e :=
  Expr.casesOn (motive_1 := fun e => vUn e = some c → IsUn c e) e (fun _ _ _ h => no_some h) (fun _ _ _ h => no_some h) (fun _ _ _ _ h => no_some h) (fun _ _ _ h => by cases h; exact ⟨_, rfl⟩) (fun _ _ _ _ h => no_some h) (fun _ _ _ _ h => no_some h) (fun _ _ _ h => no_some h) (fun _ _ _ h => no_some h) (fun _ _ _ _ h => no_some h) (fun _ _ _ _ h => no_some h) (fun _ _ _ _ _ h => no_some h) (fun _ _ _ _ h => no_some h) (fun _ _ h => no_some h) (fun _ _ h => no_some h) (fun _ _ h => no_some h) (fun _ _ _ _ h => no_some h) (fun _ _ _ _ h => no_some h) (fun _ _ _ _ h => no_some h) (fun _ _ h => no_some h) (fun _ _ _ h => no_some h) (fun _ _ _ h => no_some h) (fun _ _ _ h => no_some h) (fun _ _ h => no_some h) (fun _ _ h => no_some h) (fun _ _ h => no_some h) (fun _ _ _ h => no_some h) (fun _ _ _ _ h => no_some h) h
theorem vUn_of {e : Expr} {c : UnaryOp × Expr} (h : vUn e = some c) : ∃ pos, e = .UnaryOp c.1 c.2 pos := vUn_of' h
noncomputable def IsBool (c : BoolOp × List Expr) (e : Expr) : Prop := ∃ pos, e = .BoolOp c.1 c.2 pos
theorem vBool_of' {e : Expr} {c : BoolOp × List Expr} (h : vBool e = some c) : IsBool c e :=
  Expr.casesOn (motive_1 := fun e => vBool e = some c → IsBool c e) e (fun _ _ _ h => by cases h; exact ⟨_, rfl⟩) (fun _ _ _ h => no_some h) (fun _ _ _ _ h => no_some h) (fun _ _ _ h => no_some h) (fun _ _ _ _ h => no_some h) (fun _ _ _ _ h => no_some h) (fun _ _ _ h => no_some h) (fun _ _ _ h => no_some h) (fun _ _ _ _ h => no_some h) (fun _ _ _ _ h => no_some h) (fun _ _ _ _ _ h => no_some h) (fun _ _ _ _ h => no_some h) (fun _ _ h => no_some h) (fun _ _ h => no_some h) (fun _ _ h => no_some h) (fun _ _ _ _ h => no_some h) (fun _ _ _ _ h => no_some h) (fun _ _ _ _ h => no_some h) (fun _ _ h => no_some h) (fun _ _ _ h => no_some h) (fun _ _ _ h => no_some h) (fun _ _ _ h => no_some h) (fun _ _ h => no_some h) (fun _ _ h => no_some h) (fun _ _ h => no_some h) (fun _ _ _ h => no_some h) (fun _ _ _ _ h => no_some h) h
theorem vBool_of {e : Expr} {c : BoolOp × List Expr} (h : vBool e = some c) : ∃ pos, e = .BoolOp c.1 c.2 pos := vBool_of' h
noncomputable def IsCmp (c : Expr × List CmpOp × List Expr) (e : Expr) : Prop := ∃ pos, e = .Compare c.1 c.2.1 c.2.2 pos
theorem vCmp_of' {e : Expr} {c : Expr × List CmpOp × List Expr} (h : vCmp e = some c) : IsCmp c e :=
  Expr.casesOn (motive_1 := fun e => vCmp e = some c → IsCmp c e) e (fun _ _ _ h => no_some h) (fun _ _ _ h => no_some h) (fun _ _ _ _ h => no_some h) (fun _ _ _ h => no_some h) (fun _ _ _ _ h => no_some h) (fun _ _ _ _ h => no_some h) (fun _ _ _ h => no_some h) (fun _ _ _ h => no_some h) (fun _ _ _ _ h => no_some h) (fun _ _ _ _ h => no_some h) (fun _ _ _ _ _ h => no_some h) (fun _ _ _ _ h => no_some h) (fun _ _ h => no_some h) (fun _ _ h => no_some h) (fun _ _ h => no_some h) (fun _ _ _ _ h => by cases h; exact ⟨_, rfl⟩) (fun _ _ _ _ h => no_some h) (fun _ _ _ _ h => no_some h) (fun _ _ h => no_some h) (fun _ _ _ h => no_some h) (fun _ _ _ h => no_some h) (fun _ _ _ h => no_some h) (fun _ _ h => no_some h) (fun _ _ h => no_some h) (fun _ _ h => no_some h) (fun _ _ _ h => no_some h) (fun _ _ _ _ h => no_some h) h
theorem vCmp_of {e : Expr} {c : Expr × List CmpOp × List Expr} (h : vCmp e = some c) : ∃ pos, e = .Compare c.1 c.2.1 c.2.2 pos := vCmp_of' h
noncomputable def IsIf (c : Expr × Expr × Expr) (e : Expr) : Prop := ∃ pos, e = .IfExp c.1 c.2.1 c.2.2 pos
theorem vIf_of' {e : Expr} {c : Expr × Expr × Expr} (h : vIf e = some c) : IsIf c e :=
  Expr.casesOn (motive_1 := fun e => vIf e = some c → IsIf c e) e (fun _ _ _ h => no_some h) (fun _ _ _ h => no_some h) (fun _ _ _ _ h => no_some h) (fun _ _ _ h => no_some h) (fun _ _ _ _ h => no_some h) (fun _ _ _ _ h => by cases h; exact ⟨_, rfl⟩) (fun _ _ _ h => no_some h) (fun _ _ _ h => no_some h) (fun _ _ _ _ h => no_some h) (fun _ _ _ _ h => no_some h) (fun _ _ _ _ _ h => no_some h) (fun _ _ _ _ h => no_some h) (fun _ _ h => no_some h) (fun _ _ h => no_some h) (fun _ _ h => no_some h) (fun _ _ _ _ h => no_some h) (fun _ _ _ _ h => no_some h) (fun _ _ _ _ h => no_some h) (fun _ _ h => no_some h) (fun _ _ _ h => no_some h) (fun _ _ _ h => no_some h) (fun _ _ _ h => no_some h) (fun _ _ h => no_some h) (fun _ _ h => no_some h) (fun _ _ h => no_some h) (fun _ _ _ h => no_some h) (fun _ _ _ _ h => no_some h) h
theorem vIf_of {e : Expr} {c : Expr × Expr × Expr} (h : vIf e = some c) : ∃ pos, e = .IfExp c.1 c.2.1 c.2.2 pos := vIf_of' h
noncomputable def IsTup (c : List Expr) (e : Expr) : Prop := ∃ k pos, e = .Tuple c k pos
theorem vTup_of' {e : Expr} {c : List Expr} (h : vTup e = some c) : IsTup c e :=
  Expr.casesOn (motive_1 := fun e => vTup e = some c → IsTup c e) e (fun _ _ _ h => no_some h) (fun _ _ _ h => no_some h) (fun _ _ _ _ h => no_some h) (fun _ _ _ h => no_some h) (fun _ _ _ _ h => no_some h) (fun _ _ _ _ h => no_some h) (fun _ _ _ h => no_some h) (fun _ _ _ h => no_some h) (fun _ _ _ _ h => no_some h) (fun _ _ _ _ h => no_some h) (fun _ _ _ _ _ h => no_some h) (fun _ _ _ _ h => no_some h) (fun _ _ h => no_some h) (fun _ _ h => no_some h) (fun _ _ h => no_some h) (fun _ _ _ _ h => no_some h) (fun _ _ _ _ h => no_some h) (fun _ _ _ _ h => no_some h) (fun _ _ h => no_some h) (fun _ _ _ h => no_some h) (fun _ _ _ h => no_some h) (fun _ _ _ h => no_some h) (fun _ _ h => no_some h) (fun _ _ h => no_some h) (fun _ _ h => no_some h) (fun _ _ _ h => by cases h; exact ⟨_, _, rfl⟩) (fun _ _ _ _ h => no_some h) h
theorem vTup_of {e : Expr} {c : List Expr} (h : vTup e = some c) : ∃ k pos, e = .Tuple c k pos := vTup_of' h
noncomputable def IsList (c : List Expr) (e : Expr) : Prop := ∃ pos, e = .List c pos
theorem vList_of' {e : Expr} {c : List Expr} (h : vList e = some c) : IsList c e :=
  Expr.casesOn (motive_1 := fun e => vList e = some c → IsList c e) e (fun _ _ _ h => no_some h) (fun _ _ _ h => no_some h) (fun _ _ _ _ h => no_some h) (fun _ _ _ h => no_some h) (fun _ _ _ _ h => no_some h) (fun _ _ _ _ h => no_some h) (fun _ _ _ h => no_some h) (fun _ _ _ h => no_some h) (fun _ _ _ _ h => no_some h) (fun _ _ _ _ h => no_some h) (fun _ _ _ _ _ h => no_some h) (fun _ _ _ _ h => no_some h) (fun _ _ h => no_some h) (fun _ _ h => no_some h) (fun _ _ h => no_some h) (fun _ _ _ _ h => no_some h) (fun _ _ _ _ h => no_some h) (fun _ _ _ _ h => no_some h) (fun _ _ h => no_some h) (fun _ _ _ h => no_some h) (fun _ _ _ h => no_some h) (fun _ _ _ h => no_some h) (fun _ _ h => no_some h) (fun _ _ h => no_some h) (fun _ _ h => by cases h; exact ⟨_, rfl⟩) (fun _ _ _ h => no_some h) (fun _ _ _ _ h => no_some h) h
theorem vList_of {e : Expr} {c : List Expr} (h : vList e = some c) : ∃ pos, e = .List c pos := vList_of' h
noncomputable def IsSub (c : Expr × Expr) (e : Expr) : Prop := ∃ pos, e = .Subscript c.1 c.2 pos
theorem vSub_of' {e : Expr} {c : Expr × Expr} (h : vSub e = some c) : IsSub c e :=
  Expr.casesOn (motive_1 := fun e => vSub e = some c → IsSub c e) e (fun _ _ _ h => no_some h) (fun _ _ _ h => no_some h) (fun _ _ _ _ h => no_some h) (fun _ _ _ h => no_some h) (fun _ _ _ _ h => no_some h) (fun _ _ _ _ h => no_some h) (fun _ _ _ h => no_some h) (fun _ _ _ h => no_some h) (fun _ _ _ _ h => no_some h) (fun _ _ _ _ h => no_some h) (fun _ _ _ _ _ h => no_some h) (fun _ _ _ _ h => no_some h) (fun _ _ h => no_some h) (fun _ _ h => no_some h) (fun _ _ h => no_some h) (fun _ _ _ _ h => no_some h) (fun _ _ _ _ h => no_some h) (fun _ _ _ _ h => no_some h) (fun _ _ h => no_some h) (fun _ _ _ h => no_some h) (fun _ _ _ h => no_some h) (fun _ _ _ h => by cases h; exact ⟨_, rfl⟩) (fun _ _ h => no_some h) (fun _ _ h => no_some h) (fun _ _ h => no_some h) (fun _ _ _ h => no_some h) (fun _ _ _ _ h => no_some h) h
theorem vSub_of {e : Expr} {c : Expr × Expr} (h : vSub e = some c) : ∃ pos, e = .Subscript c.1 c.2 pos := vSub_of' h
noncomputable def IsSlice (c : Option Expr × Option Expr × Option Expr) (e : Expr) : Prop := ∃ pos, e = .Slice c.1 c.2.1 c.2.2 pos
theorem vSlice_of' {e : Expr} {c : Option Expr × Option Expr × Option Expr} (h : vSlice e = some c) : IsSlice c e :=
  Expr.casesOn (motive_1 := fun e => vSlice e = some c → IsSlice c e) e (fun _ _ _ h => no_some h) (fun _ _ _ h => no_some h) (fun _ _ _ _ h => no_some h) (fun _ _ _ h => no_some h) (fun _ _ _ _ h => no_some h) (fun _ _ _ _ h => no_some h) (fun _ _ _ h => no_some h) (fun _ _ _ h => no_some h) (fun _ _ _ _ h => no_some h) (fun _ _ _ _ h => no_some h) (fun _ _ _ _ _ h => no_some h) (fun _ _ _ _ h => no_some h) (fun _ _ h => no_some h) (fun _ _ h => no_some h) (fun _ _ h => no_some h) (fun _ _ _ _ h => no_some h) (fun _ _ _ _ h => no_some h) (fun _ _ _ _ h => no_some h) (fun _ _ h => no_some h) (fun _ _ _ h => no_some h) (fun _ _ _ h => no_some h) (fun _ _ _ h => no_some h) (fun _ _ h => no_some h) (fun _ _ h => no_some h) (fun _ _ h => no_some h) (fun _ _ _ h => no_some h) (fun _ _ _ _ h => by cases h; exact ⟨_, rfl⟩) h
theorem vSlice_of {e : Expr} {c : Option Expr × Option Expr × Option Expr} (h : vSlice e = some c) : ∃ pos, e = .Slice c.1 c.2.1 c.2.2 pos := vSlice_of' h
noncomputable def IsCall (c : Expr × List Expr × List Keyword × Pos) (e : Expr) : Prop := e = .Call c.1 c.2.1 c.2.2.1 c.2.2.2
theorem vCall_of' {e : Expr} {c : Expr × List Expr × List Keyword × Pos} (h : vCall e = some c) : IsCall c e :=
  Expr.casesOn (motive_1 := fun e => vCall e = some c → IsCall c e) e (fun _ _ _ h => no_some h) (fun _ _ _ h => no_some h) (fun _ _ _ _ h => no_some h) (fun _ _ _ h => no_some h) (fun _ _ _ _ h => no_some h) (fun _ _ _ _ h => no_some h) (fun _ _ _ h => no_some h) (fun _ _ _ h => no_some h) (fun _ _ _ _ h => no_some h) (fun _ _ _ _ h => no_some h) (fun _ _ _ _ _ h => no_some h) (fun _ _ _ _ h => no_some h) (fun _ _ h => no_some h) (fun _ _ h => no_some h) (fun _ _ h => no_some h) (fun _ _ _ _ h => no_some h) (fun _ _ _ _ h => by cases h; rfl) (fun _ _ _ _ h => no_some h) (fun _ _ h => no_some h) (fun _ _ _ h => no_some h) (fun _ _ _ h => no_some h) (fun _ _ _ h => no_some h) (fun _ _ h => no_some h) (fun _ _ h => no_some h) (fun _ _ h => no_some h) (fun _ _ _ h => no_some h) (fun _ _ _ _ h => no_some h) h
theorem vCall_of {e : Expr} {c : Expr × List Expr × List Keyword × Pos} (h : vCall e = some c) : e = .Call c.1 c.2.1 c.2.2.1 c.2.2.2 := vCall_of' h
noncomputable def IsAttr (c : Expr × Str × Pos) (e : Expr) : Prop := e = .Attribute c.1 c.2.1 c.2.2
theorem vAttr_of' {e : Expr} {c : Expr × Str × Pos} (h : vAttr e = some c) : IsAttr c e :=
  Expr.casesOn (motive_1 := fun e => vAttr e = some c → IsAttr c e) e (fun _ _ _ h => no_some h) (fun _ _ _ h => no_some h) (fun _ _ _ _ h => no_some h) (fun _ _ _ h => no_some h) (fun _ _ _ _ h => no_some h) (fun _ _ _ _ h => no_some h) (fun _ _ _ h => no_some h) (fun _ _ _ h => no_some h) (fun _ _ _ _ h => no_some h) (fun _ _ _ _ h => no_some h) (fun _ _ _ _ _ h => no_some h) (fun _ _ _ _ h => no_some h) (fun _ _ h => no_some h) (fun _ _ h => no_some h) (fun _ _ h => no_some h) (fun _ _ _ _ h => no_some h) (fun _ _ _ _ h => no_some h) (fun _ _ _ _ h => no_some h) (fun _ _ h => no_some h) (fun _ _ _ h => no_some h) (fun _ _ _ h => by cases h; rfl) (fun _ _ _ h => no_some h) (fun _ _ h => no_some h) (fun _ _ h => no_some h) (fun _ _ h => no_some h) (fun _ _ _ h => no_some h) (fun _ _ _ _ h => no_some h) h
theorem vAttr_of {e : Expr} {c : Expr × Str × Pos} (h : vAttr e = some c) : e = .Attribute c.1 c.2.1 c.2.2 := vAttr_of' h
noncomputable def IsComp (c : Expr × List Comprehension × Scope) (e : Expr) : Prop := ∃ pos, e = .ListComp c.1 c.2.1 c.2.2 pos
theorem vComp_of' {e : Expr} {c : Expr × List Comprehension × Scope} (h : vComp e = some c) : IsComp c e :=
  Expr.casesOn (motive_1 := fun e => vComp e = some c → IsComp c e) e (fun _ _ _ h => no_some h) (fun _ _ _ h => no_some h) (fun _ _ _ _ h => no_some h) (fun _ _ _ h => no_some h) (fun _ _ _ _ h => no_some h) (fun _ _ _ _ h => no_some h) (fun _ _ _ h => no_some h) (fun _ _ _ h => no_some h) (fun _ _ _ _ h => by cases h; exact ⟨_, rfl⟩) (fun _ _ _ _ h => no_some h) (fun _ _ _ _ _ h => no_some h) (fun _ _ _ _ h => no_some h) (fun _ _ h => no_some h) (fun _ _ h => no_some h) (fun _ _ h => no_some h) (fun _ _ _ _ h => no_some h) (fun _ _ _ _ h => no_some h) (fun _ _ _ _ h => no_some h) (fun _ _ h => no_some h) (fun _ _ _ h => no_some h) (fun _ _ _ h => no_some h) (fun _ _ _ h => no_some h) (fun _ _ h => no_some h) (fun _ _ h => no_some h) (fun _ _ h => no_some h) (fun _ _ _ h => no_some h) (fun _ _ _ _ h => no_some h) h
theorem vComp_of {e : Expr} {c : Expr × List Comprehension × Scope} (h : vComp e = some c) : ∃ pos, e = .ListComp c.1 c.2.1 c.2.2 pos := vComp_of' h
theorem vOne_of {α : Type} {l : List α} {x : α} (h : vOne l = some x) : l = [x] := by
  cases l with
  | nil => exact no_some h
  | cons y l => cases l with
    | nil => cases h; rfl
    | cons _ _ => exact no_some h
theorem vTwo_of {α : Type} {l : List α} {x : α × α} (h : vTwo l = some x) : l = [x.1, x.2] := by
  cases l with
  | nil => exact no_some h
  | cons y l => cases l with
    | nil => exact no_some h
    | cons z l => cases l with
      | nil => cases h; rfl
      | cons _ _ => exact no_some h
theorem vCallN_of {e : Expr} {c : Str × List Expr} (h : vCallN e = some c) : ∃ p pos, e = .Call (.Name c.1 p) c.2 [] pos := by
  unfold vCallN at h
  cases q : vCall e with
  | none => rw [q] at h; exact no_some h
  | some a =>
    rw [q] at h
    have h' : (if a.2.2.1.isEmpty then (vName a.1).map fun x => (x.1, a.2.1) else none) = some c := h
    by_cases k : a.2.2.1.isEmpty = true
    · rw [if_pos k] at h'
      cases r : vName a.1 with
      | none => rw [r] at h'; exact no_some h'
      | some x =>
        rw [r] at h'
        cases h'
        refine ⟨x.2, a.2.2.2, ?_⟩
        rw [vCall_of q, vName_of r, List.isEmpty_iff.mp k]
    · rw [if_neg k] at h'; exact no_some h'
theorem isNot_of {op : UnaryOp} (h : isNot op = true) : op = .Not := by cases op <;> first | rfl | (exact no_true h)
theorem ne_of_isEmpty {α : Type} {l : List α} (h : (!l.isEmpty) = true) : l ≠ [] := by intro q; rw [q] at h; exact no_true h
theorem nil_of {α : Type} {l : List α} (h : l.isEmpty = true) : l = [] := List.isEmpty_iff.mp h

theorem mEs_nil {Γ : Cx} {es : List Expr} (h : mEs P Γ [] es = true) : es = [] := nil_of h
theorem mEs_cons {Γ : Cx} {c : CE} {cs : List CE} {es : List Expr} (h : mEs P Γ (c :: cs) es = true) : ∃ e es', es = e :: es' ∧ mE P Γ c e = true ∧ mEs P Γ cs es' = true := by
  cases es with
  | nil => exact no_true h
  | cons e es => have := and_of (a := mE P Γ c e) (b := mEs P Γ cs es) h; exact ⟨e, es, rfl, this.1, this.2⟩
theorem mIfs_nil {Γ : Cx} {es : List Expr} (h : mIfs P Γ [] es = true) : es = [] := nil_of h
theorem mIfs_cons {Γ : Cx} {c : CB} {cs : List CB} {es : List Expr} (h : mIfs P Γ (c :: cs) es = true) : ∃ e es', es = e :: es' ∧ mB P Γ c e = true ∧ mIfs P Γ cs es' = true := by
  cases es with
  | nil => exact no_true h
  | cons e es => have := and_of (a := mB P Γ c e) (b := mIfs P Γ cs es) h; exact ⟨e, es, rfl, this.1, this.2⟩
theorem src_of {Γ : Cx} {env : Env} {k : IK} {iter : Expr} {src : List CE} (X : Fx W P A fs n F) (hsc : env.scope = Γ.sc) (h : mSrc P Γ (fun es => mEs P Γ src es) k iter = true)
    (one : ∀ e c, src = [c] → mE P Γ c e = true → SiE W A fs env Γ.vis (eval e env) (fun r => ev P.S F c r))
    (all : ∀ es pos, noStar es = true → mEs P Γ src es = true → SiL W A fs env Γ.vis (spliced (backTo pos (starEach es env))) (fun r => evs P.S F src r)) :
    SiSrc W A fs env Γ.vis iter (fun r => bnd (evs P.S F src r) (srcV k)) := by
  obtain ⟨hl, h⟩ := and_of h
  have hh := X.hh hl
  cases k with
  | expr =>
    have h1 : mEs P Γ src [iter] = true := h
    cases src with
    | nil => exact no_true h1
    | cons c cs =>
      obtain ⟨e, es', he, hm, hr⟩ := mEs_cons h1
      cases he
      cases cs with
      | cons c' cs => exact no_true hr
      | nil =>
        have := src_expr X.gl.ok hh (one _ c rfl hm)
        intro s io m r Z
        have eq : bnd (evs P.S F [c] r) (srcV .expr) = bnd (ev P.S F c r) itemsV := by
          rw [evs, evs, bnd_assoc]; rfl
        dsimp only
        rw [eq]
        exact this s io m r Z
  | range =>
    obtain ⟨q, hq, h⟩ := any_of (o := vCallN iter) h
    obtain ⟨px, pos, rfl⟩ := vCallN_of hq
    obtain ⟨h12, h3⟩ := and_of h
    obtain ⟨h1, h2⟩ := and_of h12
    obtain ⟨a, b, c, d, e⟩ := typ_of hsc h1
    exact src_range hh X.gl d e c a b h2 (all q.2 pos h2 h3)
  | enum => exact no_true h

theorem cmp_of {Γ : Cx} {ca : CE} {cops ops : List CmpOp} {cbs : List CE} {a : Expr} {bs : List Expr} {pos : Pos} (h : mE P Γ (.cmp ca cops cbs) (.Compare a ops bs pos) = true) : cops = ops ∧ mE P Γ ca a = true ∧ mEs P Γ cbs bs = true ∧ cops.length = cbs.length ∧ cbs ≠ [] ∧ bs.all noSet = true := by
  have h : (decide (cops = ops) && mE P Γ ca a && mEs P Γ cbs bs && decide (cops.length = cbs.length) && !cbs.isEmpty && bs.all noSet) = true := h
  obtain ⟨h, h5⟩ := and_of h
  obtain ⟨h, h4⟩ := and_of h
  obtain ⟨h, h3⟩ := and_of h
  obtain ⟨h, h2⟩ := and_of h
  obtain ⟨h0, h1⟩ := and_of h
  exact ⟨of_dec h0, h1, h2, of_dec h3, ne_of_isEmpty h4, h5⟩
theorem val_of {Γ : Cx} {c : CE} {e : Expr} (h : mB P Γ (.val c) e = true) : (plainT e = true ∧ mE P Γ c e = true) ∨ ∃ a ops bs pos, e = .Compare a ops bs pos ∧ mE P Γ c e = true := by
  obtain ⟨h1, h2⟩ := and_of (a := plainT e || (vCmp e).isSome) (b := mE P Γ c e) h
  cases q : plainT e with
  | true => exact .inl ⟨rfl, h2⟩
  | false =>
    rw [q] at h1
    cases r : vCmp e with
    | none => rw [r] at h1; exact no_true h1
    | some x => obtain ⟨pos, he⟩ := vCmp_of r; exact .inr ⟨_, _, _, _, he, h2⟩

theorem none_fun {c : CE} (h : noneC c = true) : (fun r => ev P.S F c r) = fun _ => ret V.none := by
  cases c with
  | cnst v => cases v <;> first | rfl | (exact no_true h)
  | _ => exact no_true h
theorem o_of {Γ : Cx} {env : Env} {c : CE} {o : Option Expr} (h : o.elim (noneC c) (fun l => mE P Γ c l) = true) (k : ∀ l, mE P Γ c l = true → SiE W A fs env Γ.vis (eval l env) (fun r => ev P.S F c r)) : SiO W A fs env Γ.vis o (fun r => ev P.S F c r) := by
  cases o with
  | some l => exact o_some (k l h)
  | none =>
    have hc : noneC c = true := h
    have : (fun r => ev P.S F c r) = fun _ => ret V.none := by
      exact none_fun hc
    rw [this]
    exact o_none

theorem e_loc {Γ : Cx} {env : Env} {i : Nat} {x : Str} {pos : Pos} (hsc : env.scope = Γ.sc) (h : isLoc Γ i x = true) : SiE W A fs env Γ.vis (eval (.Name x pos) env) (fun r => match r[i]? with | some (some v) => ret v | _ => bad) := by
  obtain ⟨h, h4⟩ := and_of h
  obtain ⟨h, h3⟩ := and_of h
  obtain ⟨h1, h2⟩ := and_of h
  refine e_var ?_ ?_ (Bool.not_eq_true' _ ▸ h3) (Bool.not_eq_true' _ ▸ h4)
  · split at h1
    · rename_i y q; rw [q, beq_iff_eq.mp h1]
    · cases h1
  · show env.scope.names.lookup x = _ ∨ env.scope.names.lookup x = _ ∨ env.scope.names.lookup x = _
    rw [hsc]
    split at h2
    · rename_i q; exact .inl q
    · rename_i q; exact .inr (.inl q)
    · rename_i q; exact .inr (.inr q)
    · cases h2
theorem e_bi {Γ : Cx} {env : Env} {b : Bi} {x : Str} {es : List Expr} {p pos : Pos} {cl : Lo → Mn (List V)} (X : Fx W P A fs n F) (hsc : env.scope = Γ.sc) (hl0 : P.loud = true) (h1 : biOk b = true) (h2 : isBi P Γ b x = true) (h3 : noStar es = true)
    (hl : ∀ pos, SiL W A fs env Γ.vis (spliced (backTo pos (starEach es env))) cl) : SiE W A fs env Γ.vis (eval (.Call (.Name x p) es [] pos) env) (fun r => bnd (cl r) fun vs => biV b vs) := by
  unfold isBi at h2
  have hf := bi_sim (W := W) (A := A) (fs := fs) X.gl.ok (X.hh hl0) h1
  split at h2
  · rename_i id q
    obtain ⟨a, b', c, d, e⟩ := blt_of hsc h2
    rw [q] at hf
    exact e_callB X.gl d e c a b' h3 (hl _) hf
  · rename_i id q
    obtain ⟨a, b', c, d, e⟩ := typ_of hsc h2
    rw [q] at hf
    exact e_callT X.gl d e c a b' h3 (hl _) hf
  · cases h2
theorem val_vr {v : Value} {l : Lt} {h : Heap} {io : Io} (k : isVal v l = true) : VR W h io l.val v := by
  cases l with
  | int i => cases v <;> first | (exact no_true k) | (rw [show i = _ from eq_of_beq k]; exact .int _ _)
  | str x => cases v <;> first | (exact no_true k) | (obtain ⟨k1, k2⟩ := and_of k; rw [show x = _ from eq_of_beq k1] at k2 ⊢; exact .str _ _ k2)
  | bool b => cases v <;> first | (exact no_true k) | (rw [show b = _ from eq_of_beq k]; exact .bool _)
  | none => cases v <;> first | (exact no_true k) | exact .none
theorem e_glob {Γ : Cx} {env : Env} {i : Nat} {x : Str} {pos : Pos} (X : Fx W P A fs n F) (hsc : env.scope = Γ.sc) (h : isCon P Γ i x = true) : SiE W A fs env Γ.vis (eval (.Name x pos) env) (fun r => ev P.S F (.glob i) r) := by
  obtain ⟨h1, h2⟩ := and_of h
  obtain ⟨a, b, _⟩ := glb_of hsc h1
  obtain ⟨o, e1, h3⟩ := any_of h2
  obtain ⟨v, e2, h4⟩ := any_of h3
  obtain ⟨p, e3, h5⟩ := any_of h4
  rw [e2] at e1
  intro s io m r Z hne
  refine name_K X.gl Z e1 a b ⟨p.2.val, m, io, ?_, .refl, Z.H, val_vr h5, .refl _⟩
  show (match P.S.globs[i]? with | some p => ret p.2.val | Option.none => bad) m = _
  rw [e3]; rfl
theorem two_ops {ops : List CmpOp} {c c' : CE} {cs : List CE} (h : ops.length = (c :: c' :: cs).length) : ∃ op op' ops', ops = op :: op' :: ops' := by
  cases ops with
  | nil => exact no_succ h
  | cons op ops => cases ops with
    | nil => exact no_succ (Nat.succ.inj h)
    | cons op' ops => exact ⟨op, op', ops, rfl⟩
theorem gen_eq {g : Comprehension} {x : Str × Pos} (hx : vName g.target = some x) (h0 : (g.is_async == 0) = true) : g = ⟨.Name x.1 x.2, g.iter, g.ifs, 0⟩ := by
  cases g
  rw [← vName_of hx, ← beq_iff_eq.mp h0]
theorem comp_all {Γ : Cx} {env : Env} {e0 iter : Expr} {ifs' : List Expr} {scope : Scope} {px pos : Pos} {x : Str} {src : List CE} {k : IK} {ifs : List CB} {elt : CE} (ck : CompOk scope env Γ.vis (seen scope x Γ.vis) 1) (hs : ∀ y, foldedSetIterable iter env y = Pure.pure y)
    (hsrc : SiSrc W A fs env Γ.vis iter (fun r => bnd (evs P.S F src r) (srcV k))) (hifs : ∀ cl C, SiB W A fs (compEnvC scope cl C env) (seen scope x Γ.vis) (tests ifs' (compEnvC scope cl C env) true) (fun r => evIf P.S F ifs r))
    (helt : ∀ cl C, SiE W A fs (compEnvC scope cl C env) (seen scope x Γ.vis) (eval e0 (compEnvC scope cl C env)) (fun r => ev P.S F elt r)) :
    SiE W A fs env Γ.vis (eval (.ListComp e0 [⟨.Name x px, iter, ifs', 0⟩] scope pos) env) (fun r => ev P.S F (.comp elt (.one Γ.vis.length) 1 k src ifs) r) := by
  have := e_comp (pos := pos) (px := px) (j := Γ.vis.length) ck hs (seen_last scope x Γ.vis) (Nat.le_refl _) hsrc hifs helt
  intro s io m r Z
  have eq : ev P.S F (.comp elt (.one Γ.vis.length) 1 k src ifs) r = bnd (bnd (evs P.S F src r) (srcV k)) fun p => bnd (compD p.2 (stepOf Γ.vis.length (r ++ List.replicate 1 none) (fun r => evIf P.S F ifs r) (fun r => ev P.S F elt r)) p.1) fun l => if l.length ≤ lid then alloc (.list l) else bad := by
    rw [bnd_assoc]; rfl
  dsimp only
  rw [eq]
  exact this s io m r Z

theorem isi_all (X : Fx W P A fs n F) {Γ : Cx} {env : Env} {x y : Str} {a : Expr} {pos px py : Pos} {t : Ty} {ca : Lo → Mn V} (hsc : env.scope = Γ.sc) (e1 : nsIn P.K mainGlobals x = some none) (b1 : bootBuiltins x = some (.builtin "isinstance")) (n1 : (x == ("__name__" : Str)) = false) (k1 : env.kindOf x = some .globalImplicit) (d1 : (x == ("__debug__" : Str)) = false)
    (ht : isTy P Γ t y = true) (hs : noStar [a] = true) (ha : SiE W A fs env Γ.vis (eval a env) ca) : SiE W A fs env Γ.vis (eval (.Call (.Name x px) [a, .Name y py] [] pos) env) (fun r => bnd (ca r) fun v => bnd (isiV P.S v t) fun b => ret (.bool b)) := by
  rw [← X.S]
  have plain : isTyp P Γ y (tyName t) = true → (!(tyName t == "")) = true → SiE W A fs env Γ.vis (eval (.Call (.Name x px) [a, .Name y py] [] pos) env) (fun r => bnd (ca r) fun v => bnd (isiV W.S v t) fun b => ret (.bool b)) := fun h2 h3 => by
    obtain ⟨a2, b2, c2, d2, e2⟩ := typ_of hsc h2
    exact e_isi X.gl e1 b1 n1 k1 d1 (fun Z q => name_B X.gl Z d2 e2 c2 a2 b2 q) (fun H k => isi_sim H (ty_of h3) k) hs ha
  cases t with
  | cls c =>
    obtain ⟨h1, h2⟩ := and_of ht
    have rel : ∀ d x, W.S.cls[d]? = some x → x.exc = true → excCls P.K (W.ca d) = true ∧ kitOne P.K (.ref (W.ca d)) (clsV P c) = some (x.supers.contains c) := fun d x hd hx => by
      rw [X.S] at hd
      have := allCls_get h2 hd
      rw [Nat.zero_add] at this
      have this : (!x.exc || (excCls P.K (P.ca d) && kitOne P.K (.ref (P.ca d)) (clsV P c) == some (x.supers.contains c))) = true := this
      rw [hx] at this
      obtain ⟨q1, q2⟩ := and_of (a := excCls P.K (P.ca d)) (b := kitOne P.K (.ref (P.ca d)) (clsV P c) == some (x.supers.contains c)) this
      rw [X.ca]
      exact ⟨q1, beq_iff_eq.mp q2⟩
    cases c with
    | zero =>
      obtain ⟨a2, b2, c2, d2, e2⟩ := typ_of hsc (id := "ValueError") h1
      exact e_isi X.gl e1 b1 n1 k1 d1 (fun Z q => name_B X.gl Z d2 e2 c2 a2 b2 q) (fun H k => isi_cls X.gl.X rel H k) hs ha
    | succ c =>
      obtain ⟨a2, b2, e2⟩ := own_of hsc (c := c + 1) h1
      exact e_isi X.gl e1 b1 n1 k1 d1 (fun Z q => name_K X.gl Z e2 a2 b2 q) (fun H k => isi_cls X.gl.X rel H k) hs ha
  | _ => exact plain (and_of ht).1 (and_of ht).2
mutual
theorem evE (X : Fx W P A fs n F) : ∀ (c : CE) (Γ : Cx) (env : Env) (e : Expr), env.scope = Γ.sc → mE P Γ c e = true → SiE W A fs env Γ.vis (eval e env) (fun r => ev P.S F c r)
  | .cnst v, Γ, env, e, hsc, h => by
    obtain ⟨q, hq, h⟩ := any_of (o := vConst e) h
    obtain ⟨_, _, rfl⟩ := vConst_of hq
    exact e_const (by cases v <;> cases q <;> exact h)
  | .var i, Γ, env, e, hsc, h => by
    obtain ⟨q, hq, h⟩ := any_of (o := vName e) h
    rw [vName_of hq]
    exact e_loc hsc h
  | .glob i, Γ, env, e, hsc, h => by
    obtain ⟨q, hq, h⟩ := any_of (o := vName e) h
    rw [vName_of hq]
    exact e_glob X hsc h
  | .fnv _, _, _, _, _, h => no_true h
  | .bin op a b, Γ, env, e, hsc, h => by
    obtain ⟨q, hq, h⟩ := any_of (o := vBin e) h
    obtain ⟨_, rfl⟩ := vBin_of hq
    obtain ⟨h, h2⟩ := and_of h
    obtain ⟨h0, h1⟩ := and_of h
    rw [← of_dec h0]
    exact e_bin (evE X a Γ env _ hsc h1) (evE X b Γ env _ hsc h2)
  | .neg _, _, _, _, _, h => no_true h
  | .not a, Γ, env, e, hsc, h => by
    obtain ⟨q, hq, h⟩ := any_of (o := vUn e) h
    obtain ⟨_, rfl⟩ := vUn_of hq
    obtain ⟨h0, h1⟩ := and_of h
    rw [isNot_of h0]
    exact e_not (evE X a Γ env _ hsc h1)
  | .boolop c as, Γ, env, e, hsc, h => by
    obtain ⟨q, hq, h⟩ := any_of (o := vBool e) h
    obtain ⟨_, rfl⟩ := vBool_of hq
    obtain ⟨h, h3⟩ := and_of h
    obtain ⟨h1, h2⟩ := and_of h
    exact evBo X as Γ env _ _ _ _ hsc h1 h2 (ne_of_isEmpty h3)
  | .cmp a ops bs, Γ, env, e, hsc, h => by
    have h0 := h
    obtain ⟨q, hq, _⟩ := any_of (o := vCmp e) h
    obtain ⟨pos, rfl⟩ := vCmp_of hq
    obtain ⟨h0, h1, h2, h3, h4, h5⟩ := cmp_of h0
    rw [← h0]
    exact e_cmp (evE X a Γ env _ hsc h1) (evCm X bs Γ env _ _ _ hsc h3 h4 h2 h5)
  | .ite c a b, Γ, env, e, hsc, h => by
    obtain ⟨q, hq, h⟩ := any_of (o := vIf e) h
    obtain ⟨_, rfl⟩ := vIf_of hq
    obtain ⟨h, h3⟩ := and_of h
    obtain ⟨h1, h2⟩ := and_of h
    exact e_ite (evTt X c Γ env _ hsc h1) (evE X a Γ env _ hsc h2) (evE X b Γ env _ hsc h3)
  | .tup as, Γ, env, e, hsc, h => by
    obtain ⟨q, hq, h⟩ := any_of (o := vTup e) h
    obtain ⟨_, _, rfl⟩ := vTup_of hq
    obtain ⟨h, h3⟩ := and_of h
    obtain ⟨h1, h2⟩ := and_of h
    exact e_tup (evL X as Γ env _ _ hsc h2 h1) fun r m vs m' q => by rw [evs_len q]; exact Nat.le_trans (of_dec h3) (by decide)
  | .list as, Γ, env, e, hsc, h => by
    obtain ⟨q, hq, h⟩ := any_of (o := vList e) h
    obtain ⟨_, rfl⟩ := vList_of hq
    obtain ⟨h, h3⟩ := and_of h
    obtain ⟨h1, h2⟩ := and_of h
    exact e_list (evL X as Γ env _ _ hsc h2 h1) fun r m vs m' q => by rw [evs_len q]; exact Nat.le_trans (of_dec h3) (by decide)
  | .dict _ _, _, _, _, _, h => no_true h
  | .idx a i, Γ, env, e, hsc, h => by
    obtain ⟨q, hq, h⟩ := any_of (o := vSub e) h
    obtain ⟨_, rfl⟩ := vSub_of hq
    obtain ⟨h, h2⟩ := and_of h
    obtain ⟨_, h1⟩ := and_of h
    exact e_idx X.R (evE X a Γ env _ hsc h1) (evE X i Γ env _ hsc h2)
  | .slice a lo hi st, Γ, env, e, hsc, h => by
    obtain ⟨q, hq, h⟩ := any_of (o := vSub e) h
    obtain ⟨_, rfl⟩ := vSub_of hq
    obtain ⟨h1, h⟩ := and_of h
    obtain ⟨t, ht, h⟩ := any_of (o := vSlice q.2) h
    obtain ⟨_, he⟩ := vSlice_of ht
    rw [he]
    obtain ⟨h, h4⟩ := and_of h
    obtain ⟨h2, h3⟩ := and_of h
    exact e_slice (evE X a Γ env _ hsc h1) (o_of h2 fun l hl => evE X lo Γ env l hsc hl) (o_of h3 fun l hl => evE X hi Γ env l hsc hl) (o_of h4 fun l hl => evE X st Γ env l hsc hl)
  | .attr _ _, _, _, _, _, h => no_true h
  | .call k as, Γ, env, e, hsc, h => by
    obtain ⟨q, hq, h⟩ := any_of (o := vCallN e) h
    obtain ⟨_, _, rfl⟩ := vCallN_of hq
    obtain ⟨h, h3⟩ := and_of h
    obtain ⟨h1, h2⟩ := and_of h
    obtain ⟨h0, a, b, c, o, fd, d, e⟩ := fun_of hsc h1
    exact e_callF X.gl c d e a b h2 (evL X as Γ env _ _ hsc h2 h3) (X.fa ▸ X.calls k h0)
  | .callv _ _, _, _, _, _, h => no_true h
  | .new _ _, _, _, _, _, h => no_true h
  | .meth _ _ _, _, _, _, _, h => no_true h
  | .smeth o sm as, Γ, env, e, hsc, h => by
    obtain ⟨q, hq, h⟩ := any_of (o := vCall e) h
    rw [vCall_of hq]
    obtain ⟨t, ht, h⟩ := any_of (o := vAttr q.1) h
    rw [vAttr_of ht]
    obtain ⟨h, h8⟩ := and_of h
    obtain ⟨h, h7⟩ := and_of h
    obtain ⟨h, h6⟩ := and_of h
    obtain ⟨h, h5⟩ := and_of h
    obtain ⟨h, h4⟩ := and_of h
    obtain ⟨h, h3⟩ := and_of h
    obtain ⟨h1, h2⟩ := and_of h
    rw [beq_iff_eq.mp h1, nil_of h6]
    exact e_smeth h2 h3 (of_dec h4) h5 (evE X o Γ env _ hsc h7) (evL X as Γ env _ _ hsc h3 h8)
  | .bi b as, Γ, env, e, hsc, h => by
    obtain ⟨q, hq, h⟩ := any_of (o := vCallN e) h
    obtain ⟨_, _, rfl⟩ := vCallN_of hq
    obtain ⟨h0, hz⟩ := and_of h
    by_cases hb : b = .lenset
    · rw [if_pos hb] at hz
      subst hb
      obtain ⟨e1, h1, h⟩ := any_of (o := vOne q.2) hz
      rw [vOne_of h1]
      obtain ⟨p, hp, h⟩ := any_of (o := vCallN e1) h
      obtain ⟨_, _, rfl⟩ := vCallN_of hp
      obtain ⟨h, h4⟩ := and_of h
      obtain ⟨h, h3⟩ := and_of h
      obtain ⟨h1, h2⟩ := and_of h
      obtain ⟨a, b, c, d, e⟩ := blt_of hsc h1
      obtain ⟨a', b', c', d', e'⟩ := typ_of hsc h2
      exact e_lenset (X.hh h0) X.gl d' e' c' a' b' d e c a b h3 (evL X as Γ env _ _ hsc h3 h4)
    · rw [if_neg hb] at hz
      obtain ⟨h, h4⟩ := and_of hz
      obtain ⟨h, h3⟩ := and_of h
      obtain ⟨h1, h2⟩ := and_of h
      exact e_bi X hsc h0 h1 h2 h3 (fun pos => evL X as Γ env q.2 pos hsc h3 h4)
  | .listrange _, _, _, _, _, h => no_true h
  | .isi a t, Γ, env, e, hsc, h => by
    obtain ⟨q, hq, h⟩ := any_of (o := vCallN e) h
    obtain ⟨px, pos, rfl⟩ := vCallN_of hq
    obtain ⟨p, hp, h⟩ := any_of (o := vTwo q.2) h
    rw [vTwo_of hp]
    obtain ⟨y, hy, h⟩ := any_of (o := vName p.2) h
    rw [vName_of hy]
    obtain ⟨h, h5⟩ := and_of h
    obtain ⟨h, h4⟩ := and_of h
    obtain ⟨h1, h2⟩ := and_of h
    obtain ⟨a1, b1, c1, d1, e1⟩ := blt_of hsc h1
    exact isi_all X hsc (px := px) (pos := pos) d1 e1 c1 a1 b1 h2 h4 (evE X a Γ env _ hsc h5)
  | .comp elt t nl k src ifs, Γ, env, e, hsc, h => by
    obtain ⟨q, hq, h⟩ := any_of (o := vComp e) h
    obtain ⟨pos, rfl⟩ := vComp_of hq
    obtain ⟨g, hg, h⟩ := any_of (o := vOne q.2.1) h
    rw [vOne_of hg]
    obtain ⟨x, hx, h⟩ := any_of (o := vName g.target) h
    obtain ⟨h, h5⟩ := and_of h
    obtain ⟨h, h4⟩ := and_of h
    obtain ⟨h, h3⟩ := and_of h
    obtain ⟨h, h2⟩ := and_of h
    obtain ⟨h, h1⟩ := and_of h
    obtain ⟨h, h0⟩ := and_of h
    obtain ⟨ht, hnl⟩ := and_of h
    rw [of_dec ht, of_dec hnl, gen_eq hx h0]
    exact comp_all (compOk_of hsc h1) (set_of h2) (src_of X hsc h3 (fun e c hc he => evOne X src Γ env e hsc c hc he) (fun es pos hs he => evL X src Γ env es pos hsc hs he))
      (fun cl C => evIf_ X ifs (compIn q.2.2 x.1 Γ) _ g.ifs (relab_eq hsc) h4) (fun cl C => evE X elt (compIn q.2.2 x.1 Γ) _ q.1 (relab_eq hsc) h5)
theorem evOne (X : Fx W P A fs n F) : ∀ (cs : List CE) (Γ : Cx) (env : Env) (e : Expr), env.scope = Γ.sc → ∀ c, cs = [c] → mE P Γ c e = true → SiE W A fs env Γ.vis (eval e env) (fun r => ev P.S F c r)
  | [], Γ, env, e, hsc, c', hc, h => no_cons hc
  | c :: cs, Γ, env, e, hsc, c', hc, h => by
    have hc1 : c' = c := by injection hc with a; exact a.symm
    rw [hc1] at h ⊢
    exact evE X c Γ env e hsc h
theorem evL (X : Fx W P A fs n F) : ∀ (cs : List CE) (Γ : Cx) (env : Env) (es : List Expr) (pos : Pos), env.scope = Γ.sc → noStar es = true → mEs P Γ cs es = true → SiL W A fs env Γ.vis (spliced (backTo pos (starEach es env))) (fun r => evs P.S F cs r)
  | [], Γ, env, es, pos, hsc, hs, h => by
    rw [mEs_nil h]
    exact l_nil
  | c :: cs, Γ, env, es, pos, hsc, hs, h => by
    obtain ⟨e, es', he, h1, h2⟩ := mEs_cons h
    rw [he] at hs ⊢
    exact l_cons (evE X c Γ env _ hsc h1) (evL X cs Γ env _ _ hsc (noStar_tail hs) h2) (star_cons hs)
theorem evBo (X : Fx W P A fs n F) : ∀ (cs : List CE) (Γ : Cx) (env : Env) (es : List Expr) (pos : Pos) (op : BoolOp) (b : Bool), env.scope = Γ.sc → isOp b op = true → mEs P Γ cs es = true → cs ≠ [] → SiE W A fs env Γ.vis (boolOp pos op (evalEach es env)) (fun r => evB P.S F b cs r)
  | [], Γ, env, es, pos, op, b, hsc, ho, h, hne => absurd rfl hne
  | [c], Γ, env, es, pos, op, b, hsc, ho, h, hne => by
    obtain ⟨e, es', he, h1, h2⟩ := mEs_cons h
    rw [he, mEs_nil h2]
    exact b_one (evE X c Γ env _ hsc h1)
  | c :: c' :: cs, Γ, env, es, pos, op, b, hsc, ho, h, hne => by
    obtain ⟨e, es', he, h1, h2⟩ := mEs_cons h
    have h2' := h2
    obtain ⟨e', es'', he', _, _⟩ := mEs_cons h2
    rw [he]
    rw [he'] at h2' ⊢
    exact b_cons (op_of ho) (evE X c Γ env _ hsc h1) (evBo X (c' :: cs) Γ env (e' :: es'') pos op b hsc ho h2' (List.cons_ne_nil _ _))
theorem evCm (X : Fx W P A fs n F) : ∀ (cs : List CE) (Γ : Cx) (env : Env) (es : List Expr) (pos : Pos) (ops : List CmpOp), env.scope = Γ.sc → ops.length = cs.length → cs ≠ [] → mEs P Γ cs es = true → es.all noSet = true → SiC W A fs env Γ.vis (fun u => compareChain pos u ops (markedEach ops es (evalEach es env))) (fun x r => evC P.S F x ops cs r)
  | [], Γ, env, es, pos, ops, hsc, hl, hne, h, hs => absurd rfl hne
  | [c], Γ, env, es, pos, ops, hsc, hl, hne, h, hs => by
    obtain ⟨e, es', he, h1, h2⟩ := mEs_cons h
    obtain ⟨op, rfl⟩ := List.length_eq_one_iff.mp hl
    rw [he, mEs_nil h2] at hs ⊢
    exact c_one X.gl.ok X.R (marks_of (and_of hs).1) (evE X c Γ env _ hsc h1)
  | c :: c' :: cs, Γ, env, es, pos, ops, hsc, hl, hne, h, hs => by
    obtain ⟨e, es', he, h1, h2⟩ := mEs_cons h
    have h2' := h2
    obtain ⟨e', es'', he', _, _⟩ := mEs_cons h2
    rw [he] at hs ⊢
    rw [he'] at h2' hs ⊢
    obtain ⟨op, op', ops', rfl⟩ := two_ops hl
    exact c_more X.gl.ok X.R (evE X c Γ env _ hsc h1) (evCm X (c' :: cs) Γ env (e' :: es'') pos (op' :: ops') hsc (Nat.succ.inj hl) (List.cons_ne_nil _ _) h2' (and_of hs).2)
theorem evCt (X : Fx W P A fs n F) : ∀ (cs : List CE) (Γ : Cx) (env : Env) (es : List Expr) (pos : Pos) (ops : List CmpOp), env.scope = Γ.sc → ops.length = cs.length → cs ≠ [] → mEs P Γ cs es = true → es.all noSet = true → SiCB W A fs env Γ.vis (fun u => testChain pos u ops (markedEach ops es (evalEach es env))) (fun x r => evC P.S F x ops cs r)
  | [], Γ, env, es, pos, ops, hsc, hl, hne, h, hs => absurd rfl hne
  | [c], Γ, env, es, pos, ops, hsc, hl, hne, h, hs => by
    obtain ⟨e, es', he, h1, h2⟩ := mEs_cons h
    obtain ⟨op, rfl⟩ := List.length_eq_one_iff.mp hl
    rw [he, mEs_nil h2] at hs ⊢
    exact t_one X.gl.ok X.R (marks_of (and_of hs).1) (evE X c Γ env _ hsc h1)
  | c :: c' :: cs, Γ, env, es, pos, ops, hsc, hl, hne, h, hs => by
    obtain ⟨e, es', he, h1, h2⟩ := mEs_cons h
    have h2' := h2
    obtain ⟨e', es'', he', _, _⟩ := mEs_cons h2
    rw [he] at hs ⊢
    rw [he'] at h2' hs ⊢
    obtain ⟨op, op', ops', rfl⟩ := two_ops hl
    exact t_more X.gl.ok X.R (evE X c Γ env _ hsc h1) (evCt X (c' :: cs) Γ env (e' :: es'') pos (op' :: ops') hsc (Nat.succ.inj hl) (List.cons_ne_nil _ _) h2' (and_of hs).2)
theorem evTt (X : Fx W P A fs n F) : ∀ (b : CB) (Γ : Cx) (env : Env) (e : Expr), env.scope = Γ.sc → mB P Γ b e = true → SiB W A fs env Γ.vis (isTrue e env (eval e env)) (fun r => evT P.S F b r)
  | .not b, Γ, env, e, hsc, h => by
    obtain ⟨q, hq, h⟩ := any_of (o := vUn e) h
    obtain ⟨_, rfl⟩ := vUn_of hq
    obtain ⟨h0, h1⟩ := and_of h
    rw [isNot_of h0]
    exact t_not (evTt X b Γ env _ hsc h1)
  | .all c bs, Γ, env, e, hsc, h => by
    obtain ⟨q, hq, h⟩ := any_of (o := vBool e) h
    obtain ⟨_, rfl⟩ := vBool_of hq
    obtain ⟨h0, h1⟩ := and_of h
    exact t_all (evTs_ X bs Γ env _ _ _ hsc h0 h1)
  | .val c, Γ, env, e, hsc, h => by
    rcases val_of h with ⟨hp, hm⟩ | ⟨a, ops, bs, pos, he, hm⟩
    · exact t_val (evE X c Γ env e hsc hm) (plain_of_test hp)
    · subst he
      exact evCa X c Γ env a ops bs pos hsc hm
theorem evCa (X : Fx W P A fs n F) : ∀ (c : CE) (Γ : Cx) (env : Env) (a : Expr) (ops : List CmpOp) (bs : List Expr) (pos : Pos), env.scope = Γ.sc → mE P Γ c (.Compare a ops bs pos) = true → SiB W A fs env Γ.vis (isTrue (.Compare a ops bs pos) env (eval (.Compare a ops bs pos) env)) (fun r => bnd (ev P.S F c r) truth)
  | .cmp ca cops cbs, Γ, env, a, ops, bs, pos, hsc, h => by
    obtain ⟨h0, h1, h2, h3, h4, h5⟩ := cmp_of h
    subst h0
    exact t_cmp (W := W) (A := A) (fs := fs) (env := env) (vis := Γ.vis) (pos := pos) (a := a) (ops := cops) (bs := bs) (ca := fun r => ev P.S F ca r) (cc := fun x r => evC P.S F x cops cbs r) (evE X ca Γ env a hsc h1) (evCt X cbs Γ env bs pos cops hsc h3 h4 h2 h5)
  | .cnst _, _, _, _, _, _, _, _, h => no_true h
  | .var _, _, _, _, _, _, _, _, h => no_true h
  | .glob _, _, _, _, _, _, _, _, h => no_true h
  | .fnv _, _, _, _, _, _, _, _, h => no_true h
  | .bin _ _ _, _, _, _, _, _, _, _, h => no_true h
  | .neg _, _, _, _, _, _, _, _, h => no_true h
  | .not _, _, _, _, _, _, _, _, h => no_true h
  | .boolop _ _, _, _, _, _, _, _, _, h => no_true h
  | .ite _ _ _, _, _, _, _, _, _, _, h => no_true h
  | .tup _, _, _, _, _, _, _, _, h => no_true h
  | .list _, _, _, _, _, _, _, _, h => no_true h
  | .dict _ _, _, _, _, _, _, _, _, h => no_true h
  | .idx _ _, _, _, _, _, _, _, _, h => no_true h
  | .slice _ _ _ _, _, _, _, _, _, _, _, h => no_true h
  | .attr _ _, _, _, _, _, _, _, _, h => no_true h
  | .call _ _, _, _, _, _, _, _, _, h => no_true h
  | .callv _ _, _, _, _, _, _, _, _, h => no_true h
  | .new _ _, _, _, _, _, _, _, _, h => no_true h
  | .meth _ _ _, _, _, _, _, _, _, _, h => no_true h
  | .smeth _ _ _, _, _, _, _, _, _, _, h => no_true h
  | .bi _ _, _, _, _, _, _, _, _, h => no_true h
  | .listrange _, _, _, _, _, _, _, _, h => no_true h
  | .isi _ _, _, _, _, _, _, _, _, h => no_true h
  | .comp _ _ _ _ _ _, _, _, _, _, _, _, _, h => no_true h
theorem evTs_ (X : Fx W P A fs n F) : ∀ (bs : List CB) (Γ : Cx) (env : Env) (es : List Expr) (op : BoolOp) (b : Bool), env.scope = Γ.sc → isOp b op = true → mIfs P Γ bs es = true → SiB W A fs env Γ.vis (allTrue op es env) (fun r => evTs P.S F b bs r)
  | [], Γ, env, es, op, b, hsc, ho, h => by
    rw [mIfs_nil h]
    exact t_nil (op_of ho)
  | c :: cs, Γ, env, es, op, b, hsc, ho, h => by
    obtain ⟨e, es', he, h1, h2⟩ := mIfs_cons h
    rw [he]
    exact t_cons (op_of ho) (evTt X c Γ env _ hsc h1) (evTs_ X cs Γ env _ op b hsc ho h2)
theorem evIf_ (X : Fx W P A fs n F) : ∀ (bs : List CB) (Γ : Cx) (env : Env) (es : List Expr), env.scope = Γ.sc → mIfs P Γ bs es = true → SiB W A fs env Γ.vis (tests es env true) (fun r => evIf P.S F bs r)
  | [], Γ, env, es, hsc, h => by
    rw [mIfs_nil h]
    exact if_nil
  | c :: cs, Γ, env, es, hsc, h => by
    obtain ⟨e, es', he, h1, h2⟩ := mIfs_cons h
    rw [he]
    exact if_cons (evTt X c Γ env _ hsc h1) (evIf_ X cs Γ env _ hsc h2)
end
end
end Mini

/-! Statements and functions. -/
namespace Mini
open PySem PySem.W PyProof.Rows

section
variable {W : Wd} {P : Px} {fs : List Env} {A : Around} {n : Nat} {F : Fns} {env : Env}

theorem tgt_of {Γ : Cx} {i : Nat} {x : Str} (hsc : env.scope = Γ.sc) (h : isTgt Γ i x = true) : Γ.vis[i]? = some (some x) ∧ (env.kindOf x = some .local ∨ env.kindOf x = some .cell) := by
  simp only [isTgt, Bool.and_eq_true] at h
  obtain ⟨h1, h2⟩ := h
  refine ⟨?_, ?_⟩
  · split at h1
    · rename_i y q; rw [q, beq_iff_eq.mp h1]
    · cases h1
  · show env.scope.names.lookup x = _ ∨ env.scope.names.lookup x = _
    rw [hsc]
    split at h2
    · rename_i q; exact .inl q
    · rename_i q; exact .inr q
    · cases h2
theorem mT_of {Γ : Cx} {t : CT} {tg : Expr} (h : mT Γ t tg = true) : ∃ i x pos, t = .one i ∧ tg = .Name x pos ∧ isTgt Γ i x = true := by
  cases t with
  | many is => exact no_true h
  | one i =>
    obtain ⟨q, hq, h⟩ := any_of (o := vName tg) h
    exact ⟨i, q.1, q.2, rfl, vName_of hq, h⟩
noncomputable def IsAsg (c : List Expr × Expr × Pos) (e : Stmt) : Prop := e = .Assign c.1 c.2.1 c.2.2
theorem vAsg_of' {e : Stmt} {c : List Expr × Expr × Pos} (h : vAsg e = some c) : IsAsg c e :=
  Stmt.casesOn (motive_2 := fun e => vAsg e = some c → IsAsg c e) e (fun _ _ _ _ _ _ _ _ _ _ h => no_some h) (fun _ _ _ _ _ _ _ _ _ _ h => no_some h) (fun _ _ _ _ _ _ _ _ _ _ _ h => no_some h) (fun _ _ h => no_some h) (fun _ _ h => no_some h) (fun _ _ _ h => by cases h; rfl) (fun _ _ _ _ _ _ _ h => no_some h) (fun _ _ _ _ h => no_some h) (fun _ _ _ _ _ h => no_some h) (fun _ _ _ _ _ h => no_some h) (fun _ _ _ _ _ h => no_some h) (fun _ _ _ _ h => no_some h) (fun _ _ _ _ h => no_some h) (fun _ _ _ h => no_some h) (fun _ _ _ h => no_some h) (fun _ _ _ h => no_some h) (fun _ _ _ h => no_some h) (fun _ _ _ _ _ h => no_some h) (fun _ _ _ _ _ h => no_some h) (fun _ _ _ h => no_some h) (fun _ _ h => no_some h) (fun _ _ _ _ h => no_some h) (fun _ _ h => no_some h) (fun _ _ h => no_some h) (fun _ _ h => no_some h) (fun _ h => no_some h) (fun _ h => no_some h) (fun _ h => no_some h) h
theorem vAsg_of {e : Stmt} {c : List Expr × Expr × Pos} (h : vAsg e = some c) : e = .Assign c.1 c.2.1 c.2.2 := vAsg_of' h
noncomputable def IsExp (c : Expr) (e : Stmt) : Prop := ∃ pos, e = .Expr c pos
theorem vExp_of' {e : Stmt} {c : Expr} (h : vExp e = some c) : IsExp c e :=
  Stmt.casesOn (motive_2 := fun e => vExp e = some c → IsExp c e) e (fun _ _ _ _ _ _ _ _ _ _ h => no_some h) (fun _ _ _ _ _ _ _ _ _ _ h => no_some h) (fun _ _ _ _ _ _ _ _ _ _ _ h => no_some h) (fun _ _ h => no_some h) (fun _ _ h => no_some h) (fun _ _ _ h => no_some h) (fun _ _ _ _ _ _ _ h => no_some h) (fun _ _ _ _ h => no_some h) (fun _ _ _ _ _ h => no_some h) (fun _ _ _ _ _ h => no_some h) (fun _ _ _ _ _ h => no_some h) (fun _ _ _ _ h => no_some h) (fun _ _ _ _ h => no_some h) (fun _ _ _ h => no_some h) (fun _ _ _ h => no_some h) (fun _ _ _ h => no_some h) (fun _ _ _ h => no_some h) (fun _ _ _ _ _ h => no_some h) (fun _ _ _ _ _ h => no_some h) (fun _ _ _ h => no_some h) (fun _ _ h => no_some h) (fun _ _ _ _ h => no_some h) (fun _ _ h => no_some h) (fun _ _ h => no_some h) (fun _ _ h => by cases h; exact ⟨_, rfl⟩) (fun _ h => no_some h) (fun _ h => no_some h) (fun _ h => no_some h) h
theorem vExp_of {e : Stmt} {c : Expr} (h : vExp e = some c) : ∃ pos, e = .Expr c pos := vExp_of' h
noncomputable def IsIfS (c : Expr × List Stmt × List Stmt) (e : Stmt) : Prop := ∃ pos, e = .If c.1 c.2.1 c.2.2 pos
theorem vIfS_of' {e : Stmt} {c : Expr × List Stmt × List Stmt} (h : vIfS e = some c) : IsIfS c e :=
  Stmt.casesOn (motive_2 := fun e => vIfS e = some c → IsIfS c e) e (fun _ _ _ _ _ _ _ _ _ _ h => no_some h) (fun _ _ _ _ _ _ _ _ _ _ h => no_some h) (fun _ _ _ _ _ _ _ _ _ _ _ h => no_some h) (fun _ _ h => no_some h) (fun _ _ h => no_some h) (fun _ _ _ h => no_some h) (fun _ _ _ _ _ _ _ h => no_some h) (fun _ _ _ _ h => no_some h) (fun _ _ _ _ _ h => no_some h) (fun _ _ _ _ _ h => no_some h) (fun _ _ _ _ _ h => no_some h) (fun _ _ _ _ h => no_some h) (fun _ _ _ _ h => by cases h; exact ⟨_, rfl⟩) (fun _ _ _ h => no_some h) (fun _ _ _ h => no_some h) (fun _ _ _ h => no_some h) (fun _ _ _ h => no_some h) (fun _ _ _ _ _ h => no_some h) (fun _ _ _ _ _ h => no_some h) (fun _ _ _ h => no_some h) (fun _ _ h => no_some h) (fun _ _ _ _ h => no_some h) (fun _ _ h => no_some h) (fun _ _ h => no_some h) (fun _ _ h => no_some h) (fun _ h => no_some h) (fun _ h => no_some h) (fun _ h => no_some h) h
theorem vIfS_of {e : Stmt} {c : Expr × List Stmt × List Stmt} (h : vIfS e = some c) : ∃ pos, e = .If c.1 c.2.1 c.2.2 pos := vIfS_of' h
noncomputable def IsFor (c : Expr × Expr × List Stmt × List Stmt) (e : Stmt) : Prop := ∃ pos, e = .For c.1 c.2.1 c.2.2.1 c.2.2.2 pos
theorem vFor_of' {e : Stmt} {c : Expr × Expr × List Stmt × List Stmt} (h : vFor e = some c) : IsFor c e :=
  Stmt.casesOn (motive_2 := fun e => vFor e = some c → IsFor c e) e (fun _ _ _ _ _ _ _ _ _ _ h => no_some h) (fun _ _ _ _ _ _ _ _ _ _ h => no_some h) (fun _ _ _ _ _ _ _ _ _ _ _ h => no_some h) (fun _ _ h => no_some h) (fun _ _ h => no_some h) (fun _ _ _ h => no_some h) (fun _ _ _ _ _ _ _ h => no_some h) (fun _ _ _ _ h => no_some h) (fun _ _ _ _ _ h => no_some h) (fun _ _ _ _ _ h => by cases h; exact ⟨_, rfl⟩) (fun _ _ _ _ _ h => no_some h) (fun _ _ _ _ h => no_some h) (fun _ _ _ _ h => no_some h) (fun _ _ _ h => no_some h) (fun _ _ _ h => no_some h) (fun _ _ _ h => no_some h) (fun _ _ _ h => no_some h) (fun _ _ _ _ _ h => no_some h) (fun _ _ _ _ _ h => no_some h) (fun _ _ _ h => no_some h) (fun _ _ h => no_some h) (fun _ _ _ _ h => no_some h) (fun _ _ h => no_some h) (fun _ _ h => no_some h) (fun _ _ h => no_some h) (fun _ h => no_some h) (fun _ h => no_some h) (fun _ h => no_some h) h
theorem vFor_of {e : Stmt} {c : Expr × Expr × List Stmt × List Stmt} (h : vFor e = some c) : ∃ pos, e = .For c.1 c.2.1 c.2.2.1 c.2.2.2 pos := vFor_of' h
noncomputable def IsRet (c : Option Expr) (e : Stmt) : Prop := ∃ pos, e = .Return c pos
theorem vRet_of' {e : Stmt} {c : Option Expr} (h : vRet e = some c) : IsRet c e :=
  Stmt.casesOn (motive_2 := fun e => vRet e = some c → IsRet c e) e (fun _ _ _ _ _ _ _ _ _ _ h => no_some h) (fun _ _ _ _ _ _ _ _ _ _ h => no_some h) (fun _ _ _ _ _ _ _ _ _ _ _ h => no_some h) (fun _ _ h => by cases h; exact ⟨_, rfl⟩) (fun _ _ h => no_some h) (fun _ _ _ h => no_some h) (fun _ _ _ _ _ _ _ h => no_some h) (fun _ _ _ _ h => no_some h) (fun _ _ _ _ _ h => no_some h) (fun _ _ _ _ _ h => no_some h) (fun _ _ _ _ _ h => no_some h) (fun _ _ _ _ h => no_some h) (fun _ _ _ _ h => no_some h) (fun _ _ _ h => no_some h) (fun _ _ _ h => no_some h) (fun _ _ _ h => no_some h) (fun _ _ _ h => no_some h) (fun _ _ _ _ _ h => no_some h) (fun _ _ _ _ _ h => no_some h) (fun _ _ _ h => no_some h) (fun _ _ h => no_some h) (fun _ _ _ _ h => no_some h) (fun _ _ h => no_some h) (fun _ _ h => no_some h) (fun _ _ h => no_some h) (fun _ h => no_some h) (fun _ h => no_some h) (fun _ h => no_some h) h
theorem vRet_of {e : Stmt} {c : Option Expr} (h : vRet e = some c) : ∃ pos, e = .Return c pos := vRet_of' h
noncomputable def IsCont (e : Stmt) : Prop := ∃ pos, e = .Continue pos
theorem vCont_of' {e : Stmt} (h : vCont e = true) : IsCont e :=
  Stmt.casesOn (motive_2 := fun e => vCont e = true → IsCont e) e (fun _ _ _ _ _ _ _ _ _ _ h => no_true h) (fun _ _ _ _ _ _ _ _ _ _ h => no_true h) (fun _ _ _ _ _ _ _ _ _ _ _ h => no_true h) (fun _ _ h => no_true h) (fun _ _ h => no_true h) (fun _ _ _ h => no_true h) (fun _ _ _ _ _ _ _ h => no_true h) (fun _ _ _ _ h => no_true h) (fun _ _ _ _ _ h => no_true h) (fun _ _ _ _ _ h => no_true h) (fun _ _ _ _ _ h => no_true h) (fun _ _ _ _ h => no_true h) (fun _ _ _ _ h => no_true h) (fun _ _ _ h => no_true h) (fun _ _ _ h => no_true h) (fun _ _ _ h => no_true h) (fun _ _ _ h => no_true h) (fun _ _ _ _ _ h => no_true h) (fun _ _ _ _ _ h => no_true h) (fun _ _ _ h => no_true h) (fun _ _ h => no_true h) (fun _ _ _ _ h => no_true h) (fun _ _ h => no_true h) (fun _ _ h => no_true h) (fun _ _ h => no_true h) (fun _ h => no_true h) (fun _ h => no_true h) (fun _ h => by exact ⟨_, rfl⟩) h
theorem vCont_of {e : Stmt} (h : vCont e = true) : ∃ pos, e = .Continue pos := vCont_of' h
noncomputable def IsPass (e : Stmt) : Prop := ∃ pos, e = .Pass pos
theorem vPass_of' {e : Stmt} (h : vPass e = true) : IsPass e :=
  Stmt.casesOn (motive_2 := fun e => vPass e = true → IsPass e) e (fun _ _ _ _ _ _ _ _ _ _ h => no_true h) (fun _ _ _ _ _ _ _ _ _ _ h => no_true h) (fun _ _ _ _ _ _ _ _ _ _ _ h => no_true h) (fun _ _ h => no_true h) (fun _ _ h => no_true h) (fun _ _ _ h => no_true h) (fun _ _ _ _ _ _ _ h => no_true h) (fun _ _ _ _ h => no_true h) (fun _ _ _ _ _ h => no_true h) (fun _ _ _ _ _ h => no_true h) (fun _ _ _ _ _ h => no_true h) (fun _ _ _ _ h => no_true h) (fun _ _ _ _ h => no_true h) (fun _ _ _ h => no_true h) (fun _ _ _ h => no_true h) (fun _ _ _ h => no_true h) (fun _ _ _ h => no_true h) (fun _ _ _ _ _ h => no_true h) (fun _ _ _ _ _ h => no_true h) (fun _ _ _ h => no_true h) (fun _ _ h => no_true h) (fun _ _ _ _ h => no_true h) (fun _ _ h => no_true h) (fun _ _ h => no_true h) (fun _ _ h => no_true h) (fun _ h => by exact ⟨_, rfl⟩) (fun _ h => no_true h) (fun _ h => no_true h) h
theorem vPass_of {e : Stmt} (h : vPass e = true) : ∃ pos, e = .Pass pos := vPass_of' h
noncomputable def IsRse (c : Option Expr × Option Expr) (e : Stmt) : Prop := ∃ pos, e = .Raise c.1 c.2 pos
theorem vRse_of {e : Stmt} {c : Option Expr × Option Expr} (h : vRse e = some c) : IsRse c e :=
  Stmt.casesOn (motive_2 := fun e => vRse e = some c → IsRse c e) e (fun _ _ _ _ _ _ _ _ _ _ h => no_some h) (fun _ _ _ _ _ _ _ _ _ _ h => no_some h) (fun _ _ _ _ _ _ _ _ _ _ _ h => no_some h) (fun _ _ h => no_some h) (fun _ _ h => no_some h) (fun _ _ _ h => no_some h) (fun _ _ _ _ _ _ _ h => no_some h) (fun _ _ _ _ h => no_some h) (fun _ _ _ _ _ h => no_some h) (fun _ _ _ _ _ h => no_some h) (fun _ _ _ _ _ h => no_some h) (fun _ _ _ _ h => no_some h) (fun _ _ _ _ h => no_some h) (fun _ _ _ h => no_some h) (fun _ _ _ h => no_some h) (fun _ _ _ h => no_some h) (fun _ _ _ h => by cases h; exact ⟨_, rfl⟩) (fun _ _ _ _ _ h => no_some h) (fun _ _ _ _ _ h => no_some h) (fun _ _ _ h => no_some h) (fun _ _ h => no_some h) (fun _ _ _ _ h => no_some h) (fun _ _ h => no_some h) (fun _ _ h => no_some h) (fun _ _ h => no_some h) (fun _ h => no_some h) (fun _ h => no_some h) (fun _ h => no_some h) h
noncomputable def IsTry (c : List Stmt × List ExceptHandler × List Stmt × List Stmt) (e : Stmt) : Prop := ∃ pos, e = .Try c.1 c.2.1 c.2.2.1 c.2.2.2 pos
theorem vTry_of {e : Stmt} {c : List Stmt × List ExceptHandler × List Stmt × List Stmt} (h : vTry e = some c) : IsTry c e :=
  Stmt.casesOn (motive_2 := fun e => vTry e = some c → IsTry c e) e (fun _ _ _ _ _ _ _ _ _ _ h => no_some h) (fun _ _ _ _ _ _ _ _ _ _ h => no_some h) (fun _ _ _ _ _ _ _ _ _ _ _ h => no_some h) (fun _ _ h => no_some h) (fun _ _ h => no_some h) (fun _ _ _ h => no_some h) (fun _ _ _ _ _ _ _ h => no_some h) (fun _ _ _ _ h => no_some h) (fun _ _ _ _ _ h => no_some h) (fun _ _ _ _ _ h => no_some h) (fun _ _ _ _ _ h => no_some h) (fun _ _ _ _ h => no_some h) (fun _ _ _ _ h => no_some h) (fun _ _ _ h => no_some h) (fun _ _ _ h => no_some h) (fun _ _ _ h => no_some h) (fun _ _ _ h => no_some h) (fun _ _ _ _ _ h => by cases h; exact ⟨_, rfl⟩) (fun _ _ _ _ _ h => no_some h) (fun _ _ _ h => no_some h) (fun _ _ h => no_some h) (fun _ _ _ _ h => no_some h) (fun _ _ h => no_some h) (fun _ _ h => no_some h) (fun _ _ h => no_some h) (fun _ h => no_some h) (fun _ h => no_some h) (fun _ h => no_some h) h
theorem vHand_of {hd : ExceptHandler} {c : Expr × Option Str × Expr} (h : vHand hd = some c) : ∃ rp hp, hd = .ExceptHandler (some c.1) c.2.1 [.Return (some c.2.2) rp] hp := by
  obtain ⟨ty, nm, body, hp⟩ := hd
  cases ty with
  | none => exact no_some h
  | some t =>
    cases body with
    | nil => exact no_some h
    | cons st rest =>
      cases rest with
      | cons _ _ => exact no_some h
      | nil =>
        have h : ((vRet st).bind fun o => o.map fun e => (t, nm, e)) = some c := h
        cases hr : vRet st with
        | none => rw [hr] at h; exact no_some h
        | some o =>
          rw [hr] at h
          cases o with
          | none => exact no_some h
          | some e =>
            cases h
            obtain ⟨rp, rfl⟩ := vRet_of hr
            exact ⟨rp, hp, rfl⟩
theorem noswap {v : Expr} {t : Option Expr} {line : Nat} (h : isComp v = false) : swapsWith v t line env = Pure.pure false := by
  cases v <;> first | rfl | (exact no_true h.symm)

/-- the parts of a comprehension -/
structure Cmp (W : Wd) (P : Px) (A : Around) (fs : List Env) (F : Fns) (env : Env) (Γ : Cx) (c : CE) (e0 : Expr) (gens : List Comprehension) (scope : Scope) : Prop where
  parts : ∃ elt k src ifs x px iter ifs', c = .comp elt (.one Γ.vis.length) 1 k src ifs ∧ gens = [⟨.Name x px, iter, ifs', 0⟩] ∧ CompOk scope env Γ.vis (seen scope x Γ.vis) 1 ∧ (∀ y, foldedSetIterable iter env y = Pure.pure y) ∧
    SiSrc W A fs env Γ.vis iter (fun r => bnd (evs P.S F src r) (srcV k)) ∧ (∀ cl C, SiB W A fs (compEnvC scope cl C env) (seen scope x Γ.vis) (tests ifs' (compEnvC scope cl C env) true) (fun r => evIf P.S F ifs r)) ∧
    (∀ cl C, SiE W A fs (compEnvC scope cl C env) (seen scope x Γ.vis) (eval e0 (compEnvC scope cl C env)) (fun r => ev P.S F elt r)) ∧ env.scope.kind = .function
theorem cmp_parts (X : Fx W P A fs n F) {Γ : Cx} : ∀ {c : CE} {e0 : Expr} {gens : List Comprehension} {scope : Scope} {pos : Pos} (hsc : env.scope = Γ.sc) (h : mE P Γ c (.ListComp e0 gens scope pos) = true), Cmp W P A fs F env Γ c e0 gens scope := by
  intro c e0 gens scope pos hsc h
  cases c with
  | comp elt t nl k src ifs =>
    obtain ⟨g, hg, h⟩ := any_of (o := vOne gens) h
    rw [vOne_of hg]
    obtain ⟨x, hx, h⟩ := any_of (o := vName g.target) h
    obtain ⟨h, h5⟩ := and_of h
    obtain ⟨h, h4⟩ := and_of h
    obtain ⟨h, h3⟩ := and_of h
    obtain ⟨h, h2⟩ := and_of h
    obtain ⟨h, h1⟩ := and_of h
    obtain ⟨h, h0⟩ := and_of h
    obtain ⟨ht, hnl⟩ := and_of h
    rw [of_dec ht, of_dec hnl]
    have hf : env.scope.kind = .function := by rw [hsc]; exact beq_iff_eq.mp (and_of h1).2
    exact ⟨elt, k, src, ifs, x.1, x.2, g.iter, g.ifs, rfl, by rw [← gen_eq hx h0], compOk_of hsc h1, set_of h2,
      src_of X hsc h3 (fun e c hc he => evOne X src Γ env e hsc c hc he) (fun es pos hs he => evL X src Γ env es pos hsc hs he),
      fun cl C => evIf_ X ifs (compIn scope x.1 Γ) _ g.ifs (relab_eq hsc) h4, fun cl C => evE X elt (compIn scope x.1 Γ) _ e0 (relab_eq hsc) h5, hf⟩
  | _ => exact no_true h

theorem asg_one (X : Fx W P A (env :: fs) n F) {Γ : Cx} {t : CT} {e : CE} {tg v : Expr} {pos : Pos} (hsc : env.scope = Γ.sc) (h : (mT Γ t tg && mE P Γ e v && (vName tg).any fun y => okComp Γ y v) = true) :
    SiS W A fs env Γ.vis (exec (.Assign [tg] v pos) env) (fun r => ex P.S F (.asg (.one t) e) r) := by
  obtain ⟨h, h3⟩ := and_of h
  obtain ⟨h1, h2⟩ := and_of h
  obtain ⟨i, y, py, rfl, rfl, ht⟩ := mT_of h1
  obtain ⟨hv, hk⟩ := tgt_of hsc ht
  have h3 : okComp Γ (y, py) v = true := h3
  cases hc : isComp v with
  | false => exact x_asg (evE X e Γ env v hsc h2) (a_name hv hk) (noswap (env := env) (line := pos.line) (t := some (.Name y py)) hc) rfl rfl
  | true =>
    have h3 : (!isComp v || (vComp v).any fun q => !(Γ.sc.names.lookup y == some .local) || (py.line == v.pos.line && !(q.2.2.names.any fun (n, k) => n == y && (k == .local || k == .cell)))) = true := h3
    rw [hc] at h3
    obtain ⟨q, hq, h3⟩ := any_of (o := vComp v) h3
    obtain ⟨cpos, rfl⟩ := vComp_of hq
    obtain ⟨elt, k, src, ifs, x, px, iter, ifs', rfl, hgen, ck, hs, hsrc, hifs, helt, hf⟩ := (cmp_parts X hsc h2).parts
    cases hloc : env.kindOf y == some .local with
    | true =>
      have hl' : (Γ.sc.names.lookup y == some NameKind.local) = true := by rw [← hsc]; exact hloc
      rw [hl'] at h3
      obtain ⟨h3, h4⟩ := and_of h3
      have hb : (env.blockKind == ScopeKind.function) = true := by
        unfold Env.blockKind; rw [hf]; rfl
      have hsw : swapsWithSole [.Name y py] (.ListComp q.1 q.2.1 q.2.2 cpos) pos.line env = Pure.pure true := by
        show (Pure.pure _ : Sem Bool) = _
        rw [hb, hloc, h3, h4]; rfl
      rw [hgen] at hsw ⊢
      have := x_asg_comp (W := W) (A := A) (fs := fs) (env := env) (vis := Γ.vis) (pos := pos) (vis' := seen q.2.2 x Γ.vis) (nl := 1) (j := Γ.vis.length) (i := i) ck hs (seen_last q.2.2 x Γ.vis) (Nat.le_refl _) hsrc hifs helt hsw hv (beq_iff_eq.mp hloc)
      intro s io m r Z
      have eq : ex P.S F (.asg (.one (.one i)) (.comp elt (.one Γ.vis.length) 1 k src ifs)) r = bnd (bnd (bnd (evs P.S F src r) (srcV k)) fun p => bnd (compD p.2 (stepOf Γ.vis.length (r ++ List.replicate 1 none) (fun r => evIf P.S F ifs r) (fun r => ev P.S F elt r)) p.1) fun l => if l.length ≤ lid then alloc (.list l) else bad) fun v => bnd (fun m => .ok (r.set i (some v)) m) fun r' => ret (.next, r') := by
        rw [bnd_assoc (evs P.S F src r)]; rfl
      dsimp only
      rw [eq]
      exact this s io m r Z
    | false =>
      have hsw : swapsWithSole [.Name y py] (.ListComp q.1 q.2.1 q.2.2 cpos) pos.line env = Pure.pure false := by
        show (Pure.pure _ : Sem Bool) = _
        rw [hloc, Bool.and_false]; rfl
      exact x_asg (evE X _ Γ env _ hsc h2) (a_name hv hk) hsw rfl rfl
theorem mTs_of {Γ : Cx} (hsc : env.scope = Γ.sc) : ∀ {is : List Nat} {es : List Expr}, mTs Γ is es = true → Tgs env Γ.vis is es
  | [], es, h => nil_of h
  | i :: is, [], h => no_true h
  | i :: is, e :: es, h => by
    obtain ⟨h1, h2⟩ := and_of (a := (vName e).any fun (x : Str × Pos) => isTgt Γ i x.1) (b := mTs Γ is es) h
    obtain ⟨q, hq, h1⟩ := any_of (o := vName e) h1
    obtain ⟨hv, hk⟩ := tgt_of hsc h1
    exact ⟨q.1, q.2, es, by rw [vName_of hq], hv, hk, mTs_of hsc h2⟩
theorem noswaps {v : Expr} {ts : List Expr} {k : Nat} {p : Pos} (h : (vTup v).isNone = true) : swappedStores [.Tuple ts k p] v env = Pure.pure none := by
  cases v <;> first | rfl | (exact no_true h)
theorem asg_many (X : Fx W P A (env :: fs) n F) {Γ : Cx} {is : List Nat} {e : CE} {tg v : Expr} {pos : Pos} (hsc : env.scope = Γ.sc) (h : (P.loud && mTF Γ (.many is) tg && mE P Γ e v && !isComp v && (vTup v).isNone) = true) :
    SiS W A fs env Γ.vis (exec (.Assign [tg] v pos) env) (fun r => ex P.S F (.asg (.one (.many is)) e) r) := by
  obtain ⟨h, h5⟩ := and_of h
  obtain ⟨h, h4⟩ := and_of h
  obtain ⟨h, h3⟩ := and_of h
  obtain ⟨h1, h2⟩ := and_of h
  obtain ⟨es, hq, h2⟩ := any_of (o := vTup tg) h2
  obtain ⟨k, pt, rfl⟩ := vTup_of hq
  exact x_asg (evE X e Γ env v hsc h3) (a_many (X.hh h1) (mTs_of hsc h2)) (noswap (env := env) (line := pos.line) (t := some (.Tuple es k pt)) ((Bool.not_eq_true' _).mp h4)) (noswaps h5) rfl
theorem noswap2 {v o i o' i' : Expr} {k : Nat} {p p' pt : Pos} : swappedStores [.Tuple [.Subscript o i p, .Subscript o' i' p'] k pt] v env = Pure.pure none := by
  cases v <;> first | rfl | skip
  unfold swappedStores
  dsimp only
  split
  · rfl
  · split
    · rfl
    · rfl
theorem asg_all (X : Fx W P A (env :: fs) n F) {Γ : Cx} {t : CTgt} {e : CE} {tg v : Expr} {pos : Pos} (hsc : env.scope = Γ.sc) (h : mAsg P Γ t e tg v = true) :
    SiS W A fs env Γ.vis (exec (.Assign [tg] v pos) env) (fun r => ex P.S F (.asg t e) r) := by
  cases t with
  | one t =>
    cases t with
    | one i => exact asg_one X hsc h
    | many is => exact asg_many X hsc h
  | attr o k => exact no_true h
  | idx o i =>
    obtain ⟨q, hq, h⟩ := any_of (o := vSub tg) h
    obtain ⟨p, rfl⟩ := vSub_of hq
    obtain ⟨h, h4⟩ := and_of h
    obtain ⟨h, h3⟩ := and_of h
    obtain ⟨h1, h2⟩ := and_of h
    exact x_asg (evE X e Γ env v hsc h3) (a_idx X.R (evE X o Γ env _ hsc h1) (evE X i Γ env _ hsc h2)) (noswap (env := env) (line := pos.line) (t := some (.Subscript q.1 q.2 p)) ((Bool.not_eq_true' _).mp h4)) rfl rfl
  | idx2 o i o' i' =>
    obtain ⟨es, hq, h⟩ := any_of (o := vTup tg) h
    obtain ⟨k, pt, rfl⟩ := vTup_of hq
    obtain ⟨p, hp, h⟩ := any_of (o := vTwo es) h
    rw [vTwo_of hp]
    obtain ⟨q, h1, h⟩ := any_of (o := vSub p.1) h
    obtain ⟨p1, e1⟩ := vSub_of h1
    obtain ⟨q', h2, h⟩ := any_of (o := vSub p.2) h
    obtain ⟨p2, e2⟩ := vSub_of h2
    rw [e1, e2]
    obtain ⟨h, g6⟩ := and_of h
    obtain ⟨h, g5⟩ := and_of h
    obtain ⟨h, g4⟩ := and_of h
    obtain ⟨h, g3⟩ := and_of h
    obtain ⟨h, g2⟩ := and_of h
    obtain ⟨g0, g1⟩ := and_of h
    exact x_asg (evE X e Γ env v hsc g5) (a_idx2 (X.hh g0) (a_idx X.R (evE X o Γ env _ hsc g1) (evE X i Γ env _ hsc g2)) (a_idx X.R (evE X o' Γ env _ hsc g3) (evE X i' Γ env _ hsc g4))) (noswap (env := env) (line := pos.line) (t := some (.Tuple [.Subscript q.1 q.2 p1, .Subscript q'.1 q'.2 p2] k pt)) ((Bool.not_eq_true' _).mp g6)) noswap2 rfl
theorem for_all (hA : A.frames = some (env :: fs)) {Γ : Cx} {i : Nat} {src : List CE} {k : IK} {body : List CS} {y : Str} {py pos : Pos} {iter : Expr} {b : List Stmt} (hsrc : SiSrc W A (env :: fs) env Γ.vis iter (fun r => bnd (evs P.S F src r) (srcV k))) (hv : Γ.vis[i]? = some (some y)) (hk : env.kindOf y = some .local ∨ env.kindOf y = some .cell)
    (hb : SiS W A fs env Γ.vis (execs b env) (fun r => exs P.S F body r)) (hs : ∀ x, foldedSetIterable iter env x = Pure.pure x) : SiS W A fs env Γ.vis (exec (.For (.Name y py) iter b [] pos) env) (fun r => ex P.S F (.for_ k (.one i) src body) r) := by
  have := x_for hA (pos := pos) (target := .Name y py) hsrc (a_name hv hk) hb hs
  intro s io m r Z
  have eq : ex P.S F (.for_ k (.one i) src body) r = bnd (bnd (evs P.S F src r) (srcV k)) fun p => forD p.2 (fun v r' => bnd (fun m => .ok (r'.set i (some v)) m) fun r'' => exs P.S F body r'') p.1 r := by
    rw [bnd_assoc]; rfl
  dsimp only
  rw [eq]
  exact this s io m r Z
theorem for_many (hA : A.frames = some (env :: fs)) (hh : A.handled = none) {Γ : Cx} {is : List Nat} {src : List CE} {k : IK} {body : List CS} {es : List Expr} {kx : Nat} {py pos : Pos} {iter : Expr} {b : List Stmt} (hsrc : SiSrc W A (env :: fs) env Γ.vis iter (fun r => bnd (evs P.S F src r) (srcV k))) (ht : Tgs env Γ.vis is es)
    (hb : SiS W A fs env Γ.vis (execs b env) (fun r => exs P.S F body r)) (hs : ∀ x, foldedSetIterable iter env x = Pure.pure x) : SiS W A fs env Γ.vis (exec (.For (.Tuple es kx py) iter b [] pos) env) (fun r => ex P.S F (.for_ k (.many is) src body) r) := by
  have := x_for hA (pos := pos) (target := .Tuple es kx py) hsrc (a_many hh ht) hb hs
  intro s io m r Z
  have eq : ex P.S F (.for_ k (.many is) src body) r = bnd (bnd (evs P.S F src r) (srcV k)) fun p => forD p.2 (fun v r' => bnd (setT (.many is) v r') fun r'' => exs P.S F body r'') p.1 r := by
    rw [bnd_assoc]; rfl
  dsimp only
  rw [eq]
  exact this s io m r Z
theorem mSs_nil {Γ : Cx} {es : List Stmt} (h : mSs P Γ [] es = true) : es = [] := nil_of h
theorem mSs_cons {Γ : Cx} {c : CS} {cs : List CS} {es : List Stmt} (h : mSs P Γ (c :: cs) es = true) : ∃ e es', es = e :: es' ∧ mS P Γ c e = true ∧ mSs P Γ cs es' = true := by
  cases es with
  | nil => exact no_true h
  | cons e es => have := and_of (a := mS P Γ c e) (b := mSs P Γ cs es) h; exact ⟨e, es, rfl, this.1, this.2⟩

theorem rse_all (X : Fx W P A (env :: fs) n F) {Γ : Cx} {c : Nat} {msg : Str} {x : Str} {es : List Expr} {np cpos pos : Pos} (hsc : env.scope = Γ.sc) (h1 : P.loud = true) (h2 : isOwn P Γ c x = true) (h3 : excIn P.K (P.ca c) bmV "ValueError.__new__" = true) (h4 : noStar es = true)
    (hl : SiL W A (env :: fs) env Γ.vis (spliced (backTo cpos (starEach es env))) (fun r => evs P.S F [.cnst (.str msg)] r)) : SiS W A fs env Γ.vis (exec (.Raise (some (.Call (.Name x np) es [] cpos)) none pos) env) (fun r => ex P.S F (.rse c msg) r) := by
  obtain ⟨a, b, e⟩ := own_of hsc h2
  obtain ⟨mg, mb, _, _, _, pp, loose, T⟩ := X.gl.top
  have := x_raise (pos := pos) (np := np) (bmB := bmV) (Bn := "ValueError") (B := "ValueError") X.gl (X.hh h1) PySem.F.excBase_ValueError rfl PySem.F.excBase_ValueError rfl T (c := c) (X.ca ▸ e) (X.ca ▸ h3) a b h4 hl (fun r m vs m' q => by cases q; exact (by decide : 1 ≤ lid))
  exact this
theorem try_all (X : Fx W P A (env :: fs) n F) {Γ : Cx} {c : Nat} {ni : Option Nat} {nm : Option Str} {x : Str} {np hp rp pos : Pos} {body : List Stmt} {e : Expr} {cb : Lo → Mn (Fl × Lo)} {ch : Lo → Mn V} (hsc : env.scope = Γ.sc) (h1 : isOwn P Γ c x = true) (h2 : allCls (relT P c) 0 P.S.cls = true) (h3 : okNm Γ ni nm = true)
    (hb : SiQ W A fs env Γ.vis (execs body env) cb) (he : ∀ a, SiE W (A.mark (some (.ref a))) (env :: fs) env Γ.vis (eval e env) ch) :
    SiS W A fs env Γ.vis (exec (.Try body [.ExceptHandler (some (.Name x np)) nm [.Return (some e) rp] hp] [] [] pos) env) (fun r => tryD P.S (cb r) c ni ch r) := by
  obtain ⟨a, b, e1⟩ := own_of hsc h1
  refine x_try X.gl X.R.frames hb he (X.ca ▸ e1) a b (fun d hd => ?_) ?_
  · cases q : P.S.cls[d]? with
    | none => rw [q] at hd; cases hd
    | some k =>
      rw [q] at hd
      have := allCls_get h2 q
      rw [Nat.zero_add] at this
      have this : (!(k.supers.contains c) || exmOne P.K (.ref (P.ca d)) (.ref (P.ca c)) == some true) = true := this
      rw [show k.supers.contains c = true from hd] at this
      rw [X.ca]; exact beq_iff_eq.mp this
  · cases ni with
    | none => cases nm with
      | none => trivial
      | some y => exact no_true h3
    | some i => cases nm with
      | none => exact no_true h3
      | some y =>
        obtain ⟨q1, q2⟩ := and_of h3
        refine ⟨?_, ?_⟩
        · split at q1
          · rename_i z hz; rw [hz, beq_iff_eq.mp q1]
          · cases q1
        · show env.scope.names.lookup y = _
          rw [hsc]
          split at q2
          · assumption
          · cases q2
theorem Fx.quiet (X : Fx W P A fs n F) (a : Addr) : Fx W P.quiet (A.mark (some (.ref a))) fs n F where
  gl := X.gl
  R := ⟨X.R.frames, X.R.depth, X.R.units⟩
  S := X.S
  fa := X.fa
  ca := X.ca
  hh := fun h => by cases h
  calls := fun k hk => X.qcalls (A.mark (some (.ref a))) ⟨X.R.frames, X.R.depth, X.R.units⟩ k hk
  new := fun h => by cases h
  qcalls := fun _ _ _ hk => by cases hk
  objs := fun h => by cases h
mutual
theorem exQ (X : Fx W P A (env :: fs) n F) : ∀ (c : CS) (Γ : Cx) (st : Stmt), env.scope = Γ.sc → qS c = true → mS P Γ c st = true → SiQ W A fs env Γ.vis (exec st env) (fun r => ex P.S F c r)
  | .exp e, Γ, st, hsc, hq, h => by
    obtain ⟨q, hq, h⟩ := any_of (o := vExp st) h
    obtain ⟨_, rfl⟩ := vExp_of hq
    obtain ⟨h1, h2⟩ := and_of h
    exact q_exp (noswap ((Bool.not_eq_true' _).mp h2)) (evE X e Γ env _ hsc h1)
  | .ite c a b, Γ, st, hsc, hq, h => by
    obtain ⟨qa, qb⟩ := and_of hq
    obtain ⟨q, hq, h⟩ := any_of (o := vIfS st) h
    obtain ⟨_, rfl⟩ := vIfS_of hq
    obtain ⟨h, h3⟩ := and_of h
    obtain ⟨h1, h2⟩ := and_of h
    exact q_if (evTt X c Γ env _ hsc h1) (exQs X a Γ _ hsc qa h2) (exQs X b Γ _ hsc qb h3)
  | .ret e, Γ, st, hsc, hq, h => by
    obtain ⟨q, hq, h⟩ := any_of (o := vRet st) h
    obtain ⟨_, rfl⟩ := vRet_of hq
    obtain ⟨v, hv, h⟩ := any_of (o := q) h
    rw [hv]
    exact q_ret (evE X e Γ env _ hsc h)
  | .asg _ _, _, _, _, hq, _ => no_true hq
  | .for_ _ _ _ _, _, _, _, hq, _ => no_true hq
  | .wh _ _, _, _, _, hq, _ => no_true hq
  | .rse _ _, _, _, _, hq, _ => no_true hq
  | .try_ _ _ _ _, _, _, _, hq, _ => no_true hq
  | .cont, _, _, _, hq, _ => no_true hq
  | .pass, _, _, _, hq, _ => no_true hq
theorem exQs (X : Fx W P A (env :: fs) n F) : ∀ (cs : List CS) (Γ : Cx) (ss : List Stmt), env.scope = Γ.sc → qSs cs = true → mSs P Γ cs ss = true → SiQ W A fs env Γ.vis (execs ss env) (fun r => exs P.S F cs r)
  | [], Γ, ss, hsc, _, h => by
    rw [mSs_nil h]
    exact q_nil
  | c :: cs, Γ, ss, hsc, hq, h => by
    obtain ⟨q1, q2⟩ := and_of hq
    obtain ⟨e, es', he, h1, h2⟩ := mSs_cons h
    rw [he]
    exact q_cons (exQ X c Γ _ hsc q1 h1) (exQs X cs Γ _ hsc q2 h2)
end
mutual
theorem exS (X : Fx W P A (env :: fs) n F) : ∀ (c : CS) (Γ : Cx) (st : Stmt), env.scope = Γ.sc → mS P Γ c st = true → SiS W A fs env Γ.vis (exec st env) (fun r => ex P.S F c r)
  | .asg t e, Γ, st, hsc, h => by
    obtain ⟨q, hq, h⟩ := any_of (o := vAsg st) h
    rw [vAsg_of hq]
    obtain ⟨tg, ht, h⟩ := any_of (o := vOne q.1) h
    rw [vOne_of ht]
    exact asg_all X hsc h
  | .exp e, Γ, st, hsc, h => by
    obtain ⟨q, hq, h⟩ := any_of (o := vExp st) h
    obtain ⟨_, rfl⟩ := vExp_of hq
    obtain ⟨h1, h2⟩ := and_of h
    exact x_exp (noswap ((Bool.not_eq_true' _).mp h2)) (evE X e Γ env _ hsc h1)
  | .ite c a b, Γ, st, hsc, h => by
    obtain ⟨q, hq, h⟩ := any_of (o := vIfS st) h
    obtain ⟨_, rfl⟩ := vIfS_of hq
    obtain ⟨h, h3⟩ := and_of h
    obtain ⟨h1, h2⟩ := and_of h
    exact x_if (evTt X c Γ env _ hsc h1) (exSs X a Γ _ hsc h2) (exSs X b Γ _ hsc h3)
  | .for_ k t src body, Γ, st, hsc, h => by
    obtain ⟨q, hq, h⟩ := any_of (o := vFor st) h
    obtain ⟨_, rfl⟩ := vFor_of hq
    obtain ⟨h, h4⟩ := and_of h
    obtain ⟨h, h3⟩ := and_of h
    obtain ⟨h, h2⟩ := and_of h
    obtain ⟨h0, h1⟩ := and_of h
    rw [nil_of h0]
    have hl := (and_of h3).1
    cases t with
    | many is =>
      obtain ⟨es, hq, h1⟩ := any_of (o := vTup q.1) h1
      obtain ⟨kx, pt, he⟩ := vTup_of hq
      rw [he]
      exact for_many X.R.frames (X.hh hl) (src_of X hsc h3 (fun e c hc he => evOne X src Γ env e hsc c hc he) (fun es pos hs he => evL X src Γ env es pos hsc hs he)) (mTs_of hsc h1) (exSs X body Γ _ hsc h4) (set_of h2)
    | one i =>
    obtain ⟨y, hq, ht⟩ := any_of (o := vName q.1) h1
    obtain ⟨hv, hk⟩ := tgt_of hsc ht
    rw [vName_of hq]
    exact for_all X.R.frames (src_of X hsc h3 (fun e c hc he => evOne X src Γ env e hsc c hc he) (fun es pos hs he => evL X src Γ env es pos hsc hs he)) hv hk (exSs X body Γ _ hsc h4) (set_of h2)
  | .wh _ _, _, _, _, h => no_true h
  | .ret e, Γ, st, hsc, h => by
    obtain ⟨q, hq, h⟩ := any_of (o := vRet st) h
    obtain ⟨_, rfl⟩ := vRet_of hq
    obtain ⟨v, hv, h⟩ := any_of (o := q) h
    rw [hv]
    exact x_ret (evE X e Γ env _ hsc h)
  | .rse c msg, Γ, st, hsc, h => by
    obtain ⟨q, hq, h⟩ := any_of (o := vRse st) h
    obtain ⟨pos, rfl⟩ := vRse_of hq
    obtain ⟨h0, h⟩ := and_of h
    obtain ⟨e, he, h⟩ := any_of (o := q.1) h
    obtain ⟨t, ht, h⟩ := any_of (o := vCallN e) h
    obtain ⟨np, cpos, rfl⟩ := vCallN_of ht
    rw [he, Option.isNone_iff_eq_none.mp h0]
    obtain ⟨h, h5⟩ := and_of h
    obtain ⟨h, h4⟩ := and_of h
    obtain ⟨h, h3⟩ := and_of h
    obtain ⟨h1, h2⟩ := and_of h
    exact rse_all X hsc h1 h2 h3 h4 (evL X [.cnst (.str msg)] Γ env _ _ hsc h4 h5)
  | .try_ b c ni hh, Γ, st, hsc, h => by
    obtain ⟨q, hq, h⟩ := any_of (o := vTry st) h
    obtain ⟨pos, rfl⟩ := vTry_of hq
    obtain ⟨h, hb⟩ := and_of h
    obtain ⟨h1, h2⟩ := and_of h
    obtain ⟨hd, h3, h⟩ := any_of (o := vOne q.2.1) hb
    obtain ⟨t, h4, h⟩ := any_of (o := vHand hd) h
    obtain ⟨x, hx, h⟩ := any_of (o := vName t.1) h
    obtain ⟨h, k6⟩ := and_of h
    obtain ⟨h, k5⟩ := and_of h
    obtain ⟨h, k4⟩ := and_of h
    obtain ⟨h, k3⟩ := and_of h
    obtain ⟨k1, k2⟩ := and_of h
    obtain ⟨rp, hp, rfl⟩ := vHand_of h4
    rw [vOne_of h3, nil_of h1, nil_of h2, vName_of hx]
    exact try_all X hsc k1 k2 k3 (exQs X b Γ _ hsc k4 k5) (fun a => evE (X.quiet a) hh Γ env _ hsc k6)
  | .cont, Γ, st, hsc, h => by
    obtain ⟨_, rfl⟩ := vCont_of h
    exact x_cont
  | .pass, Γ, st, hsc, h => by
    obtain ⟨_, rfl⟩ := vPass_of h
    exact x_pass
theorem exSs (X : Fx W P A (env :: fs) n F) : ∀ (cs : List CS) (Γ : Cx) (ss : List Stmt), env.scope = Γ.sc → mSs P Γ cs ss = true → SiS W A fs env Γ.vis (execs ss env) (fun r => exs P.S F cs r)
  | [], Γ, ss, hsc, h => by
    rw [mSs_nil h]
    exact x_nil
  | c :: cs, Γ, ss, hsc, h => by
    obtain ⟨e, es', he, h1, h2⟩ := mSs_cons h
    rw [he]
    exact x_cons (exS X c Γ _ hsc h1) (exSs X cs Γ _ hsc h2)
end

theorem mFs_get : ∀ {ds : List FnD} {j i : Nat} {d : FnD}, mFs P j ds = true → ds[i]? = some d → P.can (j + i) = true → mF P (j + i) d = true
  | [], j, i, d, _, h, _ => by simp at h
  | x :: ds, j, i, d, hm, h, hk => by
    obtain ⟨h1, h2⟩ := and_of hm
    cases i with
    | zero =>
      have e : x = d := by simpa using h
      rw [e] at h1
      have h1 : (!P.can j || mF P j d) = true := h1
      rw [show P.can j = true from hk] at h1
      exact h1
    | succ i =>
      have e : j + (i + 1) = j + 1 + i := by omega
      rw [e] at hk ⊢
      exact mFs_get h2 (by simpa using h) hk
theorem objs_of (hck : mFs P 0 P.S.fns = true) (hn : P.ok = none) (k : Nat) (hk : k < P.S.fns.length) : ∃ o fd, P.K.lookup (P.fa k) = some o ∧ o.data = .func fd ∧ o.cls = .type "function" := by
  have hm := mFs_get (j := 0) hck (List.getElem?_eq_getElem hk) (by unfold Px.can; rw [hn])
  rw [Nat.zero_add] at hm
  unfold mF at hm
  split at hm
  · rename_i o ho
    split at hm
    · rename_i fd hfd
      split at hm
      · exact ⟨o, fd, ho, hfd, beq_iff_eq.mp (and_of (and_of hm).1).1⟩
      · cases hm
    · cases hm
  · cases hm
theorem AR.born {A : Around} {fs : List Env} {n : Nat} (R : AR A fs (n + 1)) (env : Env) : AR (Mini.born (A.deeper env)) (env :: fs) n := by
  have Rd := R.deeper env
  refine ⟨Rd.frames, ?_, ?_⟩
  · have := R.depth; show A.depth + 1 + 1 + 4 * n ≤ 900; omega
  · have := R.units; show A.units + 3 + 1 + 40 * n + 400 ≤ 9000; omega
theorem fns_sim (gl : Gl W P.K) (hS : W.S = P.S) (hfa : W.fa = P.fa) (hca : W.ca = P.ca) (hck : mFs P 0 P.S.fns = true) (hqk : ∀ (n : Nat) (A : Around) (fs : List Env), AR A fs n → ∀ k, P.qok.contains k = true → SiF W A fs (.ref (W.fa k)) (run P.S n k)) :
    ∀ (n : Nat) (A : Around) (fs : List Env), AR A fs n → (P.loud = true → A.handled = none) → ∀ k, P.can k = true → SiK W A fs (.ref (W.fa k)) (run P.S n k)
  | 0, A, fs, R, hh, k, hok => fun s io m vs us H G hu hne => absurd rfl hne
  | n + 1, A, fs, R, hh, k, hok => by
    show SiK W A fs (.ref (W.fa k)) (callF P.S (run P.S n) k)
    cases hd : P.S.fns[k]? with
    | none =>
      intro s io m vs us H G hu hne
      exact absurd (by unfold callF; rw [hd]; rfl) hne
    | some d =>
      have hm := mFs_get (j := 0) hck hd (by rw [Nat.zero_add]; exact hok)
      rw [Nat.zero_add] at hm
      unfold mF at hm
      split at hm
      · rename_i o ho
        split at hm
        · rename_i fd hfd
          split at hm
          · rename_i body hb
            simp only [Bool.and_eq_true] at hm
            have := call_sim (W := W) (fs := fs) (A := A) (n := n) (Fb := fun r => exs P.S (run P.S n) d.body r) gl R ho hfd hm.1.2 hb
              (fun env hsc => exSs (X := ⟨gl, R.deeper env, hS, hfa, hca, hh, fun k hk => (fns_sim gl hS hfa hca hck hqk n (A.deeper env) (env :: fs) (R.deeper env) hh k hk).f, fun hn k hk => fns_sim gl hS hfa hca hck hqk n (born (A.deeper env)) (env :: fs) (R.born env) hh k (by unfold Px.can; rw [hn]), fun A' R' => hqk n A' (env :: fs) R', objs_of hck⟩) d.body ⟨fd.scope, d.names.map some⟩ body hsc hm.2)
            rw [← hfa] at this
            have eq : callF P.S (run P.S n) k = fun vs => if vs.length = d.np then bnd (exs P.S (run P.S n) d.body (vs.map some ++ List.replicate (d.names.length - d.np) none)) finF else bad := by
              funext vs; unfold callF; rw [hd]
            rw [eq]
            exact this
          · cases hm
        · cases hm
      · cases hm
/-- the whole program: first what may be called while an exception is handled, then all -/
theorem all_sim (gl : Gl W P.K) (hS : W.S = P.S) (hfa : W.fa = P.fa) (hca : W.ca = P.ca) (hck : mFs P 0 P.S.fns = true) (hcq : mFs P.quiet 0 P.S.fns = true) :
    ∀ (n : Nat) (A : Around) (fs : List Env), AR A fs n → (P.loud = true → A.handled = none) → ∀ k, P.can k = true → SiF W A fs (.ref (W.fa k)) (run P.S n k) :=
  fun n A fs R hh k hk => (fns_sim gl hS hfa hca hck (fun n A fs R k hk => (fns_sim (P := P.quiet) gl hS hfa hca hcq (fun _ _ _ _ _ h => by cases h) n A fs R (fun h => by cases h) k hk).f) n A fs R hh k hk).f
end
end Mini

/-! What a run of the small language ends in. -/
namespace Mini
open PySem

/-- the ends of a run: a value, an exception -/
noncomputable def Wp {α : Type} (x : Mn α) (m : MH) (Q : α → MH → Prop) (E : Nat → MH → Prop) : Prop := match x m with
  | .ok a m' => Q a m'
  | .exc c m' => E c m'
  | .bad => False
/-- no exception -/
noncomputable abbrev nox : Nat → MH → Prop := fun _ _ => False

section
variable {α β : Type} {S : Sig} {F : Fns} {r : Lo} {m m' : MH} {Q : α → MH → Prop} {E : Nat → MH → Prop}
theorem wp_eq {x : Mn α} {a : α} (h : x m = .ok a m') (q : Q a m') : Wp x m Q E := by unfold Wp; rw [h]; exact q
theorem wp_exc {x : Mn α} {c : Nat} (h : x m = .exc c m') (q : E c m') : Wp x m Q E := by unfold Wp; rw [h]; exact q
theorem wp_bnd {x : Mn β} {f : β → Mn α} (h : Wp x m (fun a m' => Wp (f a) m' Q E) E) : Wp (bnd x f) m Q E := by
  unfold Wp bnd at *
  cases q : x m with
  | ok a m1 => rw [q] at h; exact h
  | exc c m1 => rw [q] at h; exact h
  | bad => rw [q] at h; exact h
theorem wp_mono {x : Mn α} {Q' : α → MH → Prop} {E' : Nat → MH → Prop} (h : Wp x m Q' E') (k : ∀ a m', Q' a m' → Q a m') (l : ∀ c m', E' c m' → E c m') : Wp x m Q E := by
  unfold Wp at *
  cases q : x m with
  | ok a m1 => rw [q] at h; exact k _ _ h
  | exc c m1 => rw [q] at h; exact l _ _ h
  | bad => rw [q] at h; exact h
theorem wp_use {x : Mn α} {Q' : α → MH → Prop} (h : Wp x m Q' nox) (k : ∀ a m', Q' a m' → Q a m') : Wp x m Q E := wp_mono h k fun _ _ q => q.elim
theorem wp_val {x : Mn α} (h : Wp x m Q nox) : ∃ a m', x m = .ok a m' ∧ Q a m' := by
  unfold Wp at h
  cases q : x m with
  | ok a m1 => rw [q] at h; exact ⟨a, m1, rfl, h⟩
  | exc c m1 => rw [q] at h; exact h.elim
  | bad => rw [q] at h; exact h.elim
end

/-- what was there is there -/
noncomputable def Le (m m' : MH) : Prop := m.length ≤ m'.length ∧ ∀ p, p < m.length → m'[p]? = m[p]?
theorem Le.refl (m : MH) : Le m m := ⟨Nat.le_refl _, fun _ _ => rfl⟩
theorem Le.trans {a b c : MH} (h : Le a b) (k : Le b c) : Le a c := ⟨Nat.le_trans h.1 k.1, fun p q => (k.2 p (Nat.lt_of_lt_of_le q h.1)).trans (h.2 p q)⟩
theorem Le.app (m e : MH) : Le m (m ++ e) := ⟨by simp, fun p q => List.getElem?_append_left q⟩
theorem has_lt {m : MH} {p : Nat} {o : MObj} (k : m[p]? = some o) : p < m.length := by
  rcases Nat.lt_or_ge p m.length with q | q
  · exact q
  · rw [List.getElem?_eq_none q] at k; cases k
theorem Le.has {m m' : MH} (h : Le m m') {p : Nat} {o : MObj} (k : m[p]? = some o) : m'[p]? = some o := by
  rw [h.2 p (has_lt k), k]
theorem Le.set {m m' : MH} (h : Le m m') {p : Nat} (hp : m.length ≤ p) (o : MObj) : Le m (m'.set p o) :=
  ⟨by rw [List.length_set]; exact h.1, fun q hq => by rw [List.getElem?_set_ne (by omega)]; exact h.2 q hq⟩
theorem set_has {m : MH} {p : Nat} {o o' : MObj} (k : m[p]? = some o) : (m.set p o')[p]? = some o' := by
  rw [List.getElem?_set_self (has_lt k)]
theorem new_has {m : MH} {o : MObj} : (m ++ [o])[m.length]? = some o := by simp

section
variable {S : Sig} {F : Fns} {r : Lo} {m : MH} {E : Nat → MH → Prop}
section
variable {Q : V → MH → Prop}
theorem wp_alloc {o : MObj} (h : ∀ p m', Le m m' → m'[p]? = some o → m.length ≤ p → Q (.ref p) m') : Wp (alloc o) m Q E := h m.length (m ++ [o]) (.app _ _) new_has (Nat.le_refl _)
/-- the value of an expression that is at hand -/
theorem wp_rfl {α : Type} {x : Mn α} {a : α} {m' : MH} {Q : α → MH → Prop} (h : x m = .ok a m') (q : Q a m') : Wp x m Q E := wp_eq h q
theorem pe_bin {op : Operator} {a b : CE} (h : Wp (ev S F a r) m (fun x m' => Wp (ev S F b r) m' (fun y m' => Wp (binV op x y) m' Q E) E) E) : Wp (ev S F (.bin op a b) r) m Q E :=
  wp_bnd (x := ev S F a r) (wp_mono h (fun _ _ q => wp_bnd (x := ev S F b r) q) fun _ _ q => q)
theorem pe_call {k : Nat} {as : List CE} (h : Wp (evs S F as r) m (fun vs m' => Wp (F k vs) m' Q E) E) : Wp (ev S F (.call k as) r) m Q E := wp_bnd (x := evs S F as r) h
theorem pe_bi {b : Bi} {as : List CE} (h : Wp (evs S F as r) m (fun vs m' => Wp (biV b vs) m' Q E) E) : Wp (ev S F (.bi b as) r) m Q E := wp_bnd (x := evs S F as r) h
theorem pe_idx {a i : CE} (h : Wp (ev S F a r) m (fun x m' => Wp (ev S F i r) m' (fun y m' => Wp (idxV x y) m' Q E) E) E) : Wp (ev S F (.idx a i) r) m Q E :=
  wp_bnd (x := ev S F a r) (wp_mono h (fun _ _ q => wp_bnd (x := ev S F i r) q) fun _ _ q => q)
theorem pe_tup {as : List CE} (h : Wp (evs S F as r) m (fun vs m' => Q (.tup vs) m') E) : Wp (ev S F (.tup as) r) m Q E := wp_bnd (x := evs S F as r) h
theorem pe_list {as : List CE} (h : Wp (evs S F as r) m (fun vs m' => Wp (alloc (.list vs)) m' Q E) E) : Wp (ev S F (.list as) r) m Q E := wp_bnd (x := evs S F as r) h
theorem pe_cmp {a b : CE} {op : CmpOp} (h : Wp (ev S F a r) m (fun x m' => Wp (ev S F b r) m' (fun y m' => Wp (cmpV op x y) m' (fun c m' => Q (.bool c) m') E) E) E) : Wp (ev S F (.cmp a [op] [b]) r) m Q E :=
  wp_bnd (x := ev S F a r) (wp_mono h (fun x _ q => wp_bnd (x := ev S F b r) (wp_mono q (fun y _ q => wp_bnd (x := cmpV op x y) q) fun _ _ q => q)) fun _ _ q => q)
theorem pe_smeth {o : CE} {n : Sm} {as : List CE} (h : Wp (ev S F o r) m (fun x m' => ∃ k, smK x m' = some k ∧ smH k n = true ∧ Wp (evs S F as r) m' (fun vs m' => Wp (smethV k x n vs) m' Q E) E) E) : Wp (ev S F (.smeth o n as) r) m Q E := by
  refine wp_bnd (x := ev S F o r) (wp_mono h (fun x m' q => ?_) fun _ _ q => q)
  obtain ⟨k, hk, hs, q⟩ := q
  have q2 := wp_bnd (x := evs S F as r) q
  unfold Wp at q2 ⊢
  dsimp only
  rw [hk]
  dsimp only
  rw [if_pos hs]
  exact q2
theorem pes_nil {Q : List V → MH → Prop} (h : Q [] m) : Wp (evs S F [] r) m Q E := h
theorem pes_cons {a : CE} {as : List CE} {Q : List V → MH → Prop} (h : Wp (ev S F a r) m (fun v m' => Wp (evs S F as r) m' (fun vs m' => Q (v :: vs) m') E) E) : Wp (evs S F (a :: as) r) m Q E :=
  wp_bnd (x := ev S F a r) (wp_mono h (fun v _ q => wp_bnd (x := evs S F as r) q) fun _ _ q => q)
theorem and_go {a b : CE} {as : List CE} {c : Bool} (h : Wp (ev S F a r) m (fun x m' => Wp (truth x) m' (fun t m' => bif t == c then Wp (ev S F (.boolop c (b :: as)) r) m' Q E else Q x m') E) E) : Wp (ev S F (.boolop c (a :: b :: as)) r) m Q E := by
  refine wp_bnd (x := ev S F a r) (wp_mono h (fun x m' q => wp_bnd (x := truth x) (wp_mono q (fun t m' q => ?_) fun _ _ q => q)) fun _ _ q => q)
  cases e : t == c with
  | true => rw [e] at q; exact q
  | false => rw [e] at q; exact q
end
section
variable {Q : Bool → MH → Prop}
theorem pt_val {e : CE} (h : Wp (ev S F e r) m (fun v m' => Wp (truth v) m' Q E) E) : Wp (evT S F (.val e) r) m Q E := wp_bnd (x := ev S F e r) h
theorem pt_not {e : CB} (h : Wp (evT S F e r) m (fun b m' => Q (!b) m') E) : Wp (evT S F (.not e) r) m Q E := wp_bnd (x := evT S F e r) h
theorem pt_all {c : Bool} {bs : List CB} (h : Wp (evTs S F c bs r) m Q E) : Wp (evT S F (.all c bs) r) m Q E := h
theorem pts_cons {c : Bool} {a : CB} {as : List CB} (h : Wp (evT S F a r) m (fun b m' => bif b == c then Wp (evTs S F c as r) m' Q E else Q b m') E) : Wp (evTs S F c (a :: as) r) m Q E := by
  refine wp_bnd (x := evT S F a r) (wp_mono h (fun t m' q => ?_) fun _ _ q => q)
  cases e : t == c with
  | true => rw [e] at q; exact q
  | false => rw [e] at q; exact q
end
section
variable {Q : Fl × Lo → MH → Prop} {ss : List CS}
theorem s_cons {s : CS} (h : Wp (ex S F s r) m (fun p m' => match p.1 with | .next => Wp (exs S F ss p.2) m' Q E | f => Q (f, p.2) m') E) : Wp (exs S F (s :: ss) r) m Q E := by
  refine wp_bnd (x := ex S F s r) (wp_mono h (fun p m' q => ?_) fun _ _ q => q)
  obtain ⟨f, r'⟩ := p
  cases f <;> exact q
theorem s_asg {i : Nat} {e : CE} (h : Wp (ev S F e r) m (fun v m' => Wp (exs S F ss (r.set i (some v))) m' Q E) E) : Wp (exs S F (.asg (.one (.one i)) e :: ss) r) m Q E :=
  s_cons (wp_bnd (x := ev S F e r) h)
theorem s_exp {e : CE} (h : Wp (ev S F e r) m (fun v m' => Wp (exs S F ss r) m' Q E) E) : Wp (exs S F (.exp e :: ss) r) m Q E := s_cons (wp_bnd (x := ev S F e r) h)
theorem s_ret {e : CE} (h : Wp (ev S F e r) m (fun v m' => Q (.ret v, r) m') E) : Wp (exs S F (.ret e :: ss) r) m Q E := s_cons (wp_bnd (x := ev S F e r) h)
theorem s_nil (h : Q (.next, r) m) : Wp (exs S F [] r) m Q E := h
theorem s_rse {c : Nat} {t : Str} (h : E c m) : Wp (exs S F (.rse c t :: ss) r) m Q E := s_cons (wp_exc rfl h)
theorem exs_app : ∀ (a b : List CS) (r : Lo) (m : MH), Wp (exs S F (a ++ b) r) m Q E → Wp (exs S F a r) m (fun p m' => match p.1 with | .next => Wp (exs S F b p.2) m' Q E | f => Q (f, p.2) m') E
  | [], b, r, m, h => h
  | s :: a, b, r, m, h => by
    unfold Wp at h
    refine s_cons ?_
    have e : exs S F (s :: a ++ b) r m = (ex S F s r m).bind (fun p => match p.1 with | .next => exs S F (a ++ b) p.2 | f => ret (f, p.2)) := rfl
    rw [e] at h
    unfold Wp
    cases q : ex S F s r m with
    | ok p m1 =>
      rw [q] at h
      obtain ⟨f, r1⟩ := p
      cases f with
      | next => exact exs_app a b r1 m1 h
      | cont => exact h
      | ret v => exact h
    | exc c m1 => rw [q] at h; exact h
    | bad => rw [q] at h; exact h
theorem s_ite {c : CB} {a b : List CS} (h : Wp (evT S F c r) m (fun t m' => Wp (exs S F ((bif t then a else b) ++ ss) r) m' Q E) E) : Wp (exs S F (.ite c a b :: ss) r) m Q E := by
  refine s_cons (wp_bnd (x := evT S F c r) (wp_mono h (fun t m' q => ?_) fun _ _ q => q))
  cases t
  · exact exs_app _ _ _ _ q
  · exact exs_app _ _ _ _ q
theorem s_try {body : List CS} {c : Nat} {nm : Option Nat} {hd : CE} (h : Wp (exs S F body r) m (fun p m' => match p.1 with | .next => Wp (exs S F ss p.2) m' Q E | f => Q (f, p.2) m')
    (fun d m' => ((S.cls[d]?).any fun k => k.supers.contains c) = true ∧ Wp (ev S F hd (exR nm d r)) m' (fun v m' => Q (.ret v, exN nm r) m') nox)) : Wp (exs S F (.try_ body c nm hd :: ss) r) m Q E := by
  refine s_cons ?_
  have key : ex S F (.try_ body c nm hd) r m = tryD S (exs S F body r) c nm (fun r' => ev S F hd r') r m := rfl
  unfold Wp at h ⊢
  rw [key]
  unfold tryD
  cases q : exs S F body r m with
  | ok p m1 => rw [q] at h; exact h
  | bad => rw [q] at h; exact h
  | exc d m1 =>
    rw [q] at h
    obtain ⟨h1, h2⟩ := h
    obtain ⟨v, m2, e2, q2⟩ := wp_val h2
    have e3 : tryX S c nm (fun r' => ev S F hd r') r d m1 = .ok (.ret v, exN nm r) m2 := by unfold tryX; rw [if_pos h1]; dsimp only; rw [e2]; rfl
    dsimp only
    rw [e3]
    exact q2
end
end
theorem bif_t {P Q : Prop} (h : P) : bif true then P else Q := h
theorem bif_f {P Q : Prop} (h : Q) : bif false then P else Q := h
/-! conditions whose parts all come out, and turn nothing -/
section
variable {S : Sig} {F : Fns} {r : Lo} {m : MH}
theorem q_cmp2 {a b c : CE} {o o' : CmpOp} {x y z : V} {t u : Bool} (ha : ev S F a r m = .ok x m) (hb : ev S F b r m = .ok y m) (hc : ev S F c r m = .ok z m) (h1 : cmpV o x y m = .ok t m) (h2 : cmpV o' y z m = .ok u m) : ev S F (.cmp a [o, o'] [b, c]) r m = .ok (.bool (t && u)) m := by
  show Res.bind (ev S F a r m) _ = _
  rw [ha]
  show Res.bind (ev S F b r m) _ = _
  rw [hb]
  show Res.bind (cmpV o x y m) _ = _
  rw [h1]
  cases t with
  | false => rfl
  | true =>
    show Res.bind (ev S F c r m) _ = _
    rw [hc]
    show Res.bind (cmpV o' y z m) _ = _
    rw [h2]; rfl
theorem q_and {a b : CE} {as : List CE} {x y : Bool} (ha : ev S F a r m = .ok (.bool x) m) (hb : ev S F (.boolop true (b :: as)) r m = .ok (.bool y) m) : ev S F (.boolop true (a :: b :: as)) r m = .ok (.bool (x && y)) m := by
  show Res.bind (ev S F a r m) _ = _
  rw [ha]
  cases x with
  | false => rfl
  | true => exact hb
theorem q_or {a b : CE} {as : List CE} {x y : Bool} (ha : ev S F a r m = .ok (.bool x) m) (hb : ev S F (.boolop false (b :: as)) r m = .ok (.bool y) m) : ev S F (.boolop false (a :: b :: as)) r m = .ok (.bool (x || y)) m := by
  show Res.bind (ev S F a r m) _ = _
  rw [ha]
  cases x with
  | true => rfl
  | false => exact hb
theorem q_val {e : CE} {b : Bool} (h : ev S F e r m = .ok (.bool b) m) : evT S F (.val e) r m = .ok b m := by
  show Res.bind (ev S F e r m) _ = _
  rw [h]; rfl
theorem q_not {e : CB} {b : Bool} (h : evT S F e r m = .ok b m) : evT S F (.not e) r m = .ok (!b) m := by
  show Res.bind (evT S F e r m) _ = _
  rw [h]; rfl
theorem q_ors {a : CB} {as : List CB} {x y : Bool} (ha : evT S F a r m = .ok x m) (hb : evTs S F false as r m = .ok y m) : evTs S F false (a :: as) r m = .ok (x || y) m := by
  show Res.bind (evT S F a r m) _ = _
  rw [ha]
  cases x with
  | true => rfl
  | false => exact hb
theorem q_ands {a : CB} {as : List CB} {x y : Bool} (ha : evT S F a r m = .ok x m) (hb : evTs S F true as r m = .ok y m) : evTs S F true (a :: as) r m = .ok (x && y) m := by
  show Res.bind (evT S F a r m) _ = _
  rw [ha]
  cases x with
  | false => rfl
  | true => exact hb
end
/-- the call of a function -/
noncomputable def FnIs (S : Sig) (k np nl : Nat) (b : List CS) : Prop := ∃ d, S.fns[k]? = some d ∧ d.np = np ∧ d.names.length = nl ∧ d.body = b
theorem run_fn {S : Sig} {n k np nl : Nat} {b : List CS} {vs : List V} (h : FnIs S k np nl b) (hv : vs.length = np) : run S (n + 1) k vs = bnd (exs S (run S n) b (vs.map some ++ List.replicate (nl - np) Option.none)) finF := by
  obtain ⟨d, h1, h2, h3, h4⟩ := h
  show callF S (run S n) k vs = _
  unfold callF; rw [h1]; dsimp only; rw [if_pos (hv.trans h2.symm), h2, h3, h4]
theorem wp_fn {S : Sig} {n k np nl : Nat} {b : List CS} {vs : List V} {m : MH} {Q : V → MH → Prop} {E : Nat → MH → Prop} (h : FnIs S k np nl b) (hv : vs.length = np)
    (hb : Wp (exs S (run S n) b (vs.map some ++ List.replicate (nl - np) Option.none)) m (fun p m' => match p.1 with | .ret v => Q v m' | .next => Q .none m' | .cont => False) E) : Wp (run S (n + 1) k vs) m Q E := by
  rw [run_fn h hv]
  refine wp_bnd (wp_mono hb (fun p m' q => ?_) fun _ _ q => q)
  obtain ⟨f, r⟩ := p
  cases f <;> exact q
theorem wp_run {S : Sig} {n k : Nat} {d : FnD} {vs : List V} {m : MH} {Q : V → MH → Prop} {E : Nat → MH → Prop} (h : S.fns[k]? = some d) (hv : vs.length = d.np)
    (hb : Wp (exs S (run S n) d.body (vs.map some ++ List.replicate (d.names.length - d.np) Option.none)) m (fun p m' => match p.1 with | .ret v => Q v m' | .next => Q .none m' | .cont => False) E) : Wp (run S (n + 1) k vs) m Q E :=
  wp_fn ⟨d, h, rfl, rfl, rfl⟩ hv hb
end Mini

/-! The head: the top's run at once, on a tree. -/
namespace Mini
open PySem PySem.W PyProof.Rows

noncomputable def goT (ok : Thread → Bool) (st : SharedT → Thread → Option (SharedT × Thread)) : Nat → SharedT → Thread → Option SharedT
  | 0, _, _ => none
  | n + 1, s, t => match through t with
    | true => some s
    | false => match ok t with
      | false => none
      | true => match st s t with
        | some (s', t') => goT ok st n s' t'
        | none => none
theorem goT_of {tb : String → Option Builtin} {p : Program} {w : World} {n₀ : Nat} {ann : Option Value} : ∀ {n : Nat} {s s' : SharedT} {t : Thread}, goT (stepOk n₀ ann) (stepT (denote tb) p w) n s t = some s' → topRun tb p w n₀ ann n s.abs t = some s'.abs
  | 0, _, _, _, h => by cases h
  | n + 1, s, s', t, h => by
    unfold goT at h
    unfold topRun
    cases he : through t with
    | true => rw [he] at h; cases h; rfl
    | false =>
      rw [he] at h
      cases hk : stepOk n₀ ann t with
      | false => rw [hk] at h; cases h
      | true =>
        rw [hk] at h
        cases hs : stepT (denote tb) p w s t with
        | none => rw [hs] at h; cases h
        | some r => obtain ⟨s₂, t₂⟩ := r; rw [hs] at h; rw [stepT_spec hs]; exact goT_of h

noncomputable def listT (P : Params) : Nat → List (Params → Obj) → BT → BT
  | _, [], t => t
  | n, o :: r, t => listT P (n + 1) r (t.ins n (o P))
noncomputable def boots : List (Params → Obj) := [boot_o_0, boot_o_1, boot_o_2, boot_o_3, boot_o_4, boot_o_5, boot_o_6, boot_o_7, boot_o_8, boot_o_9, boot_o_10]
noncomputable def bootT (P : Params) (os : OsState) : SharedT := ⟨listT P 0 boots .nil, 11, (boot_heap P).life, Array.mk [], boot_drawn, boot_toks, os⟩
theorem bootT_abs : ∀ (P : Params) (os : OsState), (bootT P os).abs = ⟨boot_heap P, Array.mk [], boot_drawn, boot_toks, os⟩ := by intro P os; kernel_rfl
theorem boot_size : ∀ w : World, ((boot_heap w.params).isNs mainGlobals && (Array.mk ([] : List GenState)).size == 0, (boot_heap w.params).objs.size, (boot_heap w.params).nsMap mainGlobals "__annotations__") = (true, 11, some (.ref 6)) := by intro w; kernel_rfl

/-- the run, in the kit's quick words -/
noncomputable def runT (p : Program) (N : Nat) (w : World) (os : OsState) : Option SharedT :=
  goT (Fast.tw6613529449190102663 11 (some (.ref 6))) (Fast.tw10156331382660048174 (Fast.tw11892475500146522536 Fast.tw14364793385576792824) p w) N (bootT w.params os) (topStub p)
theorem runT_of {p : Program} {N : Nat} {w : World} {os : OsState} {s : SharedT} (h : runT p N w os = some s) : topRun treeTable p w 11 (some (.ref 6)) N ⟨boot_heap w.params, Array.mk [], boot_drawn, boot_toks, os⟩ (topStub p) = some s.abs := by
  rw [← bootT_abs]
  refine goT_of ?_
  rw [Fast.te6613529449190102663, Fast.te10156331382660048174, Fast.te11892475500146522536, Fast.te14364793385576792824]
  exact h

noncomputable def xtOf (q : Program) (R : WRecords) (s : Shared) : Bool := xlAt q [] s && recOk R s
/-- what is looked at behind the run -/
noncomputable def looksT (p q : Program) (R : WRecords) (chk : Heap → Bool) (w : World) (s : Shared) :=
  (staticsOk (importedModules p.main.body) (boot_heap w.params) s.heap && namesBound p s.heap && gensDone s && laidKept (boot_heap w.params) s.heap,
   Fast.tw4187177175401517315 q [] (importedModules p.main.body) (xtOf q R) true s, chk s.heap)

theorem left_of {p q : Program} {R : WRecords} {chk : Heap → Bool} {N : Nat} (e : opening p = plainProg p.main.scope.names) (hN : Nat.ble 600 N = true) (f : ∀ s, fenceModules? p s = some s)
    (h : ∀ w os, (runT p N w os).map (fun s => looksT p q R chk w s.abs) = some (true, openGood q [], true)) : LeftO p q [] (xtOf q R) (fun s => chk s.heap) (fun _ => true) N := fun w => by
  obtain ⟨⟨hp, gs, d, k, os⟩, eo, e'⟩ := Option.map_eq_some_iff.mp (boot_open e hN f w)
  obtain ⟨rfl, rfl, rfl, rfl⟩ : hp = boot_heap w.params ∧ gs = Array.mk [] ∧ d = boot_drawn ∧ k = boot_toks := by simpa using e'
  obtain ⟨z1, z2, z3⟩ : _ ∧ _ ∧ _ := by simpa only [Prod.mk.injEq] using boot_size w
  obtain ⟨s, hr, hl⟩ := Option.map_eq_some_iff.mp (h w os)
  have r := runT_of hr
  unfold looksT at hl
  obtain ⟨l1, l2, l3⟩ : _ ∧ _ ∧ _ := by simpa only [Prod.mk.injEq] using hl
  have t : topFrom treeTable p w N ⟨boot_heap w.params, Array.mk [], boot_drawn, boot_toks, os⟩ = some s.abs := by
    unfold topFrom
    dsimp only
    rw [z1, z2, z3, r]
    show (match staticsOk (importedModules p.main.body) (boot_heap w.params) s.abs.heap && namesBound p s.abs.heap && gensDone s.abs && laidKept (boot_heap w.params) s.abs.heap with | true => _ | false => _) = _
    rw [l1]
  rw [← Fast.te4187177175401517315] at l2
  unfold openEnds
  rw [eo]
  show (topFrom treeTable p w N _).map _ = _
  rw [t]
  exact congrArg some (Prod.ext l2 l3)

/-- the objects at these addresses -/
noncomputable def fragAt (as : List Addr) (h : Heap) : Frag := as.filterMap fun a => (h.get? a).map fun o => (a, o)
theorem fragAt_in (h : Heap) : ∀ as : List Addr, (fragAt as h).In h
  | [], a, o, e => by cases e
  | b :: as, a, o, e => by
    unfold fragAt at e
    cases q : h.get? b with
    | none =>
      rw [List.filterMap_cons_none (by rw [q]; rfl)] at e
      exact fragAt_in h as a o e
    | some o' =>
      rw [List.filterMap_cons_some (b := (b, o')) (by rw [q]; rfl), List.lookup_cons] at e
      split at e
      · rename_i hb
        cases e
        rw [beq_iff_eq.mp hb]; exact q
      · exact fragAt_in h as a o e
/-- a fragment of the heap that stands the look -/
noncomputable def Has (chk : Frag → Bool) (_ : World) (h : Heap) : Prop := ∃ K : Frag, K.In h ∧ chk K = true

theorem own_head {l : OpenLaw} {keep : List Nat} {as : List Addr} {chk : Frag → Bool} {N : Nat} {d : DefRec} {kwd : List (Str × Expr)} (k0 : l.wellSaid = true) (e : opening l.prog = plainProg l.prog.main.scope.names) (hN : Nat.ble 600 N = true) (f : ∀ s, fenceModules? l.prog s = some s)
    (h : ∀ w os, (runT l.prog N w os).map (fun s => looksT l.prog (view l.prog keep) l.row.records (fun h => chk (fragAt as h)) w s.abs) = some (true, openGood (view l.prog keep) [], true))
    (hdef : defOf (view l.prog keep) l.row.name = some (d, kwd)) (hp : l.row.prog.theDef l.row.name = some (d.params, d.body, d.scope)) (hk : kwWritten? d.params.kwonlyargs d.params.kw_defaults = some kwd)
    (hwr : (!l.row.writes || l.row.records.isEmpty) = true) (ok : (chainsOk (view l.prog keep) && opensWell l.row.prog && (frees l.row.toRowW && l.row.within.isEmpty)) = true) (hb : l.row.prog.bare) (hw : l.row.toRowW.promised)
    (call : WalkO (view l.prog keep) [] (XL (view l.prog keep) []) (Has chk) l.row.toRowW d kwd fun f vs => PySem.call f vs) : l.Holds :=
  holds_law k0 fun said => holds_open (q := view l.prog keep) (loose := []) (Xt := xtOf (view l.prog keep) l.row.records) (XP := XL (view l.prog keep) []) (left_of e hN f h)
    (fun w s e => ⟨fragAt as s.heap, fragAt_in _ as, e⟩) (fun w h h' ⟨K, k1, k2⟩ k => ⟨K, k1.keeps k, k2⟩) (fun s e => xl_of s (Bool.and_eq_true_iff.mp e).1) XL.keeps hdef hp hk (fun s e => recFacts_of (Bool.and_eq_true_iff.mp e).2) hwr said ok hb hw call
end Mini

/-! From the law's call to Mini's run. -/
namespace Mini
open PySem PySem.W PyProof.Rows

noncomputable def gaOf (K : Frag) (x : Str) : Addr := match nsIn K mainGlobals x with | some (some (.ref a)) => a | _ => 0
/-- the class that a method belongs to -/
noncomputable def ownerOf (S : Sig) (k : Nat) : Option ClsD := S.cls.find? fun d => d.init == some k || d.meths.any fun q => q.2 == k
noncomputable def naOf (K : Frag) (C : Addr) (x : Str) : Addr := match plainC K C with
  | some N => (match nsIn K N x with | some (some (.ref a)) => a | _ => 0)
  | none => 0
noncomputable def faOf (K : Frag) (S : Sig) (k : Nat) : Addr := match S.fns[k]? with
  | some d => (match ownerOf S k with | some D => naOf K (gaOf K D.name) d.name | none => gaOf K d.name)
  | none => 0
noncomputable def caOf (K : Frag) (S : Sig) (k : Nat) : Addr := match S.cls[k]? with
  | some d => gaOf K d.name
  | none => 0
noncomputable def pxOf (S : Sig) (qok : List Nat) (K : Frag) : Px := ⟨K, S, faOf K S, caOf K S, true, none, qok⟩
/-- the look at the program -/
noncomputable def chkOf (S : Sig) (qok : List Nat) (k : Nat) (K : Frag) : Bool := mFs (pxOf S qok K) 0 S.fns && mFs (pxOf S qok K).quiet 0 S.fns && (ownerOf S k).isNone && (match S.fns[k]? with | some d => (match nsIn K mainGlobals d.name with | some (some (.ref _)) => true | _ => false) | none => false)

theorem intsR_of : ∀ {vs : List Value} {ns : List Int}, IntsAre vs ns → IntsR ns vs
  | _, _, .nil => .nil
  | _, _, .cons n t h => .cons n t (intsR_of h)

theorem glue {prog : Program} {w : World} {K : Frag} {S : Sig} {qok : List Nat} {s₁ : Shared} {mg mb : Str → Option Value} {loose : List Str} {view : Program} {mean : ExcName → Option Value} {claim : ClaimW} {cl : Str → Option Addr} {args : List WData} {fa l : Addr} {vals : List Value} {ns : List Int} {k n : Nat} {d : FnD}
    (T : Top view loose mean mg mb s₁.heap) (hsee : importsNone view = true) (KX : K.In s₁.heap) (hg : s₁.gens = #[]) (hck : chkOf S qok k K = true) (hd : S.fns[k]? = some d) (hm : mg d.name = some (.ref fa))
    (hL : s₁.heap.IsList l vals.toArray) (hI : IntsAre vals ns) (hlen : ns.length ≤ 63) (hn : n ≤ 100) (hrun : Wp (run S n k [.scr ns]) [] (fun v _ => v = .bool true) nox)
    (hr : ∀ cls, claim.raises args cls = false) (hp : claim.post args (.bool true) args = true) :
    wpAny (model prog w) callerA (call (.ref fa) [.ref l]) (fun v s' => GoodWG claim cl mean args s₁ (.ok (.ret v)) s') (fun e s' => GoodWG claim cl mean args s₁ (.error e) s') s₁ := by
  obtain ⟨hck, hc3⟩ := Bool.and_eq_true_iff.mp hck
  obtain ⟨hck, hc4⟩ := Bool.and_eq_true_iff.mp hck
  obtain ⟨hc1, hc2⟩ := Bool.and_eq_true_iff.mp hck
  have hf : fa = faOf K S k := by
    unfold faOf
    rw [Option.isNone_iff_eq_none.mp hc4]
    unfold gaOf
    rw [hd] at hc3 ⊢
    dsimp only at hc3 ⊢
    split at hc3
    · rename_i a e
      have := mg_of KX T.g e
      rw [hm] at this
      cases this
      rfl
    · cases hc3
  let W : Wd := ⟨prog, w, S, faOf K S, caOf K S, s₁.heap⟩
  have gl : Gl W K := ⟨⟨by obtain ⟨mm, ⟨o, _, _, e, _⟩, _⟩ := (T.seer hsee).mods; exact ⟨o, e⟩, T.nolimit⟩, KX, mg, mb, T.g, T.b, T.builtins, _, _, topRead_of T⟩
  have R : AR callerA [] n := ⟨rfl, by show 1 + claimMargin + 4 * n ≤ 900; have : claimMargin ≤ 400 := by decide +kernel
                                       omega, by show 4 + 40 * n + 400 ≤ 9000; omega⟩
  obtain ⟨v, m', e, rfl⟩ := wp_val hrun
  have H : HR W s₁.heap [] [] := ⟨fun _ _ e => e, rfl, fun n p o h => by simp at h, fun b ⟨p, hp, _⟩ => (nomatch hp), fun i j p q _ h => by simp at h⟩
  obtain ⟨o, ho, hc, N, hd⟩ := hL
  have hv : VRs W s₁.heap [] [.scr ns] [.ref l] := .cons (.scr ho hc hd (by simpa using intsR_of hI) (by unfold lid; omega)) .nil
  have key := all_sim (W := W) (P := pxOf S qok K) gl rfl rfl rfl hc1 hc2 n callerA [] R (fun _ => rfl) k rfl s₁ [] [] [.scr ns] [.ref l] H (fun _ q => nomatch q) hv (by show run S n k [.scr ns] [] ≠ _; rw [e]; intro q; cases q)
  rw [hf]
  refine wpAny_mono key (fun u s' q => ?_) fun x s' q => ?_
  · obtain ⟨v, m2, io', e2, st, H2, kv, sm⟩ := q
    have e2 : run S n k [.scr ns] [] = .ok v m2 := e2
    rw [e] at e2
    cases e2
    cases kv
    exact GoodW.toG ⟨.inl ⟨_, _, [], rfl, hr, .bool true, hp, fun _ => ⟨List.nodup_nil, fun _ q => nomatch q⟩⟩, H2.keep, sm.2, sm.1.trans hg⟩
  · obtain ⟨c, m2, io', a, g, e2, _⟩ := q
    have e2 : run S n k [.scr ns] [] = .exc c m2 := e2
    rw [e] at e2
    cases e2
end Mini

/-! Lists, dicts, loops: what a run ends in. -/
namespace Mini
open PySem
section
variable {S : Sig} {F : Fns} {r : Lo} {m : MH} {E : Nat → MH → Prop} {p q : Nat} {xs ys : List V} {v : V} {Q : V → MH → Prop}
theorem smK_l (h : m[p]? = some (.list xs)) : smK (.ref p) m = some 0 := by unfold smK; dsimp only; rw [h]
theorem w_idxl {k : Int} (h : m[p]? = some (.list xs)) (hv : at_ xs k = some v) (hk : k.natAbs < 2 ^ 60) (q : Q v m) : Wp (idxV (.ref p) (.int k)) m Q E := by
  refine wp_eq (m' := m) ?_ q
  unfold idxV; dsimp only; rw [h]; dsimp only; rw [if_pos hk, hv]; rfl
theorem w_addl (h : m[p]? = some (.list xs)) (h' : m[q]? = some (.list ys)) (hl : xs.length + ys.length ≤ lid) (k : ∀ p m', Le m m' → m'[p]? = some (.list (xs ++ ys)) → m.length ≤ p → Q (.ref p) m') : Wp (binV .Add (.ref p) (.ref q)) m Q E := by
  refine wp_eq (a := .ref m.length) (m' := m ++ [.list (xs ++ ys)]) ?_ (k _ _ (.app _ _) new_has (Nat.le_refl _))
  show (match m[p]?, m[q]? with | some (.list x), some (.list y) => if x.length + y.length ≤ lid then alloc (.list (x ++ y)) m else .bad | _, _ => .bad) = _
  rw [h, h']
  show (if xs.length + ys.length ≤ lid then alloc (.list (xs ++ ys)) m else .bad) = _
  rw [if_pos hl]; rfl
theorem bools_l : ∀ bs : List Bool, isBoolL (bs.map .bool) = some bs
  | [] => rfl
  | b :: bs => by rw [List.map_cons, isBoolL, bools_l bs]; rfl
theorem w_count {bs : List Bool} {b : Bool} (h : m[p]? = some (.list (bs.map .bool))) (k : Q (.int (bs.count b)) m) : Wp (smethV 0 (.ref p) .count [.bool b]) m Q E := by
  refine wp_eq (m' := m) ?_ k
  show (match m[p]? with | some (.list xs) => listM p xs .count [.bool b] m | _ => .bad) = _
  rw [h]
  show (match isBoolL (bs.map V.bool) with | some bs => Res.ok (V.int (bs.count b)) m | Option.none => .bad) = _
  rw [bools_l]
theorem w_index {bs : List Bool} {b : Bool} (h : m[p]? = some (.list (bs.map .bool))) (hc : bs.contains b = true) (k : Q (.int (bs.idxOf b)) m) : Wp (smethV 0 (.ref p) .index [.bool b]) m Q E := by
  refine wp_eq (m' := m) ?_ k
  show (match m[p]? with | some (.list xs) => listM p xs .index [.bool b] m | _ => .bad) = _
  rw [h]
  show (match isBoolL (bs.map V.bool) with | some bs => if bs.contains b then Res.ok (V.int (bs.idxOf b)) m else .bad | Option.none => .bad) = _
  rw [bools_l]
  show (if bs.contains b then Res.ok (V.int (bs.idxOf b)) m else .bad) = _
  rw [if_pos hc]
theorem stays_l {n : Nat} (h : m[n]? = some (.list xs)) : (Gd.list n xs).stays m = true := by
  show (match m[n]? with | some (.list ys) => V.sames xs ys | _ => false) = true
  rw [h]; exact sames_self xs
theorem w_srcl {Q : List V × Gd → MH → Prop} (h : m[p]? = some (.list xs)) (k : Q (xs, .list p xs) m) : Wp (srcV .expr [.ref p]) m Q E := by
  refine wp_eq (m' := m) ?_ k
  unfold srcV itemsV; dsimp only; rw [h]
end

/-- a for: what holds between the turns, for the items that are left -/
theorem wp_forD {g : Gd} {step : V → Lo → Mn (Fl × Lo)} {Q : Fl × Lo → MH → Prop} {E : Nat → MH → Prop} (I : List V → Lo → MH → Prop) (hg : ∀ xs r m, I xs r m → g.stays m = true)
    (hs : ∀ x xs r m, I (x :: xs) r m → Wp (step x r) m (fun p m' => match p.1 with | .ret v => Q (.ret v, p.2) m' | _ => I xs p.2 m') E) (hn : ∀ r m, I [] r m → Q (.next, r) m) :
    ∀ (xs : List V) (r : Lo) (m : MH), I xs r m → Wp (forD g step xs r) m Q E
  | [], r, m, h => by
    refine wp_eq (m' := m) ?_ (hn r m h)
    show (if g.stays m then _ else _) = _
    rw [if_pos (hg _ _ _ h)]
  | x :: xs, r, m, h => by
    have e : forD g step (x :: xs) r m = (step x r m).bind (fun p => match p.1 with | .ret x => ret (.ret x, p.2) | _ => forD g step xs p.2) := if_pos (hg _ _ _ h)
    have k := hs x xs r m h
    unfold Wp at k ⊢
    rw [e]
    cases q : step x r m with
    | bad => rw [q] at k; exact k
    | exc c m1 => rw [q] at k; exact k
    | ok p m1 =>
      rw [q] at k
      obtain ⟨f, r1⟩ := p
      cases f with
      | ret v => exact k
      | next => exact wp_forD I hg hs hn xs r1 m1 k
      | cont => exact wp_forD I hg hs hn xs r1 m1 k
theorem s_for {S : Sig} {F : Fns} {k : IK} {t : CT} {src : List CE} {body ss : List CS} {r : Lo} {m : MH} {Q : Fl × Lo → MH → Prop} {E : Nat → MH → Prop} (h : Wp (evs S F src r) m (fun vs m' => Wp (srcV k vs) m' (fun p m' => ∃ I : List V → Lo → MH → Prop, I p.1 r m' ∧ (∀ xs r m, I xs r m → p.2.stays m = true) ∧
      (∀ x xs r m, I (x :: xs) r m → Wp (setT t x r) m (fun r' m' => Wp (exs S F body r') m' (fun p m' => match p.1 with | .ret v => Q (.ret v, p.2) m' | _ => I xs p.2 m') E) E) ∧ (∀ r m, I [] r m → Wp (exs S F ss r) m Q E)) E) E) : Wp (exs S F (.for_ k t src body :: ss) r) m Q E := by
  refine s_cons (wp_bnd (x := evs S F src r) (wp_mono h (fun vs m' h => wp_bnd (x := srcV k vs) (wp_mono h (fun p m' h => ?_) fun _ _ q => q)) fun _ _ q => q))
  obtain ⟨I, h0, hg, hs, hn⟩ := h
  exact wp_forD I hg (fun x xs r m hi => wp_bnd (x := setT t x r) (wp_mono (hs x xs r m hi) (fun r' m' q => wp_mono q (fun p m' q => by obtain ⟨f, r1⟩ := p; cases f <;> exact q) fun _ _ q => q) fun _ _ q => q)) hn p.1 r m' h0

/-- a comprehension of items that all come out: the items are kept or not, by a rule -/
theorem wp_compD {g : Gd} {step : V → Mn (Option V)} {Q : List V → MH → Prop} {E : Nat → MH → Prop} (I : List V → List V → MH → Prop) (hg : ∀ xs l m, I xs l m → g.stays m = true)
    (hs : ∀ x xs l m, I (x :: xs) l m → Wp (step x) m (fun o m' => I xs (l ++ consO o []) m') nox) (hn : ∀ l m, I [] l m → Q l m) :
    ∀ (xs l : List V) (m : MH), I xs l m → Wp (compD g step xs) m (fun l' m' => Q (l ++ l') m') E
  | [], l, m, h => by
    refine wp_eq (a := []) (m' := m) (if_pos (hg _ _ _ h)) ?_
    rw [List.append_nil]; exact hn l m h
  | x :: xs, l, m, h => by
    obtain ⟨o, m1, e, k⟩ := wp_val (hs x xs l m h)
    have e2 : compD g step (x :: xs) m = ((step x m).nox).bind (fun o => bnd (compD g step xs) fun r => ret (consO o r)) := if_pos (hg _ _ _ h)
    have ih := wp_compD (E := E) I hg hs hn xs _ m1 k
    have e3 : compD g step (x :: xs) m = (compD g step xs m1).bind (fun r => ret (consO o r)) := by rw [e2, e]; rfl
    unfold Wp at ih ⊢
    rw [e3]
    cases q : compD g step xs m1 with
    | bad => rw [q] at ih; exact ih
    | exc c m2 => rw [q] at ih; exact ih
    | ok l' m2 =>
      rw [q] at ih
      have ih : Q (l ++ consO o [] ++ l') m2 := ih
      show Q (l ++ consO o l') m2
      have e4 : l ++ consO o [] ++ l' = l ++ consO o l' := by cases o <;> simp [consO]
      rw [← e4]; exact ih
theorem pe_comp {S : Sig} {F : Fns} {elt : CE} {k : IK} {t : CT} {nl : Nat} {src : List CE} {ifs : List CB} {r : Lo} {m : MH} {Q : V → MH → Prop} {E : Nat → MH → Prop} (h : Wp (evs S F src r) m (fun vs m' => Wp (srcV k vs) m' (fun p m' => ∃ I : List V → List V → MH → Prop, I p.1 [] m' ∧ (∀ xs l m, I xs l m → p.2.stays m = true) ∧
      (∀ x xs l m, I (x :: xs) l m → Wp (setT t x (r ++ List.replicate nl Option.none)) m (fun r' m' => Wp (evIf S F ifs r') m' (fun b m' => bif b then Wp (ev S F elt r') m' (fun y m' => I xs (l ++ [y]) m') nox else I xs l m') nox) nox) ∧ (∀ l m, I [] l m → l.length ≤ lid ∧ ∀ p m', Le m m' → m'[p]? = some (.list l) → m.length ≤ p → Q (.ref p) m')) E) E) : Wp (ev S F (.comp elt t nl k src ifs) r) m Q E := by
  refine wp_bnd (x := evs S F src r) (wp_mono h (fun vs m' h => wp_bnd (x := srcV k vs) (wp_mono h (fun p m' h => ?_) fun _ _ q => q)) fun _ _ q => q)
  obtain ⟨I, h0, hg, hs, hn⟩ := h
  refine wp_bnd ?_
  refine wp_compD (Q := fun l m' => Wp (if l.length ≤ lid then alloc (.list l) else bad) m' Q E) I hg (fun x xs l m hi => ?_) (fun l m hi => ?_) p.1 [] m' h0
  · refine wp_bnd (x := setT t x _) (wp_mono (hs x xs l m hi) (fun r' m' q => wp_bnd (x := evIf S F ifs r') (wp_mono q (fun b m' q => ?_) fun _ _ q => q)) fun _ _ q => q)
    cases b with
    | true => exact wp_bnd (x := ev S F elt r') (wp_mono q (fun y m' q => q) fun _ _ q => q)
    | false => show I xs (l ++ []) m'; rw [List.append_nil]; exact q
  · obtain ⟨h1, h2⟩ := hn l m hi
    rw [if_pos h1]
    exact wp_alloc h2
theorem ifs_one {S : Sig} {F : Fns} {c : CB} {r : Lo} {m : MH} {Q : Bool → MH → Prop} {E : Nat → MH → Prop} (h : Wp (evT S F c r) m Q E) : Wp (evIf S F [c] r) m Q E := by
  refine wp_bnd (x := evT S F c r) (wp_mono h (fun b m' q => ?_) fun _ _ q => q)
  cases b <;> exact q
end Mini

/-! Small facts about numbers, each once (omega's proofs are large). -/
namespace Mini
open PySem
theorem md0 {x n : Int} (h : 0 < n) : 0 ≤ x % n := Int.emod_nonneg _ (Int.ne_of_gt h)
theorem md1 {x n : Int} (h : 0 < n) : x % n < n := Int.emod_lt_of_pos _ h
theorem abs_lt {a b : Int} {c : Nat} (h0 : 0 ≤ a) (h1 : a < b) (h2 : b ≤ (c : Int)) : a.natAbs < c := by omega
theorem abs60 {a b : Int} (h0 : 0 ≤ a) (h1 : a < b) (h2 : b ≤ 1000000) : a.natAbs < 2 ^ 60 := Nat.lt_of_lt_of_le (abs_lt (c := 1000000) h0 h1 h2) (by decide)
theorem md60 {x n : Int} (h : 0 < n) (h2 : n ≤ 1000000) : (x % n).natAbs < 2 ^ 60 := abs60 (md0 h) (md1 h) h2
theorem md30 {x n : Int} (h : 0 < n) (h2 : n ≤ 1000000) : (x % n).natAbs < 1073741824 := Nat.lt_of_lt_of_le (abs_lt (c := 1000000) (md0 h) (md1 h) h2) (by decide)
theorem toN_lt {a : Int} {n : Nat} (h0 : 0 ≤ a) (h : a < (n : Int)) : a.toNat < n := by omega
theorem toN_le {a b : Int} (h : a ≤ b) : a.toNat ≤ b.toNat := Int.toNat_le_toNat h
theorem mdN {x n : Int} {k : Nat} (h : 0 < n) (hk : n ≤ (k : Int)) : (x % n).toNat < k := toN_lt (md0 h) (Int.lt_of_lt_of_le (md1 h) hk)
theorem md_cast {x n : Int} (h : 0 < n) : x % n = ((x % n).toNat : Int) := (Int.toNat_of_nonneg (md0 h)).symm
theorem small_lid {n k : Nat} (h : n ≤ k) (hk : k ≤ 1000000) : n ≤ lid := Nat.le_trans h (Nat.le_trans hk (by decide))
end Mini

/-! What the functions that many laws share compute. -/
namespace Mini
open PySem

/-- plain things -/
inductive Pl (m : MH) : V → Prop
  | none : Pl m .none
  | bool (b : Bool) : Pl m (.bool b)
  | int (i : Int) : Pl m (.int i)
  | str (s : Str) (h : s.length ≤ 64) : Pl m (.str s)
  | tup (xs : List V) (h : xs.length ≤ 64) : Pl m (.tup xs)
  | list (p : Nat) (xs : List V) (h : m[p]? = some (.list xs)) : Pl m (.ref p)
  | dict (p : Nat) (kvs : List (Ky × V)) (e : Nat) (h : m[p]? = some (.dict kvs e)) : Pl m (.ref p)
theorem Pl.le {m m' : MH} (l : Le m m') {v : V} (h : Pl m v) : Pl m' v := by
  cases h with
  | none => exact .none
  | bool b => exact .bool b
  | int i => exact .int i
  | str s h => exact .str s h
  | tup xs h => exact .tup xs h
  | list p xs hp => exact .list p xs (l.has hp)
  | dict p kvs e hp => exact .dict p kvs e (l.has hp)
noncomputable def vI : V → Bool | .int _ => true | .bool _ => true | _ => false
noncomputable def vB : V → Bool | .bool _ => true | _ => false
noncomputable def vS : V → Bool | .str _ => true | _ => false
noncomputable def vT : V → Bool | .tup _ => true | _ => false
noncomputable def vW : V → Bool | .int _ => true | _ => false
section
variable {S : Sig} {m : MH} {v : V}
theorem isi_int (h : Pl m v) : isiV S v .int m = .ok (vI v) m := by
  cases h with
  | list p xs hp => unfold isiV; dsimp only; rw [hp]; rfl
  | dict p kvs e hp => unfold isiV; dsimp only; rw [hp]; rfl
  | _ => rfl
theorem isi_bool (h : Pl m v) : isiV S v .bool m = .ok (vB v) m := by
  cases h with
  | list p xs hp => unfold isiV; dsimp only; rw [hp]; rfl
  | dict p kvs e hp => unfold isiV; dsimp only; rw [hp]; rfl
  | _ => rfl
theorem isi_str (h : Pl m v) : isiV S v .str m = .ok (vS v) m := by
  cases h with
  | list p xs hp => unfold isiV; dsimp only; rw [hp]; rfl
  | dict p kvs e hp => unfold isiV; dsimp only; rw [hp]; rfl
  | _ => rfl
theorem isi_tup (h : Pl m v) : isiV S v .tuple m = .ok (vT v) m := by
  cases h with
  | list p xs hp => unfold isiV; dsimp only; rw [hp]; rfl
  | dict p kvs e hp => unfold isiV; dsimp only; rw [hp]; rfl
  | _ => rfl
end
section
variable {S : Sig} {F : Fns} {r : Lo} {m : MH}
theorem q_isi {a : CE} {t : Ty} {x : V} {b : Bool} (ha : ev S F a r m = .ok x m) (h : isiV S x t m = .ok b m) : ev S F (.isi a t) r m = .ok (.bool b) m := by
  show Res.bind (ev S F a r m) _ = _
  rw [ha]
  show Res.bind (isiV S x t m) _ = _
  rw [h]; rfl
theorem q_notE {a : CE} {b : Bool} (ha : ev S F a r m = .ok (.bool b) m) : ev S F (.not a) r m = .ok (.bool (!b)) m := by
  show Res.bind (ev S F a r m) _ = _
  rw [ha]; rfl
theorem q_one {a : CE} {c : Bool} {v : V} (ha : ev S F a r m = .ok v m) : ev S F (.boolop c [a]) r m = .ok v m := ha
theorem q_call1 {a : CE} {k : Nat} {x v : V} (ha : ev S F a r m = .ok x m) (h : F k [x] m = .ok v m) : ev S F (.call k [a]) r m = .ok v m := by
  show Res.bind (Res.bind (ev S F a r m) _) _ = _
  rw [ha]; exact h
theorem q_callL {as : List CE} {k : Nat} {vs : List V} {v : V} (ha : evs S F as r m = .ok vs m) (h : F k vs m = .ok v m) : ev S F (.call k as) r m = .ok v m := by
  show Res.bind (evs S F as r m) _ = _
  rw [ha]; exact h
theorem q_cmp1 {a b : CE} {o : CmpOp} {x y : V} {t : Bool} (ha : ev S F a r m = .ok x m) (hb : ev S F b r m = .ok y m) (h : cmpV o x y m = .ok t m) : ev S F (.cmp a [o] [b]) r m = .ok (.bool t) m := by
  show Res.bind (ev S F a r m) _ = _
  rw [ha]
  show Res.bind (ev S F b r m) _ = _
  rw [hb]
  show Res.bind (cmpV o x y m) _ = _
  rw [h]; rfl
theorem q_ite {c : CB} {a b ss : List CS} {t : Bool} {Q : Fl × Lo → MH → Prop} {E : Nat → MH → Prop} (h : evT S F c r m = .ok t m) (k : Wp (exs S F ((bif t then a else b) ++ ss) r) m Q E) : Wp (exs S F (.ite c a b :: ss) r) m Q E := s_ite (wp_eq h k)
theorem q_end {c : Bool} : evTs S F c [] r m = .ok c m := rfl
theorem q_all {c : Bool} {bs : List CB} {b : Bool} (h : evTs S F c bs r m = .ok b m) : evT S F (.all c bs) r m = .ok b m := h
end
/-- a spec that is an equation -/
theorem wp_eqn {α : Type} {x : Mn α} {m : MH} {a : α} (h : Wp x m (fun v m' => v = a ∧ m' = m) nox) : x m = .ok a m := by
  obtain ⟨_, _, e, rfl, rfl⟩ := wp_val h
  exact e

/-! ## the script -/
noncomputable def b_at : List CS := [.ite (.val (.cmp (.var 1) [.Lt] [.bi .len [.var 0]])) [.ret (.idx (.var 0) (.var 1))] [], .ret (.cnst (.int 0))]
noncomputable def at0 (ns : List Int) (k : Int) : Int := (ns[k.toNat]?).getD 0
theorem at_ok {S : Sig} {k : Nat} (h : FnIs S k 2 2 b_at) (n : Nat) (ns : List Int) (j : Int) (hj : 0 ≤ j) (m : MH) : run S (n + 1) k [.scr ns, .int j] m = .ok (.int (at0 ns j)) m := by
  refine wp_eqn (wp_fn h rfl (q_ite (t := decide (j < (ns.length : Int))) rfl ?_))
  by_cases hl : j < (ns.length : Int)
  · rw [decide_eq_true hl]
    refine s_ret (pe_idx (wp_rfl rfl (wp_rfl rfl (wp_eq (a := .int (at0 ns j)) (m' := m) ?_ ⟨rfl, rfl⟩))))
    show (if 0 ≤ j then ofO ((ns[j.toNat]?).map V.int) m else .bad) = _
    rw [if_pos hj]
    unfold at0
    rw [List.getElem?_eq_getElem (show j.toNat < ns.length by omega)]; rfl
  · rw [decide_eq_false hl]
    refine s_ret (wp_rfl rfl ⟨?_, rfl⟩)
    unfold at0
    rw [List.getElem?_eq_none (by omega)]; rfl

/-! ## whole numbers and counts -/
noncomputable def b_whole : List CS := [.ret (.boolop true [.isi (.var 0) .int, .not (.isi (.var 0) .bool)])]
theorem whole_ok {S : Sig} {k : Nat} (h : FnIs S k 1 1 b_whole) (n : Nat) {m : MH} {v : V} (hv : Pl m v) : run S (n + 1) k [v] m = .ok (.bool (vW v)) m := by
  refine wp_eqn (wp_fn h rfl (s_ret (wp_eq (q_and (q_isi rfl (isi_int hv)) (q_one (q_notE (q_isi rfl (isi_bool hv))))) ⟨?_, rfl⟩)))
  cases hv <;> rfl
noncomputable def b_need (kW gM c : Nat) : List CS := [.ite (.all false [.not (.val (.call kW [.var 0])), .not (.val (.cmp (.cnst (.int 1)) [.LtE, .LtE] [.var 0, .glob gM]))]) [.rse c (Str.ofString "a town has 1 to 12 houses")] []]
/-- a count -/
noncomputable def isC : V → Bool | .int i => decide (1 ≤ i) && decide (i ≤ 12) | _ => false
theorem need_ok {S : Sig} {k kW gM c : Nat} {gn : Str} (h : FnIs S k 1 1 (b_need kW gM c)) (hW : FnIs S kW 1 1 b_whole) (hM : S.globs[gM]? = some (gn, .int 12)) (n : Nat) {m : MH} {v : V} (hv : Pl m v) : run S (n + 2) k [v] m = if isC v then .ok .none m else .exc c m := by
  have e1 : ev S (run S (n + 1)) (.call kW [.var 0]) [some v] m = .ok (.bool (vW v)) m := whole_ok hW n hv
  have eg : ev S (run S (n + 1)) (.glob gM) [some v] m = .ok (.int 12) m := by
    show (match S.globs[gM]? with | some p => ret p.2.val | Option.none => bad) m = _
    rw [hM]; rfl
  have e3 : evTs S (run S (n + 1)) false [.not (.val (.call kW [.var 0])), .not (.val (.cmp (.cnst (.int 1)) [.LtE, .LtE] [.var 0, .glob gM]))] [some v] m = .ok (!isC v) m := by
    have no : vW v = false → isC v = false → evTs S (run S (n + 1)) false [.not (.val (.call kW [.var 0])), .not (.val (.cmp (.cnst (.int 1)) [.LtE, .LtE] [.var 0, .glob gM]))] [some v] m = .ok (!isC v) m := fun h1 h2 => by
      show Res.bind (evT S (run S (n + 1)) (.not (.val (.call kW [.var 0]))) [some v] m) _ = _
      rw [q_not (q_val e1), h1, h2]; rfl
    cases hv with
    | int i => exact (q_ors (q_not (q_val e1)) (q_ors (q_not (q_val (q_cmp2 rfl rfl eg rfl rfl))) q_end)).trans (by rw [Bool.or_false]; rfl)
    | _ => exact no rfl rfl
  rw [run_fn h rfl]
  show Res.bind (Res.bind (Res.bind (evTs S (run S (n + 1)) false [.not (.val (.call kW [.var 0])), .not (.val (.cmp (.cnst (.int 1)) [.LtE, .LtE] [.var 0, .glob gM]))] [some v] m) _) _) _ = _
  rw [e3]
  cases isC v <;> rfl
end Mini

/-! Rows. -/
namespace Mini
open PySem

noncomputable def letterS : Str := Str.ofString "abcdefghijklmnopqrstuvwxyz"
noncomputable def letters : List Nat := letterS.cps.toList
noncomputable def okC (c : Nat) : Bool := decide (c ∈ letters)
noncomputable def ch (c : Nat) : V := .str ⟨#[c]⟩
noncomputable def rowS (s : Str) : Bool := decide ((1 : Int) ≤ (s.length : Int)) && decide ((s.length : Int) ≤ 8)
noncomputable def badRow : V → Bool | .str s => !rowS s | _ => true
noncomputable def rowB : V → Bool | .str s => rowS s && s.cps.toList.all okC | _ => false
section
variable {S : Sig} {F : Fns} {m : MH}
theorem q_lenS {s : Str} {r : Lo} {a : CE} (ha : ev S F a r m = .ok (.str s) m) (h : s.length ≤ lid) : ev S F (.bi .len [a]) r m = .ok (.int s.length) m := by
  show Res.bind (Res.bind (ev S F a r m) _) _ = _
  rw [ha]
  exact if_pos h
theorem q_lenT {xs : List V} {r : Lo} {a : CE} (ha : ev S F a r m = .ok (.tup xs) m) (h : xs.length ≤ lid) : ev S F (.bi .len [a]) r m = .ok (.int xs.length) m := by
  show Res.bind (Res.bind (ev S F a r m) _) _ = _
  rw [ha]
  exact if_pos h
theorem q_glob {g : Nat} {nm : Str} {l : Lt} {r : Lo} (h : S.globs[g]? = some (nm, l)) : ev S F (.glob g) r m = .ok l.val m := by
  show (match S.globs[g]? with | some p => ret p.2.val | Option.none => bad) m = _
  rw [h]; rfl
/-- the first look at a row -/
theorem look_row {r : Lo} {v : V} {x y : CE} (hv : Pl m v) (hx : ev S F x r m = .ok v m) (hy : ev S F y r m = .ok (.int 8) m) :
    evT S F (.all false [.not (.val (.isi x .str)), .not (.val (.cmp (.cnst (.int 1)) [.LtE, .LtE] [.bi .len [x], y]))]) r m = .ok (badRow v) m := by
  have no : vS v = false → evT S F (.all false [.not (.val (.isi x .str)), .not (.val (.cmp (.cnst (.int 1)) [.LtE, .LtE] [.bi .len [x], y]))]) r m = .ok true m := fun h => by
    show Res.bind (evT S F (.not (.val (.isi x .str))) r m) _ = _
    rw [q_not (q_val (q_isi hx (isi_str hv))), h]; rfl
  cases hv with
  | str s hs => exact (q_ors (q_not (q_val (q_isi hx (isi_str (.str s hs))))) (q_ors (q_not (q_val (q_cmp2 rfl (q_lenS hx (by unfold lid; omega)) hy rfl rfl))) q_end)).trans (by rw [Bool.or_false]; rfl)
  | _ => exact no rfl
end
noncomputable def b_is_row (gL gM : Nat) : List CS := [
  .ite (.all false [.not (.val (.isi (.var 0) .str)), .not (.val (.cmp (.cnst (.int 1)) [.LtE, .LtE] [.bi .len [.var 0], .glob gM]))]) [.ret (.cnst (.bool false))] [],
  .for_ .expr (.one 1) [.var 0] [.ite (.val (.cmp (.var 1) [.NotIn] [.glob gL])) [.ret (.cnst (.bool false))] []],
  .ret (.cnst (.bool true))]
theorem is_row_ok {S : Sig} {k gL gM : Nat} {n1 n2 : Str} (h : FnIs S k 1 2 (b_is_row gL gM)) (hL : S.globs[gL]? = some (n1, .str letterS)) (hM : S.globs[gM]? = some (n2, .int 8)) (n : Nat) {m : MH} {v : V} (hv : Pl m v) : run S (n + 1) k [v] m = .ok (.bool (rowB v)) m := by
  refine wp_eqn (wp_fn h rfl (q_ite (look_row hv rfl (q_glob hM)) ?_))
  have no : vS v = false → Wp (exs S (run S n) [.ret (.cnst (.bool false))] [some v, Option.none]) m (fun p m' => match p.1 with | .ret u => u = .bool (rowB v) ∧ m' = m | .next => V.none = .bool (rowB v) ∧ m' = m | .cont => False) nox := fun h => by
    refine s_ret (wp_rfl rfl ⟨?_, rfl⟩)
    cases v <;> first | rfl | cases h
  cases hv with
  | str s hs =>
    rw [show badRow (.str s) = !rowS s from rfl]
    cases hr : rowS s with
    | false =>
      refine s_ret (wp_rfl rfl ⟨?_, rfl⟩)
      show V.bool false = .bool (rowS s && s.cps.toList.all okC)
      rw [hr]; rfl
    | true =>
      refine s_for (wp_rfl rfl (wp_rfl rfl ⟨fun xs r m' => m' = m ∧ (∃ u, r = [some (.str s), u]) ∧ ∃ a z, s.cps.toList = a ++ z ∧ xs = z.map ch ∧ a.all okC = true, ⟨rfl, ⟨_, rfl⟩, [], _, rfl, rfl, rfl⟩, fun _ _ _ _ => rfl, ?_, ?_⟩))
      · rintro x xs r m' ⟨rfl, ⟨u, rfl⟩, a, z, e1, e2, e3⟩
        cases z with
        | nil => cases e2
        | cons c z =>
          cases e2
          refine wp_rfl rfl (q_ite (t := !okC c) (q_val (q_cmp1 rfl (q_glob hL) rfl)) ?_)
          cases hc : okC c with
          | true => exact s_nil ⟨rfl, ⟨_, rfl⟩, a ++ [c], z, by rw [e1, List.append_assoc]; rfl, rfl, by rw [List.all_append, e3]; show (true && (okC c && true)) = true; rw [hc]; rfl⟩
          | false =>
            refine s_ret (wp_rfl rfl ⟨?_, rfl⟩)
            have : s.cps.toList.all okC = false := by rw [e1, List.all_append, List.all_cons, hc]; simp
            show V.bool false = .bool (rowS s && s.cps.toList.all okC)
            rw [this, Bool.and_false]
      · rintro r m' ⟨rfl, _, a, z, e1, e2, e3⟩
        cases z with
        | cons c z => cases e2
        | nil =>
          rw [List.append_nil] at e1
          refine s_ret (wp_rfl rfl ⟨?_, rfl⟩)
          show V.bool true = .bool (rowS s && s.cps.toList.all okC)
          rw [hr, e1, e3]; rfl
  | none => exact no rfl
  | bool b => exact no rfl
  | int i => exact no rfl
  | tup xs h => exact no rfl
  | list p xs hp => exact no rfl
  | dict p kvs e hp => exact no rfl
noncomputable def b_lrow : List CS := [
  .ite (.all false [.not (.val (.isi (.var 0) .str)), .not (.val (.cmp (.cnst (.int 1)) [.LtE, .LtE] [.bi .len [.var 0], .cnst (.int 8)]))]) [.ret (.cnst (.bool false))] [],
  .ret (.cmp (.comp (.var 1) (.one 1) 1 .expr [.var 0] [.val (.cmp (.var 1) [.NotIn] [.cnst (.str (Str.ofString "abcdefghijklmnopqrstuvwxyz"))])]) [.Eq] [.list []])]
theorem rd_chs (m : MH) (f : Nat) : ∀ l : List Nat, allO (rd (f + 1) m) (l.map ch) = some (l.map fun c => PyData.str ⟨#[c]⟩)
  | [] => rfl
  | c :: l => by rw [List.map_cons, allO, rd_chs m f l]; rfl
theorem eqv_nil : ∀ ds : List PyData, PyData.eqv (.list ds) (.list []) = ds.isEmpty
  | [] => rfl
  | _ :: _ => rfl
theorem eq_chs {m : MH} {p q : Nat} {l : List Nat} (hp : m[p]? = some (.list (l.map ch))) (hq : m[q]? = some (.list [])) : cmpV .Eq (.ref p) (.ref q) m = .ok l.isEmpty m := by
  have e1 : rd deep m (.ref p) = some (.list (l.map fun c => PyData.str ⟨#[c]⟩)) := by
    show rd (11 + 1) m (.ref p) = _
    unfold rd; dsimp only; rw [hp]; dsimp only; rw [rd_chs m 10]; rfl
  have e2 : rd deep m (.ref q) = some (.list []) := by
    show rd (11 + 1) m (.ref q) = _
    unfold rd; dsimp only; rw [hq]; rfl
  show eqV (.ref p) (.ref q) m = _
  unfold eqV; rw [e1, e2]; dsimp only
  rw [eqv_nil]; cases l <;> rfl
theorem filter_nil_iff {l : List Nat} : (l.filter fun c => !okC c).isEmpty = l.all okC := by
  induction l with
  | nil => rfl
  | cons c l ih =>
    rw [List.all_cons, List.filter_cons, ← ih]
    cases okC c <;> rfl
theorem lrow_ok {S : Sig} {k : Nat} (h : FnIs S k 1 1 b_lrow) (n : Nat) {m : MH} {v : V} (hv : Pl m v) : Wp (run S (n + 1) k [v]) m (fun u m' => u = .bool (rowB v) ∧ Le m m') nox := by
  refine wp_fn h rfl (q_ite (look_row hv rfl rfl) ?_)
  have no : vS v = false → Wp (exs S (run S n) [.ret (.cnst (.bool false))] [some v]) m (fun p m' => match p.1 with | .ret u => u = .bool (rowB v) ∧ Le m m' | .next => V.none = .bool (rowB v) ∧ Le m m' | .cont => False) nox := fun h => by
    refine s_ret (wp_rfl rfl ⟨?_, .refl _⟩)
    cases v <;> first | rfl | cases h
  cases hv with
  | str s hs =>
    rw [show badRow (.str s) = !rowS s from rfl]
    cases hr : rowS s with
    | false =>
      refine s_ret (wp_rfl rfl ⟨?_, .refl _⟩)
      show V.bool false = .bool (rowS s && s.cps.toList.all okC)
      rw [hr]; rfl
    | true =>
      have h8 : s.cps.toList.length ≤ 8 := by
        unfold rowS at hr
        have := of_decide_eq_true (Bool.and_eq_true_iff.mp hr).2
        have e : s.length = s.cps.toList.length := rfl
        omega
      refine s_ret (pe_cmp (pe_comp (wp_rfl rfl (wp_rfl rfl ⟨fun xs l m' => m' = m ∧ ∃ a z, s.cps.toList = a ++ z ∧ xs = z.map ch ∧ l = (a.filter fun c => !okC c).map ch, ⟨rfl, [], _, rfl, rfl, rfl⟩, fun _ _ _ _ => rfl, ?_, ?_⟩))))
      · rintro x xs l m' ⟨rfl, a, z, e1, e2, e3⟩
        cases z with
        | nil => cases e2
        | cons c z =>
          cases e2
          refine wp_rfl rfl (ifs_one (wp_eq (a := !okC c) (q_val (q_cmp1 rfl rfl rfl)) ?_))
          cases hc : okC c with
          | true => exact ⟨rfl, a ++ [c], z, by rw [e1, List.append_assoc]; rfl, rfl, by rw [List.filter_append, e3, List.filter_cons_of_neg (p := fun c => !okC c) (by rw [hc]; exact Bool.false_ne_true), List.filter_nil, List.append_nil]⟩
          | false =>
            refine bif_t (wp_rfl rfl ?_)
            exact ⟨rfl, a ++ [c], z, by rw [e1, List.append_assoc]; rfl, rfl, by rw [List.filter_append, List.map_append, e3, List.filter_cons_of_pos (p := fun c => !okC c) (by rw [hc]; rfl)]; rfl⟩
      · rintro l m' ⟨rfl, a, z, e1, e2, e3⟩
        cases z with
        | cons c z => cases e2
        | nil =>
          rw [List.append_nil] at e1
          subst e1
          refine ⟨?_, fun p m1 l1 k1 _ => pe_list (wp_rfl rfl (wp_alloc fun q m2 l2 k2 _ => ?_))⟩
          · rw [e3, List.length_map]
            have := List.length_filter_le (fun c => !okC c) s.cps.toList
            unfold lid; omega
          · rw [e3] at k1
            refine wp_eq (eq_chs (l2.has k1) k2) ⟨?_, l1.trans l2⟩
            show V.bool _ = .bool (rowS s && s.cps.toList.all okC)
            rw [filter_nil_iff, hr]; rfl
  | none => exact no rfl
  | bool b => exact no rfl
  | int i => exact no rfl
  | tup xs h => exact no rfl
  | list p xs hp => exact no rfl
  | dict p kvs e hp => exact no rfl
end Mini

/-! Loops over a list of plain things; rows that are made. -/
namespace Mini
open PySem
section
variable {S : Sig} {F : Fns} {r : Lo} {m : MH}
theorem q_bin {a b : CE} {op : Operator} {x y v : V} (ha : ev S F a r m = .ok x m) (hb : ev S F b r m = .ok y m) (h : binV op x y m = .ok v m) : ev S F (.bin op a b) r m = .ok v m := by
  show Res.bind (ev S F a r m) _ = _
  rw [ha]
  show Res.bind (ev S F b r m) _ = _
  rw [hb]; exact h
theorem q_idx {a b : CE} {x y v : V} (ha : ev S F a r m = .ok x m) (hb : ev S F b r m = .ok y m) (h : idxV x y m = .ok v m) : ev S F (.idx a b) r m = .ok v m := by
  show Res.bind (ev S F a r m) _ = _
  rw [ha]
  show Res.bind (ev S F b r m) _ = _
  rw [hb]; exact h
theorem mul_eq {i j : Int} (h : i.natAbs < 1073741824 ∨ j.natAbs < 1073741824) : binV .Mult (.int i) (.int j) m = .ok (.int (i * j)) m := if_pos h
theorem mod_eq {i j : Int} (h : 0 < j) : binV .Mod (.int i) (.int j) m = .ok (.int (i % j)) m := if_pos h
theorem short {a : CB} {as : List CB} (ha : evT S F a r m = .ok true m) : evTs S F false (a :: as) r m = .ok true m := by
  show Res.bind (evT S F a r m) _ = _
  rw [ha]; rfl
end
theorem pe_mapf {S : Sig} {F : Fns} {elt : CE} {k : IK} {t : CT} {nl : Nat} {src : List CE} {ifs : List CB} {r : Lo} {m : MH} {Q : V → MH → Prop} {E : Nat → MH → Prop} {α : Type} (zs : List α) (vv ww : α → V) (keep : α → Bool) (M : MH → Prop)
    (h : Wp (evs S F src r) m (fun vs m' => Wp (srcV k vs) m' (fun p m' => p.1 = zs.map vv ∧ M m' ∧ (∀ m, M m → p.2.stays m = true) ∧
      (∀ z ∈ zs, ∀ m, M m → Wp (setT t (vv z) (r ++ List.replicate nl Option.none)) m (fun r' m' => Wp (evIf S F ifs r') m' (fun b m' => b = keep z ∧ (bif b then Wp (ev S F elt r') m' (fun y m' => y = ww z ∧ M m') nox else M m')) nox) nox) ∧
      zs.length ≤ lid ∧ ∀ p m1 m2, M m1 → Le m1 m2 → m2[p]? = some (.list ((zs.filter keep).map ww)) → m1.length ≤ p → Q (.ref p) m2) E) E) : Wp (ev S F (.comp elt t nl k src ifs) r) m Q E := by
  refine pe_comp (wp_mono h (fun vs m' h => wp_mono h (fun p m' h => ?_) fun _ _ q => q) fun _ _ q => q)
  obtain ⟨e0, h0, hg, hs, hl, hn⟩ := h
  refine ⟨fun xs l m => M m ∧ ∃ a z, zs = a ++ z ∧ xs = z.map vv ∧ l = (a.filter keep).map ww, ⟨h0, [], zs, rfl, e0, rfl⟩, fun _ _ _ q => hg _ q.1, ?_, ?_⟩
  · rintro x xs l m ⟨hm, a, z, e1, e2, e3⟩
    cases z with
    | nil => cases e2
    | cons c z =>
      cases e2
      refine wp_mono (hs c (by rw [e1]; simp) m hm) (fun r' m' q => wp_mono q (fun b m' q => ?_) fun _ _ q => q) fun _ _ q => q
      obtain ⟨rfl, q⟩ := q
      cases hk : keep c with
      | true =>
        rw [hk] at q
        refine wp_mono q (fun y m' q => ?_) fun _ _ q => q
        obtain ⟨rfl, q⟩ := q
        exact ⟨q, a ++ [c], z, by rw [e1, List.append_assoc]; rfl, rfl, by rw [List.filter_append, List.map_append, e3, List.filter_cons_of_pos hk]; rfl⟩
      | false =>
        rw [hk] at q
        exact ⟨q, a ++ [c], z, by rw [e1, List.append_assoc]; rfl, rfl, by rw [List.filter_append, e3, List.filter_cons_of_neg (by rw [hk]; exact Bool.false_ne_true), List.filter_nil, List.append_nil]⟩
  · rintro l m ⟨hm, a, z, e1, e2, e3⟩
    cases z with
    | cons c z => cases e2
    | nil =>
      rw [List.append_nil] at e1
      subst e1
      refine ⟨?_, fun p m' l k g => hn p m m' hm l (e3 ▸ k) g⟩
      rw [e3, List.length_map]
      exact Nat.le_trans (List.length_filter_le _ _) hl
theorem filter_all {α : Type} (zs : List α) : (zs.filter fun _ => true) = zs := List.filter_eq_self.mpr fun _ _ => rfl
/-- all items are kept -/
theorem pe_map {S : Sig} {F : Fns} {elt : CE} {k : IK} {t : CT} {nl : Nat} {src : List CE} {r : Lo} {m : MH} {Q : V → MH → Prop} {E : Nat → MH → Prop} {α : Type} (zs : List α) (vv ww : α → V) (M : MH → Prop)
    (h : Wp (evs S F src r) m (fun vs m' => Wp (srcV k vs) m' (fun p m' => p.1 = zs.map vv ∧ M m' ∧ (∀ m, M m → p.2.stays m = true) ∧
      (∀ z ∈ zs, ∀ m, M m → Wp (setT t (vv z) (r ++ List.replicate nl Option.none)) m (fun r' m' => Wp (ev S F elt r') m' (fun y m' => y = ww z ∧ M m') nox) nox) ∧
      zs.length ≤ lid ∧ ∀ p m1 m2, M m1 → Le m1 m2 → m2[p]? = some (.list (zs.map ww)) → m1.length ≤ p → Q (.ref p) m2) E) E) : Wp (ev S F (.comp elt t nl k src []) r) m Q E := by
  refine pe_mapf zs vv ww (fun _ => true) M (wp_mono h (fun vs m' h => wp_mono h (fun p m' h => ?_) fun _ _ q => q) fun _ _ q => q)
  obtain ⟨e0, h0, hg, hs, hl, hn⟩ := h
  refine ⟨e0, h0, hg, fun z hz m hm => wp_mono (hs z hz m hm) (fun r' m' q => wp_rfl rfl ⟨rfl, q⟩) fun _ _ q => q, hl, ?_⟩
  rw [filter_all]; exact hn
theorem s_forz {S : Sig} {F : Fns} {k : IK} {t : CT} {src : List CE} {body ss : List CS} {r : Lo} {m : MH} {Q : Fl × Lo → MH → Prop} {E : Nat → MH → Prop} {α : Type} (zs : List α) (vv : α → V) (I : List α → Lo → MH → Prop) (h : Wp (evs S F src r) m (fun vs m' => Wp (srcV k vs) m' (fun p m' => p.1 = zs.map vv ∧ I zs r m' ∧ (∀ zs r m, I zs r m → p.2.stays m = true) ∧
      (∀ z zs r m, I (z :: zs) r m → Wp (setT t (vv z) r) m (fun r' m' => Wp (exs S F body r') m' (fun p m' => match p.1 with | .ret v => Q (.ret v, p.2) m' | _ => I zs p.2 m') E) E) ∧ (∀ r m, I [] r m → Wp (exs S F ss r) m Q E)) E) E) : Wp (exs S F (.for_ k t src body :: ss) r) m Q E := by
  refine s_for (wp_mono h (fun vs m' h => wp_mono h (fun p m' h => ?_) fun _ _ q => q) fun _ _ q => q)
  obtain ⟨e0, h0, hg, hs, hn⟩ := h
  refine ⟨fun xs r m => ∃ z, xs = z.map vv ∧ I z r m, ⟨zs, e0, h0⟩, fun _ _ _ ⟨_, _, q⟩ => hg _ _ _ q, ?_, ?_⟩
  · rintro x xs r m ⟨z, e, q⟩
    cases z with
    | nil => cases e
    | cons c z =>
      cases e
      refine wp_mono (hs c z r m q) (fun r' m' q => wp_mono q (fun p m' q => ?_) fun _ _ q => q) fun _ _ q => q
      obtain ⟨f, r1⟩ := p
      cases f with
      | ret v => exact q
      | next => exact ⟨z, rfl, q⟩
      | cont => exact ⟨z, rfl, q⟩
  · rintro r m ⟨z, e, q⟩
    cases z with
    | nil => exact hn r m q
    | cons c z => cases e

/-! ## a sign -/
noncomputable def signS : Str := Str.ofString " !\"#$&'()*+,-./0123456789:;<=>?@ABCDEFGHIJKLMNOPQRSTUVWXYZ[\\]^_`{|}~\n\t"
noncomputable def b_sign : List CS := [
  .asg (.one (.one 1)) (.cnst (.str (Str.ofString " !\"#$&'()*+,-./0123456789:;<=>?@ABCDEFGHIJKLMNOPQRSTUVWXYZ[\\]^_`{|}~\n\t"))),
  .ret (.idx (.var 1) (.bin .Mod (.var 0) (.bi .len [.var 1])))]
theorem sign_len : signS.cps.toList.length = 70 := by decide +kernel
noncomputable def signOf (c : Int) : Nat := (signS.cps.toList[(c % 70).toNat]?).getD 0
theorem sign_ok {S : Sig} {k : Nat} (h : FnIs S k 1 2 b_sign) (n : Nat) (c : Int) (m : MH) : run S (n + 1) k [.int c] m = .ok (ch (signOf c)) m := by
  have hl : (signS.length : Int) = 70 := by show ((signS.cps.size : Nat) : Int) = 70; rw [← Array.length_toList, sign_len]; rfl
  refine wp_eqn (wp_fn h rfl (s_asg (wp_rfl rfl ?_)))
  refine s_ret (wp_eq (q_idx rfl (q_bin rfl (q_lenS (s := signS) rfl (by show signS.cps.size ≤ lid; rw [← Array.length_toList, sign_len]; decide)) (by rw [hl]; exact mod_eq (by decide))) ?_) ⟨rfl, rfl⟩)
  have h2 : (c % 70).toNat < signS.cps.toList.length := by rw [sign_len]; omega
  show (if (c % 70).natAbs < 2 ^ 60 then ofO ((at_ signS.cps.toList (c % 70)).map fun c => V.str ⟨#[c]⟩) m else .bad) = _
  rw [if_pos (by omega)]
  unfold at_ signOf
  rw [if_pos (by omega), List.getElem?_eq_getElem h2]; rfl
end Mini

/-! The row that is made of a base and a number. -/
namespace Mini
open PySem
noncomputable def kq : List Nat := (Str.ofString "kqxz").cps.toList
noncomputable def turned (b k : Int) : Int := b + 31 * k * (b % 2)
noncomputable def size (b k : Int) : Int := turned b k / 26 % 8
noncomputable def letter (b k : Int) (j : Nat) : Nat := (letters[((turned b k + 5 * (j : Int) * (1 + turned b k % 3)) % 26).toNat]?).getD 0
noncomputable def tailL (b k : Int) : List Nat := (List.range (size b k).toNat).map (letter b k)
noncomputable def here (b k : Int) : Int := if b % 2 = 0 then b / 4 % (size b k + 1) else size b k
noncomputable def four : List Str := [Str.ofString "say", Str.ofString "mark", Str.ofString "by", Str.ofString "house"]
noncomputable def fourL : List (List Nat) := four.map fun s => s.cps.toList
noncomputable def kqx (k : Int) : Nat := (kq[(k % 4).toNat]?).getD 0
noncomputable def rowL (b k : Int) : List Nat := if b % 9 = 4 then (fourL[(k % 4).toNat]?).getD []
  else (tailL b k).take (here b k).toNat ++ [kqx k] ++ (tailL b k).drop (here b k).toNat
noncomputable def row (b k : Int) : Str := ⟨(rowL b k).toArray⟩

theorem size_lt (b k : Int) : 0 ≤ size b k ∧ size b k < 8 := by
  show 0 ≤ turned b k / 26 % 8 ∧ turned b k / 26 % 8 < 8
  exact ⟨md0 (by decide), md1 (by decide)⟩
theorem size_pos (b k : Int) : 0 < size b k + 1 := Int.lt_add_one_of_le (size_lt b k).1
theorem here_le (b k : Int) : 0 ≤ here b k ∧ here b k ≤ size b k := by
  unfold here
  by_cases h : b % 2 = 0
  · rw [if_pos h]; exact ⟨md0 (size_pos b k), Int.le_of_lt_add_one (md1 (size_pos b k))⟩
  · rw [if_neg h]; exact ⟨(size_lt b k).1, Int.le_refl _⟩
theorem tail_len (b k : Int) : (tailL b k).length = (size b k).toNat := by simp [tailL]
theorem letters_len : letters.length = 26 := by decide +kernel
theorem kq_len : kq.length = 4 := by decide +kernel
theorem kq_all : kq.all okC = true := by decide +kernel
theorem four_all : (fourL.all fun l => l.all okC && decide (1 ≤ l.length) && decide (l.length ≤ 8)) = true := by decide +kernel
theorem letters_all : letters.all okC = true := by decide +kernel
theorem letter_okC (b k : Int) (j : Nat) : okC (letter b k j) = true := by
  have h4 : ((turned b k + 5 * (j : Int) * (1 + turned b k % 3)) % 26).toNat < letters.length := by rw [letters_len]; exact mdN (by decide) (by decide)
  unfold letter
  rw [List.getElem?_eq_getElem h4]
  exact List.all_eq_true.mp letters_all _ (List.getElem_mem h4)
theorem tail_all (b k : Int) : (tailL b k).all okC = true := by
  rw [List.all_eq_true]
  intro c hc
  obtain ⟨j, _, rfl⟩ := List.mem_map.mp hc
  exact letter_okC b k j
theorem kqx_ok (k : Int) : okC (kqx k) = true := by
  have h4 : (k % 4).toNat < kq.length := by rw [kq_len]; exact mdN (by decide) (by decide)
  unfold kqx
  rw [List.getElem?_eq_getElem h4]
  exact List.all_eq_true.mp kq_all _ (List.getElem_mem h4)
theorem row_ln {l : List Nat} {n x : Nat} : (l.take n ++ [x] ++ l.drop n).length = l.length + 1 := by
  rw [List.length_append, List.length_append, List.length_singleton, Nat.add_right_comm, ← List.length_append, List.take_append_drop]
theorem rowL_ok (b k : Int) : (rowL b k).all okC = true ∧ 1 ≤ (rowL b k).length ∧ (rowL b k).length ≤ 8 := by
  unfold rowL
  split
  · have h4 : (k % 4).toNat < fourL.length := mdN (k := 4) (by decide) (by decide)
    rw [List.getElem?_eq_getElem h4]
    have := List.all_eq_true.mp four_all _ (List.getElem_mem h4)
    simp only [Bool.and_eq_true, decide_eq_true_eq] at this
    exact ⟨this.1.1, this.1.2, this.2⟩
  · have hs := size_lt b k
    have hh := here_le b k
    have hlen := tail_len b k
    have ta := tail_all b k
    have e : (tailL b k).all okC = (((tailL b k).take (here b k).toNat).all okC && ((tailL b k).drop (here b k).toNat).all okC) := by rw [← List.all_append, List.take_append_drop]
    rw [ta] at e
    obtain ⟨e1, e2⟩ := Bool.and_eq_true_iff.mp e.symm
    refine ⟨?_, ?_, ?_⟩
    · rw [List.all_append, List.all_append, e1, e2]
      show (true && (okC (kqx k) && true) && true) = true
      rw [kqx_ok]; rfl
    · rw [row_ln]; exact Nat.le_add_left _ _
    · rw [row_ln, hlen]
      exact Nat.succ_le_of_lt (toN_lt hs.1 hs.2)
theorem row_isrow (b k : Int) : rowB (.str (row b k)) = true := by
  obtain ⟨h1, h2, h3⟩ := rowL_ok b k
  have e : (row b k).length = (rowL b k).length := by show (rowL b k).toArray.size = _; rw [List.size_toArray]
  show (rowS (row b k) && (rowL b k).toArray.toList.all okC) = true
  unfold rowS
  rw [e, decide_eq_true (show (1 : Int) ≤ (rowL b k).length from Int.ofNat_le.mpr h2), decide_eq_true (show ((rowL b k).length : Int) ≤ 8 from Int.ofNat_le.mpr h3), h1]; rfl
theorem str_app (a b : List Nat) : (⟨a.toArray⟩ : Str) ++ ⟨b.toArray⟩ = ⟨(a ++ b).toArray⟩ := by
  show Str.append _ _ = _
  simp [Str.append]
theorem join_cs : ∀ (cs : List Nat) (acc : List Nat), (cs.map fun c => (⟨#[c]⟩ : Str)).foldl (fun a p => a ++ (Str.ofString "") ++ p) ⟨acc.toArray⟩ = ⟨(acc ++ cs).toArray⟩
  | [], acc => by simp
  | c :: cs, acc => by
    have e0 : Str.ofString "" = ⟨([] : List Nat).toArray⟩ := by decide +kernel
    have e1 : (⟨acc.toArray⟩ : Str) ++ Str.ofString "" ++ ⟨#[c]⟩ = ⟨(acc ++ [c]).toArray⟩ := by
      have e2 := str_app acc []
      rw [List.append_nil] at e2
      rw [e0, e2]; exact str_app acc [c]
    rw [List.map_cons, List.foldl_cons, e1, join_cs cs (acc ++ [c])]; simp
theorem join_all (cs : List Nat) : joinS (Str.ofString "") (cs.map fun c => (⟨#[c]⟩ : Str)) = ⟨cs.toArray⟩ := by
  cases cs with
  | nil => rfl
  | cons c cs => exact join_cs cs [c]
theorem sum_cs : ∀ (cs : List Nat) (k : Nat), (cs.map fun c => (⟨#[c]⟩ : Str)).foldl (fun k x => k + x.length + (Str.ofString "").length) k = k + cs.length
  | [], k => rfl
  | c :: cs, k => by
    have e0 : (Str.ofString "").length = 0 := by decide +kernel
    have e1 : (⟨#[c]⟩ : Str).length = 1 := rfl
    rw [List.map_cons, List.foldl_cons, sum_cs cs, e0, e1, List.length_cons, Nat.add_zero, Nat.add_assoc, Nat.add_comm 1]
theorem isStr_cs : ∀ cs : List Nat, isStrL (cs.map ch) = some (cs.map fun c => (⟨#[c]⟩ : Str))
  | [] => rfl
  | c :: cs => by show (isStrL (cs.map ch)).map _ = _; rw [isStr_cs cs]; rfl
theorem letter_at (b k : Int) (j : Nat) (m : MH) : idxV (.str (Str.ofString "abcdefghijklmnopqrstuvwxyz")) (.int ((turned b k + 5 * (0 + (j : Int)) * (1 + turned b k % 3)) % 26)) m = .ok (ch (letter b k j)) m := by
  have h1 : ((turned b k + 5 * (0 + (j : Int)) * (1 + turned b k % 3)) % 26).natAbs < 2 ^ 60 := md60 (by decide) (by decide)
  have h4 : ((turned b k + 5 * (j : Int) * (1 + turned b k % 3)) % 26).toNat < letters.length := by rw [letters_len]; exact mdN (by decide) (by decide)
  have h2 : at_ letters ((turned b k + 5 * (0 + (j : Int)) * (1 + turned b k % 3)) % 26) = some (letter b k j) := by
    rw [Int.zero_add]; unfold at_ letter; rw [if_pos (md0 (by decide)), List.getElem?_eq_getElem h4]; rfl
  show (if _ then ofO ((at_ letters _).map fun c => V.str ⟨#[c]⟩) m else .bad) = _
  rw [if_pos h1, h2]; rfl
theorem one_mod {x : Int} : (1 + x % 3).natAbs < 1073741824 := by omega
/-- the joined text of one-sign texts -/
theorem w_join {m : MH} {p : Nat} {cs : List Nat} {Q : V → MH → Prop} {E : Nat → MH → Prop} (h : m[p]? = some (.list (cs.map ch))) (hl : cs.length ≤ lid) (q : Q (.str ⟨cs.toArray⟩) m) : Wp (smethV 2 (.str (Str.ofString "")) .join [.ref p]) m Q E := by
  refine wp_eq (m' := m) ?_ q
  show (match m[p]? with | some (.list xs) => (match isStrL xs with | some l => if sumLen (Str.ofString "") l ≤ lid then Res.ok (V.str (joinS (Str.ofString "") l)) m else .bad | Option.none => .bad) | _ => .bad) = _
  rw [h]; dsimp only; rw [isStr_cs]; dsimp only
  rw [if_pos (by unfold sumLen; rw [sum_cs, Nat.zero_add]; exact hl), join_all]
theorem q_slice {S : Sig} {F : Fns} {r : Lo} {m : MH} {a lo hi st : CE} {x l h t v : V} (ha : ev S F a r m = .ok x m) (hl : ev S F lo r m = .ok l m) (hh : ev S F hi r m = .ok h m) (ht : ev S F st r m = .ok t m) (e : sliceV x l h t m = .ok v m) : ev S F (.slice a lo hi st) r m = .ok v m := by
  show Res.bind (ev S F a r m) _ = _
  rw [ha]
  show Res.bind (ev S F lo r m) _ = _
  rw [hl]
  show Res.bind (ev S F hi r m) _ = _
  rw [hh]
  show Res.bind (ev S F st r m) _ = _
  rw [ht]; exact e
theorem srcR1 {n : Int} {m : MH} (h : n.natAbs < 2 ^ 30) : srcV .range [.int n] m = .ok ((List.range n.toNat).map fun (j : Nat) => V.int (0 + (j : Int)), .none) m := by
  have er : rangeV [.int n] = some ((List.range (n - 0).toNat).map fun (j : Nat) => V.int (0 + (j : Int))) := by
    show (if n.natAbs < 2 ^ 30 then some (rangeL 0 n) else none) = _
    rw [if_pos h]; rfl
  rw [Int.sub_zero] at er
  show (match rangeV [.int n] with | some l => ret (l, Gd.none) | none => bad) m = _
  rw [er]; rfl
noncomputable def b_row : List CS := [
  .asg (.one (.one 2)) (.cnst (.str (Str.ofString "abcdefghijklmnopqrstuvwxyz"))),
  .asg (.one (.one 3)) (.bin .Add (.var 0) (.bin .Mult (.bin .Mult (.cnst (.int 31)) (.var 1)) (.bin .Mod (.var 0) (.cnst (.int 2))))),
  .asg (.one (.one 4)) (.bin .Mod (.bin .FloorDiv (.var 3) (.cnst (.int 26))) (.cnst (.int 8))),
  .asg (.one (.one 5)) (.smeth (.cnst (.str (Str.ofString ""))) .join [.comp (.idx (.var 2) (.bin .Mod (.bin .Add (.var 3) (.bin .Mult (.bin .Mult (.cnst (.int 5)) (.var 7)) (.bin .Add (.cnst (.int 1)) (.bin .Mod (.var 3) (.cnst (.int 3)))))) (.cnst (.int 26)))) (.one 7) 1 .range [.var 4] []]),
  .asg (.one (.one 6)) (.var 4),
  .ite (.val (.cmp (.bin .Mod (.var 0) (.cnst (.int 2))) [.Eq] [.cnst (.int 0)])) [
    .asg (.one (.one 6)) (.bin .Mod (.bin .FloorDiv (.var 0) (.cnst (.int 4))) (.bin .Add (.var 4) (.cnst (.int 1))))] [],
  .ite (.val (.cmp (.bin .Mod (.var 0) (.cnst (.int 9))) [.Eq] [.cnst (.int 4)])) [
    .ret (.idx (.list [.cnst (.str (Str.ofString "say")), .cnst (.str (Str.ofString "mark")), .cnst (.str (Str.ofString "by")), .cnst (.str (Str.ofString "house"))]) (.bin .Mod (.var 1) (.cnst (.int 4))))] [],
  .ret (.bin .Add (.bin .Add (.slice (.var 5) (.cnst .none) (.var 6) (.cnst .none)) (.idx (.cnst (.str (Str.ofString "kqxz"))) (.bin .Mod (.var 1) (.cnst (.int 4))))) (.slice (.var 5) (.var 6) (.cnst .none) (.cnst .none)))]
theorem row_ok {S : Sig} {kf : Nat} (h : FnIs S kf 2 7 b_row) (n : Nat) (b k : Int) (m : MH) : Wp (run S (n + 1) kf [.int b, .int k]) m (fun v m' => v = .str (row b k) ∧ Le m m') nox := by
  have hs := size_lt b k
  have hh := here_le b k
  have hlen := tail_len b k
  have hl7 : (tailL b k).length ≤ 7 := by rw [hlen]; exact Nat.le_of_lt_succ (toN_lt hs.1 hs.2)
  have hlid : (tailL b k).length ≤ lid := small_lid hl7 (by decide)
  refine wp_fn h rfl ?_
  refine s_asg (wp_rfl rfl ?_)
  refine s_asg (wp_eq (a := .int (turned b k)) (m' := m) (q_bin rfl (q_bin (q_bin rfl rfl rfl) (q_bin rfl rfl rfl) (mul_eq (Or.inr (md30 (by decide) (by decide))))) rfl) ?_)
  refine s_asg (wp_eq (a := .int (size b k)) (m' := m) (q_bin (q_bin rfl rfl rfl) rfl rfl) ?_)
  refine s_asg (pe_smeth (wp_rfl rfl ⟨2, rfl, rfl, pes_cons (pe_map (List.range (size b k).toNat) (fun (j : Nat) => V.int (0 + (j : Int))) (fun j => ch (letter b k j)) (fun m' => m' = m) (wp_rfl rfl (wp_eq (srcR1 (abs_lt (c := 2 ^ 30) hs.1 hs.2 (by decide))) ⟨rfl, rfl, fun _ _ => rfl, ?_, by rw [List.length_range, ← hlen]; exact hlid, ?_⟩)))⟩))
  · rintro j _ m' rfl
    exact wp_rfl rfl (wp_eq (q_idx rfl (q_bin (q_bin rfl (q_bin (q_bin rfl rfl rfl) (q_bin rfl (q_bin rfl rfl rfl) rfl) (mul_eq (Or.inr one_mod))) rfl) rfl rfl) (letter_at b k j m')) ⟨rfl, rfl⟩)
  intro p m0 m2 em l2 kp _
  rw [em] at l2
  have el : (List.range (size b k).toNat).map (fun j => ch (letter b k j)) = (tailL b k).map ch := by
    unfold tailL; rw [List.map_map]; rfl
  rw [el] at kp
  refine wp_rfl rfl (w_join kp hlid ?_)
  refine s_asg (wp_rfl rfl ?_)
  have fin : ∀ a : Int, a = here b k → Wp (exs S (run S n) (b_row.drop 6) [some (.int b), some (.int k), some (.str (Str.ofString "abcdefghijklmnopqrstuvwxyz")), some (.int (turned b k)), some (.int (size b k)), some (.str ⟨(tailL b k).toArray⟩), some (.int a)]) m2 (fun p m' => match p.1 with | .ret v => v = .str (row b k) ∧ Le m m' | .next => V.none = .str (row b k) ∧ Le m m' | .cont => False) nox := by
    rintro _ rfl
    refine q_ite (t := b % 9 == 4) (q_val (q_cmp1 (q_bin rfl rfl rfl) rfl rfl)) ?_
    have ek : k % 4 = ((k % 4).toNat : Int) := md_cast (by decide)
    cases h9 : b % 9 == 4 with
    | true =>
      have h9' : b % 9 = 4 := eq_of_beq h9
      have h4 : (k % 4).toNat < four.length := mdN (k := 4) (by decide) (by decide)
      refine s_ret (pe_idx (pe_list (wp_rfl rfl (wp_alloc fun q m3 l3 k3 _ => wp_rfl rfl ?_))))
      refine w_idxl (v := .str (row b k)) (xs := four.map V.str) k3 ?_ (md60 (by decide) (by decide)) ⟨rfl, l2.trans l3⟩
      rw [ek]; unfold at_; rw [if_pos (Int.natCast_nonneg _), Int.toNat_natCast, List.getElem?_map, List.getElem?_eq_getElem h4]
      unfold row rowL; rw [if_pos h9']
      unfold fourL
      rw [List.getElem?_map, List.getElem?_eq_getElem h4]
      show some (V.str _) = some (V.str ⟨(four[(k % 4).toNat]).cps.toList.toArray⟩)
      rw [Array.toArray_toList]
    | false =>
      have h9' : ¬ b % 9 = 4 := fun q => by rw [q] at h9; exact absurd h9 (by decide)
      have h4 : (k % 4).toNat < kq.length := by rw [kq_len]; exact mdN (by decide) (by decide)
      have l1 : ((tailL b k).take (here b k).toNat).length ≤ 7 := by rw [List.length_take]; exact Nat.le_trans (Nat.min_le_right _ _) hl7
      have l2' : ((tailL b k).drop (here b k).toNat).length ≤ 7 := by rw [List.length_drop]; exact Nat.le_trans (Nat.sub_le _ _) hl7
      have hb2 : bound (.int (here b k)) = some (some (here b k)) := by show (if (here b k).natAbs < 2 ^ 60 then _ else _) = _; rw [if_pos (abs60 hh.1 (Int.lt_of_le_of_lt hh.2 hs.2) (by decide))]
      have hcl : clampU (tailL b k).length (here b k) = (here b k).toNat := by unfold clampU; rw [if_pos hh.1, Nat.min_eq_left (by rw [hlen]; exact toN_le hh.2)]
      have sl1 : sliceL (tailL b k) .none (.int (here b k)) .none = some ((tailL b k).take (here b k).toNat) := by
        unfold sliceL; dsimp only; rw [hb2]
        show some (((tailL b k).take (clampU (tailL b k).length (here b k))).drop 0) = _
        rw [hcl, List.drop_zero]
      have sl2 : sliceL (tailL b k) (.int (here b k)) .none .none = some ((tailL b k).drop (here b k).toNat) := by
        unfold sliceL; dsimp only; rw [hb2]
        show some (((tailL b k).take (tailL b k).length).drop (clampU (tailL b k).length (here b k))) = _
        rw [hcl, List.take_length]
      have s1 : sliceV (.str ⟨(tailL b k).toArray⟩) .none (.int (here b k)) .none m2 = .ok (.str ⟨((tailL b k).take (here b k).toNat).toArray⟩) m2 := by
        show (if (tailL b k).length ≤ lid then ofO ((sliceL (tailL b k) .none (.int (here b k)) .none).map fun l => V.str ⟨l.toArray⟩) m2 else .bad) = _
        rw [if_pos hlid, sl1]; rfl
      have s2 : sliceV (.str ⟨(tailL b k).toArray⟩) (.int (here b k)) .none .none m2 = .ok (.str ⟨((tailL b k).drop (here b k).toNat).toArray⟩) m2 := by
        show (if (tailL b k).length ≤ lid then ofO ((sliceL (tailL b k) (.int (here b k)) .none .none).map fun l => V.str ⟨l.toArray⟩) m2 else .bad) = _
        rw [if_pos hlid, sl2]; rfl
      have e4 : idxV (.str (Str.ofString "kqxz")) (.int (k % 4)) m2 = .ok (.str ⟨#[kqx k]⟩) m2 := by
        have : at_ kq (k % 4) = some (kqx k) := by
          unfold at_ kqx; rw [if_pos (md0 (by decide)), List.getElem?_eq_getElem h4]; rfl
        show (if (k % 4).natAbs < 2 ^ 60 then ofO ((at_ kq (k % 4)).map fun c => V.str ⟨#[c]⟩) m2 else .bad) = _
        rw [if_pos (md60 (by decide) (by decide)), this]; rfl
      have er : row b k = ⟨((tailL b k).take (here b k).toNat).toArray⟩ ++ ⟨#[kqx k]⟩ ++ ⟨((tailL b k).drop (here b k).toNat).toArray⟩ := by
        have e1 : ((⟨((tailL b k).take (here b k).toNat).toArray⟩ : Str) ++ ⟨#[kqx k]⟩) = ⟨((tailL b k).take (here b k).toNat ++ [kqx k]).toArray⟩ := str_app _ [_]
        rw [e1, str_app]
        unfold row rowL; rw [if_neg h9']
      have adds : ∀ x y : Str, x.length + y.length ≤ lid → binV .Add (.str x) (.str y) m2 = .ok (.str (x ++ y)) m2 := fun x y h => if_pos h
      rw [er]
      refine s_ret (wp_eq (q_bin (q_bin (q_slice rfl rfl rfl rfl s1) (q_idx rfl (q_bin rfl rfl rfl) e4) (adds _ _ ?_)) (q_slice rfl rfl rfl rfl s2) (adds _ _ ?_)) ⟨rfl, l2⟩)
      · show (List.toArray _).size + 1 ≤ lid
        rw [List.size_toArray]; exact small_lid (Nat.succ_le_succ l1) (by decide)
      · have : ((⟨((tailL b k).take (here b k).toNat).toArray⟩ : Str) ++ ⟨#[kqx k]⟩).length ≤ 8 := by
          refine Nat.le_trans (Nat.le_of_eq (congrArg Str.length (str_app _ [_]))) ?_
          show (List.toArray _).size ≤ 8
          rw [List.size_toArray, List.length_append, List.length_singleton]; exact Nat.succ_le_succ l1
        show Str.length _ + (List.toArray _).size ≤ lid
        rw [List.size_toArray]; exact small_lid (Nat.add_le_add this l2') (by decide)
  refine q_ite (t := b % 2 == 0) (q_val (q_cmp1 (q_bin rfl rfl rfl) rfl rfl)) ?_
  cases h2 : b % 2 == 0 with
  | true =>
    have h2' : b % 2 = 0 := eq_of_beq h2
    refine s_asg (wp_eq (a := .int (b / 4 % (size b k + 1))) (m' := m2) (q_bin (q_bin rfl rfl rfl) rfl (mod_eq (size_pos b k))) (fin _ ?_))
    unfold here; rw [if_pos h2']
  | false =>
    have h2' : ¬ b % 2 = 0 := fun q => by rw [q] at h2; exact absurd h2 (by decide)
    refine fin _ ?_
    unfold here; rw [if_neg h2']
end Mini

/-! Words. -/
namespace Mini
open PySem
noncomputable def sayS : Str := Str.ofString "say"
noncomputable def markS : Str := Str.ofString "mark"
noncomputable def num (lo hi : Int) : V → Bool | .int i => decide (lo ≤ i) && decide (i ≤ hi) | _ => false
noncomputable def isW4 (c : Int) (a b d : V) : Bool := match a, b, d with
  | .str s, .int i, .int h => s == markS || (s == sayS && (i - h) % c == 0)
  | _, _, _ => false
noncomputable def isW (c : Int) : V → Bool
  | .tup [a, b, r, d] => vS a && (num 0 9999 b && (rowB r && (num 0 (c - 1) d && isW4 c a b d)))
  | _ => false
/-- a thing whose parts are plain -/
structure Th (m : MH) (v : V) : Prop where
  pl : Pl m v
  sub : ∀ xs, v = .tup xs → ∀ x ∈ xs, Pl m x
section
variable {S : Sig} {m : MH}
noncomputable def b_among : List CS := [.ret (.boolop true [.isi (.var 0) .int, .not (.isi (.var 0) .bool), .cmp (.var 1) [.LtE, .LtE] [.var 0, .var 2]])]
theorem among_ok {k : Nat} (h : FnIs S k 3 3 b_among) (n : Nat) {v : V} (lo hi : Int) (hv : Pl m v) : run S (n + 1) k [v, .int lo, .int hi] m = .ok (.bool (num lo hi v)) m := by
  refine wp_eqn (wp_fn h rfl (s_ret ?_))
  have e1 : ev S (run S n) (.isi (.var 0) .int) [some v, some (.int lo), some (.int hi)] m = .ok (.bool (vI v)) m := q_isi rfl (isi_int hv)
  have e2 : ev S (run S n) (.not (.isi (.var 0) .bool)) [some v, some (.int lo), some (.int hi)] m = .ok (.bool (!vB v)) m := q_notE (q_isi rfl (isi_bool hv))
  have no1 : vI v = false → num lo hi v = false → Wp (ev S (run S n) (.boolop true [.isi (.var 0) .int, .not (.isi (.var 0) .bool), .cmp (.var 1) [.LtE, .LtE] [.var 0, .var 2]]) [some v, some (.int lo), some (.int hi)]) m (fun u m' => u = .bool (num lo hi v) ∧ m' = m) nox := fun h1 h2 => by
    refine and_go (wp_eq e1 (wp_rfl rfl ?_))
    rw [h1, h2]
    exact bif_f ⟨rfl, rfl⟩
  cases hv with
  | int i => exact wp_eq (q_and rfl (q_and rfl (q_one (q_cmp2 rfl rfl rfl rfl rfl)))) ⟨rfl, rfl⟩
  | bool b => exact wp_rfl rfl ⟨rfl, rfl⟩
  | _ => exact no1 rfl rfl
noncomputable def b_caller : List CS := [.ret (.bin .Mod (.var 1) (.var 0))]
theorem caller_ok {k : Nat} (h : FnIs S k 2 2 b_caller) (n : Nat) (c i : Int) (hc : 0 < c) : run S (n + 1) k [.int c, .int i] m = .ok (.int (i % c)) m :=
  wp_eqn (wp_fn h rfl (s_ret (wp_eq (q_bin rfl rfl (mod_eq hc)) ⟨rfl, rfl⟩)))
/-- the first look at a word -/
noncomputable def look1 : CB := .all false [.not (.val (.isi (.var 1) .tuple)), .val (.cmp (.bi .len [.var 1]) [.NotEq] [.cnst (.int 4)]), .not (.val (.isi (.idx (.var 1) (.cnst (.int 0))) .str))]
noncomputable def four4 : V → Bool | .tup [a, _, _, _] => vS a | _ => false
theorem look1_ok {F : Fns} {v c : V} {r : Lo} (hv : Th m v) : evT S F look1 (some c :: some v :: r) m = .ok (!four4 v) m := by
  have no : vT v = false → four4 v = false → evT S F look1 (some c :: some v :: r) m = .ok (!four4 v) m := fun h1 h2 => by
    rw [h2]
    refine q_all (short ?_)
    rw [q_not (q_val (q_isi rfl (isi_tup hv.pl))), h1]; rfl
  obtain ⟨hp, hs⟩ := hv
  cases hp with
  | tup xs hx =>
    have hl : ev S F (.bi .len [.var 1]) (some c :: some (V.tup xs) :: r) m = .ok (.int xs.length) m := q_lenT rfl (by unfold lid; omega)
    have hh : xs.length ≠ 4 → evT S F look1 (some c :: some (V.tup xs) :: r) m = .ok true m := fun h => by
      refine q_all ((q_ors (q_not (q_val (q_isi rfl (isi_tup (.tup xs hx))))) (short (q_val (q_cmp1 hl rfl (t := true) ?_)))))
      show Res.ok (!(((xs.length : Int)) == 4)) m = _
      rw [show (((xs.length : Int)) == 4) = false from beq_false_of_ne (by omega)]; rfl
    match xs, hx, hs, hl, hh with
    | [], hx, _, _, hh => exact hh (by decide)
    | [_], hx, _, _, hh => exact hh (by simp)
    | [_, _], hx, _, _, hh => exact hh (by simp)
    | [_, _, _], hx, _, _, hh => exact hh (by simp)
    | _ :: _ :: _ :: _ :: _ :: _, hx, _, _, hh => exact hh (by simp)
    | [a, b, d, e], hx, hs, hl, _ =>
      have ha : Pl m a := hs _ rfl a (by simp)
      exact q_all ((q_ors (q_not (q_val (q_isi rfl (isi_tup (.tup _ hx))))) (q_ors (q_val (q_cmp1 hl rfl rfl)) (q_ors (q_not (q_val (q_isi rfl (isi_str ha)))) q_end))).trans (by rw [Bool.or_false]; rfl))
  | none => exact no rfl rfl
  | bool b => exact no rfl rfl
  | int i => exact no rfl rfl
  | str s h => exact no rfl rfl
  | list p xs hp => exact no rfl rfl
  | dict p kvs e hp => exact no rfl rfl
theorem isW_four {c : Int} {v : V} (h : four4 v = false) : isW c v = false := by
  unfold isW
  split
  · rename_i a b r d
    rw [show vS a = false from h]; rfl
  · rfl
theorem four_is {v : V} (h : four4 v = true) : ∃ s b r d, v = .tup [.str s, b, r, d] := by
  unfold four4 at h
  split at h
  · rename_i a b r d
    cases a with
    | str s => exact ⟨s, b, r, d, rfl⟩
    | _ => cases h
  · cases h
theorem num_is {lo hi : Int} {v : V} (h : num lo hi v = true) : ∃ i, v = .int i ∧ lo ≤ i ∧ i ≤ hi := by
  unfold num at h
  split at h
  · rename_i i
    obtain ⟨h1, h2⟩ := Bool.and_eq_true_iff.mp h
    exact ⟨i, rfl, of_decide_eq_true h1, of_decide_eq_true h2⟩
  · cases h
theorem vW_is {v : V} (h : vW v = true) : ∃ i, v = .int i := by
  cases v with
  | int i => exact ⟨i, rfl⟩
  | _ => cases h
theorem num_W {lo hi : Int} {v : V} (h : vW v = false) : num lo hi v = false := by
  cases v with
  | int i => cases h
  | _ => rfl
noncomputable def b_is_word (kN kW kR kC gM : Nat) : List CS := [
  .exp (.call kN [.var 0]),
  .ite look1 [.ret (.cnst (.bool false))] [],
  .ite (.all false [.not (.val (.call kW [.idx (.var 1) (.cnst (.int 1))])), .not (.val (.cmp (.cnst (.int 0)) [.LtE, .LtE] [.idx (.var 1) (.cnst (.int 1)), .glob gM])), .not (.val (.call kR [.idx (.var 1) (.cnst (.int 2))]))]) [.ret (.cnst (.bool false))] [],
  .ite (.all false [.not (.val (.call kW [.idx (.var 1) (.cnst (.int 3))])), .not (.val (.cmp (.cnst (.int 0)) [.LtE, .Lt] [.idx (.var 1) (.cnst (.int 3)), .var 0]))]) [.ret (.cnst (.bool false))] [],
  .ite (.val (.cmp (.idx (.var 1) (.cnst (.int 0))) [.Eq] [.cnst (.str (Str.ofString "say"))])) [
    .ret (.cmp (.idx (.var 1) (.cnst (.int 3))) [.Eq] [.call kC [.var 0, .idx (.var 1) (.cnst (.int 1))]])] [],
  .ret (.cmp (.idx (.var 1) (.cnst (.int 0))) [.Eq] [.cnst (.str (Str.ofString "mark"))])]
theorem mod_same {c i h : Int} (hc : 0 < c) (h0 : 0 ≤ h) (h1 : h < c) : (h == i % c) = ((i - h) % c == 0) := by
  rw [Bool.eq_iff_iff, beq_iff_eq, beq_iff_eq]
  constructor
  · rintro rfl
    rw [← Int.emod_emod_of_dvd _ (Int.dvd_refl c)]
    have := Int.emod_emod_of_dvd i (Int.dvd_refl c)
    rw [Int.sub_emod, this, Int.sub_self, Int.zero_emod]; rfl
  · intro q
    have e := Int.emod_add_mul_ediv (i - h) c
    have e2 : i = h + c * ((i - h) / c) := by omega
    rw [e2, Int.add_mul_emod_self_left, Int.emod_eq_of_lt h0 h1]
theorem is_word_ok {k kN kW kR kC gN gM gL gS cB : Nat} {n1 n2 n3 n4 : Str} (h : FnIs S k 2 2 (b_is_word kN kW kR kC gM)) (hN : FnIs S kN 1 1 (b_need kW gN cB)) (hW : FnIs S kW 1 1 b_whole) (hR : FnIs S kR 1 2 (b_is_row gL gS)) (hC : FnIs S kC 2 2 b_caller)
    (gn : S.globs[gN]? = some (n1, .int 12)) (gm : S.globs[gM]? = some (n2, .int 9999)) (gl : S.globs[gL]? = some (n3, .str letterS)) (gs : S.globs[gS]? = some (n4, .int 8)) (n : Nat) {c : Int} {v : V} (h1 : 1 ≤ c) (h2 : c ≤ 12) (hv : Th m v) :
    run S (n + 3) k [.int c, v] m = .ok (.bool (isW c v)) m := by
  refine wp_eqn (wp_fn h rfl (s_exp (pe_call (wp_rfl rfl (wp_eq (a := .none) (m' := m) ?_ ?_)))))
  · rw [need_ok hN hW gn n (.int c)]
    show (if (decide (1 ≤ c) && decide (c ≤ 12)) = true then _ else _) = _
    rw [decide_eq_true h1, decide_eq_true h2]; rfl
  refine q_ite (look1_ok (r := []) hv) ?_
  cases h4 : four4 v with
  | false => exact s_ret (wp_rfl rfl ⟨by rw [isW_four h4]; rfl, rfl⟩)
  | true =>
    obtain ⟨s, b, r, d, rfl⟩ := four_is h4
    have hb : Pl m b := hv.sub _ rfl b (by simp)
    have hr : Pl m r := hv.sub _ rfl r (by simp)
    have hd : Pl m d := hv.sub _ rfl d (by simp)
    have eW : isW c (.tup [.str s, b, r, d]) = (num 0 9999 b && (rowB r && (num 0 (c - 1) d && isW4 c (.str s) b d))) := rfl
    have e2 : evT S (run S (n + 2)) (.all false [.not (.val (.call kW [.idx (.var 1) (.cnst (.int 1))])), .not (.val (.cmp (.cnst (.int 0)) [.LtE, .LtE] [.idx (.var 1) (.cnst (.int 1)), .glob gM])), .not (.val (.call kR [.idx (.var 1) (.cnst (.int 2))]))]) [some (.int c), some (.tup [.str s, b, r, d])] m = .ok (!(num 0 9999 b && rowB r)) m := by
      have ew : evT S (run S (n + 2)) (.not (.val (.call kW [.idx (.var 1) (.cnst (.int 1))]))) [some (.int c), some (.tup [.str s, b, r, d])] m = .ok (!vW b) m := q_not (q_val (q_call1 rfl (whole_ok hW _ hb)))
      cases hw : vW b with
      | false => rw [num_W hw]; exact q_all (short (by rw [ew, hw]; rfl))
      | true =>
        obtain ⟨i, rfl⟩ := vW_is hw
        refine q_all ((q_ors ew (q_ors (q_not (q_val (q_cmp2 rfl rfl (q_glob gm) rfl rfl))) (q_ors (q_not (q_val (q_call1 rfl (is_row_ok hR gl gs _ hr)))) q_end))).trans ?_)
        show Res.ok (!true || (!(decide (0 ≤ i) && decide (i ≤ 9999)) || (!rowB r || false))) m = _
        rw [Bool.or_false, ← Bool.not_and]; rfl
    refine q_ite e2 ?_
    cases hnr : (num 0 9999 b && rowB r) with
    | false =>
      refine s_ret (wp_rfl rfl ⟨?_, rfl⟩)
      rw [eW, ← Bool.and_assoc, hnr]; rfl
    | true =>
      obtain ⟨hnb, hrr⟩ := Bool.and_eq_true_iff.mp hnr
      obtain ⟨i, rfl, hi0, hi9⟩ := num_is hnb
      have e3 : evT S (run S (n + 2)) (.all false [.not (.val (.call kW [.idx (.var 1) (.cnst (.int 3))])), .not (.val (.cmp (.cnst (.int 0)) [.LtE, .Lt] [.idx (.var 1) (.cnst (.int 3)), .var 0]))]) [some (.int c), some (.tup [.str s, .int i, r, d])] m = .ok (!num 0 (c - 1) d) m := by
        have ew : evT S (run S (n + 2)) (.not (.val (.call kW [.idx (.var 1) (.cnst (.int 3))]))) [some (.int c), some (.tup [.str s, .int i, r, d])] m = .ok (!vW d) m := q_not (q_val (q_call1 rfl (whole_ok hW _ hd)))
        cases hw : vW d with
        | false => rw [num_W hw]; exact q_all (short (by rw [ew, hw]; rfl))
        | true =>
          obtain ⟨h, rfl⟩ := vW_is hw
          refine q_all ((q_ors ew (q_ors (q_not (q_val (q_cmp2 rfl rfl rfl rfl rfl))) q_end)).trans ?_)
          show Res.ok (!true || (!(decide (0 ≤ h) && decide (h < c)) || false)) m = .ok (!(decide (0 ≤ h) && decide (h ≤ c - 1))) m
          rw [Bool.or_false, show decide (h < c) = decide (h ≤ c - 1) from by rw [decide_eq_decide]; omega]; rfl
      refine q_ite e3 ?_
      cases hnd : num 0 (c - 1) d with
      | false =>
        refine s_ret (wp_rfl rfl ⟨?_, rfl⟩)
        rw [eW, hnd, hnb, hrr]; rfl
      | true =>
        obtain ⟨h, rfl, hh0, hh1⟩ := num_is hnd
        refine q_ite (t := s == sayS) (q_val (q_cmp1 rfl rfl rfl)) ?_
        rw [eW, hnd, hnb, hrr]
        cases hs : s == sayS with
        | true =>
          refine s_ret (wp_eq (q_cmp1 rfl (q_callL rfl (caller_ok hC _ c i (by omega))) rfl) ⟨?_, rfl⟩)
          show V.bool (h == i % c) = .bool (s == markS || (s == sayS && (i - h) % c == 0))
          rw [hs, eq_of_beq hs, show (sayS == markS) = false by decide +kernel, mod_same (by omega) hh0 (by omega)]; rfl
        | false =>
          refine s_ret (wp_eq (q_cmp1 rfl rfl rfl) ⟨?_, rfl⟩)
          show V.bool (s == markS) = .bool (s == markS || (s == sayS && (i - h) % c == 0))
          rw [hs, Bool.false_and, Bool.or_false]
noncomputable def b_lword (kA kR : Nat) : List CS := [
  .ite look1 [.ret (.cnst (.bool false))] [],
  .ite (.all false [.not (.val (.call kA [.idx (.var 1) (.cnst (.int 1)), .cnst (.int 0), .cnst (.int 9999)])), .not (.val (.call kR [.idx (.var 1) (.cnst (.int 2))])), .not (.val (.call kA [.idx (.var 1) (.cnst (.int 3)), .cnst (.int 0), .bin .Sub (.var 0) (.cnst (.int 1))]))]) [.ret (.cnst (.bool false))] [],
  .ret (.boolop false [.cmp (.idx (.var 1) (.cnst (.int 0))) [.Eq] [.cnst (.str (Str.ofString "mark"))], .boolop true [.cmp (.idx (.var 1) (.cnst (.int 0))) [.Eq] [.cnst (.str (Str.ofString "say"))], .cmp (.bin .Mod (.bin .Sub (.idx (.var 1) (.cnst (.int 1))) (.idx (.var 1) (.cnst (.int 3)))) (.var 0)) [.Eq] [.cnst (.int 0)]]])]
theorem lword_ok {k kA kR : Nat} (h : FnIs S k 2 2 (b_lword kA kR)) (hA : FnIs S kA 3 3 b_among) (hR : FnIs S kR 1 1 b_lrow) (n : Nat) {c : Int} {v : V} (h1 : 1 ≤ c) (hv : Th m v) : Wp (run S (n + 2) k [.int c, v]) m (fun u m' => u = .bool (isW c v) ∧ Le m m') nox := by
  refine wp_fn h rfl (q_ite (look1_ok (r := []) hv) ?_)
  cases h4 : four4 v with
  | false => exact s_ret (wp_rfl rfl ⟨by rw [isW_four h4]; rfl, .refl _⟩)
  | true =>
    obtain ⟨s, b, r, d, rfl⟩ := four_is h4
    have hb : Pl m b := hv.sub _ rfl b (by simp)
    have hr : Pl m r := hv.sub _ rfl r (by simp)
    have hd : Pl m d := hv.sub _ rfl d (by simp)
    have eW : isW c (.tup [.str s, b, r, d]) = (num 0 9999 b && (rowB r && (num 0 (c - 1) d && isW4 c (.str s) b d))) := rfl
    refine s_ite (pt_all (pts_cons (wp_eq (q_not (q_val (q_callL rfl (among_ok hA n 0 9999 hb)))) ?_)))
    cases hnb : num 0 9999 b with
    | false =>
        refine bif_f (s_ret (wp_rfl rfl ⟨?_, .refl _⟩))
        rw [eW, hnb]; rfl
    | true =>
      obtain ⟨i, rfl, hi0, hi9⟩ := num_is hnb
      refine bif_t (pts_cons (pt_not (pt_val (pe_call (wp_rfl rfl (wp_mono (lrow_ok hR n hr) (fun u m' q => ?_) fun _ _ q => q))))))
      obtain ⟨rfl, l1⟩ := q
      refine wp_rfl rfl ?_
      cases hrr : rowB r with
      | false =>
        refine bif_f (s_ret (wp_rfl rfl ⟨?_, l1⟩))
        rw [eW, hnb, hrr]; rfl
      | true =>
        refine bif_t (pts_cons (wp_eq (q_not (q_val (q_callL rfl (among_ok hA n 0 (c - 1) (hd.le l1))))) ?_))
        cases hnd : num 0 (c - 1) d with
        | false =>
        refine bif_f (s_ret (wp_rfl rfl ⟨?_, l1⟩))
        rw [eW, hnb, hrr, hnd]; rfl
        | true =>
          obtain ⟨h, rfl, hh0, hh1⟩ := num_is hnd
          refine s_ret (wp_eq (q_or (x := s == markS) (q_cmp1 rfl rfl rfl) (q_one (q_and (x := s == sayS) (y := (i - h) % c == 0) (q_cmp1 rfl rfl rfl) (q_one (q_cmp1 (q_bin rfl rfl (mod_eq (by omega))) rfl rfl))))) ⟨?_, l1⟩)
          rw [eW, hnb, hrr, hnd]; rfl
end
end Mini

/-! The kind of an error. -/
namespace Mini
open PySem
noncomputable def b_kind : List CS := [
  (.asg (.one (.one 1)) (.list [(.cnst (Lt.str (Str.ofString "count"))), (.cnst (Lt.str (Str.ofString "house"))), (.cnst (Lt.str (Str.ofString "row"))), (.cnst (Lt.str (Str.ofString "word"))), (.cnst (Lt.str (Str.ofString "forged"))), (.cnst (Lt.str (Str.ofString "letter"))), (.cnst (Lt.str (Str.ofString "written"))), (.cnst (Lt.str (Str.ofString "text")))])),
  (.asg (.one (.one 2)) (.list [(.isi (.var 0) (.cls 2)), (.isi (.var 0) (.cls 3)), (.isi (.var 0) (.cls 4))])),
  (.asg (.one (.one 2)) (.bin .Add (.var 2) (.list [(.isi (.var 0) (.cls 5)), (.isi (.var 0) (.cls 6)), (.isi (.var 0) (.cls 7))]))),
  (.asg (.one (.one 2)) (.bin .Add (.var 2) (.list [(.isi (.var 0) (.cls 8)), (.isi (.var 0) (.cls 9))]))),
  (.ite (.all false [(.val (.cmp (.smeth (.var 2) .count [(.cnst (Lt.bool true))]) [.NotEq] [(.cnst (Lt.int 1))])), (.not (.val (.isi (.var 0) (.cls 0))))]) [
    (.ret (.tup [(.cnst (Lt.str (Str.ofString "other")))]))] []),
  (.ret (.tup [(.idx (.var 1) (.smeth (.var 2) .index [(.cnst (Lt.bool true))]))]))]
noncomputable def kwords : List Str := [Str.ofString "count", Str.ofString "house", Str.ofString "row", Str.ofString "word", Str.ofString "forged", Str.ofString "letter", Str.ofString "written", Str.ofString "text"]
/-- the kind of an error, by its classes -/
theorem kind_ok {S : Sig} {k : Nat} (h : FnIs S k 1 3 b_kind) (n : Nat) (d : Nat) (f : Nat → Bool) (w : Str) (m : MH) (hf : ∀ c m, isiV S (.exc d) (.cls c) m = .ok (f c) m) (h0 : f 0 = true) (hc : [f 2, f 3, f 4, f 5, f 6, f 7, f 8, f 9].count true = 1) (hw : kwords[[f 2, f 3, f 4, f 5, f 6, f 7, f 8, f 9].idxOf true]? = some w) (hin : [f 2, f 3, f 4, f 5, f 6, f 7, f 8, f 9].contains true = true) :
    Wp (run S (n + 1) k [.exc d]) m (fun v m' => v = .tup [.str w] ∧ Le m m') nox := by
  refine wp_fn h rfl ?_
  have ei : ∀ c r m, r[0]? = some (some (.exc d)) → ev S (run S n) (.isi (.var 0) (.cls c)) r m = .ok (.bool (f c)) m := by
    intro c r m hr
    have : ev S (run S n) (.var 0) r m = .ok (.exc d) m := by
      show (match r[0]? with | some (some v) => ret v | _ => bad) m = _
      rw [hr]; rfl
    show Res.bind (ev S (run S n) (.var 0) r m) _ = _
    rw [this]
    show Res.bind (isiV S (.exc d) (.cls c) m) _ = _
    rw [hf]; rfl
  have el : ∀ a b c r m, r[0]? = some (some (.exc d)) → evs S (run S n) [.isi (.var 0) (.cls a), .isi (.var 0) (.cls b), .isi (.var 0) (.cls c)] r m = .ok ([f a, f b, f c].map .bool) m := by
    intro a b c r m hr
    show Res.bind (ev S (run S n) (.isi (.var 0) (.cls a)) r m) _ = _
    rw [ei a r m hr]
    show Res.bind (Res.bind (ev S (run S n) (.isi (.var 0) (.cls b)) r m) _) _ = _
    rw [ei b r m hr]
    show Res.bind (Res.bind (Res.bind (ev S (run S n) (.isi (.var 0) (.cls c)) r m) _) _) _ = _
    rw [ei c r m hr]; rfl
  have el2 : ∀ a b r m, r[0]? = some (some (.exc d)) → evs S (run S n) [.isi (.var 0) (.cls a), .isi (.var 0) (.cls b)] r m = .ok ([f a, f b].map .bool) m := by
    intro a b r m hr
    show Res.bind (ev S (run S n) (.isi (.var 0) (.cls a)) r m) _ = _
    rw [ei a r m hr]
    show Res.bind (Res.bind (ev S (run S n) (.isi (.var 0) (.cls b)) r m) _) _ = _
    rw [ei b r m hr]; rfl
  refine s_asg (pe_list (wp_rfl rfl (wp_alloc fun p0 m0 l0 k0 _ => ?_)))
  refine s_asg (pe_list (wp_eq (el 2 3 4 _ _ rfl) (wp_alloc fun p1 m1 l1 k1 _ => ?_)))
  refine s_asg (pe_bin (wp_rfl rfl (pe_list (wp_eq (el 5 6 7 _ _ rfl) (wp_alloc fun p2 m2 l2 k2 _ => w_addl (l2.has k1) k2 (show 3 + 3 ≤ lid by decide) fun p3 m3 l3 k3 _ => ?_)))))
  refine s_asg (pe_bin (wp_rfl rfl (pe_list (wp_eq (el2 8 9 _ _ rfl) (wp_alloc fun p4 m4 l4 k4 _ => w_addl (l4.has k3) k4 (show 6 + 2 ≤ lid by decide) fun p5 m5 l5 k5 _ => ?_)))))
  have k0' := ((((l1.trans l2).trans l3).trans l4).trans l5).has k0
  have lf := (((((l0.trans l1).trans l2).trans l3).trans l4).trans l5)
  have k6 : m5[p5]? = some (.list ([f 2, f 3, f 4, f 5, f 6, f 7, f 8, f 9].map .bool)) := k5
  refine s_ite (pt_all (pts_cons (pt_val (pe_cmp (pe_smeth (wp_rfl rfl ⟨0, smK_l k6, rfl, wp_rfl rfl (w_count k6 ?_)⟩)))))) 
  rw [hc]
  refine wp_rfl rfl (wp_rfl rfl (wp_rfl rfl ?_))
  refine pts_cons (pt_not (pt_val (wp_eq (ei 0 _ _ rfl) (wp_rfl rfl ?_))))
  rw [h0]
  refine s_ret (pe_tup (pes_cons (pe_idx (wp_rfl rfl (pe_smeth (wp_rfl rfl ⟨0, smK_l k6, rfl, wp_rfl rfl (w_index k6 hin ?_)⟩))))))
  have h8 : [f 2, f 3, f 4, f 5, f 6, f 7, f 8, f 9].idxOf true < 8 := List.idxOf_lt_length_of_mem (List.contains_iff_mem.mp hin)
  refine w_idxl (v := .str w) k0' ?_ (by omega) (wp_rfl rfl ⟨rfl, lf⟩)
  unfold at_
  rw [if_pos (by omega), Int.toNat_natCast]
  show (kwords.map V.str)[_]? = _
  rw [List.getElem?_map, hw]; rfl

end Mini

/-! Objects that change: what a run may change, fields, methods, stores. -/
namespace Mini
open PySem
section
variable {S : Sig} {F : Fns} {r : Lo} {m : MH} {E : Nat → MH → Prop}
variable {Q : Fl × Lo → MH → Prop} {ss : List CS}
theorem s_asgI {o i e : CE} (h : Wp (ev S F e r) m (fun v m1 => Wp (ev S F o r) m1 (fun x m2 => Wp (ev S F i r) m2 (fun y m3 => Wp (putIdx x y v) m3 (fun _ m4 => Wp (exs S F ss r) m4 Q E) E) E) E) E) : Wp (exs S F (.asg (.idx o i) e :: ss) r) m Q E := by
  refine s_cons (wp_bnd (x := ev S F e r) (wp_mono h (fun v m' q => wp_bnd (wp_bnd (x := ev S F o r) (wp_mono q (fun x m'' q => wp_bnd (x := ev S F i r) (wp_mono q (fun y m3 q => wp_bnd (x := putIdx x y v) (wp_mono q (fun _ m4 q => q) fun _ _ q => q)) fun _ _ q => q)) fun _ _ q => q))) fun _ _ q => q))
end
end Mini

namespace C03
open PySem Mini
noncomputable def f_is_whole : List CS := [
  (.ret (.boolop true [(.isi (.var 0) .int), (.not (.isi (.var 0) .bool))]))]
noncomputable def f_need_count : List CS := [
  (.ite (.all false [(.not (.val (.call 0 [(.var 0)]))), (.not (.val (.cmp (.cnst (Lt.int 1)) [.LtE, .LtE] [(.var 0), (.glob 0)])))]) [
    (.rse 2 (Str.ofString "a town has 1 to 12 houses"))] [])]
noncomputable def f_is_row : List CS := [
  (.ite (.all false [(.not (.val (.isi (.var 0) .str))), (.not (.val (.cmp (.cnst (Lt.int 1)) [.LtE, .LtE] [(.bi .len [(.var 0)]), (.glob 2)])))]) [
    (.ret (.cnst (Lt.bool false)))] []),
  (.for_ .expr (.one 1) [(.var 0)] [
    (.ite (.val (.cmp (.var 1) [.NotIn] [(.glob 1)])) [
      (.ret (.cnst (Lt.bool false)))] [])]),
  (.ret (.cnst (Lt.bool true)))]
noncomputable def f_caller : List CS := [
  (.ret (.bin .Mod (.var 1) (.var 0)))]
noncomputable def f_is_word : List CS := [
  (.exp (.call 1 [(.var 0)])),
  (.ite (.all false [(.not (.val (.isi (.var 1) .tuple))), (.val (.cmp (.bi .len [(.var 1)]) [.NotEq] [(.cnst (Lt.int 4))])), (.not (.val (.isi (.idx (.var 1) (.cnst (Lt.int 0))) .str)))]) [
    (.ret (.cnst (Lt.bool false)))] []),
  (.ite (.all false [(.not (.val (.call 0 [(.idx (.var 1) (.cnst (Lt.int 1)))]))), (.not (.val (.cmp (.cnst (Lt.int 0)) [.LtE, .LtE] [(.idx (.var 1) (.cnst (Lt.int 1))), (.glob 3)]))), (.not (.val (.call 2 [(.idx (.var 1) (.cnst (Lt.int 2)))])))]) [
    (.ret (.cnst (Lt.bool false)))] []),
  (.ite (.all false [(.not (.val (.call 0 [(.idx (.var 1) (.cnst (Lt.int 3)))]))), (.not (.val (.cmp (.cnst (Lt.int 0)) [.LtE, .Lt] [(.idx (.var 1) (.cnst (Lt.int 3))), (.var 0)])))]) [
    (.ret (.cnst (Lt.bool false)))] []),
  (.ite (.val (.cmp (.idx (.var 1) (.cnst (Lt.int 0))) [.Eq] [(.cnst (Lt.str (Str.ofString "say")))])) [
    (.ret (.cmp (.idx (.var 1) (.cnst (Lt.int 3))) [.Eq] [(.call 3 [(.var 0), (.idx (.var 1) (.cnst (Lt.int 1)))])]))] []),
  (.ret (.cmp (.idx (.var 1) (.cnst (Lt.int 0))) [.Eq] [(.cnst (Lt.str (Str.ofString "mark")))]))]
noncomputable def f_shown : List CS := [
  (.ret (.bin .Add (.bin .Add (.bin .Add (.bin .Add (.bin .Add (.bin .Add (.idx (.var 0) (.cnst (Lt.int 0))) (.cnst (Lt.str (Str.ofString " ")))) (.bi .str [(.idx (.var 0) (.cnst (Lt.int 1)))])) (.cnst (Lt.str (Str.ofString " ")))) (.idx (.var 0) (.cnst (Lt.int 2)))) (.cnst (Lt.str (Str.ofString " by ")))) (.bi .str [(.idx (.var 0) (.cnst (Lt.int 3)))])))]
noncomputable def f_number_in : List CS := [
  (.ite (.all false [(.not (.val (.cmp (.cnst (Lt.int 1)) [.LtE, .LtE] [(.bi .len [(.var 0)]), (.glob 5)]))), (.all true [(.val (.cmp (.idx (.var 0) (.cnst (Lt.int 0))) [.Eq] [(.cnst (Lt.str (Str.ofString "0")))])), (.val (.cmp (.var 0) [.NotEq] [(.cnst (Lt.str (Str.ofString "0")))]))])]) [
    (.rse 9 (Str.ofString "no number"))] []),
  (.for_ .expr (.one 1) [(.var 0)] [
    (.ite (.val (.cmp (.var 1) [.NotIn] [(.glob 4)])) [
      (.rse 9 (Str.ofString "no number"))] [])]),
  (.ret (.bi .int [(.var 0)]))]
noncomputable def f_read : List CS := [
  (.exp (.call 1 [(.var 0)])),
  (.ite (.not (.val (.isi (.var 1) .str))) [
    (.rse 9 (Str.ofString "no text"))] []),
  (.asg (.one (.one 2)) (.smeth (.var 1) .split [(.cnst (Lt.str (Str.ofString " ")))])),
  (.ite (.all false [(.val (.cmp (.bi .len [(.var 2)]) [.NotEq] [(.cnst (Lt.int 5))])), (.val (.cmp (.idx (.var 2) (.cnst (Lt.int 3))) [.NotEq] [(.cnst (Lt.str (Str.ofString "by")))]))]) [
    (.rse 9 (Str.ofString "five parts are wanted"))] []),
  (.asg (.one (.one 3)) (.tup [(.idx (.var 2) (.cnst (Lt.int 0))), (.call 6 [(.idx (.var 2) (.cnst (Lt.int 1)))]), (.idx (.var 2) (.cnst (Lt.int 2))), (.call 6 [(.idx (.var 2) (.cnst (Lt.int 4)))])])),
  (.ite (.not (.val (.call 4 [(.var 0), (.var 3)]))) [
    (.rse 9 (Str.ofString "no word of the town"))] []),
  (.ret (.var 3))]
noncomputable def f_law_at : List CS := [
  (.ite (.val (.cmp (.var 1) [.Lt] [(.bi .len [(.var 0)])])) [
    (.ret (.idx (.var 0) (.var 1)))] []),
  (.ret (.cnst (Lt.int 0)))]
noncomputable def f_law_whole : List CS := [
  (.ret (.boolop true [(.isi (.var 0) .int), (.not (.isi (.var 0) .bool))]))]
noncomputable def f_law_sign : List CS := [
  (.asg (.one (.one 1)) (.cnst (Lt.str (Str.ofString " !\"#$&'()*+,-./0123456789:;<=>?@ABCDEFGHIJKLMNOPQRSTUVWXYZ[\\]^_`{|}~\n\t")))),
  (.ret (.idx (.var 1) (.bin .Mod (.var 0) (.bi .len [(.var 1)]))))]
noncomputable def f_law_row : List CS := [
  (.asg (.one (.one 2)) (.cnst (Lt.str (Str.ofString "abcdefghijklmnopqrstuvwxyz")))),
  (.asg (.one (.one 3)) (.bin .Add (.var 0) (.bin .Mult (.bin .Mult (.cnst (Lt.int 31)) (.var 1)) (.bin .Mod (.var 0) (.cnst (Lt.int 2)))))),
  (.asg (.one (.one 4)) (.bin .Mod (.bin .FloorDiv (.var 3) (.cnst (Lt.int 26))) (.cnst (Lt.int 8)))),
  (.asg (.one (.one 5)) (.smeth (.cnst (Lt.str (Str.ofString ""))) .join [(.comp (.idx (.var 2) (.bin .Mod (.bin .Add (.var 3) (.bin .Mult (.bin .Mult (.cnst (Lt.int 5)) (.var 7)) (.bin .Add (.cnst (Lt.int 1)) (.bin .Mod (.var 3) (.cnst (Lt.int 3)))))) (.cnst (Lt.int 26)))) (.one 7) 1 .range [(.var 4)] [])])),
  (.asg (.one (.one 6)) (.var 4)),
  (.ite (.val (.cmp (.bin .Mod (.var 0) (.cnst (Lt.int 2))) [.Eq] [(.cnst (Lt.int 0))])) [
    (.asg (.one (.one 6)) (.bin .Mod (.bin .FloorDiv (.var 0) (.cnst (Lt.int 4))) (.bin .Add (.var 4) (.cnst (Lt.int 1)))))] []),
  (.ite (.val (.cmp (.bin .Mod (.var 0) (.cnst (Lt.int 9))) [.Eq] [(.cnst (Lt.int 4))])) [
    (.ret (.idx (.list [(.cnst (Lt.str (Str.ofString "say"))), (.cnst (Lt.str (Str.ofString "mark"))), (.cnst (Lt.str (Str.ofString "by"))), (.cnst (Lt.str (Str.ofString "house")))]) (.bin .Mod (.var 1) (.cnst (Lt.int 4)))))] []),
  (.ret (.bin .Add (.bin .Add (.slice (.var 5) (.cnst Lt.none) (.var 6) (.cnst Lt.none)) (.idx (.cnst (Lt.str (Str.ofString "kqxz"))) (.bin .Mod (.var 1) (.cnst (Lt.int 4))))) (.slice (.var 5) (.var 6) (.cnst Lt.none) (.cnst Lt.none))))]
noncomputable def f_law_is_row : List CS := [
  (.ite (.all false [(.not (.val (.isi (.var 0) .str))), (.not (.val (.cmp (.cnst (Lt.int 1)) [.LtE, .LtE] [(.bi .len [(.var 0)]), (.cnst (Lt.int 8))])))]) [
    (.ret (.cnst (Lt.bool false)))] []),
  (.ret (.cmp (.comp (.var 1) (.one 1) 1 .expr [(.var 0)] [(.val (.cmp (.var 1) [.NotIn] [(.cnst (Lt.str (Str.ofString "abcdefghijklmnopqrstuvwxyz")))]))]) [.Eq] [(.list [])]))]
noncomputable def f_law_is_among : List CS := [
  (.ret (.boolop true [(.isi (.var 0) .int), (.not (.isi (.var 0) .bool)), (.cmp (.var 1) [.LtE, .LtE] [(.var 0), (.var 2)])]))]
noncomputable def f_law_is_word : List CS := [
  (.ite (.all false [(.not (.val (.isi (.var 1) .tuple))), (.val (.cmp (.bi .len [(.var 1)]) [.NotEq] [(.cnst (Lt.int 4))])), (.not (.val (.isi (.idx (.var 1) (.cnst (Lt.int 0))) .str)))]) [
    (.ret (.cnst (Lt.bool false)))] []),
  (.ite (.all false [(.not (.val (.call 13 [(.idx (.var 1) (.cnst (Lt.int 1))), (.cnst (Lt.int 0)), (.cnst (Lt.int 9999))]))), (.not (.val (.call 12 [(.idx (.var 1) (.cnst (Lt.int 2)))]))), (.not (.val (.call 13 [(.idx (.var 1) (.cnst (Lt.int 3))), (.cnst (Lt.int 0)), (.bin .Sub (.var 0) (.cnst (Lt.int 1)))])))]) [
    (.ret (.cnst (Lt.bool false)))] []),
  (.ret (.boolop false [(.cmp (.idx (.var 1) (.cnst (Lt.int 0))) [.Eq] [(.cnst (Lt.str (Str.ofString "mark")))]), (.boolop true [(.cmp (.idx (.var 1) (.cnst (Lt.int 0))) [.Eq] [(.cnst (Lt.str (Str.ofString "say")))]), (.cmp (.bin .Mod (.bin .Sub (.idx (.var 1) (.cnst (Lt.int 1))) (.idx (.var 1) (.cnst (Lt.int 3)))) (.var 0)) [.Eq] [(.cnst (Lt.int 0))])])]))]
noncomputable def f_law_kind : List CS := [
  (.asg (.one (.one 1)) (.list [(.cnst (Lt.str (Str.ofString "count"))), (.cnst (Lt.str (Str.ofString "house"))), (.cnst (Lt.str (Str.ofString "row"))), (.cnst (Lt.str (Str.ofString "word"))), (.cnst (Lt.str (Str.ofString "forged"))), (.cnst (Lt.str (Str.ofString "letter"))), (.cnst (Lt.str (Str.ofString "written"))), (.cnst (Lt.str (Str.ofString "text")))])),
  (.asg (.one (.one 2)) (.list [(.isi (.var 0) (.cls 2)), (.isi (.var 0) (.cls 3)), (.isi (.var 0) (.cls 4))])),
  (.asg (.one (.one 2)) (.bin .Add (.var 2) (.list [(.isi (.var 0) (.cls 5)), (.isi (.var 0) (.cls 6)), (.isi (.var 0) (.cls 7))]))),
  (.asg (.one (.one 2)) (.bin .Add (.var 2) (.list [(.isi (.var 0) (.cls 8)), (.isi (.var 0) (.cls 9))]))),
  (.ite (.all false [(.val (.cmp (.smeth (.var 2) .count [(.cnst (Lt.bool true))]) [.NotEq] [(.cnst (Lt.int 1))])), (.not (.val (.isi (.var 0) (.cls 0))))]) [
    (.ret (.tup [(.cnst (Lt.str (Str.ofString "other")))]))] []),
  (.ret (.tup [(.idx (.var 1) (.smeth (.var 2) .index [(.cnst (Lt.bool true))]))]))]
noncomputable def f_law_word : List CS := [
  (.asg (.one (.one 3)) (.idx (.list [(.bin .Mod (.bin .FloorDiv (.var 0) (.cnst (Lt.int 2))) (.cnst (Lt.int 30))), (.bin .Sub (.cnst (Lt.int 9999)) (.bin .Mod (.bin .FloorDiv (.var 0) (.cnst (Lt.int 2))) (.cnst (Lt.int 30)))), (.bin .Mod (.bin .FloorDiv (.var 0) (.cnst (Lt.int 2))) (.cnst (Lt.int 10000)))]) (.bin .Mod (.bin .FloorDiv (.var 0) (.cnst (Lt.int 60))) (.cnst (Lt.int 3))))),
  (.asg (.one (.one 4)) (.call 11 [(.var 2), (.bin .Mod (.bin .FloorDiv (.var 0) (.cnst (Lt.int 180))) (.cnst (Lt.int 4)))])),
  (.ite (.val (.cmp (.bin .Mod (.var 0) (.cnst (Lt.int 2))) [.Eq] [(.cnst (Lt.int 0))])) [
    (.ret (.tup [(.cnst (Lt.str (Str.ofString "say"))), (.var 3), (.var 4), (.bin .Mod (.var 3) (.var 1))]))] []),
  (.ret (.tup [(.cnst (Lt.str (Str.ofString "mark"))), (.var 3), (.var 4), (.bin .Mod (.bin .FloorDiv (.var 0) (.cnst (Lt.int 720))) (.var 1))]))]
noncomputable def f_law_number : List CS := [
  (.ite (.all false [(.not (.val (.cmp (.cnst (Lt.int 1)) [.LtE, .LtE] [(.bi .len [(.var 0)]), (.cnst (Lt.int 4))]))), (.val (.cmp (.comp (.var 1) (.one 1) 1 .expr [(.var 0)] [(.val (.cmp (.var 1) [.NotIn] [(.cnst (Lt.str (Str.ofString "0123456789")))]))]) [.NotEq] [(.list [])]))]) [
    (.ret (.cnst Lt.none))] []),
  (.ite (.all true [(.val (.cmp (.idx (.var 0) (.cnst (Lt.int 0))) [.Eq] [(.cnst (Lt.str (Str.ofString "0")))])), (.val (.cmp (.var 0) [.NotEq] [(.cnst (Lt.str (Str.ofString "0")))]))]) [
    (.ret (.cnst Lt.none))] []),
  (.ret (.bi .int [(.var 0)]))]
noncomputable def f_law_due : List CS := [
  (.ite (.not (.val (.isi (.var 1) .str))) [
    (.ret (.cnst Lt.none))] []),
  (.asg (.one (.one 2)) (.smeth (.var 1) .split [(.cnst (Lt.str (Str.ofString " ")))])),
  (.ite (.all false [(.val (.cmp (.bi .len [(.var 2)]) [.NotEq] [(.cnst (Lt.int 5))])), (.val (.cmp (.idx (.var 2) (.cnst (Lt.int 3))) [.NotEq] [(.cnst (Lt.str (Str.ofString "by")))]))]) [
    (.ret (.cnst Lt.none))] []),
  (.asg (.one (.one 3)) (.tup [(.idx (.var 2) (.cnst (Lt.int 0))), (.call 17 [(.idx (.var 2) (.cnst (Lt.int 1)))]), (.idx (.var 2) (.cnst (Lt.int 2))), (.call 17 [(.idx (.var 2) (.cnst (Lt.int 4)))])])),
  (.ret (.ite (.val (.call 14 [(.var 0), (.var 3)])) (.var 3) (.cnst Lt.none)))]
noncomputable def f_law_bent : List CS := [
  (.asg (.one (.one 2)) (.bin .Mod (.bin .FloorDiv (.var 1) (.cnst (Lt.int 9))) (.bin .Add (.bi .len [(.var 0)]) (.cnst (Lt.int 1))))),
  (.asg (.one (.one 3)) (.idx (.list [(.call 10 [(.bin .FloorDiv (.var 1) (.cnst (Lt.int 300)))]), (.idx (.cnst (Lt.str (Str.ofString "abs0123 "))) (.bin .Mod (.bin .FloorDiv (.var 1) (.cnst (Lt.int 300))) (.cnst (Lt.int 8))))]) (.bin .Mod (.bin .FloorDiv (.var 1) (.cnst (Lt.int 150))) (.cnst (Lt.int 2))))),
  (.asg (.one (.one 4)) (.smeth (.var 0) .split [(.cnst (Lt.str (Str.ofString " ")))])),
  (.asg (.one (.one 5)) (.bin .Mod (.bin .FloorDiv (.var 1) (.cnst (Lt.int 9))) (.cnst (Lt.int 5)))),
  (.ite (.val (.cmp (.bin .Mod (.var 1) (.cnst (Lt.int 9))) [.Eq] [(.cnst (Lt.int 0))])) [
    (.ret (.bin .Add (.bin .Add (.slice (.var 0) (.cnst Lt.none) (.var 2) (.cnst Lt.none)) (.var 3)) (.slice (.var 0) (.var 2) (.cnst Lt.none) (.cnst Lt.none))))] []),
  (.ite (.val (.cmp (.bin .Mod (.var 1) (.cnst (Lt.int 9))) [.Eq] [(.cnst (Lt.int 1))])) [
    (.ret (.bin .Add (.bin .Add (.slice (.var 0) (.cnst Lt.none) (.var 2) (.cnst Lt.none)) (.var 3)) (.slice (.var 0) (.bin .Add (.var 2) (.cnst (Lt.int 1))) (.cnst Lt.none) (.cnst Lt.none))))] []),
  (.ite (.val (.cmp (.bin .Mod (.var 1) (.cnst (Lt.int 9))) [.Eq] [(.cnst (Lt.int 2))])) [
    (.ret (.bin .Add (.slice (.var 0) (.cnst Lt.none) (.var 2) (.cnst Lt.none)) (.slice (.var 0) (.bin .Add (.var 2) (.cnst (Lt.int 1))) (.cnst Lt.none) (.cnst Lt.none))))] []),
  (.ite (.val (.cmp (.bin .Mod (.var 1) (.cnst (Lt.int 9))) [.Eq] [(.cnst (Lt.int 3))])) [
    (.ret (.smeth (.cnst (Lt.str (Str.ofString " "))) .join [(.bin .Add (.slice (.var 4) (.cnst Lt.none) (.var 5) (.cnst Lt.none)) (.slice (.var 4) (.bin .Add (.var 5) (.cnst (Lt.int 1))) (.cnst Lt.none) (.cnst Lt.none)))]))] []),
  (.ite (.val (.cmp (.bin .Mod (.var 1) (.cnst (Lt.int 9))) [.Eq] [(.cnst (Lt.int 4))])) [
    (.ret (.smeth (.cnst (Lt.str (Str.ofString " "))) .join [(.bin .Add (.slice (.var 4) (.cnst Lt.none) (.bin .Add (.var 5) (.cnst (Lt.int 1))) (.cnst Lt.none)) (.slice (.var 4) (.var 5) (.cnst Lt.none) (.cnst Lt.none)))]))] []),
  (.ite (.val (.cmp (.bin .Mod (.var 1) (.cnst (Lt.int 9))) [.Eq] [(.cnst (Lt.int 5))])) [
    (.asg (.idx2 (.var 4) (.var 5) (.var 4) (.bin .Sub (.var 5) (.cnst (Lt.int 1)))) (.tup [(.idx (.var 4) (.bin .Sub (.var 5) (.cnst (Lt.int 1)))), (.idx (.var 4) (.var 5))])),
    (.ret (.smeth (.cnst (Lt.str (Str.ofString " "))) .join [(.var 4)]))] []),
  (.ite (.val (.cmp (.bin .Mod (.var 1) (.cnst (Lt.int 9))) [.Eq] [(.cnst (Lt.int 6))])) [
    (.asg (.idx (.var 4) (.idx (.list [(.cnst (Lt.int 1)), (.cnst (Lt.int 4))]) (.bin .Mod (.var 5) (.cnst (Lt.int 2))))) (.bin .Add (.idx (.list [(.cnst (Lt.str (Str.ofString "0"))), (.cnst (Lt.str (Str.ofString "-"))), (.cnst (Lt.str (Str.ofString "+"))), (.cnst (Lt.str (Str.ofString "1")))]) (.bin .Mod (.bin .FloorDiv (.var 1) (.cnst (Lt.int 45))) (.cnst (Lt.int 4)))) (.idx (.var 4) (.idx (.list [(.cnst (Lt.int 1)), (.cnst (Lt.int 4))]) (.bin .Mod (.var 5) (.cnst (Lt.int 2))))))),
    (.ret (.smeth (.cnst (Lt.str (Str.ofString " "))) .join [(.var 4)]))] []),
  (.ite (.val (.cmp (.bin .Mod (.var 1) (.cnst (Lt.int 9))) [.Eq] [(.cnst (Lt.int 7))])) [
    (.ret (.idx (.list [(.cnst Lt.none), (.cnst (Lt.int 5)), (.list [(.cnst (Lt.str (Str.ofString "say")))]), (.cnst (Lt.bool true)), (.cnst (Lt.str (Str.ofString ""))), (.cnst (Lt.str (Str.ofString " "))), (.tup [(.cnst (Lt.str (Str.ofString "say"))), (.cnst (Lt.int 0)), (.cnst (Lt.str (Str.ofString "a"))), (.cnst (Lt.int 0))])]) (.bin .Mod (.bin .FloorDiv (.var 1) (.cnst (Lt.int 9))) (.cnst (Lt.int 7)))))] []),
  (.ret (.var 0))]
noncomputable def f_law_said : List CS := [
  (.try_ [
    (.ret (.list [(.call 7 [(.var 0), (.var 1)])]))] 1 (some 2) (.call 15 [(.var 2)]))]
noncomputable def f_law : List CS := [
  (.for_ .range (.one 1) [(.cnst (Lt.int 0)), (.bin .Add (.bi .len [(.var 0)]) (.cnst (Lt.int 1))), (.cnst (Lt.int 2))] [
    (.asg (.one (.one 2)) (.bin .Add (.call 8 [(.var 0), (.var 1)]) (.var 1))),
    (.asg (.one (.one 3)) (.call 8 [(.var 0), (.bin .Add (.var 1) (.cnst (Lt.int 1)))])),
    (.asg (.one (.one 4)) (.bin .Add (.cnst (Lt.int 1)) (.bin .Mod (.var 3) (.cnst (Lt.int 12))))),
    (.asg (.one (.one 5)) (.call 16 [(.var 2), (.var 4), (.bin .Mod (.bin .FloorDiv (.var 3) (.cnst (Lt.int 12))) (.cnst (Lt.int 100003)))])),
    (.asg (.one (.one 6)) (.call 5 [(.var 5)])),
    (.asg (.one (.one 7)) (.list [(.idx (.var 5) (.cnst (Lt.int 0))), (.bi .str [(.idx (.var 5) (.cnst (Lt.int 1)))]), (.idx (.var 5) (.cnst (Lt.int 2))), (.cnst (Lt.str (Str.ofString "by"))), (.bi .str [(.idx (.var 5) (.cnst (Lt.int 3)))])])),
    (.ite (.all false [(.not (.val (.isi (.var 6) .str))), (.val (.cmp (.var 6) [.NotEq] [(.smeth (.cnst (Lt.str (Str.ofString " "))) .join [(.var 7)])]))]) [
      (.ret (.cnst (Lt.bool false)))] []),
    (.asg (.one (.one 8)) (.call 19 [(.var 6), (.bin .Add (.bin .FloorDiv (.var 2) (.cnst (Lt.int 4))) (.var 3))])),
    (.for_ .expr (.many [9, 10]) [(.list [(.tup [(.var 6), (.var 5)]), (.tup [(.var 8), (.call 18 [(.var 4), (.var 8)])])])] [
      (.asg (.one (.one 11)) (.call 20 [(.var 4), (.var 9)])),
      (.ite (.all true [(.val (.cmp (.var 10) [.Is] [(.cnst Lt.none)])), (.val (.cmp (.var 11) [.NotEq] [(.tup [(.cnst (Lt.str (Str.ofString "text")))])]))]) [
        (.ret (.cnst (Lt.bool false)))] []),
      (.ite (.val (.cmp (.var 10) [.Is] [(.cnst Lt.none)])) [
        .cont] []),
      (.ite (.all false [(.not (.val (.isi (.var 11) .list))), (.val (.cmp (.var 11) [.NotEq] [(.list [(.var 10)])])), (.not (.val (.call 14 [(.var 4), (.idx (.var 11) (.cnst (Lt.int 0)))])))]) [
        (.ret (.cnst (Lt.bool false)))] [])])]),
  (.ret (.cmp (.call 20 [(.idx (.list [(.cnst (Lt.int 0)), (.cnst (Lt.int 13)), (.cnst (Lt.bool true)), (.cnst Lt.none)]) (.bin .Mod (.call 8 [(.var 0), (.cnst (Lt.int 1))]) (.cnst (Lt.int 4)))), (.cnst Lt.none)]) [.Eq] [(.tup [(.cnst (Lt.str (Str.ofString "count")))])]))]
noncomputable def sig : Sig := {
  fns := [
    { name := (Str.ofString "is_whole"), np := 1, names := [(Str.ofString "thing")], body := f_is_whole },
    { name := (Str.ofString "need_count"), np := 1, names := [(Str.ofString "count")], body := f_need_count },
    { name := (Str.ofString "is_row"), np := 1, names := [(Str.ofString "thing"), (Str.ofString "sign")], body := f_is_row },
    { name := (Str.ofString "caller"), np := 2, names := [(Str.ofString "count"), (Str.ofString "number")], body := f_caller },
    { name := (Str.ofString "is_word"), np := 2, names := [(Str.ofString "count"), (Str.ofString "thing")], body := f_is_word },
    { name := (Str.ofString "shown"), np := 1, names := [(Str.ofString "word")], body := f_shown },
    { name := (Str.ofString "number_in"), np := 1, names := [(Str.ofString "part"), (Str.ofString "sign")], body := f_number_in },
    { name := (Str.ofString "read"), np := 2, names := [(Str.ofString "count"), (Str.ofString "text"), (Str.ofString "parts"), (Str.ofString "word")], body := f_read },
    { name := (Str.ofString "_law_at"), np := 2, names := [(Str.ofString "_law_script"), (Str.ofString "_law_k")], body := f_law_at },
    { name := (Str.ofString "_law_whole"), np := 1, names := [(Str.ofString "_law_thing")], body := f_law_whole },
    { name := (Str.ofString "_law_sign"), np := 1, names := [(Str.ofString "_law_cell"), (Str.ofString "_law_signs")], body := f_law_sign },
    { name := (Str.ofString "_law_row"), np := 2, names := [(Str.ofString "_law_base"), (Str.ofString "_law_k"), (Str.ofString "_law_letters"), (Str.ofString "_law_turned"), (Str.ofString "_law_size"), (Str.ofString "_law_tail"), (Str.ofString "_law_at_here")], body := f_law_row },
    { name := (Str.ofString "_law_is_row"), np := 1, names := [(Str.ofString "_law_thing")], body := f_law_is_row },
    { name := (Str.ofString "_law_is_among"), np := 3, names := [(Str.ofString "_law_thing"), (Str.ofString "_law_least"), (Str.ofString "_law_most")], body := f_law_is_among },
    { name := (Str.ofString "_law_is_word"), np := 2, names := [(Str.ofString "_law_count"), (Str.ofString "_law_thing")], body := f_law_is_word },
    { name := (Str.ofString "_law_kind"), np := 1, names := [(Str.ofString "_law_error"), (Str.ofString "_law_words"), (Str.ofString "_law_found")], body := f_law_kind },
    { name := (Str.ofString "_law_word"), np := 3, names := [(Str.ofString "_law_cell"), (Str.ofString "_law_count"), (Str.ofString "_law_base"), (Str.ofString "_law_number_here"), (Str.ofString "_law_row_here")], body := f_law_word },
    { name := (Str.ofString "_law_number"), np := 1, names := [(Str.ofString "_law_text")], body := f_law_number },
    { name := (Str.ofString "_law_due"), np := 2, names := [(Str.ofString "_law_count"), (Str.ofString "_law_text"), (Str.ofString "_law_parts"), (Str.ofString "_law_word_here")], body := f_law_due },
    { name := (Str.ofString "_law_bent"), np := 2, names := [(Str.ofString "_law_text"), (Str.ofString "_law_cell"), (Str.ofString "_law_at_here"), (Str.ofString "_law_sign_here"), (Str.ofString "_law_parts"), (Str.ofString "_law_place")], body := f_law_bent },
    { name := (Str.ofString "_law_said"), np := 2, names := [(Str.ofString "_law_count"), (Str.ofString "_law_text"), (Str.ofString "_law_error")], body := f_law_said },
    { name := (Str.ofString "law"), np := 1, names := [(Str.ofString "_law_script"), (Str.ofString "_law_k"), (Str.ofString "_law_cell"), (Str.ofString "_law_more"), (Str.ofString "_law_count"), (Str.ofString "_law_word_here"), (Str.ofString "_law_text"), (Str.ofString "_law_parts"), (Str.ofString "_law_bent_here"), (Str.ofString "_law_one"), (Str.ofString "_law_due_here"), (Str.ofString "_law_found")], body := f_law }],
  cls := [
    { name := (Str.ofString "ValueError"), init := none, meths := [], exc := false, supers := [0] },
    { name := (Str.ofString "HouseError"), init := none, meths := [], exc := true, supers := [1, 0] },
    { name := (Str.ofString "BadCount"), init := none, meths := [], exc := true, supers := [2, 1, 0] },
    { name := (Str.ofString "BadHouse"), init := none, meths := [], exc := true, supers := [3, 1, 0] },
    { name := (Str.ofString "BadRow"), init := none, meths := [], exc := true, supers := [4, 1, 0] },
    { name := (Str.ofString "BadWord"), init := none, meths := [], exc := true, supers := [5, 1, 0] },
    { name := (Str.ofString "Forged"), init := none, meths := [], exc := true, supers := [6, 1, 0] },
    { name := (Str.ofString "NoLetter"), init := none, meths := [], exc := true, supers := [7, 1, 0] },
    { name := (Str.ofString "NotWritten"), init := none, meths := [], exc := true, supers := [8, 1, 0] },
    { name := (Str.ofString "NoText"), init := none, meths := [], exc := true, supers := [9, 1, 0] }],
  attrs := [],
  globs := [((Str.ofString "MOST_HOUSES"), (Lt.int 12)), ((Str.ofString "LETTERS"), (Lt.str (Str.ofString "abcdefghijklmnopqrstuvwxyz"))), ((Str.ofString "MOST_SIGNS"), (Lt.int 8)), ((Str.ofString "MOST_NUMBER"), (Lt.int 9999)), ((Str.ofString "FIGURES"), (Lt.str (Str.ofString "0123456789"))), ((Str.ofString "MOST_FIGURES"), (Lt.int 4))] }
end C03

namespace Mini
namespace P03
open PySem C03
variable {m m' : MH}
theorem f_whole : FnIs sig 0 1 1 b_whole := ⟨_, rfl, rfl, rfl, rfl⟩
theorem f_need : FnIs sig 1 1 1 (b_need 0 0 2) := ⟨_, rfl, rfl, rfl, rfl⟩
theorem f_row0 : FnIs sig 2 1 2 (b_is_row 1 2) := ⟨_, rfl, rfl, rfl, rfl⟩
theorem f_caller : FnIs sig 3 2 2 b_caller := ⟨_, rfl, rfl, rfl, rfl⟩
theorem f_word : FnIs sig 4 2 2 (b_is_word 1 0 2 3 3) := ⟨_, rfl, rfl, rfl, rfl⟩
theorem f_at : FnIs sig 8 2 2 b_at := ⟨_, rfl, rfl, rfl, rfl⟩
theorem f_sign : FnIs sig 10 1 2 b_sign := ⟨_, rfl, rfl, rfl, rfl⟩
theorem f_row : FnIs sig 11 2 7 b_row := ⟨_, rfl, rfl, rfl, rfl⟩
theorem f_lrow : FnIs sig 12 1 1 b_lrow := ⟨_, rfl, rfl, rfl, rfl⟩
theorem f_among : FnIs sig 13 3 3 b_among := ⟨_, rfl, rfl, rfl, rfl⟩
theorem f_lword : FnIs sig 14 2 2 (b_lword 13 12) := ⟨_, rfl, rfl, rfl, rfl⟩
theorem f_kind : FnIs sig 15 1 3 b_kind := ⟨_, rfl, rfl, rfl, rfl⟩
theorem word_ok (n : Nat) {c : Int} {v : V} (h1 : 1 ≤ c) (h2 : c ≤ 12) (hv : Th m v) : run sig (n + 3) 4 [.int c, v] m = .ok (.bool (isW c v)) m :=
  is_word_ok f_word f_need f_whole f_row0 f_caller rfl rfl rfl rfl n h1 h2 hv
theorem need1 (n : Nat) {c : Int} (h1 : 1 ≤ c) (h2 : c ≤ 12) : run sig (n + 2) 1 [.int c] m = .ok .none m := by
  rw [need_ok f_need f_whole rfl n (.int c)]
  have : isC (.int c) = true := by show (decide (1 ≤ c) && decide (c ≤ 12)) = true; rw [decide_eq_true h1, decide_eq_true h2]; rfl
  rw [this]; rfl
noncomputable def figS : Str := Str.ofString "0123456789"
noncomputable def figs : List Nat := figS.cps.toList
theorem figs_eq : figs = [48, 49, 50, 51, 52, 53, 54, 55, 56, 57] := by decide +kernel
theorem fig_dig (c : Nat) : decide (c ∈ figs) = isDig c := by
  rw [figs_eq]
  unfold isDig
  rw [← Bool.decide_and, decide_eq_decide]
  simp only [List.mem_cons, List.not_mem_nil, or_false]
  omega
/-! numbers -/
noncomputable def st (l : List Nat) : Str := ⟨l.toArray⟩
noncomputable def zeroS : Str := Str.ofString "0"
noncomputable def lenOk (l : List Nat) : Bool := decide ((1 : Int) ≤ (l.length : Int)) && decide ((l.length : Int) ≤ 4)
noncomputable def lead : List Nat → Bool
  | [] => false
  | c :: r => (⟨#[c]⟩ : Str) == zeroS && !(st (c :: r) == zeroS)
noncomputable def numOk (l : List Nat) : Bool := !(!lenOk l || lead l) && l.all isDig
theorem len_ok {l : List Nat} (h : lenOk l = true) : 1 ≤ l.length ∧ l.length ≤ 4 := by
  obtain ⟨h1, h2⟩ := Bool.and_eq_true_iff.mp h
  exact ⟨by have := of_decide_eq_true h1; omega, by have := of_decide_eq_true h2; omega⟩
theorem int_eq {l : List Nat} (h : l.all isDig = true) (h1 : 1 ≤ l.length) (h2 : l.length ≤ 4) : biV .int [.str (st l)] m = .ok (.int (digV l)) m := by
  show (if (l.all isDig && (!l.isEmpty && decide (l.length ≤ 600))) = true then Res.ok (V.int (digV l)) m else .bad) = _
  rw [if_pos]
  rw [h, decide_eq_true (show l.length ≤ 600 by omega)]
  cases l with
  | nil => exact absurd h1 (by decide)
  | cons _ _ => rfl
theorem in_figs {c : Nat} : inV (ch c) (.str figS) m = .ok (isDig c) m := by
  rw [← fig_dig]; rfl
theorem nin_figs {c : Nat} : cmpV .NotIn (ch c) (.str figS) m = .ok (!isDig c) m := by
  have e : cmpV .NotIn (ch c) (.str figS) = bnd (inV (ch c) (.str figS)) fun c => ret (!c) := rfl
  rw [e]; unfold bnd; rw [in_figs]; rfl
theorem number_ok (n : Nat) {l : List Nat} (hl : l.length ≤ 64) : Wp (run sig (n + 1) 6 [.str (st l)]) m (fun v m' => v = .int (digV l) ∧ numOk l = true ∧ m' = m) (fun e m' => e = 9 ∧ numOk l = false ∧ m' = m) := by
  have e1 : ev sig (run sig n) (.cmp (.cnst (.int 1)) [.LtE, .LtE] [.bi .len [.var 0], .glob 5]) [some (.str (st l)), none] m = .ok (.bool (lenOk l)) m := q_cmp2 rfl (q_lenS rfl (by show l.length ≤ lid; unfold lid; omega)) rfl rfl rfl
  have e2 : evT sig (run sig n) (.all false [.not (.val (.cmp (.cnst (.int 1)) [.LtE, .LtE] [.bi .len [.var 0], .glob 5])), .all true [.val (.cmp (.idx (.var 0) (.cnst (.int 0))) [.Eq] [.cnst (.str (Str.ofString "0"))]), .val (.cmp (.var 0) [.NotEq] [.cnst (.str (Str.ofString "0"))])]]) [some (.str (st l)), none] m = .ok (!lenOk l || lead l) m := by
    cases h : lenOk l with
    | false => exact q_all (short (by rw [q_not (q_val e1), h]; rfl))
    | true =>
      cases l with
      | nil => cases h
      | cons c r => exact q_all ((q_ors (q_not (q_val e1)) (q_ors (q_all (q_ands (q_val (q_cmp1 (x := .str ⟨#[c]⟩) (q_idx rfl rfl rfl) rfl rfl)) (q_ands (q_val (q_cmp1 rfl rfl rfl)) q_end))) q_end)).trans (by rw [h, Bool.or_false, Bool.and_true]; rfl))
  refine wp_run rfl rfl (q_ite e2 ?_)
  cases hb : (!lenOk l || lead l) with
  | true => exact s_rse ⟨rfl, by unfold numOk; rw [hb]; rfl, rfl⟩
  | false =>
    have hk : lenOk l = true := by cases h : lenOk l with
      | true => rfl
      | false => rw [h] at hb; cases hb
    obtain ⟨k1, k2⟩ := len_ok hk
    refine s_for (wp_rfl rfl (wp_rfl rfl ⟨fun xs r m' => m' = m ∧ (∃ u, r = [some (.str (st l)), u]) ∧ ∃ a z, l = a ++ z ∧ xs = z.map ch ∧ a.all isDig = true, ⟨rfl, ⟨_, rfl⟩, [], _, rfl, rfl, rfl⟩, fun _ _ _ _ => rfl, ?_, ?_⟩))
    · rintro x xs r m' ⟨rfl, ⟨u, rfl⟩, a, z, e1, e2, e3⟩
      cases z with
      | nil => cases e2
      | cons c z =>
        cases e2
        refine wp_rfl rfl (q_ite (t := !isDig c) (q_val (q_cmp1 rfl rfl nin_figs)) ?_)
        cases hc : isDig c with
        | true => exact s_nil ⟨rfl, ⟨_, rfl⟩, a ++ [c], z, by rw [e1, List.append_assoc]; rfl, rfl, by rw [List.all_append, e3]; show (true && (isDig c && true)) = true; rw [hc]; rfl⟩
        | false =>
          refine s_rse ⟨rfl, ?_, rfl⟩
          unfold numOk
          rw [show l.all isDig = false by rw [e1, List.all_append, List.all_cons, hc, Bool.false_and, Bool.and_false], Bool.and_false]
    · rintro r m' ⟨rfl, ⟨u, rfl⟩, a, z, e1, e2, e3⟩
      cases z with
      | cons c z => cases e2
      | nil =>
        rw [List.append_nil] at e1
        subst e1
        refine s_ret (pe_bi (wp_rfl rfl (wp_eq (int_eq e3 k1 k2) ⟨rfl, ?_, rfl⟩)))
        unfold numOk; rw [hb, e3]; rfl
theorem nz_chs {p q : Nat} {l : List Nat} (hp : m[p]? = some (.list (l.map ch))) (hq : m[q]? = some (.list [])) : cmpV .NotEq (.ref p) (.ref q) m = .ok (!l.isEmpty) m := by
  show Res.bind (eqV (.ref p) (.ref q) m) _ = _
  rw [show eqV (.ref p) (.ref q) m = .ok l.isEmpty m from eq_chs hp hq]; rfl
theorem filter_dig {l : List Nat} : (l.filter fun c => !isDig c).isEmpty = l.all isDig := by
  induction l with
  | nil => rfl
  | cons c l ih =>
    rw [List.all_cons, List.filter_cons, ← ih]
    cases isDig c <;> rfl
noncomputable def numV (l : List Nat) : V := bif numOk l then .int (digV l) else .none
theorem lnumber_ok (n : Nat) {l : List Nat} (hl : l.length ≤ 64) : Wp (run sig (n + 1) 17 [.str (st l)]) m (fun v m' => v = numV l ∧ Le m m') nox := by
  have e1 : ev sig (run sig n) (.cmp (.cnst (.int 1)) [.LtE, .LtE] [.bi .len [.var 0], .cnst (.int 4)]) [some (.str (st l))] m = .ok (.bool (lenOk l)) m := q_cmp2 rfl (q_lenS rfl (by show l.length ≤ lid; unfold lid; omega)) rfl rfl rfl
  refine wp_run rfl rfl (s_ite (pt_all (pts_cons (wp_eq (q_not (q_val e1)) ?_))))
  cases hk : lenOk l with
  | false =>
    refine bif_f (s_ret (wp_rfl rfl ⟨?_, .refl _⟩))
    unfold numV numOk; rw [hk]; rfl
  | true =>
    obtain ⟨k1, k2⟩ := len_ok hk
    refine bif_t (pts_cons (pt_val (pe_cmp (pe_mapf l ch ch (fun c => !isDig c) (fun m' => m' = m) (wp_rfl rfl (wp_rfl rfl ⟨rfl, rfl, fun _ _ => rfl, ?_, by unfold lid; omega, ?_⟩))))))
    · rintro c hc m' rfl
      refine wp_rfl rfl (ifs_one (wp_eq (q_val (q_cmp1 rfl rfl nin_figs)) ⟨rfl, ?_⟩))
      cases hd : !isDig c with
      | true => exact bif_t (wp_rfl rfl ⟨rfl, rfl⟩)
      | false => exact bif_f rfl
    · rintro p m1 m2 rfl l2 kp _
      refine pe_list (wp_rfl rfl (wp_alloc fun q m3 l3 kq _ => wp_eq (nz_chs (l3.has kp) kq) (wp_rfl rfl ?_)))
      rw [filter_dig]
      cases hd : l.all isDig with
      | false =>
        refine bif_f (s_ret (wp_rfl rfl ⟨?_, l2.trans l3⟩))
        unfold numV numOk; rw [hd, Bool.and_false]; rfl
      | true =>
        refine bif_t ?_
        cases l with
        | nil => exact absurd k1 (by decide)
        | cons c r =>
          refine q_ite (t := lead (c :: r)) (q_all ((q_ands (q_val (q_cmp1 (x := .str ⟨#[c]⟩) (q_idx rfl rfl rfl) rfl rfl)) (q_ands (q_val (q_cmp1 rfl rfl rfl)) q_end)).trans (by rw [Bool.and_true]; rfl))) ?_
          cases hz : lead (c :: r) with
          | true =>
            refine s_ret (wp_rfl rfl ⟨?_, l2.trans l3⟩)
            unfold numV numOk; rw [hk, hz]; rfl
          | false =>
            refine s_ret (pe_bi (wp_rfl rfl (wp_eq (int_eq hd k1 k2) ⟨?_, l2.trans l3⟩)))
            unfold numV numOk; rw [hk, hz, hd]; rfl
end P03
end Mini

namespace Mini
namespace P03
open PySem C03
/-! a number's text -/
noncomputable def dec (n : Nat) : List Nat := (Nat.toDigits 10 n).map Char.toNat
theorem dec_one {n : Nat} (h : n < 10) : dec n = [48 + n] := by
  unfold dec; rw [Nat.toDigits_of_lt_base h]
  have : ∀ d : Nat, d < 10 → (Nat.digitChar d).toNat = 48 + d := by decide
  show [(Nat.digitChar n).toNat] = _
  rw [this n h]
theorem dec_more {n : Nat} (h : 10 ≤ n) : dec n = dec (n / 10) ++ [48 + n % 10] := by
  have hm : n % 10 < 10 := Nat.mod_lt n (by decide)
  have t : Nat.toDigits 10 (n / 10) ++ Nat.toDigits 10 (n % 10) = Nat.toDigits 10 (10 * (n / 10) + n % 10) := Nat.toDigits_append_toDigits (by decide) (by omega) hm
  rw [Nat.div_add_mod] at t
  unfold dec
  rw [← t, List.map_append]
  exact congrArg _ (dec_one hm)
theorem dec_val (n : Nat) : digV (dec n) = n := by
  induction n using Nat.strongRecOn with
  | _ n ih =>
    by_cases h : n < 10
    · rw [dec_one h]; show 0 * 10 + (48 + n - 48) = n; omega
    · rw [dec_more (by omega)]
      unfold digV
      rw [List.foldl_append]
      show digV (dec (n / 10)) * 10 + (48 + n % 10 - 48) = n
      rw [ih (n / 10) (by omega)]; omega
theorem dig_of {d : Nat} (h : d < 10) : isDig (48 + d) = true := by
  unfold isDig; rw [decide_eq_true (by omega), decide_eq_true (by omega)]; rfl
theorem dec_all (n : Nat) : (dec n).all isDig = true := by
  induction n using Nat.strongRecOn with
  | _ n ih =>
    by_cases h : n < 10
    · rw [dec_one h, List.all_cons, dig_of h]; rfl
    · rw [dec_more (by omega), List.all_append, ih (n / 10) (by omega), List.all_cons, dig_of (by omega)]; rfl
theorem dec_head (n : Nat) (h1 : 1 ≤ n) : ∃ c r, dec n = c :: r ∧ c ≠ 48 := by
  induction n using Nat.strongRecOn with
  | _ n ih =>
    by_cases h : n < 10
    · exact ⟨_, _, dec_one h, by omega⟩
    · obtain ⟨c, r, e, k⟩ := ih (n / 10) (by omega) (by omega)
      exact ⟨c, r ++ [48 + n % 10], by rw [dec_more (by omega), e]; rfl, k⟩
theorem dec_len (n : Nat) : ∀ k, n < 10 ^ (k + 1) → 1 ≤ (dec n).length ∧ (dec n).length ≤ k + 1 := by
  induction n using Nat.strongRecOn with
  | _ n ih =>
    intro k hk
    by_cases h : n < 10
    · rw [dec_one h]; exact ⟨Nat.le_refl _, Nat.le_add_left _ _⟩
    · rw [dec_more (by omega), List.length_append]
      cases k with
      | zero => exact absurd hk h
      | succ k =>
        have := ih (n / 10) (by omega) k (by rw [Nat.pow_succ] at hk; omega)
        exact ⟨Nat.le_add_left _ _, Nat.succ_le_succ this.2⟩
theorem one_zero {c : Nat} (h : c ≠ 48) : ((⟨#[c]⟩ : Str) == zeroS) = false := by
  rw [show zeroS = ⟨#[48]⟩ by decide +kernel]
  refine beq_false_of_ne fun e => h ?_
  have := congrArg (fun z : Str => z.cps.toList) e
  exact (List.cons.inj this).1
theorem dec_ok {n : Nat} (h : n < 10000) : numOk (dec n) = true := by
  obtain ⟨l1, l2⟩ := dec_len n 3 h
  have e1 : lenOk (dec n) = true := by
    unfold lenOk; rw [decide_eq_true (by omega), decide_eq_true (by omega)]; rfl
  have e2 : lead (dec n) = false := by
    cases n with
    | zero => rw [dec_one (by decide)]; decide +kernel
    | succ n =>
      obtain ⟨c, r, e, k⟩ := dec_head (n + 1) (Nat.le_add_left _ _)
      rw [e]
      show ((⟨#[c]⟩ : Str) == zeroS && !(st (c :: r) == zeroS)) = false
      rw [one_zero k]; rfl
  unfold numOk; rw [e1, e2, dec_all]; rfl
theorem of_toList (s : String) : (Str.ofString s).cps.toList = s.toList.map Char.toNat := by
  rw [Str.ofString_eq_toList]
theorem text_dec (n : Nat) : intText (n : Int) = st (dec n) := by
  have e : (intText (n : Int)).cps.toList = dec n := by
    unfold intText; rw [of_toList]
    show (Nat.repr n).toList.map Char.toNat = _
    rw [Nat.toList_repr]; rfl
  unfold st; rw [← e]
theorem dec_no (n : Nat) : 32 ∉ dec n := fun h => by
  have := List.all_eq_true.mp (dec_all n) 32 h
  exact absurd this (by decide)
/-! parts -/
theorem split_free {c : Nat} : ∀ {p : List Nat} (r : List Nat), c ∉ p → splitC c (p ++ c :: r) = p :: splitC c r
  | [], r, _ => if_pos rfl
  | x :: p, r, h => by
    have hx : ¬ x = c := fun e => h (e ▸ .head _)
    show (if x = c then [] :: splitC c (p ++ c :: r) else match splitC c (p ++ c :: r) with | [] => [[x]] | p :: ps => (x :: p) :: ps) = _
    rw [if_neg hx, split_free r fun q => h (.tail _ q)]
theorem split_one {c : Nat} : ∀ {p : List Nat}, c ∉ p → splitC c p = [p]
  | [], _ => rfl
  | x :: p, h => by
    have hx : ¬ x = c := fun e => h (e ▸ .head _)
    show (if x = c then [] :: splitC c p else match splitC c p with | [] => [[x]] | p :: ps => (x :: p) :: ps) = _
    rw [if_neg hx, split_one fun q => h (.tail _ q)]
theorem split_len {c : Nat} : ∀ (l p : List Nat), p ∈ splitC c l → p.length ≤ l.length
  | [], p, h => by rw [List.mem_singleton.mp h]; exact Nat.le_refl _
  | x :: l, p, h => by
    have ih := split_len (c := c) l
    have h : p ∈ (if x = c then [] :: splitC c l else match splitC c l with | [] => [[x]] | p :: ps => (x :: p) :: ps) := h
    by_cases hx : x = c
    · rw [if_pos hx] at h
      rcases List.mem_cons.mp h with e | e
      · rw [e]; exact Nat.zero_le _
      · exact Nat.le_succ_of_le (ih p e)
    · rw [if_neg hx] at h
      cases q : splitC c l with
      | nil => rw [q] at h; rw [List.mem_singleton.mp h]; exact Nat.succ_le_succ (Nat.zero_le _)
      | cons p0 ps =>
        rw [q] at h ih
        rcases List.mem_cons.mp h with e | e
        · rw [e]; exact Nat.succ_le_succ (ih p0 (.head _))
        · exact Nat.le_succ_of_le (ih p (.tail _ e))
end P03
end Mini

namespace Mini
namespace P03
open PySem C03
variable {m m' : MH}
noncomputable def byS : Str := Str.ofString "by"
noncomputable def W (a b d f : List Nat) : V := .tup [.str (st a), .int (digV b), .str (st d), .int (digV f)]
noncomputable def wordOf (c : Int) (a b d f : List Nat) : Option V := bif numOk b && (numOk f && isW c (W a b d f)) then some (W a b d f) else none
noncomputable def pt (ps : List (List Nat)) (k : Nat) : List Nat := ps.getD k []
noncomputable def dueP (c : Int) (ps : List (List Nat)) : Option V := bif (ps.length : Int) == 5 && st (pt ps 3) == byS then wordOf c (pt ps 0) (pt ps 1) (pt ps 2) (pt ps 4) else none
noncomputable def dueW (c : Int) (v : V) : Option V := match v with
  | .str s => dueP c (splitC 32 s.cps.toList)
  | _ => none
noncomputable def toV (o : Option V) : V := match o with
  | some v => v
  | none => .none
noncomputable abbrev txts (ps : List (List Nat)) : List V := ps.map fun l => V.str (st l)
theorem pe_ite {S : Sig} {F : Fns} {r : Lo} {m : MH} {cb : CB} {a b : CE} {Q : V → MH → Prop} {E : Nat → MH → Prop} (h : Wp (evT S F cb r) m (fun t m' => bif t then Wp (ev S F a r) m' Q E else Wp (ev S F b r) m' Q E) E) : Wp (ev S F (.ite cb a b) r) m Q E :=
  wp_bnd (x := evT S F cb r) (wp_mono h (fun t m' q => by cases t <;> exact q) fun _ _ q => q)
theorem blank : (Str.ofString " ").cps.toList = [32] := by decide +kernel
theorem w_split {s : Str} {Q : V → MH → Prop} {E : Nat → MH → Prop} (h : s.length ≤ 64) (k : ∀ p m', Le m m' → m'[p]? = some (.list (txts (splitC 32 s.cps.toList))) → m.length ≤ p → Q (.ref p) m') : Wp (smethV 2 (.str s) .split [.str (Str.ofString " ")]) m Q E := by
  refine wp_eq (a := .ref m.length) (m' := m ++ [.list (txts (splitC 32 s.cps.toList))]) ?_ (k _ _ (.app _ _) new_has (Nat.le_refl _))
  show (match (Str.ofString " ").cps.toList with | [c] => if s.length ≤ 4000 then alloc (.list ((splitC c s.cps.toList).map fun (l : List Nat) => V.str ⟨l.toArray⟩)) m else .bad | _ => .bad) = _
  rw [blank]; dsimp only
  rw [if_pos (show s.length ≤ 4000 by omega)]; rfl
theorem len_l {p : Nat} {xs : List V} (h : m[p]? = some (.list xs)) : biV .len [.ref p] m = .ok (.int xs.length) m := by
  unfold biV; dsimp only; rw [h]
theorem part_at {ps : List (List Nat)} {p k : Nat} (h : m[p]? = some (.list (txts ps))) (h5 : ps.length = 5) (hk : k < 5) : idxV (.ref p) (.int (k : Nat)) m = .ok (.str (st (pt ps k))) m := by
  have hl : k < ps.length := by omega
  have e : at_ (txts ps) (k : Nat) = some (.str (st (pt ps k))) := by
    unfold at_ pt
    rw [if_pos (Int.natCast_nonneg k), Int.toNat_natCast, List.getElem?_map, List.getD_eq_getElem?_getD, List.getElem?_eq_getElem hl]; rfl
  unfold idxV; dsimp only; rw [h]; dsimp only
  rw [if_pos (show ((k : Nat) : Int).natAbs < 2 ^ 60 by omega), e]; rfl
/-- the look at the parts -/
theorem look_parts {S : Sig} {F : Fns} {r : Lo} {ps : List (List Nat)} {p : Nat} (hr : ev S F (.var 2) r m = .ok (.ref p) m) (h : m[p]? = some (.list (txts ps))) :
    evT S F (.all false [.val (.cmp (.bi .len [.var 2]) [.NotEq] [.cnst (.int 5)]), .val (.cmp (.idx (.var 2) (.cnst (.int 3))) [.NotEq] [.cnst (.str (Str.ofString "by"))])]) r m = .ok (!((ps.length : Int) == 5 && st (pt ps 3) == byS)) m := by
  have e0 : ev S F (.bi .len [.var 2]) r m = .ok (.int ps.length) m := by
    show Res.bind (Res.bind (ev S F (.var 2) r m) _) _ = _
    rw [hr]
    show biV .len [.ref p] m = _
    rw [len_l h, List.length_map]
  have e1 : evT S F (.val (.cmp (.bi .len [.var 2]) [.NotEq] [.cnst (.int 5)])) r m = .ok (!((ps.length : Int) == 5)) m := q_val (q_cmp1 e0 rfl rfl)
  cases h5 : (ps.length : Int) == 5 with
  | false => exact q_all (short (by rw [e1, h5]; rfl))
  | true =>
    have h5' : ps.length = 5 := by have := eq_of_beq h5; omega
    refine q_all ((q_ors e1 (q_ors (q_val (q_cmp1 (q_idx hr rfl (part_at (k := 3) h h5' (by decide))) rfl rfl)) q_end)).trans ?_)
    rw [h5, Bool.or_false]; rfl
theorem pt_len {ps : List (List Nat)} {k n : Nat} (h : ∀ p ∈ ps, p.length ≤ n) : (pt ps k).length ≤ n := by
  unfold pt
  rw [List.getD_eq_getElem?_getD]
  rcases Nat.lt_or_ge k ps.length with q | q
  · rw [List.getElem?_eq_getElem q]; exact h _ (List.getElem_mem q)
  · rw [List.getElem?_eq_none q]; exact Nat.zero_le _
theorem Pl.st {l : List Nat} (h : l.length ≤ 64) : Pl m (.str (st l)) := .str _ h
theorem th4 {a b d f : V} (ha : Pl m a) (hb : Pl m b) (hd : Pl m d) (hf : Pl m f) : Th m (.tup [a, b, d, f]) :=
  ⟨.tup _ (by show 4 ≤ 64; decide), fun xs e x hx => by
    cases e
    cases hx with
    | head => exact ha
    | tail _ hx => cases hx with
      | head => exact hb
      | tail _ hx => cases hx with
        | head => exact hd
        | tail _ hx => cases hx with
          | head => exact hf
          | tail _ hx => cases hx⟩
theorem numV_pl {l : List Nat} : Pl m (numV l) := by unfold numV; cases numOk l <;> constructor
theorem isW_num {c : Int} {a b d f : List Nat} : (bif isW c (.tup [.str (st a), numV b, .str (st d), numV f]) then .tup [.str (st a), numV b, .str (st d), numV f] else V.none) = toV (wordOf c a b d f) := by
  unfold wordOf numV
  cases numOk b with
  | false => rfl
  | true =>
    cases numOk f with
    | false =>
      show (bif (num 0 9999 (.int (digV b)) && (rowB (.str (st d)) && false)) then _ else V.none) = _
      rw [Bool.and_false, Bool.and_false]; rfl
    | true =>
      show (bif isW c (W a b d f) then W a b d f else V.none) = toV (bif isW c (W a b d f) then some (W a b d f) else none)
      cases isW c (W a b d f) <;> rfl
section
variable {c : Int} {v : V}
theorem due_ok (n : Nat) (c1 : 1 ≤ c) (hv : Pl m v) : Wp (run sig (n + 3) 18 [.int c, v]) m (fun u m' => u = toV (dueW c v) ∧ Le m m') nox := by
  refine wp_run rfl rfl (q_ite (q_not (q_val (q_isi rfl (isi_str hv)))) ?_)
  have no : vS v = false → Wp (exs sig (run sig (n + 2)) [.ret (.cnst .none)] [some (.int c), some v, none, none]) m (fun p m' => match p.1 with | .ret u => u = toV (dueW c v) ∧ Le m m' | .next => V.none = toV (dueW c v) ∧ Le m m' | .cont => False) nox := fun h => by
    refine s_ret (wp_rfl rfl ⟨?_, .refl _⟩)
    cases v <;> first | rfl | cases h
  cases hv with
  | str s hs =>
    refine s_asg (pe_smeth (wp_rfl rfl ⟨2, rfl, rfl, wp_rfl rfl (w_split hs fun p m1 l1 k1 _ => ?_)⟩))
    have hp : ∀ p ∈ splitC 32 s.cps.toList, p.length ≤ 64 := fun p hp => Nat.le_trans (split_len _ p hp) hs
    show Wp _ m1 (fun (p : Fl × Lo) m' => match p.1 with | .ret u => u = toV (dueP c (splitC 32 s.cps.toList)) ∧ Le m m' | .next => V.none = toV (dueP c (splitC 32 s.cps.toList)) ∧ Le m m' | .cont => False) nox
    generalize splitC 32 s.cps.toList = ps at k1 hp ⊢
    refine q_ite (look_parts (p := p) rfl k1) ?_
    unfold dueP
    cases hb : ((ps.length : Int) == 5 && st (pt ps 3) == byS) with
    | false => exact s_ret (wp_rfl rfl ⟨rfl, l1⟩)
    | true =>
      have h5 : ps.length = 5 := by have := eq_of_beq (Bool.and_eq_true_iff.mp hb).1; omega
      refine s_asg (pe_tup (pes_cons (wp_eq (q_idx rfl rfl (part_at (k := 0) k1 h5 (by decide))) (pes_cons (pe_call (pes_cons (wp_eq (q_idx rfl rfl (part_at (k := 1) k1 h5 (by decide))) (pes_nil (wp_use (lnumber_ok (n + 1) (pt_len hp)) ?_)))))))))
      rintro _ m2 ⟨rfl, l2⟩
      have k2 := l2.has k1
      refine pes_cons (wp_eq (q_idx rfl rfl (part_at (k := 2) k2 h5 (by decide))) (pes_cons (pe_call (pes_cons (wp_eq (q_idx rfl rfl (part_at (k := 4) k2 h5 (by decide))) (pes_nil (wp_use (lnumber_ok (n + 1) (pt_len hp)) ?_)))))))
      rintro _ m3 ⟨rfl, l3⟩
      refine pes_nil (s_ret (pe_ite (pt_val (pe_call (wp_rfl rfl (wp_use (lword_ok f_lword f_among f_lrow n c1 (th4 (Pl.st (pt_len hp)) numV_pl (Pl.st (pt_len hp)) numV_pl)) ?_))))))
      rintro _ m4 ⟨rfl, l4⟩
      refine wp_rfl rfl ?_
      have l5 := ((l1.trans l2).trans l3).trans l4
      have e := isW_num (c := c) (a := pt ps 0) (b := pt ps 1) (d := pt ps 2) (f := pt ps 4)
      cases hw : isW c (.tup [.str (st (pt ps 0)), numV (pt ps 1), .str (st (pt ps 2)), numV (pt ps 4)]) with
      | true => rw [hw] at e; exact bif_t (wp_rfl rfl ⟨e, l5⟩)
      | false => rw [hw] at e; exact bif_f (wp_rfl rfl ⟨e, l5⟩)
  | none => exact no rfl
  | bool b => exact no rfl
  | int i => exact no rfl
  | tup xs h => exact no rfl
  | list p xs hp => exact no rfl
  | dict p kvs e hp => exact no rfl
theorem read_ok (n : Nat) (c1 : 1 ≤ c) (c2 : c ≤ 12) (hv : Pl m v) : Wp (run sig (n + 4) 7 [.int c, v]) m (fun u m' => dueW c v = some u ∧ Le m m') (fun e m' => e = 9 ∧ dueW c v = none ∧ Le m m') := by
  refine wp_run rfl rfl (s_exp (wp_eq (q_call1 rfl (need1 (n + 1) c1 c2)) (q_ite (q_not (q_val (q_isi rfl (isi_str hv)))) ?_)))
  have no : ∀ {Q}, vS v = false → Wp (exs sig (run sig (n + 3)) [.rse 9 (Str.ofString "no text")] [some (.int c), some v, none, none]) m Q (fun e m' => e = 9 ∧ dueW c v = none ∧ Le m m') := fun h => by
    refine s_rse ⟨rfl, ?_, .refl _⟩
    cases v <;> first | rfl | cases h
  cases hv with
  | str s hs =>
    refine s_asg (pe_smeth (wp_rfl rfl ⟨2, rfl, rfl, wp_rfl rfl (w_split hs fun p m1 l1 k1 _ => ?_)⟩))
    have hp : ∀ p ∈ splitC 32 s.cps.toList, p.length ≤ 64 := fun p hp => Nat.le_trans (split_len _ p hp) hs
    show Wp _ m1 (fun (p : Fl × Lo) m' => match p.1 with | .ret u => dueP c (splitC 32 s.cps.toList) = some u ∧ Le m m' | .next => dueP c (splitC 32 s.cps.toList) = some V.none ∧ Le m m' | .cont => False) (fun e m' => e = 9 ∧ dueP c (splitC 32 s.cps.toList) = none ∧ Le m m')
    generalize splitC 32 s.cps.toList = ps at k1 hp ⊢
    refine q_ite (look_parts (p := p) rfl k1) ?_
    unfold dueP
    cases hb : ((ps.length : Int) == 5 && st (pt ps 3) == byS) with
    | false => exact s_rse ⟨rfl, rfl, l1⟩
    | true =>
      have h5 : ps.length = 5 := by have := eq_of_beq (Bool.and_eq_true_iff.mp hb).1; omega
      show Wp _ m1 (fun (p : Fl × Lo) m' => match p.1 with | .ret u => wordOf c (pt ps 0) (pt ps 1) (pt ps 2) (pt ps 4) = some u ∧ Le m m' | .next => wordOf c (pt ps 0) (pt ps 1) (pt ps 2) (pt ps 4) = some V.none ∧ Le m m' | .cont => False) (fun e m' => e = 9 ∧ wordOf c (pt ps 0) (pt ps 1) (pt ps 2) (pt ps 4) = none ∧ Le m m')
      refine s_asg (pe_tup (pes_cons (wp_eq (q_idx rfl rfl (part_at (k := 0) k1 h5 (by decide))) (pes_cons (pe_call (pes_cons (wp_eq (q_idx rfl rfl (part_at (k := 1) k1 h5 (by decide))) (pes_nil (wp_mono (number_ok (n + 2) (pt_len hp)) ?_ ?_)))))))))
      · rintro _ _ ⟨rfl, n1, rfl⟩
        refine pes_cons (wp_eq (q_idx rfl rfl (part_at (k := 2) k1 h5 (by decide))) (pes_cons (pe_call (pes_cons (wp_eq (q_idx rfl rfl (part_at (k := 4) k1 h5 (by decide))) (pes_nil (wp_mono (number_ok (n + 2) (pt_len hp)) ?_ ?_)))))))
        · rintro _ _ ⟨rfl, n2, rfl⟩
          refine pes_nil (q_ite (q_not (q_val (q_callL rfl (word_ok n c1 c2 (th4 (Pl.st (pt_len hp)) (.int _) (Pl.st (pt_len hp)) (.int _)))))) ?_)
          have e : wordOf c (pt ps 0) (pt ps 1) (pt ps 2) (pt ps 4) = bif isW c (W (pt ps 0) (pt ps 1) (pt ps 2) (pt ps 4)) then some (W (pt ps 0) (pt ps 1) (pt ps 2) (pt ps 4)) else none := by
            unfold wordOf; rw [n1, n2]; rfl
          rw [e]
          show Wp (exs sig _ ((bif !isW c (W (pt ps 0) (pt ps 1) (pt ps 2) (pt ps 4)) then _ else _) ++ _) _) _ _ _
          cases hw : isW c (W (pt ps 0) (pt ps 1) (pt ps 2) (pt ps 4)) with
          | true => exact s_ret (wp_rfl rfl ⟨rfl, l1⟩)
          | false => exact s_rse ⟨rfl, rfl, l1⟩
        · rintro _ _ ⟨rfl, n2, rfl⟩
          refine ⟨rfl, ?_, l1⟩
          unfold wordOf; rw [n1, n2]; rfl
      · rintro _ _ ⟨rfl, n1, rfl⟩
        refine ⟨rfl, ?_, l1⟩
        unfold wordOf; rw [n1]; rfl
  | none => exact no rfl
  | bool b => exact no rfl
  | int i => exact no rfl
  | tup xs h => exact no rfl
  | list p xs hp => exact no rfl
  | dict p kvs e hp => exact no rfl
/-- what is said: the word in a list, or the kind -/
noncomputable def Said (c : Int) (v : V) (u : V) (m : MH) : Prop := match dueW c v with
  | some w => ∃ p, u = .ref p ∧ m[p]? = some (.list [w])
  | none => u = .tup [.str (Str.ofString "text")]
theorem said_ok (n : Nat) (c1 : 1 ≤ c) (c2 : c ≤ 12) (hv : Pl m v) : Wp (run sig (n + 5) 20 [.int c, v]) m (fun u m' => Said c v u m' ∧ Le m m') nox := by
  refine wp_run rfl rfl (s_try (s_ret (pe_list (pes_cons (pe_call (wp_rfl rfl (wp_mono (read_ok n c1 c2 hv) ?_ ?_)))))))
  · rintro u m1 ⟨e, l1⟩
    refine pes_nil (wp_alloc fun p m2 l2 k2 _ => ⟨?_, l1.trans l2⟩)
    unfold Said; rw [e]; exact ⟨p, rfl, k2⟩
  · rintro _ m1 ⟨rfl, e, l1⟩
    refine ⟨rfl, pe_call (wp_rfl rfl (wp_use (kind_ok f_kind (n + 3) 9 (fun c => [9, 1, 0].contains c) (Str.ofString "text") m1 (fun _ _ => rfl) rfl (by decide) rfl (by decide)) ?_))⟩
    rintro _ m2 ⟨rfl, l2⟩
    refine ⟨?_, l1.trans l2⟩
    unfold Said; rw [e]
theorem refused_ok (n : Nat) {v u : V} (hv : Pl m v) (hu : Pl m u) (hb : isC v = false) : Wp (run sig (n + 5) 20 [v, u]) m (fun u m' => u = .tup [.str (Str.ofString "count")] ∧ Le m m') nox := by
  have en : run sig (n + 3) 1 [v] m = .exc 2 m := by rw [need_ok f_need f_whole rfl (n + 1) hv, hb]; rfl
  refine wp_run rfl rfl (s_try (s_ret (pe_list (pes_cons (pe_call (wp_rfl rfl (wp_run (n := n + 3) rfl rfl (s_exp (pe_call (wp_rfl rfl (wp_exc en ?_)))))))))))
  refine ⟨rfl, pe_call (wp_rfl rfl (wp_use (kind_ok f_kind (n + 3) 2 (fun c => [2, 1, 0].contains c) (Str.ofString "count") m (fun _ _ => rfl) rfl (by decide) rfl (by decide)) ?_))⟩
  rintro _ m2 ⟨rfl, l2⟩
  exact ⟨rfl, l2⟩
end
end P03
end Mini

namespace Mini
namespace P03
open PySem C03
variable {m m' : MH}
theorem at_mem {xs : List V} {k : Int} (h0 : 0 ≤ k) (h1 : k < xs.length) : ∃ v, at_ xs k = some v ∧ v ∈ xs := by
  have : k.toNat < xs.length := by omega
  refine ⟨xs[k.toNat], ?_, List.getElem_mem this⟩
  unfold at_; rw [if_pos h0, List.getElem?_eq_getElem this]
/-! the word -/
noncomputable def sayL : List Nat := [115, 97, 121]
noncomputable def markL : List Nat := [109, 97, 114, 107]
theorem say_eq : Str.ofString "say" = st sayL := by decide +kernel
theorem mark_eq : Str.ofString "mark" = st markL := by decide +kernel
/-- a word as its parts -/
noncomputable def Wd (k : List Nat) (i : Nat) (r : List Nat) (h : Nat) : V := .tup [.str (st k), .int i, .str (st r), .int h]
structure IsWd (c : Int) (k : List Nat) (i : Nat) (r : List Nat) (h : Nat) : Prop where
  kind : k = sayL ∨ k = markL
  num : i < 10000
  all : r.all okC = true
  len : r.length ≤ 8
  house : h < 100
  ok : isW c (Wd k i r h) = true
theorem word_is {c : Int} {s r : Str} {i h : Int} (hi0 : 0 ≤ i) (hi : i ≤ 9999) (hr : rowB (.str r) = true) (h0 : 0 ≤ h) (h1 : h < c) (hw : isW4 c (.str s) (.int i) (.int h) = true) : isW c (.tup [.str s, .int i, .str r, .int h]) = true := by
  show (num 0 9999 (.int i) && (rowB (.str r) && (num 0 (c - 1) (.int h) && isW4 c (.str s) (.int i) (.int h)))) = true
  have e1 : num 0 9999 (.int i) = true := by show (decide (0 ≤ i) && decide (i ≤ 9999)) = true; rw [decide_eq_true hi0, decide_eq_true hi]; rfl
  have e2 : num 0 (c - 1) (.int h) = true := by show (decide (0 ≤ h) && decide (h ≤ c - 1)) = true; rw [decide_eq_true h0, decide_eq_true (show h ≤ c - 1 by omega)]; rfl
  rw [e1, e2, hr, hw]; rfl
theorem say_w4 {c i : Int} (hc : 0 < c) : isW4 c (.str (Str.ofString "say")) (.int i) (.int (i % c)) = true := by
  show (Str.ofString "say" == markS || (Str.ofString "say" == sayS && (i - i % c) % c == 0)) = true
  rw [← mod_same (i := i) hc (Int.emod_nonneg _ (by omega)) (Int.emod_lt_of_pos _ hc), beq_self_eq_true (i % c), show (Str.ofString "say" == sayS) = true by decide +kernel, Bool.and_true, Bool.or_true]
theorem mark_w4 {c i h : Int} : isW4 c (.str (Str.ofString "mark")) (.int i) (.int h) = true := by
  show (Str.ofString "mark" == markS || (Str.ofString "mark" == sayS && (i - h) % c == 0)) = true
  rw [show (Str.ofString "mark" == markS) = true by decide +kernel]; rfl
theorem lword_mk (n : Nat) {cell c base : Int} (c1 : 1 ≤ c) (c2 : c ≤ 12) : Wp (run sig (n + 2) 16 [.int cell, .int c, .int base]) m (fun v m' => (∃ k i r h, v = Wd k i r h ∧ IsWd c k i r h) ∧ Le m m') nox := by
  refine wp_run rfl rfl (s_asg (pe_idx (pe_list (wp_rfl rfl (wp_alloc fun q m1 l1 k1 _ => ?_)))))
  obtain ⟨v, ev, mv⟩ := at_mem (xs := [V.int (cell / 2 % 30), .int (9999 - cell / 2 % 30), .int (cell / 2 % 10000)]) (k := cell / 60 % 3) (by omega) (by show cell / 60 % 3 < 3; omega)
  refine wp_rfl rfl (w_idxl k1 ev (by omega) ?_)
  have hv : ∃ i : Nat, v = .int (i : Int) ∧ i < 10000 := by
    have a1 : 0 ≤ cell / 2 % 30 ∧ cell / 2 % 30 < 30 := by omega
    have a2 : 0 ≤ cell / 2 % 10000 ∧ cell / 2 % 10000 < 10000 := by omega
    cases mv with
    | head => exact ⟨(cell / 2 % 30).toNat, congrArg V.int (by omega), by omega⟩
    | tail _ mv => cases mv with
      | head => exact ⟨(9999 - cell / 2 % 30).toNat, congrArg V.int (by omega), by omega⟩
      | tail _ mv => cases mv with
        | head => exact ⟨(cell / 2 % 10000).toNat, congrArg V.int (by omega), by omega⟩
        | tail _ mv => cases mv
  obtain ⟨i, rfl, hi⟩ := hv
  clear ev mv k1
  refine s_asg (pe_call (wp_rfl rfl (wp_use (row_ok f_row n base (cell / 180 % 4) m1) ?_)))
  rintro _ m2 ⟨rfl, l2⟩
  have hr := row_isrow base (cell / 180 % 4)
  obtain ⟨r1, r2, r3⟩ := rowL_ok base (cell / 180 % 4)
  refine q_ite (t := cell % 2 == 0) (q_val (q_cmp1 (q_bin rfl rfl rfl) rfl rfl)) ?_
  have go : ∀ (s : String) (kl : List Nat) (h : Int), Str.ofString s = st kl → (kl = sayL ∨ kl = markL) → 0 ≤ h → h < c → isW4 c (.str (Str.ofString s)) (.int i) (.int h) = true → ∃ k j r g, V.tup [.str (Str.ofString s), .int i, .str (row base (cell / 180 % 4)), .int h] = Wd k j r g ∧ IsWd c k j r g := by
    intro s kl h es hk h0 h1 hw
    have e : V.tup [.str (Str.ofString s), .int i, .str (row base (cell / 180 % 4)), .int h] = Wd kl i (rowL base (cell / 180 % 4)) h.toNat := by
      unfold Wd; rw [es, Int.toNat_of_nonneg h0]; rfl
    refine ⟨kl, i, rowL base (cell / 180 % 4), h.toNat, e, hk, hi, r1, r3, by omega, ?_⟩
    rw [← e]
    exact word_is (Int.natCast_nonneg i) (by omega) hr h0 h1 hw
  cases hz : cell % 2 == 0 with
  | true =>
    refine s_ret (wp_eq (a := .tup [.str (Str.ofString "say"), .int i, .str (row base (cell / 180 % 4)), .int (i % c)]) (m' := m2) ?_ ⟨go _ _ _ say_eq (.inl rfl) (Int.emod_nonneg _ (by omega)) (Int.emod_lt_of_pos _ (by omega)) (say_w4 (by omega)), l1.trans l2⟩)
    exact wp_eqn (pe_tup (pes_cons (wp_rfl rfl (pes_cons (wp_rfl rfl (pes_cons (wp_rfl rfl (pes_cons (wp_eq (q_bin rfl rfl (mod_eq (by omega))) (pes_nil ⟨rfl, rfl⟩)))))))))) 
  | false =>
    refine s_ret (wp_eq (a := .tup [.str (Str.ofString "mark"), .int i, .str (row base (cell / 180 % 4)), .int (cell / 720 % c)]) (m' := m2) ?_ ⟨go _ _ _ mark_eq (.inr rfl) (Int.emod_nonneg _ (by omega)) (Int.emod_lt_of_pos _ (by omega)) mark_w4, l1.trans l2⟩)
    exact wp_eqn (pe_tup (pes_cons (wp_rfl rfl (pes_cons (wp_rfl rfl (pes_cons (wp_rfl rfl (pes_cons (wp_eq (q_bin (q_bin rfl rfl rfl) rfl (mod_eq (by omega))) (pes_nil ⟨rfl, rfl⟩))))))))))
/-! the text -/
noncomputable def byL : List Nat := [98, 121]
noncomputable def partsOf (k : List Nat) (i : Nat) (r : List Nat) (h : Nat) : List (List Nat) := [k, dec i, r, byL, dec h]
noncomputable def textOf (k : List Nat) (i : Nat) (r : List Nat) (h : Nat) : List Nat := k ++ 32 :: (dec i ++ 32 :: (r ++ 32 :: (byL ++ 32 :: dec h)))
section
variable {c : Int} {k r : List Nat} {i h : Nat}
theorem row_no {r : List Nat} (hr : r.all okC = true) : 32 ∉ r := fun q => by
  have := List.all_eq_true.mp hr 32 q
  exact absurd this (by decide +kernel)
theorem IsWd.free (w : IsWd c k i r h) : 32 ∉ k := by
  rcases w.kind with rfl | rfl <;> decide
theorem IsWd.klen (w : IsWd c k i r h) : k.length ≤ 4 := by
  rcases w.kind with rfl | rfl <;> decide
theorem text_split (w : IsWd c k i r h) : splitC 32 (textOf k i r h) = partsOf k i r h := by
  unfold textOf partsOf
  rw [split_free _ w.free, split_free _ (dec_no i), split_free _ (row_no w.all), split_free _ (by decide), split_one (dec_no h)]
theorem IsWd.lens (w : IsWd c k i r h) : k.length ≤ 4 ∧ (dec i).length ≤ 4 ∧ r.length ≤ 8 ∧ (dec h).length ≤ 2 :=
  ⟨w.klen, (dec_len i 3 w.num).2, w.len, (dec_len h 1 w.house).2⟩
theorem parts_len (w : IsWd c k i r h) : ∀ p ∈ partsOf k i r h, p.length ≤ 8 := by
  obtain ⟨h1, h2, h3, h4⟩ := w.lens
  intro p hp
  cases hp with
  | head => omega
  | tail _ hp => cases hp with
    | head => omega
    | tail _ hp => cases hp with
      | head => omega
      | tail _ hp => cases hp with
        | head => decide
        | tail _ hp => cases hp with
          | head => omega
          | tail _ hp => cases hp
theorem text_len (w : IsWd c k i r h) : (textOf k i r h).length ≤ 28 := by
  obtain ⟨h1, h2, h3, h4⟩ := w.lens
  have h5 : byL.length = 2 := rfl
  unfold textOf
  simp only [List.length_append, List.length_cons]
  omega
theorem text_due (w : IsWd c k i r h) : dueW c (.str (st (textOf k i r h))) = some (Wd k i r h) := by
  show dueP c (splitC 32 (textOf k i r h)) = _
  rw [text_split w]
  have e : W k (dec i) r (dec h) = Wd k i r h := by unfold W Wd; rw [dec_val, dec_val]
  show (bif (st byL == byS) then wordOf c k (dec i) r (dec h) else none) = _
  rw [show (st byL == byS) = true by decide +kernel]
  show wordOf c k (dec i) r (dec h) = _
  unfold wordOf
  rw [e, w.ok, dec_ok w.num, dec_ok (Nat.lt_trans w.house (by decide))]; rfl
theorem q_adds {S : Sig} {F : Fns} {r : Lo} {a b : CE} {x y : List Nat} (ha : ev S F a r m = .ok (.str (st x)) m) (hb : ev S F b r m = .ok (.str (st y)) m) (hl : x.length + y.length ≤ 64) : ev S F (.bin .Add a b) r m = .ok (.str (st (x ++ y))) m := by
  refine q_bin ha hb ?_
  show (if x.length + y.length ≤ lid then Res.ok (V.str (st x ++ st y)) m else .bad) = _
  rw [if_pos (by unfold lid; omega)]
  exact congrArg (fun z => Res.ok (V.str z) m) (str_app x y)
theorem q_str {S : Sig} {F : Fns} {r : Lo} {a : CE} {n : Nat} (ha : ev S F a r m = .ok (.int (n : Int)) m) (hn : n < 10000) : ev S F (.bi .str [a]) r m = .ok (.str (st (dec n))) m := by
  show Res.bind (Res.bind (ev S F a r m) _) _ = _
  rw [ha]
  show (if (n : Int).natAbs < 1000000 then Res.ok (V.str (intText n)) m else .bad) = _
  rw [if_pos (by omega), text_dec]
theorem q_cs {S : Sig} {F : Fns} {r : Lo} {s : String} {l : List Nat} (h : Str.ofString s = st l) : ev S F (.cnst (.str (Str.ofString s))) r m = .ok (.str (st l)) m := by rw [← h]; rfl
theorem blank_eq : Str.ofString " " = st [32] := by decide +kernel
theorem by_eq : Str.ofString "by" = st byL := by decide +kernel
theorem byb_eq : Str.ofString " by " = st (32 :: (byL ++ [32])) := by decide +kernel
theorem shown_ok (n : Nat) (w : IsWd c k i r h) : run sig (n + 1) 5 [Wd k i r h] m = .ok (.str (st (textOf k i r h))) m := by
  obtain ⟨h1, h2, h3, h4⟩ := w.lens
  have e : k ++ [32] ++ dec i ++ [32] ++ r ++ (32 :: (byL ++ [32])) ++ dec h = textOf k i r h := by
    unfold textOf byL; simp only [List.append_assoc, List.cons_append, List.nil_append]
  refine wp_eqn (wp_run rfl rfl (s_ret (wp_eq (a := .str (st (k ++ [32] ++ dec i ++ [32] ++ r ++ (32 :: (byL ++ [32])) ++ dec h))) (m' := m) (q_adds (q_adds (q_adds (q_adds (q_adds (q_adds rfl (q_cs blank_eq) ?_) (q_str rfl w.num) ?_) (q_cs blank_eq) ?_) rfl ?_) (q_cs byb_eq) ?_) (q_str rfl (Nat.lt_trans w.house (by decide))) ?_) ⟨congrArg (fun z => V.str (st z)) e, rfl⟩)))
  all_goals
    simp only [List.length_append, List.length_cons, List.length_nil, byL]
    omega
/-! join -/
noncomputable def joinF (acc : List Nat) (ps : List (List Nat)) : List Nat := ps.foldl (fun a p => a ++ [32] ++ p) acc
noncomputable def joinL (ps : List (List Nat)) : List Nat := match ps with
  | [] => []
  | p :: r => joinF p r
theorem joinF_st : ∀ (ps : List (List Nat)) (acc : List Nat), (ps.map st).foldl (fun a p => a ++ st [32] ++ p) (st acc) = st (joinF acc ps)
  | [], acc => rfl
  | p :: ps, acc => by
    have e : st acc ++ st [32] ++ st p = st (acc ++ [32] ++ p) := by
      rw [show st acc ++ st [32] = st (acc ++ [32]) from str_app _ _]; exact str_app _ _
    rw [List.map_cons, List.foldl_cons, e, joinF_st ps]; rfl
theorem joinF_len {b : Nat} : ∀ (ps : List (List Nat)) (acc : List Nat), (∀ p ∈ ps, p.length ≤ b) → (joinF acc ps).length ≤ acc.length + ps.length * (b + 1)
  | [], acc, _ => by show acc.length ≤ _; omega
  | p :: ps, acc, h => by
    have h1 := joinF_len ps (acc ++ [32] ++ p) fun q hq => h q (.tail _ hq)
    have h2 := h p (.head _)
    rw [List.length_append, List.length_append, List.length_singleton] at h1
    show (joinF (acc ++ [32] ++ p) ps).length ≤ _
    rw [List.length_cons, Nat.succ_mul]
    omega
theorem joinL_len {ps : List (List Nat)} (h6 : ps.length ≤ 6) (h9 : ∀ p ∈ ps, p.length ≤ 9) : (joinL ps).length ≤ 64 := by
  cases ps with
  | nil => exact Nat.zero_le _
  | cons p ps =>
    have h1 := joinF_len ps p fun q hq => h9 q (.tail _ hq)
    have h2 := h9 p (.head _)
    rw [List.length_cons] at h6
    show (joinF p ps).length ≤ 64
    omega
theorem isStr_st : ∀ ps : List (List Nat), isStrL (txts ps) = some (ps.map st)
  | [] => rfl
  | p :: ps => by
    show (isStrL (txts ps)).map _ = _
    rw [isStr_st ps]; rfl
theorem sum_st : ∀ (ps : List (List Nat)) (k : Nat), (∀ p ∈ ps, p.length ≤ 9) → (ps.map st).foldl (fun k x => k + x.length + (st [32]).length) k ≤ k + ps.length * 10
  | [], k, _ => Nat.le_refl _
  | p :: ps, k, h => by
    have h1 := sum_st ps (k + p.length + 1) fun q hq => h q (.tail _ hq)
    have h2 := h p (.head _)
    show (ps.map st).foldl _ (k + p.length + 1) ≤ _
    rw [List.length_cons, Nat.succ_mul]
    omega
theorem w_joinB {p : Nat} {ps : List (List Nat)} {Q : V → MH → Prop} {E : Nat → MH → Prop} (h : m[p]? = some (.list (txts ps))) (h6 : ps.length ≤ 6) (h9 : ∀ p ∈ ps, p.length ≤ 9) (q : Q (.str (st (joinL ps))) m) : Wp (smethV 2 (.str (Str.ofString " ")) .join [.ref p]) m Q E := by
  refine wp_eq (m' := m) ?_ q
  rw [blank_eq]
  show (match m[p]? with | some (.list xs) => (match isStrL xs with | some l => if sumLen (st [32]) l ≤ lid then Res.ok (V.str (joinS (st [32]) l)) m else .bad | Option.none => .bad) | _ => .bad) = _
  rw [h]; dsimp only; rw [isStr_st]; dsimp only
  rw [if_pos]
  · cases ps with
    | nil => rfl
    | cons p ps => exact congrArg (fun z => Res.ok (V.str z) m) (joinF_st ps p)
  · have := sum_st ps 0 h9
    unfold sumLen lid
    omega
theorem join_text : joinL (partsOf k i r h) = textOf k i r h := by
  show k ++ [32] ++ dec i ++ [32] ++ r ++ [32] ++ byL ++ [32] ++ dec h = _
  unfold textOf; simp only [List.append_assoc, List.cons_append, List.nil_append]
end
end P03
end Mini

namespace Mini
namespace P03
open PySem C03
variable {m m' : MH}
/-! what is bent -/
theorem cut_len {α : Type} (xs : List α) (lo hi : Option Int) : (cut xs lo hi).length ≤ xs.length := by
  unfold cut; dsimp only; rw [List.length_drop, List.length_take]; omega
theorem cut_mem {α : Type} {xs : List α} {lo hi : Option Int} {x : α} (h : x ∈ cut xs lo hi) : x ∈ xs := List.mem_of_mem_take (List.mem_of_mem_drop h)
theorem cut_strs (ps : List (List Nat)) (lo hi : Option Int) : cut (txts ps) lo hi = txts (cut ps lo hi) := by
  unfold cut txts; dsimp only
  rw [List.map_drop, List.map_take, List.length_map]
theorem bound_i {a : Int} (h0 : 0 ≤ a) (h1 : a ≤ 100) : bound (.int a) = some (some a) := if_pos (by omega)
section
variable {a : Int} {t : List Nat} (h0 : 0 ≤ a) (h1 : a ≤ 100) (hl : t.length ≤ 64)
include h0 h1 hl
theorem sl_hi : sliceV (.str (st t)) .none (.int a) .none m = .ok (.str (st (cut t none (some a)))) m := by
  show (if t.length ≤ lid then ofO ((sliceL t .none (.int a) .none).map fun l => V.str ⟨l.toArray⟩) m else .bad) = _
  rw [if_pos (by unfold lid; omega)]
  unfold sliceL; dsimp only; rw [bound_i h0 h1]; rfl
theorem sl_lo : sliceV (.str (st t)) (.int a) .none .none m = .ok (.str (st (cut t (some a) none))) m := by
  show (if t.length ≤ lid then ofO ((sliceL t (.int a) .none .none).map fun l => V.str ⟨l.toArray⟩) m else .bad) = _
  rw [if_pos (by unfold lid; omega)]
  unfold sliceL; dsimp only; rw [bound_i h0 h1]; rfl
end
section
variable {a : Int} {ps : List (List Nat)} {p : Nat} {Q : V → MH → Prop} {E : Nat → MH → Prop} (h : m[p]? = some (.list (txts ps))) (h0 : 0 ≤ a) (h1 : a ≤ 100)
include h h0 h1
theorem w_slhi (k : ∀ q m', Le m m' → m'[q]? = some (.list (txts (cut ps none (some a)))) → Q (.ref q) m') : Wp (sliceV (.ref p) .none (.int a) .none) m Q E := by
  refine wp_eq (a := .ref m.length) (m' := m ++ [.list (txts (cut ps none (some a)))]) ?_ (k _ _ (.app _ _) new_has)
  show (match m[p]? with | some (.list xs) => (match sliceL xs .none (.int a) .none with | some l => alloc (.list l) m | Option.none => .bad) | _ => .bad) = _
  rw [h]; dsimp only
  unfold sliceL; dsimp only; rw [bound_i h0 h1, ← cut_strs]; rfl
theorem w_sllo (k : ∀ q m', Le m m' → m'[q]? = some (.list (txts (cut ps (some a) none))) → Q (.ref q) m') : Wp (sliceV (.ref p) (.int a) .none .none) m Q E := by
  refine wp_eq (a := .ref m.length) (m' := m ++ [.list (txts (cut ps (some a) none))]) ?_ (k _ _ (.app _ _) new_has)
  show (match m[p]? with | some (.list xs) => (match sliceL xs (.int a) .none .none with | some l => alloc (.list l) m | Option.none => .bad) | _ => .bad) = _
  rw [h]; dsimp only
  unfold sliceL; dsimp only; rw [bound_i h0 h1, ← cut_strs]; rfl
end
theorem pe_slice {S : Sig} {F : Fns} {r : Lo} {a lo hi st : CE} {x l h t : V} {Q : V → MH → Prop} {E : Nat → MH → Prop} (ha : ev S F a r m = .ok x m) (hl : ev S F lo r m = .ok l m) (hh : ev S F hi r m = .ok h m) (ht : ev S F st r m = .ok t m) (k : Wp (sliceV x l h t) m Q E) : Wp (ev S F (.slice a lo hi st) r) m Q E :=
  wp_bnd (wp_eq ha (wp_bnd (wp_eq hl (wp_bnd (wp_eq hh (wp_bnd (wp_eq ht k)))))))
theorem len_cut {ps : List (List Nat)} {q a b : Int} (h5 : ps.length = 5) (h0 : 0 ≤ q) (hq : q < 5) (h : (a = q ∧ b = q + 1) ∨ (a = q + 1 ∧ b = q)) : (cut ps none (some a) ++ cut ps (some b) none).length ≤ 6 := by
  unfold cut clampU; dsimp only
  rw [List.length_append, List.length_drop, List.length_drop, List.length_take, List.length_take, h5]
  rcases h with ⟨rfl, rfl⟩ | ⟨rfl, rfl⟩
  · rw [if_pos h0, if_pos (by omega)]; omega
  · rw [if_pos h0, if_pos (by omega)]; omega
/-- places from behind too -/
theorem idx_back {ps : List (List Nat)} {p : Nat} {k : Int} (h : m[p]? = some (.list (txts ps))) (h5 : ps.length = 5) (h0 : -1 ≤ k) (h1 : k < 5) : ∃ x ∈ ps, idxV (.ref p) (.int k) m = .ok (.str (st x)) m := by
  have e : ∃ x ∈ ps, at_ (txts ps) k = some (.str (st x)) := by
    unfold at_
    by_cases hk : 0 ≤ k
    · have hl : k.toNat < ps.length := by omega
      exact ⟨ps[k.toNat], List.getElem_mem hl, by rw [if_pos hk, List.getElem?_map, List.getElem?_eq_getElem hl]; rfl⟩
    · have hl : (k + ((txts ps).length : Int)).toNat < ps.length := by rw [List.length_map]; omega
      exact ⟨ps[(k + ((txts ps).length : Int)).toNat], List.getElem_mem hl, by rw [if_neg hk, if_pos (by rw [List.length_map]; omega), List.getElem?_map, List.getElem?_eq_getElem hl]; rfl⟩
  obtain ⟨x, hx, e⟩ := e
  refine ⟨x, hx, ?_⟩
  unfold idxV; dsimp only; rw [h]; dsimp only
  rw [if_pos (show k.natAbs < 2 ^ 60 by omega), e]; rfl
theorem put_back {ps : List (List Nat)} {p : Nat} {k : Int} {x : List Nat} (h : m[p]? = some (.list (txts ps))) (h5 : ps.length = 5) (h0 : -1 ≤ k) (h1 : k < 5) : ∃ j, putIdx (.ref p) (.int k) (.str (st x)) m = .ok () (m.set p (.list (txts (ps.set j x)))) := by
  have e : ∀ j, (txts ps).set j (.str (st x)) = txts (ps.set j x) := fun j => by unfold txts; rw [List.map_set]
  have hl : (txts ps).length = 5 := by rw [List.length_map, h5]
  by_cases hk : 0 ≤ k
  · refine ⟨k.toNat, ?_⟩
    unfold putIdx; dsimp only; rw [h]; dsimp only
    rw [if_pos ⟨hk, by omega⟩, e]
  · refine ⟨(k + ((txts ps).length : Int)).toNat, ?_⟩
    unfold putIdx; dsimp only; rw [h]; dsimp only
    rw [if_neg (fun q => hk q.1), if_pos ⟨by omega, by omega⟩, e]
theorem mem_set {ps : List (List Nat)} {j b : Nat} {x : List Nat} (h : ∀ p ∈ ps, p.length ≤ b) (hx : x.length ≤ b) : ∀ p ∈ ps.set j x, p.length ≤ b := fun p hp => by
  rcases List.mem_or_eq_of_mem_set hp with q | q
  · exact h p q
  · rw [q]; exact hx
theorem s_asg2 {S : Sig} {F : Fns} {r : Lo} {ss : List CS} {o i o' i' e : CE} {a b x y x' y' : V} {m2 m3 : MH} {Q : Fl × Lo → MH → Prop} {E : Nat → MH → Prop} (he : ev S F e r m = .ok (.tup [a, b]) m) (ho : ev S F o r m = .ok x m) (hi : ev S F i r m = .ok y m) (h1 : putIdx x y a m = .ok () m2) (ho' : ev S F o' r m2 = .ok x' m2) (hi' : ev S F i' r m2 = .ok y' m2) (h2 : putIdx x' y' b m2 = .ok () m3) (k : Wp (exs S F ss r) m3 Q E) : Wp (exs S F (.asg (.idx2 o i o' i') e :: ss) r) m Q E :=
  s_cons (wp_bnd (wp_eq he (wp_bnd (wp_bnd (wp_eq ho (wp_bnd (wp_eq hi (wp_bnd (wp_eq h1 (wp_bnd (wp_eq ho' (wp_bnd (wp_eq hi' (wp_bnd (wp_eq h2 k))))))))))))))) 
theorem tail8 : (Str.ofString "abs0123 ").cps.toList.length = 8 := by decide +kernel
theorem sign8 {k : Int} (h0 : 0 ≤ k) (h1 : k < 8) : ∃ d, idxV (.str (Str.ofString "abs0123 ")) (.int k) m = .ok (.str (st [d])) m := by
  have hl : k.toNat < (Str.ofString "abs0123 ").cps.toList.length := by rw [tail8]; omega
  refine ⟨(Str.ofString "abs0123 ").cps.toList[k.toNat], ?_⟩
  show (if k.natAbs < 2 ^ 60 then ofO ((at_ (Str.ofString "abs0123 ").cps.toList k).map fun c => V.str ⟨#[c]⟩) m else .bad) = _
  unfold at_
  rw [if_pos (by omega), if_pos h0, List.getElem?_eq_getElem hl]; rfl
/-- the code that is left -/
noncomputable abbrev Bent (m : MH) : Fl × Lo → MH → Prop := fun p m' => match p.1 with
  | .ret v => Pl m' v ∧ Le m m'
  | .next => False
  | .cont => False
noncomputable def bc (k : Nat) : List CS := match (f_law_bent.drop (4 + k)).head? with
  | some (.ite _ a _) => a
  | _ => []
noncomputable abbrev bl (t : List Nat) (cell a : Int) (d p : Nat) (q : Int) : Lo := [some (.str (st t)), some (.int cell), some (.int a), some (.str (st [d])), some (.ref p), some (.int q)]
section
variable {n : Nat} {t : List Nat} {cell a q : Int} {d p : Nat} {ps : List (List Nat)} (m0 : MH) (l0 : Le m0 m) (ht : t.length ≤ 28)
include l0 ht
theorem bent0 (h0 : 0 ≤ a) (h1 : a ≤ 40) : Wp (exs sig (run sig n) (bc 0) (bl t cell a d p q)) m (Bent m0) nox := by
  have c1 := cut_len t none (some a)
  have c2 := cut_len t (some a) none
  refine s_ret (wp_eq (q_adds (q_adds (q_slice rfl rfl rfl rfl (sl_hi h0 (by omega) (by omega))) rfl ?_) (q_slice rfl rfl rfl rfl (sl_lo h0 (by omega) (by omega))) ?_) ⟨.str _ ?_, l0⟩)
  · rw [List.length_singleton]; omega
  · rw [List.length_append, List.length_singleton]; omega
  · show (_ ++ _ : List Nat).length ≤ 64
    rw [List.length_append, List.length_append, List.length_singleton]; omega
theorem bent1 (h0 : 0 ≤ a) (h1 : a ≤ 40) : Wp (exs sig (run sig n) (bc 1) (bl t cell a d p q)) m (Bent m0) nox := by
  have c1 := cut_len t none (some a)
  have c2 := cut_len t (some (a + 1)) none
  refine s_ret (wp_eq (q_adds (q_adds (q_slice rfl rfl rfl rfl (sl_hi h0 (by omega) (by omega))) rfl ?_) (q_slice rfl (q_bin rfl rfl rfl) rfl rfl (sl_lo (a := a + 1) (by omega) (by omega) (by omega))) ?_) ⟨.str _ ?_, l0⟩)
  · rw [List.length_singleton]; omega
  · rw [List.length_append, List.length_singleton]; omega
  · show (_ ++ _ : List Nat).length ≤ 64
    rw [List.length_append, List.length_append, List.length_singleton]; omega
theorem bent2 (h0 : 0 ≤ a) (h1 : a ≤ 40) : Wp (exs sig (run sig n) (bc 2) (bl t cell a d p q)) m (Bent m0) nox := by
  have c1 := cut_len t none (some a)
  have c2 := cut_len t (some (a + 1)) none
  refine s_ret (wp_eq (q_adds (q_slice rfl rfl rfl rfl (sl_hi h0 (by omega) (by omega))) (q_slice rfl (q_bin rfl rfl rfl) rfl rfl (sl_lo (a := a + 1) (by omega) (by omega) (by omega))) ?_) ⟨.str _ ?_, l0⟩)
  · omega
  · show (_ ++ _ : List Nat).length ≤ 64
    rw [List.length_append]; omega
end
section
variable {n : Nat} {t : List Nat} {cell a q : Int} {d p : Nat} {ps : List (List Nat)} (m0 : MH) (l0 : Le m0 m) (hp : m[p]? = some (.list (txts ps))) (h5 : ps.length = 5) (h8 : ∀ x ∈ ps, x.length ≤ 8) (hq0 : 0 ≤ q) (hq : q < 5)
include l0 hp h5 h8 hq0 hq
theorem join_cuts {b c : Int} {r : Lo} {s : CE} (h : (b = q ∧ c = q + 1) ∨ (b = q + 1 ∧ c = q)) {x y : Nat} (m1 : MH) (l1 : Le m m1) (kx : m1[x]? = some (.list (txts (cut ps none (some b))))) (ky : m1[y]? = some (.list (txts (cut ps (some c) none)))) : Wp (binV .Add (.ref x) (.ref y)) m1 (fun v m' => Wp (smethV 2 (.str (Str.ofString " ")) .join [v]) m' (fun v m' => Bent m0 (.ret v, r) m') nox) nox := by
  have hl := len_cut h5 hq0 hq h
  have h9 : ∀ z ∈ cut ps none (some b) ++ cut ps (some c) none, z.length ≤ 9 := fun z hz => Nat.le_succ_of_le (h8 z (by
    rcases List.mem_append.mp hz with e | e
    · exact cut_mem e
    · exact cut_mem e))
  refine w_addl kx ky (by rw [List.length_map, List.length_map, ← List.length_append]; unfold lid; omega) fun z m2 l2 kz _ => ?_
  rw [← List.map_append] at kz
  exact w_joinB kz hl h9 ⟨.str _ (joinL_len hl h9), (l0.trans l1).trans l2⟩
theorem bent3 : Wp (exs sig (run sig n) (bc 3) (bl t cell a d p q)) m (Bent m0) nox := by
  refine s_ret (pe_smeth (wp_rfl rfl ⟨2, rfl, rfl, pes_cons (pe_bin (pe_slice rfl rfl rfl rfl (w_slhi hp hq0 (by omega) fun x m1 l1 k1 => pe_slice rfl (q_bin rfl rfl rfl) rfl rfl (w_sllo (a := q + 1) (l1.has hp) (by omega) (by omega) fun y m2 l2 k2 => ?_))))⟩))
  exact wp_mono (join_cuts (r := bl t cell a d p q) (s := .var 0) m0 l0 hp h5 h8 hq0 hq (.inl ⟨rfl, rfl⟩) m2 (l1.trans l2) (l2.has k1) k2) (fun v m' z => pes_nil z) fun _ _ z => z
theorem bent4 : Wp (exs sig (run sig n) (bc 4) (bl t cell a d p q)) m (Bent m0) nox := by
  refine s_ret (pe_smeth (wp_rfl rfl ⟨2, rfl, rfl, pes_cons (pe_bin (pe_slice rfl rfl (q_bin rfl rfl rfl) rfl (w_slhi (a := q + 1) hp (by omega) (by omega) fun x m1 l1 k1 => pe_slice rfl rfl rfl rfl (w_sllo (l1.has hp) hq0 (by omega) fun y m2 l2 k2 => ?_))))⟩))
  exact wp_mono (join_cuts (r := bl t cell a d p q) (s := .var 0) m0 l0 hp h5 h8 hq0 hq (.inr ⟨rfl, rfl⟩) m2 (l1.trans l2) (l2.has k1) k2) (fun v m' z => pes_nil z) fun _ _ z => z
theorem bent5 (hn : m0.length ≤ p) : Wp (exs sig (run sig n) (bc 5) (bl t cell a d p q)) m (Bent m0) nox := by
  obtain ⟨x, hx, ex⟩ := idx_back (k := q - 1) hp h5 (by omega) (by omega)
  obtain ⟨y, hy, ey⟩ := idx_back (k := q) hp h5 (by omega) hq
  obtain ⟨j1, e1⟩ := put_back (k := q) (x := x) hp h5 (by omega) hq
  have k1 := set_has (o' := .list (txts (ps.set j1 x))) hp
  obtain ⟨j2, e2⟩ := put_back (k := q - 1) (x := y) k1 (by rw [List.length_set, h5]) (by omega) (by omega)
  have k2 := set_has (o' := .list (txts ((ps.set j1 x).set j2 y))) k1
  have et : ev sig (run sig n) (.tup [.idx (.var 4) (.bin .Sub (.var 5) (.cnst (.int 1))), .idx (.var 4) (.var 5)]) (bl t cell a d p q) m = .ok (.tup [.str (st x), .str (st y)]) m :=
    wp_eqn (pe_tup (pes_cons (wp_eq (q_idx rfl (q_bin rfl rfl rfl) ex) (pes_cons (wp_eq (q_idx rfl rfl ey) (pes_nil ⟨rfl, rfl⟩))))))
  have h9 : ∀ z ∈ (ps.set j1 x).set j2 y, z.length ≤ 9 := mem_set (mem_set (fun z hz => Nat.le_succ_of_le (h8 z hz)) (Nat.le_succ_of_le (h8 x hx))) (Nat.le_succ_of_le (h8 y hy))
  have h6 : ((ps.set j1 x).set j2 y).length ≤ 6 := by rw [List.length_set, List.length_set]; omega
  refine s_asg2 et rfl rfl e1 rfl (q_bin rfl rfl rfl) e2 (s_ret (pe_smeth (wp_rfl rfl ⟨2, rfl, rfl, wp_rfl rfl (w_joinB k2 h6 h9 ⟨.str _ (joinL_len h6 h9), (l0.set hn _).set hn _⟩)⟩)))
theorem bent6 (hn : m0.length ≤ p) : Wp (exs sig (run sig n) (bc 6) (bl t cell a d p q)) m (Bent m0) nox := by
  have i14 : ∀ {Q : V → MH → Prop} {E : Nat → MH → Prop} {m : MH}, (∀ k m', Le m m' → (k = 1 ∨ k = 4) → Q (.int k) m') → Wp (ev sig (run sig n) (.idx (.list [.cnst (.int 1), .cnst (.int 4)]) (.bin .Mod (.var 5) (.cnst (.int 2)))) (bl t cell a d p q)) m Q E := by
    intro Q E m k
    refine pe_idx (pe_list (wp_rfl rfl (wp_alloc fun z m1 l1 k1 _ => ?_)))
    obtain ⟨v, ev, mv⟩ := at_mem (xs := [V.int 1, .int 4]) (k := q % 2) (by omega) (by show q % 2 < 2; omega)
    refine wp_rfl rfl (w_idxl k1 ev (by omega) ?_)
    cases mv with
    | head => exact k 1 m1 l1 (.inl rfl)
    | tail _ mv => cases mv with
      | head => exact k 4 m1 l1 (.inr rfl)
      | tail _ mv => cases mv
  refine s_asgI (pe_bin (pe_idx (pe_list (wp_rfl rfl (wp_alloc fun z m1 l1 k1 _ => ?_)))))
  obtain ⟨v, ev, mv⟩ := at_mem (xs := [V.str (Str.ofString "0"), .str (Str.ofString "-"), .str (Str.ofString "+"), .str (Str.ofString "1")]) (k := cell / 45 % 4) (by omega) (by show cell / 45 % 4 < 4; omega)
  have hv : ∃ e, v = .str (st [e]) := by
    cases mv with
    | head => exact ⟨48, congrArg V.str (by decide +kernel)⟩
    | tail _ mv => cases mv with
      | head => exact ⟨45, congrArg V.str (by decide +kernel)⟩
      | tail _ mv => cases mv with
        | head => exact ⟨43, congrArg V.str (by decide +kernel)⟩
        | tail _ mv => cases mv with
          | head => exact ⟨49, congrArg V.str (by decide +kernel)⟩
          | tail _ mv => cases mv
  obtain ⟨e, rfl⟩ := hv
  refine wp_rfl rfl (w_idxl k1 ev (by omega) (pe_idx (wp_rfl rfl (i14 fun k m2 l2 hk => ?_))))
  have p2 := l2.has (l1.has hp)
  obtain ⟨x, hx, ex⟩ := idx_back (k := k) p2 h5 (by omega) (by omega)
  have hx8 := h8 x hx
  have ea : binV .Add (.str (st [e])) (.str (st x)) m2 = .ok (.str (st ([e] ++ x))) m2 := by
    show (if [e].length + x.length ≤ lid then Res.ok (V.str (st [e] ++ st x)) m2 else .bad) = _
    rw [if_pos (by rw [List.length_singleton]; unfold lid; omega)]
    exact congrArg (fun z => Res.ok (V.str z) m2) (str_app [e] x)
  refine wp_eq ex (wp_eq ea (wp_rfl rfl (i14 fun k' m3 l3 hk' => ?_)))
  have p3 := l3.has p2
  obtain ⟨j, ej⟩ := put_back (k := k') (x := [e] ++ x) p3 h5 (by omega) (by omega)
  have k4 := set_has (o' := .list (txts (ps.set j ([e] ++ x)))) p3
  have h9 : ∀ z ∈ ps.set j ([e] ++ x), z.length ≤ 9 := mem_set (fun z hz => Nat.le_succ_of_le (h8 z hz)) (by rw [List.length_append, List.length_singleton]; omega)
  have h6 : (ps.set j ([e] ++ x)).length ≤ 6 := by rw [List.length_set]; omega
  exact wp_eq ej (s_ret (pe_smeth (wp_rfl rfl ⟨2, rfl, rfl, wp_rfl rfl (w_joinB k4 h6 h9 ⟨.str _ (joinL_len h6 h9), (((l0.trans l1).trans l2).trans l3).set hn _⟩)⟩)))
end
theorem bent7 {n : Nat} {t : List Nat} {cell a q : Int} {d p : Nat} (m0 : MH) (l0 : Le m0 m) : Wp (exs sig (run sig n) (bc 7) (bl t cell a d p q)) m (Bent m0) nox := by
  refine s_ret (pe_idx (pe_list (wp_rfl rfl (wp_alloc fun z m1 l1 k1 _ => ?_))))
  obtain ⟨v, ev, mv⟩ := at_mem (xs := [V.none, .int 5, .ref m.length, .bool true, .str (Str.ofString ""), .str (Str.ofString " "), .tup [.str (Str.ofString "say"), .int 0, .str (Str.ofString "a"), .int 0]]) (k := cell / 9 % 7) (by omega) (by show cell / 9 % 7 < 7; omega)
  have kr : m1[m.length]? = some (.list [.str (Str.ofString "say")]) := l1.has new_has
  have ll : Le m0 m1 := (l0.trans (.app _ _)).trans l1
  refine wp_rfl rfl (w_idxl k1 ev (by omega) ⟨?_, ll⟩)
  cases mv with
  | head => exact .none
  | tail _ mv => cases mv with
    | head => exact .int _
    | tail _ mv => cases mv with
      | head => exact .list _ _ kr
      | tail _ mv => cases mv with
        | head => exact .bool _
        | tail _ mv => cases mv with
          | head => exact .str _ (by decide +kernel)
          | tail _ mv => cases mv with
            | head => exact .str _ (by decide +kernel)
            | tail _ mv => cases mv with
              | head => exact .tup _ (by show 4 ≤ 64; decide)
              | tail _ mv => cases mv
end P03
end Mini

namespace Mini
namespace P03
open PySem C03
variable {m m' : MH}
theorem bent_ok (n : Nat) {t : List Nat} {cell : Int} {ps : List (List Nat)} (ht : t.length ≤ 28) (hs : splitC 32 t = ps) (h5 : ps.length = 5) (h8 : ∀ x ∈ ps, x.length ≤ 8) : Wp (run sig (n + 2) 19 [.str (st t), .int cell]) m (fun v m' => Pl m' v ∧ Le m m') nox := by
  have hlen : ((st t).length : Int) = (t.length : Int) := rfl
  refine wp_run rfl rfl (s_asg (wp_eq (a := .int (cell / 9 % ((t.length : Int) + 1))) (m' := m) (q_bin (q_bin rfl rfl rfl) (q_bin (q_lenS (s := st t) rfl (by show t.length ≤ lid; unfold lid; omega)) rfl rfl) (mod_eq (by show 0 < (t.length : Int) + 1; omega))) ?_))
  have a0 : 0 ≤ cell / 9 % ((t.length : Int) + 1) := Int.emod_nonneg _ (by omega)
  have a1 : cell / 9 % ((t.length : Int) + 1) < (t.length : Int) + 1 := Int.emod_lt_of_pos _ (by omega)
  generalize cell / 9 % ((t.length : Int) + 1) = a at a0 a1
  have a2 : a ≤ 40 := by omega
  obtain ⟨e, he⟩ := sign8 (m := m) (k := cell / 300 % 8) (by omega) (by omega)
  refine s_asg (pe_idx (pe_list (pes_cons (wp_eq (q_call1 rfl (sign_ok f_sign n (cell / 300) m)) (pes_cons (wp_eq (q_idx rfl (q_bin (q_bin rfl rfl rfl) rfl rfl) he) (pes_nil (wp_alloc fun z m1 l1 k1 _ => ?_))))))))
  obtain ⟨v, ev, mv⟩ := at_mem (xs := [ch (signOf (cell / 300)), .str (st [e])]) (k := cell / 150 % 2) (by omega) (by show cell / 150 % 2 < 2; omega)
  have hv : ∃ d, v = .str (st [d]) := by
    cases mv with
    | head => exact ⟨_, rfl⟩
    | tail _ mv => cases mv with
      | head => exact ⟨_, rfl⟩
      | tail _ mv => cases mv
  obtain ⟨d, rfl⟩ := hv
  refine wp_rfl rfl (w_idxl k1 ev (by omega) (s_asg (pe_smeth (wp_rfl rfl ⟨2, rfl, rfl, wp_rfl rfl (w_split (by show t.length ≤ 64; omega) fun p m2 l2 k2 g2 => ?_)⟩))))
  have k2 : m2[p]? = some (.list (txts ps)) := by rw [← hs]; exact k2
  have g2 : m.length ≤ p := Nat.le_trans l1.1 g2
  have l0 : Le m m2 := l1.trans l2
  clear k1 ev mv he
  refine s_asg (wp_eq (a := .int (cell / 9 % 5)) (m' := m2) (q_bin (q_bin rfl rfl rfl) rfl rfl) ?_)
  have q0 : 0 ≤ cell / 9 % 5 := by omega
  have q1 : cell / 9 % 5 < 5 := by omega
  show Wp (exs sig (run sig (n + 1)) (f_law_bent.drop 4) (bl t cell a d p (cell / 9 % 5))) m2 (fun r m' => match r.1 with | .ret v => Pl m' v ∧ Le m m' | .next => Pl m' .none ∧ Le m m' | .cont => False) nox
  generalize cell / 9 % 5 = q at q0 q1
  have step : ∀ {c : CB} {bd ss : List CS} {b : Bool}, evT sig (run sig (n + 1)) c (bl t cell a d p q) m2 = .ok b m2 → Wp (exs sig (run sig (n + 1)) bd (bl t cell a d p q)) m2 (Bent m) nox → Wp (exs sig (run sig (n + 1)) ss (bl t cell a d p q)) m2 (Bent m) nox → Wp (exs sig (run sig (n + 1)) (.ite c bd [] :: ss) (bl t cell a d p q)) m2 (Bent m) nox := by
    intro c bd ss b hc h1 h2
    refine s_cons (wp_bnd (wp_eq hc ?_))
    cases b with
    | true =>
      refine wp_mono h1 (fun r m' z => ?_) fun _ _ z => z
      obtain ⟨f, r⟩ := r
      cases f with
      | next => exact z.elim
      | cont => exact z
      | ret v => exact z
    | false => exact h2
  have test : ∀ j : Int, evT sig (run sig (n + 1)) (.val (.cmp (.bin .Mod (.var 1) (.cnst (.int 9))) [.Eq] [.cnst (.int j)])) (bl t cell a d p q) m2 = .ok (cell % 9 == j) m2 := fun j => q_val (q_cmp1 (q_bin rfl rfl rfl) rfl rfl)
  refine wp_mono (Q' := Bent m) (E' := nox) ?_ (fun r m' z => ?_) fun _ _ z => z
  · exact step (test 0) (bent0 m l0 ht a0 a2) (step (test 1) (bent1 m l0 ht a0 a2) (step (test 2) (bent2 m l0 ht a0 a2) (step (test 3) (bent3 m l0 k2 h5 h8 q0 q1) (step (test 4) (bent4 m l0 k2 h5 h8 q0 q1) (step (test 5) (bent5 m l0 k2 h5 h8 q0 q1 g2) (step (test 6) (bent6 m l0 k2 h5 h8 q0 q1 g2) (step (test 7) (bent7 m l0) (s_ret (wp_rfl rfl ⟨.str _ (by show t.length ≤ 64; omega), l0⟩)))))))))
  · obtain ⟨f, r⟩ := r
    cases f with
    | next => exact z.elim
    | cont => exact z
    | ret v => exact z
end P03
end Mini

namespace Mini
namespace P03
open PySem C03
variable {m m' : MH}
/-- what is due is a word -/
theorem due_is {c : Int} {v w : V} (hv : Pl m v) (h : dueW c v = some w) : isW c w = true ∧ (∀ m', Th m' w) ∧ ∃ a b d f, w = W a b d f := by
  cases hv with
  | str s hs =>
    have hp : ∀ p ∈ splitC 32 s.cps.toList, p.length ≤ 64 := fun p hp => Nat.le_trans (split_len _ p hp) hs
    have h : dueP c (splitC 32 s.cps.toList) = some w := h
    generalize splitC 32 s.cps.toList = ps at h hp
    unfold dueP at h
    cases hb : ((ps.length : Int) == 5 && st (pt ps 3) == byS) with
    | false => rw [hb] at h; cases h
    | true =>
      rw [hb] at h
      have h : (bif numOk (pt ps 1) && (numOk (pt ps 4) && isW c (W (pt ps 0) (pt ps 1) (pt ps 2) (pt ps 4))) then some (W (pt ps 0) (pt ps 1) (pt ps 2) (pt ps 4)) else none) = some w := h
      cases hw : (numOk (pt ps 1) && (numOk (pt ps 4) && isW c (W (pt ps 0) (pt ps 1) (pt ps 2) (pt ps 4)))) with
      | false => rw [hw] at h; cases h
      | true =>
        rw [hw] at h
        cases h
        exact ⟨(Bool.and_eq_true_iff.mp (Bool.and_eq_true_iff.mp hw).2).2, fun m' => th4 (Pl.st (pt_len hp)) (.int _) (Pl.st (pt_len hp)) (.int _), _, _, _, _, rfl⟩
  | none => cases h
  | bool b => cases h
  | int i => cases h
  | tup xs _ => cases h
  | list p xs hp => cases h
  | dict p kvs e hp => cases h
theorem eqv_w {x y : Str} {i j : Int} : PyData.eqv (.list [.tuple [.str x, .int i, .str y, .int j]]) (.list [.tuple [.str x, .int i, .str y, .int j]]) = true := by
  have h : PyData.eqv (.list [.tuple [.str x, .int i, .str y, .int j]]) (.list [.tuple [.str x, .int i, .str y, .int j]]) = ((x == x && (i == i && (y == y && (j == j && true)))) && true) := rfl
  rw [h, beq_self_eq_true, beq_self_eq_true, beq_self_eq_true, beq_self_eq_true]; rfl
theorem rd_w {p : Nat} {a b d f : List Nat} (h : m[p]? = some (.list [W a b d f])) : rd deep m (.ref p) = some (.list [.tuple [.str (st a), .int (digV b), .str (st d), .int (digV f)]]) := by
  show (match m[p]? with | some (.list xs) => (allO (rd 11 m) xs).map PyData.list | _ => none) = _
  rw [h]; rfl
theorem ne_w {p q : Nat} {a b d f : List Nat} (hp : m[p]? = some (.list [W a b d f])) (hq : m[q]? = some (.list [W a b d f])) : cmpV .NotEq (.ref p) (.ref q) m = .ok false m := by
  have e : eqV (.ref p) (.ref q) m = .ok true m := by unfold eqV; rw [rd_w hp, rd_w hq]; dsimp only; rw [eqv_w]
  show Res.bind (eqV (.ref p) (.ref q) m) _ = _
  rw [e]; rfl
theorem ne_str {s : Str} : cmpV .NotEq (.str s) (.str s) m = .ok false m := by
  show Res.ok (!(s == s)) m = _
  rw [beq_self_eq_true]; rfl
theorem at_0 {p : Nat} {x : V} (h : m[p]? = some (.list [x])) : idxV (.ref p) (.int 0) m = .ok x m := by
  unfold idxV; dsimp only; rw [h]; rfl
theorem isl {p : Nat} {xs : List V} (h : m[p]? = some (.list xs)) : isiV sig (.ref p) .list m = .ok true m := by
  unfold isiV; dsimp only; rw [h]; rfl
theorem shortA {S : Sig} {F : Fns} {r : Lo} {a : CB} {as : List CB} (ha : evT S F a r m = .ok false m) : evTs S F true (a :: as) r m = .ok false m := by
  show Res.bind (evT S F a r m) _ = _
  rw [ha]; rfl
theorem q_callX {S : Sig} {F : Fns} {r : Lo} {as : List CE} {k : Nat} {vs : List V} {v : V} (ha : evs S F as r m = .ok vs m) (h : F k vs m = .ok v m') : ev S F (.call k as) r m = .ok v m' := by
  show Res.bind (evs S F as r m) _ = _
  rw [ha]; exact h
theorem pes_nilT {S : Sig} {F : Fns} {r : Lo} {c : Bool} {Q : Bool → MH → Prop} {E : Nat → MH → Prop} (h : Q c m) : Wp (evTs S F c [] r) m Q E := h
noncomputable abbrev lo (ns : List Int) (k : Int) (a2 a3 a4 a5 a6 a7 a8 a9 a10 a11 : Option V) : Lo := [some (.scr ns), some (.int k), a2, a3, a4, a5, a6, a7, a8, a9, a10, a11]
noncomputable def turn : List CS := match f_law with
  | .for_ _ _ _ b :: _ => b
  | _ => []
noncomputable def inner : List CS := match turn.drop 8 with
  | .for_ _ _ _ b :: _ => b
  | _ => []
/-- a pair of the loop -/
structure Pr (c : Int) (m : MH) (z : V × V) : Prop where
  pl : Pl m z.1
  due : z.2 = toV (dueW c z.1)
theorem Pr.le {c : Int} {z : V × V} (l : Le m m') (h : Pr c m z) : Pr c m' z := ⟨h.pl.le l, h.due⟩
section
variable {ns : List Int} {k c : Int} {a2 a3 a5 a6 a7 a8 a11 : Option V} {z : V × V}
theorem inner_ok (n : Nat) (c1 : 1 ≤ c) (c2 : c ≤ 12) (h : Pr c m z) : Wp (exs sig (run sig (n + 5)) inner (lo ns k a2 a3 (some (.int c)) a5 a6 a7 a8 (some z.1) (some z.2) a11)) m
    (fun p m' => match p.1 with | .ret _ => False | _ => Le m m' ∧ ∃ b11, p.2 = lo ns k a2 a3 (some (.int c)) a5 a6 a7 a8 (some z.1) (some z.2) b11) nox := by
  obtain ⟨a, b⟩ := z
  refine s_asg (pe_call (wp_rfl rfl (wp_use (said_ok n c1 c2 h.pl) ?_)))
  rintro u m1 ⟨hu, l1⟩
  have hd : b = toV (dueW c a) := h.due
  unfold Said at hu
  cases e : dueW c a with
  | none =>
    rw [show dueW c (a, b).1 = none from e] at hu
    rw [e] at hd
    subst hd hu
    refine q_ite (t := false) (q_all (q_ands (x := true) (y := false) rfl (q_ands (x := false) (y := true) rfl rfl))) ?_
    refine q_ite (t := true) rfl ?_
    exact s_cons (wp_rfl rfl ⟨l1, _, rfl⟩)
  | some w =>
    obtain ⟨hw, ht, x1, x2, x3, x4, ew⟩ := due_is h.pl e
    rw [show dueW c (a, b).1 = some w from e] at hu
    rw [e] at hd
    obtain ⟨p, rfl, kp⟩ := hu
    have hd : b = W x1 x2 x3 x4 := hd.trans ew
    subst ew hd
    refine q_ite (t := false) (q_all (shortA rfl)) ?_
    refine q_ite (t := false) rfl ?_
    refine s_ite (pt_all (pts_cons (wp_eq (q_not (q_val (q_isi rfl (isl kp)))) ?_)))
    refine bif_t (pts_cons (pt_val (pe_cmp (wp_rfl rfl (pe_list (wp_rfl rfl (wp_alloc fun q m2 l2 k2 _ => wp_eq (ne_w (l2.has kp) k2) (wp_rfl rfl ?_))))))))
    refine bif_t (pts_cons (pt_not (pt_val (pe_call (pes_cons (wp_rfl rfl (pes_cons (wp_eq (q_idx rfl rfl (at_0 (l2.has kp))) (pes_nil (wp_use (lword_ok f_lword f_among f_lrow (n + 3) c1 (ht m2)) ?_)))))))))) 
    rintro _ m3 ⟨rfl, l3⟩
    rw [hw]
    exact wp_rfl rfl (bif_t (pes_nilT (s_nil ⟨(l1.trans l2).trans l3, _, rfl⟩)))
noncomputable abbrev Turn (ns : List Int) : Fl × Lo → MH → Prop := fun p _ => match p.1 with
  | .ret _ => False
  | _ => ∃ k a2 a3 a4 a5 a6 a7 a8 a9 a10 a11, p.2 = lo ns k a2 a3 a4 a5 a6 a7 a8 a9 a10 a11
theorem turn_ok (n : Nat) (hk : 0 ≤ k) {a4 a9 a10 : Option V} : Wp (exs sig (run sig (n + 5)) turn (lo ns k a2 a3 a4 a5 a6 a7 a8 a9 a10 a11)) m (Turn ns) nox := by
  refine s_asg (wp_eq (q_bin (q_callL (vs := [.scr ns, .int k]) rfl (at_ok f_at (n + 4) ns k hk m)) rfl rfl) ?_)
  generalize at0 ns k + k = cell
  refine s_asg (wp_eq (q_callL (vs := [.scr ns, .int (k + 1)]) rfl (at_ok f_at (n + 4) ns (k + 1) (by omega) m)) ?_)
  generalize at0 ns (k + 1) = more
  refine s_asg (wp_rfl rfl ?_)
  have c1 : 1 ≤ 1 + more % 12 := by omega
  have c2 : 1 + more % 12 ≤ 12 := by omega
  generalize 1 + more % 12 = c at c1 c2
  refine s_asg (pe_call (wp_rfl rfl (wp_use (lword_mk (n + 3) c1 c2) ?_)))
  rintro _ m1 ⟨⟨kl, i, r, h, rfl, w⟩, l1⟩
  refine s_asg (wp_eq (q_call1 rfl (shown_ok (n + 4) w)) ?_)
  refine s_asg (pe_list (pes_cons (wp_rfl rfl (pes_cons (wp_eq (q_str rfl w.num) ?_)))))
  refine pes_cons (wp_rfl rfl (pes_cons (wp_eq (q_cs by_eq) (pes_cons (wp_eq (q_str rfl (Nat.lt_trans w.house (by decide))) (pes_nil (wp_alloc fun p m2 l2 k2 _ => ?_)))))))
  have k2 : m2[p]? = some (.list (txts (partsOf kl i r h))) := k2
  have h8 := parts_len w
  have hne : cmpV .NotEq (.str (st (textOf kl i r h))) (.str (st (joinL (partsOf kl i r h)))) m2 = .ok false m2 := by rw [join_text]; exact ne_str
  refine s_ite (pt_all (pts_cons (wp_rfl rfl ?_)))
  refine bif_t (pts_cons (pt_val (pe_cmp (wp_rfl rfl (pe_smeth (wp_rfl rfl ⟨2, rfl, rfl, wp_rfl rfl (w_joinB k2 (by show 5 ≤ 6; decide) (fun z hz => Nat.le_succ_of_le (h8 z hz)) (wp_eq hne (wp_rfl rfl ?_)))⟩))))))
  refine bif_t ?_
  refine pes_nilT ?_
  refine s_asg (pe_call (wp_rfl rfl (wp_use (bent_ok (n + 3) (text_len w) (text_split w) rfl h8) ?_)))
  rintro v m3 ⟨hv, l3⟩
  obtain ⟨_, m4, e4, rfl, l4⟩ := wp_val (due_ok (m := m3) (n + 2) c1 hv)
  refine s_forz [(V.str (st (textOf kl i r h)), Wd kl i r h), (v, toV (dueW c v))] (fun (z : V × V) => V.tup [z.1, z.2]) (fun zs r' m' => Le m4 m' ∧ m'[m4.length]? = some (.list [.tup [V.str (st (textOf kl i r h)), Wd kl i r h], .tup [v, toV (dueW c v)]]) ∧ (∀ z ∈ zs, Pr c m' z) ∧ ∃ b9 b10 b11, r' = lo ns k (some (.int cell)) (some (.int more)) (some (.int c)) (some (Wd kl i r h)) (some (.str (st (textOf kl i r h)))) (some (.ref p)) (some v) b9 b10 b11) (pes_cons (pe_list (pes_cons (wp_rfl rfl (pes_cons (pe_tup (pes_cons (wp_rfl rfl (pes_cons (wp_eq (q_callX rfl e4) (pes_nil (pes_nil (wp_eq (a := .ref m4.length) (m' := m4 ++ [.list [.tup [V.str (st (textOf kl i r h)), Wd kl i r h], .tup [v, toV (dueW c v)]]]) rfl (pes_nil (w_srcl new_has ⟨rfl, ⟨.app _ _, new_has, ?_, _, _, _, rfl⟩, ?_, ?_, ?_⟩)))))))))))))))
  · intro z hz
    cases hz with
    | head => exact ⟨Pl.st (by have := text_len w; omega), by rw [text_due w]; rfl⟩
    | tail _ hz => cases hz with
      | head => exact ⟨hv.le (l4.trans (.app _ _)), rfl⟩
      | tail _ hz => cases hz
  · rintro zs r' m' ⟨_, k1, _⟩
    exact stays_l k1
  · rintro z zs r' m' ⟨l5, k1, hz, b9, b10, b11, rfl⟩
    refine wp_rfl rfl (wp_mono (inner_ok n c1 c2 (hz z (.head _))) (fun q m6 hq => ?_) fun _ _ q => q)
    obtain ⟨f, r'⟩ := q
    cases f with
    | ret v => exact hq.elim
    | next => obtain ⟨l6, b, e⟩ := hq; exact ⟨l5.trans l6, l6.has k1, fun y hy => (hz y (.tail _ hy)).le l6, _, _, _, e⟩
    | cont => obtain ⟨l6, b, e⟩ := hq; exact ⟨l5.trans l6, l6.has k1, fun y hy => (hz y (.tail _ hy)).le l6, _, _, _, e⟩
  · rintro r' m' ⟨_, _, _, b9, b10, b11, rfl⟩
    exact s_nil ⟨k, _, _, _, _, _, _, _, _, _, _, rfl⟩
end
theorem rng2 (ns : List Int) (h : ns.length ≤ 63) : rangeV [.int 0, .int ((ns.length : Int) + 1), .int 2] = some ((List.range (((ns.length : Int) + 1 - 0 + 2 - 1) / 2).toNat).map fun (k : Nat) => V.int (0 + k * 2)) := by
  show (if _ then _ else _) = _
  rw [if_pos]
  · rfl
  · simp; omega
theorem law_holds (n : Nat) (ns : List Int) (hn : ns.length ≤ 63) : Wp (run sig (n + 6) 21 [.scr ns]) [] (fun v _ => v = .bool true) nox := by
  refine wp_run rfl rfl (s_forz (List.range (((ns.length : Int) + 1 - 0 + 2 - 1) / 2).toNat) (fun (k : Nat) => V.int (0 + k * 2)) (fun zs r m' => ∃ a1 a2 a3 a4 a5 a6 a7 a8 a9 a10 a11, r = some (.scr ns) :: a1 :: [a2, a3, a4, a5, a6, a7, a8, a9, a10, a11]) (wp_rfl rfl (wp_eq (a := ((List.range (((ns.length : Int) + 1 - 0 + 2 - 1) / 2).toNat).map fun (k : Nat) => V.int (0 + k * 2), Gd.none)) (m' := []) ?_ ⟨rfl, ⟨_, _, _, _, _, _, _, _, _, _, _, rfl⟩, ?_, ?_, ?_⟩)))
  · show (match rangeV [.int 0, .int ((ns.length : Int) + 1), .int 2] with | some l => ret (l, Gd.none) | none => bad) [] = _
    rw [rng2 ns hn]; rfl
  · intro _ _ _ _; rfl
  · rintro z zs r m' ⟨a1, a2, a3, a4, a5, a6, a7, a8, a9, a10, a11, rfl⟩
    refine wp_rfl rfl (wp_mono (turn_ok (k := 0 + z * 2) n (by omega)) (fun q m2 h => ?_) fun _ _ q => q)
    obtain ⟨f, r⟩ := q
    cases f with
    | ret v => exact h.elim
    | next => obtain ⟨k, b2, b3, b4, b5, b6, b7, b8, b9, b10, b11, e⟩ := h; exact ⟨_, _, _, _, _, _, _, _, _, _, _, e⟩
    | cont => obtain ⟨k, b2, b3, b4, b5, b6, b7, b8, b9, b10, b11, e⟩ := h; exact ⟨_, _, _, _, _, _, _, _, _, _, _, e⟩
  · rintro r m' ⟨a1, a2, a3, a4, a5, a6, a7, a8, a9, a10, a11, rfl⟩
    refine s_ret (pe_cmp (pe_call (pes_cons (pe_idx (pe_list (wp_rfl rfl (wp_alloc fun q m2 l2 k2 g2 => ?_)))))))
    obtain ⟨v, ev, mv⟩ := at_mem (xs := [V.int 0, .int 13, .bool true, .none]) (k := at0 ns 1 % 4) (by omega) (by show at0 ns 1 % 4 < 4; omega)
    refine wp_eq (q_bin (q_callL (vs := [.scr ns, .int 1]) rfl (at_ok f_at (n + 4) ns 1 (by decide) m2)) rfl rfl) (w_idxl k2 ev (by omega) (wp_rfl rfl ?_))
    have hv : Pl m2 v ∧ isC v = false := by
      cases mv with
      | head => exact ⟨.int _, rfl⟩
      | tail _ mv => cases mv with
        | head => exact ⟨.int _, rfl⟩
        | tail _ mv => cases mv with
          | head => exact ⟨.bool _, rfl⟩
          | tail _ mv => cases mv with
            | head => exact ⟨.none, rfl⟩
            | tail _ mv => cases mv
    refine wp_use (refused_ok n hv.1 .none hv.2) fun u m3 h => ?_
    rw [h.1]
    exact wp_rfl rfl (wp_rfl rfl rfl)
end P03
end Mini

open PySem PySem.W PyProof.Rows
namespace Mini
noncomputable def keep03 : List Nat := [1, 2, 3, 4, 5, 6, 7, 8, 9, 11, 12, 13, 15, 16, 17, 18, 19, 20, 22, 23, 24, 25, 26, 28, 29, 30, 31, 32, 33, 34, 35, 36, 37, 38, 39, 40, 41]
noncomputable def chk03 (K : Frag) : Bool := chkOf C03.sig [15] 21 K
theorem said03 : PySem.Challenge.rw_uf030037_03.wellSaid = true := by kernel_rfl
theorem run03 : ∀ w os, (runT PySem.Challenge.rw_uf030037_03.prog 3600 w os).map (fun s => looksT PySem.Challenge.rw_uf030037_03.prog (view PySem.Challenge.rw_uf030037_03.prog keep03) PySem.Challenge.rw_uf030037_03.row.records (fun h => chk03 (fragAt (List.range 272) h)) w s.abs) = some (true, openGood (view PySem.Challenge.rw_uf030037_03.prog keep03) [], true) := by intro w os; kernel_rfl
end Mini

open PySem PySem.W PyProof.Rows Mini
namespace Mini
theorem t03 : PySem.Challenge.rw_uf030037_03.Holds := by
  refine own_head (keep := keep03) (as := List.range 272) (chk := chk03) (N := 3600) (d := ((defOf (view PySem.Challenge.rw_uf030037_03.prog keep03) PySem.Challenge.rw_uf030037_03.row.name).get (by kernel_rfl)).1) (kwd := []) said03 (by kernel_rfl) (by decide +kernel) (fun s => rfl) run03 (by kernel_rfl) (by kernel_rfl) (by kernel_rfl) (by kernel_rfl) (by kernel_rfl) ⟨rfl, rfl, rfl, rfl, rfl, by kernel_rfl⟩ ⟨[.list []], by decide +kernel, by decide +kernel⟩ ?_
  intro w s₀ s₁ mg mb G Y fa o pm cd doc dV kV ho hd hcd hD hmg hg args vals as hpre hlay hrd hwl hlo
  obtain ⟨K, KX, hck⟩ := Y
  refine Ground.open G ?_
  intro T B D TE TW
  have hmg' : mg (Str.ofString "law") = some (.ref fa) := hmg
  clear hd hcd hD hmg ho
  wrow_args hpre hlay hrd hwl hlo
  rename_i ns _ _ _ _ _ _ _ l vs _ hL _ _ _ hI _ hlen _
  refine glue (S := C03.sig) (qok := [15]) (k := 21) (n := 6) (d := _) T (by kernel_rfl) KX hg hck rfl hmg' hL hI (by omega) (by decide) (P03.law_holds 0 ns (by omega)) ?_ ?_
  · intro cls; rfl
  · wrow_post
end Mini
theorem PySem.Challenge.cw_uf030037_03_holds : PySem.Challenge.rw_uf030037_03.Holds :=
  Mini.t03
