import PyProof.Rows.All
import PyProof.Meets
import PyProof.ForAny
import PyProof.CallRoads
import PyProof.CallType
import PyProof.Cells
import PyProof.PlainList
import PyProof.StrWalks
import PyProof.CompFree
import PyProof.PureInt
import PyProof.MeetsSeq
import PyProof.DictKinds
import PyProof.DictStraight
import PyProof.TupleKey
import PyProof.P3Statements
import PyProof.RaisesMany
import PyProof.StationsW
import PyProof.StrBlockL
import PyProof.RangeIter
import PyProof.WalksMore
import PyProof.RangeFor
import PyProof.IsiHeapPairs
import PyProof.IsiPairs
import PyProof.IsiSeqPairs
import PyProof.RulesAssignMore
import PyProof.Rows.SortWalk
import PyProof.Rows.Range3
import OpenK.KCall
import OpenK.KWalk
import OpenK.KLine
import KE.KPop
import KE.KDictSum
import Wide.Txt2
import Wide.All
import OpenK.AllK
import Wide.FinOn
import PySem.Challenge.RW_uf030037_05
set_option Elab.async false
set_option maxRecDepth 100000
set_option maxHeartbeats 8000000
set_option autoImplicit false
set_option linter.all false
set_option genSizeOf false
set_option genInjectivity false
/-! The small language: values, objects, core trees, and what they mean. -/
namespace Mini
open PySem

inductive V where
  | none | bool (b : Bool) | int (i : Int) | str (s : Str) | tup (xs : List V) | ref (n : Nat) | scr (ns : List Int)

inductive Ky where
  | int (i : Int) | str (s : Str) | tup (ks : List (Sum Int Str))
  deriving DecidableEq

inductive MObj where
  | list (xs : List V)
  | dict (kvs : List (Ky × V)) (e : Nat)
  | inst (c : Nat) (fs : List (Nat × V))

noncomputable abbrev MH := List MObj

inductive Res (α : Type) where
  | ok (a : α) (m : MH)
  | exc (c : Nat) (m : MH)
  | bad

noncomputable abbrev Mn (α : Type) := MH → Res α

noncomputable def Res.bind {α β : Type} (r : Res α) (f : α → Mn β) : Res β := match r with
  | .ok a m => f a m
  | .exc c m => .exc c m
  | .bad => .bad

/-- no exception leaves a loop -/
noncomputable def Res.nox {α : Type} (r : Res α) : Res α := match r with
  | .exc _ _ => .bad
  | r => r
noncomputable def ret {α : Type} (a : α) : Mn α := fun m => .ok a m
noncomputable def bad {α : Type} : Mn α := fun _ => .bad
noncomputable def bnd {α β : Type} (x : Mn α) (f : α → Mn β) : Mn β := fun m => (x m).bind f
noncomputable def ofO {α : Type} : Option α → Mn α
  | some a => ret a
  | Option.none => bad

/-! ## data, equality, keys -/
noncomputable def Ky.val : Ky → V
  | .int i => .int i
  | .str s => .str s
  | .tup ks => .tup (ks.map fun x => match x with | .inl i => .int i | .inr s => .str s)
noncomputable def Ky.sort : Ky → Nat
  | .int _ => 0
  | .str _ => 1
  | .tup _ => 2

noncomputable def allO {α β : Type} (g : α → Option β) : List α → Option (List β)
  | [] => some []
  | x :: xs => match g x, allO g xs with
    | some d, some ds => some (d :: ds)
    | _, _ => Option.none

noncomputable def rd : Nat → MH → V → Option PyData
  | 0, _, _ => Option.none
  | f + 1, m, v => match v with
    | .none => some .none
    | .bool b => some (.bool b)
    | .int i => some (.int i)
    | .str s => some (.str s)
    | .tup xs => (allO (rd f m) xs).map .tuple
    | .ref n => match m[n]? with
      | some (.list xs) => (allO (rd f m) xs).map .list
      | _ => Option.none
    | _ => Option.none

noncomputable def atom : V → Option (Sum Int Str)
  | .int i => some (.inl i)
  | .str s => some (.inr s)
  | _ => Option.none
noncomputable def toKey : V → Option Ky
  | .int i => some (.int i)
  | .str s => some (.str s)
  | .tup xs => (allO atom xs).map .tup
  | _ => Option.none

/-- the fuel of a reading -/
noncomputable def deep : Nat := 12
noncomputable def eqV (a b : V) : Mn Bool := fun m => match rd deep m a, rd deep m b with
  | some x, some y => .ok (PyData.eqv x y) m
  | _, _ => .bad

/-! ## places in sequences -/
noncomputable def at_ {α : Type} (xs : List α) (i : Int) : Option α :=
  if 0 ≤ i then xs[i.toNat]? else if 0 ≤ i + xs.length then xs[(i + xs.length).toNat]? else Option.none
/-- the clamped bound of a cut by ones -/
noncomputable def clampU (n : Nat) (i : Int) : Nat := if 0 ≤ i then min i.toNat n else (i + n).toNat
noncomputable def cut {α : Type} (xs : List α) (lo hi : Option Int) : List α :=
  let a := match lo with | some i => clampU xs.length i | Option.none => 0
  let b := match hi with | some i => clampU xs.length i | Option.none => xs.length
  (xs.take b).drop a

/-! ## dicts -/
noncomputable def look (k : Ky) : List (Ky × V) → Option V
  | [] => Option.none
  | (k', v) :: r => if k' = k then some v else look k r
noncomputable def put (k : Ky) (v : V) : List (Ky × V) → List (Ky × V)
  | [] => [(k, v)]
  | (k', v') :: r => if k' = k then (k', v) :: r else (k', v') :: put k v r
noncomputable def drop_ (k : Ky) : List (Ky × V) → List (Ky × V)
  | [] => []
  | (k', v') :: r => if k' = k then r else (k', v') :: drop_ k r
noncomputable def sorted1 (k : Ky) (kvs : List (Ky × V)) : Bool := kvs.all fun p => p.1.sort == k.sort

noncomputable def fget (i : Nat) : List (Nat × V) → Option V
  | [] => Option.none
  | (j, v) :: r => if j = i then some v else fget i r
noncomputable def fput (i : Nat) (v : V) : List (Nat × V) → List (Nat × V)
  | [] => [(i, v)]
  | (j, v') :: r => if j = i then (j, v) :: r else (j, v') :: fput i v r

/-! ## core trees -/
inductive Bi where
  | len | abs | int | str | list | tuple | dict | sorted | max2 | min2 | max1 | lenset
  deriving DecidableEq
inductive Sm where
  | append | pop | clear | get | join | split | count | index
  deriving DecidableEq
inductive Ty where
  | int | bool | str | list | tuple | dict | cls (c : Nat)
  deriving DecidableEq
inductive IK where
  | expr | range | enum
  deriving DecidableEq
inductive CT where
  | one (i : Nat) | many (is : List Nat)
  deriving DecidableEq
inductive Lt where
  | none | bool (b : Bool) | int (i : Int) | str (s : Str)
  deriving DecidableEq
noncomputable def Lt.val : Lt → V
  | .none => .none
  | .bool b => .bool b
  | .int i => .int i
  | .str s => .str s

mutual
inductive CE where
  | cnst (v : Lt)
  | var (i : Nat)
  | glob (i : Nat)
  | fnv (k : Nat)
  | bin (op : Operator) (a b : CE)
  | neg (a : CE)
  | not (a : CE)
  | boolop (isAnd : Bool) (as : List CE)
  | cmp (a : CE) (ops : List CmpOp) (bs : List CE)
  | ite (c : CB) (a b : CE)
  | tup (as : List CE)
  | list (as : List CE)
  | dict (ks : List Str) (vs : List CE)
  | idx (a i : CE)
  | slice (a lo hi st : CE)
  | attr (a : CE) (n : Nat)
  | call (k : Nat) (as : List CE)
  | callv (f : CE) (as : List CE)
  | new (c : Nat) (as : List CE)
  | meth (o : CE) (n : Nat) (as : List CE)
  | smeth (o : CE) (n : Sm) (as : List CE)
  | bi (b : Bi) (as : List CE)
  | listrange (as : List CE)
  | isi (a : CE) (t : Ty)
  | comp (elt : CE) (t : CT) (nl : Nat) (k : IK) (src : List CE) (ifs : List CB)
/-- tests -/
inductive CB where
  | not (b : CB)
  | all (isAnd : Bool) (bs : List CB)
  | val (e : CE)
end

inductive CTgt where
  | one (t : CT) | attr (o : CE) (n : Nat) | idx (o i : CE) | idx2 (o i o' i' : CE)

inductive CS where
  | asg (t : CTgt) (e : CE)
  | exp (e : CE)
  | ite (c : CB) (a b : List CS)
  | for_ (k : IK) (t : CT) (src : List CE) (body : List CS)
  | wh (c : CB) (body : List CS)
  | ret (e : CE)
  | rse (c : Nat) (msg : Str)
  | try_ (body : List CS) (c : Nat) (nm : Option Nat) (h : CE)
  | cont
  | pass

structure FnD where
  name : Str
  np : Nat
  names : List Str
  body : List CS
structure ClsD where
  name : Str
  init : Option Nat
  meths : List (Nat × Nat)
  exc : Bool
  supers : List Nat
structure Sig where
  fns : List FnD
  cls : List ClsD
  attrs : List Str
  globs : List (Str × Lt)

noncomputable abbrev Lo := List (Option V)

/-! ## operations -/
/-- the greatest length of a text or a list that is made -/
noncomputable def lid : Nat := 4194304
noncomputable def truth (v : V) : Mn Bool := fun m => match v with
  | .none => .ok false m
  | .bool b => .ok b m
  | .int i => .ok (i != 0) m
  | .str s => if s.length ≤ lid then .ok (s.length != 0) m else .bad
  | .tup xs => if xs.length ≤ lid then .ok (!xs.isEmpty) m else .bad
  | .ref n => match m[n]? with
    | some (.list xs) => .ok (!xs.isEmpty) m
    | _ => .bad
  | _ => .bad

noncomputable def alloc (o : MObj) : Mn V := fun m => .ok (.ref m.length) (m ++ [o])
noncomputable def binV (op : Operator) (a b : V) : Mn V := fun m => match op, a, b with
  | .Add, .int i, .int j => .ok (.int (i + j)) m
  | .Sub, .int i, .int j => .ok (.int (i - j)) m
  | .Mult, .int i, .int j => if i.natAbs < 1073741824 ∨ j.natAbs < 1073741824 then .ok (.int (i * j)) m else .bad
  | .FloorDiv, .int i, .int j => if j ≠ 0 ∧ j.natAbs < 1073741824 then .ok (.int (Int.fdiv i j)) m else .bad
  | .Mod, .int i, .int j => if j = 0 then .bad else .ok (.int (Int.fmod i j)) m
  | .Add, .str x, .str y => if x.length + y.length ≤ lid then .ok (.str (x ++ y)) m else .bad
  | .Add, .ref p, .ref q => match m[p]?, m[q]? with
    | some (.list x), some (.list y) => if x.length + y.length ≤ lid then alloc (.list (x ++ y)) m else .bad
    | _, _ => .bad
  | _, _, _ => .bad

noncomputable def inV (x c : V) : Mn Bool := fun m => match c with
  | .ref n => match m[n]? with
    | some (.list ys) => match allO (rd deep m) ys, rd deep m x with
      | some ds, some d => .ok (ds.any fun e => PyData.eqv e d) m
      | _, _ => .bad
    | some (.dict kvs _) => match toKey x with
      | some k => if sorted1 k kvs then .ok (look k kvs).isSome m else .bad
      | Option.none => .bad
    | _ => .bad
  | _ => .bad

noncomputable def cmpV (op : CmpOp) (a b : V) : Mn Bool := match op with
  | .Eq => eqV a b
  | .NotEq => bnd (eqV a b) fun c => ret (!c)
  | .In => inV a b
  | .NotIn => bnd (inV a b) fun c => ret (!c)
  | .Is => bad
  | .IsNot => bad
  | .Lt => match a, b with | .int i, .int j => ret (decide (i < j)) | _, _ => bad
  | .LtE => match a, b with | .int i, .int j => ret (decide (i ≤ j)) | _, _ => bad
  | .Gt => match a, b with | .int i, .int j => ret (decide (i > j)) | _, _ => bad
  | .GtE => match a, b with | .int i, .int j => ret (decide (i ≥ j)) | _, _ => bad

noncomputable def idxV (a i : V) : Mn V := fun m => match a with
  | .tup xs => match i with
    | .int k => if k.natAbs < 2 ^ 60 then ofO (at_ xs k) m else .bad
    | _ => .bad
  | .str s => match i with
    | .int k => if k.natAbs < 2 ^ 60 then ofO ((at_ s.cps.toList k).map fun c => .str ⟨#[c]⟩) m else .bad
    | _ => .bad
  | .ref n => match m[n]? with
    | some (.list xs) => match i with
      | .int k => if k.natAbs < 2 ^ 60 then ofO (at_ xs k) m else .bad
      | _ => .bad
    | some (.dict kvs _) => match toKey i with
      | some k => if sorted1 k kvs then ofO (look k kvs) m else .bad
      | Option.none => .bad
    | _ => .bad
  | .scr ns => match i with
    | .int k => if 0 ≤ k then ofO ((ns[k.toNat]?).map .int) m else .bad
    | _ => .bad
  | _ => .bad

noncomputable def bound (v : V) : Option (Option Int) := match v with
  | .none => some Option.none
  | .int i => if i.natAbs < 2 ^ 60 then some (some i) else Option.none
  | _ => Option.none
noncomputable def sliceL {α : Type} (xs : List α) (lo hi st : V) : Option (List α) :=
  match st with
  | .none => match bound lo, bound hi with
    | some a, some b => some (cut xs a b)
    | _, _ => Option.none
  | .int k => match lo, hi with
    | .none, .none => if k = 1 then some xs else if k = -1 then some xs.reverse else Option.none
    | _, _ => Option.none
  | _ => Option.none
noncomputable def sliceV (a lo hi st : V) : Mn V := fun m => match a with
  | .str s => match st with
    | .none => if s.length ≤ lid then ofO ((sliceL s.cps.toList lo hi .none).map fun l => .str ⟨l.toArray⟩) m else .bad
    | _ => .bad
  | .ref n => match m[n]? with
    | some (.list xs) => match sliceL xs lo hi st with
      | some l => alloc (.list l) m
      | Option.none => .bad
    | _ => .bad
  | .scr ns => match st with
    | .none => match sliceL (ns.map V.int) lo hi .none with
      | some l => alloc (.list l) m
      | Option.none => .bad
    | _ => .bad
  | _ => .bad

noncomputable def attrV (a : V) (n : Nat) : Mn V := fun m => match a with
  | .ref p => match m[p]? with
    | some (.inst _ fs) => ofO (fget n fs) m
    | _ => .bad
  | _ => .bad

noncomputable def isIntL : List V → Option (List Int)
  | [] => some []
  | .int i :: r => (isIntL r).map (i :: ·)
  | _ :: _ => Option.none
noncomputable def isKeyI : List (Ky × V) → Option (List Int)
  | [] => some []
  | (.int i, _) :: r => (isKeyI r).map (i :: ·)
  | _ :: _ => Option.none
noncomputable def insI (i : Int) : List Int → List Int
  | [] => [i]
  | j :: r => if i ≤ j then i :: j :: r else j :: insI i r
noncomputable def sortI : List Int → List Int
  | [] => []
  | i :: r => insI i (sortI r)
noncomputable def dedupI : List Int → List Int
  | [] => []
  | i :: r => if (dedupI r).contains i then dedupI r else i :: dedupI r

noncomputable def rangeL (lo hi : Int) : List V := (List.range (hi - lo).toNat).map fun (k : Nat) => V.int (lo + k)
noncomputable def rangeV : List V → Option (List V)
  | [.int n] => if n.natAbs < 2 ^ 30 then some (rangeL 0 n) else Option.none
  | [.int a, .int b] => if a.natAbs < 2 ^ 30 && b.natAbs < 2 ^ 30 then some (rangeL a b) else Option.none
  | _ => Option.none

noncomputable def biV (b : Bi) (as : List V) : Mn V := fun m => match b, as with
  | .len, [.str s] => if s.length ≤ lid then .ok (.int s.length) m else .bad
  | .len, [.tup xs] => if xs.length ≤ lid then .ok (.int xs.length) m else .bad
  | .len, [.scr ns] => .ok (.int ns.length) m
  | .len, [.ref n] => match m[n]? with
    | some (.list xs) => .ok (.int xs.length) m
    | some (.dict kvs _) => match isKeyI kvs with
      | some _ => .ok (.int kvs.length) m
      | Option.none => .bad
    | _ => .bad
  | .abs, [.int i] => .ok (.int (if i < 0 then -i else i)) m
  | .int, [.bool c] => .ok (.int (if c then 1 else 0)) m
  | .list, [.tup xs] => if xs.length ≤ lid then alloc (.list xs) m else .bad
  | .list, [.ref n] => match m[n]? with
    | some (.list xs) => alloc (.list xs) m
    | some (.dict kvs _) => match isKeyI kvs with
      | some is => alloc (.list (is.map .int)) m
      | Option.none => .bad
    | _ => .bad
  | .tuple, [.ref n] => match m[n]? with
    | some (.list xs) => .ok (.tup xs) m
    | _ => .bad
  | .dict, [.ref n] => match m[n]? with
    | some (.dict kvs _) => alloc (.dict kvs 0) m
    | _ => .bad
  | .sorted, [.ref n] => match m[n]? with
    | some (.list xs) => match isIntL xs with
      | some is => if is.length < 64 then alloc (.list ((sortI is).map .int)) m else .bad
      | Option.none => .bad
    | some (.dict kvs _) => match isKeyI kvs with
      | some is => if is.length < 64 then alloc (.list ((sortI is).map .int)) m else .bad
      | Option.none => .bad
    | _ => .bad
  | .max2, [.int i, .int j] => .ok (.int (if j > i then j else i)) m
  | .min2, [.int i, .int j] => .ok (.int (if j < i then j else i)) m
  | .lenset, [.ref n] => match m[n]? with
    | some (.list xs) => match isIntL xs with
      | some is => .ok (.int (dedupI is).length) m
      | Option.none => .bad
    | _ => .bad
  | _, _ => .bad

noncomputable def isiV (S : Sig) (a : V) (t : Ty) : Mn Bool := fun m => match t, a with
  | .cls _, _ => .bad
  | .int, .int _ => .ok true m
  | .int, .bool _ => .ok true m
  | .bool, .bool _ => .ok true m
  | .str, .str _ => .ok true m
  | .tuple, .tup _ => .ok true m
  | t, .ref n => match m[n]? with
    | some (.list _) => .ok (t == .list) m
    | some (.dict _ _) => .ok (t == .dict) m
    | _ => .bad
  | _, .scr _ => .bad
  | _, _ => .ok false m

noncomputable def isStrL : List V → Option (List Str)
  | [] => some []
  | .str x :: r => (isStrL r).map (x :: ·)
  | _ :: _ => Option.none
noncomputable def isBoolL : List V → Option (List Bool)
  | [] => some []
  | .bool x :: r => (isBoolL r).map (x :: ·)
  | _ :: _ => Option.none
noncomputable def joinS (sep : Str) : List Str → Str
  | [] => Str.empty
  | x :: r => r.foldl (fun acc p => acc ++ sep ++ p) x
noncomputable def sumLen (sep : Str) (l : List Str) : Nat := l.foldl (fun k x => k + x.length + sep.length) 0
/-- the kind of a method's owner: a list, a dict, a text -/
noncomputable def smK (o : V) (m : MH) : Option Nat := match o with
  | .ref p => match m[p]? with
    | some (.list _) => some 0
    | some (.dict _ _) => some 1
    | _ => Option.none
  | .str _ => some 2
  | _ => Option.none
/-- the methods that are served -/
noncomputable def smH (k : Nat) (n : Sm) : Bool := match k, n with
  | 0, .append => true
  | 0, .pop => true
  | 2, .join => true
  | _, _ => false
/-- the methods of lists, dicts and texts -/
noncomputable def listM (p : Nat) (xs : List V) (n : Sm) (as : List V) : Mn V := fun m => match n with
  | .append => (match as with | [v] => (if xs.length < lid then .ok .none (m.set p (.list (xs ++ [v]))) else .bad) | _ => .bad)
  | .pop => (match as with
    | [i] => (match i with
      | .int k => if 0 ≤ k then (match xs[k.toNat]? with
          | some v => if k.natAbs < 2 ^ 60 then .ok v (m.set p (.list (xs.eraseIdx k.toNat))) else .bad
          | Option.none => .bad)
        else .bad
      | _ => .bad)
    | _ => .bad)
  | .clear => (match as with | [] => .ok .none (m.set p (.list [])) | _ => .bad)
  | .count => (match as with
    | [i] => (match i with
      | .bool b => (match isBoolL xs with | some bs => .ok (.int (bs.count b)) m | Option.none => .bad)
      | _ => .bad)
    | _ => .bad)
  | .index => (match as with
    | [i] => (match i with
      | .bool b => (match isBoolL xs with | some bs => if bs.contains b then .ok (.int (bs.idxOf b)) m else .bad | Option.none => .bad)
      | _ => .bad)
    | _ => .bad)
  | _ => .bad
noncomputable def dictM (p : Nat) (kvs : List (Ky × V)) (e : Nat) (n : Sm) (as : List V) : Mn V := fun m => match n with
  | .get => (match as with
    | [k, d] => (match toKey k with
      | some k => if sorted1 k kvs then .ok ((look k kvs).getD d) m else .bad
      | Option.none => .bad)
    | _ => .bad)
  | .pop => (match as with
    | [k] => (match toKey k with
      | some k => if sorted1 k kvs then (match look k kvs with
          | some v => .ok v (m.set p (.dict (drop_ k kvs) (e + 1)))
          | Option.none => .bad)
        else .bad
      | Option.none => .bad)
    | _ => .bad)
  | .clear => (match as with | [] => .ok .none (m.set p (.dict [] (e + 1))) | _ => .bad)
  | _ => .bad
noncomputable def strM (s : Str) (n : Sm) (as : List V) : Mn V := fun m => match n with
  | .join => (match as with
    | [v] => (match v with
      | .ref p => (match m[p]? with
        | some (.list xs) => (match isStrL xs with
          | some l => if sumLen s l ≤ lid then .ok (.str (joinS s l)) m else .bad
          | Option.none => .bad)
        | _ => .bad)
      | _ => .bad)
    | _ => .bad)
  | _ => .bad
noncomputable def smethV (k : Nat) (o : V) (n : Sm) (as : List V) : Mn V := fun m => match k with
  | 0 => (match o with
    | .ref p => (match m[p]? with | some (.list xs) => listM p xs n as m | _ => .bad)
    | _ => .bad)
  | 1 => (match o with
    | .ref p => (match m[p]? with | some (.dict kvs e) => dictM p kvs e n as m | _ => .bad)
    | _ => .bad)
  | 2 => (match o with
    | .str s => strM s n as m
    | _ => .bad)
  | _ => .bad

/-! ## what a for goes over -/
mutual
noncomputable def V.same : V → V → Bool
  | .none, y => match y with | .none => true | _ => false
  | .bool a, y => match y with | .bool b => a == b | _ => false
  | .int a, y => match y with | .int b => a == b | _ => false
  | .str a, y => match y with | .str b => a == b | _ => false
  | .tup xs, y => match y with | .tup ys => V.sames xs ys | _ => false
  | .ref a, y => match y with | .ref b => a == b | _ => false
  | .scr a, y => match y with | .scr b => a == b | _ => false
noncomputable def V.sames : List V → List V → Bool
  | [], ys => ys.isEmpty
  | x :: xs, ys => match ys with
    | [] => false
    | y :: ys => V.same x y && V.sames xs ys
end
mutual
theorem same_self : ∀ v : V, V.same v v = true
  | .none => rfl
  | .bool b => beq_self_eq_true b
  | .int i => beq_self_eq_true i
  | .str s => beq_self_eq_true s
  | .tup xs => sames_self xs
  | .ref n => beq_self_eq_true n
  | .scr n => beq_self_eq_true n
theorem sames_self : ∀ xs : List V, V.sames xs xs = true
  | [] => rfl
  | x :: xs => by show (V.same x x && V.sames xs xs) = true; rw [same_self x, sames_self xs]; rfl
end

inductive Gd where
  | none | list (n : Nat) (xs : List V) | dict (n : Nat) (e : Nat)
/-- the object that is gone over stays -/
noncomputable def Gd.stays (g : Gd) (m : MH) : Bool := match g with
  | .none => true
  | .list n xs => match m[n]? with
    | some (.list ys) => V.sames xs ys
    | _ => false
  | .dict n e => match m[n]? with
    | some (.dict _ e') => e == e'
    | _ => false

noncomputable def itemsV (v : V) : Mn (List V × Gd) := fun m => match v with
  | .ref n => match m[n]? with
    | some (.list xs) => .ok (xs, .list n xs) m
    | _ => .bad
  | _ => .bad
noncomputable def enumL : Nat → List V → List V
  | _, [] => []
  | k, x :: xs => .tup [.int k, x] :: enumL (k + 1) xs
noncomputable def enumV (v : V) : Mn (List V × Gd) := fun m => match v with
  | .ref n => match m[n]? with
    | some (.list xs) => .ok (enumL 0 xs, .list n xs) m
    | _ => .bad
  | _ => .bad
noncomputable def srcV (k : IK) (vs : List V) : Mn (List V × Gd) := match k, vs with
  | .expr, [v] => itemsV v
  | .range, vs => match rangeV vs with
    | some l => ret (l, .none)
    | Option.none => bad
  | .enum, [v] => enumV v
  | _, _ => bad

noncomputable def setMany : List Nat → List V → Lo → Option Lo
  | [], [], r => some r
  | i :: is, v :: vs, r => setMany is vs (r.set i (some v))
  | _, _, _ => Option.none
/-- a target of names takes a value -/
noncomputable def setT (t : CT) (v : V) (r : Lo) : Mn Lo := fun m => match t with
  | .one i => .ok (r.set i (some v)) m
  | .many is => match v with
    | .tup vs => ofO (setMany is vs r) m
    | _ => .bad

noncomputable def putAttr (o : V) (n : Nat) (v : V) : Mn Unit := fun m => match o with
  | .ref p => match m[p]? with
    | some (.inst c fs) => .ok () (m.set p (.inst c (fput n v fs)))
    | _ => .bad
  | _ => .bad
noncomputable def putIdx (o i v : V) : Mn Unit := fun m => match o with
  | .ref p => match m[p]? with
    | some (.dict kvs e) => match toKey i with
      | some k => if sorted1 k kvs && kvs.length < lid then .ok () (m.set p (.dict (put k v kvs) (e + 1))) else .bad
      | Option.none => .bad
    | _ => .bad
  | _ => .bad

inductive Fl where
  | next | cont | ret (v : V)

/-- a for: the turns -/
noncomputable def forD (g : Gd) (step : V → Lo → Mn (Fl × Lo)) : List V → Lo → Mn (Fl × Lo)
  | [], r => fun m => if g.stays m then .ok (.next, r) m else .bad
  | v :: vs, r => fun m => if g.stays m then (step v r m).nox.bind (fun p => match p.1 with
      | .ret x => ret (.ret x, p.2)
      | _ => forD g step vs p.2) else .bad
/-- a comprehension: the turns, the items so far behind -/
noncomputable def compD (g : Gd) (step : V → Mn (Option V)) : List V → Mn (List V)
  | [] => fun m => if g.stays m then .ok [] m else .bad
  | v :: vs => fun m => if g.stays m then (step v m).nox.bind (fun o => bnd (compD g step vs) fun r => ret (match o with
      | some x => x :: r
      | Option.none => r)) else .bad
noncomputable def whileD (c : Lo → Mn Bool) (body : Lo → Mn (Fl × Lo)) : Nat → Lo → Mn (Fl × Lo)
  | 0, _ => bad
  | n + 1, r => bnd (fun m => (c r m).nox) fun b => if b then bnd (fun m => (body r m).nox) fun p => match p.1 with
      | .ret x => ret (.ret x, p.2)
      | _ => whileD c body n p.2
    else ret (.next, r)
noncomputable def fuelW : Nat := 1000000

noncomputable abbrev Fns := Nat → List V → Mn V

mutual
noncomputable def ev (S : Sig) (F : Fns) : CE → Lo → Mn V
  | .cnst v, _ => ret v.val
  | .var i, r => match r[i]? with
    | some (some v) => ret v
    | _ => bad
  | .glob i, _ => match S.globs[i]? with
    | some p => ret p.2.val
    | Option.none => bad
  | .fnv k, _ => bad
  | .bin op a b, r => bnd (ev S F a r) fun x => bnd (ev S F b r) fun y => binV op x y
  | .neg a, r => bnd (ev S F a r) fun x => match x with
    | .int i => ret (.int (-i))
    | _ => bad
  | .not a, r => bnd (ev S F a r) fun x => bnd (truth x) fun b => ret (.bool (!b))
  | .boolop c as, r => evB S F c as r
  | .cmp a ops bs, r => bnd (ev S F a r) fun x => evC S F x ops bs r
  | .ite c a b, r => bnd (evT S F c r) fun t => if t then ev S F a r else ev S F b r
  | .tup as, r => bnd (evs S F as r) fun vs => ret (.tup vs)
  | .list as, r => bnd (evs S F as r) fun vs => alloc (.list vs)
  | .dict ks vs, r => evD S F ks vs r []
  | .idx a i, r => bnd (ev S F a r) fun x => bnd (ev S F i r) fun y => idxV x y
  | .slice a lo hi st, r => bnd (ev S F a r) fun x => bnd (ev S F lo r) fun l => bnd (ev S F hi r) fun h => bnd (ev S F st r) fun t => sliceV x l h t
  | .attr a n, r => bnd (ev S F a r) fun x => attrV x n
  | .call k as, r => bnd (evs S F as r) fun vs => F k vs
  | .callv f as, r => bnd (ev S F f r) fun x => bnd (evs S F as r) fun vs => bad
  | .new c as, r => bnd (evs S F as r) fun vs => match S.cls[c]? with
    | some d => if d.exc then bad else match d.init with
      | some k => bnd (alloc (.inst c [])) fun x => bnd (F k (x :: vs)) fun _ => ret x
      | Option.none => bad
    | Option.none => bad
  | .meth o n as, r => bnd (ev S F o r) fun x => bnd (fun m => match x with
      | .ref p => match m[p]? with
        | some (.inst c fs) => match S.cls[c]?, fget n fs with
          | some d, Option.none => ofO (d.meths.lookup n) m
          | _, _ => .bad
        | _ => .bad
      | _ => .bad) fun k => bnd (evs S F as r) fun vs => F k (x :: vs)
  | .smeth o n as, r => bnd (ev S F o r) fun x => fun m => match smK x m with
    | some k => if smH k n then bnd (evs S F as r) (fun vs => smethV k x n vs) m else .bad
    | Option.none => .bad
  | .bi b as, r => bnd (evs S F as r) fun vs => biV b vs
  | .listrange as, r => bnd (evs S F as r) fun vs => match rangeV vs with
    | some l => if l.length ≤ lid then alloc (.list l) else bad
    | Option.none => bad
  | .isi a t, r => bnd (ev S F a r) fun x => bnd (isiV S x t) fun b => ret (.bool b)
  | .comp elt t nl k src ifs, r => bnd (evs S F src r) fun vs => bnd (srcV k vs) fun p =>
      bnd (compD p.2 (fun v => bnd (setT t v (r ++ List.replicate nl Option.none)) fun r' => bnd (evIf S F ifs r') fun b =>
        if b then bnd (ev S F elt r') fun x => ret (some x) else ret Option.none) p.1) fun l => if l.length ≤ lid then alloc (.list l) else bad
/-- a test -/
noncomputable def evT (S : Sig) (F : Fns) : CB → Lo → Mn Bool
  | .not a, r => bnd (evT S F a r) fun b => ret (!b)
  | .all c as, r => evTs S F c as r
  | .val e, r => bnd (ev S F e r) truth
noncomputable def evTs (S : Sig) (F : Fns) (c : Bool) : List CB → Lo → Mn Bool
  | [], _ => ret c
  | a :: as, r => bnd (evT S F a r) fun b => if b == c then evTs S F c as r else ret b
/-- the tests of a comprehension -/
noncomputable def evIf (S : Sig) (F : Fns) : List CB → Lo → Mn Bool
  | [], _ => ret true
  | a :: as, r => bnd (evT S F a r) fun b => if b then evIf S F as r else ret false
noncomputable def evs (S : Sig) (F : Fns) : List CE → Lo → Mn (List V)
  | [], _ => ret []
  | a :: as, r => bnd (ev S F a r) fun x => bnd (evs S F as r) fun xs => ret (x :: xs)
noncomputable def evB (S : Sig) (F : Fns) (c : Bool) : List CE → Lo → Mn V
  | [], _ => bad
  | a :: as, r => match as with
    | [] => ev S F a r
    | _ :: _ => bnd (ev S F a r) fun x => bnd (truth x) fun b => if b == c then evB S F c as r else ret x
noncomputable def evC (S : Sig) (F : Fns) (x : V) (ops : List CmpOp) : List CE → Lo → Mn V
  | [], _ => bad
  | a :: as, r => match ops with
    | [] => bad
    | op :: ops' => bnd (ev S F a r) fun y => bnd (cmpV op x y) fun b => match as with
      | [] => (match ops' with | [] => ret (.bool b) | _ => bad)
      | _ :: _ => if b then evC S F y ops' as r else ret (.bool false)
/-- a dict's display: the values first, then the stores -/
noncomputable def evD (S : Sig) (F : Fns) (ks : List Str) : List CE → Lo → List (Ky × V) → Mn V
  | [], _, acc => match ks with
    | [] => alloc (.dict acc 0)
    | _ => bad
  | v :: vs, r, acc => match ks with
    | [] => bad
    | s :: ks' => bnd (ev S F v r) fun y => evD S F ks' vs r (put (.str s) y acc)
end

noncomputable def asgT (S : Sig) (F : Fns) (t : CTgt) (v : V) (r : Lo) : Mn Lo := match t with
  | .one t => setT t v r
  | .attr o n => bnd (ev S F o r) fun x => bnd (putAttr x n v) fun _ => ret r
  | .idx o i => bnd (ev S F o r) fun x => bnd (ev S F i r) fun y => bnd (putIdx x y v) fun _ => ret r
  | .idx2 o i o' i' => match v with
    | .tup [a, b] => bnd (ev S F o r) fun x => bnd (ev S F i r) fun y => bnd (putIdx x y a) fun _ =>
        bnd (ev S F o' r) fun x' => bnd (ev S F i' r) fun y' => bnd (putIdx x' y' b) fun _ => ret r
    | _ => bad

/-- a try with one clause that returns -/
noncomputable def tryD (S : Sig) (x : Mn (Fl × Lo)) (c : Nat) (nm : Option Nat) (h : Lo → Mn V) (r : Lo) : Mn (Fl × Lo) := fun m => match x m with
  | .ok a m' => .ok a m'
  | .exc d m' => match S.cls[d]? with
    | some k => if k.supers.contains c then (h r m').bind fun v => ret (.ret v, r) else .bad
    | Option.none => .bad
  | .bad => .bad

mutual
noncomputable def ex (S : Sig) (F : Fns) : CS → Lo → Mn (Fl × Lo)
  | .asg t e, r => bnd (ev S F e r) fun v => bnd (asgT S F t v r) fun r' => ret (.next, r')
  | .exp e, r => bnd (ev S F e r) fun _ => ret (.next, r)
  | .ite c a b, r => bnd (evT S F c r) fun t => if t then exs S F a r else exs S F b r
  | .for_ k t src body, r => bnd (evs S F src r) fun vs => bnd (srcV k vs) fun p => forD p.2 (fun v r' => bnd (setT t v r') fun r'' => exs S F body r'') p.1 r
  | .wh c body, r => whileD (fun r' => evT S F c r') (fun r' => exs S F body r') fuelW r
  | .ret e, r => bnd (ev S F e r) fun v => ret (.ret v, r)
  | .rse c _, _ => fun m => .exc c m
  | .try_ body c nm h, r => tryD S (exs S F body r) c nm (fun r' => ev S F h r') r
  | .cont, r => ret (.cont, r)
  | .pass, r => ret (.next, r)
noncomputable def exs (S : Sig) (F : Fns) : List CS → Lo → Mn (Fl × Lo)
  | [], r => ret (.next, r)
  | s :: ss, r => bnd (ex S F s r) fun p => match p.1 with
    | .next => exs S F ss p.2
    | f => ret (f, p.2)
end

noncomputable def callF (S : Sig) (F : Fns) (k : Nat) (vs : List V) : Mn V := match S.fns[k]? with
  | some d => if vs.length = d.np then bnd (exs S F d.body (vs.map some ++ List.replicate (d.names.length - d.np) Option.none)) fun p => match p.1 with
      | .ret v => ret v
      | .next => ret .none
      | .cont => bad
    else bad
  | Option.none => bad
/-- the calls, so deep -/
noncomputable def run (S : Sig) : Nat → Fns
  | 0 => fun _ _ => bad
  | n + 1 => callF S (run S n)

end Mini

/-! How a heap of the model bears a small heap. -/
namespace Mini
open PySem

theorem hide {C : Prop} (h : ∀ G : Prop, (C → G) → G) : C := h C id
structure Wd where
  prog : Program
  w : World
  S : Sig
  fa : Nat → Addr
  ca : Nat → Addr
  base : Heap

noncomputable abbrev Io := List (Addr × Addr)
noncomputable def Foot (io : Io) (b : Addr) : Prop := ∃ p ∈ io, b = p.1 ∨ b = p.2
theorem foot_append {io new : Io} {b : Addr} (x : Foot (io ++ new) b) : Foot io b ∨ Foot new b := by
  refine hide fun GOAL hGOAL => ?_
  obtain ⟨p, hp, e⟩ := x
  refine hGOAL ?_
  clear hGOAL GOAL
  rcases List.mem_append.mp hp with h | h
  · exact .inl ⟨p, h, e⟩
  · exact .inr ⟨p, h, e⟩

inductive IntsR : List Int → List Value → Prop
  | nil : IntsR [] []
  | cons (i : Int) (t : Tok) {ns : List Int} {vs : List Value} : IntsR ns vs → IntsR (i :: ns) (.int i t :: vs)

noncomputable abbrev tupO (vs : Array Value) (n : Nat) : Obj := { cls := .type "tuple", data := .seq vs n }
noncomputable abbrev lstO (vs : Array Value) (n : Nat) : Obj := { cls := .type "list", data := .seq vs n }
mutual
inductive VR (W : Wd) (h : Heap) (io : Io) : V → Value → Prop
  | none : VR W h io .none .none
  | bool (b : Bool) : VR W h io (.bool b) (.bool b)
  | int (i : Int) (t : Tok) : VR W h io (.int i) (.int i t)
  | str (s : Str) (t : Tok) : PyData.strOk s = true → VR W h io (.str s) (.str s t)
  | tup {a : Addr} {vs : Array Value} {n : Nat} {xs : List V} : h.get? a = some (tupO vs n) → VRs W h io xs vs.toList → VR W h io (.tup xs) (.ref a)
  | ref {n : Nat} {a d : Addr} : io[n]? = some (a, d) → VR W h io (.ref n) (.ref a)
  | scr {ns : List Int} {l : Addr} {o : Obj} {vs : Array Value} {n : Nat} : W.base.get? l = some o → o.cls = .type "list" → o.data = .seq vs n → IntsR ns vs.toList → ns.length ≤ lid → VR W h io (.scr ns) (.ref l)
inductive VRs (W : Wd) (h : Heap) (io : Io) : List V → List Value → Prop
  | nil : VRs W h io [] []
  | cons {x : V} {v : Value} {xs : List V} {vs : List Value} : VR W h io x v → VRs W h io xs vs → VRs W h io (x :: xs) (v :: vs)
end

noncomputable def atHash (w : World) : Sum Int Str → Int
  | .inl i => hashInt i
  | .inr s => hashStr w s
noncomputable def kyHash (w : World) : Ky → Int
  | .int i => hashInt i
  | .str s => hashStr w s
  | .tup ks => reduceHash (Builtin.Tuple.tupleHashOf (ks.map (atHash w)))

inductive ERs (W : Wd) (h : Heap) (io : Io) : List (Ky × V) → List DictEntry → Prop
  | nil : ERs W h io [] []
  | cons {k : Ky} {v : V} {key u : Value} {kvs : List (Ky × V)} {es : List DictEntry} : VR W h io k.val key → VR W h io v u → ERs W h io kvs es → ERs W h io ((k, v) :: kvs) (⟨kyHash W.w k, key, u⟩ :: es)
inductive FEs (W : Wd) (h : Heap) (io : Io) : List (Nat × V) → List DictEntry → Prop
  | nil : FEs W h io [] []
  | cons {i : Nat} {x : Str} {t : Tok} {v : V} {u : Value} {fs : List (Nat × V)} {es : List DictEntry} : W.S.attrs[i]? = some x → VR W h io v u → FEs W h io fs es → FEs W h io ((i, v) :: fs) (⟨hashStr W.w x, .str x t, u⟩ :: es)

noncomputable abbrev instO (C dx : Addr) : Obj := { cls := .ref C, dict := some dx, data := .plain }
noncomputable abbrev dictO (es : List DictEntry) (n : Nat) : Obj := { cls := .type "dict", data := .dict es.toArray n }

noncomputable def OR (W : Wd) (h : Heap) (io : Io) (a d : Addr) : MObj → Prop
  | .list xs => a = d ∧ ∃ vs n, h.get? a = some (lstO vs n) ∧ VRs W h io xs vs.toList ∧ xs.length ≤ lid
  | .dict kvs _ => a = d ∧ ∃ o es n, h.get? a = some o ∧ o.ExactDict ∧ o.data = .dict es n ∧ ERs W h io kvs es.toList ∧ (kvs.map (·.1)).Nodup ∧ kvs.length ≤ lid
  | .inst c fs => a ≠ d ∧ ∃ es n, h.get? a = some (instO (W.ca c) d) ∧ h.get? d = some (dictO es n) ∧ FEs W h io fs es ∧ (fs.map (·.1)).Nodup

structure HR (W : Wd) (h : Heap) (io : Io) (m : MH) : Prop where
  keep : W.base.StaysIn h
  len : io.length = m.length
  obj : ∀ (n : Nat) (p : Addr × Addr) (o : MObj), io[n]? = some p → m[n]? = some o → OR W h io p.1 p.2 o
  fresh : ∀ b, Foot io b → W.base.get? b = none
  apart : ∀ (i j : Nat) (p q : Addr × Addr), i ≠ j → io[i]? = some p → io[j]? = some q → p.1 ≠ q.1 ∧ p.1 ≠ q.2 ∧ p.2 ≠ q.2

/-- what no statement changes -/
noncomputable def Solid (o : Obj) : Prop := (o.cls = .type "tuple" ∧ ∃ vs n, o.data = .seq vs n) ∨ (∃ C vs, o.cls = .ref C ∧ o.data = .fields vs)

structure Step (own fr : List Addr) (h : Heap) (io : Io) (m : MH) (h' : Heap) (io' : Io) (m' : MH) : Prop where
  alive : ∀ b o, h.get? b = some o → ∃ o', h'.get? b = some o'
  solid : ∀ b o, h.get? b = some o → Solid o → h'.get? b = some o
  keep : ∀ b o, h.get? b = some o → ¬ Foot io b → b ∉ own → b ∉ fr → h'.get? b = some o
  slots : ∀ b o, h.get? b = some o → ¬ Foot io b → b ∉ own → ∃ sl, h'.get? b = some { o with slots := sl }
  grow : ∃ new, io' = io ++ new ∧ ∀ p ∈ new, h.get? p.1 = none ∧ h.get? p.2 = none
  dicts : ∀ (n : Nat) (p : Addr × Addr) (kvs : List (Ky × V)) (e : Nat), io[n]? = some p → m[n]? = some (.dict kvs e) → ∃ (kvs' : List (Ky × V)) (e' : Nat), m'[n]? = some (.dict kvs' e') ∧ e ≤ e' ∧ (e' = e → h'.get? p.1 = h.get? p.1 ∧ kvs' = kvs)

section
variable {W : Wd} {h h' h'' : Heap} {io io' io'' : Io} {m m' m'' : MH} {own fr : List Addr}

theorem Step.refl : Step own fr h io m h io m where
  alive := fun _ o e => ⟨o, e⟩
  solid := fun _ _ e _ => e
  keep := fun _ _ e _ _ _ => e
  slots := fun _ o e _ _ => ⟨o.slots, e⟩
  grow := ⟨[], by simp, fun _ hp => nomatch hp⟩
  dicts := fun _ _ kvs e _ hm => ⟨kvs, e, hm, Nat.le_refl _, fun _ => ⟨rfl, rfl⟩⟩

theorem Step.nofoot (x : Step own fr h io m h' io' m') {b : Addr} {o : Obj} (hb : h.get? b = some o) (hf : ¬ Foot io b) : ¬ Foot io' b := by
  refine hide fun GOAL hGOAL => ?_
  obtain ⟨new, rfl, hn⟩ := x.grow
  refine hGOAL ?_
  clear hGOAL GOAL
  intro q
  rcases foot_append q with q | ⟨p, hp, e⟩
  · exact hf q
  · rcases e with e | e
    · rw [e, (hn p hp).1] at hb; cases hb
    · rw [e, (hn p hp).2] at hb; cases hb

theorem Step.trans (x : Step own fr h io m h' io' m') (y : Step own fr h' io' m' h'' io'' m'') : Step own fr h io m h'' io'' m'' where
  alive := fun b o e => let ⟨o', e'⟩ := x.alive b o e; y.alive b o' e'
  solid := fun b o e s => y.solid b o (x.solid b o e s) s
  keep := fun b o e f1 f2 f3 => y.keep b o (x.keep b o e f1 f2 f3) (x.nofoot e f1) f2 f3
  slots := fun b o e f1 f2 => by
    obtain ⟨sl, e'⟩ := x.slots b o e f1 f2
    obtain ⟨sl', e''⟩ := y.slots b _ e' (x.nofoot e f1) f2
    exact ⟨sl', e''⟩
  grow := by
    refine hide fun GOAL hGOAL => ?_
    obtain ⟨n1, rfl, h1⟩ := x.grow
    refine hGOAL ?_
    clear hGOAL GOAL
    refine hide fun GOAL hGOAL => ?_
    obtain ⟨n2, rfl, h2⟩ := y.grow
    refine hGOAL ?_
    clear hGOAL GOAL
    refine ⟨n1 ++ n2, by simp, fun p hp => ?_⟩
    rcases List.mem_append.mp hp with hp | hp
    · exact h1 p hp
    · have back : ∀ b, h'.get? b = none → h.get? b = none := fun b e => by
        cases q : h.get? b with
        | none => rfl
        | some o => obtain ⟨o', e'⟩ := x.alive b o q; rw [e] at e'; cases e'
      exact ⟨back _ (h2 p hp).1, back _ (h2 p hp).2⟩
  dicts := fun n p kvs e hi hm => by
    refine hide fun GOAL hGOAL => ?_
    obtain ⟨k1, e1, hm1, l1, s1⟩ := x.dicts n p kvs e hi hm
    refine hGOAL ?_
    clear hGOAL GOAL
    have hi' : io'[n]? = some p := by
      refine hide fun GOAL hGOAL => ?_
      obtain ⟨new, rfl, _⟩ := x.grow
      refine hGOAL ?_
      clear hGOAL GOAL
      rw [List.getElem?_append_left (by exact (List.getElem?_eq_some_iff.mp hi).1)]; exact hi
    refine hide fun GOAL hGOAL => ?_
    obtain ⟨k2, e2, hm2, l2, s2⟩ := y.dicts n p k1 e1 hi' hm1
    refine hGOAL ?_
    clear hGOAL GOAL
    refine ⟨k2, e2, hm2, Nat.le_trans l1 l2, fun q => ?_⟩
    have q1 : e1 = e := by omega
    have q2 : e2 = e1 := by omega
    exact ⟨(s2 q2).1.trans (s1 q1).1, (s2 q2).2.trans (s1 q1).2⟩

theorem Step.io_get (x : Step own fr h io m h' io' m') {n : Nat} {p : Addr × Addr} (hi : io[n]? = some p) : io'[n]? = some p := by
  refine hide fun GOAL hGOAL => ?_
  obtain ⟨new, rfl, _⟩ := x.grow
  refine hGOAL ?_
  clear hGOAL GOAL
  rw [List.getElem?_append_left (List.getElem?_eq_some_iff.mp hi).1]; exact hi

mutual
theorem VR.step (x : Step own fr h io m h' io' m') : ∀ {v : V} {u : Value}, VR W h io v u → VR W h' io' v u
  | _, _, .none => .none
  | _, _, .bool b => .bool b
  | _, _, .int i t => .int i t
  | _, _, .str s t k => .str s t k
  | _, _, .tup h1 h4 => .tup (x.solid _ _ h1 (.inl ⟨rfl, _, _, rfl⟩)) (VRs.step x h4)
  | _, _, .ref h1 => .ref (x.io_get h1)
  | _, _, .scr h1 h2 h3 h4 h5 => .scr h1 h2 h3 h4 h5
theorem VRs.step (x : Step own fr h io m h' io' m') : ∀ {v : List V} {u : List Value}, VRs W h io v u → VRs W h' io' v u
  | _, _, .nil => .nil
  | _, _, .cons h1 h2 => .cons (VR.step x h1) (VRs.step x h2)
end

theorem ERs.step (x : Step own fr h io m h' io' m') {kvs : List (Ky × V)} {es : List DictEntry} (e : ERs W h io kvs es) : ERs W h' io' kvs es := by
  induction e with
  | nil => exact .nil
  | cons h1 h2 _ ih => exact .cons (h1.step x) (h2.step x) ih
theorem FEs.step (x : Step own fr h io m h' io' m') {fs : List (Nat × V)} {es : List DictEntry} (e : FEs W h io fs es) : FEs W h' io' fs es := by
  induction e with
  | nil => exact .nil
  | cons h1 h2 _ ih => exact .cons h1 (h2.step x) ih

theorem VRs.length {xs : List V} {vs : List Value} (x : VRs W h io xs vs) : vs.length = xs.length := by
  induction xs generalizing vs with
  | nil => cases x; rfl
  | cons y ys ih => cases x with | cons _ r => simp [ih r]
theorem VRs.get {xs : List V} {vs : List Value} (x : VRs W h io xs vs) {k : Nat} {v : V} (hk : xs[k]? = some v) : ∃ u, vs[k]? = some u ∧ VR W h io v u := by
  induction xs generalizing vs k with
  | nil => simp at hk
  | cons y ys ih =>
    cases x with
    | cons h1 r =>
      cases k with
      | zero => simp at hk; subst hk; exact ⟨_, rfl, h1⟩
      | succ k => simp at hk; simpa using ih r hk
theorem VRs.append {xs ys : List V} {vs us : List Value} (x : VRs W h io xs vs) (y : VRs W h io ys us) : VRs W h io (xs ++ ys) (vs ++ us) := by
  induction xs generalizing vs with
  | nil => cases x; exact y
  | cons z zs ih => cases x with | cons h1 r => exact .cons h1 (ih r)
theorem VRs.snoc {xs : List V} {vs : List Value} {v : V} {u : Value} (x : VRs W h io xs vs) (y : VR W h io v u) : VRs W h io (xs ++ [v]) (vs ++ [u]) := x.append (.cons y .nil)
theorem VRs.take {xs : List V} {vs : List Value} (x : VRs W h io xs vs) (k : Nat) : VRs W h io (xs.take k) (vs.take k) := by
  induction xs generalizing vs k with
  | nil => cases x; simp; exact .nil
  | cons z zs ih => cases x with | cons h1 r => cases k with
    | zero => exact .nil
    | succ k => exact .cons h1 (ih r k)
theorem VRs.drop {xs : List V} {vs : List Value} (x : VRs W h io xs vs) (k : Nat) : VRs W h io (xs.drop k) (vs.drop k) := by
  induction xs generalizing vs k with
  | nil => cases x; simp; exact .nil
  | cons z zs ih => cases x with | cons h1 r => cases k with
    | zero => exact .cons h1 r
    | succ k => exact ih r k
theorem VRs.eraseIdx {xs : List V} {vs : List Value} (x : VRs W h io xs vs) (k : Nat) : VRs W h io (xs.eraseIdx k) (vs.eraseIdx k) := by
  induction xs generalizing vs k with
  | nil => cases x; exact .nil
  | cons z zs ih => cases x with | cons h1 r => cases k with
    | zero => exact r
    | succ k => exact .cons h1 (ih r k)
theorem VRs.reverse {xs : List V} {vs : List Value} (x : VRs W h io xs vs) : VRs W h io xs.reverse vs.reverse := by
  induction xs generalizing vs with
  | nil => cases x; exact .nil
  | cons z zs ih => cases x with | cons h1 r => simp only [List.reverse_cons]; exact (ih r).snoc h1
theorem IntsR.length {ns : List Int} {vs : List Value} (x : IntsR ns vs) : vs.length = ns.length := by
  induction x with
  | nil => rfl
  | cons _ _ _ ih => simp [ih]
theorem IntsR.vrs {ns : List Int} {vs : List Value} (x : IntsR ns vs) : VRs W h io (ns.map .int) vs := by
  induction x with
  | nil => exact .nil
  | cons i t _ ih => exact .cons (.int i t) ih

theorem OR.step_same (x : Step own fr h io m h' io' m') {a d : Addr} {o : MObj} (k : OR W h io a d o) (ha : ∀ o, h.get? a = some o → h'.get? a = some o) (hd : ∀ o, h.get? d = some o → h'.get? d = some o) : OR W h' io' a d o := by
  cases o with
  | list xs =>
    refine hide fun GOAL hGOAL => ?_
    obtain ⟨e, vs, n, h1, h4, h5⟩ := k
    refine hGOAL ?_
    clear hGOAL GOAL
    exact ⟨e, vs, n, ha _ h1, h4.step x, h5⟩
  | dict kvs ep =>
    refine hide fun GOAL hGOAL => ?_
    obtain ⟨e, o, es, n, h1, h2, h3, h4, h5⟩ := k
    refine hGOAL ?_
    clear hGOAL GOAL
    exact ⟨e, o, es, n, ha _ h1, h2, h3, h4.step x, h5⟩
  | inst c fs =>
    refine hide fun GOAL hGOAL => ?_
    obtain ⟨e, es, n, h1, h2, h3, h4⟩ := k
    refine hGOAL ?_
    clear hGOAL GOAL
    exact ⟨e, es, n, ha _ h1, hd _ h2, h3.step x, h4⟩

/-- the objects of the footing are there, and of these kinds -/
theorem HR.foot {b : Addr} (x : HR W h io m) (f : Foot io b) : ∃ o, h.get? b = some o ∧ ¬ Solid o ∧ (∀ v, o.data ≠ .cell v) ∧ (∀ vs, o.data ≠ .fields vs) ∧ (∀ f, o.data ≠ .func f) := by
  refine hide fun GOAL hGOAL => ?_
  obtain ⟨p, hp, e⟩ := f
  refine hGOAL ?_
  clear hGOAL GOAL
  obtain ⟨n, hn⟩ := List.getElem?_of_mem hp
  have hlt : n < m.length := by rw [← x.len]; exact (List.getElem?_eq_some_iff.mp hn).1
  have hm : m[n]? = some m[n] := List.getElem?_eq_getElem hlt
  have k := x.obj n p _ hn hm
  have sd : ∀ o : Obj, o.ExactDict → ∀ es ep, o.data = .dict es ep → ¬ Solid o := by
    rintro o hx es ep hd (⟨hc, vs, n, hs⟩ | ⟨C, vs, hc, hs⟩)
    · rw [hd] at hs; cases hs
    · rw [hd] at hs; cases hs
  cases hq : m[n] with
  | list xs =>
    rw [hq] at k
    refine hide fun GOAL hGOAL => ?_
    obtain ⟨e', vs, n', h1, _⟩ := k
    refine hGOAL ?_
    clear hGOAL GOAL
    refine ⟨lstO vs n', ?_, ?_, ?_, ?_, ?_⟩
    · rcases e with e | e
      · rw [e]; exact h1
      · rw [e, ← e']; exact h1
    · rintro (⟨hc, _⟩ | ⟨C, ws, hc, hs⟩)
      · simp at hc
      · cases hs
    all_goals (intro v q; cases q)
  | dict kvs ep =>
    rw [hq] at k
    refine hide fun GOAL hGOAL => ?_
    obtain ⟨e', o, es, n', h1, h2, h3, _⟩ := k
    refine hGOAL ?_
    clear hGOAL GOAL
    refine ⟨o, ?_, sd o h2 _ _ h3, ?_, ?_, ?_⟩
    · rcases e with e | e
      · rw [e]; exact h1
      · rw [e, ← e']; exact h1
    · intro v q; rw [h3] at q; cases q
    · intro v q; rw [h3] at q; cases q
    · intro v q; rw [h3] at q; cases q
  | inst c fs =>
    rw [hq] at k
    refine hide fun GOAL hGOAL => ?_
    obtain ⟨e', es, n', h1, h2, _⟩ := k
    refine hGOAL ?_
    clear hGOAL GOAL
    rcases e with e | e
    · refine ⟨_, by rw [e]; exact h1, ?_, ?_, ?_, ?_⟩
      · rintro (⟨hc, _⟩ | ⟨C, ws, hc, hs⟩)
        · cases hc
        · cases hs
      all_goals (intro v q; cases q)
    · refine ⟨_, by rw [e]; exact h2, ?_, ?_, ?_, ?_⟩
      · exact sd _ ⟨rfl, rfl, rfl⟩ _ _ rfl
      all_goals (intro v q; cases q)

theorem HR.nofoot_of_solid {b : Addr} {o : Obj} (x : HR W h io m) (hb : h.get? b = some o) (hs : Solid o) : ¬ Foot io b := fun f => by
  refine hide fun GOAL hGOAL => ?_
  obtain ⟨o', h1, h2, _⟩ := x.foot f
  refine hGOAL ?_
  clear hGOAL GOAL
  rw [hb] at h1; cases h1; exact h2 hs
theorem HR.nofoot_of_cell {b : Addr} {o : Obj} {v : Option Value} (x : HR W h io m) (hb : h.get? b = some o) (hs : o.data = .cell v) : ¬ Foot io b := fun f => by
  refine hide fun GOAL hGOAL => ?_
  obtain ⟨o', h1, _, h2, _⟩ := x.foot f
  refine hGOAL ?_
  clear hGOAL GOAL
  rw [hb] at h1; cases h1; exact h2 _ hs
theorem HR.there {n : Nat} {p : Addr × Addr} (x : HR W h io m) (hn : io[n]? = some p) : ∃ o, h.get? p.1 = some o := by
  refine hide fun GOAL hGOAL => ?_
  obtain ⟨o, ho, _⟩ := x.foot ⟨p, List.mem_of_getElem? hn, .inl rfl⟩
  refine hGOAL ?_
  clear hGOAL GOAL
  exact ⟨o, ho⟩
/-- nothing but new objects -/
theorem Step.of_keeps (x : HR W h io m) (hk : ∀ b o, h.get? b = some o → h'.get? b = some o) : Step own fr h io m h' io m where
  alive := fun b o e => ⟨o, hk b o e⟩
  solid := fun b o e _ => hk b o e
  keep := fun b o e _ _ _ => hk b o e
  slots := fun b o e _ _ => ⟨o.slots, hk b o e⟩
  grow := ⟨[], by simp, fun _ hp => nomatch hp⟩
  dicts := fun n p kvs e hi hm => ⟨kvs, e, hm, Nat.le_refl _, fun _ => ⟨by
    obtain ⟨o, ho⟩ := x.there hi
    rw [ho]; exact hk _ _ ho, rfl⟩⟩
theorem HR.of_keeps (x : HR W h io m) (hk : ∀ b o, h.get? b = some o → h'.get? b = some o) : HR W h' io m where
  keep := fun b o e => hk b o (x.keep b o e)
  len := x.len
  obj := fun n p o hi hm => (x.obj n p o hi hm).step_same (Step.of_keeps (own := []) (fr := []) x hk) (hk _) (hk _)
  fresh := x.fresh
  apart := x.apart

theorem HR.of_foot (x : HR W h io m) (st : Step own fr h io m h' io m) (hf : ∀ b o, Foot io b → h.get? b = some o → h'.get? b = some o) (hb : W.base.StaysIn h') : HR W h' io m where
  keep := hb
  len := x.len
  obj := fun n p o hi hm => (x.obj n p o hi hm).step_same st (fun o e => hf _ o ⟨p, List.mem_of_getElem? hi, .inl rfl⟩ e) (fun o e => hf _ o ⟨p, List.mem_of_getElem? hi, .inr rfl⟩ e)
  fresh := x.fresh
  apart := x.apart

/-- an address of the frame's own changes -/
theorem step_own {L : Addr} (x : HR W h io m) (hL : L ∈ own) (hk : ∀ b o, b ≠ L → h.get? b = some o → h'.get? b = some o) (hs : ∀ o, h.get? L = some o → ¬ Solid o ∧ ∃ o', h'.get? L = some o') (hf : ¬ Foot io L) :
    Step own fr h io m h' io m where
  alive := fun b o e => by
    by_cases q : b = L
    · subst q; exact (hs o e).2
    · exact ⟨o, hk b o q e⟩
  solid := fun b o e so => by
    by_cases q : b = L
    · subst q; exact absurd so (hs o e).1
    · exact hk b o q e
  keep := fun b o e _ ho _ => hk b o (fun q => ho (q ▸ hL)) e
  slots := fun b o e _ ho => ⟨o.slots, hk b o (fun q => ho (q ▸ hL)) e⟩
  grow := ⟨[], by simp, fun _ hp => nomatch hp⟩
  dicts := fun n p kvs e hi hm => ⟨kvs, e, hm, Nat.le_refl _, fun _ => ⟨by
    obtain ⟨o, ho⟩ := x.there hi
    rw [ho]; exact hk _ _ (fun q => hf ⟨p, List.mem_of_getElem? hi, .inl q.symm⟩) ho, rfl⟩⟩
theorem HR.ofOwn {L : Addr} (x : HR W h io m) (hL : L ∈ own) (hk : ∀ b o, b ≠ L → h.get? b = some o → h'.get? b = some o) (hs : ∀ o, h.get? L = some o → ¬ Solid o ∧ ∃ o', h'.get? L = some o') (hf : ¬ Foot io L) (hb : W.base.get? L = none) :
    HR W h' io m := x.of_foot (fr := []) (step_own x hL hk hs hf) (fun b o f e => hk b o (fun q => hf (q ▸ f)) e) fun b o e => hk b o (fun q => by rw [q, hb] at e; cases e) (x.keep b o e)

/-- a new object -/
theorem step_alloc (x : HR W h io m) {a d : Addr} {o : MObj} (hk : ∀ b o, h.get? b = some o → h'.get? b = some o) (ha : h.get? a = none) (hd : h.get? d = none) :
    Step own fr h io m h' (io ++ [(a, d)]) (m ++ [o]) where
  alive := fun b o e => ⟨o, hk b o e⟩
  solid := fun b o e _ => hk b o e
  keep := fun b o e _ _ _ => hk b o e
  slots := fun b o e _ _ => ⟨o.slots, hk b o e⟩
  grow := ⟨[(a, d)], rfl, fun p hp => by rw [List.mem_singleton.mp hp]; exact ⟨ha, hd⟩⟩
  dicts := fun n p kvs e hi hm => ⟨kvs, e, by rw [List.getElem?_append_left (List.getElem?_eq_some_iff.mp hm).1]; exact hm, Nat.le_refl _, fun _ => ⟨by
    obtain ⟨o, ho⟩ := x.there hi
    rw [ho]; exact hk _ _ ho, rfl⟩⟩
theorem HR.alloc (x : HR W h io m) {a d : Addr} {o : MObj} (hk : ∀ b o, h.get? b = some o → h'.get? b = some o) (ha : h.get? a = none) (hd : h.get? d = none)
    (k : OR W h' (io ++ [(a, d)]) a d o) : HR W h' (io ++ [(a, d)]) (m ++ [o]) where
  keep := fun b o e => hk b o (x.keep b o e)
  len := by simp [x.len]
  obj := fun n p o' hi hm => by
    by_cases q : n < io.length
    · rw [List.getElem?_append_left q] at hi
      rw [List.getElem?_append_left (x.len ▸ q)] at hm
      exact (x.obj n p o' hi hm).step_same (step_alloc (own := []) (fr := []) (o := o) x hk ha hd) (hk _) (hk _)
    · have q1 : n = io.length := by
        have := (List.getElem?_eq_some_iff.mp hi).1
        simp at this; omega
      subst q1
      rw [List.getElem?_append_right (Nat.le_refl _)] at hi
      rw [x.len, List.getElem?_append_right (Nat.le_refl _)] at hm
      simp at hi hm
      subst hi hm
      exact k
  fresh := fun b f => by
    rcases foot_append f with f | ⟨p, hp, e⟩
    · exact x.fresh b f
    · rw [List.mem_singleton.mp hp] at e
      cases q : W.base.get? b with
      | none => rfl
      | some o =>
        have := x.keep b o q
        rcases e with e | e <;> subst e
        · rw [ha] at this; cases this
        · rw [hd] at this; cases this
  apart := fun i j p q hij hi hj => by
    have lo : ∀ (n : Nat) (p : Addr × Addr), (io ++ [(a, d)])[n]? = some p → (n < io.length ∧ io[n]? = some p) ∨ (n = io.length ∧ p = (a, d)) := fun n p hn => by
      by_cases q : n < io.length
      · rw [List.getElem?_append_left q] at hn; exact .inl ⟨q, hn⟩
      · have q1 : n = io.length := by
          have := (List.getElem?_eq_some_iff.mp hn).1
          simp at this; omega
        subst q1
        rw [List.getElem?_append_right (Nat.le_refl _)] at hn
        simp at hn
        exact .inr ⟨rfl, hn.symm⟩
    have off : ∀ (n : Nat) (p : Addr × Addr), io[n]? = some p → p.1 ≠ a ∧ p.1 ≠ d ∧ p.2 ≠ a ∧ p.2 ≠ d := fun n p hn => by
      refine hide fun GOAL hGOAL => ?_
      obtain ⟨o1, h1, _⟩ := x.foot ⟨p, List.mem_of_getElem? hn, .inl rfl⟩
      refine hGOAL ?_
      clear hGOAL GOAL
      refine hide fun GOAL hGOAL => ?_
      obtain ⟨o2, h2, _⟩ := x.foot ⟨p, List.mem_of_getElem? hn, .inr rfl⟩
      refine hGOAL ?_
      clear hGOAL GOAL
      refine ⟨fun e => ?_, fun e => ?_, fun e => ?_, fun e => ?_⟩
      · rw [e, ha] at h1; cases h1
      · rw [e, hd] at h1; cases h1
      · rw [e, ha] at h2; cases h2
      · rw [e, hd] at h2; cases h2
    rcases lo i p hi with ⟨_, hi⟩ | ⟨ei, rfl⟩ <;> rcases lo j q hj with ⟨_, hj⟩ | ⟨ej, rfl⟩
    · exact x.apart i j p q hij hi hj
    · refine hide fun GOAL hGOAL => ?_
      obtain ⟨h1, h2, h3, h4⟩ := off i p hi
      refine hGOAL ?_
      clear hGOAL GOAL
      exact ⟨h1, h2, h4⟩
    · refine hide fun GOAL hGOAL => ?_
      obtain ⟨h1, h2, h3, h4⟩ := off j q hj
      refine hGOAL ?_
      clear hGOAL GOAL
      exact ⟨Ne.symm h1, Ne.symm h3, Ne.symm h4⟩
    · exact absurd (ei.trans ej.symm) hij

/-- an object changes -/
theorem step_set (x : HR W h io m) {n : Nat} {p : Addr × Addr} {o o1 : MObj} (hi : io[n]? = some p) (hm : m[n]? = some o) (hk : ∀ b o, b ≠ p.1 → b ≠ p.2 → h.get? b = some o → h'.get? b = some o)
    (h1 : ∃ o', h'.get? p.1 = some o') (h2 : ∃ o', h'.get? p.2 = some o') (hd : ∀ kvs e, o = .dict kvs e → ∃ kvs' e', o1 = .dict kvs' e' ∧ e < e') : Step own fr h io m h' io (m.set n o1) where
  alive := fun b o e => by
    by_cases q : b = p.1
    · subst q; exact h1
    · by_cases q2 : b = p.2
      · subst q2; exact h2
      · exact ⟨o, hk b o q q2 e⟩
  solid := fun b o e s => hk b o (fun q => x.nofoot_of_solid e s ⟨p, List.mem_of_getElem? hi, .inl q⟩) (fun q => x.nofoot_of_solid e s ⟨p, List.mem_of_getElem? hi, .inr q⟩) e
  keep := fun b o e f _ _ => hk b o (fun q => f ⟨p, List.mem_of_getElem? hi, .inl q⟩) (fun q => f ⟨p, List.mem_of_getElem? hi, .inr q⟩) e
  slots := fun b o e f _ => ⟨o.slots, hk b o (fun q => f ⟨p, List.mem_of_getElem? hi, .inl q⟩) (fun q => f ⟨p, List.mem_of_getElem? hi, .inr q⟩) e⟩
  grow := ⟨[], by simp, fun _ hp => nomatch hp⟩
  dicts := fun k q kvs e hq hmk => by
    by_cases z : k = n
    · subst z
      rw [hm] at hmk; cases hmk
      refine hide fun GOAL hGOAL => ?_
      obtain ⟨kvs', e', rfl, hlt⟩ := hd kvs e rfl
      refine hGOAL ?_
      clear hGOAL GOAL
      refine ⟨kvs', e', by simp [(List.getElem?_eq_some_iff.mp hm).1], by omega, fun w => by omega⟩
    · refine ⟨kvs, e, by rw [List.getElem?_set_ne (Ne.symm z)]; exact hmk, Nat.le_refl _, fun _ => ⟨?_, rfl⟩⟩
      obtain ⟨o, ho⟩ := x.there hq
      refine hide fun GOAL hGOAL => ?_
      obtain ⟨a1, a2, a3⟩ := x.apart k n q p z hq hi
      refine hGOAL ?_
      clear hGOAL GOAL
      rw [ho]; exact hk _ _ a1 a2 ho
theorem HR.set (x : HR W h io m) {n : Nat} {p : Addr × Addr} {o o1 : MObj} (hi : io[n]? = some p) (hm : m[n]? = some o) (hk : ∀ b o, b ≠ p.1 → b ≠ p.2 → h.get? b = some o → h'.get? b = some o)
    (hd : ∀ kvs e, o = .dict kvs e → ∃ kvs' e', o1 = .dict kvs' e' ∧ e < e') (h1 : ∃ o', h'.get? p.1 = some o') (h2 : ∃ o', h'.get? p.2 = some o') (k : OR W h' io p.1 p.2 o1) : HR W h' io (m.set n o1) where
  keep := fun b o e => hk b o (fun q => by rw [x.fresh b ⟨p, List.mem_of_getElem? hi, .inl q⟩] at e; cases e) (fun q => by rw [x.fresh b ⟨p, List.mem_of_getElem? hi, .inr q⟩] at e; cases e) (x.keep b o e)
  len := by simp [x.len]
  obj := fun j q o' hj hmj => by
    by_cases z : j = n
    · subst z
      rw [hi] at hj; cases hj
      rw [List.getElem?_set_self (List.getElem?_eq_some_iff.mp hm).1] at hmj; cases hmj
      exact k
    · rw [List.getElem?_set_ne (Ne.symm z)] at hmj
      refine hide fun GOAL hGOAL => ?_
      obtain ⟨a1, a2, a3⟩ := x.apart j n q p z hj hi
      refine hGOAL ?_
      clear hGOAL GOAL
      refine hide fun GOAL hGOAL => ?_
      obtain ⟨b1, b2, b3⟩ := x.apart n j p q (Ne.symm z) hi hj
      refine hGOAL ?_
      clear hGOAL GOAL
      exact (x.obj j q o' hj hmj).step_same (step_set (own := []) (fr := []) x hi hm hk h1 h2 hd) (fun o e => hk _ o a1 a2 e) (fun o e => hk _ o (Ne.symm b2) a3 e)
  fresh := x.fresh
  apart := x.apart
end
end Mini

/-! Frames, and what a step of the walk says. -/
namespace Mini
open PySem

noncomputable def frs (fs : List Env) : List Addr := fs.filterMap (·.frame)

structure FR (W : Wd) (h : Heap) (io : Io) (env : Env) (vis : List (Option Str)) (r : Lo) : Prop where
  kind : env.scope.kind = .function
  glob : env.globals = mainGlobals
  blt : env.builtins = builtinsNs
  nofoot : ¬ Foot io env.locals
  fresh : W.base.get? env.locals = none
  loc : ∃ mp, h.Ns env.locals mp ∧ ∀ (i : Nat) (x : Str) (v : V), vis[i]? = some (some x) → r[i]? = some (some v) → env.kindOf x = some .local → ∃ u, mp x = some u ∧ VR W h io v u
  cel : ∀ (i : Nat) (x : Str) (v : V), vis[i]? = some (some x) → r[i]? = some (some v) → (env.kindOf x = some .cell ∨ env.kindOf x = some .free) → ∃ c u, env.cells.lookup x = some c ∧ h.IsCell c (some u) ∧ VR W h io v u
  cells : ∀ (x : Str) (c : Addr), env.cells.lookup x = some c → (∃ o, h.IsCell c o) ∧ W.base.get? c = none ∧ c ≠ env.locals
  celex : ∀ (i : Nat) (x : Str), vis[i]? = some (some x) → (env.kindOf x = some .cell ∨ env.kindOf x = some .free) → ∃ c, env.cells.lookup x = some c
  apart : ∀ (x y : Str) (c : Addr), env.cells.lookup x = some c → env.cells.lookup y = some c → x = y
  inj : ∀ (i j : Nat) (x : Str), vis[i]? = some (some x) → vis[j]? = some (some x) → i = j
  len : r.length = vis.length

noncomputable def FF (W : Wd) (h : Heap) (io : Io) (fs : List Env) : Prop :=
  ∀ env ∈ fs, env.scope.kind ≠ .module ∧ ∃ L o es n, env.frame = some L ∧ W.base.get? L = none ∧ ¬ Foot io L ∧ h.get? L = some o ∧ o.data = .dict es n

structure AR (A : Around) (fs : List Env) (n : Nat) : Prop where
  frames : A.frames = some fs
  depth : A.depth + 4 * n ≤ 900
  units : A.units + 40 * n + 400 ≤ 9000
  handled : A.handled = none

noncomputable def Same (s s' : Shared) : Prop := s'.gens = s.gens ∧ s'.os = s.os
theorem Same.refl (s : Shared) : Same s s := ⟨rfl, rfl⟩
theorem Same.trans {a b c : Shared} (x : Same a b) (y : Same b c) : Same a c := ⟨y.1.trans x.1, y.2.trans x.2⟩

/-- the end of an expression -/
noncomputable def NP (W : Wd) (own fr : List Addr) (s : Shared) (io : Io) (m : MH) {α β : Type} (P : Heap → Io → α → β → Prop) (R : Res α) (u : β) (s' : Shared) : Prop :=
  ∃ v m' io', R = .ok v m' ∧ Step own fr s.heap io m s'.heap io' m' ∧ HR W s'.heap io' m' ∧ P s'.heap io' v u ∧ Same s s'
/-- what stays while an exception flies -/
noncomputable def Kp (W : Wd) (h0 : Heap) (io : Io) (fs : List Env) (g B : Heap) : Prop :=
  ∀ b o, g.get? b = some o → (Foot io b ∨ Solid o ∨ W.base.get? b = some o ∨ ((∃ o', h0.get? b = some o') ∧ b ∉ frs fs)) → B.get? b = some o
/-- an exception came from a callee, or it was made here -/
noncomputable def Fly (W : Wd) (fs : List Env) (h0 : Heap) (io : Io) (g : Heap) (a : Addr) (c : Nat) (h' : Heap) : Prop :=
  ∃ B, Kp W h0 io fs g B ∧ ((∃ a0, Heap.FlyingW B fs a (.ref (W.ca c)) a0 h' ∧ g.UpToSlots h') ∨ (∃ args, B.StaysIn g ∧ g.FunFrames B fs ∧ Heap.MadeExcOf g h' a (.ref (W.ca c)) args))
/-- an exception that flies -/
noncomputable def XP (W : Wd) (own : List Addr) (fs : List Env) (s : Shared) (io : Io) (m : MH) {α : Type} (R : Res α) (e : Value) (s' : Shared) : Prop :=
  ∃ c m' io' a g, R = .exc c m' ∧ e = .ref a ∧ Step own (frs fs) s.heap io m g io' m' ∧ HR W g io' m' ∧ Fly W fs s.heap io' g a c s'.heap ∧ Same s s'

noncomputable abbrev VP (W : Wd) : Heap → Io → V → Value → Prop := fun h io v u => VR W h io v u
noncomputable abbrev VsP (W : Wd) : Heap → Io → List V → List Value → Prop := fun h io v u => VRs W h io v u
noncomputable abbrev BP : Heap → Io → Bool → Bool → Prop := fun _ _ b c => b = c

section
variable {W : Wd} {h h' : Heap} {io io' : Io} {m m' : MH} {own fr : List Addr} {env : Env} {vis : List (Option Str)} {r : Lo} {fs : List Env} {s s' : Shared}

theorem ns_slots {h h' : Heap} {L : Addr} {mp : Str → Option Value} (x : h.Ns L mp) (k : ∀ o, h.get? L = some o → ∃ sl, h'.get? L = some { o with slots := sl }) : h'.Ns L mp := by
  refine hide fun GOAL hGOAL => ?_
  obtain ⟨o, es, ep, ho, hd, r⟩ := x
  refine hGOAL ?_
  clear hGOAL GOAL
  obtain ⟨sl, e⟩ := k o ho
  exact ⟨_, es, ep, e, hd, r⟩
theorem cell_slots {h h' : Heap} {c : Addr} {v : Option Value} (x : h.IsCell c v) (k : ∀ o, h.get? c = some o → ∃ sl, h'.get? c = some { o with slots := sl }) : h'.IsCell c v := by
  refine hide fun GOAL hGOAL => ?_
  obtain ⟨o, ho, hd⟩ := x
  refine hGOAL ?_
  clear hGOAL GOAL
  obtain ⟨sl, e⟩ := k o ho
  exact ⟨_, e, hd⟩

theorem FR.step (F : FR W h io env vis r) (H : HR W h io m) (x : Step own fr h io m h' io' m') (hL : env.locals ∉ own) (hc : ∀ y c, env.cells.lookup y = some c → c ∉ own) : FR W h' io' env vis r := by
  have sc : ∀ y c, env.cells.lookup y = some c → ∀ o, h.get? c = some o → ∃ sl, h'.get? c = some { o with slots := sl } := fun y c hy o ho => by
    refine hide fun GOAL hGOAL => ?_
    obtain ⟨⟨v, oc, hoc, hd⟩, _⟩ := F.cells y c hy
    refine hGOAL ?_
    clear hGOAL GOAL
    refine x.slots c o ho ?_ (hc y c hy)
    exact H.nofoot_of_cell hoc hd
  refine hide fun GOAL hGOAL => ?_
  obtain ⟨mp, hn, hl⟩ := F.loc
  refine hGOAL ?_
  clear hGOAL GOAL
  refine hide fun GOAL hGOAL => ?_
  obtain ⟨oL, _, _, hoL, _⟩ := id hn
  refine hGOAL ?_
  clear hGOAL GOAL
  refine ⟨F.kind, F.glob, F.blt, x.nofoot hoL F.nofoot, F.fresh, ⟨mp, ns_slots hn fun o ho => x.slots _ o ho F.nofoot hL, fun i y v h1 h2 h3 => ?_⟩, fun i y v h1 h2 h3 => ?_, fun y c hy => ?_, F.celex, F.apart, F.inj, F.len⟩
  · refine hide fun GOAL hGOAL => ?_
    obtain ⟨u, e, k⟩ := hl i y v h1 h2 h3
    refine hGOAL ?_
    clear hGOAL GOAL
    exact ⟨u, e, k.step x⟩
  · refine hide fun GOAL hGOAL => ?_
    obtain ⟨c, u, e, k1, k2⟩ := F.cel i y v h1 h2 h3
    refine hGOAL ?_
    clear hGOAL GOAL
    exact ⟨c, u, e, cell_slots k1 (sc y c e), k2.step x⟩
  · refine hide fun GOAL hGOAL => ?_
    obtain ⟨⟨o, k1⟩, k2, k3⟩ := F.cells y c hy
    refine hGOAL ?_
    clear hGOAL GOAL
    exact ⟨⟨o, cell_slots k1 (sc y c hy)⟩, k2, k3⟩
theorem FR.step0 (F : FR W h io env vis r) (H : HR W h io m) (x : Step [] fr h io m h' io' m') : FR W h' io' env vis r := F.step H x (fun q => nomatch q) fun _ _ _ q => nomatch q

theorem FF.step (F : FF W h io fs) (x : Step own fr h io m h' io' m') (ho : ∀ L ∈ frs fs, L ∉ own) : FF W h' io' fs := by
  intro env he
  refine hide fun GOAL hGOAL => ?_
  obtain ⟨hk, L, o, es, n, h1, h2, h3, h4, h5⟩ := F env he
  refine hGOAL ?_
  clear hGOAL GOAL
  obtain ⟨sl, e⟩ := x.slots L o h4 h3 (ho L (List.mem_filterMap.mpr ⟨env, he, h1⟩))
  exact ⟨hk, L, _, es, n, h1, h2, x.nofoot h4 h3, e, h5⟩
theorem FF.step0 (F : FF W h io fs) (x : Step [] fr h io m h' io' m') : FF W h' io' fs := F.step x fun _ _ q => nomatch q
theorem AR.cline {A : Around} {n : Nat} (x : AR A fs n) : A.units + 400 < cLine := by have := x.units; simp only [cLine]; omega

/-- a first part's exception is the whole's -/
theorem XP.bind {α β : Type} {R : Res α} {f : α → Mn β} {e : Value} {s₁ : Shared} {io₁ : Io} {m₁ : MH} (x : XP W own fs s₁ io₁ m₁ R e s') (st : Step own (frs fs) s.heap io m s₁.heap io₁ m₁) (sm : Same s s₁) : XP W own fs s io m (R.bind f) e s' := by
  refine hide fun GOAL hGOAL => ?_
  obtain ⟨c, m', io', a, g, rfl, h2, h3, h4, ⟨B, h5, h6⟩, h7⟩ := x
  refine hGOAL ?_
  clear hGOAL GOAL
  exact ⟨c, m', io', a, g, rfl, h2, st.trans h3, h4, ⟨B, fun b o e q => h5 b o e (q.imp id (Or.imp id (Or.imp id fun ⟨⟨o', e'⟩, q⟩ => ⟨st.alive b o' e', q⟩))), h6⟩, sm.trans h7⟩
theorem XP.mono {α : Type} {R : Res α} {e : Value} {s₁ : Shared} {io₁ : Io} {m₁ : MH} (x : XP W own fs s₁ io₁ m₁ R e s') (st : Step own (frs fs) s.heap io m s₁.heap io₁ m₁) (sm : Same s s₁) : XP W own fs s io m R e s' := by
  refine hide fun GOAL hGOAL => ?_
  obtain ⟨c, m', io', a, g, rfl, h2, h3, h4, ⟨B, h5, h6⟩, h7⟩ := x
  refine hGOAL ?_
  clear hGOAL GOAL
  exact ⟨c, m', io', a, g, rfl, h2, st.trans h3, h4, ⟨B, fun b o e q => h5 b o e (q.imp id (Or.imp id (Or.imp id fun ⟨⟨o', e'⟩, q⟩ => ⟨st.alive b o' e', q⟩))), h6⟩, sm.trans h7⟩
theorem NP.mono {α β : Type} {P : Heap → Io → α → β → Prop} {R : Res α} {u : β} {s₁ : Shared} {io₁ : Io} {m₁ : MH} (x : NP W own fr s₁ io₁ m₁ P R u s') (st : Step own fr s.heap io m s₁.heap io₁ m₁) (sm : Same s s₁) : NP W own fr s io m P R u s' := by
  refine hide fun GOAL hGOAL => ?_
  obtain ⟨v, m', io', rfl, h2, h3, h4, h5⟩ := x
  refine hGOAL ?_
  clear hGOAL GOAL
  exact ⟨v, m', io', rfl, st.trans h2, h3, h4, sm.trans h5⟩

/-- a tree bears a meaning -/
noncomputable def Si (W : Wd) (own : List Addr) (A : Around) (fs : List Env) {α β : Type} (P : Heap → Io → α → β → Prop) (t : Sem β) (s : Shared) (io : Io) (m : MH) (R : Res α) : Prop :=
  R ≠ .bad → wpAny (model W.prog W.w) A t (NP W own (frs fs) s io m P R) (XP W own fs s io m R) s

section
variable {α α' β β' γ : Type} {A : Around} {P : Heap → Io → α → β → Prop} {P' : Heap → Io → α' → β' → Prop}
theorem Res.bind_ne {R : Res α} {f : α → Mn α'} (h : R.bind f ≠ .bad) : R ≠ .bad := fun q => h (by rw [q]; rfl)

/-- one after the other -/
theorem Si.bind {t : Sem β} {k : β → Sem β'} {R : Res α} {f : α → Mn α'} (x : Si W own A fs P t s io m R)
    (y : ∀ u s₁ io₁ m₁ v, R = .ok v m₁ → Step own (frs fs) s.heap io m s₁.heap io₁ m₁ → HR W s₁.heap io₁ m₁ → P s₁.heap io₁ v u → Same s s₁ → Si W own A fs P' (k u) s₁ io₁ m₁ (f v m₁)) :
    Si W own A fs P' (t >>= k) s io m (R.bind f) := by
  intro hne
  refine wpAny_bind (wpAny_mono (x (Res.bind_ne hne)) (fun u s₁ hp => ?_) fun e s₁ hp => hp.bind .refl (.refl _))
  refine hide fun GOAL hGOAL => ?_
  obtain ⟨v, m₁, io₁, rfl, st, hr, hp, sm⟩ := hp
  refine hGOAL ?_
  clear hGOAL GOAL
  exact wpAny_mono (y u s₁ io₁ m₁ v rfl st hr hp sm hne) (fun _ _ z => z.mono st sm) fun _ _ z => z.mono st sm
theorem Si.pure {u : β} {v : α} (H : HR W s.heap io m) (p : P s.heap io v u) : Si W own A fs P (Pure.pure u) s io m (.ok v m) :=
  fun _ => wpAny_pure ⟨v, m, io, rfl, .refl, H, p, .refl _⟩
theorem Si.bad {t : Sem β} : Si W own A fs P t s io m .bad := fun h => absurd rfl h
/-- a step that only turns the state without a word -/
theorem Si.standAt {pos : Pos} {k : Unit → Sem β} {R : Res α} (x : Si W own A fs P (k ()) s io m R) : Si W own A fs P (PySem.standAt pos >>= k) s io m R :=
  fun h => wpAny_bind (wpAny_standAt (x h))
theorem Si.holding {vs : List Value} {t : Sem β} {R : Res α} (x : Si W own A fs P t s io m R) : Si W own A fs P (holding vs t) s io m R := fun h => wpAny_holding (x h)
theorem wpAny_operate {M : Model} {A : Around} {E : Value → Shared → Prop} {s : Shared} {vs : List Value} {t : Sem Value} {Q : Value → Shared → Prop} (h : wpAny M A t Q E s) : wpAny M A (operate vs t) Q E s :=
  fun Γ p hΓ => by rw [Sem.wp_operate]; exact h Γ p hΓ
theorem Si.operate {vs : List Value} {t : Sem Value} {P : Heap → Io → α → Value → Prop} {R : Res α} (x : Si W own A fs P t s io m R) : Si W own A fs P (operate vs t) s io m R := fun h => wpAny_operate (x h)
end
end
end Mini

namespace Mini
open PySem

theorem lid_eq : lid = 4194304 := rfl
section
variable {W : Wd} {own : List Addr} {A : Around} {fs : List Env} {s : Shared} {io : Io} {m : MH} {n : Nat}

/-! ## reading -/
theorem allO_cons {α β : Type} {g : α → Option β} {x : α} {xs : List α} {ds : List β} (h : allO g (x :: xs) = some ds) : ∃ d r, ds = d :: r ∧ g x = some d ∧ allO g xs = some r := by
  unfold allO at h
  cases h1 : g x with
  | none => rw [h1] at h; cases h
  | some d =>
    cases h2 : allO g xs with
    | none => rw [h1, h2] at h; cases h
    | some r => rw [h1, h2] at h; cases h; exact ⟨d, r, rfl, rfl, rfl⟩

theorem readsAll_of {f : Nat} (one : ∀ (v : V) (u : Value) (d : PyData), rd f m v = some d → VR W s.heap io v u → (∃ as, Reads s.heap u d as) ∧ d.canLay0 = true ∧ d.depth ≤ f) : ∀ (xs : List V) (us : List Value) (ds : List PyData), allO (rd f m) xs = some ds → VRs W s.heap io xs us → (∃ as, ReadsAll s.heap us ds as) ∧ PyData.canLayAll0 ds = true ∧ PyData.depthAll ds ≤ f
  | [], us, ds, h, k => by
    cases k
    simp [allO] at h; subst h
    exact ⟨⟨_, .nil⟩, rfl, by simp [PyData.depthAll]⟩
  | x :: xs, us, ds, h, k => by
    refine hide fun GOAL hGOAL => ?_
    obtain ⟨d, r, rfl, h1, h2⟩ := allO_cons h
    refine hGOAL ?_
    clear hGOAL GOAL
    cases k with
    | cons k1 k2 =>
      refine hide fun GOAL hGOAL => ?_
      obtain ⟨⟨as, r1⟩, c1, d1⟩ := one x _ d h1 k1
      refine hGOAL ?_
      clear hGOAL GOAL
      refine hide fun GOAL hGOAL => ?_
      obtain ⟨⟨bs, r2⟩, c2, d2⟩ := readsAll_of one xs _ r h2 k2
      refine hGOAL ?_
      clear hGOAL GOAL
      exact ⟨⟨_, .cons r1 r2⟩, by simp [PyData.canLayAll0, c1, c2], by simp only [PyData.depthAll]; omega⟩
theorem reads_of (H : HR W s.heap io m) : ∀ (f : Nat) (v : V) (u : Value) (d : PyData), rd f m v = some d → VR W s.heap io v u → (∃ as, Reads s.heap u d as) ∧ d.canLay0 = true ∧ d.depth ≤ f
  | 0, _, _, _, h, _ => nomatch (show none = some _ from h)
  | f + 1, v, u, d, h, k => by
    cases k with
    | none => have h : some PyData.none = some d := h; cases h; exact ⟨⟨_, .none⟩, rfl, by simp [PyData.depth]⟩
    | bool b => have h : some (PyData.bool b) = some d := h; cases h; exact ⟨⟨_, .bool b⟩, rfl, by simp [PyData.depth]⟩
    | int i t => have h : some (PyData.int i) = some d := h; cases h; exact ⟨⟨_, .int i t⟩, rfl, by simp [PyData.depth]⟩
    | str x t ok => have h : some (PyData.str x) = some d := h; cases h; exact ⟨⟨_, .str x t⟩, by simpa [PyData.canLay0] using ok, by simp [PyData.depth]⟩
    | tup h1 h4 =>
      simp only [rd, Option.map_eq_some_iff] at h
      refine hide fun GOAL hGOAL => ?_
      obtain ⟨ds, hds, rfl⟩ := h
      refine hGOAL ?_
      clear hGOAL GOAL
      refine hide fun GOAL hGOAL => ?_
      obtain ⟨⟨as, hr⟩, hc, hd⟩ := readsAll_of (reads_of H f) _ _ ds hds h4
      refine hGOAL ?_
      clear hGOAL GOAL
      exact ⟨⟨_, .tuple h1 rfl rfl hr⟩, by simpa [PyData.canLay0] using hc, by simp only [PyData.depth]; omega⟩
    | ref h1 =>
      rename_i k a d'
      simp only [rd] at h
      split at h
      · rename_i xs hx
        simp only [Option.map_eq_some_iff] at h
        refine hide fun GOAL hGOAL => ?_
        obtain ⟨ds, hds, rfl⟩ := h
        refine hGOAL ?_
        clear hGOAL GOAL
        refine hide fun GOAL hGOAL => ?_
        obtain ⟨_, vs, n', g1, g4, _⟩ := H.obj _ _ _ h1 hx
        refine hGOAL ?_
        clear hGOAL GOAL
        refine hide fun GOAL hGOAL => ?_
        obtain ⟨⟨as, hr⟩, hc, hd⟩ := readsAll_of (reads_of H f) _ _ ds hds g4
        refine hGOAL ?_
        clear hGOAL GOAL
        exact ⟨⟨_, .list g1 rfl rfl hr⟩, by simpa [PyData.canLay0] using hc, by simp only [PyData.depth]; omega⟩
      · cases h
    | scr _ _ _ _ _ => exact nomatch (show none = some d from h)

/-- a bool's value -/
noncomputable abbrev BV : Heap → Io → Bool → Value → Prop := fun _ _ b u => u = .bool b

theorem eq_sim (H : HR W s.heap io m) (R : AR A fs n) {v x : V} {u y : Value} (k : VR W s.heap io v u) (l : VR W s.heap io x y) :
    Si W own A fs BV (compareOp .Eq u y) s io m (cmpV .Eq v x m) := by
  show Si W own A fs BV (compareOp .Eq u y) s io m (eqV v x m)
  unfold eqV
  split
  · rename_i d e h1 h2
    refine hide fun GOAL hGOAL => ?_
    obtain ⟨⟨as, r1⟩, c1, d1⟩ := reads_of H _ _ _ _ h1 k
    refine hGOAL ?_
    clear hGOAL GOAL
    refine hide fun GOAL hGOAL => ?_
    obtain ⟨⟨bs, r2⟩, c2, d2⟩ := reads_of H _ _ _ _ h2 l
    refine hGOAL ?_
    clear hGOAL GOAL
    intro _
    refine SeqAt.compareEq_reads r1 r2 c1 c2 ?_ ⟨_, m, io, rfl, .refl, H, rfl, .refl _⟩
    have := R.cline
    have h3 : min d.depth e.depth ≤ 12 := Nat.le_trans (Nat.min_le_left _ _) d1
    omega
  · exact Si.bad
theorem ne_sim (H : HR W s.heap io m) (R : AR A fs n) {v x : V} {u y : Value} (k : VR W s.heap io v u) (l : VR W s.heap io x y) :
    Si W own A fs BV (compareOp .NotEq u y) s io m (cmpV .NotEq v x m) := by
  show Si W own A fs BV (compareOp .NotEq u y) s io m ((eqV v x m).bind fun c => ret (!c))
  unfold eqV
  split
  · rename_i d e h1 h2
    refine hide fun GOAL hGOAL => ?_
    obtain ⟨⟨as, r1⟩, c1, d1⟩ := reads_of H _ _ _ _ h1 k
    refine hGOAL ?_
    clear hGOAL GOAL
    refine hide fun GOAL hGOAL => ?_
    obtain ⟨⟨bs, r2⟩, c2, d2⟩ := reads_of H _ _ _ _ h2 l
    refine hGOAL ?_
    clear hGOAL GOAL
    intro _
    refine SeqAt.compareNe_reads r1 r2 c1 c2 ?_ ⟨_, m, io, rfl, .refl, H, rfl, .refl _⟩
    have := R.cline
    have h3 : min d.depth e.depth ≤ 12 := Nat.le_trans (Nat.min_le_left _ _) d1
    omega
  · exact Si.bad
theorem ne_zero_int (k : Nat) : ((k : Int) != 0) = (k != 0) := by
  rw [Bool.eq_iff_iff]; simp
theorem empty_of {xs : List V} {vs : Array Value} (e : vs.toList.length = xs.length) : (!vs.isEmpty) = !xs.isEmpty := by
  rw [Array.length_toList] at e
  cases xs with
  | nil => have : vs = #[] := Array.eq_empty_of_size_eq_zero e; subst this; rfl
  | cons x xs =>
    have : vs.isEmpty = false := by
      rw [Array.isEmpty_eq_false_iff]; intro q; subst q; simp at e
    rw [this]; rfl
theorem truth_sim (H : HR W s.heap io m) {v : V} {u : Value} (k : VR W s.heap io v u) : Si W own A fs BP (truthy u) s io m (truth v m) := by
  cases k with
  | none => exact fun _ => wpAny_pure (a := false) ⟨false, m, io, rfl, .refl, H, rfl, .refl _⟩
  | bool b => exact fun _ => wpAny_truthy_bool ⟨b, m, io, rfl, .refl, H, rfl, .refl _⟩
  | int i t => exact fun _ => P.truthy_int ⟨_, m, io, rfl, .refl, H, rfl, .refl _⟩
  | str x t ok =>
    simp only [truth]
    split
    · rename_i hl
      exact fun _ => P.truthy_str (by rw [lid_eq] at hl; omega) ⟨_, m, io, rfl, .refl, H, (ne_zero_int _).symm, rfl, rfl⟩
    · exact Si.bad
  | tup h1 h4 =>
    simp only [truth]
    split
    · rename_i hl
      have e := h4.length
      exact fun _ => PyProof.Rows.truthy_tuple ⟨_, h1, rfl, _, rfl⟩ (by rw [lid_eq] at hl; rw [Array.length_toList] at e; omega) ⟨_, m, io, rfl, .refl, H, (empty_of e).symm, rfl, rfl⟩
    · exact Si.bad
  | ref h1 =>
    simp only [truth]
    split
    · rename_i xs hx
      refine hide fun GOAL hGOAL => ?_
      obtain ⟨_, vs, n', g1, g4, g5⟩ := H.obj _ _ _ h1 hx
      refine hGOAL ?_
      clear hGOAL GOAL
      have e := g4.length
      exact fun _ => wpAny_truthy_list ⟨_, g1, rfl, _, rfl⟩ (by rw [lid_eq] at g5; rw [Array.length_toList] at e; omega) ⟨_, m, io, rfl, .refl, H, (empty_of e).symm, rfl, rfl⟩
    · exact Si.bad
  | scr _ _ _ _ _ => exact Si.bad

/-! ## new objects -/
theorem push_keeps {h : Heap} (o : Obj) : ∀ b o', h.get? b = some o' → (h.push o).get? b = some o' := fun _ _ e => Heap.get?_push_of_some o e
theorem get_size (h : Heap) : h.get? h.objs.size = none := by
  cases q : h.get? h.objs.size with
  | none => rfl
  | some o => exact absurd (Heap.lt_size q) (Nat.lt_irrefl _)
theorem np_list {fr : List Addr} (H : HR W s.heap io m) {vs : Array Value} {xs : List V} {k tk : Nat} (hv : VRs W s.heap io xs vs.toList) (hl : xs.length ≤ lid) :
    NP W own fr s io m (VP W) (alloc (.list xs) m) (.ref s.heap.objs.size) { s with heap := s.heap.push (lstO vs k), toks := tk } := by
  have st : Step own fr s.heap io m (s.heap.push (lstO vs k)) (io ++ [(s.heap.objs.size, s.heap.objs.size)]) (m ++ [.list xs]) := step_alloc H (push_keeps _) (get_size _) (get_size _)
  refine ⟨_, _, _, rfl, st, H.alloc (push_keeps _) (get_size _) (get_size _) ⟨rfl, vs, k, Heap.get?_push_size _ rfl, hv.step st, hl⟩, .ref (d := s.heap.objs.size) ?_, rfl, rfl⟩
  rw [← H.len]; simp
theorem np_tup {fr : List Addr} (H : HR W s.heap io m) {vs : Array Value} {xs : List V} {k tk : Nat} (hv : VRs W s.heap io xs vs.toList) :
    NP W own fr s io m (VP W) (.ok (.tup xs) m) (.ref s.heap.objs.size) { s with heap := s.heap.push (tupO vs k), toks := tk } := by
  have st : Step own fr s.heap io m (s.heap.push (tupO vs k)) io m := .of_keeps H (push_keeps _)
  exact ⟨_, _, _, rfl, st, H.of_keeps (push_keeps _), .tup (Heap.get?_push_size _ rfl) (hv.step st), rfl, rfl⟩
theorem np_val {fr : List Addr} (H : HR W s.heap io m) {v : V} {u : Value} {tk : Nat} (hv : VR W s.heap io v u) : NP W own fr s io m (VP W) (.ok v m) u { s with toks := tk } :=
  ⟨v, m, io, rfl, .refl, H, hv, rfl, rfl⟩
theorem np_dict {fr : List Addr} (H : HR W s.heap io m) {k tk : Nat} :
    NP W own fr s io m (VP W) (alloc (.dict [] 0) m) (.ref s.heap.objs.size) { s with heap := s.heap.push (dictO [] k), toks := tk } := by
  have st : Step own fr s.heap io m (s.heap.push (dictO [] k)) (io ++ [(s.heap.objs.size, s.heap.objs.size)]) (m ++ [.dict [] 0]) := step_alloc H (push_keeps _) (get_size _) (get_size _)
  refine ⟨_, _, _, rfl, st, H.alloc (push_keeps _) (get_size _) (get_size _) ⟨rfl, _, _, k, Heap.get?_push_size _ rfl, ⟨rfl, rfl, rfl⟩, rfl, .nil, .nil, by simp [lid]⟩, .ref (d := s.heap.objs.size) ?_, rfl, rfl⟩
  rw [← H.len]; simp

theorem strOk_append {x y : Str} (hx : PyData.strOk x = true) (hy : PyData.strOk y = true) : PyData.strOk (x ++ y) = true := by
  unfold PyData.strOk at *
  rw [Str.cps_append]
  simp only [Array.all_append, hx, hy, Bool.and_self]

theorem sizeLine_lid {k : Nat} (h : k ≤ lid) : k ≤ sizeLine := by rw [lid_eq] at h; show k ≤ 2 ^ 24; omega

/-! ## operators -/
theorem bits_small {i : Int} (h : i.natAbs < 1073741824) : Builtin.Int.intBits i ≤ 64 := by
  unfold Builtin.Int.intBits
  split
  · omega
  · rename_i h0
    have h1 : i.natAbs ≠ 0 := by
      intro q
      have : i = 0 := by omega
      subst this; simp at h0
    have := (Nat.log2_lt h1 (k := 30)).mpr (by omega)
    omega
theorem bin_cases {Pr : Operator → V → V → Prop} (a1 : ∀ i j, Pr .Add (.int i) (.int j)) (a2 : ∀ i j, Pr .Sub (.int i) (.int j)) (a3 : ∀ i j, Pr .Mult (.int i) (.int j)) (a4 : ∀ i j, Pr .FloorDiv (.int i) (.int j)) (a5 : ∀ i j, Pr .Mod (.int i) (.int j))
    (a6 : ∀ x y, Pr .Add (.str x) (.str y)) (a8 : ∀ p q, Pr .Add (.ref p) (.ref q)) (bad : ∀ op a b, binV op a b = (fun _ => .bad) → Pr op a b) (op : Operator) (a b : V) : Pr op a b := by
  cases op <;> first | (exact bad _ _ _ rfl) | skip
  all_goals cases a <;> first | (exact bad _ _ _ rfl) | skip
  all_goals cases b <;> first | (exact a1 _ _) | (exact a2 _ _) | (exact a3 _ _) | (exact a4 _ _) | (exact a5 _ _) | (exact a6 _ _) | (exact a8 _ _) | (exact bad _ _ _ rfl)
theorem bin_sim (H : HR W s.heap io m) {op : Operator} {v x : V} {u y : Value} (k : VR W s.heap io v u) (l : VR W s.heap io x y) :
    Si W own A fs (VP W) (binaryOp op u y) s io m (binV op v x m) := by
  revert k l
  refine bin_cases (Pr := fun op v x => VR W s.heap io v u → VR W s.heap io x y → Si W own A fs (VP W) (binaryOp op u y) s io m (binV op v x m)) ?_ ?_ ?_ ?_ ?_ ?_ ?_ ?_ op v x
  · intro i j k l; cases k; cases l; exact fun _ => P.add_int (np_val H (.int _ _))
  · intro i j k l; cases k; cases l; exact fun _ => P.sub_int (np_val H (.int _ _))
  · intro i j k l; cases k; cases l
    show Si W own A fs (VP W) _ s io m (if i.natAbs < 1073741824 ∨ j.natAbs < 1073741824 then .ok (.int (i * j)) m else .bad)
    split
    · rename_i hc
      intro _
      refine P.mul_int (np_val H (.int _ _)) ?_
      rcases hc with hc | hc
      · exact IntMulOk.of_left (bits_small hc)
      · exact IntMulOk.of_right (bits_small hc)
    · exact Si.bad
  · intro i j k l; cases k; cases l
    show Si W own A fs (VP W) _ s io m (if j ≠ 0 ∧ j.natAbs < 1073741824 then .ok (.int (Int.fdiv i j)) m else .bad)
    split
    · rename_i hj
      exact fun _ => PyProof.Rows.floordiv_int hj.1 (np_val H (.int _ _)) (.inl (PyProof.noPylong_small hj.2))
    · exact Si.bad
  · intro i j k l; cases k; cases l
    show Si W own A fs (VP W) _ s io m (if j = 0 then .bad else .ok (.int (Int.fmod i j)) m)
    split
    · exact Si.bad
    · rename_i hj
      exact fun _ => PyProof.Rows.mod_int hj (np_val H (.int _ _))
  · intro x y k l
    cases k with | str _ _ k1 => cases l with | str _ _ l1 =>
    show Si W own A fs (VP W) _ s io m (if x.length + y.length ≤ lid then .ok (.str (x ++ y)) m else .bad)
    split
    · rename_i hl
      exact fun _ => PyProof.Rows.add_str (fun t' tk => np_val H (.str _ _ (strOk_append k1 l1))) (sizeLine_lid hl)
    · exact Si.bad
  · intro p q k l
    cases k with | ref h1 => cases l with | ref g1 =>
    show Si W own A fs (VP W) _ s io m (match m[p]?, m[q]? with | some (.list x), some (.list y) => if x.length + y.length ≤ lid then alloc (.list (x ++ y)) m else .bad | _, _ => .bad)
    split
    · rename_i x y hx hy
      refine hide fun GOAL hGOAL => ?_
      obtain ⟨_, vs, n', a1, a4, a5⟩ := H.obj _ _ _ h1 hx
      refine hGOAL ?_
      clear hGOAL GOAL
      refine hide fun GOAL hGOAL => ?_
      obtain ⟨_, ws, n2, b1, b4, b5⟩ := H.obj _ _ _ g1 hy
      refine hGOAL ?_
      clear hGOAL GOAL
      split
      · rename_i hl
        have e1 := a4.length
        have e2 := b4.length
        rw [Array.length_toList] at e1 e2
        exact fun _ => P.add_list a1 b1 (np_list H (by rw [Array.toList_append]; exact a4.append b4) (by simpa using hl)) (sizeLine_lid (by omega))
      · exact Si.bad
    · exact Si.bad
  · intro op a b e k l; rw [e]; exact Si.bad

theorem np_bool {fr : List Addr} (H : HR W s.heap io m) {b : Bool} {tk : Nat} : NP W own fr s io m BV (.ok b m) (.bool b) { s with toks := tk } := ⟨b, m, io, rfl, .refl, H, rfl, rfl, rfl⟩

/-- «not in» by «in» -/
theorem notIn_of_in {M : Model} {A : Around} {E : Value → Shared → Prop} {s : Shared} {a b : Value} {Q : Value → Shared → Prop} (h : wpAny M A (compareOp .In a b) (fun v s' => ∃ c, v = .bool c ∧ Q (.bool (!c)) s') E s) :
    wpAny M A (compareOp .NotIn a b) Q E s := by
  intro Γ p hΓ
  have h1 := h Γ p hΓ
  show Sem.wp M Γ (contains b a >>= fun c => pure (Value.bool (!c))) _ _ p s
  have h2 : Sem.wp M Γ (contains b a >>= fun c => pure (Value.bool c)) (fun v _ s' => ∃ c, v = .bool c ∧ Q (.bool (!c)) s') (fun e _ s' => E e s') p s := h1
  rw [Sem.wp_bind'] at h2 ⊢
  refine Sem.wp_mono M Γ _ (fun c p' s' h' => ?_) (fun _ _ _ x => x) p s h2
  refine hide fun GOAL hGOAL => ?_
  obtain ⟨c', e, q⟩ := h'
  refine hGOAL ?_
  clear hGOAL GOAL
  cases e
  exact q

/-- the turned word from the plain one -/
theorem Si.not {t t' : Sem Value} {R : Res Bool} (x : Si W own A fs BV t s io m R)
    (k : ∀ (E : Value → Shared → Prop) (Q : Value → Shared → Prop), wpAny (model W.prog W.w) A t (fun v s' => ∃ c, v = .bool c ∧ Q (.bool (!c)) s') E s → wpAny (model W.prog W.w) A t' Q E s) : Si W own A fs BV t' s io m (R.bind fun c => ret (!c)) := by
  intro hne
  refine k _ _ (wpAny_mono (x (Res.bind_ne hne)) (fun u s' p => ?_) fun e s' p => p.bind .refl (.refl _))
  refine hide fun GOAL hGOAL => ?_
  obtain ⟨v, m', io', rfl, a1, a2, a3, a4⟩ := p
  refine hGOAL ?_
  clear hGOAL GOAL
  exact ⟨v, a3, _, m', io', rfl, a1, a2, rfl, a4⟩

end
end Mini

namespace Mini
open PySem

noncomputable def mixIs : Sum Int Str → Value → Bool
  | .inl i, v => Value.isInt i v
  | .inr x, v => Value.isStrOf x v
theorem mixIs_shape {k : Sum Int Str} {v : Value} (h : mixIs k v = true) : (∃ i t, k = .inl i ∧ v = .int i t) ∨ (∃ x t, k = .inr x ∧ v = .str x t) := by
  cases k with
  | inl j => obtain ⟨u, e⟩ := Value.isInt_shape (k := j) (v := v) h; exact .inl ⟨j, u, rfl, e⟩
  | inr x => obtain ⟨u, e⟩ := Value.isStrOf_shape (x := x) (v := v) h; exact .inr ⟨x, u, rfl, e⟩
theorem mix_eqBool {prog : Program} {w : World} {A : Around} {E : Value → Shared → Prop} {s : Shared} {a b : Sum Int Str} {u v : Value} {Q : Bool → Shared → Prop} (hu : mixIs a u = true) (hv : mixIs b v = true) (h : Q (decide (a = b)) s) :
    wpAny (model prog w) A (PySem.eqBool u v) Q E s := by
  rcases mixIs_shape hu with ⟨i, t, rfl, rfl⟩ | ⟨x, t, rfl, rfl⟩ <;> rcases mixIs_shape hv with ⟨j, t', rfl, rfl⟩ | ⟨y, t', rfl, rfl⟩
  · have e : decide (Sum.inl (β := Str) i = .inl j) = (i == j) := by
      by_cases q : i = j <;> simp [q]
    rw [e] at h
    exact wpAny_eqBool_int h
  · have e : decide (Sum.inl (β := Str) i = .inr y) = false := by simp
    rw [e] at h
    unfold eqBool
    show wpAny _ _ (richCompare .Eq (Value.int i t) (Value.str y t') >>= truthOfDropped) Q E s
    exact wpAny_bind (EqMixed.eq_int_str (wpAny_truthy_bool h))
  · have e : decide (Sum.inr (α := Int) x = .inl j) = false := by simp
    rw [e] at h
    unfold eqBool
    show wpAny _ _ (richCompare .Eq (Value.str x t) (Value.int j t') >>= truthOfDropped) Q E s
    exact wpAny_bind (EqMixed.eq_str_int (wpAny_truthy_bool h))
  · have e : decide (Sum.inr (α := Int) x = .inr y) = decide (x = y) := by
      by_cases q : x = y <;> simp [q]
    rw [e] at h
    exact wpAny_eqBool_str h
theorem mix_hash {prog : Program} {w : World} {A : Around} {E : Value → Shared → Prop} {s : Shared} {k : Sum Int Str} {v : Value} {Q : Int → Shared → Prop} (hv : mixIs k v = true) (h : Q (atHash w k) { s with toks := s.toks + 1 }) :
    wpAny (model prog w) A (PySem.pyHash v) Q E s := by
  rcases mixIs_shape hv with ⟨i, t, rfl, rfl⟩ | ⟨x, t, rfl, rfl⟩
  · exact wpAny_pyHash_int h
  · exact wpAny_pyHash_str h
theorem mix_inj (v : Value) (a b : Sum Int Str) (ha : mixIs a v = true) (hb : mixIs b v = true) : a = b := by
  rcases mixIs_shape ha with ⟨i, t, rfl, rfl⟩ | ⟨x, t, rfl, rfl⟩ <;> rcases mixIs_shape hb with ⟨j, u, rfl, e⟩ | ⟨y, u, rfl, e⟩ <;> cases e <;> rfl
theorem mix_byValue (k : Sum Int Str) (v : Value) (h : mixIs k v = true) : carriedByValue v = true := by
  rcases mixIs_shape h with ⟨i, t, rfl, rfl⟩ | ⟨x, t, rfl, rfl⟩ <;> rfl
theorem mix_strs (k : Sum Int Str) (x : Str) (t : Tok) (v : Value) (h : mixIs k (.str x t) = true) : mixIs k v = v.isStr x := by
  rcases mixIs_shape h with ⟨i, u, rfl, e⟩ | ⟨y, u, rfl, e⟩
  · cases e
  · cases e; cases v <;> rfl

noncomputable def mixKind (prog : Program) (w : World) : KeyKind prog w (Sum Int Str) where
  is := mixIs
  hash := atHash w
  inj := mix_inj
  byValue := mix_byValue
  pyHash := mix_hash
  eqBool := mix_eqBool
  «strs» := mix_strs

section
variable {W : Wd} {h : Heap} {io : Io}

theorem itemsAre_of {ks : List (Sum Int Str)} {vs : List Value} (x : VRs W h io (ks.map fun x => match x with | .inl i => V.int i | .inr s => V.str s) vs) : ItemsAre (mixKind W.prog W.w) ks vs := by
  induction ks generalizing vs with
  | nil => cases x; exact .nil
  | cons k ks ih =>
    cases x with
    | cons h1 r =>
      refine .cons ?_ (ih r)
      cases k with
      | inl i => cases h1; simp [mixKind, mixIs, Value.isInt]
      | inr s => cases h1; simp [mixKind, mixIs, Value.isStrOf]
theorem tupKey_of {ks : List (Sum Int Str)} {u : Value} (x : VR W h io (Ky.tup ks).val u) : ∃ a, u = .ref a ∧ IsTupleKey (mixKind W.prog W.w) h ks a := by
  cases x with
  | tup h1 h2 => exact ⟨_, rfl, _, _, _, h1, rfl, rfl, itemsAre_of h2⟩

/-! ## dicts with keys that are carried by value -/
section
variable {K : Type} [DecidableEq K] (knd : KeyKind W.prog W.w K) (emb : K → Ky)
structure Emb : Prop where
  inj : ∀ a b, emb a = emb b → a = b
  is : ∀ {h : Heap} {io : Io} k u, VR W h io (emb k).val u → knd.is k u = true
  hash : ∀ k, kyHash W.w (emb k) = knd.hash k
  back : ∀ {h h' : Heap} {io : Io} k u, VR W h io (emb k).val u → VR W h' io (emb k).val u

variable {knd emb}
theorem ERs.keysOf (E : Emb knd emb) {kvs : List (Ky × V)} {es : List DictEntry} (x : ERs W h io kvs es) (hk : ∀ p ∈ kvs, ∃ k, p.1 = emb k) : ∀ e ∈ es, ∃ k, knd.is k e.key = true ∧ e.hash = knd.hash k := by
  induction x with
  | nil => intro e he; cases he
  | cons h1 h2 _ ih =>
    intro e he
    cases he with
    | head =>
      obtain ⟨k, e⟩ := hk _ (.head _)
      simp only at e
      subst e
      exact ⟨k, E.is k _ h1, E.hash k⟩
    | tail _ he => exact ih (fun p hp => hk p (.tail _ hp)) e he

theorem ERs.find (E : Emb knd emb) {kvs : List (Ky × V)} {es : List DictEntry} (x : ERs W h io kvs es) (hk : ∀ p ∈ kvs, ∃ k, p.1 = emb k) (k : K) :
    (∃ v u, look (emb k) kvs = some v ∧ (es.find? fun e => knd.is k e.key).map (·.val) = some u ∧ VR W h io v u) ∨ (look (emb k) kvs = none ∧ (es.find? fun e => knd.is k e.key).map (·.val) = none) := by
  induction x with
  | nil => exact .inr ⟨rfl, rfl⟩
  | @cons k' v key u kvs es h1 h2 _ ih =>
    obtain ⟨j, e⟩ := hk _ (.head _)
    simp only at e
    subst e
    have hj := E.is j _ h1
    by_cases q : j = k
    · subst q
      exact .inl ⟨v, u, by simp [look], by simp [List.find?, hj], h2⟩
    · have n1 : ¬ emb j = emb k := fun z => q (E.inj _ _ z)
      have n2 : knd.is k key = false := by
        cases z : knd.is k key with
        | false => rfl
        | true => exact absurd (knd.inj _ _ _ hj z) q
      simp only [look, n1, if_false, List.find?_cons, n2]
      exact ih fun p hp => hk p (.tail _ hp)

theorem ERs.mapOf (E : Emb knd emb) {kvs : List (Ky × V)} {a : Addr} {o : Obj} {es : Array DictEntry} {n : Nat} (h1 : h.get? a = some o) (h2 : o.ExactDict) (h3 : o.data = .dict es n) (x : ERs W h io kvs es.toList) (hk : ∀ p ∈ kvs, ∃ k, p.1 = emb k) :
    h.MapOf knd a (findBy knd.is es) := ⟨o, es, n, h1, h2, h3, fun e he => x.keysOf E hk e (Array.mem_toList_iff.mpr he), fun _ => rfl⟩
theorem ERs.findBy (E : Emb knd emb) {kvs : List (Ky × V)} {es : Array DictEntry} (x : ERs W h io kvs es.toList) (hk : ∀ p ∈ kvs, ∃ k, p.1 = emb k) (k : K) :
    (∃ v u, look (emb k) kvs = some v ∧ findBy knd.is es k = some u ∧ VR W h io v u) ∨ (look (emb k) kvs = none ∧ PySem.findBy knd.is es k = none) := by
  have := x.find E hk k
  unfold PySem.findBy
  obtain ⟨l⟩ := es
  rw [List.find?_toArray]
  exact this

/-- as pairs -/
theorem ERs.pairs (E : Emb knd emb) {kvs : List (Ky × V)} {es : List DictEntry} (x : ERs W h io kvs es) (hk : ∀ p ∈ kvs, ∃ k, p.1 = emb k) :
    ∃ l : List (K × Value), Pairs knd es l ∧ l.map (fun p => emb p.1) = kvs.map (·.1) ∧ VRs W h io (kvs.map (·.2)) (l.map (·.2)) := by
  induction x with
  | nil => exact ⟨[], .nil, rfl, .nil⟩
  | @cons k' v key u kvs es h1 h2 _ ih =>
    obtain ⟨j, e⟩ := hk _ (.head _)
    simp only at e
    subst e
    refine hide fun GOAL hGOAL => ?_
    obtain ⟨l, p1, p2, p3⟩ := ih fun p hp => hk p (.tail _ hp)
    refine hGOAL ?_
    clear hGOAL GOAL
    exact ⟨(j, u) :: l, .cons (E.is j _ h1) rfl p1, by simp [p2], .cons h2 p3⟩
end


/-! ## the pure dict -/
theorem look_put_none {k : Ky} {v : V} : ∀ {kvs : List (Ky × V)}, look k kvs = none → put k v kvs = kvs ++ [(k, v)]
  | [], _ => rfl
  | (k', v') :: r, h => by
    simp only [look] at h
    split at h
    · cases h
    · rename_i q
      simp only [put, q, if_false, List.cons_append, look_put_none h]
theorem look_none {k : Ky} : ∀ {kvs : List (Ky × V)}, look k kvs = none → ∀ p ∈ kvs, p.1 ≠ k
  | [], _, _, hp => nomatch hp
  | (k', v') :: r, h, p, hp => by
    simp only [look] at h
    split at h
    · cases h
    · rename_i q
      cases hp with
      | head => exact q
      | tail _ hp => exact look_none h p hp
theorem look_put_some {k : Ky} {v : V} : ∀ {kvs : List (Ky × V)} {u : V}, look k kvs = some u → (kvs.map (·.1)).Nodup → put k v kvs = kvs.map fun p => if p.1 = k then (p.1, v) else p
  | [], _, h, _ => by simp [look] at h
  | (k', v') :: r, u, h, hn => by
    simp only [List.map_cons, List.nodup_cons] at hn
    simp only [look] at h
    split at h
    · rename_i q
      subst q
      simp only [put, if_true, List.map_cons]
      congr 1
      have e : ∀ p ∈ r, (if p.1 = k' then (p.1, v) else p) = p := fun p hp => by
        rw [if_neg]; intro z; exact hn.1 (z ▸ List.mem_map_of_mem hp)
      rw [List.map_congr_left e, List.map_id']
    · rename_i q
      simp only [put, q, if_false, List.map_cons, look_put_some h hn.2]
theorem put_keys {k : Ky} {v : V} {kvs : List (Ky × V)} (hn : (kvs.map (·.1)).Nodup) : ((put k v kvs).map (·.1)).Nodup := by
  cases h : look k kvs with
  | none =>
    rw [look_put_none h, List.map_append]
    refine List.nodup_append.mpr ⟨hn, by simp, ?_⟩
    intro x hx y hy e
    refine hide fun GOAL hGOAL => ?_
    obtain ⟨p, hp, rfl⟩ := List.mem_map.mp hx
    refine hGOAL ?_
    clear hGOAL GOAL
    simp at hy
    subst hy
    exact look_none h p hp e
  | some u =>
    rw [look_put_some h hn, List.map_map]
    have e : ((fun x : Ky × V => x.1) ∘ fun p : Ky × V => if p.1 = k then (p.1, v) else p) = fun p => p.1 := by
      funext p; simp only [Function.comp]; split <;> rfl
    rw [e]; exact hn
theorem put_length {k : Ky} {v : V} : ∀ (kvs : List (Ky × V)), (put k v kvs).length ≤ kvs.length + 1
  | [] => by simp [put]
  | (k', v') :: r => by
    simp only [put]
    split
    · simp
    · simpa using put_length r

theorem toKey_val {x : V} {k : Ky} (h : toKey x = some k) : k.val = x := by
  cases x with
  | int i => simp [toKey] at h; subst h; rfl
  | str i => simp [toKey] at h; subst h; rfl
  | tup xs =>
    simp only [toKey, Option.map_eq_some_iff] at h
    refine hide fun GOAL hGOAL => ?_
    obtain ⟨ks, hks, rfl⟩ := h
    refine hGOAL ?_
    clear hGOAL GOAL
    refine congrArg V.tup ?_
    induction xs generalizing ks with
    | nil => simp [allO] at hks; subst hks; rfl
    | cons x xs ih =>
      refine hide fun GOAL hGOAL => ?_
      obtain ⟨d, r, rfl, h1, h2⟩ := allO_cons hks
      refine hGOAL ?_
      clear hGOAL GOAL
      simp only [List.map_cons, List.cons.injEq]
      refine ⟨?_, ih r h2⟩
      cases x <;> simp [atom] at h1 <;> subst h1 <;> rfl
  | _ => simp [toKey] at h

theorem sorted1_all {k : Ky} {kvs : List (Ky × V)} (h : sorted1 k kvs = true) : ∀ p ∈ kvs, p.1.sort = k.sort := fun p hp => by
  have := List.all_eq_true.mp h p hp
  simpa using this

theorem intEmb : Emb (W := W) (intKind W.prog W.w) Ky.int where
  inj := fun a b e => by cases e; rfl
  is := fun k u x => by cases x; simp [intKind, Value.isInt]
  hash := fun _ => rfl
  back := fun k u x => by cases x; exact .int _ _
theorem strEmb : Emb (W := W) (strKind W.prog W.w) Ky.str where
  inj := fun a b e => by cases e; rfl
  is := fun k u x => by cases x; simp [strKind, Value.isStrOf]
  hash := fun _ => rfl
  back := fun k u x => by cases x with | str _ _ ok => exact .str _ _ ok
theorem sort_int {kvs : List (Ky × V)} {i : Int} (h : sorted1 (.int i) kvs = true) : ∀ p ∈ kvs, ∃ k, p.1 = Ky.int k := fun p hp => by
  have := sorted1_all h p hp
  cases q : p.1 with
  | int k => exact ⟨k, rfl⟩
  | _ => rw [q] at this; simp [Ky.sort] at this
theorem sort_str {kvs : List (Ky × V)} {i : Str} (h : sorted1 (.str i) kvs = true) : ∀ p ∈ kvs, ∃ k, p.1 = Ky.str k := fun p hp => by
  have := sorted1_all h p hp
  cases q : p.1 with
  | str k => exact ⟨k, rfl⟩
  | _ => rw [q] at this; simp [Ky.sort] at this
theorem sort_tup {kvs : List (Ky × V)} {i : List (Sum Int Str)} (h : sorted1 (.tup i) kvs = true) : ∀ p ∈ kvs, ∃ k, p.1 = Ky.tup k := fun p hp => by
  have := sorted1_all h p hp
  cases q : p.1 with
  | tup k => exact ⟨k, rfl⟩
  | _ => rw [q] at this; simp [Ky.sort] at this

/-! ## tuples as keys -/
noncomputable abbrev TK := List (Sum Int Str) × Addr × Value
noncomputable abbrev tkd (W : Wd) := tupleKind (mixKind W.prog W.w)
theorem ERs.heapKeys {kvs : List (Ky × V)} {es : List DictEntry} (x : ERs W h io kvs es) (hk : ∀ p ∈ kvs, ∃ k, p.1 = Ky.tup k) :
    ∃ l : List TK, es = l.map (entryOfKey (tkd W)) ∧ (∀ y ∈ l, (tkd W).is h y.1 y.2.1) ∧ l.map (fun p => Ky.tup p.1) = kvs.map (·.1) ∧ VRs W h io (kvs.map (·.2)) (l.map (·.2.2)) ∧ (∀ y ∈ l, VR W h io (Ky.tup y.1).val (.ref y.2.1)) := by
  induction x with
  | nil => exact ⟨[], rfl, (fun _ h => nomatch h), rfl, .nil, fun _ h => nomatch h⟩
  | @cons k' v key u kvs es h1 h2 _ ih =>
    obtain ⟨j, e⟩ := hk _ (.head _)
    simp only at e
    subst e
    refine hide fun GOAL hGOAL => ?_
    obtain ⟨l, p1, p2, p3, p4, p5⟩ := ih fun p hp => hk p (.tail _ hp)
    refine hGOAL ?_
    clear hGOAL GOAL
    refine hide fun GOAL hGOAL => ?_
    obtain ⟨a, rfl, ka⟩ := tupKey_of h1
    refine hGOAL ?_
    clear hGOAL GOAL
    refine ⟨(j, a, u) :: l, by rw [p1]; rfl, fun y hy => ?_, by simp [p3], .cons h2 p4, fun y hy => ?_⟩
    · cases hy with
      | head => exact ka
      | tail _ hy => exact p2 y hy
    · cases hy with
      | head => exact h1
      | tail _ hy => exact p5 y hy
theorem atKey_look {k : List (Sum Int Str)} : ∀ {l : List TK} {kvs : List (Ky × V)}, l.map (fun p => Ky.tup p.1) = kvs.map (·.1) → VRs W h io (kvs.map (·.2)) (l.map (·.2.2)) →
    (∃ v a u, look (.tup k) kvs = some v ∧ atKey l k = some (a, u) ∧ VR W h io v u) ∨ (look (.tup k) kvs = none ∧ atKey l k = none)
  | [], kvs, e, _ => by
    have : kvs = [] := by cases kvs with | nil => rfl | cons => simp at e
    subst this
    exact .inr ⟨rfl, rfl⟩
  | (j, a, u) :: l, kvs, e, x => by
    cases kvs with
    | nil => simp at e
    | cons q kvs =>
      obtain ⟨k', v⟩ := q
      simp only [List.map_cons, List.cons.injEq] at e
      obtain ⟨e1, e2⟩ := e
      subst e1
      cases x with
      | cons x1 x2 =>
        by_cases z : j = k
        · subst z
          exact .inl ⟨v, a, u, by simp [look], by simp [atKey], x1⟩
        · have z' : ¬ Ky.tup j = Ky.tup k := fun w => z (by cases w; rfl)
          simp only [look, z', if_false]
          have : atKey ((j, a, u) :: l) k = atKey l k := by simp [atKey, z]
          rw [this]
          exact atKey_look e2 x2
theorem nodup_of_map {l : List TK} {kvs : List (Ky × V)} (e : l.map (fun p => Ky.tup p.1) = kvs.map (·.1)) (hn : (kvs.map (·.1)).Nodup) : (l.map (·.1)).Nodup := by
  rw [← e] at hn
  have : (l.map (·.1)).map Ky.tup = l.map fun p => Ky.tup p.1 := by rw [List.map_map]; rfl
  rw [← this] at hn
  exact List.Pairwise.of_map Ky.tup (fun a b h e => h (congrArg _ e)) hn
end

structure WOk (W : Wd) : Prop where
  sys : ∃ o, W.base.get? sysModules = some o
  nolimit : W.base.NoLimit

section
variable {W : Wd} {own : List Addr} {A : Around} {fs : List Env} {s : Shared} {io : Io} {m : MH} {n : Nat}
theorem HR.notSys (ok : WOk W) (H : HR W s.heap io m) {b : Addr} (f : Foot io b) : (b == sysModules) = false := by
  have h1 := H.fresh b f
  obtain ⟨o, ho⟩ := ok.sys
  cases q : b == sysModules with
  | false => rfl
  | true => rw [beq_iff_eq.mp q, ho] at h1; cases h1

theorem in_dict {E : Value → Shared → Prop} {Q : Value → Shared → Prop} (ok : WOk W) (H : HR W s.heap io m) (R : AR A fs n) {i : Nat} {p : Addr × Addr} {kvs : List (Ky × V)} {e : Nat} (hi : io[i]? = some p) (hm : m[i]? = some (.dict kvs e)) {x : V} {u : Value} (hx : VR W s.heap io x u) {k : Ky} (hk : toKey x = some k) (hs : sorted1 k kvs = true)
    (h : ∀ tk, Q (.bool (look k kvs).isSome) { s with toks := tk }) : wpAny (model W.prog W.w) A (compareOp .In u (.ref p.1)) Q E s := by
  refine hide fun GOAL hGOAL => ?_
  obtain ⟨_, o, es, n', g1, g2, g3, g4, g5, _⟩ := H.obj _ _ _ hi hm
  refine hGOAL ?_
  clear hGOAL GOAL
  have ns := H.notSys ok ⟨p, List.mem_of_getElem? hi, .inl rfl⟩
  have hv := toKey_val hk
  subst hv
  cases k with
  | int j =>
    have hh := sort_int hs
    refine wpAny_in_of (intEmb.is j u hx) ns (g4.mapOf intEmb g1 g2 g3 hh) ?_
    rcases g4.findBy intEmb hh j with ⟨v, u', e1, e2, _⟩ | ⟨e1, e2⟩
    · rw [e2]; have := h (s.toks + 1); rw [e1] at this; exact this
    · rw [e2]; have := h (s.toks + 1); rw [e1] at this; exact this
  | str j =>
    have hh := sort_str hs
    refine wpAny_in_of (strEmb.is j u hx) ns (g4.mapOf strEmb g1 g2 g3 hh) ?_
    rcases g4.findBy strEmb hh j with ⟨v, u', e1, e2, _⟩ | ⟨e1, e2⟩
    · rw [e2]; have := h (s.toks + 1); rw [e1] at this; exact this
    · rw [e2]; have := h (s.toks + 1); rw [e1] at this; exact this
  | tup j =>
    have hh := sort_tup hs
    refine hide fun GOAL hGOAL => ?_
    obtain ⟨l, p1, p2, p3, p4, p5⟩ := g4.heapKeys hh
    refine hGOAL ?_
    clear hGOAL GOAL
    refine hide fun GOAL hGOAL => ?_
    obtain ⟨a, rfl, ka⟩ := tupKey_of hx
    refine hGOAL ?_
    clear hGOAL GOAL
    refine wpAny_in_heap (knd := tkd W) (xs := l) (k := j) (show A.in1.units < cLine by have := R.cline; simp only [Around.in1_units]; omega) ka ns ⟨o, es, n', g1, g2, g3, p1, p2, nodup_of_map p3 g5⟩ ?_
    rcases atKey_look (k := j) p3 p4 with ⟨v, a', u', e1, e2, _⟩ | ⟨e1, e2⟩
    · rw [e2]; have := h (s.toks + (tkd W).draws j); rw [e1] at this; exact this
    · rw [e2]; have := h (s.toks + (tkd W).draws j); rw [e1] at this; exact this

theorem get_dict {E : Value → Shared → Prop} {Q : Value → Shared → Prop} (H : HR W s.heap io m) (R : AR A fs n) {i : Nat} {p : Addr × Addr} {kvs : List (Ky × V)} {e : Nat} (hi : io[i]? = some p) (hm : m[i]? = some (.dict kvs e)) {x : V} {u : Value} (hx : VR W s.heap io x u) {k : Ky} (hk : toKey x = some k) (hs : sorted1 k kvs = true) {v : V} (hl : look k kvs = some v)
    (h : ∀ u' tk, VR W s.heap io v u' → Q u' { s with toks := tk }) : wpAny (model W.prog W.w) A (getItem (.ref p.1) u) Q E s := by
  refine hide fun GOAL hGOAL => ?_
  obtain ⟨_, o, es, n', g1, g2, g3, g4, g5, _⟩ := H.obj _ _ _ hi hm
  refine hGOAL ?_
  clear hGOAL GOAL
  have hv := toKey_val hk
  subst hv
  cases k with
  | int j =>
    have hh := sort_int hs
    rcases g4.findBy intEmb hh j with ⟨v', u', e1, e2, e3⟩ | ⟨e1, e2⟩
    · rw [hl] at e1; cases e1
      exact wpAny_getItem_of (intEmb.is j u hx) (g4.mapOf intEmb g1 g2 g3 hh) e2 (h _ _ e3)
    · rw [hl] at e1; cases e1
  | str j =>
    have hh := sort_str hs
    rcases g4.findBy strEmb hh j with ⟨v', u', e1, e2, e3⟩ | ⟨e1, e2⟩
    · rw [hl] at e1; cases e1
      exact wpAny_getItem_of (strEmb.is j u hx) (g4.mapOf strEmb g1 g2 g3 hh) e2 (h _ _ e3)
    · rw [hl] at e1; cases e1
  | tup j =>
    have hh := sort_tup hs
    refine hide fun GOAL hGOAL => ?_
    obtain ⟨l, p1, p2, p3, p4, p5⟩ := g4.heapKeys hh
    refine hGOAL ?_
    clear hGOAL GOAL
    refine hide fun GOAL hGOAL => ?_
    obtain ⟨a, rfl, ka⟩ := tupKey_of hx
    refine hGOAL ?_
    clear hGOAL GOAL
    rcases atKey_look (k := j) p3 p4 with ⟨v', a', u', e1, e2, e3⟩ | ⟨e1, e2⟩
    · rw [hl] at e1; cases e1
      exact wpAny_getItem_heap (knd := tkd W) (xs := l) (k := j) (show A.in1.units < cLine by have := R.cline; simp only [Around.in1_units]; omega) ka ⟨o, es, n', g1, g2, g3, p1, p2, nodup_of_map p3 g5⟩ e2 (h _ _ e3)
    · rw [hl] at e1; cases e1

section
variable {h : Heap} {K : Type} [DecidableEq K] {knd : KeyKind W.prog W.w K} {emb : K → Ky}
theorem ERs.of_pairs (E : Emb knd emb) {es : List DictEntry} {l : List (K × Value)} {kvs : List (Ky × V)} (hk : ∀ e ∈ es, ∃ k, knd.is k e.key = true ∧ e.hash = knd.hash k) (hp : Pairs knd es l) (e : kvs.map (·.1) = l.map (fun p => emb p.1))
    (x : VRs W h io (kvs.map (·.2)) (l.map (·.2))) (hv : ∀ k u, emb k ∈ kvs.map (·.1) → knd.is k u = true → VR W h io (emb k).val u) : ERs W h io kvs es := by
  induction hp generalizing kvs with
  | nil =>
    have : kvs = [] := by cases kvs with | nil => rfl | cons => simp at e
    subst this; exact .nil
  | @cons en kv es l p1 p2 p3 ih =>
    cases kvs with
    | nil => simp at e
    | cons q kvs =>
      obtain ⟨k', v⟩ := q
      simp only [List.map_cons, List.cons.injEq] at e
      obtain ⟨e1, e2⟩ := e
      refine hide fun GOAL hGOAL => ?_
      obtain ⟨j, j1, j2⟩ := hk en (.head _)
      refine hGOAL ?_
      clear hGOAL GOAL
      have : j = kv.1 := knd.inj _ _ _ j1 p1
      subst this
      cases x with
      | cons x1 x2 =>
        refine hide fun GOAL hGOAL => ?_
        obtain ⟨hs, ky, vl⟩ := en
        refine hGOAL ?_
        clear hGOAL GOAL
        simp only at j1 j2 p1 p2
        subst j2 p2
        subst e1
        rw [← E.hash]
        exact .cons (hv _ _ (by simp) p1) x1 (ih (fun e he => hk e (.tail _ he)) e2 x2 fun k u hm hi => hv k u (by simp only [List.map_cons, List.mem_cons]; exact .inr hm) hi)
theorem any_key {l : List (K × Value)} {kvs : List (Ky × V)} (E : Emb knd emb) (e : kvs.map (·.1) = l.map fun p => emb p.1) (k : K) : l.any (fun kv => decide (kv.1 = k)) = (look (emb k) kvs).isSome := by
  induction l generalizing kvs with
  | nil =>
    have : kvs = [] := by cases kvs with | nil => rfl | cons => simp at e
    subst this; rfl
  | cons p l ih =>
    cases kvs with
    | nil => simp at e
    | cons q kvs =>
      obtain ⟨k', v⟩ := q
      simp only [List.map_cons, List.cons.injEq] at e
      obtain ⟨e1, e2⟩ := e
      subst e1
      by_cases z : p.1 = k
      · simp [z, look]
      · have z' : ¬ emb p.1 = emb k := fun w => z (E.inj _ _ w)
        simp only [List.any_cons, z, decide_false, Bool.false_or, look, z', if_false]
        exact ih e2
theorem stored_put (E : Emb knd emb) {l : List (K × Value)} {kvs : List (Ky × V)} (e : kvs.map (·.1) = l.map fun p => emb p.1) (x : VRs W h io (kvs.map (·.2)) (l.map (·.2))) (hn : (kvs.map (·.1)).Nodup) (k : K) {v : V} {u : Value} (y : VR W h io v u) :
    (put (emb k) v kvs).map (·.1) = (stored l k u).map (fun p => emb p.1) ∧ VRs W h io ((put (emb k) v kvs).map (·.2)) ((stored l k u).map (·.2)) := by
  unfold stored
  rw [any_key E e k]
  cases q : look (emb k) kvs with
  | none =>
    rw [look_put_none q, if_neg (by simp)]
    exact ⟨by simp [e], by simp only [List.map_append, List.map_cons, List.map_nil]; exact x.snoc y⟩
  | some z =>
    rw [look_put_some q hn, if_pos (by rfl)]
    clear q hn
    induction l generalizing kvs with
    | nil =>
      have : kvs = [] := by cases kvs with | nil => rfl | cons => simp at e
      subst this; exact ⟨rfl, .nil⟩
    | cons p l ih =>
      cases kvs with
      | nil => simp at e
      | cons q kvs =>
        obtain ⟨k', v'⟩ := q
        simp only [List.map_cons, List.cons.injEq] at e
        obtain ⟨e1, e2⟩ := e
        subst e1
        cases x with
        | cons x1 x2 =>
          obtain ⟨i1, i2⟩ := ih e2 x2
          by_cases w : p.1 = k
          · have w' : emb p.1 = emb k := by rw [w]
            simp only [List.map_cons, w, w', if_true]
            exact ⟨by rw [i1], .cons y i2⟩
          · have w' : ¬ emb p.1 = emb k := fun c => w (E.inj _ _ c)
            simp only [List.map_cons, w, w', if_false]
            exact ⟨by rw [i1], .cons x1 i2⟩
end

theorem sameBut_keeps {h h' : Heap} {d : Addr} (hs : Heap.SameBut d h h') : ∀ b o, b ≠ d → h.get? b = some o → h'.get? b = some o := fun b _ hb e => (hs.2 b hb).trans e

/-- what a store into a dict leaves -/
theorem np_setDict {fr : List Addr} (H : HR W s.heap io m) {i : Nat} {p : Addr × Addr} {kvs kvs' : List (Ky × V)} {e : Nat} (hi : io[i]? = some p) (hm : m[i]? = some (.dict kvs e)) {h' : Heap} {tk : Nat} (hs : Heap.SameBut p.1 s.heap h')
    {o' : Obj} {es' : Array DictEntry} {n' : Nat} (h1 : h'.get? p.1 = some o') (h2 : o'.ExactDict) (h3 : o'.data = .dict es' n') (h4 : Step own fr s.heap io m h' io (m.set i (.dict kvs' (e + 1))) → ERs W h' io kvs' es'.toList) (h5 : (kvs'.map (·.1)).Nodup) (h6 : kvs'.length ≤ lid) :
    NP W own fr s io m (fun _ _ (_ _ : Unit) => True) (.ok () (m.set i (.dict kvs' (e + 1)))) () { s with heap := h', toks := tk } := by
  obtain ⟨hpp, _⟩ := H.obj _ _ _ hi hm
  have hk : ∀ b o, b ≠ p.1 → b ≠ p.2 → s.heap.get? b = some o → h'.get? b = some o := fun b o q _ ho => sameBut_keeps hs b o q ho
  have hd : ∀ kv ep, MObj.dict kvs e = .dict kv ep → ∃ kvs2 e2, MObj.dict kvs' (e + 1) = .dict kvs2 e2 ∧ ep < e2 := fun kv ep q => by cases q; exact ⟨kvs', e + 1, rfl, by omega⟩
  have st : Step own fr s.heap io m h' io (m.set i (.dict kvs' (e + 1))) := step_set H hi hm hk ⟨_, h1⟩ ⟨_, hpp ▸ h1⟩ hd
  exact ⟨(), _, io, rfl, st, H.set hi hm hk hd ⟨_, h1⟩ ⟨_, hpp ▸ h1⟩ ⟨hpp, o', es', n', h1, h2, h3, h4 st, h5, h6⟩, trivial, rfl, rfl⟩

theorem put_mem_keys {k : Ky} {v : V} {kvs : List (Ky × V)} {k' : Ky} (h : k' ∈ (put k v kvs).map (·.1)) : k' = k ∨ k' ∈ kvs.map (·.1) := by
  induction kvs with
  | nil => simp [put] at h; exact .inl h
  | cons q r ih =>
    simp only [put] at h
    split at h
    · exact .inr h
    · simp only [List.map_cons, List.mem_cons] at h
      rcases h with h | h
      · exact .inr (by simp [h])
      · rcases ih h with h | h
        · exact .inl h
        · exact .inr (by simp only [List.map_cons, List.mem_cons]; exact .inr h)
theorem ERs.key_ok {h : Heap} {kvs : List (Ky × V)} {es : List DictEntry} (x : ERs W h io kvs es) {k : Ky} (hk : k ∈ kvs.map (·.1)) : ∃ u, VR W h io k.val u := by
  induction x with
  | nil => cases hk
  | cons h1 _ _ ih =>
    simp only [List.map_cons, List.mem_cons] at hk
    rcases hk with rfl | hk
    · exact ⟨_, h1⟩
    · exact ih hk

theorem vrs_putAt {h : Heap} {j : List (Sum Int Str)} {v : V} {y : Value} (hv : VR W h io v y) : ∀ {l : List TK} {kvs : List (Ky × V)}, l.map (fun p => Ky.tup p.1) = kvs.map (·.1) → VRs W h io (kvs.map (·.2)) (l.map (·.2.2)) →
    VRs W h io ((kvs.map fun p => if p.1 = Ky.tup j then (p.1, v) else p).map (·.2)) ((l.map (putAt j y)).map (·.2.2)) := by
  intro l
  induction l with
  | nil => intro kvs p3 _; have : kvs = [] := by { cases kvs with | nil => rfl | cons => simp at p3 }; subst this; exact .nil
  | cons q l ih =>
    intro kvs p3 p4
    cases kvs with
    | nil => simp at p3
    | cons r kvs =>
      obtain ⟨k', v'⟩ := r
      simp only [List.map_cons, List.cons.injEq] at p3
      obtain ⟨z1, z2⟩ := p3
      subst z1
      cases p4 with
      | cons x1 x2 =>
        simp only [List.map_cons]
        refine .cons ?_ (ih z2 x2)
        by_cases w : q.1 = j
        · simp only [w, if_true, putAt]; exact hv
        · have w' : ¬ Ky.tup q.1 = Ky.tup j := fun c => w (by cases c; rfl)
          simp only [w', if_false, putAt, w]; exact x1
theorem set_dict (H : HR W s.heap io m) (R : AR A fs n) {i : Nat} {p : Addr × Addr} {kvs : List (Ky × V)} {e : Nat} (hi : io[i]? = some p) (hm : m[i]? = some (.dict kvs e)) {x v : V} {u y : Value} (hx : VR W s.heap io x u) (hv : VR W s.heap io v y) {k : Ky} (hk : toKey x = some k) (hs : sorted1 k kvs = true) (hl : kvs.length < lid) :
    Si W own A fs (fun _ _ (_ _ : Unit) => True) (setItem (.ref p.1) u y) s io m (.ok () (m.set i (.dict (put k v kvs) (e + 1)))) := by
  refine hide fun GOAL hGOAL => ?_
  obtain ⟨_, o, es, n', g1, g2, g3, g4, g5, g6⟩ := H.obj _ _ _ hi hm
  refine hGOAL ?_
  clear hGOAL GOAL
  have hv' := toKey_val hk
  subst hv'
  have hl' : (put k v kvs).length ≤ lid := Nat.le_trans (put_length kvs) hl
  intro _
  cases k with
  | int j =>
    have hh := sort_int hs
    refine hide fun GOAL hGOAL => ?_
    obtain ⟨l, l1, l2, l3⟩ := g4.pairs intEmb hh
    refine hGOAL ?_
    clear hGOAL GOAL
    have ll : l.length = kvs.length := by have := congrArg List.length l2; simpa using this
    refine wpAny_setItem_pairs (kvs := l) (intEmb.is j u hx) ⟨o, es, n', g1, g2, g3, fun e he => g4.keysOf intEmb hh e (Array.mem_toList_iff.mpr he), l1, ?_⟩ (fun h' hd hsb => ?_) (sizeLine_lid (by omega))
    · refine List.Pairwise.of_map (S := (· ≠ ·)) Ky.int (fun a b h e => h (congrArg Ky.int e)) ?_
      rw [List.map_map]
      exact (by rw [← l2] at g5; exact g5)
    · refine hide fun GOAL hGOAL => ?_
      obtain ⟨o', es', n2, d1, d2, d3, d4, d5, d6⟩ := hd
      refine hGOAL ?_
      clear hGOAL GOAL
      refine np_setDict H hi hm hsb d1 d2 d3 (fun st => ?_) (put_keys g5) hl'
      obtain ⟨a1, a2⟩ := stored_put (W := W) intEmb l2.symm l3 g5 j hv
      exact ERs.of_pairs intEmb (fun e he => d4 e (Array.mem_toList_iff.mp he)) d5 a1 (a2.step st) fun k u _ hi => by
        obtain ⟨t, rfl⟩ := Value.isInt_shape (k := k) (v := u) hi; exact .int _ _
  | str j =>
    have hh := sort_str hs
    refine hide fun GOAL hGOAL => ?_
    obtain ⟨l, l1, l2, l3⟩ := g4.pairs strEmb hh
    refine hGOAL ?_
    clear hGOAL GOAL
    have ll : l.length = kvs.length := by have := congrArg List.length l2; simpa using this
    refine wpAny_setItem_pairs (kvs := l) (strEmb.is j u hx) ⟨o, es, n', g1, g2, g3, fun e he => g4.keysOf strEmb hh e (Array.mem_toList_iff.mpr he), l1, ?_⟩ (fun h' hd hsb => ?_) (sizeLine_lid (by omega))
    · refine List.Pairwise.of_map (S := (· ≠ ·)) Ky.str (fun a b h e => h (congrArg Ky.str e)) ?_
      rw [List.map_map]
      exact (by rw [← l2] at g5; exact g5)
    · refine hide fun GOAL hGOAL => ?_
      obtain ⟨o', es', n2, d1, d2, d3, d4, d5, d6⟩ := hd
      refine hGOAL ?_
      clear hGOAL GOAL
      refine np_setDict H hi hm hsb d1 d2 d3 (fun st => ?_) (put_keys g5) hl'
      obtain ⟨a1, a2⟩ := stored_put (W := W) strEmb l2.symm l3 g5 j hv
      exact ERs.of_pairs strEmb (fun e he => d4 e (Array.mem_toList_iff.mp he)) d5 a1 (a2.step st) fun k u hm hi => by
        obtain ⟨t, rfl⟩ := Value.isStrOf_shape (x := k) (v := u) hi
        have : ∃ u, VR W s.heap io (Ky.str k).val u := by
          rcases put_mem_keys hm with q | q
          · cases q; exact ⟨_, hx⟩
          · exact g4.key_ok q
        obtain ⟨u', hu⟩ := this
        cases hu with | str _ _ okk => exact .str _ _ okk
  | tup j =>
    have hh := sort_tup hs
    refine hide fun GOAL hGOAL => ?_
    obtain ⟨l, p1, p2, p3, p4, p5⟩ := g4.heapKeys hh
    refine hGOAL ?_
    clear hGOAL GOAL
    refine hide fun GOAL hGOAL => ?_
    obtain ⟨a, rfl, ka⟩ := tupKey_of hx
    refine hGOAL ?_
    clear hGOAL GOAL
    have ll : l.length = kvs.length := by have := congrArg List.length p3; simpa using this
    have lnd := nodup_of_map p3 g5
    refine wpAny_setItem_heap (knd := tkd W) (xs := l) (k := j) (show A.in1.units < cLine by have := R.cline; show A.units + 1 < cLine; omega) ka ⟨o, es, n', g1, g2, g3, p1, p2, lnd⟩ (fun h' hd hsb => ?_) (sizeLine_lid (by omega))
    refine hide fun GOAL hGOAL => ?_
    obtain ⟨o', es', n2, d1, d2, d3, d4, d5, d6⟩ := hd
    refine hGOAL ?_
    clear hGOAL GOAL
    refine np_setDict H hi hm hsb d1 d2 d3 (fun st => ?_) (put_keys g5) hl'
    rw [d4]
    have build : ∀ {l : List TK} {kvs : List (Ky × V)}, l.map (fun p => Ky.tup p.1) = kvs.map (·.1) → VRs W h' io (kvs.map (·.2)) (l.map (·.2.2)) → (∀ y ∈ l, VR W h' io (Ky.tup y.1).val (.ref y.2.1)) → ERs W h' io kvs (l.map (entryOfKey (tkd W))) := by
      intro l
      induction l with
      | nil => intro kvs e x _; have : kvs = [] := by { cases kvs with | nil => rfl | cons => simp at e }; subst this; exact .nil
      | cons q l ih =>
        intro kvs e x y
        cases kvs with
        | nil => simp at e
        | cons r kvs =>
          obtain ⟨k', v'⟩ := r
          simp only [List.map_cons, List.cons.injEq] at e
          obtain ⟨e1, e2⟩ := e
          subst e1
          cases x with
          | cons x1 x2 => exact .cons (y q (.head _)) x1 (ih e2 x2 fun z hz => y z (.tail _ hz))
    rcases atKey_look (k := j) p3 p4 with ⟨v', a', u', e1, e2, e3⟩ | ⟨e1, e2⟩
    · rw [storedH_old e2, look_put_some e1 g5]
      refine build ?_ ?_ ?_
      · rw [List.map_map, List.map_map]
        have f1 : ((fun p : TK => Ky.tup p.1) ∘ putAt j y) = fun p : TK => Ky.tup p.1 := by funext q; simp only [Function.comp, putAt]; split <;> rfl
        have f2 : ((fun p : Ky × V => p.1) ∘ fun p : Ky × V => if p.1 = Ky.tup j then (p.1, v) else p) = fun p => p.1 := by funext q; simp only [Function.comp]; split <;> rfl
        rw [f1, f2]; exact p3
      · exact vrs_putAt (hv.step st) p3 (p4.step st)
      · intro y' hy'
        refine hide fun GOAL hGOAL => ?_
        obtain ⟨z, hz, rfl⟩ := List.mem_map.mp hy'
        refine hGOAL ?_
        clear hGOAL GOAL
        have := (p5 z hz).step st
        unfold putAt; split <;> exact this
    · rw [storedH_new e2, look_put_none e1]
      refine build (by simp [p3]) ?_ ?_
      · simp only [List.map_append, List.map_cons, List.map_nil]
        exact (p4.step st).snoc (hv.step st)
      · intro y' hy'
        rcases List.mem_append.mp hy' with hy' | hy'
        · exact (p5 y' hy').step st
        · rw [List.mem_singleton.mp hy']; exact hx.step st
end
end Mini

namespace Mini
open PySem
section
variable {W : Wd} {own : List Addr} {A : Around} {fs : List Env} {s : Shared} {io : Io} {m : MH} {n : Nat}

theorem in_sim (ok : WOk W) (H : HR W s.heap io m) (R : AR A fs n) {v x : V} {u y : Value} (k : VR W s.heap io v u) (l : VR W s.heap io x y) :
    Si W own A fs BV (compareOp .In u y) s io m (inV v x m) := by
  have hc := R.cline
  unfold inV
  split
  · cases l with | ref g1 =>
    split
    · rename_i ys hy
      refine hide fun GOAL hGOAL => ?_
      obtain ⟨_, vs, n', a1, a2, _⟩ := H.obj _ _ _ g1 hy
      refine hGOAL ?_
      clear hGOAL GOAL
      split
      · rename_i ds d h1 h2
        refine hide fun GOAL hGOAL => ?_
        obtain ⟨⟨as, r1⟩, c1, d1⟩ := readsAll_of (reads_of H _) _ _ _ h1 a2
        refine hGOAL ?_
        clear hGOAL GOAL
        refine hide fun GOAL hGOAL => ?_
        obtain ⟨⟨bs, r2⟩, c2, d2⟩ := reads_of H _ _ _ _ h2 k
        refine hGOAL ?_
        clear hGOAL GOAL
        intro _
        refine SeqAt.in_list_reads (.list a1 rfl rfl r1) r2 c1 c2 ?_ ⟨_, m, io, rfl, .refl, H, rfl, .refl _⟩
        have h3 : min (PyData.depthAll ds) d.depth ≤ 12 := Nat.le_trans (Nat.min_le_left _ _) d1
        omega
      · exact Si.bad
    · rename_i kvs e hy
      split
      · rename_i ky hk
        split
        · rename_i hs
          exact fun _ => in_dict ok H R g1 hy k hk hs fun tk => ⟨_, m, io, rfl, .refl, H, rfl, rfl, rfl⟩
        · exact Si.bad
      · exact Si.bad
    · exact Si.bad
  · exact Si.bad

theorem cmp_sim (ok : WOk W) (H : HR W s.heap io m) (R : AR A fs n) {op : CmpOp} {v x : V} {u y : Value} (k : VR W s.heap io v u) (l : VR W s.heap io x y) :
    Si W own A fs BV (compareOp op u y) s io m (cmpV op v x m) := by
  cases op with
  | Eq => exact eq_sim H R k l
  | NotEq => exact ne_sim H R k l
  | In => exact in_sim ok H R k l
  | NotIn => exact (in_sim ok H R k l).not fun _ _ h => notIn_of_in h
  | Is => exact Si.bad
  | IsNot => exact Si.bad
  | Lt =>
    simp only [cmpV]
    split
    · cases k; cases l; exact fun _ => P.lt_int ⟨_, m, io, rfl, .refl, H, rfl, rfl, rfl⟩
    · exact Si.bad
  | LtE =>
    simp only [cmpV]
    split
    · cases k; cases l; exact fun _ => P.le_int ⟨_, m, io, rfl, .refl, H, rfl, rfl, rfl⟩
    · exact Si.bad
  | Gt =>
    simp only [cmpV]
    split
    · cases k; cases l; exact fun _ => P.gt_int ⟨_, m, io, rfl, .refl, H, rfl, rfl, rfl⟩
    · exact Si.bad
  | GtE =>
    simp only [cmpV]
    split
    · cases k; cases l; exact fun _ => P.ge_int ⟨_, m, io, rfl, .refl, H, rfl, rfl, rfl⟩
    · exact Si.bad

/-! ## items -/
theorem at_seq {α : Type} {xs : List α} {i : Int} {v : α} (h : at_ xs i = some v) : ∃ k, seqIndex? i xs.length = some k ∧ xs[k]? = some v := by
  unfold at_ at h
  unfold seqIndex?
  split at h
  · rename_i h0
    have hlt := (List.getElem?_eq_some_iff.mp h).1
    refine ⟨i.toNat, ?_, h⟩
    simp only [show ¬ i < 0 by omega, if_false]
    rw [if_pos]
    simp only [Bool.and_eq_true, decide_eq_true_eq]; omega
  · split at h
    · rename_i h0 h1
      have hlt := (List.getElem?_eq_some_iff.mp h).1
      refine ⟨(i + xs.length).toNat, ?_, h⟩
      simp only [show i < 0 by omega, if_true]
      rw [if_pos]
      simp only [Bool.and_eq_true, decide_eq_true_eq]; omega
    · cases h
theorem sub_operate (slice : Expr) (o i : Value) : ∃ ops, subscripted slice false o i = operate ops (getItem o i) := by
  cases slice <;> first | (exact ⟨_, rfl⟩) | skip
  rename_i st _
  cases st <;> exact ⟨_, rfl⟩

theorem si_tail {value slice : Expr} {u y : Value} {T id : String} {α : Type} {P : Heap → Io → α → Value → Prop} {R : Res α} (x : Si W own A fs P (getItem u y) s io m R) (hT : s.TypeIs u T) (hl : typeLookup (.type T) "__getitem__" = pure (some (.builtin id))) :
    Si W own A fs P (PyProof.Rows.subscriptTail value slice u y) s io m R := by
  intro hne
  obtain ⟨ops, e⟩ := sub_operate slice u y
  exact PyProof.Rows.tail_any hT hl (x hne) e

theorem VRs.get_arr {h : Heap} {xs : List V} {vs : Array Value} (x : VRs W h io xs vs.toList) {k : Nat} {v : V} (hk : xs[k]? = some v) : ∃ u, vs[k]? = some u ∧ VR W h io v u := by
  refine hide fun GOAL hGOAL => ?_
  obtain ⟨u, e, r⟩ := x.get hk
  refine hGOAL ?_
  clear hGOAL GOAL
  exact ⟨u, by rw [← Array.getElem?_toList]; exact e, r⟩
theorem VRs.size {h : Heap} {xs : List V} {vs : Array Value} (x : VRs W h io xs vs.toList) : vs.size = xs.length := by
  have := x.length; rw [Array.length_toList] at this; exact this
theorem strOk_get {x : Str} {c k : Nat} (ok : PyData.strOk x = true) (h : x.cps[k]? = some c) : PyData.strOk ⟨#[c]⟩ = true := by
  unfold PyData.strOk at *
  have := Array.all_eq_true.mp ok k (Array.getElem?_eq_some_iff.mp h).1
  rw [(Array.getElem?_eq_some_iff.mp h).2] at this
  simpa using this

theorem idx_sim (H : HR W s.heap io m) (R : AR A fs n) {value slice : Expr} {v x : V} {u y : Value} (k : VR W s.heap io v u) (l : VR W s.heap io x y) :
    Si W own A fs (VP W) (PyProof.Rows.subscriptTail value slice u y) s io m (idxV v x m) := by
  unfold idxV
  split
  · rename_i xs
    cases k with | @tup a vs n' _ g1 g2 =>
    split
    · rename_i k
      cases l
      split
      · rename_i hk
        cases q : at_ xs k with
        | none => exact Si.bad
        | some z =>
          refine hide fun GOAL hGOAL => ?_
          obtain ⟨j, e1, e2⟩ := at_seq q
          refine hGOAL ?_
          clear hGOAL GOAL
          refine hide fun GOAL hGOAL => ?_
          obtain ⟨z', f1, f2⟩ := g2.get_arr e2
          refine hGOAL ?_
          clear hGOAL GOAL
          refine si_tail (T := "tuple") (fun _ => P.getItem_tuple g1 (by omega) (by omega) (by rw [g2.size]; exact e1) f1 (np_val (tk := s.toks) H f2)) ⟨_, g1, rfl⟩ F.slot_tuple_getitem.lookup
      · exact Si.bad
    · exact Si.bad
  · rename_i z
    cases k with | @str _ t okz =>
    split
    · rename_i k
      cases l
      split
      · rename_i hk
        cases q : at_ z.cps.toList k with
        | none => exact Si.bad
        | some c =>
          refine hide fun GOAL hGOAL => ?_
          obtain ⟨j, e1, e2⟩ := at_seq q
          refine hGOAL ?_
          clear hGOAL GOAL
          rw [Array.getElem?_toList] at e2
          refine si_tail (T := "str") (fun _ => P.getItem_str (c := c) (by simp; omega) ?_ (np_val H (.str _ _ (strOk_get okz e2)))) rfl F.slot_str_getitem.lookup
          rw [Array.length_toList] at e1
          show (seqIndex? k z.cps.size).bind _ = _
          rw [e1]; exact e2
      · exact Si.bad
    · exact Si.bad
  · cases k with | ref g1 =>
    split
    · rename_i xs hx
      refine hide fun GOAL hGOAL => ?_
      obtain ⟨_, vs, n', a1, a2, a3⟩ := H.obj _ _ _ g1 hx
      refine hGOAL ?_
      clear hGOAL GOAL
      split
      · rename_i k
        cases l
        split
        · rename_i hk
          cases q : at_ xs k with
          | none => exact Si.bad
          | some z =>
            refine si_tail (T := "list") (fun _ => ?_) ⟨_, a1, rfl⟩ slot_list_getitem.lookup
            unfold at_ at q
            split at q
            · rename_i h0
              refine hide fun GOAL hGOAL => ?_
              obtain ⟨z', f1, f2⟩ := a2.get_arr q
              refine hGOAL ?_
              clear hGOAL GOAL
              exact wpAny_getItem_list ⟨_, a1, rfl, _, rfl⟩ h0 (by omega) f1 (np_val (tk := s.toks) H f2)
            · split at q
              · rename_i h0 h1
                refine hide fun GOAL hGOAL => ?_
                obtain ⟨z', f1, f2⟩ := a2.get_arr q
                refine hGOAL ?_
                clear hGOAL GOAL
                exact wpAny_getItem_list_neg ⟨_, a1, rfl, _, rfl⟩ (by omega) (by rw [a2.size]; omega) (by omega) (by rw [a2.size]; exact f1) (np_val (tk := s.toks) H f2)
              · cases q
        · exact Si.bad
      · exact Si.bad
    · rename_i kvs e hx
      refine hide fun GOAL hGOAL => ?_
      obtain ⟨_, o, es, n', a1, a2, a3, _⟩ := H.obj _ _ _ g1 hx
      refine hGOAL ?_
      clear hGOAL GOAL
      split
      · rename_i ky hk
        split
        · rename_i hs
          cases q : look ky kvs with
          | none => exact Si.bad
          | some z =>
            exact si_tail (T := "dict") (fun _ => get_dict H R g1 hx l hk hs q fun u' tk hu => np_val H hu) ⟨_, a1, a2.1⟩ slot_dict_getitem.lookup
        · exact Si.bad
      · exact Si.bad
    · exact Si.bad
  · rename_i ns
    cases k with | @scr _ l' o vs n' h1 h2 h3 h4 h5 =>
    split
    · rename_i k
      cases l
      split
      · rename_i hk
        cases q : (ns[k.toNat]?).map V.int with
        | none => exact Si.bad
        | some z =>
          have q' : (ns.map V.int)[k.toNat]? = some z := by rw [List.getElem?_map]; exact q
          refine hide fun GOAL hGOAL => ?_
          obtain ⟨z', f1, f2⟩ := (h4.vrs (W := W) (h := s.heap) (io := io)).get_arr q'
          refine hGOAL ?_
          clear hGOAL GOAL
          have hlt : k.toNat < ns.length := by have := (List.getElem?_eq_some_iff.mp q').1; simpa using this
          refine si_tail (T := "list") (fun _ => wpAny_getItem_list ⟨_, H.keep _ _ h1, h2, _, h3⟩ hk (by rw [lid_eq] at h5; omega) f1 (np_val (tk := s.toks) H f2)) ⟨_, H.keep _ _ h1, h2⟩ slot_list_getitem.lookup
      · exact Si.bad
    · exact Si.bad
  · exact Si.bad
end
end Mini

namespace Mini
open PySem

/-! ## cuts: the model's picks -/
theorem pick_run {α : Type} (xs : List α) (a : Nat) : ∀ c, (List.range c).filterMap (fun k => xs[a + k]?) = (xs.drop a).take c := by
  intro c
  induction c with
  | zero => simp
  | succ c ih =>
    rw [List.range_succ, List.filterMap_append, ih, List.take_add_one]
    congr 1
    rw [List.getElem?_drop, List.filterMap_cons, List.filterMap_nil]
    cases xs[a + c]? <;> rfl
theorem run_cut {α : Type} (xs : List α) {a b : Nat} (hb : b ≤ xs.length) : (List.range (b - a)).filterMap (fun k => xs[a + k]?) = (xs.take b).drop a := by
  rw [pick_run, List.drop_take]
noncomputable def lowB (n : Nat) (lo : Option Int) : Nat := match lo with | some i => clampU n i | Option.none => 0
noncomputable def highB (n : Nat) (hi : Option Int) : Nat := match hi with | some i => clampU n i | Option.none => n
theorem cut_eq {α : Type} (xs : List α) (lo hi : Option Int) : cut xs lo hi = (xs.take (highB xs.length hi)).drop (lowB xs.length lo) := rfl
theorem highB_le (n : Nat) (hi : Option Int) : highB n hi ≤ n := by
  unfold highB clampU; split
  · split <;> omega
  · exact Nat.le_refl _
theorem clip_eq (n : Nat) (i : Int) : (max 0 (min (if i < 0 then i + n else i) (n : Int))) = (clampU n i : Int) := by
  unfold clampU
  by_cases h : 0 ≤ i
  · rw [if_neg (by omega), if_pos h]; omega
  · rw [if_pos (by omega), if_neg h]; omega
theorem bounds_eq (lo hi : Option Int) (n : Nat) : sliceBounds lo hi none n = ((lowB n lo : Int), (highB n hi : Int), 1) := by
  unfold sliceBounds lowB highB
  cases lo <;> cases hi <;> simp [clip_eq]
theorem range_one (a b : Nat) : sliceRange (a : Int) (b : Int) 1 = (List.range (b - a)).map fun k => a + k := by
  unfold sliceRange
  have e : (if (1 : Int) > 0 then (if (a : Int) < b then ((b : Int) - a + 1 - 1) / 1 else 0) else (if (a : Int) > b then ((a : Int) - b - 1 - 1) / (-1) else 0)).toNat = b - a := by
    simp only [show (1 : Int) > 0 by decide, if_true]
    split <;> omega
  simp only [e]
  refine List.map_congr_left fun k _ => by omega
theorem pick_cut (items : Array Value) (lo hi : Option Int) : (slicePick items lo hi none).toList = cut items.toList lo hi := by
  unfold slicePick
  rw [bounds_eq, cut_eq]
  simp only [range_one, List.filterMap_map]
  rw [Array.length_toList]
  rw [← run_cut items.toList (b := highB items.size hi) (a := lowB items.size lo) (by rw [Array.length_toList]; exact highB_le _ _)]
  congr 1
  funext k
  simp only [Function.comp, Array.getElem?_toList]
theorem pick_one (items : Array Value) : (slicePick items none none (some 1)).toList = items.toList := by
  have : slicePick items none none (some 1) = slicePick items none none none := rfl
  rw [this, pick_cut, cut_eq]
  show (items.toList.take items.toList.length).drop 0 = _
  rw [List.drop_zero, List.take_length]
theorem pick_rev (items : Array Value) : (slicePick items none none (some (-1))).toList = items.toList.reverse := by
  unfold slicePick
  have e : sliceRange ((items.size : Int) - 1) (-1) (-1) = (List.range items.size).map fun (k : Nat) => ((items.size : Int) - 1 + -1 * (k : Int)).toNat := by
    unfold sliceRange
    have : (if (-1 : Int) > 0 then (if (items.size : Int) - 1 < -1 then (-1 - ((items.size : Int) - 1) + -1 - 1) / -1 else 0) else (if (items.size : Int) - 1 > -1 then ((items.size : Int) - 1 - -1 - -1 - 1) / (- -1) else 0)).toNat = items.size := by
      simp only [show ¬ (-1 : Int) > 0 by decide, if_false, Int.neg_neg, Int.ediv_one]
      split <;> omega
    simp only [this]
  show (List.filterMap (fun x => items[x]?) (sliceRange ((items.size : Int) - 1) (-1) (-1))) = _
  rw [e, List.filterMap_map]
  obtain ⟨xs⟩ := items
  simp only [List.size_toArray]
  have key : ∀ (xs : List Value), (List.range xs.length).filterMap (fun (k : Nat) => xs[((xs.length : Int) - 1 + -1 * (k : Int)).toNat]?) = xs.reverse := by
    intro xs
    have h1 : (List.range xs.length).filterMap (fun (k : Nat) => xs[((xs.length : Int) - 1 + -1 * (k : Int)).toNat]?) = (List.range xs.length).filterMap (fun k => xs.reverse[0 + k]?) := by
      have : ∀ k ∈ List.range xs.length, xs[((xs.length : Int) - 1 + -1 * (k : Int)).toNat]? = xs.reverse[0 + k]? := fun k hk => by
        have hk := List.mem_range.mp hk
        rw [List.getElem?_reverse (by omega)]
        congr 1; omega
      have cg : ∀ (l : List Nat) (f g : Nat → Option Value), (∀ k ∈ l, f k = g k) → l.filterMap f = l.filterMap g := by
        intro l f g
        induction l with
        | nil => intro _; rfl
        | cons a l ih =>
          intro h
          rw [List.filterMap_cons, List.filterMap_cons, h a (.head _), ih fun k hk => h k (.tail _ hk)]
      exact cg _ _ _ this
    rw [h1, pick_run, List.drop_zero, ← List.length_reverse, List.take_length]
  refine Eq.trans (congrArg (fun f => List.filterMap f (List.range xs.length)) ?_) (key xs)
  funext k
  simp only [Function.comp, List.getElem?_toArray]
theorem str_cut (x : Str) (t : Tok) (l u : Option (Int × Tok)) {Q : Value → Shared → Prop} {s : Shared} (h : ∀ t' tk, Q (.str ⟨(cut x.cps.toList (l.map (·.1)) (u.map (·.1))).toArray⟩ t') { s with toks := tk }) (hsz : x.length ≤ sizeLine) : (sliceMade x t l u none).post Q s := by
  have e1 : slicePicked x l u none = (List.range (highB x.length (u.map (·.1)) - lowB x.length (l.map (·.1)))).map fun k => lowB x.length (l.map (·.1)) + k := by
    unfold slicePicked
    have : Builtin.Str.strSliceIndices (l.map (·.1)) (u.map (·.1)) ((Option.map (·.1) (none : Option (Int × Tok))).getD 1) x.length = sliceRange (sliceBounds (l.map (·.1)) (u.map (·.1)) none x.length).1 (sliceBounds (l.map (·.1)) (u.map (·.1)) none x.length).2.1 1 := by
      cases l <;> cases u <;> rfl
    rw [this, bounds_eq]
    exact range_one _ _
  have e2 : (slicePicked x l u none).filterMap (x.cps[·]?) = cut x.cps.toList (l.map (·.1)) (u.map (·.1)) := by
    rw [e1, List.filterMap_map, cut_eq, Array.length_toList]
    rw [← run_cut x.cps.toList (b := highB x.cps.size (u.map (·.1))) (a := lowB x.cps.size (l.map (·.1))) (by rw [Array.length_toList]; exact highB_le _ _)]
    refine congrArg (fun f => List.filterMap f _) ?_
    funext k
    simp only [Function.comp, Array.getElem?_toList]
    rfl
  unfold sliceMade
  split
  · rename_i hc
    have hlen : (slicePicked x l u none).length = x.length := by simpa using hc
    have : cut x.cps.toList (l.map (·.1)) (u.map (·.1)) = x.cps.toList := by
      rw [cut_eq, Array.length_toList]
      rw [e1] at hlen
      simp only [List.length_map, List.length_range] at hlen
      have h1 := highB_le x.length (u.map (·.1))
      have h2 : lowB x.cps.size (l.map (·.1)) = 0 ∧ highB x.cps.size (u.map (·.1)) = x.cps.size ∨ x.cps.size = 0 := by
        change highB x.cps.size _ - lowB x.cps.size _ = x.cps.size at hlen
        change highB x.cps.size _ ≤ x.cps.size at h1
        omega
      rcases h2 with ⟨h2, h3⟩ | h2
      · rw [h2, h3, ← Array.length_toList, List.drop_zero, List.take_length]
      · have : x.cps.toList = [] := List.eq_nil_of_length_eq_zero (by rw [Array.length_toList]; exact h2)
        rw [this]; simp
    have h' := h t s.toks
    rw [this] at h'
    exact h'
  · rw [e2]
    refine ⟨?_, h _ _⟩
    show (cut x.cps.toList (l.map (·.1)) (u.map (·.1))).toArray.size ≤ sizeLine
    rw [List.size_toArray, cut_eq, List.length_drop, List.length_take, Array.length_toList]
    change x.cps.size ≤ sizeLine at hsz
    omega

section
variable {W : Wd} {own : List Addr} {A : Around} {fs : List Env} {s : Shared} {io : Io} {m : MH} {n : Nat}

theorem VRs.cut {h : Heap} {xs : List V} {vs : List Value} (x : VRs W h io xs vs) (lo hi : Option Int) : VRs W h io (Mini.cut xs lo hi) (Mini.cut vs lo hi) := by
  rw [cut_eq, cut_eq, x.length]; exact (x.take _).drop _
theorem cut_length {α : Type} (xs : List α) (lo hi : Option Int) : (Mini.cut xs lo hi).length ≤ xs.length := by
  rw [cut_eq, List.length_drop, List.length_take]; omega
theorem strOk_cut {x : Str} (ok : PyData.strOk x = true) (lo hi : Option Int) : PyData.strOk ⟨(Mini.cut x.cps.toList lo hi).toArray⟩ = true := by
  unfold PyData.strOk at *
  rw [List.all_toArray, List.all_eq_true]
  intro c hc
  rw [cut_eq] at hc
  have := List.mem_of_mem_take (List.mem_of_mem_drop hc)
  exact Array.all_eq_true_iff_forall_mem.mp ok c (Array.mem_toList_iff.mp this)

theorem part_of {v : V} {u : Value} {o : Option Int} (k : VR W s.heap io v u) (h : bound v = some o) : IsPart u o := by
  unfold bound at h
  split at h
  · cases h; cases k; exact .none
  · cases k
    split at h
    · cases h; exact .int _ _
    · cases h
  · cases h
theorem si_getItem {value slice : Expr} {u y : Value} {T id : String} {α : Type} {P : Heap → Io → α → Value → Prop} {R : Res α} (hT : s.TypeIs u T) (hl : typeLookup (.type T) "__getitem__" = pure (some (.builtin id)))
    (x : wpAny (model W.prog W.w) A (getItem u y) (NP W own (frs fs) s io m P R) (XP W own fs s io m R) s) : Si W own A fs P (PyProof.Rows.subscriptTail value slice u y) s io m R := si_tail (fun _ => x) hT hl
theorem partOf_vr {v : V} {u : Value} {o : Option Int} (k : VR W s.heap io v u) (h : bound v = some o) : ∃ q : Option (Int × Tok), u = partValue q ∧ q.map (·.1) = o := by
  cases part_of k h with
  | none => exact ⟨none, rfl, rfl⟩
  | int i t => exact ⟨some (i, t), rfl, rfl⟩

theorem sliceL_some {α : Type} {xs l : List α} {lo hi st : V} (h : sliceL xs lo hi st = some l) :
    (st = .none ∧ ∃ a b, bound lo = some a ∧ bound hi = some b ∧ l = Mini.cut xs a b) ∨ (∃ k, st = .int k ∧ lo = .none ∧ hi = .none ∧ ((k = 1 ∧ l = xs) ∨ (k = -1 ∧ l = xs.reverse))) := by
  unfold sliceL at h
  split at h
  · split at h
    · rename_i a b h1 h2; cases h; exact .inl ⟨rfl, a, b, h1, h2, rfl⟩
    · cases h
  · split at h
    · split at h
      · rename_i q; cases h; exact .inr ⟨_, rfl, rfl, rfl, .inl ⟨q, rfl⟩⟩
      · split at h
        · rename_i q; cases h; exact .inr ⟨_, rfl, rfl, rfl, .inr ⟨q, rfl⟩⟩
        · cases h
    · cases h
  · cases h
theorem sliceL_none {α : Type} {xs l : List α} {lo hi : V} (h : sliceL xs lo hi .none = some l) : ∃ a b, bound lo = some a ∧ bound hi = some b ∧ l = Mini.cut xs a b := by
  rcases sliceL_some h with ⟨_, r⟩ | ⟨k, q, _⟩
  · exact r
  · cases q

theorem slice_sim (H : HR W s.heap io m) {value slice : Expr} {v lo hi st : V} {u ul uh us : Value} {sl : Addr} (k : VR W s.heap io v u) (kl : VR W s.heap io lo ul) (kh : VR W s.heap io hi uh) (ks : VR W s.heap io st us) (hs : s.heap.IsSliceOf sl ul uh us) :
    Si W own A fs (VP W) (PyProof.Rows.subscriptTail value slice u (.ref sl)) s io m (sliceV v lo hi st m) := by
  unfold sliceV
  split
  · rename_i z
    cases k with | @str _ t okz =>
    split
    · cases ks
      split
      · rename_i hl
        cases q : sliceL z.cps.toList lo hi .none with
        | none => exact Si.bad
        | some l =>
          refine hide fun GOAL hGOAL => ?_
          obtain ⟨a, b, h1, h2, rfl⟩ := sliceL_none q
          refine hGOAL ?_
          clear hGOAL GOAL
          refine hide fun GOAL hGOAL => ?_
          obtain ⟨ql, rfl, rfl⟩ := partOf_vr kl h1
          refine hGOAL ?_
          clear hGOAL GOAL
          refine hide fun GOAL hGOAL => ?_
          obtain ⟨qh, rfl, rfl⟩ := partOf_vr kh h2
          refine hGOAL ?_
          clear hGOAL GOAL
          refine si_getItem (T := "str") rfl F.slot_str_getitem.lookup ?_
          refine hide fun GOAL hGOAL => ?_
          obtain ⟨o, ho, hc, hd⟩ := hs
          refine hGOAL ?_
          clear hGOAL GOAL
          refine wpAny_getItem_str_slice (l := ql) (u := qh) (st := none) ⟨o, ho, hc, hd⟩ (by decide) ?_
          exact str_cut z t ql qh (fun t' tk => np_val H (.str _ _ (strOk_cut okz _ _))) (sizeLine_lid hl)
      · exact Si.bad
    · exact Si.bad
  · cases k with | ref g1 =>
    split
    · rename_i xs hx
      refine hide fun GOAL hGOAL => ?_
      obtain ⟨_, vs, n', a1, a2, a3⟩ := H.obj _ _ _ g1 hx
      refine hGOAL ?_
      clear hGOAL GOAL
      have ll := a2.size
      cases q : sliceL xs lo hi st with
      | none => exact Si.bad
      | some l =>
        refine si_getItem (T := "list") ⟨_, a1, rfl⟩ slot_list_getitem.lookup ?_
        rcases sliceL_some q with ⟨rfl, a, b, h1, h2, rfl⟩ | ⟨j, rfl, rfl, rfl, ⟨rfl, rfl⟩ | ⟨rfl, rfl⟩⟩
        · cases ks
          refine wpAny_getItem_list_slice ⟨_, a1, rfl, _, rfl⟩ hs (part_of kl h1) (part_of kh h2) .none (by simp) (np_list H ?_ ?_) (sizeLine_lid (by omega))
          · rw [pick_cut]; exact a2.cut _ _
          · exact Nat.le_trans (cut_length _ _ _) a3
        · cases ks; cases kl; cases kh
          refine wpAny_getItem_list_slice ⟨_, a1, rfl, _, rfl⟩ hs .none .none (.int _ _) (by simp) (np_list H ?_ a3) (sizeLine_lid (by omega))
          rw [pick_one]; exact a2
        · cases ks; cases kl; cases kh
          refine wpAny_getItem_list_slice ⟨_, a1, rfl, _, rfl⟩ hs .none .none (.int _ _) (by simp) (np_list H ?_ (by simpa using a3)) (sizeLine_lid (by omega))
          rw [pick_rev]; exact a2.reverse
    · exact Si.bad
  · rename_i ns
    cases k with | @scr _ l' o vs n' h1 h2 h3 h4 h5 =>
    split
    · cases ks
      cases q : sliceL (ns.map V.int) lo hi .none with
      | none => exact Si.bad
      | some l =>
        refine hide fun GOAL hGOAL => ?_
        obtain ⟨a, b, e1, e2, rfl⟩ := sliceL_none q
        refine hGOAL ?_
        clear hGOAL GOAL
        have ll : vs.size = ns.length := by have := h4.length; rw [Array.length_toList] at this; exact this
        refine si_getItem (T := "list") ⟨_, H.keep _ _ h1, h2⟩ slot_list_getitem.lookup ?_
        refine wpAny_getItem_list_slice ⟨_, H.keep _ _ h1, h2, _, h3⟩ hs (part_of kl e1) (part_of kh e2) .none (by simp) (np_list H ?_ ?_) (sizeLine_lid (by omega))
        · rw [pick_cut]; exact h4.vrs.cut _ _
        · exact Nat.le_trans (cut_length _ _ _) (by simpa using h5)
    · exact Si.bad
  · exact Si.bad
end
end Mini

/-! Expressions: the rules that put a walk together. -/
namespace Mini
open PySem PySem.W

/-- where an expression is evaluated -/
structure Sit (W : Wd) (fs : List Env) (env : Env) (vis : List (Option Str)) (s : Shared) (io : Io) (m : MH) (r : Lo) : Prop where
  H : HR W s.heap io m
  F : FR W s.heap io env vis r
  G : FF W s.heap io fs

section
variable {W : Wd} {fs : List Env} {env : Env} {vis : List (Option Str)} {s s' : Shared} {io io' : Io} {m m' : MH} {r : Lo} {fr : List Addr} {A : Around} {n : Nat}
theorem Sit.step (Z : Sit W fs env vis s io m r) (H : HR W s'.heap io' m') (st : Step [] fr s.heap io m s'.heap io' m') : Sit W fs env vis s' io' m' r := ⟨H, Z.F.step0 Z.H st, Z.G.step0 st⟩

noncomputable def SiE (W : Wd) (A : Around) (fs : List Env) (env : Env) (vis : List (Option Str)) (t : Sem Value) (c : Lo → Mn V) : Prop :=
  ∀ (s : Shared) (io : Io) (m : MH) (r : Lo), Sit W fs env vis s io m r → Si W [] A fs (VP W) t s io m (c r m)
noncomputable def SiB (W : Wd) (A : Around) (fs : List Env) (env : Env) (vis : List (Option Str)) (t : Sem Bool) (c : Lo → Mn Bool) : Prop :=
  ∀ (s : Shared) (io : Io) (m : MH) (r : Lo), Sit W fs env vis s io m r → Si W [] A fs BP t s io m (c r m)
noncomputable def SiL (W : Wd) (A : Around) (fs : List Env) (env : Env) (vis : List (Option Str)) (t : Sem (List Value)) (c : Lo → Mn (List V)) : Prop :=
  ∀ (s : Shared) (io : Io) (m : MH) (r : Lo), Sit W fs env vis s io m r → Si W [] A fs (VsP W) t s io m (c r m)

variable {a b c : Expr} {pos : Pos} {ca cb cc : Lo → Mn V}

theorem e_const {v : Lt} {k : Const} {j : Nat} (h : (match v, k with | .none, .none => true | .bool b, .bool d => b == d | .int i, .int j => i == j | .str x, .str y => x == y && PyData.strOk x | _, _ => false) = true) : SiE W A fs env vis (eval (.Constant k j pos) env) (fun _ => ret v.val) := by
  intro s io m r Z
  cases v <;> cases k <;> first | (exact absurd h Bool.false_ne_true) | skip
  · exact fun _ => wpAny_Constant_none (np_val (tk := s.toks) Z.H .none)
  · rw [beq_iff_eq.mp h]
    exact fun _ => wpAny_Constant_bool (np_val (tk := s.toks) Z.H (.bool _))
  · rw [beq_iff_eq.mp h]
    exact fun _ => wpAny_Constant_int (np_val Z.H (.int _ _))
  · simp only [Bool.and_eq_true, beq_iff_eq] at h
    rw [← h.1]
    exact fun _ => wpAny_Constant_str (np_val Z.H (.str _ _ h.2))

theorem e_var {i : Nat} {x : Str} (hv : vis[i]? = some (some x)) (hk : env.kindOf x = some .local ∨ env.kindOf x = some .cell ∨ env.kindOf x = some .free) (hd : (x == ("__debug__" : Str)) = false) (hc : (x == ("__classdict__" : Str)) = false) :
    SiE W A fs env vis (eval (.Name x pos) env) (fun r => match r[i]? with | some (some v) => ret v | _ => bad) := by
  intro s io m r Z
  have key : ∀ o : Option (Option V), r[i]? = o → Si W [] A fs (VP W) (eval (.Name x pos) env) s io m ((match o with | some (some v) => ret v | _ => bad : Mn V) m) := by
   intro o hr
   match o, hr with
   | none, _ => exact .bad
   | some none, _ => exact .bad
   | some (some v), hr =>
    intro _
    refine wpAny_Name ?_ hd
    rcases hk with hk | hk | hk
    · refine hide fun GOAL hGOAL => ?_
      obtain ⟨mp, hn, hl⟩ := Z.F.loc
      refine hGOAL ?_
      clear hGOAL GOAL
      refine hide fun GOAL hGOAL => ?_
      obtain ⟨u, e, k⟩ := hl i x v hv hr hk
      refine hGOAL ?_
      clear hGOAL GOAL
      exact wpAny_loadName_local Z.F.kind hk hn e (np_val (tk := s.toks) Z.H k)
    · refine hide fun GOAL hGOAL => ?_
      obtain ⟨c, u, e, k1, k2⟩ := Z.F.cel i x v hv hr (.inl hk)
      refine hGOAL ?_
      clear hGOAL GOAL
      exact wpAny_loadName_cell Z.F.kind hk e k1 (np_val (tk := s.toks) Z.H k2)
    · refine hide fun GOAL hGOAL => ?_
      obtain ⟨c, u, e, k1, k2⟩ := Z.F.cel i x v hv hr (.inr hk)
      refine hGOAL ?_
      clear hGOAL GOAL
      exact wpAny_loadName_free Z.F.kind hk e k1 (np_val (tk := s.toks) Z.H k2) hc
  exact key _ rfl

theorem e_bin {op : Operator} (ha : SiE W A fs env vis (eval a env) ca) (hb : SiE W A fs env vis (eval b env) cb) :
    SiE W A fs env vis (eval (.BinOp a op b pos) env) (fun r => bnd (ca r) fun x => bnd (cb r) fun y => binV op x y) := by
  intro s io m r Z
  rw [eval_BinOp]
  refine Si.bind (ha s io m r Z) fun u s₁ io₁ m₁ v _ st H₁ k sm => ?_
  refine Si.bind (Si.holding (hb _ _ _ r (Z.step H₁ st))) fun u' s₂ io₂ m₂ v' _ st₂ H₂ k₂ sm₂ => ?_
  exact .standAt (.operate (bin_sim H₂ (VR.step st₂ k) k₂))

theorem e_neg (ha : SiE W A fs env vis (eval a env) ca) : SiE W A fs env vis (eval (.UnaryOp .USub a pos) env) (fun r => bnd (ca r) fun x => match x with | .int i => ret (.int (-i)) | _ => bad) := by
  intro s io m r Z
  rw [arm_eval_UnaryOp]
  refine Si.bind (ha s io m r Z) fun u s₁ io₁ m₁ v _ st H₁ k sm => .standAt (.holding ?_)
  cases k with
  | int i t => exact fun _ => P.neg_int (np_val H₁ (.int _ _))
  | none => exact .bad
  | bool b => exact .bad
  | str s t => exact .bad
  | tup => exact .bad
  | ref => exact .bad
  | scr => exact .bad

theorem e_not (ha : SiE W A fs env vis (eval a env) ca) : SiE W A fs env vis (eval (.UnaryOp .Not a pos) env) (fun r => bnd (ca r) fun x => bnd (truth x) fun b => ret (.bool (!b))) := by
  intro s io m r Z
  rw [arm_eval_UnaryOp]
  refine Si.bind (ha s io m r Z) fun u s₁ io₁ m₁ v _ st H₁ k sm => .standAt (.holding ?_)
  refine Si.holding (t := truthy u >>= fun b => Pure.pure (Value.bool (!b))) ?_
  refine Si.bind (truth_sim H₁ k) fun b s₂ io₂ m₂ b' _ _ H₂ k₂ _ => ?_
  cases k₂
  exact .pure H₂ (.bool _)

theorem e_ite {ct : Lo → Mn Bool} {test : Expr} (ht : SiB W A fs env vis (isTrue test env (eval test env)) ct) (ha : SiE W A fs env vis (eval a env) ca) (hb : SiE W A fs env vis (eval b env) cb) :
    SiE W A fs env vis (eval (.IfExp test a b pos) env) (fun r => bnd (ct r) fun t => if t then ca r else cb r) := by
  intro s io m r Z
  rw [arm_eval_IfExp]
  refine Si.bind (ht s io m r Z) fun u s₁ io₁ m₁ v _ st H₁ k sm => ?_
  cases k
  cases u
  · exact hb _ _ _ r (Z.step H₁ st)
  · exact ha _ _ _ r (Z.step H₁ st)

theorem e_idx (R : AR A fs n) (ha : SiE W A fs env vis (eval a env) ca) (hb : SiE W A fs env vis (eval b env) cb) :
    SiE W A fs env vis (eval (.Subscript a b pos) env) (fun r => bnd (ca r) fun x => bnd (cb r) fun y => idxV x y) := by
  intro s io m r Z
  rw [arm_eval_Subscript]
  refine Si.bind (ha s io m r Z) fun u s₁ io₁ m₁ v _ st H₁ k sm => ?_
  refine Si.bind (Si.holding (hb _ _ _ r (Z.step H₁ st))) fun u' s₂ io₂ m₂ v' _ st₂ H₂ k₂ sm₂ => ?_
  exact .standAt (idx_sim H₂ R (VR.step st₂ k) k₂)

theorem bnd_assoc {α β γ : Type} (x : Mn α) (f : α → Mn β) (g : β → Mn γ) : bnd (bnd x f) g = bnd x fun a => bnd (f a) g := by
  funext m
  show ((x m).bind f).bind g = (x m).bind fun a m => (f a m).bind g
  cases x m <;> rfl

/-! ### lists of expressions -/
theorem l_nil : SiL W A fs env vis (spliced (backTo pos (starEach [] env))) (fun _ => ret []) := fun _ _ _ _ Z => .pure Z.H .nil
theorem l_cons {rest : List Expr} {cl : Lo → Mn (List V)} (ha : SiE W A fs env vis (eval a env) ca) (hl : SiL W A fs env vis (spliced (backTo pos (starEach rest env))) cl) (he : starEach (a :: rest) env = (false, eval a env) :: starEach rest env) :
    SiL W A fs env vis (spliced (backTo pos (starEach (a :: rest) env))) (fun r => bnd (ca r) fun x => bnd (cl r) fun xs => ret (x :: xs)) := by
  intro s io m r Z
  rw [he]
  show Si W [] A fs (VsP W) (eval a env >>= fun v => (PySem.holding [v] (spliced (backTo pos (starEach rest env)))) >>= fun vs => Pure.pure (v :: vs)) s io m _
  refine Si.bind (ha s io m r Z) fun u s₁ io₁ m₁ v _ st H₁ k sm => ?_
  refine Si.bind (Si.holding (hl _ _ _ r (Z.step H₁ st))) fun u' s₂ io₂ m₂ v' _ st₂ H₂ k₂ sm₂ => ?_
  exact .pure H₂ (.cons (VR.step st₂ k) k₂)

theorem e_tup {es : List Expr} {j : Nat} {cl : Lo → Mn (List V)} (hl : SiL W A fs env vis (spliced (backTo pos (starEach es env))) cl) (hn : ∀ r m vs m', cl r m = .ok vs m' → vs.length ≤ lid) : SiE W A fs env vis (eval (.Tuple es j pos) env) (fun r => bnd (cl r) fun vs => ret (.tup vs)) := by
  intro s io m r Z
  rw [arm_eval_Tuple]
  refine .standAt (Si.bind (hl s io m r Z) fun u s₁ io₁ m₁ v e st H₁ k sm => ?_)
  exact fun _ => wpAny_newTuple (np_tup (tk := s₁.toks) H₁ k) (by have := hn _ _ _ _ e; rw [← k.length] at this; exact sizeLine_lid this)
theorem e_list {es : List Expr} {cl : Lo → Mn (List V)} (hl : SiL W A fs env vis (spliced (backTo pos (starEach es env))) cl) (hn : ∀ r m vs m', cl r m = .ok vs m' → vs.length ≤ lid) : SiE W A fs env vis (eval (.List es pos) env) (fun r => bnd (cl r) fun vs => alloc (.list vs)) := by
  intro s io m r Z
  rw [arm_eval_List]
  refine .standAt (Si.bind (hl s io m r Z) fun u s₁ io₁ m₁ v e st H₁ k sm => ?_)
  exact fun _ => wpAny_newList (np_list (tk := s₁.toks) H₁ k (hn _ _ _ _ e)) (by have := hn _ _ _ _ e; rw [← k.length] at this; exact sizeLine_lid this)

/-! ### and, or -/
theorem b_one {op : BoolOp} (ha : SiE W A fs env vis (eval a env) ca) : SiE W A fs env vis (boolOp pos op (evalEach [a] env)) ca := ha
theorem b_cons {op : BoolOp} {c : Bool} {rest : List Expr} {cb : Lo → Mn V} (hop : (op = .And ∧ c = true) ∨ (op = .Or ∧ c = false)) (ha : SiE W A fs env vis (eval a env) ca) (hb : SiE W A fs env vis (boolOp pos op (evalEach (b :: rest) env)) cb) :
    SiE W A fs env vis (boolOp pos op (evalEach (a :: b :: rest) env)) (fun r => bnd (ca r) fun x => bnd (truth x) fun t => if t == c then cb r else ret x) := by
  intro s io m r Z
  rcases hop with ⟨rfl, rfl⟩ | ⟨rfl, rfl⟩ <;>
  refine Si.bind (ha s io m r Z) fun u s₁ io₁ m₁ v _ st H₁ k sm => .standAt ?_ <;>
  refine Si.bind (Si.holding (truth_sim H₁ k)) fun t s₂ io₂ m₂ t' _ st₂ H₂ k₂ sm₂ => ?_ <;>
  cases k₂ <;> cases t
  · exact .pure H₂ (VR.step st₂ k)
  · exact hb _ _ _ r ((Z.step H₁ st).step H₂ st₂)
  · exact hb _ _ _ r ((Z.step H₁ st).step H₂ st₂)
  · exact .pure H₂ (VR.step st₂ k)

/-! ### comparisons -/
noncomputable def SiC (W : Wd) (A : Around) (fs : List Env) (env : Env) (vis : List (Option Str)) (t : Value → Sem Value) (c : V → Lo → Mn V) : Prop :=
  ∀ (s : Shared) (io : Io) (m : MH) (r : Lo) (x : V) (u : Value), Sit W fs env vis s io m r → VR W s.heap io x u → Si W [] A fs (VP W) (t u) s io m (c x r m)
noncomputable def SiCB (W : Wd) (A : Around) (fs : List Env) (env : Env) (vis : List (Option Str)) (t : Value → Sem Bool) (c : V → Lo → Mn V) : Prop :=
  ∀ (s : Shared) (io : Io) (m : MH) (r : Lo) (x : V) (u : Value), Sit W fs env vis s io m r → VR W s.heap io x u → Si W [] A fs BP (t u) s io m (bnd (c x r) truth m)

theorem marked_one {op : CmpOp} (hb : behindInMarks op b = false) : markedEach [op] [b] (evalEach [b] env) = [eval b env] := by
  show [markedBehindIn op b (eval b env)] = _
  rw [markedBehindIn_of_false hb]
theorem c_one (ok : WOk W) (R : AR A fs n) {op : CmpOp} (hm : behindInMarks op b = false) (hb : SiE W A fs env vis (eval b env) cb) :
    SiC W A fs env vis (fun u => compareChain pos u [op] (markedEach [op] [b] (evalEach [b] env))) (fun x r => bnd (cb r) fun y => bnd (cmpV op x y) fun c => ret (.bool c)) := by
  intro s io m r x u Z k
  show Si W [] A fs (VP W) (compareChain pos u [op] (markedEach [op] [b] (evalEach [b] env))) s io m _
  rw [marked_one hm]
  refine Si.bind (Si.holding (hb _ _ _ r Z)) fun u' s₂ io₂ m₂ v' _ st₂ H₂ k₂ sm₂ => .standAt (.operate ?_)
  have := cmp_sim (own := []) ok H₂ R (op := op) (VR.step st₂ k) k₂
  intro hne
  refine wpAny_mono (this (Res.bind_ne hne)) (fun u s' p => ?_) fun e s' p => p.bind .refl (.refl _)
  refine hide fun GOAL hGOAL => ?_
  obtain ⟨v, m', io', e, a1, a2, a3, a4⟩ := p
  refine hGOAL ?_
  clear hGOAL GOAL
  cases a3
  exact ⟨.bool v, m', io', by show (cmpV op x v' m₂).bind _ = _; rw [e]; rfl, a1, a2, .bool v, a4⟩
theorem c_more (ok : WOk W) (R : AR A fs n) {op : CmpOp} {op' : CmpOp} {ops : List CmpOp} {b' : Expr} {rest : List Expr} {cc : V → Lo → Mn V} (hb : SiE W A fs env vis (eval b env) cb)
    (hc : SiC W A fs env vis (fun u => compareChain pos u (op' :: ops) (markedEach (op' :: ops) (b' :: rest) (evalEach (b' :: rest) env))) cc) :
    SiC W A fs env vis (fun u => compareChain pos u (op :: op' :: ops) (markedEach (op :: op' :: ops) (b :: b' :: rest) (evalEach (b :: b' :: rest) env))) (fun x r => bnd (cb r) fun y => bnd (cmpV op x y) fun c => if c then cc y r else ret (.bool false)) := by
  intro s io m r x u Z k
  show Si W [] A fs (VP W) (PySem.holding [u] (eval b env) >>= fun rv => PySem.standAt pos >>= fun _ => PySem.holding [u, rv] (compareOp op u rv) >>= fun c => release [u, rv] [c] >>= fun _ => PySem.holding [c, rv] (truthy c) >>= fun t => if t then compareChain pos rv (op' :: ops) (markedEach (op' :: ops) (b' :: rest) (evalEach (b' :: rest) env)) else Pure.pure c) s io m _
  refine Si.bind (Si.holding (hb _ _ _ r Z)) fun u' s₂ io₂ m₂ v' _ st₂ H₂ k₂ sm₂ => .standAt ?_
  refine Si.bind (Si.holding (cmp_sim ok H₂ R (VR.step st₂ k) k₂)) fun u₃ s₃ io₃ m₃ v₃ _ st₃ H₃ k₃ sm₃ => ?_
  cases k₃
  have : Si W [] A fs (VP W) (PySem.holding [.bool v₃, u'] (truthy (.bool v₃)) >>= fun t => if t then compareChain pos u' (op' :: ops) (markedEach (op' :: ops) (b' :: rest) (evalEach (b' :: rest) env)) else Pure.pure (.bool v₃)) s₃ io₃ m₃ ((if v₃ then cc v' r else ret (.bool false)) m₃) := by
    intro hne
    refine wpAny_bind (wpAny_holding (wpAny_truthy_bool ?_))
    cases v₃
    · exact Si.pure (own := []) (A := A) (fs := fs) H₃ (.bool false) hne
    · exact hc _ _ _ r v' u' ((Z.step H₂ st₂).step H₃ st₃) (VR.step st₃ k₂) hne
  exact fun hne => wpAny_bind (wpAny_release (this hne))

theorem t_one (ok : WOk W) (R : AR A fs n) {op : CmpOp} (hm : behindInMarks op b = false) (hb : SiE W A fs env vis (eval b env) cb) :
    SiCB W A fs env vis (fun u => testChain pos u [op] (markedEach [op] [b] (evalEach [b] env))) (fun x r => bnd (cb r) fun y => bnd (cmpV op x y) fun c => ret (.bool c)) := by
  intro s io m r x u Z k
  show Si W [] A fs BP (testChain pos u [op] (markedEach [op] [b] (evalEach [b] env))) s io m _
  rw [marked_one hm, bnd_assoc]
  refine Si.bind (Si.holding (hb _ _ _ r Z)) fun u' s₂ io₂ m₂ v' _ st₂ H₂ k₂ sm₂ => .standAt ?_
  rw [bnd_assoc]
  refine Si.bind (Si.operate (cmp_sim ok H₂ R (VR.step st₂ k) k₂)) fun u₃ s₃ io₃ m₃ v₃ _ st₃ H₃ k₃ sm₃ => .holding ?_
  cases k₃
  exact fun _ => wpAny_truthy_bool ⟨v₃, m₃, io₃, rfl, .refl, H₃, rfl, .refl _⟩
theorem t_more (ok : WOk W) (R : AR A fs n) {op : CmpOp} {op' : CmpOp} {ops : List CmpOp} {b' : Expr} {rest : List Expr} {cc : V → Lo → Mn V} (hb : SiE W A fs env vis (eval b env) cb)
    (hc : SiCB W A fs env vis (fun u => testChain pos u (op' :: ops) (markedEach (op' :: ops) (b' :: rest) (evalEach (b' :: rest) env))) cc) :
    SiCB W A fs env vis (fun u => testChain pos u (op :: op' :: ops) (markedEach (op :: op' :: ops) (b :: b' :: rest) (evalEach (b :: b' :: rest) env))) (fun x r => bnd (cb r) fun y => bnd (cmpV op x y) fun c => if c then cc y r else ret (.bool false)) := by
  intro s io m r x u Z k
  show Si W [] A fs BP (PySem.holding [u] (eval b env) >>= fun rv => PySem.standAt pos >>= fun _ => PySem.holding [u, rv] (compareOp op u rv) >>= fun c => release [u, rv] [c] >>= fun _ => PySem.holding [c, rv] (truthy c) >>= fun t => if t then testChain pos rv (op' :: ops) (markedEach (op' :: ops) (b' :: rest) (evalEach (b' :: rest) env)) else Pure.pure false) s io m _
  rw [bnd_assoc]
  refine Si.bind (Si.holding (hb _ _ _ r Z)) fun u' s₂ io₂ m₂ v' _ st₂ H₂ k₂ sm₂ => .standAt ?_
  rw [bnd_assoc]
  refine Si.bind (Si.holding (cmp_sim ok H₂ R (VR.step st₂ k) k₂)) fun u₃ s₃ io₃ m₃ v₃ _ st₃ H₃ k₃ sm₃ => ?_
  cases k₃
  have : Si W [] A fs BP (PySem.holding [.bool v₃, u'] (truthy (.bool v₃)) >>= fun t => if t then testChain pos u' (op' :: ops) (markedEach (op' :: ops) (b' :: rest) (evalEach (b' :: rest) env)) else Pure.pure false) s₃ io₃ m₃ (bnd (if v₃ then cc v' r else ret (.bool false)) truth m₃) := by
    intro hne
    refine wpAny_bind (wpAny_holding (wpAny_truthy_bool ?_))
    cases v₃
    · exact Si.pure (own := []) (A := A) (fs := fs) (v := false) H₃ rfl hne
    · exact hc _ _ _ r v' u' ((Z.step H₂ st₂).step H₃ st₃) (VR.step st₃ k₂) hne
  exact fun hne => wpAny_bind (wpAny_release (this hne))

theorem e_cmp {ops : List CmpOp} {bs : List Expr} {cc : V → Lo → Mn V} (ha : SiE W A fs env vis (eval a env) ca) (hc : SiC W A fs env vis (fun u => compareChain pos u ops (markedEach ops bs (evalEach bs env))) cc) :
    SiE W A fs env vis (eval (.Compare a ops bs pos) env) (fun r => bnd (ca r) fun x => cc x r) := by
  intro s io m r Z
  rw [arm_eval_Compare]
  exact Si.bind (ha s io m r Z) fun u s₁ io₁ m₁ v _ st H₁ k sm => hc _ _ _ r v u (Z.step H₁ st) k
theorem t_cmp {ops : List CmpOp} {bs : List Expr} {cc : V → Lo → Mn V} {whole : Sem Value} (ha : SiE W A fs env vis (eval a env) ca) (hc : SiCB W A fs env vis (fun u => testChain pos u ops (markedEach ops bs (evalEach bs env))) cc) :
    SiB W A fs env vis (isTrue (.Compare a ops bs pos) env whole) (fun r => bnd (bnd (ca r) fun x => cc x r) truth) := by
  intro s io m r Z
  show Si W [] A fs BP _ s io m (bnd (bnd (ca r) fun x => cc x r) truth m)
  rw [bnd_assoc]
  show Si W [] A fs BP (eval a env >>= fun u => testChain pos u ops (markedEach ops bs (evalEach bs env))) s io m _
  exact Si.bind (ha s io m r Z) fun u s₁ io₁ m₁ v _ st H₁ k sm => hc _ _ _ r v u (Z.step H₁ st) k

/-! ### tests -/
theorem t_val (ha : SiE W A fs env vis (eval a env) ca) (hs : isTrue a env (eval a env) = (do let v ← eval a env; PySem.standAt a.pos; PySem.holding [v] (truthy v))) : SiB W A fs env vis (isTrue a env (eval a env)) (fun r => bnd (ca r) truth) := by
  intro s io m r Z
  rw [hs]
  exact Si.bind (ha s io m r Z) fun u s₁ io₁ m₁ v _ st H₁ k sm => .standAt (.holding (truth_sim H₁ k))
theorem t_not {ct : Lo → Mn Bool} {whole : Sem Value} (ha : SiB W A fs env vis (isTrue a env (eval a env)) ct) : SiB W A fs env vis (isTrue (.UnaryOp .Not a pos) env whole) (fun r => bnd (ct r) fun b => ret (!b)) := by
  intro s io m r Z
  show Si W [] A fs BP (isTrue a env (eval a env) >>= fun b => Pure.pure (!b)) s io m _
  refine Si.bind (ha s io m r Z) fun u s₁ io₁ m₁ v _ st H₁ k sm => ?_
  cases k
  exact .pure H₁ rfl
theorem t_nil {op : BoolOp} {c : Bool} (hop : (op = .And ∧ c = true) ∨ (op = .Or ∧ c = false)) : SiB W A fs env vis (allTrue op [] env) (fun _ => ret c) := by
  intro s io m r Z
  rcases hop with ⟨rfl, rfl⟩ | ⟨rfl, rfl⟩
  · exact .pure (u := true) Z.H rfl
  · exact .pure (u := false) Z.H rfl
theorem t_cons {op : BoolOp} {c : Bool} {rest : List Expr} {ct cts : Lo → Mn Bool} (hop : (op = .And ∧ c = true) ∨ (op = .Or ∧ c = false)) (ha : SiB W A fs env vis (isTrue a env (eval a env)) ct) (hb : SiB W A fs env vis (allTrue op rest env) cts) :
    SiB W A fs env vis (allTrue op (a :: rest) env) (fun r => bnd (ct r) fun b => if b == c then cts r else ret b) := by
  intro s io m r Z
  rcases hop with ⟨rfl, rfl⟩ | ⟨rfl, rfl⟩ <;>
  refine Si.bind (ha s io m r Z) fun t s₁ io₁ m₁ v _ st H₁ k sm => ?_ <;>
  cases k <;> cases t
  · exact .pure H₁ rfl
  · exact hb _ _ _ r (Z.step H₁ st)
  · exact hb _ _ _ r (Z.step H₁ st)
  · exact .pure H₁ rfl
theorem t_all {op : BoolOp} {es : List Expr} {whole : Sem Value} {ct : Lo → Mn Bool} (h : SiB W A fs env vis (allTrue op es env) ct) : SiB W A fs env vis (isTrue (.BoolOp op es pos) env whole) ct := h

/-! ### slices -/
noncomputable def SiO (W : Wd) (A : Around) (fs : List Env) (env : Env) (vis : List (Option Str)) (o : Option Expr) (c : Lo → Mn V) : Prop := SiE W A fs env vis (valueOrNone (evalOpt o env)) c
theorem o_none : SiO W A fs env vis none (fun _ => ret .none) := fun _ _ _ _ Z => .pure Z.H .none
theorem o_some (ha : SiE W A fs env vis (eval a env) ca) : SiO W A fs env vis (some a) ca := ha
noncomputable def SlP (W : Wd) (h : Heap) (io : Io) (p : V × V × V) (u : Value) : Prop := ∃ sl ul uh us, u = .ref sl ∧ h.IsSliceOf sl ul uh us ∧ VR W h io p.1 ul ∧ VR W h io p.2.1 uh ∧ VR W h io p.2.2 us
theorem e_slice3 {lo hi st : Option Expr} {cl ch cs : Lo → Mn V} (hl : SiO W A fs env vis lo cl) (hh : SiO W A fs env vis hi ch) (hs : SiO W A fs env vis st cs) (Z : Sit W fs env vis s io m r) :
    Si W [] A fs (SlP W) (eval (.Slice lo hi st pos) env) s io m (bnd (cl r) (fun l => bnd (ch r) fun h => bnd (cs r) fun t => ret (l, h, t)) m) := by
  rw [arm_eval_Slice]
  refine Si.bind (hl _ _ _ r Z) fun ul s₁ io₁ m₁ vl _ st₁ H₁ k₁ _ => ?_
  have Z₁ := Z.step H₁ st₁
  refine Si.bind (Si.holding (hh _ _ _ r Z₁)) fun uh s₂ io₂ m₂ vh _ st₂ H₂ k₂ _ => ?_
  have Z₂ := Z₁.step H₂ st₂
  refine Si.bind (Si.holding (hs _ _ _ r Z₂)) fun us s₃ io₃ m₃ vs _ st₃ H₃ k₃ _ => ?_
  have st4 : Step [] (frs fs) s₃.heap io₃ m₃ (s₃.heap.push { cls := .type "slice", data := .fields #[ul, uh, us] }) io₃ m₃ := .of_keeps H₃ (push_keeps _)
  exact fun _ => wpAny_mono (Q := fun v s' => v = .ref s₃.heap.objs.size ∧ s' = { s₃ with heap := s₃.heap.push { cls := .type "slice", data := .fields #[ul, uh, us] } }) (fun _ _ _ => ⟨rfl, rfl⟩) (fun v s' q => by
    obtain ⟨rfl, rfl⟩ := q
    exact ⟨_, m₃, io₃, rfl, st4, H₃.of_keeps (push_keeps _), ⟨_, ul, uh, us, rfl, .new _ _ _ _, ((VR.step st₂ k₁).step st₃).step st4, (VR.step st₃ k₂).step st4, VR.step st4 k₃⟩, .refl _⟩) fun _ _ q => q
theorem e_slice {lo hi st : Option Expr} {cl ch cs : Lo → Mn V} {pos' : Pos} (ha : SiE W A fs env vis (eval a env) ca) (hl : SiO W A fs env vis lo cl) (hh : SiO W A fs env vis hi ch) (hs : SiO W A fs env vis st cs) :
    SiE W A fs env vis (eval (.Subscript a (.Slice lo hi st pos') pos) env) (fun r => bnd (ca r) fun x => bnd (cl r) fun l => bnd (ch r) fun h => bnd (cs r) fun t => sliceV x l h t) := by
  intro s io m r Z
  rw [arm_eval_Subscript]
  refine Si.bind (ha s io m r Z) fun u s₁ io₁ m₁ v _ st₁ H₁ k₁ _ => ?_
  have e : (bnd (cl r) fun l => bnd (ch r) fun h => bnd (cs r) fun t => sliceV v l h t) = bnd (bnd (cl r) fun l => bnd (ch r) fun h => bnd (cs r) fun t => ret (l, h, t)) fun p => sliceV v p.1 p.2.1 p.2.2 := by
    simp only [bnd_assoc]; rfl
  rw [e]
  refine Si.bind (Si.holding (e_slice3 hl hh hs (Z.step H₁ st₁))) fun u' s₂ io₂ m₂ p _ st₂ H₂ k₂ sm₂ => .standAt ?_
  refine hide fun GOAL hGOAL => ?_
  obtain ⟨sl, ul, uh, us, rfl, q1, q2, q3, q4⟩ := k₂
  refine hGOAL ?_
  clear hGOAL GOAL
  exact slice_sim H₂ (VR.step st₂ k₁) q2 q3 q4 q1
end
end Mini

/-! Names of the module, and calls. -/
namespace Mini
open PySem PySem.W

structure Gl (W : Wd) (K : Frag) : Prop where
  ok : WOk W
  X : K.In W.base
  top : ∃ mg mb, W.base.Ns mainGlobals mg ∧ W.base.Ns builtinsNs mb ∧ ∀ x : Str, x ≠ "__name__" → mb x = bootBuiltins x

section
variable {W : Wd} {K : Frag} {fs : List Env} {env : Env} {vis : List (Option Str)} {s s' : Shared} {io io' : Io} {m m' : MH} {r : Lo} {fr : List Addr} {A : Around} {n : Nat} {pos p : Pos}

theorem HR.get (H : HR W s.heap io m) (gl : Gl W K) {a : Addr} {o : Obj} (h : K.lookup a = some o) : s.heap.get? a = some o := H.keep _ _ (gl.X _ _ h)

theorem name_K {x : Str} {v : Value} {Q : Value → Shared → Prop} {E : Value → Shared → Prop} {M : Model} (gl : Gl W K) (Z : Sit W fs env vis s io m r) (e : nsIn K mainGlobals x = some (some v)) (hx : env.kindOf x = some .globalImplicit) (hd : (x == ("__debug__" : Str)) = false) (h : Q v s) : wpAny M A (eval (.Name x p) env) Q E s := by
  refine hide fun GOAL hGOAL => ?_
  obtain ⟨mg, mb, g, b, _⟩ := gl.top
  refine hGOAL ?_
  clear hGOAL GOAL
  refine Calls.Name_function_global Z.F.kind hx (Calls.loadGlobal_global (mg := mg) ?_ (mg_of gl.X g e) h) hd
  rw [Z.F.glob]; exact g.keeps Z.H.keep
theorem name_B {x : Str} {v : Value} {Q : Value → Shared → Prop} {E : Value → Shared → Prop} {M : Model} (gl : Gl W K) (Z : Sit W fs env vis s io m r) (e : nsIn K mainGlobals x = some none) (hv : bootBuiltins x = some v) (hn : (x == ("__name__" : Str)) = false) (hx : env.kindOf x = some .globalImplicit) (hd : (x == ("__debug__" : Str)) = false) (h : Q v s) : wpAny M A (eval (.Name x p) env) Q E s := by
  refine hide fun GOAL hGOAL => ?_
  obtain ⟨mg, mb, g, b, hb⟩ := gl.top
  refine hGOAL ?_
  clear hGOAL GOAL
  have hn' : x ≠ "__name__" := fun q => by rw [q] at hn; simp at hn
  refine Calls.Name_function_global Z.F.kind hx (Calls.loadGlobal_builtin (mg := mg) (mb := mb) ?_ (mg_none_of gl.X g e) ?_ (by rw [hb x hn', hv]) h) hd
  · rw [Z.F.glob]; exact g.keeps Z.H.keep
  · rw [Z.F.blt]; exact b.keeps Z.H.keep

/-- no starred ones -/
noncomputable def noStar : List Expr → Bool
  | [] => true
  | .Starred _ _ :: _ => false
  | _ :: r => noStar r
theorem star_cons {e : Expr} {rest : List Expr} (h : noStar (e :: rest) = true) : starEach (e :: rest) env = (false, eval e env) :: starEach rest env := by
  cases e <;> first | rfl | (exact absurd h Bool.false_ne_true)
theorem noStar_tail {e : Expr} {rest : List Expr} (h : noStar (e :: rest) = true) : noStar rest = true := by
  cases e <;> first | exact h | (exact absurd h Bool.false_ne_true)
theorem plain_of {es : List Expr} (h : noStar es = true) : (backTo pos (starEach es env)).any (·.1) = false := by
  induction es with
  | nil => rfl
  | cons e rest ih => rw [star_cons h]; exact ih (noStar_tail h)

theorem args_of {M : Model} {E : Value → Shared → Prop} {f : Value} {es : List Expr} {Q : Args → Shared → Prop} (hs : noStar es = true) (h : wpAny M A (spliced (backTo pos (starEach es env))) (fun vs s' => Q ⟨vs, []⟩ s') E s) :
    wpAny M A (evalArgs f true (backTo pos (starEach es env)) []) Q E s := by
  cases es with
  | nil =>
    unfold evalArgs
    show wpAny M A (spliced [] >>= _) Q E s
    refine wpAny_bind (wpAny_mono (show wpAny M A (spliced []) (fun vs s' => Q ⟨vs, []⟩ s') E s from h) (fun vs s' q => ?_) fun _ _ x => x)
    refine wpAny_bind (wpAny_pure ?_)
    refine wpAny_holding ?_
    exact wpAny_bind (wpAny_pure (wpAny_bind (wpAny_pure (wpAny_pure q))))
  | cons e rest =>
    rw [star_cons hs] at h ⊢
    exact Calls.evalArgs_plain h

variable {es : List Expr} {cl : Lo → Mn (List V)} {Fk : List V → Mn V}
/-- what a callee does -/
noncomputable def SiF (W : Wd) (A : Around) (fs : List Env) (f : Value) (Fk : List V → Mn V) : Prop :=
  ∀ (s : Shared) (io : Io) (m : MH) (vs : List V) (us : List Value), HR W s.heap io m → FF W s.heap io fs → VRs W s.heap io vs us → Si W [] A fs (VP W) (call f us) s io m (Fk vs m)

theorem e_callB {x : Str} {id : String} (gl : Gl W K) (e : nsIn K mainGlobals x = some none) (hv : bootBuiltins x = some (.builtin id)) (hn : (x == ("__name__" : Str)) = false) (hx : env.kindOf x = some .globalImplicit) (hd : (x == ("__debug__" : Str)) = false) (hs : noStar es = true)
    (hl : SiL W A fs env vis (spliced (backTo pos (starEach es env))) cl) (hf : SiF W A fs (.builtin id) Fk) : SiE W A fs env vis (eval (.Call (.Name x p) es [] pos) env) (fun r => bnd (cl r) fun vs => Fk vs) := by
  intro s io m r Z hne
  refine wpAny_Call_NameR (name_B gl Z e hv hn hx hd (Calls.callWith_builtin (plain_of hs) (args_of hs ?_)))
  refine wpAny_mono (hl s io m r Z (Res.bind_ne hne)) (fun us s' q => ?_) fun _ _ q => q.bind .refl (.refl _)
  refine hide fun GOAL hGOAL => ?_
  obtain ⟨vs, m', io', e', st, H, k, sm⟩ := q
  refine hGOAL ?_
  clear hGOAL GOAL
  have hne' : Fk vs m' ≠ .bad := fun q => hne (by show (cl r m).bind _ = _; rw [e']; exact q)
  have ee : bnd (cl r) (fun vs => Fk vs) m = Fk vs m' := by show (cl r m).bind _ = _; rw [e']; rfl
  show wpAny (model W.prog W.w) A (call (.builtin id) us) (NP W [] (frs fs) s io m (VP W) (bnd (cl r) (fun vs => Fk vs) m)) (XP W [] fs s io m (bnd (cl r) (fun vs => Fk vs) m)) s'
  rw [ee]
  exact wpAny_mono (hf _ _ _ _ _ H (Z.G.step0 st) k hne') (fun _ _ z => z.mono st sm) fun _ _ z => z.mono st sm
theorem e_callT {x : Str} {id : String} (gl : Gl W K) (e : nsIn K mainGlobals x = some none) (hv : bootBuiltins x = some (.type id)) (hn : (x == ("__name__" : Str)) = false) (hx : env.kindOf x = some .globalImplicit) (hd : (x == ("__debug__" : Str)) = false) (hs : noStar es = true)
    (hl : SiL W A fs env vis (spliced (backTo pos (starEach es env))) cl) (hf : SiF W A fs (.type id) Fk) : SiE W A fs env vis (eval (.Call (.Name x p) es [] pos) env) (fun r => bnd (cl r) fun vs => Fk vs) := by
  intro s io m r Z hne
  refine wpAny_Call_NameR (name_B gl Z e hv hn hx hd (callWith_type (plain_of hs) (args_of hs ?_)))
  refine wpAny_mono (hl s io m r Z (Res.bind_ne hne)) (fun us s' q => ?_) fun _ _ q => q.bind .refl (.refl _)
  refine hide fun GOAL hGOAL => ?_
  obtain ⟨vs, m', io', e', st, H, k, sm⟩ := q
  refine hGOAL ?_
  clear hGOAL GOAL
  have hne' : Fk vs m' ≠ .bad := fun q => hne (by show (cl r m).bind _ = _; rw [e']; exact q)
  have ee : bnd (cl r) (fun vs => Fk vs) m = Fk vs m' := by show (cl r m).bind _ = _; rw [e']; rfl
  show wpAny (model W.prog W.w) A (call (.type id) us) (NP W [] (frs fs) s io m (VP W) (bnd (cl r) (fun vs => Fk vs) m)) (XP W [] fs s io m (bnd (cl r) (fun vs => Fk vs) m)) s'
  rw [ee]
  exact wpAny_mono (hf _ _ _ _ _ H (Z.G.step0 st) k hne') (fun _ _ z => z.mono st sm) fun _ _ z => z.mono st sm
theorem e_callF {x : Str} {a : Addr} {o : Obj} {fd : FuncData} (gl : Gl W K) (e : nsIn K mainGlobals x = some (some (.ref a))) (ho : K.lookup a = some o) (hdata : o.data = .func fd) (hx : env.kindOf x = some .globalImplicit) (hd : (x == ("__debug__" : Str)) = false) (hs : noStar es = true)
    (hl : SiL W A fs env vis (spliced (backTo pos (starEach es env))) cl) (hf : SiF W A fs (.ref a) Fk) : SiE W A fs env vis (eval (.Call (.Name x p) es [] pos) env) (fun r => bnd (cl r) fun vs => Fk vs) := by
  intro s io m r Z hne
  refine wpAny_Call_NameR (name_K gl Z e hx hd (Calls.callWith_function (o := o) (fd := fd) (args_of hs ?_)))
  refine wpAny_mono (hl s io m r Z (Res.bind_ne hne)) (fun us s' q => ?_) fun _ _ q => q.bind .refl (.refl _)
  refine hide fun GOAL hGOAL => ?_
  obtain ⟨vs, m', io', e', st, H, k, sm⟩ := q
  refine hGOAL ?_
  clear hGOAL GOAL
  have hne' : Fk vs m' ≠ .bad := fun q => hne (by show (cl r m).bind _ = _; rw [e']; exact q)
  have ee : bnd (cl r) (fun vs => Fk vs) m = Fk vs m' := by show (cl r m).bind _ = _; rw [e']; rfl
  refine ⟨⟨H.get gl ho, hdata⟩, ?_⟩
  show wpAny (model W.prog W.w) A (call (.ref a) us) (NP W [] (frs fs) s io m (VP W) (bnd (cl r) (fun vs => Fk vs) m)) (XP W [] fs s io m (bnd (cl r) (fun vs => Fk vs) m)) s'
  rw [ee]
  exact wpAny_mono (hf _ _ _ _ _ H (Z.G.step0 st) k hne') (fun _ _ z => z.mono st sm) fun _ _ z => z.mono st sm
end
end Mini

/-! Statements. -/
namespace Mini
open PySem PySem.W

noncomputable def ownOf (env : Env) : List Addr := env.locals :: env.cells.filterMap fun q => env.cells.lookup q.1

structure Stt (W : Wd) (fs : List Env) (env : Env) (vis : List (Option Str)) (s : Shared) (io : Io) (m : MH) (r : Lo) : Prop where
  H : HR W s.heap io m
  F : FR W s.heap io env vis r
  G : FF W s.heap io fs
  fr : env.frame = some env.locals
  dis : ∀ L ∈ frs fs, L ∉ ownOf env

inductive FlR (W : Wd) (h : Heap) (io : Io) : Fl → Flow → Prop
  | next : FlR W h io .next .next
  | cont : FlR W h io .cont .cont
  | ret {v : V} {u : Value} : VR W h io v u → FlR W h io (.ret v) (.ret u)

noncomputable abbrev SP (W : Wd) (env : Env) (vis : List (Option Str)) : Heap → Io → Fl × Lo → Flow → Prop := fun h io p f => FlR W h io p.1 f ∧ FR W h io env vis p.2
noncomputable abbrev RP (W : Wd) (env : Env) (vis : List (Option Str)) : Heap → Io → Lo → Unit → Prop := fun h io r _ => FR W h io env vis r

section
variable {W : Wd} {fs : List Env} {env : Env} {vis : List (Option Str)} {s s' : Shared} {io io' : Io} {m m' : MH} {r r' : Lo} {fr own own' : List Addr} {A : Around} {n : Nat} {pos p : Pos}

theorem Step.wk {h h' : Heap} (x : Step own fr h io m h' io' m') (k : ∀ b ∈ own, b ∈ own') : Step own' fr h io m h' io' m' :=
  ⟨x.alive, x.solid, fun b o e f1 f2 => x.keep b o e f1 fun q => f2 (k b q), fun b o e f1 f2 => x.slots b o e f1 fun q => f2 (k b q), x.grow, x.dicts⟩
theorem Stt.sit (Z : Stt W fs env vis s io m r) : Sit W (env :: fs) env vis s io m r := by
  refine ⟨Z.H, Z.F, fun e he => ?_⟩
  rcases List.mem_cons.mp he with rfl | he
  · refine hide fun GOAL hGOAL => ?_
    obtain ⟨mp, ⟨o, es, ep, ho, hd, _⟩, _⟩ := Z.F.loc
    refine hGOAL ?_
    clear hGOAL GOAL
    exact ⟨by rw [Z.F.kind]; simp, e.locals, o, es, ep, Z.fr, Z.F.fresh, Z.F.nofoot, ho, hd⟩
  · exact Z.G e he
theorem Stt.step (Z : Stt W fs env vis s io m r) (H : HR W s'.heap io' m') (st : Step [] fr s.heap io m s'.heap io' m') : Stt W fs env vis s' io' m' r := ⟨H, Z.F.step0 Z.H st, Z.G.step0 st, Z.fr, Z.dis⟩
theorem Stt.stepO (Z : Stt W fs env vis s io m r) (H : HR W s'.heap io' m') (st : Step (ownOf env) fr s.heap io m s'.heap io' m') (F : FR W s'.heap io' env vis r') : Stt W fs env vis s' io' m' r' := ⟨H, F, Z.G.step st Z.dis, Z.fr, Z.dis⟩

theorem not_solid_dict {o : Obj} {es : Array DictEntry} {k : Nat} (h : o.data = .dict es k) : ¬ Solid o := by
  rintro (⟨_, _, _, e⟩ | ⟨_, _, _, e⟩) <;> rw [h] at e <;> cases e
theorem not_solid_cell {o : Obj} {v : Option Value} (h : o.data = .cell v) : ¬ Solid o := by
  rintro (⟨_, _, _, e⟩ | ⟨_, _, _, e⟩) <;> rw [h] at e <;> cases e

/-- a name takes a value -/
theorem store_sim (Z : Stt W fs env vis s io m r) {i : Nat} {x : Str} {v : V} {u : Value} (hv : vis[i]? = some (some x)) (hk : env.kindOf x = some .local ∨ env.kindOf x = some .cell) (k : VR W s.heap io v u) :
    Si W (ownOf env) A (env :: fs) (RP W env vis) (storeName env x u) s io m (.ok (r.set i (some v)) m) := by
  intro _
  have hi : i < vis.length := (List.getElem?_eq_some_iff.mp hv).1
  have F := Z.F
  -- the new row
  have row : ∀ (j : Nat) (y : Str) (w : V), vis[j]? = some (some y) → (r.set i (some v))[j]? = some (some w) → (y = x ∧ w = v) ∨ (y ≠ x ∧ r[j]? = some (some w)) := by
    intro j y w h1 h2
    by_cases q : i = j
    · subst q
      rw [List.getElem?_set_self (by rw [F.len]; exact hi)] at h2
      rw [hv] at h1
      cases h1; cases h2; exact .inl ⟨rfl, rfl⟩
    · rw [List.getElem?_set_ne q] at h2
      refine .inr ⟨fun e => q (F.inj i j x hv (e ▸ h1)), h2⟩
  rcases hk with hk | hk
  · refine hide fun GOAL hGOAL => ?_
    obtain ⟨mp, hn, hl⟩ := F.loc
    refine hGOAL ?_
    clear hGOAL GOAL
    refine hide fun GOAL hGOAL => ?_
    obtain ⟨oL, esL, epL, hoL, hdL, _⟩ := id hn
    refine hGOAL ?_
    clear hGOAL GOAL
    refine wpAny_storeName_local hk hn (fun h' hn' hs => ?_) (by rw [F.kind]; rfl)
    have kk : ∀ b o, b ≠ env.locals → s.heap.get? b = some o → h'.get? b = some o := fun b o q e => (hs.2 b q).trans e
    have lv : ∀ o, s.heap.get? env.locals = some o → ¬ Solid o ∧ ∃ o', h'.get? env.locals = some o' := fun o ho => by
      rw [hoL] at ho; cases ho
      refine hide fun GOAL hGOAL => ?_
      obtain ⟨o', _, _, ho', _⟩ := id hn'
      refine hGOAL ?_
      clear hGOAL GOAL
      exact ⟨not_solid_dict hdL, o', ho'⟩
    have st : Step (ownOf env) (frs (env :: fs)) s.heap io m h' io m := step_own Z.H (L := env.locals) (by simp [ownOf]) kk lv F.nofoot
    have H' : HR W h' io m := Z.H.ofOwn (own := ownOf env) (L := env.locals) (by simp [ownOf]) kk lv F.nofoot F.fresh
    refine ⟨_, m, io, rfl, st, H', ?_, rfl, rfl⟩
    refine ⟨F.kind, F.glob, F.blt, F.nofoot, F.fresh, ⟨_, hn', fun j y w h1 h2 h3 => ?_⟩, fun j y w h1 h2 h3 => ?_, fun y c hy => ?_, F.celex, F.apart, F.inj, by simp [F.len]⟩
    · rcases row j y w h1 h2 with ⟨rfl, rfl⟩ | ⟨q, h2⟩
      · exact ⟨u, by simp, k.step st⟩
      · refine hide fun GOAL hGOAL => ?_
        obtain ⟨u', e, k'⟩ := hl j y w h1 h2 h3
        refine hGOAL ?_
        clear hGOAL GOAL
        exact ⟨u', by simp [q, e], k'.step st⟩
    · rcases row j y w h1 h2 with ⟨rfl, rfl⟩ | ⟨q, h2⟩
      · rw [hk] at h3; simp at h3
      · refine hide fun GOAL hGOAL => ?_
        obtain ⟨c, u', e, k1, k2⟩ := F.cel j y w h1 h2 h3
        refine hGOAL ?_
        clear hGOAL GOAL
        refine ⟨c, u', e, ?_, k2.step st⟩
        refine hide fun GOAL hGOAL => ?_
        obtain ⟨oc, hoc, hdc⟩ := k1
        refine hGOAL ?_
        clear hGOAL GOAL
        exact ⟨oc, kk c oc (F.cells y c e).2.2 hoc, hdc⟩
    · refine hide fun GOAL hGOAL => ?_
      obtain ⟨⟨o, oc, hoc, hdc⟩, k2, k3⟩ := F.cells y c hy
      refine hGOAL ?_
      clear hGOAL GOAL
      exact ⟨⟨o, oc, kk c oc k3 hoc, hdc⟩, k2, k3⟩
  · obtain ⟨c, hc⟩ := F.celex i x hv (.inl hk)
    refine hide fun GOAL hGOAL => ?_
    obtain ⟨⟨o0, oc, hoc, hdc⟩, c2, c3⟩ := F.cells x c hc
    refine hGOAL ?_
    clear hGOAL GOAL
    have nf : ¬ Foot io c := Z.H.nofoot_of_cell hoc hdc
    refine wpAny_storeName_cell F.kind hk hc ⟨oc, hoc, hdc⟩ fun h' hn' hs => ?_
    have kk : ∀ b o, b ≠ c → s.heap.get? b = some o → h'.get? b = some o := fun b o q e => (hs.2 b q).trans e
    have lv : ∀ o, s.heap.get? c = some o → ¬ Solid o ∧ ∃ o', h'.get? c = some o' := fun o ho => by
      rw [hoc] at ho; cases ho
      refine hide fun GOAL hGOAL => ?_
      obtain ⟨o', ho', _⟩ := id hn'
      refine hGOAL ?_
      clear hGOAL GOAL
      exact ⟨not_solid_cell hdc, o', ho'⟩
    have hin : c ∈ ownOf env := by
      exact List.mem_cons_of_mem _ (List.mem_filterMap.mpr ⟨(x, c), mem_of_lookup hc, hc⟩)
    have st : Step (ownOf env) (frs (env :: fs)) s.heap io m h' io m := step_own Z.H (L := c) hin kk lv nf
    have H' : HR W h' io m := Z.H.ofOwn (own := ownOf env) (L := c) hin kk lv nf c2
    refine ⟨_, m, io, rfl, st, H', ?_, rfl, rfl⟩
    refine hide fun GOAL hGOAL => ?_
    obtain ⟨mp, hn, hl⟩ := F.loc
    refine hGOAL ?_
    clear hGOAL GOAL
    have other : ∀ y c', env.cells.lookup y = some c' → y ≠ x → c' ≠ c := fun y c' hy q e => q (F.apart y x c (e ▸ hy) hc)
    refine ⟨F.kind, F.glob, F.blt, F.nofoot, F.fresh, ⟨mp, ?_, fun j y w h1 h2 h3 => ?_⟩, fun j y w h1 h2 h3 => ?_, fun y c' hy => ?_, F.celex, F.apart, F.inj, by simp [F.len]⟩
    · exact hn.sameBut hs (Ne.symm c3)
    · rcases row j y w h1 h2 with ⟨rfl, rfl⟩ | ⟨q, h2⟩
      · rw [hk] at h3; simp at h3
      · refine hide fun GOAL hGOAL => ?_
        obtain ⟨u', e, k'⟩ := hl j y w h1 h2 h3
        refine hGOAL ?_
        clear hGOAL GOAL
        exact ⟨u', e, k'.step st⟩
    · rcases row j y w h1 h2 with ⟨rfl, rfl⟩ | ⟨q, h2⟩
      · exact ⟨c, u, hc, hn', k.step st⟩
      · refine hide fun GOAL hGOAL => ?_
        obtain ⟨c', u', e, k1, k2⟩ := F.cel j y w h1 h2 h3
        refine hGOAL ?_
        clear hGOAL GOAL
        refine ⟨c', u', e, ?_, k2.step st⟩
        refine hide fun GOAL hGOAL => ?_
        obtain ⟨oc', hoc', hdc'⟩ := k1
        refine hGOAL ?_
        clear hGOAL GOAL
        exact ⟨oc', kk c' oc' (other y c' e q) hoc', hdc'⟩
    · refine hide fun GOAL hGOAL => ?_
      obtain ⟨⟨o, oc', hoc', hdc'⟩, k2, k3⟩ := F.cells y c' hy
      refine hGOAL ?_
      clear hGOAL GOAL
      by_cases q : c' = c
      · subst q; exact ⟨⟨_, hn'⟩, k2, k3⟩
      · exact ⟨⟨o, oc', kk c' oc' q hoc', hdc'⟩, k2, k3⟩
end
end Mini

/-! What a loop goes over. -/
namespace Mini
open PySem PySem.W

section
variable {W : Wd} {h h' : Heap} {fs : List Env} {env : Env} {vis : List (Option Str)} {s s' : Shared} {io io' io₀ : Io} {m m' m₀ : MH} {r r' : Lo} {fr own own' : List Addr} {A : Around} {n : Nat} {pos p : Pos}

noncomputable def Sol (h h' : Heap) : Prop := ∀ b o, h.get? b = some o → Solid o → h'.get? b = some o
mutual
theorem VR.sol (x : Sol h h') : ∀ {v : V} {u : Value}, VR W h io v u → VR W h' io v u
  | _, _, .none => .none
  | _, _, .bool b => .bool b
  | _, _, .int i t => .int i t
  | _, _, .str s t k => .str s t k
  | _, _, .tup h1 h4 => .tup (x _ _ h1 (.inl ⟨rfl, _, _, rfl⟩)) (VRs.sol x h4)
  | _, _, .ref h1 => .ref h1
  | _, _, .scr h1 h2 h3 h4 h5 => .scr h1 h2 h3 h4 h5
theorem VRs.sol (x : Sol h h') : ∀ {v : List V} {u : List Value}, VRs W h io v u → VRs W h' io v u
  | _, _, .nil => .nil
  | _, _, .cons h1 h2 => .cons (VR.sol x h1) (VRs.sol x h2)
end
theorem ERs.sol (x : Sol h h') {kvs : List (Ky × V)} {es : List DictEntry} (e : ERs W h io kvs es) : ERs W h' io kvs es := by
  induction e with
  | nil => exact .nil
  | cons h1 h2 _ ih => exact .cons (h1.sol x) (h2.sol x) ih
theorem FEs.sol (x : Sol h h') {fs : List (Nat × V)} {es : List DictEntry} (e : FEs W h io fs es) : FEs W h' io fs es := by
  induction e with
  | nil => exact .nil
  | cons h1 h2 _ ih => exact .cons h1 (h2.sol x) ih
theorem OR.sol (x : Sol h h') {a d : Addr} {o : MObj} (k : OR W h io a d o) (ha : ∀ o, h.get? a = some o → h'.get? a = some o) (hd : ∀ o, h.get? d = some o → h'.get? d = some o) : OR W h' io a d o := by
  cases o with
  | list xs =>
    refine hide fun GOAL hGOAL => ?_
    obtain ⟨e, vs, n, h1, h4, h5⟩ := k
    refine hGOAL ?_
    clear hGOAL GOAL
    exact ⟨e, vs, n, ha _ h1, h4.sol x, h5⟩
  | dict kvs ep =>
    refine hide fun GOAL hGOAL => ?_
    obtain ⟨e, o, es, n, h1, h2, h3, h4, h5⟩ := k
    refine hGOAL ?_
    clear hGOAL GOAL
    exact ⟨e, o, es, n, ha _ h1, h2, h3, h4.sol x, h5⟩
  | inst c fs =>
    refine hide fun GOAL hGOAL => ?_
    obtain ⟨e, es, n, h1, h2, h3, h4⟩ := k
    refine hGOAL ?_
    clear hGOAL GOAL
    exact ⟨e, es, n, ha _ h1, hd _ h2, h3.sol x, h4⟩
theorem HR.sol (H : HR W h io m) (x : Sol h h') (hf : ∀ b o, Foot io b → h.get? b = some o → h'.get? b = some o) (hb : ∀ b o, W.base.get? b = some o → h'.get? b = some o) : HR W h' io m :=
  ⟨hb, H.len, fun n p o hi hm => (H.obj n p o hi hm).sol x (fun o => hf p.1 o ⟨p, List.mem_of_getElem? hi, .inl rfl⟩) fun o => hf p.2 o ⟨p, List.mem_of_getElem? hi, .inr rfl⟩, H.fresh, H.apart⟩

/-- objects that were not there at the start change -/
structure Side (W : Wd) (wr : List Addr) (h₀ h : Heap) (io : Io) (h' : Heap) : Prop where
  keep : ∀ b o, b ∉ wr → h.get? b = some o → h'.get? b = some o
  new : ∀ b ∈ wr, h₀.get? b = none
  foot : ∀ b ∈ wr, ¬ Foot io b
  soft : ∀ b ∈ wr, ∀ o, h.get? b = some o → ¬ Solid o
theorem Side.sol {wr : List Addr} {h₀ : Heap} (x : Side W wr h₀ h io h') : Sol h h' := fun b o e so => x.keep b o (fun q => x.soft b q o e so) e
theorem Side.step {wr : List Addr} {h₀ : Heap} (x : Side W wr h₀ h io h') (H : HR W h io m) (st : Step own fr h₀ io₀ m₀ h io m) : Step own fr h₀ io₀ m₀ h' io m := by
  have nw : ∀ b o, h₀.get? b = some o → b ∉ wr := fun b o e q => by rw [x.new b q] at e; cases e
  refine ⟨fun b o e => ?_, fun b o e so => ?_, fun b o e f1 f2 f3 => x.keep _ _ (nw b o e) (st.keep b o e f1 f2 f3), fun b o e f1 f2 => ?_, st.grow, fun n p kvs ep hi hm => ?_⟩
  · obtain ⟨o', e'⟩ := st.alive b o e
    exact ⟨o', x.keep _ _ (nw b o e) e'⟩
  · exact x.keep _ _ (nw b o e) (st.solid b o e so)
  · obtain ⟨sl, e'⟩ := st.slots b o e f1 f2
    exact ⟨sl, x.keep _ _ (nw b o e) e'⟩
  · refine hide fun GOAL hGOAL => ?_
    obtain ⟨k', e', q1, q2, q3⟩ := st.dicts n p kvs ep hi hm
    refine hGOAL ?_
    clear hGOAL GOAL
    refine ⟨k', e', q1, q2, fun q => ⟨?_, (q3 q).2⟩⟩
    have hi' := st.io_get hi
    obtain ⟨o, ho⟩ := H.there hi'
    rw [← (q3 q).1, ho]
    exact x.keep _ _ (fun w => x.foot _ w ⟨p, List.mem_of_getElem? hi', .inl rfl⟩) ho
theorem Side.hr {wr : List Addr} {h₀ : Heap} (x : Side W wr h₀ h io h') (H : HR W h io m) (hb : ∀ b o, W.base.get? b = some o → h₀.get? b = some o) : HR W h' io m :=
  H.sol x.sol (fun b o f e => x.keep b o (fun q => x.foot b q f) e) fun b o e => x.keep b o (fun q => by have := hb b o e; rw [x.new b q] at this; cases this) (H.keep b o e)

theorem lot_plain {target : Expr} {I : Addr} {o : Obj} {T : String} {ws : Array Value} {u : Value} {Q : Unit → Shared → Prop} {E : Value → Shared → Prop} {M : Model} (ho : s.heap.get? I = some o) (hc : o.cls = .type T) (hd : o.data = .fields ws)
    (hT : (["enumerate", "zip", "dict_itemiterator", "dict_reverseitemiterator", "odict_iterator", "itertools.zip_longest", "itertools.pairwise"].contains T) = false) (h : Q () s) : wpAny M A (letOwnedTupleGo target (.ref I) u) Q E s := by
  have key : ∀ a : Addr, wpAny M A (do
      let o ← load I
      match o.cls, o.data with
      | .type n, .fields vs =>
        if ["enumerate", "zip", "dict_itemiterator", "dict_reverseitemiterator", "odict_iterator", "itertools.zip_longest", "itertools.pairwise"].contains n && vs[0]? == some (rawInt a) then
          rule "for.unpacks-the-owned-tuple"
          updateField I 0 .none
      | _, _ => pure ()) Q E s := fun a => by
    refine wpAny_bind (wpAny_load ho ?_)
    rw [hc, hd]
    simp only [hT, Bool.false_and]
    exact wpAny_pure h
  unfold letOwnedTupleGo
  cases target <;> first | exact wpAny_pure h | skip
  all_goals
    cases u <;> first | exact wpAny_pure h | exact key _

/-- a thing that is gone over: the iterator, what it writes, the items -/
structure Wk (W : Wd) (A : Around) (I : Addr) (wr : List Addr) (g : Gd) (vs : List V) (St : Nat → Heap → Io → Prop) : Prop where
  soft : ∀ {i : Nat} {h : Heap} {io : Io}, St i h io → ∀ b ∈ wr, ¬ Foot io b ∧ ∀ o, h.get? b = some o → ¬ Solid o
  stay : ∀ {i : Nat} {h h' : Heap} {io io' : Io} {m m' : MH} {own fr : List Addr}, St i h io → HR W h io m → HR W h' io' m' → Step own fr h io m h' io' m' → (∀ b ∈ wr, b ∉ own ∧ b ∉ fr) → g.stays m = true → g.stays m' = true → St i h' io'
  item : ∀ {i : Nat} {s : Shared} {io : Io} {m : MH} {v : V} {Q : Option Value → Shared → Prop} {E : Value → Shared → Prop}, vs[i]? = some v → St i s.heap io → HR W s.heap io m → g.stays m = true →
    (∀ u h' tk, VR W s.heap io v u → St (i + 1) h' io → (∀ b o, b ∉ wr → s.heap.get? b = some o → h'.get? b = some o) → Q (some u) { s with heap := h', toks := tk }) → wpAny (model W.prog W.w) A (pyNext (.ref I)) Q E s
  alive : ∀ {i : Nat} {h : Heap} {io : Io}, St i h io → ∀ b ∈ wr, ∃ o, h.get? b = some o
  self : ∀ {i : Nat} {s : Shared} {io : Io} {Q : Value → Shared → Prop} {E : Value → Shared → Prop}, St i s.heap io → Q (.ref I) s → wpAny (model W.prog W.w) A (pyIter (.ref I)) Q E s
  lot : ∀ {i : Nat} {s : Shared} {io : Io} {target : Expr} {u : Value} {Q : Unit → Shared → Prop} {E : Value → Shared → Prop}, St i s.heap io → (∀ h', St i h' io → (∀ b o, b ∉ wr → s.heap.get? b = some o → h'.get? b = some o) → Q () { s with heap := h' }) → wpAny (model W.prog W.w) A (letOwnedTupleGo target (.ref I) u) Q E s
  done : ∀ {s : Shared} {io : Io} {m : MH} {Q : Option Value → Shared → Prop} {E : Value → Shared → Prop}, St vs.length s.heap io → HR W s.heap io m → g.stays m = true →
    (∀ h' tk, (∀ b o, b ∉ wr → s.heap.get? b = some o → h'.get? b = some o) → Q none { s with heap := h', toks := tk }) → wpAny (model W.prog W.w) A (pyNext (.ref I)) Q E s

theorem no_tf {C : Prop} (h : false = true) : C := by cases h
mutual
theorem same_eq : ∀ (x y : V), V.same x y = true → x = y
  | .none, y, h => by cases y <;> first | rfl | (exact no_tf h)
  | .bool a, y, h => by cases y <;> first | (exact no_tf h) | (exact congrArg V.bool (eq_of_beq h))
  | .int a, y, h => by cases y <;> first | (exact no_tf h) | (exact congrArg V.int (eq_of_beq h))
  | .str a, y, h => by cases y <;> first | (exact no_tf h) | (exact congrArg V.str (eq_of_beq h))
  | .tup xs, y, h => by cases y <;> first | (exact no_tf h) | (exact congrArg V.tup (sames_eq xs _ h))
  | .ref a, y, h => by cases y <;> first | (exact no_tf h) | (exact congrArg V.ref (eq_of_beq h))
  | .scr a, y, h => by cases y <;> first | (exact no_tf h) | (exact congrArg V.scr (eq_of_beq h))
theorem sames_eq : ∀ (xs ys : List V), V.sames xs ys = true → xs = ys
  | [], ys, h => by
    cases ys with
    | nil => rfl
    | cons _ _ => exact no_tf h
  | x :: xs, ys, h => by
    cases ys with
    | nil => exact no_tf h
    | cons y ys =>
      have h : (V.same x y && V.sames xs ys) = true := h
      rw [Bool.and_eq_true] at h
      rw [same_eq x y h.1, sames_eq xs ys h.2]
end

theorem fields_soft {o : Obj} {T : String} {vs : Array Value} (hc : o.cls = .type T) (hd : o.data = .fields vs) : ¬ Solid o := by
  rintro (⟨_, _, _, e⟩ | ⟨C, _, e, _⟩)
  · rw [hd] at e; cases e
  · rw [hc] at e; cases e

theorem Wk.list {I a d : Addr} {k : Nat} {xs : List V} (hh : A.handled = none) : Wk W A I [I] (.list k xs) xs (fun i h io => h.IsListIter I a i ∧ io[k]? = some (a, d) ∧ ¬ Foot io I) where
  soft := fun ⟨⟨o, ho, hc, hd⟩, _, nf⟩ b hb => by
    rw [List.mem_singleton.mp hb]
    exact ⟨nf, fun o' e => by rw [ho] at e; cases e; exact fields_soft hc hd⟩
  stay := fun ⟨⟨o, ho, hc, hd⟩, hi, nf⟩ H _ st hb _ _ => by
    have q := hb I (.head _)
    exact ⟨⟨o, st.keep _ _ ho nf q.1 q.2, hc, hd⟩, st.io_get hi, st.nofoot ho nf⟩
  item := fun {i s io m v Q E} hv ⟨hit, hi, nf⟩ H hg hQ => by
    simp only [Gd.stays] at hg
    split at hg
    · rename_i ys hm
      have e := sames_eq _ _ hg
      subst e
      refine hide fun GOAL hGOAL => ?_
      obtain ⟨_, us, c, h1, h2, h3⟩ := H.obj _ _ _ hi hm
      refine hGOAL ?_
      clear hGOAL GOAL
      refine hide fun GOAL hGOAL => ?_
      obtain ⟨u, hu, ku⟩ := h2.get hv
      refine hGOAL ?_
      clear hGOAL GOAL
      refine wpAny_pyNext_list_item hit ⟨_, h1, rfl, c, rfl⟩ (by simpa using hu) fun h' hit' hs => ?_
      exact hQ u h' s.toks ku ⟨hit', hi, nf⟩ fun b o hb e => (hs.2 b (by simpa using hb)).trans e
    · cases hg
  alive := fun ⟨⟨o, ho, _⟩, _⟩ b hb => by rw [List.mem_singleton.mp hb]; exact ⟨o, ho⟩
  self := fun st hQ => wpAny_pyIter_listiter st.1 hQ
  lot := fun {i s io target u Q E} st hQ => by
    refine hide fun GOAL hGOAL => ?_
    obtain ⟨⟨o, ho, hc, hd⟩, _⟩ := id st
    refine hGOAL ?_
    clear hGOAL GOAL
    exact lot_plain ho hc hd (by decide) (hQ _ st fun _ _ _ e => e)
  done := fun {s io m Q E} ⟨hit, hi, nf⟩ H hg hQ => by
    simp only [Gd.stays] at hg
    split at hg
    · rename_i ys hm
      have e := sames_eq _ _ hg
      subst e
      refine hide fun GOAL hGOAL => ?_
      obtain ⟨_, us, c, h1, h2, h3⟩ := H.obj _ _ _ hi hm
      refine hGOAL ?_
      clear hGOAL GOAL
      have hl := h2.length
      refine wpAny_pyNext_list_end hh hit ⟨_, h1, rfl, c, rfl⟩ (by simp at hl; simp [hl]) fun h' hs => ?_
      exact hQ h' s.toks fun b o hb e => hs b o (by simpa using hb) e
    · cases hg

/-- from the kit's walks over what stays -/
theorem Wk.of_walks {I : Addr} {fp : List Addr} {k : Nat} {P : Nat → Value → Prop} {St : Nat → Heap → Prop} {vs : List V} (hw : Walks W.prog W.w A I fp [I] k P St) (hk : k = vs.length)
    (hP : ∀ (i : Nat) (v : V) (u : Value) (h : Heap) (io : Io), vs[i]? = some v → P i u → VR W h io v u)
    (hI : ∀ i h, St i h → ∃ o T ws, h.get? I = some o ∧ o.cls = .type T ∧ o.data = .fields ws ∧ (["enumerate", "zip", "dict_itemiterator", "dict_reverseitemiterator", "odict_iterator", "itertools.zip_longest", "itertools.pairwise"].contains T) = false)
    (hfp : ∀ b ∈ fp, b = I ∨ ∃ o, W.base.get? b = some o) : Wk W A I [I] .none vs (fun i h io => St i h ∧ ¬ Foot io I) where
  soft := fun ⟨st, nf⟩ b hb => by
    rw [List.mem_singleton.mp hb]
    refine hide fun GOAL hGOAL => ?_
    obtain ⟨o, T, ws, ho, hc, hd, hT⟩ := hI _ _ st
    refine hGOAL ?_
    clear hGOAL GOAL
    exact ⟨nf, fun o' e => by rw [ho] at e; cases e; exact fields_soft hc hd⟩
  stay := fun {i h h' io io' m m' own fr} ⟨st, nf⟩ H H' x hb _ _ => by
    refine hide fun GOAL hGOAL => ?_
    obtain ⟨o, T, ws, ho, hc, hd, hT⟩ := hI _ _ st
    refine hGOAL ?_
    clear hGOAL GOAL
    have q := hb I (.head _)
    refine ⟨hw.frame i h h' st fun b hb o' e => ?_, x.nofoot ho nf⟩
    rcases hfp b hb with rfl | ⟨ob, k⟩
    · exact x.keep _ _ e nf q.1 q.2
    · rw [H.keep _ _ k] at e; cases e; exact H'.keep _ _ k
  item := fun {i s io m v Q E} hv ⟨st, nf⟩ H hg hQ => by
    have hi : i < k := by rw [hk]; exact (List.getElem?_eq_some_iff.mp hv).1
    exact hw.item i s Q E hi st fun u h' tk p st' kk => hQ u h' tk (hP i v u _ _ hv p) ⟨st', nf⟩ kk
  alive := fun ⟨st, _⟩ b hb => by
    refine hide fun GOAL hGOAL => ?_
    obtain ⟨o, _, _, ho, _⟩ := hI _ _ st
    refine hGOAL ?_
    clear hGOAL GOAL
    rw [List.mem_singleton.mp hb]; exact ⟨o, ho⟩
  self := fun {i s io Q E} st hQ => hw.self i s Q E st.1 hQ
  lot := fun {i s io target u Q E} st hQ => by
    refine hide fun GOAL hGOAL => ?_
    obtain ⟨o, T, ws, ho, hc, hd, hT⟩ := hI _ _ st.1
    refine hGOAL ?_
    clear hGOAL GOAL
    exact lot_plain ho hc hd hT (hQ _ st fun _ _ _ e => e)
  done := fun {s io m Q E} ⟨st, nf⟩ H hg hQ => hw.done s Q E (hk ▸ st) hQ

/-- a source: its iterator is made, and then gone over -/
noncomputable def SrcP (W : Wd) (A : Around) (fs : List Env) (own : List Addr) (s : Shared) (io : Io) (m : MH) (p : List V × Gd) (t : Sem Value) : Prop :=
  ∀ (Q : Value → Shared → Prop) (E : Value → Shared → Prop), (∀ I wr St h' tk, Wk W A I wr p.2 p.1 St → St 0 h' io → (∀ b o, s.heap.get? b = some o → h'.get? b = some o) → (∀ b ∈ wr, s.heap.get? b = none) → (p.2.stays m = true) → Q (.ref I) { s with heap := h', toks := tk }) → wpAny (model W.prog W.w) A t Q E s
theorem nofoot_size (H : HR W s.heap io m) : ¬ Foot io s.heap.objs.size := fun f => by
  refine hide fun GOAL hGOAL => ?_
  obtain ⟨o, e, _⟩ := H.foot f
  refine hGOAL ?_
  clear hGOAL GOAL
  rw [get_size] at e; cases e
theorem iter_sim (hh : A.handled = none) (H : HR W s.heap io m) {v : V} {u : Value} (k : VR W s.heap io v u) {p : List V × Gd} {m' : MH} (hp : itemsV v m = .ok p m') : m' = m ∧ SrcP W A fs own s io m p (pyIter u) := by
  cases k with
  | none => cases hp
  | bool b => cases hp
  | int i t => cases hp
  | tup => cases hp
  | str => cases hp
  | @ref n a d hi =>
    simp only [itemsV] at hp
    split at hp
    · rename_i xs hm
      cases hp
      refine hide fun GOAL hGOAL => ?_
      obtain ⟨_, us, c, h1, h2, h3⟩ := H.obj _ _ _ hi hm
      refine hGOAL ?_
      clear hGOAL GOAL
      refine ⟨rfl, fun Q E hQ => wpAny_pyIter_list ⟨_, h1, rfl, c, rfl⟩ ?_⟩
      refine hQ _ _ _ _ _ (Wk.list (a := a) (d := d) hh) ⟨⟨_, Heap.get?_push_size _ rfl, rfl, rfl⟩, hi, nofoot_size H⟩ (push_keeps _) (fun b hb => by rw [List.mem_singleton.mp hb]; exact get_size _) ?_
      simp only [Gd.stays, hm]; exact sames_self xs
    · cases hp
  | scr => cases hp
end
end Mini

/-! Statements: the rules. -/
namespace Mini
open PySem PySem.W

section
variable {W : Wd} {K : Frag} {h h' : Heap} {fs : List Env} {env : Env} {vis : List (Option Str)} {s s' : Shared} {io io' io₀ : Io} {m m' m₀ : MH} {r r' : Lo} {fr own own' : List Addr} {A : Around} {n : Nat} {pos p : Pos}

noncomputable def SiS (W : Wd) (A : Around) (fs : List Env) (env : Env) (vis : List (Option Str)) (t : Sem Flow) (c : Lo → Mn (Fl × Lo)) : Prop :=
  ∀ (s : Shared) (io : Io) (m : MH) (r : Lo), Stt W fs env vis s io m r → Si W (ownOf env) A (env :: fs) (SP W env vis) t s io m (c r m)

theorem x_nil : SiS W A fs env vis (execs [] env) (fun r => ret (.next, r)) := fun _ _ _ _ Z => .pure (u := Flow.next) Z.H ⟨.next, Z.F⟩
theorem x_cons {st : Stmt} {rest : List Stmt} {c1 c2 : Lo → Mn (Fl × Lo)} (h1 : SiS W A fs env vis (exec st env) c1) (h2 : SiS W A fs env vis (execs rest env) c2) :
    SiS W A fs env vis (execs (st :: rest) env) (fun r => bnd (c1 r) fun p => match p.1 with | .next => c2 p.2 | f => ret (f, p.2)) := by
  intro s io m r Z
  rw [execs_cons]
  refine Si.bind (h1 s io m r Z) fun f s₁ io₁ m₁ p _ st H₁ k sm => ?_
  obtain ⟨q, r₁⟩ := p
  obtain ⟨kf, kF⟩ := k
  cases kf with
  | next => exact h2 _ _ _ _ (Z.stepO H₁ st kF)
  | cont => exact .pure H₁ ⟨.cont, kF⟩
  | ret kv => exact .pure H₁ ⟨.ret kv, kF⟩

theorem Si.bindE {α β α' β' : Type} {P : Heap → Io → α → β → Prop} {P' : Heap → Io → α' → β' → Prop} {t : Sem β} {k : β → Sem β'} {R : Res α} {f : α → Mn α'} (x : Si W [] A fs P t s io m R)
    (y : ∀ u s₁ io₁ m₁ v, R = .ok v m₁ → Step [] (frs fs) s.heap io m s₁.heap io₁ m₁ → HR W s₁.heap io₁ m₁ → P s₁.heap io₁ v u → Same s s₁ → Si W own A fs P' (k u) s₁ io₁ m₁ (f v m₁)) :
    Si W own A fs P' (t >>= k) s io m (R.bind f) := by
  intro hne
  refine wpAny_bind (wpAny_mono (x (Res.bind_ne hne)) (fun u s₁ hp => ?_) fun e s₁ hp => ?_)
  · refine hide fun GOAL hGOAL => ?_
    obtain ⟨v, m₁, io₁, rfl, st, hr, hp, sm⟩ := hp
    refine hGOAL ?_
    clear hGOAL GOAL
    have st' := st.wk (own' := own) fun _ q => nomatch q
    exact wpAny_mono (y u s₁ io₁ m₁ v rfl st hr hp sm hne) (fun _ _ z => z.mono st' sm) fun _ _ z => z.mono st' sm
  · refine hide fun GOAL hGOAL => ?_
    obtain ⟨c, m', io', a, g, h1, h2, h3, h4, h5, h6⟩ := hp
    refine hGOAL ?_
    clear hGOAL GOAL
    exact XP.bind (R := R) ⟨c, m', io', a, g, h1, h2, h3.wk (fun _ q => nomatch q), h4, h5, h6⟩ .refl (.refl _)

theorem x_ret {e : Expr} {c : Lo → Mn V} (he : SiE W A (env :: fs) env vis (eval e env) c) : SiS W A fs env vis (exec (.Return (some e) pos) env) (fun r => bnd (c r) fun v => ret (.ret v, r)) := by
  intro s io m r Z
  rw [exec_Return_some]
  refine .standAt (Si.bindE (he s io m r Z.sit) fun u s₁ io₁ m₁ v _ st H₁ k sm => ?_)
  exact .pure H₁ ⟨.ret k, Z.F.step0 Z.H st⟩
theorem x_pass : SiS W A fs env vis (exec (.Pass pos) env) (fun r => ret (.next, r)) := fun _ _ _ _ Z => .standAt (.pure Z.H ⟨.next, Z.F⟩)
theorem x_cont : SiS W A fs env vis (exec (.Continue pos) env) (fun r => ret (.cont, r)) := fun _ _ _ _ Z => .standAt (.pure Z.H ⟨.cont, Z.F⟩)
theorem x_if {test : Expr} {body orelse : List Stmt} {ct : Lo → Mn Bool} {ca cb : Lo → Mn (Fl × Lo)} (ht : SiB W A (env :: fs) env vis (isTrue test env (eval test env)) ct) (ha : SiS W A fs env vis (execs body env) ca) (hb : SiS W A fs env vis (execs orelse env) cb) :
    SiS W A fs env vis (exec (.If test body orelse pos) env) (fun r => bnd (ct r) fun t => if t then ca r else cb r) := by
  intro s io m r Z
  rw [exec_If]
  refine .standAt (Si.bindE (ht s io m r Z.sit) fun u s₁ io₁ m₁ v _ st H₁ k sm => ?_)
  cases k
  cases u
  · exact hb _ _ _ r (Z.step H₁ st)
  · exact ha _ _ _ r (Z.step H₁ st)

theorem x_exp {e : Expr} {c : Lo → Mn V} (hs : swapsWith e none pos.line env = Pure.pure false) (he : SiE W A (env :: fs) env vis (eval e env) c) : SiS W A fs env vis (exec (.Expr e pos) env) (fun r => bnd (c r) fun _ => ret (.next, r)) := by
  intro s io m r Z
  rw [exec_Expr env e pos (by unfold interactive; rw [Z.F.kind]; rfl) hs]
  refine .standAt (Si.bindE (he s io m r Z.sit) fun u s₁ io₁ m₁ v _ st H₁ k sm => ?_)
  exact fun _ => wpAny_dropValue ⟨_, m₁, io₁, rfl, .refl, H₁, ⟨.next, Z.F.step0 Z.H st⟩, .refl _⟩

/-! ### assignments -/
noncomputable def SiA (W : Wd) (A : Around) (fs : List Env) (env : Env) (vis : List (Option Str)) (target : Expr) (c : V → Lo → Mn Lo) : Prop :=
  ∀ (s : Shared) (io : Io) (m : MH) (r : Lo) (v : V) (u : Value), Stt W fs env vis s io m r → VR W s.heap io v u → Si W (ownOf env) A (env :: fs) (RP W env vis) (assign target env u) s io m (c v r m)
theorem Si.bindName {x : Str} {u : Value} {α : Type} {P : Heap → Io → α → Unit → Prop} {R : Res α} (h : Si W own A fs P (storeName env x u) s io m R) : Si W own A fs P (PySem.bindName env x u) s io m R := fun hne => wpAny_bindName (h hne)
theorem a_name {i : Nat} {x : Str} (hv : vis[i]? = some (some x)) (hk : env.kindOf x = some .local ∨ env.kindOf x = some .cell) : SiA W A fs env vis (.Name x pos) (fun v r m => .ok (r.set i (some v)) m) :=
  fun _ _ _ _ _ _ Z k => .standAt (.bindName (store_sim Z hv hk k))

theorem x_asg {target value : Expr} {c : Lo → Mn V} {ca : V → Lo → Mn Lo} (he : SiE W A (env :: fs) env vis (eval value env) c) (ha : SiA W A fs env vis target ca) (hs : swapsWithSole [target] value pos.line env = Pure.pure false) (hw : swappedStores [target] value env = Pure.pure none) (hst : (assignEach [target] env).map (·.2) = [assign target env]) :
    SiS W A fs env vis (exec (.Assign [target] value pos) env) (fun r => bnd (c r) fun v => bnd (ca v r) fun r' => ret (.next, r')) := by
  intro s io m r Z hne
  refine wpAny_Assign_stores ?_ hs hw
  rw [hst]
  refine wpAny_mono (he s io m r Z.sit (Res.bind_ne hne)) (fun u s₁ q => ?_) fun e s₁ hp => ?_
  · refine hide fun GOAL hGOAL => ?_
    obtain ⟨v, m₁, io₁, e1, st, H₁, k, sm⟩ := q
    refine hGOAL ?_
    clear hGOAL GOAL
    have ee : bnd (c r) (fun v => bnd (ca v r) fun r' => ret ((Fl.next, r') : Fl × Lo)) m = (ca v r m₁).bind fun r' => ret ((Fl.next, r') : Fl × Lo) := by show (c r m).bind _ = _; rw [e1]; rfl
    dsimp only at hne ⊢
    rw [ee] at hne ⊢
    have st' := st.wk (own' := ownOf env) fun _ q => nomatch q
    refine wpAny_mono (ha s₁ io₁ m₁ r v u (Z.step H₁ st) k (Res.bind_ne hne)) (fun _ s₂ q => ?_) fun e s₂ q => (q.mono st' sm).bind .refl (.refl _)
    refine hide fun GOAL hGOAL => ?_
    obtain ⟨r₂, m₂, io₂, e2, st2, H2, k2, sm2⟩ := q
    refine hGOAL ?_
    clear hGOAL GOAL
    exact ⟨(.next, r₂), m₂, io₂, by rw [e2]; rfl, st'.trans st2, H2, ⟨.next, k2⟩, sm.trans sm2⟩
  · refine hide fun GOAL hGOAL => ?_
    obtain ⟨c', m', io', a, g, h1, h2, h3, h4, h5, h6⟩ := hp
    refine hGOAL ?_
    clear hGOAL GOAL
    exact XP.bind (R := c r m) ⟨c', m', io', a, g, h1, h2, h3.wk (fun _ q => nomatch q), h4, h5, h6⟩ .refl (.refl _)

/-! ### loops -/
noncomputable def ItP (W : Wd) (A : Around) (h₀ : Heap) : Heap → Io → List V × Gd → Value → Prop := fun h io p u => ∃ I wr St, u = .ref I ∧ Wk W A I wr p.2 p.1 St ∧ St 0 h io ∧ ∀ b ∈ wr, h₀.get? b = none
noncomputable def SiSrc (W : Wd) (A : Around) (fs : List Env) (env : Env) (vis : List (Option Str)) (iter : Expr) (c : Lo → Mn (List V × Gd)) : Prop :=
  ∀ (s : Shared) (io : Io) (m : MH) (r : Lo), Sit W fs env vis s io m r → c r m ≠ .bad → wpAny (model W.prog W.w) A (eval iter env) (fun x s₁ => wpAny (model W.prog W.w) A (pyIter x) (fun it s₂ => NP W [] (frs fs) s io m (ItP W A s.heap) (c r m) it s₂) (XP W [] fs s io m (c r m)) s₁) (XP W [] fs s io m (c r m)) s

theorem dead_before {h₀ : Heap} (st : Step own fr h₀ io₀ m₀ h io m) {b : Addr} (e : h.get? b = none) : h₀.get? b = none := by
  cases q : h₀.get? b with
  | none => rfl
  | some o => obtain ⟨o', e'⟩ := st.alive b o q; rw [e] at e'; cases e'

theorem src_expr {iter : Expr} {c : Lo → Mn V} (R : AR A fs n) (he : SiE W A fs env vis (eval iter env) c) : SiSrc W A fs env vis iter (fun r => bnd (c r) itemsV) := by
  intro s io m r Z hne
  refine wpAny_mono (he s io m r Z (Res.bind_ne hne)) (fun u s₁ q => ?_) fun e s₁ q => q.bind .refl (.refl _)
  refine hide fun GOAL hGOAL => ?_
  obtain ⟨v, m₁, io₁, e1, st, H₁, k, sm⟩ := q
  refine hGOAL ?_
  clear hGOAL GOAL
  have ee : bnd (c r) itemsV m = itemsV v m₁ := by show (c r m).bind _ = _; rw [e1]; rfl
  dsimp only at hne ⊢
  rw [ee] at hne ⊢
  cases hq : itemsV v m₁ with
  | bad => exact absurd hq hne
  | exc c' m' => unfold itemsV at hq; split at hq <;> first | cases hq | (split at hq <;> cases hq)
  | ok p m' =>
    obtain ⟨rfl, key⟩ := iter_sim (fs := fs) (own := []) R.handled H₁ k hq
    refine key _ _ fun I wr St h' tk hw h0 hk hn hg => ?_
    have st2 : Step [] (frs fs) s₁.heap io₁ m' h' io₁ m' := .of_keeps H₁ hk
    exact ⟨p, m', io₁, rfl, st.trans st2, H₁.of_keeps hk, ⟨I, wr, St, rfl, hw, h0, fun b hb => dead_before st (hn b hb)⟩, sm⟩

theorem FR.sideN {wr : List Addr} {h₀ : Heap} (F : FR W h io env vis r) (x : Side W wr h₀ h io h') (hL : env.locals ∉ wr) (hc : ∀ y c, env.cells.lookup y = some c → c ∉ wr) : FR W h' io env vis r := by
  refine hide fun GOAL hGOAL => ?_
  obtain ⟨mp, hn, hl⟩ := F.loc
  refine hGOAL ?_
  clear hGOAL GOAL
  have sc : ∀ y c v, env.cells.lookup y = some c → h.IsCell c v → h'.IsCell c v := fun y c v hy ⟨o, ho, hd⟩ => ⟨o, x.keep _ _ (hc y c hy) ho, hd⟩
  refine ⟨F.kind, F.glob, F.blt, F.nofoot, F.fresh, ⟨mp, ?_, fun i y v h1 h2 h3 => ?_⟩, fun i y v h1 h2 h3 => ?_, fun y c hy => ?_, F.celex, F.apart, F.inj, F.len⟩
  · refine hide fun GOAL hGOAL => ?_
    obtain ⟨o, es, ep, ho, hd, q⟩ := hn
    refine hGOAL ?_
    clear hGOAL GOAL
    exact ⟨o, es, ep, x.keep _ _ hL ho, hd, q⟩
  · refine hide fun GOAL hGOAL => ?_
    obtain ⟨u, e, k⟩ := hl i y v h1 h2 h3
    refine hGOAL ?_
    clear hGOAL GOAL
    exact ⟨u, e, k.sol x.sol⟩
  · refine hide fun GOAL hGOAL => ?_
    obtain ⟨c, u, e, k1, k2⟩ := F.cel i y v h1 h2 h3
    refine hGOAL ?_
    clear hGOAL GOAL
    exact ⟨c, u, e, sc y c _ e k1, k2.sol x.sol⟩
  · refine hide fun GOAL hGOAL => ?_
    obtain ⟨⟨o, k1⟩, k2, k3⟩ := F.cells y c hy
    refine hGOAL ?_
    clear hGOAL GOAL
    exact ⟨⟨o, sc y c _ hy k1⟩, k2, k3⟩
theorem FR.side {wr : List Addr} {h₀ : Heap} (F : FR W h io env vis r) (x : Side W wr h₀ h io h') (hL : ∃ o, h₀.get? env.locals = some o) (hc : ∀ y c, env.cells.lookup y = some c → ∃ o, h₀.get? c = some o) : FR W h' io env vis r := by
  have nw : ∀ b, (∃ o, h₀.get? b = some o) → b ∉ wr := fun b ⟨o, e⟩ q => by rw [x.new b q] at e; cases e
  refine hide fun GOAL hGOAL => ?_
  obtain ⟨mp, hn, hl⟩ := F.loc
  refine hGOAL ?_
  clear hGOAL GOAL
  have sc : ∀ y c v, env.cells.lookup y = some c → h.IsCell c v → h'.IsCell c v := fun y c v hy ⟨o, ho, hd⟩ => ⟨o, x.keep _ _ (nw c (hc y c hy)) ho, hd⟩
  refine ⟨F.kind, F.glob, F.blt, F.nofoot, F.fresh, ⟨mp, ?_, fun i y v h1 h2 h3 => ?_⟩, fun i y v h1 h2 h3 => ?_, fun y c hy => ?_, F.celex, F.apart, F.inj, F.len⟩
  · refine hide fun GOAL hGOAL => ?_
    obtain ⟨o, es, ep, ho, hd, q⟩ := hn
    refine hGOAL ?_
    clear hGOAL GOAL
    exact ⟨o, es, ep, x.keep _ _ (nw _ hL) ho, hd, q⟩
  · refine hide fun GOAL hGOAL => ?_
    obtain ⟨u, e, k⟩ := hl i y v h1 h2 h3
    refine hGOAL ?_
    clear hGOAL GOAL
    exact ⟨u, e, k.sol x.sol⟩
  · refine hide fun GOAL hGOAL => ?_
    obtain ⟨c, u, e, k1, k2⟩ := F.cel i y v h1 h2 h3
    refine hGOAL ?_
    clear hGOAL GOAL
    exact ⟨c, u, e, sc y c _ e k1, k2.sol x.sol⟩
  · refine hide fun GOAL hGOAL => ?_
    obtain ⟨⟨o, k1⟩, k2, k3⟩ := F.cells y c hy
    refine hGOAL ?_
    clear hGOAL GOAL
    exact ⟨⟨o, sc y c _ hy k1⟩, k2, k3⟩

theorem forD_stays {g : Gd} {step : V → Lo → Mn (Fl × Lo)} {vs : List V} (h : forD g step vs r m ≠ .bad) : g.stays m = true := by
  cases q : g.stays m with
  | true => rfl
  | false => exact absurd (by cases vs <;> simp [forD, q]) h

/-- between two turns of a for -/
inductive FInv (W : Wd) (fs : List Env) (env : Env) (vis : List (Option Str)) (s : Shared) (io : Io) (m : MH) (St : Nat → Heap → Io → Prop) (g : Gd) (f : V → Lo → Mn (Fl × Lo)) (vs : List V) (R : Res (Fl × Lo)) (k : Nat) (s' : Shared) : Prop
  | mk (i : Nat) (r' : Lo) (io' : Io) (m' : MH) : k = vs.length - i → i ≤ vs.length → Step (ownOf env) (frs (env :: fs)) s.heap io m s'.heap io' m' → HR W s'.heap io' m' → FR W s'.heap io' env vis r' → St i s'.heap io' → Same s s' → forD g f (vs.drop i) r' m' = R → FInv W fs env vis s io m St g f vs R k s'
theorem x_for {target iter : Expr} {body : List Stmt} {c : Lo → Mn (List V × Gd)} {ca : V → Lo → Mn Lo} {cb : Lo → Mn (Fl × Lo)} (hsrc : SiSrc W A (env :: fs) env vis iter c) (ha : SiA W A fs env vis target ca) (hb : SiS W A fs env vis (execs body env) cb) (hf : ∀ x, foldedSetIterable iter env x = Pure.pure x) :
    SiS W A fs env vis (exec (.For target iter body [] pos) env) (fun r => bnd (c r) fun p => forD p.2 (fun v r' => bnd (ca v r') fun r'' => cb r'') p.1 r) := by
  intro s io m r Z hne
  refine wpAny_For (wpAny_mono (hsrc s io m r Z.sit (Res.bind_ne hne)) (fun x s₁ q => wpAny_mono q (fun it s₂ q => ?_) fun e s₁ q => ?_) fun e s₁ q => ?_) hf
  rotate_left
  · refine hide fun GOAL hGOAL => ?_
    obtain ⟨c', m', io', a, g, h1, h2, h3, h4, h5, h6⟩ := q
    refine hGOAL ?_
    clear hGOAL GOAL
    exact XP.bind (R := c r m) ⟨c', m', io', a, g, h1, h2, h3.wk (fun _ q => nomatch q), h4, h5, h6⟩ .refl (.refl _)
  · refine hide fun GOAL hGOAL => ?_
    obtain ⟨c', m', io', a, g, h1, h2, h3, h4, h5, h6⟩ := q
    refine hGOAL ?_
    clear hGOAL GOAL
    exact XP.bind (R := c r m) ⟨c', m', io', a, g, h1, h2, h3.wk (fun _ q => nomatch q), h4, h5, h6⟩ .refl (.refl _)
  refine hide fun GOAL hGOAL => ?_
  obtain ⟨⟨vs, g⟩, m₂, io₂, e2, st₂, H₂, ⟨I, wr, St, rfl, hw, h0, hnew⟩, sm₂⟩ := q
  refine hGOAL ?_
  clear hGOAL GOAL
  have ee : bnd (c r) (fun p => forD p.2 (fun v r' => bnd (ca v r') fun r'' => cb r'') p.1 r) m = forD g (fun v r' => bnd (ca v r') fun r'' => cb r'') vs r m₂ := by show (c r m).bind _ = _; rw [e2]; rfl
  dsimp only at hne ⊢
  rw [ee] at hne ⊢
  have hL : ∃ o, s.heap.get? env.locals = some o := by obtain ⟨_, ⟨o, _, _, ho, _⟩, _⟩ := Z.F.loc; exact ⟨o, ho⟩
  have hC : ∀ y c, env.cells.lookup y = some c → ∃ o, s.heap.get? c = some o := fun y c hy => by obtain ⟨⟨_, o, ho, _⟩, _⟩ := Z.F.cells y c hy; exact ⟨o, ho⟩
  have hOwn : ∀ b ∈ ownOf env, ∃ o, s.heap.get? b = some o := fun b hb => by
    rcases List.mem_cons.mp hb with rfl | hb
    · exact hL
    · refine hide fun GOAL hGOAL => ?_
      obtain ⟨⟨y, c'⟩, hm, hq⟩ := List.mem_filterMap.mp hb
      refine hGOAL ?_
      clear hGOAL GOAL
      exact hC y b hq
  have hFr : ∀ b ∈ frs (env :: fs), ∃ o, s.heap.get? b = some o := fun b hb => by
    refine hide fun GOAL hGOAL => ?_
    obtain ⟨e, he, hf⟩ := List.mem_filterMap.mp hb
    refine hGOAL ?_
    clear hGOAL GOAL
    refine hide fun GOAL hGOAL => ?_
    obtain ⟨_, L, o, _, _, h1, _, _, h4, _⟩ := Z.sit.G e he
    refine hGOAL ?_
    clear hGOAL GOAL
    rw [h1] at hf; cases hf; exact ⟨o, h4⟩
  have hwr : ∀ b ∈ wr, b ∉ ownOf env ∧ b ∉ frs (env :: fs) := fun b hb => ⟨fun q => (by obtain ⟨o, e⟩ := hOwn b q; rw [hnew b hb] at e; cases e), fun q => (by obtain ⟨o, e⟩ := hFr b q; rw [hnew b hb] at e; cases e)⟩
  have hbase : ∀ b o, W.base.get? b = some o → s.heap.get? b = some o := Z.H.keep
  refine codeAny_forLoop_any (I := FInv W fs env vis s io m St g (fun v r' => bnd (ca v r') fun r'' => cb r'') vs (forD g (fun v r' => bnd (ca v r') fun r'' => cb r'') vs r m₂)) (fun k s' hI => ?_) vs.length ⟨0, r, io₂, m₂, by simp, Nat.zero_le _, st₂.wk (fun _ q => nomatch q), H₂, Z.F.step0 Z.H st₂, h0, sm₂, by simp⟩
  refine hide fun GOAL hGOAL => ?_
  obtain ⟨i, r', io', m', hk, hi, st, H, F, hst, sm, he⟩ := hI
  refine hGOAL ?_
  clear hGOAL GOAL
  have hne' : forD g (fun v r' => bnd (ca v r') fun r'' => cb r'') (vs.drop i) r' m' ≠ .bad := by rw [he]; exact hne
  have hg := forD_stays hne'
  have sft := hw.soft hst
  by_cases hlt : i < vs.length
  · have hv : vs[i]? = some vs[i] := List.getElem?_eq_getElem hlt
    have hd : vs.drop i = vs[i] :: vs.drop (i + 1) := List.drop_eq_getElem_cons hlt
    refine hw.item hv hst H hg fun u h₁ tk ku hst₁ kk => ?_
    have sd : Side W wr s.heap s'.heap io' h₁ := ⟨kk, hnew, fun b hb => (sft b hb).1, fun b hb => (sft b hb).2⟩
    refine hw.lot (s := { s' with heap := h₁, toks := tk }) hst₁ fun h₂ hst₂ kk₂ => ?_
    have sft₁ := hw.soft hst₁
    have H1 := sd.hr H hbase
    have st1 := sd.step H st
    have sd₂ : Side W wr s.heap h₁ io' h₂ := ⟨kk₂, hnew, fun b hb => (sft₁ b hb).1, fun b hb => (sft₁ b hb).2⟩
    have H2 := sd₂.hr H1 hbase
    have st2 := sd₂.step H1 st1
    have F2 := (F.side sd hL hC).side sd₂ hL hC
    have Z2 : Stt W fs env vis { s' with heap := h₂, toks := tk } io' m' r' := ⟨H2, F2, Z.G.step st2 Z.dis, Z.fr, Z.dis⟩
    have ku2 : VR W h₂ io' vs[i] u := (ku.sol sd.sol).sol sd₂.sol
    rw [hd] at he hne'
    simp only [forD, hg, if_true] at he hne'
    have hne1 : ca vs[i] r' m' ≠ .bad := fun q => hne' (by show ((ca vs[i] r' m').bind cb).nox.bind _ = _; rw [q]; rfl)
    refine wpAny_mono (ha _ io' m' r' vs[i] u Z2 ku2 hne1) (fun _ s₃ q => ?_) fun e s₃ q => ?_
    rotate_left
    · refine hide fun GOAL hGOAL => ?_
      obtain ⟨c', m'', io'', a, g', h1, _⟩ := q
      refine hGOAL ?_
      clear hGOAL GOAL
      exact absurd (by show ((ca vs[i] r' m').bind cb).nox.bind _ = _; rw [h1]; rfl) hne'
    refine hide fun GOAL hGOAL => ?_
    obtain ⟨r₃, m₃, io₃, e3, st3, H3, F3, sm3⟩ := q
    refine hGOAL ?_
    clear hGOAL GOAL
    have st3' := st2.trans st3
    have Z3 : Stt W fs env vis s₃ io₃ m₃ r₃ := ⟨H3, F3, Z.G.step st3' Z.dis, Z.fr, Z.dis⟩
    have e4 : bnd (ca vs[i] r') (fun r'' => cb r'') m' = cb r₃ m₃ := by show (ca vs[i] r' m').bind _ = _; rw [e3]; rfl
    rw [e4] at he hne'
    have hne2 : cb r₃ m₃ ≠ .bad := fun q => hne' (by rw [q]; rfl)
    refine wpAny_mono (hb s₃ io₃ m₃ r₃ Z3 hne2) (fun f s₄ q => ?_) fun e s₄ q => ?_
    rotate_left
    · refine hide fun GOAL hGOAL => ?_
      obtain ⟨c', m'', io'', a, g', h1, _⟩ := q
      refine hGOAL ?_
      clear hGOAL GOAL
      exact absurd (by rw [h1]; rfl) hne'
    refine hide fun GOAL hGOAL => ?_
    obtain ⟨⟨fl, r₄⟩, m₄, io₄, e5, st4, H4, ⟨kf, F4⟩, sm4⟩ := q
    refine hGOAL ?_
    clear hGOAL GOAL
    rw [e5] at he hne'
    have st4' := st3'.trans st4
    have go : forD g (fun v r' => bnd (ca v r') fun r'' => cb r'') (vs.drop (i + 1)) r₄ m₄ = forD g (fun v r' => bnd (ca v r') fun r'' => cb r'') vs r m₂ → ∃ k', k' < k ∧ FInv W fs env vis s io m St g (fun v r' => bnd (ca v r') fun r'' => cb r'') vs (forD g (fun v r' => bnd (ca v r') fun r'' => cb r'') vs r m₂) k' s₄ := fun q => by
      have hg4 : g.stays m₄ = true := forD_stays (by rw [q]; exact hne)
      exact ⟨vs.length - (i + 1), by omega, i + 1, r₄, io₄, m₄, rfl, hlt, st4', H4, F4, hw.stay hst₂ H2 H4 (st3.trans st4) hwr hg hg4, sm.trans (Same.trans ⟨rfl, rfl⟩ (sm3.trans sm4)), q⟩
    cases kf with
    | next => exact go he
    | cont => exact go he
    | ret kv => exact ⟨_, m₄, io₄, he.symm, st4', H4, ⟨.ret kv, F4⟩, sm.trans (Same.trans ⟨rfl, rfl⟩ (sm3.trans sm4))⟩
  · have hi' : i = vs.length := by omega
    subst hi'
    refine hw.done hst H hg fun h₁ tk kk => ?_
    have sd : Side W wr s.heap s'.heap io' h₁ := ⟨kk, hnew, fun b hb => (sft b hb).1, fun b hb => (sft b hb).2⟩
    rw [List.drop_length] at he
    simp only [forD, hg, if_true] at he
    exact wpAny_execs_nil ⟨_, m', io', he.symm, sd.step H st, sd.hr H hbase, ⟨.next, F.side sd hL hC⟩, sm.trans ⟨rfl, rfl⟩⟩
end
end Mini

/-! while, range, stores. -/
namespace Mini
open PySem PySem.W

section
variable {W : Wd} {K : Frag} {h h' : Heap} {fs : List Env} {env : Env} {vis : List (Option Str)} {s s' : Shared} {io io' io₀ : Io} {m m' m₀ : MH} {r r' : Lo} {fr own own' : List Addr} {A : Around} {n : Nat} {pos p : Pos}

/-- between two turns of a while -/
inductive WInv (W : Wd) (fs : List Env) (env : Env) (vis : List (Option Str)) (s : Shared) (io : Io) (m : MH) (ct : Lo → Mn Bool) (cb : Lo → Mn (Fl × Lo)) (R : Res (Fl × Lo)) (k : Nat) (s' : Shared) : Prop
  | mk (r' : Lo) (io' : Io) (m' : MH) : Step (ownOf env) (frs (env :: fs)) s.heap io m s'.heap io' m' → HR W s'.heap io' m' → FR W s'.heap io' env vis r' → Same s s' → whileD ct cb k r' m' = R → WInv W fs env vis s io m ct cb R k s'
theorem x_while {test : Expr} {body : List Stmt} {ct : Lo → Mn Bool} {cb : Lo → Mn (Fl × Lo)} {fuel : Nat} (ht : SiB W A (env :: fs) env vis (isTrue test env (eval test env)) ct) (hb : SiS W A fs env vis (execs body env) cb) :
    SiS W A fs env vis (exec (.While test body [] pos) env) (fun r => whileD ct cb fuel r) := by
  intro s io m r Z hne
  dsimp only at hne ⊢
  refine wpAny_While ?_
  refine codeAny_whileLoop (I := WInv W fs env vis s io m ct cb (whileD ct cb fuel r m)) (fun k s' hI => ?_) fuel ⟨r, io, m, .refl, Z.H, Z.F, .refl _, rfl⟩
  refine hide fun GOAL hGOAL => ?_
  obtain ⟨r', io', m', st, H, F, sm, he⟩ := hI
  refine hGOAL ?_
  clear hGOAL GOAL
  rw [← he] at hne
  cases k with
  | zero => exact absurd rfl hne
  | succ k =>
    simp only [whileD] at he hne
    have Z' : Stt W fs env vis s' io' m' r' := Z.stepO H st F
    have hne1 : ct r' m' ≠ .bad := fun q => hne (by show ((ct r' m').nox).bind _ = _; rw [q]; rfl)
    refine wpAny_mono (ht s' io' m' r' Z'.sit hne1) (fun b s₂ q => ?_) fun e s₂ q => ?_
    rotate_left
    · refine hide fun GOAL hGOAL => ?_
      obtain ⟨c', m'', io'', a, g', h1, _⟩ := q
      refine hGOAL ?_
      clear hGOAL GOAL
      exact absurd (by show ((ct r' m').nox).bind _ = _; rw [h1]; rfl) hne
    refine hide fun GOAL hGOAL => ?_
    obtain ⟨b', m₂, io₂, e2, st2, H2, rfl, sm2⟩ := q
    refine hGOAL ?_
    clear hGOAL GOAL
    have Z2 := Z'.step H2 st2
    have st2' := st.trans (st2.wk (own' := ownOf env) fun _ q => nomatch q)
    have e3 : ∀ f : Bool → Mn (Fl × Lo), bnd (fun m => (ct r' m).nox) f m' = f b' m₂ := fun f => by show ((ct r' m').nox).bind _ = _; rw [e2]; rfl
    rw [e3] at he hne
    cases b' with
    | false => exact wpAny_execs_nil ⟨(.next, r'), m₂, io₂, he.symm, st2', H2, ⟨.next, Z2.F⟩, sm.trans sm2⟩
    | true =>
      simp only [if_true] at he hne ⊢
      have hne2 : cb r' m₂ ≠ .bad := fun q => hne (by show ((cb r' m₂).nox).bind _ = _; rw [q]; rfl)
      refine wpAny_mono (hb s₂ io₂ m₂ r' Z2 hne2) (fun f s₄ q => ?_) fun e s₄ q => ?_
      rotate_left
      · refine hide fun GOAL hGOAL => ?_
        obtain ⟨c', m'', io'', a, g', h1, _⟩ := q
        refine hGOAL ?_
        clear hGOAL GOAL
        exact absurd (by show ((cb r' m₂).nox).bind _ = _; rw [h1]; rfl) hne
      refine hide fun GOAL hGOAL => ?_
      obtain ⟨⟨fl, r₄⟩, m₄, io₄, e5, st4, H4, ⟨kf, F4⟩, sm4⟩ := q
      refine hGOAL ?_
      clear hGOAL GOAL
      have e6 : ∀ f : Fl × Lo → Mn (Fl × Lo), bnd (fun m => (cb r' m).nox) f m₂ = f (fl, r₄) m₄ := fun f => by show ((cb r' m₂).nox).bind _ = _; rw [e5]; rfl
      rw [e6] at he hne
      have st4' := st2'.trans st4
      have sm4' := (sm.trans sm2).trans sm4
      cases kf with
      | next => exact ⟨k, Nat.lt_succ_self _, r₄, io₄, m₄, st4', H4, F4, sm4', he⟩
      | cont => exact ⟨k, Nat.lt_succ_self _, r₄, io₄, m₄, st4', H4, F4, sm4', he⟩
      | ret kv => exact ⟨_, m₄, io₄, he.symm, st4', H4, ⟨.ret kv, F4⟩, sm4'⟩

/-! ### range -/
theorem Wk.range {I : Addr} {a c : Int} {k : Nat} {vs : List V} (hh : A.handled = none) (hk : k = vs.length) (hv : ∀ (i : Nat) (v : V), vs[i]? = some v → v = .int (a + i * c)) : Wk W A I [I] .none vs (fun i h io => IsRangeIter h I (a + (i : Nat) * c) ((k : Int) - (i : Nat)) c ∧ ¬ Foot io I) :=
  Wk.of_walks (Walks.range hh I a c k) hk (fun i v u h io e ⟨t, q⟩ => by rw [hv i v e, q]; exact .int _ _) (fun i h ht => ⟨_, _, _, ht, rfl, rfl, by decide⟩) fun b hb => .inl (by simpa using hb)

theorem ranged_get {f : Nat → V} {k i : Nat} {v : V} (h : ((List.range k).map f)[i]? = some v) : v = f i := by
  rw [List.getElem?_map] at h
  cases q : (List.range k)[i]? with
  | none => rw [q] at h; cases h
  | some j =>
    rw [q] at h
    have hk : j = i := by
      obtain ⟨hlt, e⟩ := List.getElem?_eq_some_iff.mp q
      simp at e; omega
    cases h; rw [hk]
theorem range_size3 {a b c : Int} (hc : 0 < c) : Builtin.Range.rangeSize a b c = (((b - a + c - 1) / c).toNat : Int) := by
  unfold Builtin.Range.rangeSize
  simp only [show c > 0 from hc, if_true]
  have e : (b - a + c - 1) / c = (b - a - 1) / c + 1 := by
    have : b - a + c - 1 = (b - a - 1) + 1 * c := by omega
    rw [this, Int.add_mul_ediv_right _ _ (by omega)]
  split
  · have : 0 ≤ (b - a - 1) / c := Int.ediv_nonneg (by omega) (by omega)
    omega
  · rename_i hle
    have h2 : (b - a - 1) / c < 0 := Int.ediv_neg_of_neg_of_pos (by omega) hc
    omega
theorem range_small {a b c : Int} (ha : a.natAbs < 2 ^ 31) (hb : b.natAbs < 2 ^ 31) (hc : c.natAbs < 2 ^ 31) (h0 : 0 < c) : Builtin.Range.small a b c = true := by
  have hs : Builtin.Range.rangeSize a b c ≤ 2 ^ 33 ∧ 0 ≤ Builtin.Range.rangeSize a b c := by
    unfold Builtin.Range.rangeSize
    simp only [show c > 0 from h0, if_true]
    split
    · have h1 : 0 ≤ (b - a - 1) / c := Int.ediv_nonneg (by omega) (by omega)
      have h2 : (b - a - 1) / c ≤ b - a - 1 := Int.ediv_le_self _ (by omega)
      omega
    · omega
  unfold Builtin.Range.small
  simp only [Builtin.Range.rangeFitsLong, Bool.and_eq_true, Bool.or_eq_true, decide_eq_true_eq, beq_iff_eq, show c > 0 from h0, if_true]
  omega

/-- the range of a loop -/
theorem call_range_sim {vs : List V} {us : List Value} {l : List V} {m : MH} (H : HR W s.heap io m) (k : VRs W s.heap io vs us) (hr : rangeV vs = some l) {Q : Value → Shared → Prop} {E : Value → Shared → Prop}
    (hQ : ∀ (a b c : Int) (o : Obj) (tk : Nat) (t u v : Tok), a.natAbs < 2 ^ 31 → b.natAbs < 2 ^ 31 → c.natAbs < 2 ^ 31 → 0 < c → (l.length : Int) = Builtin.Range.rangeSize a b c → (∀ (i : Nat) (v : V), l[i]? = some v → v = .int (a + i * c)) → IsRange (s.heap.push o) s.heap.objs.size a b c t u v → Q (.ref s.heap.objs.size) { s with heap := s.heap.push o, toks := tk }) :
    wpAny (model W.prog W.w) A (call (.type "range") us) Q E s := by
  have e30 : (2 : Nat) ^ 30 < 2 ^ 31 := by decide
  unfold rangeV at hr
  split at hr
  · split at hr <;> cases hr
    rename_i hlt
    cases k with
    | cons k1 k2 =>
      cases k2
      cases k1
      refine call_range_1 (hQ 0 _ 1 _ _ _ _ _ (by decide) (Nat.lt_trans hlt e30) (by decide) (by decide) ?_ (fun i v e => ?_) (.new _ _ _ _ _ _ _))
      · rw [range_size3 (by decide)]; simp [rangeL]
      · rw [ranged_get e, Int.mul_one]
  · split at hr <;> cases hr
    rename_i hlt
    simp only [Bool.and_eq_true, decide_eq_true_eq] at hlt
    cases k with
    | cons k1 k2 =>
      cases k2 with
      | cons k2 k3 =>
        cases k3; cases k1; cases k2
        refine call_range_2 (hQ _ _ 1 _ _ _ _ _ (Nat.lt_trans hlt.1 e30) (Nat.lt_trans hlt.2 e30) (by decide) (by decide) ?_ (fun i v e => ?_) (.new _ _ _ _ _ _ _))
        · rw [range_size3 (by decide)]; simp [rangeL]
        · rw [ranged_get e, Int.mul_one]
  · cases hr

theorem src_range {x : Str} {es : List Expr} {cl : Lo → Mn (List V)} (R : AR A fs n) (gl : Gl W K) (e : nsIn K mainGlobals x = some none) (hv : bootBuiltins x = some (.type "range")) (hn : (x == ("__name__" : Str)) = false) (hx : env.kindOf x = some .globalImplicit) (hd : (x == ("__debug__" : Str)) = false) (hs : noStar es = true)
    (hl : SiL W A fs env vis (spliced (backTo pos (starEach es env))) cl) : SiSrc W A fs env vis (.Call (.Name x p) es [] pos) (fun r => bnd (cl r) fun vs => match rangeV vs with | some l => ret (l, .none) | none => bad) := by
  intro s io m r Z hne
  dsimp only at hne ⊢
  refine wpAny_Call_NameR (name_B gl Z e hv hn hx hd (callWith_type (plain_of hs) (args_of hs ?_)))
  refine wpAny_mono (hl s io m r Z (Res.bind_ne hne)) (fun us s₁ q => ?_) fun _ _ q => q.bind .refl (.refl _)
  refine hide fun GOAL hGOAL => ?_
  obtain ⟨vs, m₁, io₁, e1, st, H, k, sm⟩ := q
  refine hGOAL ?_
  clear hGOAL GOAL
  have ee : bnd (cl r) (fun vs => match rangeV vs with | some l => ret (l, Gd.none) | none => bad) m = (match rangeV vs with | some l => ret (l, Gd.none) | none => bad) m₁ := by show (cl r m).bind _ = _; rw [e1]; rfl
  rw [ee] at hne ⊢
  show wpAny (model W.prog W.w) A (call (.type "range") us) _ _ s₁
  have fin : ∀ (a b c : Int) (o : Obj) (tk : Nat) (t u v : Tok) (l : List V), a.natAbs < 2 ^ 31 → b.natAbs < 2 ^ 31 → c.natAbs < 2 ^ 31 → 0 < c → (l.length : Int) = Builtin.Range.rangeSize a b c → (∀ (i : Nat) (v : V), l[i]? = some v → v = .int (a + i * c)) → IsRange (s₁.heap.push o) s₁.heap.objs.size a b c t u v →
      wpAny (model W.prog W.w) A (pyIter (.ref s₁.heap.objs.size)) (fun it s₂ => NP W [] (frs fs) s io m (ItP W A s.heap) (.ok (l, Gd.none) m₁) it s₂) (XP W [] fs s io m (.ok (l, Gd.none) m₁ : Res (List V × Gd))) { s₁ with heap := s₁.heap.push o, toks := tk } := by
    intro a b c o tk t u v l ha hb hc h0 hsz hle hr
    have st1 : Step [] (frs fs) s₁.heap io₁ m₁ (s₁.heap.push o) io₁ m₁ := .of_keeps H (push_keeps _)
    have H1 : HR W (s₁.heap.push o) io₁ m₁ := H.of_keeps (push_keeps _)
    refine wpAny_pyIter_range hr (range_small ha hb hc h0) ?_
    have st2 : Step [] (frs fs) (s₁.heap.push o) io₁ m₁ _ io₁ m₁ := .of_keeps H1 (push_keeps { cls := .type "range_iterator", data := .fields #[rawInt a, rawInt (Builtin.Range.rangeSize a b c), rawInt c] })
    refine ⟨(l, .none), m₁, io₁, rfl, (st.trans st1).trans st2, H1.of_keeps (push_keeps _), ⟨_, _, _, rfl, Wk.range (a := a) (c := c) (k := l.length) R.handled rfl hle, ⟨?_, ?_⟩, fun b hb => ?_⟩, sm⟩
    · have := Heap.get?_push_size (h := s₁.heap.push o) (o := { cls := .type "range_iterator", data := .fields #[rawInt a, rawInt (Builtin.Range.rangeSize a b c), rawInt c] }) rfl
      rw [← hsz] at this ⊢
      simpa [IsRangeIter] using this
    · exact nofoot_size (s := { s₁ with heap := s₁.heap.push o }) H1
    · rw [List.mem_singleton.mp hb]
      exact dead_before (st.trans st1) (get_size _)
  cases hr : rangeV vs with
  | none => rw [hr] at hne; exact absurd rfl hne
  | some l => exact call_range_sim H k hr fun a b c o tk t u v ha hb hc h0 hsz hle hr => fin a b c o tk t u v l ha hb hc h0 hsz hle hr
end
end Mini

/-! The calls of functions. -/
namespace Mini
open PySem PySem.W

theorem zip_lookup_none {names : List Str} {us : List Value} (h : us.length = names.length) : ∀ n ∈ names, ((names.zip us).lookup n).isNone = false := by
  induction names generalizing us with
  | nil => intro n hn; cases hn
  | cons a as ih =>
    cases us with
    | nil => cases h
    | cons u us =>
      intro n hn
      simp only [List.zip_cons_cons, List.lookup_cons]
      cases q : n == a with
      | true => rfl
      | false =>
        rcases List.mem_cons.mp hn with rfl | hn
        · simp at q
        · exact ih (by simpa using h) n hn

theorem filterMap_zip {names : List Str} {us : List Value} (h : us.length = names.length) (hd : names.Nodup) : (names.filterMap fun n => ((names.zip us).lookup n).map (n, ·)) = names.zip us := by
  have key : ∀ (ns : List Str) (vs : List Value) (g : Str → Option Value), vs.length = ns.length → ns.Nodup → (∀ n v, (n, v) ∈ ns.zip vs → g n = some v) → (ns.filterMap fun n => (g n).map (n, ·)) = ns.zip vs := by
    intro ns
    induction ns with
    | nil => intro vs g _ _ _; simp
    | cons a as ih =>
      intro vs g hl hn hg
      cases vs with
      | nil => cases hl
      | cons u us =>
        have h1 := hg a u (by simp)
        rw [List.filterMap_cons]
        simp only [h1, Option.map_some, List.zip_cons_cons]
        rw [ih us g (by simpa using hl) (List.nodup_cons.mp hn).2 fun n v e => hg n v (by simp [e])]
  refine key names us _ h hd fun n v e => ?_
  clear key
  induction names generalizing us with
  | nil => simp at e
  | cons a as ih =>
    cases us with
    | nil => simp at e
    | cons u us =>
      simp only [List.zip_cons_cons, List.mem_cons, Prod.mk.injEq] at e
      simp only [List.zip_cons_cons, List.lookup_cons]
      rcases e with ⟨rfl, rfl⟩ | e
      · simp
      · have : n ≠ a := fun q => (List.nodup_cons.mp hd).1 (q ▸ (List.of_mem_zip e).1)
        have : (n == a) = false := by simpa using this
        rw [this]
        exact ih (by simpa using h) (List.nodup_cons.mp hd).2 e

theorem bindArgs_plain {fd : FuncData} {us : List Value} (hp : fd.params.posonlyargs = []) (hk : fd.params.kwonlyargs = []) (hv : fd.params.vararg = none) (hw : fd.params.kwarg = none) (hd : fd.defaults = .none) (hn : (fd.params.args.map (·.arg)).Nodup) (hl : us.length = fd.params.args.length) :
    bindArgs fd ⟨us, []⟩ = Pure.pure ((fd.params.args.map (·.arg)).zip us) := by
  cases fd with | mk name qualname params body scope globals closure defaults kwd doc pym ann code ct =>
  cases params with | mk posonly args vararg kwonly kwdf kwarg dflt =>
  have hp : posonly = [] := hp
  have hk : kwonly = [] := hk
  have hv : vararg = none := hv
  have hw : kwarg = none := hw
  have hd : defaults = .none := hd
  subst hp hk hv hw hd
  have hn : (args.map (·.arg)).Nodup := hn
  have hl : us.length = args.length := hl
  have hm : ∀ k, ((List.take k (args.map (·.arg))).filter fun n => (((args.map (·.arg)).zip us).lookup n).isNone) = [] := by
    intro k
    rw [List.filter_eq_nil_iff]
    intro n hn' q
    rw [zip_lookup_none (by simpa using hl) n (List.mem_of_mem_take hn')] at q
    cases q
  have hz := filterMap_zip (names := args.map (·.arg)) (us := us) (by simpa using hl) hn
  rw [List.filterMap_map] at hz
  have e1 : seqItems? Value.none = Pure.pure none := rfl
  unfold bindArgs
  simp [hl, e1, hm]
  exact congrArg Pure.pure hz
section
variable {W : Wd} {K : Frag} {h h' h₀ : Heap} {fs : List Env} {env : Env} {vis : List (Option Str)} {s s' : Shared} {io io' io₀ : Io} {m m' m₀ : MH} {r r' : Lo} {fr fr' own own' : List Addr} {A : Around} {n : Nat} {pos p : Pos}

/-- what is new counts for nothing -/
theorem Step.shrink (H : HR W h₀ io m) (x : Step own fr h io m h' io' m') (k : ∀ b o, h₀.get? b = some o → h.get? b = some o) (ho : ∀ b ∈ own, h₀.get? b = none ∨ b ∈ own') (hf : ∀ b ∈ fr, h₀.get? b = none ∨ b ∈ fr') : Step own' fr' h₀ io m h' io' m' := by
  have oo : ∀ b o, h₀.get? b = some o → b ∉ own' → b ∉ own := fun b o e q w => by
    rcases ho b w with z | z
    · rw [z] at e; cases e
    · exact q z
  have ff : ∀ b o, h₀.get? b = some o → b ∉ fr' → b ∉ fr := fun b o e q w => by
    rcases hf b w with z | z
    · rw [z] at e; cases e
    · exact q z
  refine ⟨fun b o e => x.alive b o (k b o e), fun b o e so => x.solid b o (k b o e) so, fun b o e f1 f2 f3 => x.keep b o (k b o e) f1 (oo b o e f2) (ff b o e f3), fun b o e f1 f2 => x.slots b o (k b o e) f1 (oo b o e f2), ?_, ?_⟩
  · refine hide fun GOAL hGOAL => ?_
    obtain ⟨new, e, hn⟩ := x.grow
    refine hGOAL ?_
    clear hGOAL GOAL
    have back : ∀ b, h.get? b = none → h₀.get? b = none := fun b e => by
      cases q : h₀.get? b with
      | none => rfl
      | some o => rw [k b o q] at e; cases e
    exact ⟨new, e, fun p hp => ⟨back _ (hn p hp).1, back _ (hn p hp).2⟩⟩
  · intro i p kvs e hi hm
    refine hide fun GOAL hGOAL => ?_
    obtain ⟨k', e', q1, q2, q3⟩ := x.dicts i p kvs e hi hm
    refine hGOAL ?_
    clear hGOAL GOAL
    refine ⟨k', e', q1, q2, fun q => ⟨?_, (q3 q).2⟩⟩
    obtain ⟨o, ho⟩ := H.there hi
    rw [(q3 q).1, ho, k _ _ ho]

theorem bindL_other {kind : Str → Option NameKind} {y : Str} : ∀ (binds : List (Str × Value)) (mp : Str → Option Value), y ∉ binds.map (·.1) → bindL kind binds mp y = mp y
  | [], _, _ => rfl
  | (n, v) :: r, mp, h => by
    simp only [List.map_cons, List.mem_cons, not_or] at h
    simp only [bindL]
    rw [bindL_other r _ h.2]
    split
    · simp [h.1]
    · rfl
theorem bindC_other {kind : Str → Option NameKind} {y : Str} : ∀ (binds : List (Str × Value)) (mp : Str → Option Value), y ∉ binds.map (·.1) → bindC kind binds mp y = mp y
  | [], _, _ => rfl
  | (n, v) :: r, mp, h => by
    simp only [List.map_cons, List.mem_cons, not_or] at h
    simp only [bindC]
    rw [bindC_other r _ h.2]
    split
    · rfl
    · simp [h.1]
theorem bindL_get {kind : Str → Option NameKind} {y : Str} {u : Value} (hk : kind y = some .local) : ∀ (binds : List (Str × Value)) (mp : Str → Option Value), (binds.map (·.1)).Nodup → (y, u) ∈ binds → bindL kind binds mp y = some u
  | [], _, _, h => nomatch h
  | (n, v) :: r, mp, hn, h => by
    simp only [List.map_cons, List.nodup_cons] at hn
    simp only [bindL]
    rcases List.mem_cons.mp h with e | h
    · cases e
      rw [bindL_other r _ hn.1]; simp [hk]
    · exact bindL_get hk r _ hn.2 h
theorem bindC_get {kind : Str → Option NameKind} {y : Str} {u : Value} (hk : kind y = some .cell) : ∀ (binds : List (Str × Value)) (mp : Str → Option Value), (binds.map (·.1)).Nodup → (y, u) ∈ binds → bindC kind binds mp y = some u
  | [], _, _, h => nomatch h
  | (n, v) :: r, mp, hn, h => by
    simp only [List.map_cons, List.nodup_cons] at hn
    simp only [bindC]
    rcases List.mem_cons.mp h with e | h
    · cases e
      rw [bindC_other r _ hn.1]; simp [hk]
    · exact bindC_get hk r _ hn.2 h

theorem frame_start {kindOf : Str → Option NameKind} {names : List Str} {np : Nat} {vs : List V} {us : List Value} {i : Nat} {x : Str} {v : V} (hl : vs.length = np) (hu : VRs W h io vs us) (hv : (names.map some)[i]? = some (some x)) (hr : (vs.map some ++ List.replicate (names.length - np) (none : Option V))[i]? = some (some v)) :
    ∃ u, (x, u) ∈ (names.take np).zip us ∧ VR W h io v u := by
  have hi : i < vs.length := by
    rcases Nat.lt_or_ge i vs.length with q | q
    · exact q
    · rw [List.getElem?_append_right (by simpa using q)] at hr
      have := List.mem_of_getElem? hr
      simp at this
  rw [List.getElem?_append_left (by simpa using hi), List.getElem?_map] at hr
  cases q : vs[i]? with
  | none => rw [q] at hr; cases hr
  | some v' =>
    rw [q] at hr; cases hr
    refine hide fun GOAL hGOAL => ?_
    obtain ⟨u, hu', ku⟩ := hu.get q
    refine hGOAL ?_
    clear hGOAL GOAL
    refine ⟨u, ?_, ku⟩
    rw [List.getElem?_map] at hv
    have hx : names[i]? = some x := by
      cases w : names[i]? with
      | none => rw [w] at hv; cases hv
      | some y => rw [w] at hv; cases hv; rfl
    have : ((names.take np).zip us)[i]? = some (x, u) := by
      rw [List.getElem?_zip_eq_some]
      exact ⟨by rw [List.getElem?_take_of_lt (by omega)]; exact hx, hu'⟩
    exact List.mem_of_getElem? this

/-- a function's frame, as it is entered -/
theorem enter_sim {scope : Scope} {names : List Str} {np : Nat} {vs : List V} {us : List Value} {binds : List (Str × Value)} {qual : Str} {func : Option Addr} {code : Value} (H : HR W s.heap io m) (G : FF W s.heap io fs) (hl : vs.length = np) (hnp : np ≤ names.length) (hu : VRs W s.heap io vs us)
    (hk : scope.kind = .function) (hn : names.Nodup) (hkind : ∀ x ∈ names, scope.names.lookup x = some .local ∨ scope.names.lookup x = some .cell) (hb : binds = (names.take np).zip us)
    (he : env = newEnv scope s.heap.objs.size mainGlobals (cellsFrom (s.heap.objs.size + 1) scope.names []) qual func code none builtinsNs) (hI : InCallC s env.locals (bindL env.kindOf binds fun _ => none) env.cells (bindC env.kindOf binds fun _ => none) s') :
    Stt W fs env (names.map some) s' io m (vs.map some ++ List.replicate (names.length - np) none) ∧ (∀ b ∈ ownOf env, s.heap.get? b = none) := by
  have hloc : env.locals = s.heap.objs.size := by rw [he]; rfl
  have hkd : ∀ x, env.kindOf x = scope.names.lookup x := fun x => by rw [he]; rfl
  have keep := hI.toInCall.keep
  have hsz : us.length = np := by rw [hu.length, hl]
  have bn : binds.map (·.1) = names.take np := by
    rw [hb, List.map_fst_zip (by rw [hsz]; simp; omega)]
  have bnd' : (binds.map (·.1)).Nodup := by rw [bn]; exact hn.sublist (List.take_sublist _ _)
  have up : ∀ b, s.heap.objs.size ≤ b → s.heap.get? b = none := fun b hb => by
    cases q : s.heap.get? b with
    | none => rfl
    | some o => exact absurd (Heap.lt_size q) (Nat.not_lt.mpr hb)
  have celUp : ∀ q ∈ env.cells, s.heap.get? q.2 = none := fun q hq => up _ (by have := hI.above q.1 q.2 hq; rw [hloc] at this; exact Nat.le_of_lt this)
  have basN : ∀ b, s.heap.get? b = none → W.base.get? b = none := fun b e => by
    cases q : W.base.get? b with
    | none => rfl
    | some o => rw [H.keep _ _ q] at e; cases e
  have nfN : ∀ b, s.heap.get? b = none → ¬ Foot io b := fun b e f => by
    refine hide fun GOAL hGOAL => ?_
    obtain ⟨o, ho, _⟩ := H.foot f
    refine hGOAL ?_
    clear hGOAL GOAL
    rw [e] at ho; cases ho
  have st : Step [] [] s.heap io m s'.heap io m := .of_keeps H keep
  have own0 : ∀ b ∈ ownOf env, s.heap.get? b = none := fun b hb => by
    rcases List.mem_cons.mp hb with rfl | hb
    · exact up _ (by rw [hloc]; exact Nat.le_refl _)
    · refine hide fun GOAL hGOAL => ?_
      obtain ⟨q, hq, e⟩ := List.mem_filterMap.mp hb
      refine hGOAL ?_
      clear hGOAL GOAL
      exact celUp _ (mem_of_lookup e)
  have cex : ∀ x, scope.names.lookup x = some .cell → ∃ c, env.cells.lookup x = some c := fun x hx => by
    have := cellsFrom_some scope.names (s.heap.objs.size + 1) [] (x := x) (.inl hx)
    have e : env.cells = cellsFrom (s.heap.objs.size + 1) scope.names [] := by rw [he]; rfl
    rw [e]
    exact Option.isSome_iff_exists.mp this
  have memNames : ∀ (i : Nat) (x : Str), (names.map some)[i]? = some (some x) → names[i]? = some x := fun i x hv => by
    rw [List.getElem?_map] at hv
    cases w : names[i]? with
    | none => rw [w] at hv; cases hv
    | some y => rw [w] at hv; cases hv; rfl
  have nofree : ∀ (i : Nat) (x : Str), (names.map some)[i]? = some (some x) → env.kindOf x ≠ some .free := fun i x hv q => by
    rw [hkd] at q
    rcases hkind x (List.mem_of_getElem? (memNames i x hv)) with e | e <;> rw [q] at e <;> cases e
  refine ⟨⟨H.of_keeps keep, ⟨?_, ?_, ?_, ?_, ?_, ⟨_, hI.toInCall.ns, fun i x v h1 h2 h3 => ?_⟩, fun i x v h1 h2 h3 => ?_, fun x c hc => ?_, fun i x h1 h2 => ?_, fun x y c h1 h2 => ?_, fun i j x h1 h2 => ?_, ?_⟩, G.step0 st, ?_, fun L hL q => ?_⟩, own0⟩
  · rw [he]; exact hk
  · rw [he]; rfl
  · rw [he]; rfl
  · exact nfN _ (own0 _ (.head _))
  · exact basN _ (own0 _ (.head _))
  · refine hide fun GOAL hGOAL => ?_
    obtain ⟨u, hm, ku⟩ := frame_start (kindOf := env.kindOf) hl hu h1 h2
    refine hGOAL ?_
    clear hGOAL GOAL
    exact ⟨u, bindL_get h3 binds _ bnd' (hb ▸ hm), ku.step st⟩
  · rcases h3 with h3 | h3
    · refine hide fun GOAL hGOAL => ?_
      obtain ⟨u, hm, ku⟩ := frame_start (kindOf := env.kindOf) hl hu h1 h2
      refine hGOAL ?_
      clear hGOAL GOAL
      obtain ⟨c, hc⟩ := cex x (by rw [← hkd]; exact h3)
      refine ⟨c, u, hc, ?_, ku.step st⟩
      have := hI.cell x c hc
      rwa [bindC_get h3 binds _ bnd' (hb ▸ hm)] at this
    · exact absurd h3 (nofree i x h1)
  · have hm := mem_of_lookup hc
    exact ⟨⟨_, hI.cell x c hc⟩, basN _ (celUp _ hm), fun e => by have := hI.above x c hm; rw [e] at this; exact absurd this (Nat.lt_irrefl _)⟩
  · rcases h2 with h2 | h2
    · exact cex x (by rw [← hkd]; exact h2)
    · exact absurd h2 (nofree i x h1)
  · have h1' := mem_of_lookup h1
    have h2' := mem_of_lookup h2
    have : ∀ (l : List (Str × Addr)), l.Pairwise (fun x y => x.2 ≠ y.2) → ∀ a ∈ l, ∀ b ∈ l, a.2 = b.2 → a = b := by
      intro l hp
      induction l with
      | nil => intro a ha; cases ha
      | cons z zs ih =>
        obtain ⟨p1, p2⟩ := List.pairwise_cons.mp hp
        intro a ha b hb e
        rcases List.mem_cons.mp ha with ea | ha' <;> rcases List.mem_cons.mp hb with eb | hb'
        · rw [ea, eb]
        · rw [ea] at e; exact absurd e (p1 b hb')
        · rw [eb] at e; exact absurd e.symm (p1 a ha')
        · exact ih p2 a ha' b hb' e
    exact congrArg Prod.fst (this _ hI.apart _ h1' _ h2' rfl)
  · have e1 := memNames i x h1
    have e2 := memNames j x h2
    exact (List.getElem?_inj (List.getElem?_eq_some_iff.mp e1).1 hn).mp (e1.trans e2.symm)
  · simp [hl]; omega
  · rw [he]; rfl
  · have := own0 L q
    refine hide fun GOAL hGOAL => ?_
    obtain ⟨e, hee, hf⟩ := List.mem_filterMap.mp hL
    refine hGOAL ?_
    clear hGOAL GOAL
    refine hide fun GOAL hGOAL => ?_
    obtain ⟨_, L', o, _, _, h1, _, _, h4, _⟩ := G e hee
    refine hGOAL ?_
    clear hGOAL GOAL
    rw [h1] at hf; cases hf; rw [this] at h4; cases h4
end
end Mini

/-! The calls of functions, whole. -/
namespace Mini
open PySem PySem.W

/-- the head of a function, as the walk needs it -/
noncomputable def fnHead (K : Frag) (fd : FuncData) (d : FnD) : Bool :=
  fd.scope.kind == .function && !fd.scope.isCoroutine && !fd.scope.isGenerator && fd.globals == mainGlobals && fd.builtins == builtinsNs && fd.closure.isEmpty && fd.params.posonlyargs.isEmpty && fd.params.kwonlyargs.isEmpty && fd.params.vararg.isNone && fd.params.kwarg.isNone &&
  (match fd.defaults with | .none => true | _ => false) && decide (fd.params.args.map (·.arg) = d.names.take d.np) && decide (d.np ≤ d.names.length) && decide d.names.Nodup && (d.names.all fun x => fd.scope.names.lookup x == some .local || fd.scope.names.lookup x == some .cell) && codeIn K fd.code fd.qualname

section
variable {W : Wd} {K : Frag} {h h' h₀ : Heap} {fs : List Env} {env : Env} {vis : List (Option Str)} {s s' : Shared} {io io' io₀ : Io} {m m' m₀ : MH} {r r' : Lo} {fr fr' own own' : List Addr} {A : Around} {n : Nat} {pos p : Pos}

theorem leave_sim {e : Value} {α β : Type} {R : Res α} {f : α → Mn β} (hA : A.frames = some (env :: fs)) (hf : env.frame = some env.locals) {s₀ : Shared} (H : HR W s₀.heap io m) (k : ∀ b o, s₀.heap.get? b = some o → s.heap.get? b = some o) (own0 : ∀ b ∈ ownOf env, s₀.heap.get? b = none) (sm : Same s₀ s)
    (x : XP W (ownOf env) (env :: fs) s io m R e s') : wpAny (model W.prog W.w) A (leaving env e) (fun _ s'' => XP W [] fs s₀ io m (R.bind f) e s'') (fun _ _ => False) s' := by
  refine hide fun GOAL hGOAL => ?_
  obtain ⟨c, m', io', a, g, rfl, rfl, st, Hg, ⟨B, kp, fly⟩, sm'⟩ := x
  refine hGOAL ?_
  clear hGOAL GOAL
  have hL : s₀.heap.get? env.locals = none := own0 _ (.head _)
  have frs' : ∀ b ∈ frs (env :: fs), s₀.heap.get? b = none ∨ b ∈ frs fs := fun b hb => by
    have e : frs (env :: fs) = env.locals :: frs fs := by simp [frs, hf]
    rw [e] at hb
    rcases List.mem_cons.mp hb with rfl | hb
    · exact .inl hL
    · exact .inr hb
  have st0 : Step [] (frs fs) s₀.heap io m g io' m' := st.shrink H k (fun b hb => .inl (own0 b hb)) frs'
  have kp0 : Kp W s₀.heap io' fs g B := fun b o e q => kp b o e (q.imp id (Or.imp id (Or.imp id fun ⟨⟨o', e'⟩, q⟩ => ⟨⟨o', k b o' e'⟩, fun w => by
    rcases frs' b w with z | z
    · rw [z] at e'; cases e'
    · exact q z⟩)))
  rcases fly with ⟨a0, f1, f2⟩ | ⟨args, f1, f2, f3⟩
  · refine wpAny_leaves_onW hA hf f1 fun h' q1 q2 => ?_
    exact ⟨c, m', io', a, g, rfl, rfl, st0, Hg, ⟨B, kp0, .inl ⟨a0, q1, f2.trans q2⟩⟩, sm.trans ⟨sm'.1, sm'.2⟩⟩
  · refine wpAny_leaves_madeW hA hf f1 f2 f3 fun h' t q1 q2 q3 q4 => ?_
    exact ⟨c, m', io', a, g, rfl, rfl, st0, Hg, ⟨B, kp0, .inl ⟨_, q1, (Heap.UpToSlots.of_keeps f3.keeps).trans q4⟩⟩, sm.trans ⟨sm'.1, sm'.2⟩⟩

theorem AR.deeper {A : Around} (R : AR A fs (n + 1)) (env : Env) : AR (A.deeper env) (env :: fs) n :=
  ⟨by show A.frames.map (env :: ·) = _; rw [R.frames]; rfl, by have := R.depth; show A.depth + 1 + 4 * n ≤ 900; omega, by have := R.units; show A.units + 3 + 40 * n + 400 ≤ 9000; omega, R.handled⟩

theorem call_sim {a : Addr} {o : Obj} {fd : FuncData} {body : List Stmt} {d : FnD} {Fb : Lo → Mn (Fl × Lo)} (gl : Gl W K) (R : AR A fs (n + 1)) (ho : K.lookup a = some o) (hdata : o.data = .func fd) (hh : fnHead K fd d = true) (hb : fd.body = .stmts body)
    (hbody : ∀ env : Env, env.scope = fd.scope → SiS W (A.deeper env) fs env (d.names.map some) (execs body env) Fb) :
    SiF W A fs (.ref a) (fun vs => if vs.length = d.np then bnd (Fb (vs.map some ++ List.replicate (d.names.length - d.np) none)) (fun p => match p.1 with | .ret v => ret v | .next => ret .none | .cont => bad) else bad) := by
  intro s io m vs us H G hu
  dsimp only
  simp only [fnHead, Bool.and_eq_true, beq_iff_eq, Bool.not_eq_true', decide_eq_true_eq, List.isEmpty_iff, Option.isNone_iff_eq_none] at hh
  refine hide fun GOAL hGOAL => ?_
  obtain ⟨⟨⟨⟨⟨⟨⟨⟨⟨⟨⟨⟨⟨⟨⟨h1, h2⟩, h3⟩, h4⟩, h5⟩, h6⟩, h7⟩, h8⟩, h9⟩, h10⟩, h11⟩, h12⟩, h13⟩, h14⟩, h15⟩, h16⟩ := hh
  refine hGOAL ?_
  clear hGOAL GOAL
  have hdef : fd.defaults = .none := by
    cases q : fd.defaults <;> rw [q] at h11 <;> first | rfl | (exact absurd h11 Bool.false_ne_true)
  split
  · rename_i hl
    intro hne
    have hlen : us.length = fd.params.args.length := by
      have := congrArg List.length h12
      simp at this
      rw [hu.length, hl]; omega
    have hnd : (fd.params.args.map (·.arg)).Nodup := by rw [h12]; exact h14.sublist (List.take_sublist _ _)
    refine wpAny_call (codeAny_call_function (by have := R.depth; simp only [recursionLimit]; omega) (H.get gl ho) hdata h2 h3 hb ((codeRec_of gl.X h16).keeps H.keep) ?_)
    rw [bindArgs_plain h7 h8 h9 h10 hdef hnd hlen]
    refine wpAny_pure ?_
    rw [h4, h5, h6]
    have hkinds : ∀ x ∈ d.names, fd.scope.names.lookup x = some .local ∨ fd.scope.names.lookup x = some .cell := fun x hx => by
      have := List.all_eq_true.mp h15 x hx
      simpa using this
    refine wpAny_newFunctionEnv_cells h1 (fun x hx => ?_) fun env he s₂ hI => ?_
    · have hxn : x.1 ∈ d.names := by
        have := (List.of_mem_zip (show (x.1, x.2) ∈ _ from hx)).1
        rw [h12] at this
        exact List.mem_of_mem_take this
      rcases hkinds _ hxn with e | e
      · exact .inl e
      · exact .inr ⟨e, cellsFrom_some _ _ _ (.inl e)⟩
    · rw [h12] at hI
      obtain ⟨Z, own0⟩ := enter_sim H G hl h13 hu h1 h14 hkinds rfl he hI
      have keep := hI.toInCall.keep
      refine hide fun GOAL hGOAL => ?_
      obtain ⟨hs, htk, hse⟩ := hI.toInCall.same
      refine hGOAL ?_
      clear hGOAL GOAL
      have sm : Same s s₂ := by rw [hse]; exact ⟨rfl, rfl⟩
      refine ⟨gl.ok.nolimit.keeps (fun b o e => keep b o (H.keep b o e)), codeAny_func ?_⟩
      have hsc : env.scope = fd.scope := by rw [he]; rfl
      have Rd := R.deeper env
      refine wpAny_mono (hbody env hsc s₂ io m _ Z (Res.bind_ne hne)) (fun f s₃ q => ?_) fun e s₃ q => ?_
      · refine hide fun GOAL hGOAL => ?_
        obtain ⟨⟨fl, r₃⟩, m₃, io₃, e3, st3, H3, ⟨kf, F3⟩, sm3⟩ := q
        refine hGOAL ?_
        clear hGOAL GOAL
        have frs' : ∀ b ∈ frs (env :: fs), s.heap.get? b = none ∨ b ∈ frs fs := fun b hb => by
          have e : frs (env :: fs) = env.locals :: frs fs := by simp [frs, Z.fr]
          rw [e] at hb
          rcases List.mem_cons.mp hb with rfl | hb
          · exact .inl (own0 _ (.head _))
          · exact .inr hb
        have st0 : Step [] (frs fs) s.heap io m s₃.heap io₃ m₃ := st3.shrink H keep (fun b hb => .inl (own0 b hb)) frs'
        have ee : ∀ g : Fl × Lo → Mn V, bnd (Fb (vs.map some ++ List.replicate (d.names.length - d.np) none)) g m = g (fl, r₃) m₃ := fun g => by show (Fb _ m).bind _ = _; rw [e3]; rfl
        rw [ee] at hne ⊢
        cases kf with
        | next => exact ⟨_, m₃, io₃, rfl, st0, H3, .none, sm.trans sm3⟩
        | cont => exact absurd rfl hne
        | ret kv => exact ⟨_, m₃, io₃, rfl, st0, H3, kv, sm.trans sm3⟩
      · exact wpAny_mono (leave_sim Rd.frames Z.fr H keep own0 sm q) (fun _ _ q => q) fun _ _ q => q.elim
  · exact .bad
end
end Mini

/-! Comprehensions. -/
namespace Mini
open PySem PySem.W

section
variable {W : Wd} {K : Frag} {h h' h₀ : Heap} {fs : List Env} {env : Env} {vis : List (Option Str)} {s s' : Shared} {io io' io₀ : Io} {m m' m₀ : MH} {r r' : Lo} {fr fr' own own' : List Addr} {A : Around} {n : Nat} {pos p : Pos}

theorem closure_of {scope : Scope} (hc : ∀ x k, (x, k) ∈ scope.names → k = .free → ∃ c, env.cells.lookup x = some c) :
    ∃ cl, closureFor scope env = Pure.pure cl ∧ (∀ x c, cl.lookup x = some c → env.cells.lookup x = some c) ∧ (∀ x, (x, NameKind.free) ∈ scope.names → ∃ c, cl.lookup x = some c) := by
  have key : ∀ (l : List (Str × NameKind)) (f : (Str × NameKind) → List (Str × Addr) → Sem (ForInStep (List (Str × Addr)))) (cs : List (Str × Addr)),
      (∀ x k cs, f (x, k) cs = if k == .free then (do let c ← cellOf env x; Pure.pure (.yield ((x, c) :: cs))) else Pure.pure (.yield cs)) →
      (∀ x k, (x, k) ∈ l → k = .free → ∃ c, env.cells.lookup x = some c) → (∀ x c, cs.lookup x = some c → env.cells.lookup x = some c) →
      ∃ cl, forIn l cs f = Pure.pure cl ∧ (∀ x c, cl.lookup x = some c → env.cells.lookup x = some c) ∧ (∀ x, (x, NameKind.free) ∈ l → ∃ c, cl.lookup x = some c) ∧ (∀ x c, cs.lookup x = some c → ∃ c', cl.lookup x = some c') := by
    intro l
    induction l with
    | nil => intro f cs _ _ h2; exact ⟨cs, rfl, h2, fun _ q => (by cases q), fun x c q => ⟨c, q⟩⟩
    | cons p l ih =>
      intro f cs hf hl h2
      obtain ⟨x, k⟩ := p
      rw [List.forIn_cons, hf]
      by_cases q : k = .free
      · subst q
        obtain ⟨c, hcx⟩ := hl x .free (.head _) rfl
        have e1 : cellOf env x = Pure.pure c := by unfold cellOf; rw [hcx]
        rw [e1]
        obtain ⟨cl, g1, g2, g3, g4⟩ := ih f ((x, c) :: cs) hf (fun y j hy => hl y j (.tail _ hy)) (fun y c' hy => by
          rw [List.lookup_cons] at hy
          cases z : y == x with
          | true => rw [z] at hy; cases hy; rw [beq_iff_eq.mp z]; exact hcx
          | false => rw [z] at hy; exact h2 y c' hy)
        refine ⟨cl, g1, g2, fun y hy => ?_, fun y c' hy => ?_⟩
        · rcases List.mem_cons.mp hy with e | hy
          · cases e; exact g4 x c (by simp)
          · exact g3 y hy
        · by_cases z : y = x
          · subst z; exact g4 y c (by simp)
          · exact g4 y c' (by rw [List.lookup_cons]; have : (y == x) = false := by simpa using z
                              rw [this]; exact hy)
      · have q' : (k == NameKind.free) = false := by simpa using q
        simp only [q', Bool.false_eq_true, if_false]
        refine hide fun GOAL hGOAL => ?_
        obtain ⟨cl, g1, g2, g3, g4⟩ := ih f cs hf (fun y j hy => hl y j (.tail _ hy)) h2
        refine hGOAL ?_
        clear hGOAL GOAL
        refine ⟨cl, g1, g2, fun y hy => ?_, g4⟩
        rcases List.mem_cons.mp hy with e | hy
        · cases e; exact absurd rfl q
        · exact g3 y hy
  have e : closureFor scope env = (forIn scope.names ([] : List (Str × Addr)) (fun (p : Str × NameKind) cs => if p.2 == .free then (do let c ← cellOf env p.1; Pure.pure (ForInStep.yield ((p.1, c) :: cs))) else Pure.pure (ForInStep.yield cs)) >>= fun cs => Pure.pure cs) := rfl
  rw [e]
  obtain ⟨cl, g1, g2, g3, _⟩ := key scope.names (fun (p : Str × NameKind) cs => if p.2 == .free then (do let c ← cellOf env p.1; Pure.pure (ForInStep.yield ((p.1, c) :: cs))) else Pure.pure (ForInStep.yield cs)) [] (fun x k cs => rfl) hc (fun _ _ q => by cases q)
  exact ⟨cl, by rw [g1]; rfl, g2, g3⟩

/-- a local name takes a value -/
theorem storeL_sim (H : HR W s.heap io m) (F : FR W s.heap io env vis r) (ho : env.locals ∈ own) {i : Nat} {x : Str} {v : V} {u : Value} (hv : vis[i]? = some (some x)) (hk : env.kindOf x = some .local) (k : VR W s.heap io v u) :
    Si W own A fs (RP W env vis) (storeName env x u) s io m (.ok (r.set i (some v)) m) := by
  intro _
  have hi : i < vis.length := (List.getElem?_eq_some_iff.mp hv).1
  have row : ∀ (j : Nat) (y : Str) (w : V), vis[j]? = some (some y) → (r.set i (some v))[j]? = some (some w) → (y = x ∧ w = v) ∨ (y ≠ x ∧ r[j]? = some (some w)) := by
    intro j y w h1 h2
    by_cases q : i = j
    · subst q
      rw [List.getElem?_set_self (by rw [F.len]; exact hi)] at h2
      rw [hv] at h1
      cases h1; cases h2; exact .inl ⟨rfl, rfl⟩
    · rw [List.getElem?_set_ne q] at h2
      refine .inr ⟨fun e => q (F.inj i j x hv (e ▸ h1)), h2⟩
  refine hide fun GOAL hGOAL => ?_
  obtain ⟨mp, hn, hl⟩ := F.loc
  refine hGOAL ?_
  clear hGOAL GOAL
  refine hide fun GOAL hGOAL => ?_
  obtain ⟨oL, esL, epL, hoL, hdL, _⟩ := id hn
  refine hGOAL ?_
  clear hGOAL GOAL
  refine wpAny_storeName_local hk hn (fun h' hn' hs => ?_) (by rw [F.kind]; rfl)
  have kk : ∀ b o, b ≠ env.locals → s.heap.get? b = some o → h'.get? b = some o := fun b o q e => (hs.2 b q).trans e
  have lv : ∀ o, s.heap.get? env.locals = some o → ¬ Solid o ∧ ∃ o', h'.get? env.locals = some o' := fun o ho => by
    rw [hoL] at ho; cases ho
    refine hide fun GOAL hGOAL => ?_
    obtain ⟨o', _, _, ho', _⟩ := id hn'
    refine hGOAL ?_
    clear hGOAL GOAL
    exact ⟨not_solid_dict hdL, o', ho'⟩
  have st : Step own (frs fs) s.heap io m h' io m := step_own H (L := env.locals) ho kk lv F.nofoot
  have H' : HR W h' io m := H.ofOwn (own := own) (L := env.locals) ho kk lv F.nofoot F.fresh
  refine ⟨_, m, io, rfl, st, H', ?_, rfl, rfl⟩
  refine ⟨F.kind, F.glob, F.blt, F.nofoot, F.fresh, ⟨_, hn', fun j y w h1 h2 h3 => ?_⟩, fun j y w h1 h2 h3 => ?_, fun y c hy => ?_, F.celex, F.apart, F.inj, by simp [F.len]⟩
  · rcases row j y w h1 h2 with ⟨rfl, rfl⟩ | ⟨q, h2⟩
    · exact ⟨u, by simp, k.step st⟩
    · refine hide fun GOAL hGOAL => ?_
      obtain ⟨u', e, k'⟩ := hl j y w h1 h2 h3
      refine hGOAL ?_
      clear hGOAL GOAL
      exact ⟨u', by simp [q, e], k'.step st⟩
  · rcases row j y w h1 h2 with ⟨rfl, rfl⟩ | ⟨q, h2⟩
    · rw [hk] at h3; simp at h3
    · refine hide fun GOAL hGOAL => ?_
      obtain ⟨c, u', e, k1, k2⟩ := F.cel j y w h1 h2 h3
      refine hGOAL ?_
      clear hGOAL GOAL
      refine ⟨c, u', e, ?_, k2.step st⟩
      refine hide fun GOAL hGOAL => ?_
      obtain ⟨oc, hoc, hdc⟩ := k1
      refine hGOAL ?_
      clear hGOAL GOAL
      exact ⟨oc, kk c oc (F.cells y c e).2.2 hoc, hdc⟩
  · refine hide fun GOAL hGOAL => ?_
    obtain ⟨⟨o, oc, hoc, hdc⟩, k2, k3⟩ := F.cells y c hy
    refine hGOAL ?_
    clear hGOAL GOAL
    exact ⟨⟨o, oc, kk c oc k3 hoc, hdc⟩, k2, k3⟩

theorem FR.weak (F : FR W h io env vis r) (k : ∀ (j : Nat) (w : V), r'[j]? = some (some w) → r[j]? = some (some w)) (hl : r'.length = r.length) : FR W h io env vis r' := by
  refine hide fun GOAL hGOAL => ?_
  obtain ⟨mp, hn, hl'⟩ := F.loc
  refine hGOAL ?_
  clear hGOAL GOAL
  exact ⟨F.kind, F.glob, F.blt, F.nofoot, F.fresh, ⟨mp, hn, fun i x v h1 h2 h3 => hl' i x v h1 (k i v h2) h3⟩, fun i x v h1 h2 h3 => F.cel i x v h1 (k i v h2) h3, F.cells, F.celex, F.apart, F.inj, hl.trans F.len⟩

/-! ### the tests of a comprehension -/
noncomputable def tests (ifs : List Expr) (env : Env) (b : Bool) : Sem Bool := forIn ifs b fun c r => if r = true then do let ok ← isTrue c env (eval c env); Pure.pure (ForInStep.yield ok) else Pure.pure (ForInStep.yield r)
theorem tests_false (ifs : List Expr) : tests ifs env false = Pure.pure false := by
  induction ifs with
  | nil => rfl
  | cons c cs ih => unfold tests; rw [List.forIn_cons]; exact ih
theorem if_nil : SiB W A fs env vis (tests [] env true) (fun _ => ret true) := fun _ _ _ _ Z => .pure (u := true) Z.H rfl
theorem if_cons {c : Expr} {cs : List Expr} {ct cts : Lo → Mn Bool} (hc : SiB W A fs env vis (isTrue c env (eval c env)) ct) (hs : SiB W A fs env vis (tests cs env true) cts) :
    SiB W A fs env vis (tests (c :: cs) env true) (fun r => bnd (ct r) fun b => if b then cts r else ret false) := by
  intro s io m r Z hne
  unfold tests
  rw [List.forIn_cons]
  refine wpAny_bind ?_
  simp only [if_true]
  refine wpAny_bind (wpAny_mono (hc s io m r Z (Res.bind_ne hne)) (fun b s₁ q => wpAny_pure ?_) fun _ _ q => q.bind .refl (.refl _))
  refine hide fun GOAL hGOAL => ?_
  obtain ⟨b', m₁, io₁, e1, st, H₁, rfl, sm⟩ := q
  refine hGOAL ?_
  clear hGOAL GOAL
  have ee : bnd (ct r) (fun b => if b then cts r else ret false) m = (if b' then cts r else ret false) m₁ := by show (ct r m).bind _ = _; rw [e1]; rfl
  dsimp only at hne ⊢
  rw [ee] at hne ⊢
  cases b' with
  | false =>
    show wpAny _ _ (tests cs env false) _ _ _
    rw [tests_false]
    exact wpAny_pure ⟨false, m₁, io₁, rfl, st, H₁, rfl, sm⟩
  | true => exact wpAny_mono (hs s₁ io₁ m₁ r (Z.step H₁ st) hne) (fun _ _ z => z.mono st sm) fun _ _ z => z.mono st sm

theorem relabel_free {env : Env} : ∀ {names : List (Str × NameKind)} {x : Str}, names.lookup x = some .free →
    (names.map fun (n, k) => if (k == NameKind.free && env.scope.kind == .function && env.kindOf n == some .cell) then (n, NameKind.cell) else (n, k)).lookup x = some .cell ∨ (names.map fun (n, k) => if (k == NameKind.free && env.scope.kind == .function && env.kindOf n == some .cell) then (n, NameKind.cell) else (n, k)).lookup x = some .free
  | [], _, h => by simp at h
  | (n, k) :: r, x, h => by
    have ih := @relabel_free env r x
    simp only [List.map_cons]
    cases hx : x == n with
    | true =>
      simp only [List.lookup_cons, hx] at h
      cases h
      by_cases hc : (NameKind.free == NameKind.free && env.scope.kind == .function && env.kindOf n == some .cell) = true
      · rw [if_pos hc]; left; simp [List.lookup_cons, hx]
      · rw [if_neg hc]; right; simp [List.lookup_cons, hx]
    | false =>
      simp only [List.lookup_cons, hx] at h
      by_cases hc : (k == NameKind.free && env.scope.kind == .function && env.kindOf n == some .cell) = true
      · rw [if_pos hc]; simp only [List.lookup_cons, hx]; exact ih h
      · rw [if_neg hc]; simp only [List.lookup_cons, hx]; exact ih h

/-- what a comprehension's scope must be -/
structure CompOk (scope : Scope) (env : Env) (vis vis' : List (Option Str)) (nl : Nat) : Prop where
  kind : scope.kind = .function
  names : ∀ x ∈ scope.names, x.2 = .local → scope.names.lookup x.1 = some .local
  cell : ∀ x ∈ scope.names, x.2 ≠ .cell
  cap : ∀ x ∈ scope.names, x.2 = .free → ∃ i : Nat, vis[i]? = some (some x.1) ∧ (env.kindOf x.1 = some .cell ∨ env.kindOf x.1 = some .free)
  see : ∀ (i : Nat) (x : Str), vis'[i]? = some (some x) → (vis.length ≤ i ∧ scope.names.lookup x = some .local) ∨ (vis[i]? = some (some x) ∧ scope.names.lookup x = some .free)
  inj : ∀ (i j : Nat) (x : Str), vis'[i]? = some (some x) → vis'[j]? = some (some x) → i = j
  len : vis'.length = vis.length + nl

theorem comp_enter {scope : Scope} {vis' : List (Option Str)} {nl : Nat} {cl : List (Str × Addr)} {C : Addr} (ck : CompOk scope env vis vis' nl) (H : HR W h io m) (F : FR W h io env vis r) (g2 : ∀ x c, cl.lookup x = some c → env.cells.lookup x = some c) (g3 : ∀ x, (x, NameKind.free) ∈ scope.names → ∃ c, cl.lookup x = some c)
    (hk : ∀ b o, h.get? b = some o → h'.get? b = some o) (hC : h.get? C = none) (hn : h'.Ns C (fun _ => none)) : FR W h' io (compEnvC scope cl C env) vis' (r ++ List.replicate nl none) := by
  have basN : W.base.get? C = none := by
    cases q : W.base.get? C with
    | none => rfl
    | some o => rw [H.keep _ _ q] at hC; cases hC
  have nf : ¬ Foot io C := fun f => by
    refine hide fun GOAL hGOAL => ?_
    obtain ⟨o, ho, _⟩ := H.foot f
    refine hGOAL ?_
    clear hGOAL GOAL
    rw [hC] at ho; cases ho
  have st : Step [] [] h io m h' io m := .of_keeps H hk
  have F' := F.step0 H st
  have old : ∀ (i : Nat) (x : Str) (v : V), vis'[i]? = some (some x) → (r ++ List.replicate nl none)[i]? = some (some v) → vis[i]? = some (some x) ∧ scope.names.lookup x = some .free ∧ r[i]? = some (some v) := by
    intro i x v h1 h2
    have hi : i < r.length := by
      rcases Nat.lt_or_ge i r.length with q | q
      · exact q
      · rw [List.getElem?_append_right q] at h2
        have := List.mem_of_getElem? h2
        simp at this
    rw [List.getElem?_append_left hi] at h2
    rcases ck.see i x h1 with ⟨q, _⟩ | ⟨q1, q2⟩
    · rw [F.len] at hi; omega
    · exact ⟨q1, q2, h2⟩
  have kd : ∀ x, scope.names.lookup x = some .free → (compEnvC scope cl C env).kindOf x = some .cell ∨ (compEnvC scope cl C env).kindOf x = some .free := fun x hx => relabel_free hx
  have capk : ∀ x, scope.names.lookup x = some .free → env.kindOf x = some .cell ∨ env.kindOf x = some .free := fun x hx => by
    refine hide fun GOAL hGOAL => ?_
    obtain ⟨i, _, q⟩ := ck.cap (x, .free) (mem_of_lookup hx) rfl
    refine hGOAL ?_
    clear hGOAL GOAL
    exact q
  refine ⟨ck.kind, F.glob, F.blt, nf, basN, ⟨_, hn, fun i x v h1 h2 h3 => ?_⟩, fun i x v h1 h2 h3 => ?_, fun x c hc => ?_, fun i x h1 h2 => ?_, fun x y c h1 h2 => F.apart x y c (g2 x c h1) (g2 y c h2), ck.inj, by simp [F.len, ck.len]⟩
  · refine hide fun GOAL hGOAL => ?_
    obtain ⟨q1, q2, q3⟩ := old i x v h1 h2
    refine hGOAL ?_
    clear hGOAL GOAL
    rcases kd x q2 with e | e <;> rw [e] at h3 <;> cases h3
  · refine hide fun GOAL hGOAL => ?_
    obtain ⟨q1, q2, q3⟩ := old i x v h1 h2
    refine hGOAL ?_
    clear hGOAL GOAL
    refine hide fun GOAL hGOAL => ?_
    obtain ⟨c, u, e, k1, k2⟩ := F'.cel i x v q1 q3 (capk x q2)
    refine hGOAL ?_
    clear hGOAL GOAL
    obtain ⟨c', hc'⟩ := g3 x (mem_of_lookup q2)
    have := g2 x c' hc'
    rw [e] at this; cases this
    exact ⟨c, u, hc', k1, k2⟩
  · refine hide fun GOAL hGOAL => ?_
    obtain ⟨k1, k2, k3⟩ := F'.cells x c (g2 x c hc)
    refine hGOAL ?_
    clear hGOAL GOAL
    refine ⟨k1, k2, fun e => ?_⟩
    refine hide fun GOAL hGOAL => ?_
    obtain ⟨⟨_, o, ho, _⟩, _⟩ := F.cells x c (g2 x c hc)
    refine hGOAL ?_
    clear hGOAL GOAL
    rw [e] at ho; rw [show (compEnvC scope cl C env).locals = C from rfl, hC] at ho; cases ho
  · rcases ck.see i x h1 with ⟨_, q⟩ | ⟨q1, q2⟩
    · have : (compEnvC scope cl C env).kindOf x = some .local := lookup_relabel_local q
      rcases h2 with e | e <;> rw [this] at e <;> cases e
    · exact g3 x (mem_of_lookup q2)

noncomputable def consO (o : Option V) (r : List V) : List V := match o with
  | some x => x :: r
  | none => r
theorem compD_ok {g : Gd} {step : V → Mn (Option V)} : ∀ {vs : List V} {m : MH}, compD g step vs m ≠ .bad → ∃ l m', compD g step vs m = .ok l m' := by
  intro vs
  induction vs with
  | nil =>
    intro m h
    simp only [compD] at h ⊢
    split at h
    · rename_i q; exact ⟨[], m, by simp [q]⟩
    · exact absurd rfl h
  | cons v vs ih =>
    intro m h
    simp only [compD] at h ⊢
    split at h
    · rename_i q
      simp only [q, if_true]
      cases e : step v m with
      | bad => rw [e] at h; exact absurd rfl h
      | exc c m' => rw [e] at h; exact absurd rfl h
      | ok o m' =>
        rw [e] at h
        have h' : (compD g step vs m').bind (fun r => ret (consO o r)) ≠ .bad := h
        refine hide fun GOAL hGOAL => ?_
        obtain ⟨l, m'', e'⟩ := ih (Res.bind_ne h')
        refine hGOAL ?_
        clear hGOAL GOAL
        refine ⟨consO o l, m'', ?_⟩
        show (compD g step vs m').bind (fun r => ret (consO o r)) = _
        rw [e']; rfl
    · exact absurd rfl h
theorem compD_cons {g : Gd} {step : V → Mn (Option V)} {v : V} {vs : List V} {L : List V} {m mL : MH} (h : compD g step (v :: vs) m = .ok L mL) : g.stays m = true ∧ ∃ o m' L', step v m = .ok o m' ∧ compD g step vs m' = .ok L' mL ∧ L = consO o L' := by
  simp only [compD] at h
  split at h
  · rename_i q
    refine ⟨q, ?_⟩
    cases e : step v m with
    | bad => rw [e] at h; cases h
    | exc c m' => rw [e] at h; cases h
    | ok o m' =>
      rw [e] at h
      have h' : (compD g step vs m').bind (fun r => ret (consO o r)) = .ok L mL := h
      cases e2 : compD g step vs m' with
      | bad => rw [e2] at h'; cases h'
      | exc c m'' => rw [e2] at h'; cases h'
      | ok l m'' =>
        rw [e2] at h'
        cases h'
        exact ⟨o, m', l, rfl, e2, rfl⟩
  · cases h
theorem compD_stays {g : Gd} {step : V → Mn (Option V)} {vs : List V} {L : List V} {m mL : MH} (h : compD g step vs m = .ok L mL) : g.stays m = true := by
  cases q : g.stays m with
  | true => rfl
  | false => cases vs <;> simp [compD, q] at h
end
end Mini

/-! Comprehensions, whole. -/
namespace Mini
open PySem PySem.W

section
variable {W : Wd} {K : Frag} {h h' h₀ : Heap} {fs : List Env} {env : Env} {vis : List (Option Str)} {s s' s₀ : Shared} {io io' io₀ : Io} {m m' m₀ : MH} {r r' : Lo} {fr fr' own own' : List Addr} {A : Around} {n : Nat} {pos p : Pos}

noncomputable def stepOf (j : Nat) (row : Lo) (cif : Lo → Mn Bool) (celt : Lo → Mn V) (v : V) : Mn (Option V) :=
  bnd (setT (.one j) v row) fun r' => bnd (cif r') fun b => if b then bnd (celt r') fun x => ret (some x) else ret none

theorem not_solid_list {us : Array Value} {c : Nat} : ¬ Solid (lstO us c) := by
  rintro (⟨e, _⟩ | ⟨_, _, _, e⟩)
  · simp at e
  · cases e

/-- between two turns of a comprehension -/
inductive CInv (W : Wd) (fs : List Env) (s₀ : Shared) (io₀ : Io) (m₀ : MH) (cenv : Env) (vis' : List (Option Str)) (row : Lo) (St : Nat → Heap → Io → Prop) (D : Addr) (g : Gd) (f : V → Mn (Option V)) (vs L : List V) (mL : MH) (k : Nat) (s' : Shared) : Prop
  | mk (i : Nat) (io' : Io) (m' : MH) (outs L' : List V) (us : Array Value) (c : Nat) : k = vs.length - i → i ≤ vs.length → Step [] (frs fs) s₀.heap io₀ m₀ s'.heap io' m' → HR W s'.heap io' m' → FR W s'.heap io' cenv vis' row → St i s'.heap io' → s'.heap.get? D = some (lstO us c) → VRs W s'.heap io' outs us.toList → ¬ Foot io' D → Same s₀ s' →
      compD g f (vs.drop i) m' = .ok L' mL → L = outs ++ L' → CInv W fs s₀ io₀ m₀ cenv vis' row St D g f vs L mL k s'
theorem comp_core {elt iter : Expr} {ifs : List Expr} {scope : Scope} {cpos px : Pos} {cenv : Env} {vis' : List (Option Str)} {row : Lo} {D I : Addr} {wr : List Addr} {g : Gd} {vs L : List V} {St : Nat → Heap → Io → Prop} {x : Str} {j c0 : Nat} {cif : Lo → Mn Bool} {celt : Lo → Mn V} {io₂ : Io} {m₂ mL : MH} {RR : Result → Shared → Prop}
    (H0 : HR W s₀.heap io₀ m₀) (G0 : FF W s₀.heap io₀ fs) (hw : Wk W A I wr g vs St) (hnew : ∀ b ∈ wr, s₀.heap.get? b = none) (hD0 : s₀.heap.get? D = none) (hC0 : s₀.heap.get? cenv.locals = none) (hDC : D ≠ cenv.locals) (hDw : D ∉ wr) (hCw : cenv.locals ∉ wr)
    (hv : vis'[j]? = some (some x)) (hk : cenv.kindOf x = some .local) (hrow : row[j]? = some none) (hcel : ∀ y c, cenv.cells.lookup y = some c → ∃ o, s₀.heap.get? c = some o)
    (hifs : SiB W A fs cenv vis' (tests ifs cenv true) cif) (helt : SiE W A fs cenv vis' (eval elt cenv) celt)
    (st₂ : Step [] (frs fs) s₀.heap io₀ m₀ s.heap io₂ m₂) (H₂ : HR W s.heap io₂ m₂) (F₂ : FR W s.heap io₂ cenv vis' row) (hst₂ : St 0 s.heap io₂) (hD₂ : s.heap.get? D = some (lstO #[] c0)) (nfD : ¬ Foot io₂ D) (sm₂ : Same s₀ s)
    (hL : compD g (stepOf j row cif celt) vs m₂ = .ok L mL) (hlen : L.length ≤ lid)
    (fin : ∀ s' io' us c, Step [] (frs fs) s₀.heap io₀ m₀ s'.heap io' mL → HR W s'.heap io' mL → s'.heap.get? D = some (lstO us c) → VRs W s'.heap io' L us.toList → ¬ Foot io' D → (∃ mC, s'.heap.Ns cenv.locals mC) ∧ ¬ Foot io' cenv.locals → Same s₀ s' → RR (.ok .next) s') :
    codeAny (model W.prog W.w) A (.compStart (.ListComp elt [⟨.Name x px, iter, ifs, 0⟩] scope cpos) 0 (.ref I) (.ref D) cenv) RR s := by
  have hFr : ∀ b ∈ frs fs, ∃ o, s₀.heap.get? b = some o := fun b hb => by
    refine hide fun GOAL hGOAL => ?_
    obtain ⟨e, he, hf⟩ := List.mem_filterMap.mp hb
    refine hGOAL ?_
    clear hGOAL GOAL
    refine hide fun GOAL hGOAL => ?_
    obtain ⟨_, L, o, _, _, h1, _, _, h4, _⟩ := G0 e he
    refine hGOAL ?_
    clear hGOAL GOAL
    rw [h1] at hf; cases hf; exact ⟨o, h4⟩
  have frN : ∀ b, s₀.heap.get? b = none → b ∉ frs fs := fun b e q => by obtain ⟨o, ho⟩ := hFr b q; rw [e] at ho; cases ho
  have hbase : ∀ b o, W.base.get? b = some o → s₀.heap.get? b = some o := H0.keep
  have basD : W.base.get? D = none := by
    cases q : W.base.get? D with
    | none => rfl
    | some o => rw [hbase _ _ q] at hD0; cases hD0
  have celN : ∀ y c, cenv.cells.lookup y = some c → ∀ b, s₀.heap.get? b = none → c ≠ b := fun y c hy b hb e => by
    obtain ⟨o, ho⟩ := hcel y c hy
    rw [e, hb] at ho; cases ho
  have loop : codeAny (model W.prog W.w) A (.compLoop (.ListComp elt [⟨.Name x px, iter, ifs, 0⟩] scope cpos) 0 (.ref I) (.ref D) cenv) RR s := by
    refine codeAny_compLoop_tests (I := CInv W fs s₀ io₀ m₀ cenv vis' row St D g (stepOf j row cif celt) vs L mL) (fun k s' hI => ?_) vs.length ⟨0, io₂, m₂, [], L, #[], c0, by simp, Nat.zero_le _, st₂, H₂, F₂, hst₂, hD₂, .nil, nfD, sm₂, by simpa using hL, by simp⟩
    refine hide fun GOAL hGOAL => ?_
    obtain ⟨i, io', m', outs, L', us, c, hk', hi, st, H, F, hst, hD, hus, nf, sm, he, hLe⟩ := hI
    refine hGOAL ?_
    clear hGOAL GOAL
    have hg := compD_stays he
    have sft := hw.soft hst
    by_cases hlt : i < vs.length
    · have hvi : vs[i]? = some vs[i] := List.getElem?_eq_getElem hlt
      rw [List.drop_eq_getElem_cons hlt] at he
      refine hide fun GOAL hGOAL => ?_
      obtain ⟨_, o, m₅, L₅, es, ec, eL⟩ := compD_cons he
      refine hGOAL ?_
      clear hGOAL GOAL
      refine hw.item hvi hst H hg fun u h₁ tk ku hst₁ kk => ?_
      have sd : Side W wr s₀.heap s'.heap io' h₁ := ⟨kk, hnew, fun b hb => (sft b hb).1, fun b hb => (sft b hb).2⟩
      have H1 := sd.hr H hbase
      have st1 := sd.step H st
      have F1 := F.sideN sd hCw fun y c hy q => celN y c hy c (hnew c q) rfl
      have hD1 : h₁.get? D = some (lstO us c) := kk _ _ hDw hD
      have hus1 := hus.sol sd.sol
      have ku1 := ku.sol sd.sol
      -- the target
      refine wpAny_assign_Name ?_
      refine wpAny_mono (storeL_sim (s := { s' with heap := h₁, toks := tk }) (A := A) (fs := fs) (own := [cenv.locals]) H1 F1 (.head _) hv hk ku1 (fun q => nomatch q)) (fun _ s₂ q => ?_) fun e s₂ q => ?_
      rotate_left
      · obtain ⟨c', m'', io'', a, g', h1, _⟩ := q; cases h1
      refine hide fun GOAL hGOAL => ?_
      obtain ⟨r₂, mq, io₂', e2, st2, H2, F2, sm2⟩ := q
      refine hGOAL ?_
      clear hGOAL GOAL
      cases e2
      have st2' : Step [] (frs fs) s₀.heap io₀ m₀ s₂.heap io₂' m' := by
        refine ((st1.wk (own' := [cenv.locals]) fun _ q => nomatch q).trans st2).shrink H0 (fun _ _ e => e) (fun b hb => ?_) fun b hb => .inr hb
        rw [List.mem_singleton.mp hb]; exact .inl hC0
      have hD2 : s₂.heap.get? D = some (lstO us c) := st2.keep _ _ hD1 nf (by simpa using hDC) (frN _ hD0)
      have nf2 : ¬ Foot io₂' D := st2.nofoot hD1 nf
      have hus2 := hus1.step st2
      have hst2 : St (i + 1) s₂.heap io₂' := hw.stay hst₁ H1 H2 st2 (fun b hb => ⟨fun q => hCw (by rw [← List.mem_singleton.mp q]; exact hb), frN _ (hnew b hb)⟩) hg hg
      have Z2 : Sit W fs cenv vis' s₂ io₂' m' (row.set j (some vs[i])) := ⟨H2, F2, G0.step0 st2'⟩
      -- the tests
      have es' : (cif (row.set j (some vs[i])) m').bind (fun b => if b then bnd (celt (row.set j (some vs[i]))) fun x => ret (some x) else ret none) = .ok o m₅ := es
      have hne1 : cif (row.set j (some vs[i])) m' ≠ .bad := fun q => by rw [q] at es'; cases es'
      refine wpAny_mono (hifs s₂ io₂' m' _ Z2 hne1) (fun ok s₃ q => ?_) fun e s₃ q => ?_
      rotate_left
      · refine hide fun GOAL hGOAL => ?_
        obtain ⟨c', m'', io'', a, g', h1, _⟩ := q
        refine hGOAL ?_
        clear hGOAL GOAL
        rw [h1] at es'; cases es'
      refine hide fun GOAL hGOAL => ?_
      obtain ⟨ok', m₃, io₃, e3, st3, H3, rfl, sm3⟩ := q
      refine hGOAL ?_
      clear hGOAL GOAL
      rw [e3] at es'
      have Z3 := Z2.step H3 st3
      have hD3 : s₃.heap.get? D = some (lstO us c) := st3.keep _ _ hD2 nf2 (fun q => nomatch q) (frN _ hD0)
      have wrN : ∀ b ∈ wr, b ∉ ([] : List Addr) ∧ b ∉ frs fs := fun b hb => ⟨(fun q => nomatch q), frN _ (hnew b hb)⟩
      have weak : ∀ {h : Heap} {io : Io}, FR W h io cenv vis' (row.set j (some vs[i])) → FR W h io cenv vis' row := fun F => F.weak (fun a w e => by
        by_cases q : j = a
        · subst q; rw [hrow] at e; cases e
        · rw [List.getElem?_set_ne q]; exact e) (by simp)
      cases ok' with
      | false =>
        simp only [Bool.false_eq_true, if_false]
        have es2 : (Res.ok none m₃ : Res (Option V)) = .ok o m₅ := es'
        cases es2
        refine ⟨vs.length - (i + 1), by omega, i + 1, io₃, m₅, outs, L₅, us, c, rfl, hlt, st2'.trans st3, H3, weak Z3.F, hw.stay hst2 H2 H3 st3 wrN hg (compD_stays ec), hD3, hus2.step st3, st3.nofoot hD2 nf2, (sm.trans (Same.trans ⟨rfl, rfl⟩ sm2)).trans sm3, ec, ?_⟩
        rw [hLe, eL]; rfl
      | true =>
        simp only [if_true]
        have es2 : (celt (row.set j (some vs[i])) m₃).bind (fun x => ret (some x)) = .ok o m₅ := es'
        have hne2 : celt (row.set j (some vs[i])) m₃ ≠ .bad := fun q => by rw [q] at es2; cases es2
        refine wpAny_mono (helt s₃ io₃ m₃ _ Z3 hne2) (fun y s₄ q => ?_) fun e s₄ q => ?_
        rotate_left
        · refine hide fun GOAL hGOAL => ?_
          obtain ⟨c', m'', io'', a, g', h1, _⟩ := q
          refine hGOAL ?_
          clear hGOAL GOAL
          rw [h1] at es2; cases es2
        refine hide fun GOAL hGOAL => ?_
        obtain ⟨y', m₄, io₄, e4, st4, H4, k4, sm4⟩ := q
        refine hGOAL ?_
        clear hGOAL GOAL
        rw [e4] at es2
        cases es2
        have nf3 := st3.nofoot hD2 nf2
        have hD4 : s₄.heap.get? D = some (lstO us c) := st4.keep _ _ hD3 nf3 (fun q => nomatch q) (frN _ hD0)
        have nf4 := st4.nofoot hD3 nf3
        have hus4 := (hus2.step st3).step st4
        have hst4 : St (i + 1) s₄.heap io₄ := hw.stay hst2 H2 H4 (st3.trans st4) wrN hg (compD_stays ec)
        have ol : us.size ≤ lid := by
          have e1 := hus.length
          have e2 : L.length = outs.length + L'.length := by rw [hLe, List.length_append]
          have : us.size = outs.length := by simpa using e1
          omega
        refine wpAny_list_append_plain ⟨c, hD4⟩ (fun h₅ ⟨c5, hD5⟩ hs5 => ?_) (sizeLine_lid ol)
        have kk5 : ∀ b o, b ≠ D → s₄.heap.get? b = some o → h₅.get? b = some o := fun b o q e => (hs5.2 b q).trans e
        have lv5 : ∀ o, s₄.heap.get? D = some o → ¬ Solid o ∧ ∃ o', h₅.get? D = some o' := fun o ho => by
          rw [hD4] at ho; cases ho; exact ⟨not_solid_list, _, hD5⟩
        have st5 : Step [D] (frs fs) s₄.heap io₄ m₅ h₅ io₄ m₅ := step_own H4 (L := D) (.head _) kk5 lv5 nf4
        have H5 : HR W h₅ io₄ m₅ := H4.ofOwn (own := [D]) (L := D) (.head _) kk5 lv5 nf4 basD
        have st5' : Step [] (frs fs) s₀.heap io₀ m₀ h₅ io₄ m₅ := by
          refine ((((st2'.trans st3).trans st4).wk (own' := [D]) fun _ q => nomatch q).trans st5).shrink H0 (fun _ _ e => e) (fun b hb => ?_) fun b hb => .inr hb
          rw [List.mem_singleton.mp hb]; exact .inl hD0
        have F5 : FR W h₅ io₄ cenv vis' row := (weak (Z3.F.step0 H3 st4)).step H4 st5 (by simpa using Ne.symm hDC) fun y c hy => by simpa using celN y c hy D hD0
        refine ⟨vs.length - (i + 1), by omega, i + 1, io₄, m₅, outs ++ [y'], L₅, us.push y, c5, rfl, hlt, st5', H5, F5, hw.stay hst4 H4 H5 st5 (fun b hb => ⟨fun q => hDw (by rw [← List.mem_singleton.mp q]; exact hb), frN _ (hnew b hb)⟩) (compD_stays ec) (compD_stays ec), hD5, ?_, nf4, ((sm.trans (Same.trans ⟨rfl, rfl⟩ sm2)).trans sm3).trans (sm4.trans ⟨rfl, rfl⟩), ec, ?_⟩
        · rw [Array.toList_push]; exact (hus4.step st5).snoc (VR.step st5 k4)
        · rw [hLe, eL]; simp [consO]
    · have hi' : i = vs.length := by omega
      subst hi'
      refine hw.done hst H hg fun h₁ tk kk => ?_
      have sd : Side W wr s₀.heap s'.heap io' h₁ := ⟨kk, hnew, fun b hb => (sft b hb).1, fun b hb => (sft b hb).2⟩
      rw [List.drop_length] at he
      simp only [compD, hg, if_true] at he
      cases he
      rw [List.append_nil] at hLe
      subst hLe
      have F1 := F.sideN sd hCw fun y c hy q => celN y c hy c (hnew c q) rfl
      refine hide fun GOAL hGOAL => ?_
      obtain ⟨mC, hn, _⟩ := F1.loc
      refine hGOAL ?_
      clear hGOAL GOAL
      exact fin { s' with heap := h₁, toks := tk } io' us c (sd.step H st) (sd.hr H hbase) (kk _ _ hDw hD) (hus.sol sd.sol) nf ⟨⟨mC, hn⟩, F1.nofoot⟩ (sm.trans ⟨rfl, rfl⟩)
  exact codeAny_compStart_list loop (hw.self hst₂ loop)
end
end Mini

/-! Comprehensions as expressions and as values of names. -/
namespace Mini
open PySem PySem.W

section
variable {W : Wd} {K : Frag} {h h' h₀ : Heap} {fs : List Env} {env : Env} {vis : List (Option Str)} {s s' s₀ : Shared} {io io' io₀ : Io} {m m' m₀ : MH} {r r' : Lo} {fr fr' own own' : List Addr} {A : Around} {n : Nat} {pos p : Pos}

mutual
theorem VR.ext (x : ∀ (n : Nat) (p : Addr × Addr), io[n]? = some p → io'[n]? = some p) : ∀ {v : V} {u : Value}, VR W h io v u → VR W h io' v u
  | _, _, .none => .none
  | _, _, .bool b => .bool b
  | _, _, .int i t => .int i t
  | _, _, .str s t k => .str s t k
  | _, _, .tup h1 h4 => .tup h1 (VRs.ext x h4)
  | _, _, .ref h1 => .ref (x _ _ h1)
  | _, _, .scr h1 h2 h3 h4 h5 => .scr h1 h2 h3 h4 h5
theorem VRs.ext (x : ∀ (n : Nat) (p : Addr × Addr), io[n]? = some p → io'[n]? = some p) : ∀ {v : List V} {u : List Value}, VRs W h io v u → VRs W h io' v u
  | _, _, .nil => .nil
  | _, _, .cons h1 h2 => .cons (VR.ext x h1) (VRs.ext x h2)
end
theorem ERs.ext (x : ∀ (n : Nat) (p : Addr × Addr), io[n]? = some p → io'[n]? = some p) {kvs : List (Ky × V)} {es : List DictEntry} (e : ERs W h io kvs es) : ERs W h io' kvs es := by
  induction e with
  | nil => exact .nil
  | cons h1 h2 _ ih => exact .cons (h1.ext x) (h2.ext x) ih
theorem FEs.ext (x : ∀ (n : Nat) (p : Addr × Addr), io[n]? = some p → io'[n]? = some p) {fs : List (Nat × V)} {es : List DictEntry} (e : FEs W h io fs es) : FEs W h io' fs es := by
  induction e with
  | nil => exact .nil
  | cons h1 h2 _ ih => exact .cons h1 (h2.ext x) ih
theorem OR.ext (x : ∀ (n : Nat) (p : Addr × Addr), io[n]? = some p → io'[n]? = some p) {a d : Addr} {o : MObj} (k : OR W h io a d o) : OR W h io' a d o := by
  cases o with
  | list xs =>
    obtain ⟨e, vs, n, h1, h4, h5⟩ := k
    exact ⟨e, vs, n, h1, h4.ext x, h5⟩
  | dict kvs ep =>
    obtain ⟨e, o, es, n, h1, h2, h3, h4, h5⟩ := k
    exact ⟨e, o, es, n, h1, h2, h3, h4.ext x, h5⟩
  | inst c fs =>
    obtain ⟨e, es, n, h1, h2, h3, h4⟩ := k
    exact ⟨e, es, n, h1, h2, h3.ext x, h4⟩

/-- a list that was made beside is taken in -/
theorem adopt {D : Addr} {us : Array Value} {c : Nat} {L : List V} (st : Step own fr h₀ io₀ m₀ h io m) (H : HR W h io m) (hD : h.get? D = some (lstO us c)) (hus : VRs W h io L us.toList) (hl : L.length ≤ lid) (nf : ¬ Foot io D) (hD0 : h₀.get? D = none) (basD : W.base.get? D = none) :
    Step own fr h₀ io₀ m₀ h (io ++ [(D, D)]) (m ++ [.list L]) ∧ HR W h (io ++ [(D, D)]) (m ++ [.list L]) ∧ VR W h (io ++ [(D, D)]) (.ref m.length) (.ref D) := by
  have ex : ∀ (n : Nat) (p : Addr × Addr), io[n]? = some p → (io ++ [(D, D)])[n]? = some p := fun n p e => by
    rw [List.getElem?_append_left (List.getElem?_eq_some_iff.mp e).1]; exact e
  have last : (io ++ [(D, D)])[m.length]? = some (D, D) := by rw [← H.len]; simp
  refine ⟨⟨st.alive, st.solid, st.keep, st.slots, ?_, fun n p kvs e hi hm => ?_⟩, ⟨H.keep, by simp [H.len], fun n p o hi hm => ?_, fun b f => ?_, fun i j p q hij hi hj => ?_⟩, .ref last⟩
  · obtain ⟨new, e, hn⟩ := st.grow
    refine ⟨new ++ [(D, D)], by rw [e, List.append_assoc], fun p hp => ?_⟩
    rcases List.mem_append.mp hp with hp | hp
    · exact hn p hp
    · rw [List.mem_singleton.mp hp]; exact ⟨hD0, hD0⟩
  · obtain ⟨k', e', q1, q2, q3⟩ := st.dicts n p kvs e hi hm
    exact ⟨k', e', by rw [List.getElem?_append_left (List.getElem?_eq_some_iff.mp q1).1]; exact q1, q2, q3⟩
  · rcases Nat.lt_or_ge n m.length with hlt | hge
    · rw [List.getElem?_append_left hlt] at hm
      rw [List.getElem?_append_left (by rw [H.len]; exact hlt)] at hi
      exact (H.obj n p o hi hm).ext ex
    · have hn : n = m.length := by
        have := (List.getElem?_eq_some_iff.mp hm).1
        simp at this; omega
      subst hn
      rw [last] at hi
      cases hi
      rw [List.getElem?_append_right (Nat.le_refl _)] at hm
      simp at hm
      subst hm
      exact ⟨rfl, us, c, hD, hus.ext ex, hl⟩
  · rcases foot_append f with f | ⟨p, hp, e⟩
    · exact H.fresh b f
    · rw [List.mem_singleton.mp hp] at e
      rcases e with e | e <;> rw [e] <;> exact basD
  · have nfp : ∀ (k : Nat) (p : Addr × Addr), io[k]? = some p → p.1 ≠ D ∧ p.2 ≠ D := fun k p hk => ⟨fun e => nf ⟨p, List.mem_of_getElem? hk, .inl e.symm⟩, fun e => nf ⟨p, List.mem_of_getElem? hk, .inr e.symm⟩⟩
    have cut : ∀ (k : Nat) (p : Addr × Addr), (io ++ [(D, D)])[k]? = some p → io[k]? = some p ∨ (k = io.length ∧ p = (D, D)) := fun k p hk => by
      rcases Nat.lt_or_ge k io.length with hlt | hge
      · rw [List.getElem?_append_left hlt] at hk; exact .inl hk
      · have := (List.getElem?_eq_some_iff.mp hk).1
        simp at this
        have hn : k = io.length := by omega
        subst hn
        simp at hk
        exact .inr ⟨rfl, hk.symm⟩
    rcases cut i p hi with a | ⟨a, rfl⟩ <;> rcases cut j q hj with b | ⟨b, rfl⟩
    · exact H.apart i j p q hij a b
    · have := nfp i p a; exact ⟨this.1, this.1, this.2⟩
    · have := nfp j q b; exact ⟨Ne.symm this.1, Ne.symm this.2, Ne.symm this.2⟩
    · omega

/-- a comprehension, up to what is done with its list -/
theorem comp_sim {elt iter : Expr} {ifs : List Expr} {scope : Scope} {px fp : Pos} {vis' : List (Option Str)} {nl j : Nat} {x : Str} {csrc : Lo → Mn (List V × Gd)} {cif : Lo → Mn Bool} {celt : Lo → Mn V} {use : Option (Value → Sem Unit)} {Q : Value → Shared → Prop} {E : Value → Shared → Prop}
    (ck : CompOk scope env vis vis' nl) (hs : ∀ x, foldedSetIterable iter env x = Pure.pure x) (hv : vis'[j]? = some (some x)) (hj : vis.length ≤ j) (hsrc : SiSrc W A fs env vis iter csrc)
    (hifs : ∀ cl C, SiB W A fs (compEnvC scope cl C env) vis' (tests ifs (compEnvC scope cl C env) true) cif) (helt : ∀ cl C, SiE W A fs (compEnvC scope cl C env) vis' (eval elt (compEnvC scope cl C env)) celt)
    (Z : Sit W fs env vis s io m r) (hne : (csrc r m).bind (fun p => bnd (compD p.2 (stepOf j (r ++ List.replicate nl none) cif celt) p.1) fun l => if l.length ≤ lid then alloc (.list l) else bad) ≠ .bad)
    (hX : ∀ e s', XP W [] fs s io m (csrc r m) e s' → E e s')
    (fin : ∀ s' io' D C L us c mL p m₂, csrc r m = .ok p m₂ → compD p.2 (stepOf j (r ++ List.replicate nl none) cif celt) p.1 m₂ = .ok L mL → L.length ≤ lid → s.heap.get? D = none → s.heap.get? C = none → D ≠ C → Step [] (frs fs) s.heap io m s'.heap io' mL → HR W s'.heap io' mL → s'.heap.get? D = some (lstO us c) → VRs W s'.heap io' L us.toList → ¬ Foot io' D → (∃ mC, s'.heap.Ns C mC) ∧ ¬ Foot io' C → Same s s' → compPost (model W.prog W.w) A E use Q (.ref D) C (.ok .next) s') :
    wpAny (model W.prog W.w) A (comprehension (.ListComp elt [⟨.Name x px, iter, ifs, 0⟩] scope pos) scope env fp (newList []) false (eval iter env) use) Q E s := by
  obtain ⟨cl, g1, g2, g3⟩ := closure_of (scope := scope) (env := env) fun y k hy hk => by
    obtain ⟨i, q1, q2⟩ := ck.cap (y, k) hy hk
    exact Z.F.celex i y q1 q2
  refine wpAny_comprehension_free (g := ⟨.Name x px, iter, ifs, 0⟩) (gs := []) rfl hs g1 ck.kind ck.names ?_
  refine wpAny_mono (hsrc s io m r Z (Res.bind_ne hne)) (fun xv s₁ q => wpAny_mono q (fun it s₂ q => ?_) hX) hX
  obtain ⟨⟨vs, g⟩, m₂, io₂, e2, st₂, H₂, ⟨I, wr, St, rfl, hw, h0, hnew⟩, sm₂⟩ := q
  rw [e2] at hne
  have hne' : (compD g (stepOf j (r ++ List.replicate nl none) cif celt) vs m₂).bind (fun l => if l.length ≤ lid then alloc (.list l) else bad) ≠ .bad := hne
  obtain ⟨L, mL, eL⟩ := compD_ok (Res.bind_ne hne')
  have hlen : L.length ≤ lid := by
    rcases Nat.lt_or_ge lid L.length with q | q
    · refine absurd ?_ hne'
      rw [eL]
      show (if L.length ≤ lid then alloc (.list L) else bad) mL = _
      rw [if_neg (by omega)]; rfl
    · exact q
  have Z2 := Z.step H₂ st₂
  refine wpAny_newList ?_ (by decide)
  -- the list, then the frame
  have k3 : ∀ b o, s₂.heap.get? b = some o → (s₂.heap.push (lstO #[] 0)).get? b = some o := push_keeps _
  refine wpAny_newFunctionEnv ck.cell (fun y hy => nomatch hy) (fun h₄ hn₄ hs₄ => ?_) ck.kind
  have k4 : ∀ b o, (s₂.heap.push (lstO #[] 0)).get? b = some o → h₄.get? b = some o := fun b o e => by
    have hb : b ≠ (s₂.heap.push (lstO #[] 0)).objs.size := fun q => by rw [q, get_size] at e; cases e
    exact (hs₄.2 b hb).trans (push_keeps _ _ _ e)
  have sz : (s₂.heap.push (lstO #[] 0)).objs.size = s₂.heap.objs.size + 1 := Heap.size_push ..
  have kk : ∀ b o, s₂.heap.get? b = some o → h₄.get? b = some o := fun b o e => k4 b o (k3 b o e)
  have cD : s₂.heap.get? s₂.heap.objs.size = none := get_size _
  have cC3 : (s₂.heap.push (lstO #[] 0)).get? (s₂.heap.push (lstO #[] 0)).objs.size = none := get_size _
  have cC : s₂.heap.get? (s₂.heap.push (lstO #[] 0)).objs.size = none := by
    cases q : s₂.heap.get? (s₂.heap.push (lstO #[] 0)).objs.size with
    | none => rfl
    | some o => rw [k3 _ _ q] at cC3; cases cC3
  have hD0 : s.heap.get? s₂.heap.objs.size = none := dead_before st₂ cD
  have hC0 : s.heap.get? (s₂.heap.push (lstO #[] 0)).objs.size = none := dead_before st₂ cC
  have hDC : s₂.heap.objs.size ≠ (s₂.heap.push (lstO #[] 0)).objs.size := by rw [sz]; exact Nat.ne_of_lt (Nat.lt_succ_self _)
  have st4 : Step [] (frs fs) s₂.heap io₂ m₂ h₄ io₂ m₂ := .of_keeps H₂ kk
  have H4 : HR W h₄ io₂ m₂ := H₂.of_keeps kk
  have hn' : h₄.Ns (s₂.heap.push (lstO #[] 0)).objs.size (fun _ => none) := hn₄
  have F4 : FR W h₄ io₂ (compEnvC scope cl (s₂.heap.push (lstO #[] 0)).objs.size env) vis' (r ++ List.replicate nl none) := comp_enter ck H₂ Z2.F g2 g3 kk cC hn'
  have hjl : j < vis'.length := (List.getElem?_eq_some_iff.mp hv).1
  have lk : scope.names.lookup x = some .local := by
    rcases ck.see j x hv with ⟨_, q⟩ | ⟨q, _⟩
    · exact q
    · have := (List.getElem?_eq_some_iff.mp q).1; omega
  have wrAlive : ∀ b ∈ wr, ∀ z, s₂.heap.get? z = none → z ∉ wr ∨ True := fun _ _ _ _ => .inr trivial
  have kd : (compEnvC scope cl (s₂.heap.push (lstO #[] 0)).objs.size env).kindOf x = some .local := lookup_relabel_local lk
  have hrow : (r ++ List.replicate nl (none : Option V))[j]? = some none := by
    rw [List.getElem?_append_right (by rw [Z.F.len]; exact hj), List.getElem?_replicate]
    have := ck.len
    rw [if_pos (by rw [Z.F.len]; omega)]
  show codeAny (model W.prog W.w) A (.compStart _ 0 (.ref I) (.ref s₂.heap.objs.size) (compEnvC scope cl (s₂.heap.push (lstO #[] 0)).objs.size env)) _ _
  refine comp_core (s := { s₂ with heap := h₄, toks := s₂.toks + 0 }) (s₀ := s) (c0 := 0) Z.H Z.G hw hnew hD0 hC0 hDC ?_ ?_ hv kd hrow (fun y c hy => ?_) (hifs _ _) (helt _ _) (st₂.trans st4) H4 F4 (hw.stay h0 H₂ H4 st4 (fun b hb => ⟨(fun q => nomatch q), ?_⟩) (compD_stays eL) (compD_stays eL)) (k4 _ _ (Heap.get?_push_size _ rfl)) (fun f => ?_) (sm₂.trans ⟨rfl, rfl⟩) eL hlen
    fun s' io' us c a1 a2 a3 a4 a5 a6 a7 => fin s' io' _ _ L us c mL _ m₂ e2 eL hlen hD0 hC0 hDC a1 a2 a3 a4 a5 a6 a7
  · intro q; obtain ⟨_, hz⟩ := hw.alive h0 _ q; rw [cD] at hz; cases hz
  · intro q; obtain ⟨_, hz⟩ := hw.alive h0 _ q; rw [show (compEnvC scope cl (s₂.heap.push (lstO #[] 0)).objs.size env).locals = (s₂.heap.push (lstO #[] 0)).objs.size from rfl, cC] at hz; cases hz
  · obtain ⟨⟨_, o, ho, _⟩, _⟩ := Z.F.cells y c (g2 y c hy)
    exact ⟨o, ho⟩
  · intro q
    obtain ⟨e, he, hf⟩ := List.mem_filterMap.mp q
    obtain ⟨_, L', o, _, _, h1, _, _, h4, _⟩ := Z.G e he
    rw [h1] at hf; cases hf; rw [hnew b hb] at h4; cases h4
  · obtain ⟨o, ho, _⟩ := H₂.foot f
    rw [cD] at ho; cases ho

theorem side_ns {C : Addr} {mC : Str → Option Value} (hC0 : h₀.get? C = none) (hn : h.Ns C mC) (nf : ¬ Foot io C) (hs : Heap.SameBut C h h') : Side W [C] h₀ h io h' :=
  ⟨fun b o hb e => (hs.2 b (by simpa using hb)).trans e, fun b hb => by rw [List.mem_singleton.mp hb]; exact hC0, fun b hb => by rw [List.mem_singleton.mp hb]; exact nf, fun b hb o ho => by
    rw [List.mem_singleton.mp hb] at ho
    obtain ⟨o', es, ep, ho', hd, _⟩ := hn
    rw [ho'] at ho; cases ho; exact not_solid_dict hd⟩

theorem e_comp {elt iter : Expr} {ifs : List Expr} {scope : Scope} {px : Pos} {vis' : List (Option Str)} {nl j : Nat} {x : Str} {csrc : Lo → Mn (List V × Gd)} {cif : Lo → Mn Bool} {celt : Lo → Mn V}
    (ck : CompOk scope env vis vis' nl) (hs : ∀ x, foldedSetIterable iter env x = Pure.pure x) (hv : vis'[j]? = some (some x)) (hj : vis.length ≤ j) (hsrc : SiSrc W A fs env vis iter csrc)
    (hifs : ∀ cl C, SiB W A fs (compEnvC scope cl C env) vis' (tests ifs (compEnvC scope cl C env) true) cif) (helt : ∀ cl C, SiE W A fs (compEnvC scope cl C env) vis' (eval elt (compEnvC scope cl C env)) celt) :
    SiE W A fs env vis (eval (.ListComp elt [⟨.Name x px, iter, ifs, 0⟩] scope pos) env) (fun r => bnd (csrc r) fun p => bnd (compD p.2 (stepOf j (r ++ List.replicate nl none) cif celt) p.1) fun l => if l.length ≤ lid then alloc (.list l) else bad) := by
  intro s io m r Z hne
  dsimp only at hne ⊢
  refine comp_sim (Q := NP W [] (frs fs) s io m (VP W) _) (use := none) ck hs hv hj hsrc hifs helt Z hne (fun e s' q => q.bind .refl (.refl _)) ?_
  intro s' io' D C L us c mL p m₂ e1 e2 hl hD0 hC0 hDC st H hD hus nf hC sm
  obtain ⟨⟨mC, hn⟩, nfC⟩ := hC
  refine ⟨mC, hn, fun h' hs' => ?_⟩
  have sd : Side W [C] s.heap s'.heap io' h' := side_ns hC0 hn nfC hs'
  have st' := sd.step H st
  have H' := sd.hr H Z.H.keep
  have basD : W.base.get? D = none := by
    cases q : W.base.get? D with
    | none => rfl
    | some o => rw [Z.H.keep _ _ q] at hD0; cases hD0
  obtain ⟨a1, a2, a3⟩ := adopt st' H' (sd.keep _ _ (by simpa using hDC) hD) (hus.sol sd.sol) hl nf hD0 basD
  refine ⟨.ref mL.length, mL ++ [.list L], _, ?_, a1, a2, a3, sm.trans ⟨rfl, rfl⟩⟩
  show (csrc r m).bind _ = _
  rw [e1]
  show (compD p.2 _ p.1 m₂).bind _ = _
  rw [e2]
  show (if L.length ≤ lid then alloc (.list L) else bad) mL = _
  rw [if_pos hl]; rfl

noncomputable def compRes (csrc : Lo → Mn (List V × Gd)) (cif : Lo → Mn Bool) (celt : Lo → Mn V) (j nl i : Nat) (r : Lo) (m : MH) : Res (Fl × Lo) :=
  bnd (bnd (csrc r) fun p => bnd (compD p.2 (stepOf j (r ++ List.replicate nl none) cif celt) p.1) fun l => if l.length ≤ lid then alloc (.list l) else bad) (fun v => bnd (fun m => .ok (r.set i (some v)) m) fun r' => ret (Fl.next, r')) m
/-- a name takes a comprehension's list: the store goes ahead of the leave -/
theorem x_asg_comp {elt iter : Expr} {ifs : List Expr} {scope : Scope} {px py cpos : Pos} {vis' : List (Option Str)} {nl j i : Nat} {x y : Str} {csrc : Lo → Mn (List V × Gd)} {cif : Lo → Mn Bool} {celt : Lo → Mn V}
    (ck : CompOk scope env vis vis' nl) (hs : ∀ x, foldedSetIterable iter env x = Pure.pure x) (hv : vis'[j]? = some (some x)) (hj : vis.length ≤ j) (hsrc : SiSrc W A (env :: fs) env vis iter csrc)
    (hifs : ∀ cl C, SiB W A (env :: fs) (compEnvC scope cl C env) vis' (tests ifs (compEnvC scope cl C env) true) cif) (helt : ∀ cl C, SiE W A (env :: fs) (compEnvC scope cl C env) vis' (eval elt (compEnvC scope cl C env)) celt)
    (hsw : swapsWithSole [.Name y py] (.ListComp elt [⟨.Name x px, iter, ifs, 0⟩] scope cpos) pos.line env = Pure.pure true) (hyv : vis[i]? = some (some y)) (hyk : env.kindOf y = some .local) :
    SiS W A fs env vis (exec (.Assign [.Name y py] (.ListComp elt [⟨.Name x px, iter, ifs, 0⟩] scope cpos) pos) env) (fun r => bnd (bnd (csrc r) fun p => bnd (compD p.2 (stepOf j (r ++ List.replicate nl none) cif celt) p.1) fun l => if l.length ≤ lid then alloc (.list l) else bad) fun v => bnd (fun m => .ok (r.set i (some v)) m) fun r' => ret (.next, r')) := by
  intro s io m r Z
  show Si W (ownOf env) A (env :: fs) (SP W env vis) _ s io m (compRes csrc cif celt j nl i r m)
  intro hne
  rw [exec_Assign_arm]
  refine wpAny_bind (wpAny_standAt ?_)
  rw [hsw]
  refine wpAny_bind (wpAny_pure ?_)
  simp only [if_true]
  have hne0 : (csrc r m).bind (fun p => bnd (compD p.2 (stepOf j (r ++ List.replicate nl none) cif celt) p.1) fun l => if l.length ≤ lid then alloc (.list l) else bad) ≠ .bad := Res.bind_ne hne
  refine wpAny_bind ?_
  suffices main : wpAny (model W.prog W.w) A (comprehension (.ListComp elt [⟨.Name x px, iter, ifs, 0⟩] scope cpos) scope env (firstIterPos [⟨.Name x px, iter, ifs, 0⟩] cpos) (newList []) false (eval iter env) (some fun v => assignAll v ((assignEach [.Name y py] env).map (·.2)))) (fun _ s' => NP W (ownOf env) (frs (env :: fs)) s io m (SP W env vis) (compRes csrc cif celt j nl i r m) Flow.next s') (XP W (ownOf env) (env :: fs) s io m (compRes csrc cif celt j nl i r m)) s from
    wpAny_bind (wpAny_mono main (fun _ s' q => wpAny_pure (wpAny_pure q)) fun _ _ q => q)
  have lift : ∀ e s', XP W [] (env :: fs) s io m (csrc r m) e s' → XP W (ownOf env) (env :: fs) s io m (compRes csrc cif celt j nl i r m) e s' := fun e s' q => by
    obtain ⟨c', m', io', a, g, h1, h2, h3, h4, h5, h6⟩ := q
    refine ⟨c', m', io', a, g, ?_, h2, h3.wk (fun _ q => nomatch q), h4, h5, h6⟩
    simp only [compRes, bnd, h1, Res.bind]
  have go := comp_sim (W := W) (A := A) (fs := env :: fs) (env := env) (vis := vis) (s := s) (io := io) (m := m) (r := r) (pos := cpos) (fp := firstIterPos [⟨.Name x px, iter, ifs, 0⟩] cpos) (elt := elt) (iter := iter) (ifs := ifs) (scope := scope) (px := px) (vis' := vis') (nl := nl) (j := j) (x := x) (csrc := csrc) (cif := cif) (celt := celt)
    (use := some fun v => assignAll v ((assignEach [.Name y py] env).map (·.2))) (Q := fun _ s' => NP W (ownOf env) (frs (env :: fs)) s io m (SP W env vis) (compRes csrc cif celt j nl i r m) Flow.next s') (E := XP W (ownOf env) (env :: fs) s io m (compRes csrc cif celt j nl i r m)) ck hs hv hj hsrc hifs helt Z.sit hne0 lift
  refine go ?_
  clear go
  intro s' io' D C L us c mL p m₂ e1 e2 hl hD0 hC0 hDC st H hD hus nf hC sm
  obtain ⟨⟨mC, hn⟩, nfC⟩ := hC
  have eT : compRes csrc cif celt j nl i r m = .ok (.next, r.set i (some (.ref mL.length))) (mL ++ [.list L]) := by
    simp only [compRes, bnd, e1, Res.bind, e2, if_pos hl, alloc, ret]
  have basD : W.base.get? D = none := by
    cases q : W.base.get? D with
    | none => rfl
    | some o => rw [Z.H.keep _ _ q] at hD0; cases hD0
  obtain ⟨a1, a2, a3⟩ := adopt st H hD hus hl nf hD0 basD
  have nfC' : ¬ Foot (io' ++ [(D, D)]) C := fun f => by
    rcases foot_append f with f | ⟨q, hq, e⟩
    · exact nfC f
    · rw [List.mem_singleton.mp hq] at e
      rcases e with e | e <;> exact hDC e.symm
  have Z' : Stt W fs env vis s' (io' ++ [(D, D)]) (mL ++ [.list L]) r := ⟨a2, Z.F.step0 Z.H a1, Z.G.step0 a1, Z.fr, Z.dis⟩
  have hLo : ∃ o, s.heap.get? env.locals = some o := by obtain ⟨_, ⟨o, _, _, ho, _⟩, _⟩ := Z.F.loc; exact ⟨o, ho⟩
  have hCl : C ∉ ownOf env := fun q => by
    rcases List.mem_cons.mp q with e | q
    · obtain ⟨o, ho⟩ := hLo; rw [← e, hC0] at ho; cases ho
    · obtain ⟨⟨z, c'⟩, hm, hq⟩ := List.mem_filterMap.mp q
      obtain ⟨⟨_, o, ho, _⟩, _⟩ := Z.F.cells z C hq
      rw [hC0] at ho; cases ho
  have nfr : C ∉ frs (env :: fs) := fun q => by
    obtain ⟨e, he, hf⟩ := List.mem_filterMap.mp q
    obtain ⟨_, L', o, _, _, h1, _, _, h4, _⟩ := Z.sit.G e he
    rw [h1] at hf; cases hf; rw [hC0] at h4; cases h4
  have as := a_name (W := W) (fs := fs) (A := A) (pos := py) hyv (.inl hyk) s' _ _ r _ _ Z' a3 (fun q => nomatch q)
  have key : wpAny (model W.prog W.w) A (assign (.Name y py) env (.ref D)) (fun _ s'' => ∃ mC, s''.heap.Ns C mC ∧ ∀ h', Heap.SameBut C s''.heap h' → NP W (ownOf env) (frs (env :: fs)) s io m (SP W env vis) (compRes csrc cif celt j nl i r m) Flow.next { s'' with heap := h' }) (XP W (ownOf env) (env :: fs) s io m (compRes csrc cif celt j nl i r m)) s' := by
    refine wpAny_mono as (fun _ s'' q => ?_) fun e s'' q => ?_
    rotate_left
    · obtain ⟨c', m', io', a, g, h1, _⟩ := q; cases h1
    obtain ⟨r₂, m₃, io₃, e3, st3, H3, F3, sm3⟩ := q
    cases e3
    obtain ⟨oC, esC, epC, hoC, hdC, hrC⟩ := hn
    have hoC' := st3.keep _ _ hoC nfC' hCl nfr
    have hn3 : s''.heap.Ns C mC := ⟨oC, esC, epC, hoC', hdC, hrC⟩
    refine ⟨mC, hn3, fun h' hs' => ?_⟩
    have nfC3 := st3.nofoot hoC nfC'
    have sd : Side W [C] s.heap s''.heap io₃ h' := side_ns hC0 hn3 nfC3 hs'
    have stT := (a1.wk (own' := ownOf env) fun _ q => nomatch q).trans st3
    have F' : FR W h' io₃ env vis (r.set i (some (.ref mL.length))) := F3.side sd hLo fun z c hz => by obtain ⟨⟨_, o, ho, _⟩, _⟩ := Z.F.cells z c hz; exact ⟨o, ho⟩
    exact ⟨(.next, r.set i (some (.ref mL.length))), _, io₃, eT, sd.step H3 stT, sd.hr H3 Z.H.keep, ⟨.next, F'⟩, (sm.trans sm3).trans ⟨rfl, rfl⟩⟩
  exact key
end
end Mini

/-! Builtins. -/
namespace Mini
open PySem PySem.W

noncomputable def tyName : Ty → String
  | .int => "int"
  | .bool => "bool"
  | .str => "str"
  | .list => "list"
  | .tuple => "tuple"
  | .dict => "dict"
  | .cls _ => ""

section
variable {W : Wd} {K : Frag} {h h' h₀ : Heap} {fs : List Env} {env : Env} {vis : List (Option Str)} {s s' s₀ : Shared} {io io' io₀ : Io} {m m' m₀ : MH} {r r' : Lo} {fr fr' own own' : List Addr} {A : Around} {n : Nat} {pos p : Pos}

theorem isi_sim {S : Sig} (H : HR W s.heap io m) {t : Ty} (ht : ∀ c, t ≠ .cls c) {v : V} {u : Value} (k : VR W s.heap io v u) : Si W own A fs BV (call (.builtin "isinstance") [u, .type (tyName t)]) s io m (isiV S v t m) := by
  cases t with
  | int =>
    cases k with
    | none => exact fun _ => IsiPair.NoneType_int (np_bool  H)
    | bool b => exact fun _ => IsiPair.bool_int (np_bool (tk := s.toks) H)
    | int i t => exact fun _ => IsiPair.int_int (np_bool (tk := s.toks) H)
    | str x t hx => exact fun _ => IsiPair.str_int (np_bool  H)
    | tup ha hx => exact fun _ => IsiPair.tuple_int ha rfl (np_bool  H)
    | @ref n a d hi =>
      show Si W own A fs BV _ s io m (match m[n]? with | some (.list _) => .ok (Ty.int == Ty.list) m | some (.dict _ _) => .ok (Ty.int == Ty.dict) m | _ => .bad)
      split
      · rename_i xs hm
        refine hide fun GOAL hGOAL => ?_
        obtain ⟨_, us, c, h1, _⟩ := H.obj _ _ _ hi hm
        refine hGOAL ?_
        clear hGOAL GOAL
        exact fun _ => IsiPair.list_int h1 rfl (np_bool  H)
      · rename_i kvs e hm
        refine hide fun GOAL hGOAL => ?_
        obtain ⟨_, o, es, c, h1, h2, _⟩ := H.obj _ _ _ hi hm
        refine hGOAL ?_
        clear hGOAL GOAL
        exact fun _ => IsiPair.dict_int h1 h2.1 (np_bool  H)
      · exact .bad
    | scr => exact .bad
  | bool =>
    cases k with
    | none => exact fun _ => IsiPair.NoneType_bool (np_bool  H)
    | bool b => exact fun _ => IsiPair.bool_bool (np_bool (tk := s.toks) H)
    | int i t => exact fun _ => IsiPair.int_bool (np_bool  H)
    | str x t hx => exact fun _ => IsiPair.str_bool (np_bool  H)
    | tup ha hx => exact fun _ => IsiPair.tuple_bool ha rfl (np_bool  H)
    | @ref n a d hi =>
      show Si W own A fs BV _ s io m (match m[n]? with | some (.list _) => .ok (Ty.bool == Ty.list) m | some (.dict _ _) => .ok (Ty.bool == Ty.dict) m | _ => .bad)
      split
      · rename_i xs hm
        refine hide fun GOAL hGOAL => ?_
        obtain ⟨_, us, c, h1, _⟩ := H.obj _ _ _ hi hm
        refine hGOAL ?_
        clear hGOAL GOAL
        exact fun _ => IsiPair.list_bool h1 rfl (np_bool  H)
      · rename_i kvs e hm
        refine hide fun GOAL hGOAL => ?_
        obtain ⟨_, o, es, c, h1, h2, _⟩ := H.obj _ _ _ hi hm
        refine hGOAL ?_
        clear hGOAL GOAL
        exact fun _ => IsiPair.dict_bool h1 h2.1 (np_bool  H)
      · exact .bad
    | scr => exact .bad
  | str =>
    cases k with
    | none => exact fun _ => IsiPair.NoneType_str (np_bool  H)
    | bool b => exact fun _ => IsiPair.bool_str (np_bool  H)
    | int i t => exact fun _ => IsiPair.int_str (np_bool  H)
    | str x t hx => exact fun _ => IsiPair.str_str (np_bool (tk := s.toks) H)
    | tup ha hx => exact fun _ => IsiPair.tuple_str ha rfl (np_bool  H)
    | @ref n a d hi =>
      show Si W own A fs BV _ s io m (match m[n]? with | some (.list _) => .ok (Ty.str == Ty.list) m | some (.dict _ _) => .ok (Ty.str == Ty.dict) m | _ => .bad)
      split
      · rename_i xs hm
        refine hide fun GOAL hGOAL => ?_
        obtain ⟨_, us, c, h1, _⟩ := H.obj _ _ _ hi hm
        refine hGOAL ?_
        clear hGOAL GOAL
        exact fun _ => IsiPair.list_str h1 rfl (np_bool  H)
      · rename_i kvs e hm
        refine hide fun GOAL hGOAL => ?_
        obtain ⟨_, o, es, c, h1, h2, _⟩ := H.obj _ _ _ hi hm
        refine hGOAL ?_
        clear hGOAL GOAL
        exact fun _ => IsiPair.dict_str h1 h2.1 (np_bool  H)
      · exact .bad
    | scr => exact .bad
  | list =>
    cases k with
    | none => exact fun _ => IsiPair.NoneType_list (np_bool  H)
    | bool b => exact fun _ => IsiPair.bool_list (np_bool  H)
    | int i t => exact fun _ => IsiPair.int_list (np_bool  H)
    | str x t hx => exact fun _ => IsiPair.str_list (np_bool  H)
    | tup ha hx => exact fun _ => IsiPair.tuple_list ha rfl (np_bool  H)
    | @ref n a d hi =>
      show Si W own A fs BV _ s io m (match m[n]? with | some (.list _) => .ok (Ty.list == Ty.list) m | some (.dict _ _) => .ok (Ty.list == Ty.dict) m | _ => .bad)
      split
      · rename_i xs hm
        refine hide fun GOAL hGOAL => ?_
        obtain ⟨_, us, c, h1, _⟩ := H.obj _ _ _ hi hm
        refine hGOAL ?_
        clear hGOAL GOAL
        exact fun _ => IsiPair.list_list h1 rfl (np_bool (tk := s.toks) H)
      · rename_i kvs e hm
        refine hide fun GOAL hGOAL => ?_
        obtain ⟨_, o, es, c, h1, h2, _⟩ := H.obj _ _ _ hi hm
        refine hGOAL ?_
        clear hGOAL GOAL
        exact fun _ => IsiPair.dict_list h1 h2.1 (np_bool  H)
      · exact .bad
    | scr => exact .bad
  | tuple =>
    cases k with
    | none => exact fun _ => IsiPair.NoneType_tuple (np_bool  H)
    | bool b => exact fun _ => IsiPair.bool_tuple (np_bool  H)
    | int i t => exact fun _ => IsiPair.int_tuple (np_bool  H)
    | str x t hx => exact fun _ => IsiPair.str_tuple (np_bool  H)
    | tup ha hx => exact fun _ => IsiPair.tuple_tuple ha rfl (np_bool (tk := s.toks) H)
    | @ref n a d hi =>
      show Si W own A fs BV _ s io m (match m[n]? with | some (.list _) => .ok (Ty.tuple == Ty.list) m | some (.dict _ _) => .ok (Ty.tuple == Ty.dict) m | _ => .bad)
      split
      · rename_i xs hm
        refine hide fun GOAL hGOAL => ?_
        obtain ⟨_, us, c, h1, _⟩ := H.obj _ _ _ hi hm
        refine hGOAL ?_
        clear hGOAL GOAL
        exact fun _ => IsiPair.list_tuple h1 rfl (np_bool  H)
      · rename_i kvs e hm
        refine hide fun GOAL hGOAL => ?_
        obtain ⟨_, o, es, c, h1, h2, _⟩ := H.obj _ _ _ hi hm
        refine hGOAL ?_
        clear hGOAL GOAL
        exact fun _ => IsiPair.dict_tuple h1 h2.1 (np_bool  H)
      · exact .bad
    | scr => exact .bad
  | dict =>
    cases k with
    | none => exact fun _ => IsiPair.NoneType_dict (np_bool  H)
    | bool b => exact fun _ => IsiPair.bool_dict (np_bool  H)
    | int i t => exact fun _ => IsiPair.int_dict (np_bool  H)
    | str x t hx => exact fun _ => IsiPair.str_dict (np_bool  H)
    | tup ha hx => exact fun _ => IsiPair.tuple_dict ha rfl (np_bool  H)
    | @ref n a d hi =>
      show Si W own A fs BV _ s io m (match m[n]? with | some (.list _) => .ok (Ty.dict == Ty.list) m | some (.dict _ _) => .ok (Ty.dict == Ty.dict) m | _ => .bad)
      split
      · rename_i xs hm
        refine hide fun GOAL hGOAL => ?_
        obtain ⟨_, us, c, h1, _⟩ := H.obj _ _ _ hi hm
        refine hGOAL ?_
        clear hGOAL GOAL
        exact fun _ => IsiPair.list_dict h1 rfl (np_bool  H)
      · rename_i kvs e hm
        refine hide fun GOAL hGOAL => ?_
        obtain ⟨_, o, es, c, h1, h2, _⟩ := H.obj _ _ _ hi hm
        refine hGOAL ?_
        clear hGOAL GOAL
        exact fun _ => IsiPair.dict_dict h1 h2.1 (np_bool (tk := s.toks) H)
      · exact .bad
    | scr => exact .bad
  | cls c => exact absurd rfl (ht c)
end
end Mini

/-! Builtins, again. -/
namespace Mini
open PySem PySem.W PyProof.Rows

noncomputable def biFn : Bi → Value
  | .len => .builtin "len"
  | .abs => .builtin "abs"
  | .int => .type "int"
  | .str => .type "str"
  | .list => .type "list"
  | .tuple => .type "tuple"
  | .dict => .type "dict"
  | .sorted => .builtin "sorted"
  | .max2 => .builtin "max"
  | .min2 => .builtin "min"
  | .max1 => .builtin "max"
  | .lenset => .none

section
variable {W : Wd} {K : Frag} {h h' h₀ : Heap} {fs : List Env} {env : Env} {vis : List (Option Str)} {s s' s₀ : Shared} {io io' io₀ : Io} {m m' m₀ : MH} {r r' : Lo} {fr fr' own own' : List Addr} {A : Around} {n : Nat} {pos p : Pos}

theorem np_new {D : Addr} {us : Array Value} {c tk : Nat} {L : List V} (H : HR W s.heap io m) (hk : ∀ b o, s.heap.get? b = some o → h'.get? b = some o) (hD : h'.get? D = some (lstO us c)) (hus : VRs W s.heap io L us.toList) (hl : L.length ≤ lid) (hD0 : s.heap.get? D = none) :
    NP W own fr s io m (VP W) (alloc (.list L) m) (.ref D) { s with heap := h', toks := tk } := by
  have st : Step own fr s.heap io m h' io m := .of_keeps H hk
  have nf : ¬ Foot io D := fun f => by
    refine hide fun GOAL hGOAL => ?_
    obtain ⟨o, ho, _⟩ := H.foot f
    refine hGOAL ?_
    clear hGOAL GOAL
    rw [hD0] at ho; cases ho
  have basD : W.base.get? D = none := by
    cases q : W.base.get? D with
    | none => rfl
    | some o => rw [H.keep _ _ q] at hD0; cases hD0
  refine hide fun GOAL hGOAL => ?_
  obtain ⟨a1, a2, a3⟩ := adopt st (H.of_keeps hk) hD (hus.step st) hl nf hD0 basD
  refine hGOAL ?_
  clear hGOAL GOAL
  exact ⟨_, _, _, rfl, a1, a2, a3, rfl, rfl⟩

theorem small_fit {k : Nat} (hk : k ≤ lid) : (k : Int) < 2 ^ 63 := by have : lid = 4194304 := rfl; omega

theorem ints_of {xs : List V} {is : List Int} {us : List Value} (h : isIntL xs = some is) (k : VRs W s.heap io xs us) : IntsAre us is ∧ is.length = xs.length := by
  induction xs generalizing is us with
  | nil => cases k; cases h; exact ⟨.nil, rfl⟩
  | cons x xs ih =>
    cases k with
    | cons k1 k2 =>
      cases k1 <;> simp only [isIntL] at h <;> first | cases h | skip
      cases q : isIntL xs with
      | none => rw [q] at h; cases h
      | some js =>
        rw [q] at h
        simp only [Option.map_some, Option.some.injEq] at h
        subst h
        obtain ⟨a, b⟩ := ih q k2
        exact ⟨.cons _ _ a, by simp [b]⟩
theorem vrs_ints {us : List Value} {is : List Int} (k : IntsAre us is) : VRs W h io (is.map V.int) us := by
  induction k with
  | nil => exact .nil
  | cons n t _ ih => exact .cons (.int n t) ih

theorem insI_permM (x : Int) : ∀ l : List Int, (Mini.insI x l).Perm (x :: l)
  | [] => .refl _
  | y :: r => by
    unfold Mini.insI; split
    · exact .refl _
    · exact ((insI_permM x r).cons y).trans (.swap _ _ _)
theorem sortI_permM : ∀ ns, (Mini.sortI ns).Perm ns
  | [] => .refl _
  | x :: r => (insI_permM x _).trans ((sortI_permM r).cons x)
theorem insI_risesM (x : Int) : ∀ l : List Int, l.Pairwise (· ≤ ·) → (Mini.insI x l).Pairwise (· ≤ ·)
  | [], _ => by simp [Mini.insI]
  | y :: r, h => by
    obtain ⟨h1, h2⟩ := List.pairwise_cons.mp h
    unfold Mini.insI; split
    · refine List.pairwise_cons.mpr ⟨fun z hz => ?_, h⟩
      rcases List.mem_cons.mp hz with rfl | hz
      · assumption
      · have := h1 z hz; omega
    · refine List.pairwise_cons.mpr ⟨fun z hz => ?_, insI_risesM x r h2⟩
      rcases List.mem_cons.mp ((insI_permM x r).mem_iff.mp hz) with rfl | hz
      · omega
      · exact h1 z hz
theorem sortI_risesM : ∀ ns, (Mini.sortI ns).Pairwise (· ≤ ·)
  | [] => .nil
  | x :: r => insI_risesM x _ (sortI_risesM r)
theorem eq_sortIM {ns ns' : List Int} (hp : ns'.Perm ns) (hs : ns'.Pairwise (· ≤ ·)) : ns' = Mini.sortI ns :=
  List.Perm.eq_of_pairwise (fun _ _ _ _ a b => Int.le_antisymm a b) hs (sortI_risesM ns) (hp.trans (sortI_permM ns).symm)

/-- a dict of whole keys, in the kit's words -/
theorem int_dict (H : HR W s.heap io m) {k : Nat} {p : Addr × Addr} {kvs : List (Ky × V)} {e : Nat} {is : List Int} (hi : io[k]? = some p) (hm : m[k]? = some (.dict kvs e)) (hk : isKeyI kvs = some is) :
    ∃ (l : List (Int × Value)) (ep : Nat), s.heap.DictAt (intKind W.prog W.w) p.1 l ep ∧ l.map (·.1) = is ∧ is.length = kvs.length ∧ kvs.length ≤ lid := by
  refine hide fun GOAL hGOAL => ?_
  obtain ⟨_, o, es, c, h1, h2, h3, h4, h5, h6⟩ := H.obj _ _ _ hi hm
  refine hGOAL ?_
  clear hGOAL GOAL
  have keys : ∀ (kvs : List (Ky × V)) (is : List Int), isKeyI kvs = some is → kvs.map (·.1) = is.map Ky.int := by
    intro kvs
    induction kvs with
    | nil => intro is h; cases h; rfl
    | cons q r ih =>
      intro is h
      obtain ⟨q1, q2⟩ := q
      cases q1 <;> simp only [isKeyI] at h <;> first | cases h | skip
      cases w : isKeyI r with
      | none => rw [w] at h; cases h
      | some js =>
        rw [w] at h
        simp only [Option.map_some, Option.some.injEq] at h
        subst h
        simp [ih js w]
  have ke := keys kvs is hk
  have hall : ∀ q ∈ kvs, ∃ j, q.1 = Ky.int j := fun q hq => by
    have : q.1 ∈ kvs.map (·.1) := List.mem_map.mpr ⟨q, hq, rfl⟩
    rw [ke] at this
    refine hide fun GOAL hGOAL => ?_
    obtain ⟨j, _, e⟩ := List.mem_map.mp this
    refine hGOAL ?_
    clear hGOAL GOAL
    exact ⟨j, e.symm⟩
  refine hide fun GOAL hGOAL => ?_
  obtain ⟨l, l1, l2, l3⟩ := h4.pairs intEmb hall
  refine hGOAL ?_
  clear hGOAL GOAL
  have l4 : l.map (·.1) = is := by
    rw [ke] at l2
    have : (l.map (·.1)).map Ky.int = is.map Ky.int := by rw [List.map_map]; exact l2
    exact (List.map_inj_right fun _ _ e => by cases e; rfl).mp this
  refine ⟨l, c, ⟨o, es, h1, h2, h3, ?_, l1, ?_⟩, l4, ?_, h6⟩
  · intro e he
    exact h4.keysOf intEmb hall e (by simpa using he)
  · rw [l4]
    rw [ke] at h5
    exact (List.pairwise_map.mp h5).imp fun h q => h (by rw [q])
  · have := congrArg List.length ke
    simpa using this.symm

noncomputable def biOk : Bi → Bool
  | .len => true
  | .int => true
  | .list => true
  | .sorted => true
  | _ => false

theorem key_ints {l : List (Int × Value)} {acc : Array Value} (h : ItemsOf (fun i v => ∃ k x, l[i]? = some (k, x) ∧ (intKind W.prog W.w).is k v = true) acc l.length) : IntsAre acc.toList (l.map (·.1)) := by
  have key : ∀ (l : List (Int × Value)) (vs : List Value), vs.length = l.length → (∀ (j : Nat) (v : Value), vs[j]? = some v → ∃ k x, l[j]? = some (k, x) ∧ (intKind W.prog W.w).is k v = true) → IntsAre vs (l.map (·.1)) := by
    intro l
    induction l with
    | nil => intro vs hl _; cases vs with
      | nil => exact .nil
      | cons => cases hl
    | cons q r ih =>
      intro vs hl hv
      cases vs with
      | nil => cases hl
      | cons v vs =>
        refine hide fun GOAL hGOAL => ?_
        obtain ⟨k, x, e1, e2⟩ := hv 0 v rfl
        refine hGOAL ?_
        clear hGOAL GOAL
        simp at e1
        subst e1
        have : ∃ t, v = .int k t := by
          cases v <;> simp [intKind, Value.isInt] at e2
          rename_i j t
          exact ⟨t, by rw [e2]⟩
        obtain ⟨t, rfl⟩ := this
        exact .cons k t (ih vs (by simpa using hl) fun j v e => by simpa using hv (j + 1) v (by simpa using e))
  exact key l acc.toList (by simpa using h.1) fun j v e => h.2 j v (by rw [← Array.getElem?_toList]; exact e)

theorem bi_cases {Pr : Bi → List V → Prop} (l1 : ∀ s, Pr .len [.str s]) (l2 : ∀ xs, Pr .len [.tup xs]) (l3 : ∀ ns, Pr .len [.scr ns]) (l4 : ∀ n, Pr .len [.ref n]) (i1 : ∀ c, Pr .int [.bool c]) (t1 : ∀ xs, Pr .list [.tup xs]) (t2 : ∀ n, Pr .list [.ref n])
    (o1 : ∀ n, Pr .sorted [.ref n]) (bad : ∀ b vs, biOk b = false ∨ biV b vs = (fun _ => .bad) → Pr b vs) (b : Bi) (vs : List V) : Pr b vs := by
  cases hb : biOk b with
  | false => exact bad b vs (.inl hb)
  | true =>
    cases vs with
    | nil => exact bad b [] (.inr (by cases b <;> rfl))
    | cons v vs =>
      cases vs with
      | nil =>
        cases b <;> first | (cases hb; done) | skip
        all_goals cases v <;> first | (exact l1 _) | (exact l2 _) | (exact l3 _) | (exact l4 _) | (exact i1 _) | (exact t1 _) | (exact t2 _) | (exact o1 _) | (exact bad _ _ (.inr rfl))
      | cons v' vs =>
        cases vs with
        | nil =>
          cases b <;> first | (exact bad _ _ (.inr rfl)) | (cases hb; done) | skip
          all_goals cases v <;> first | (exact bad _ _ (.inr rfl)) | skip
          all_goals cases v' <;> first | (exact bad _ _ (.inr rfl))
        | cons v'' vs => exact bad _ _ (.inr (by cases b <;> first | rfl | (cases v <;> first | rfl | (cases v' <;> rfl))))
theorem bi_sim (ok : WOk W) (R : AR A fs n) {b : Bi} (hb : biOk b = true) : SiF W A fs (biFn b) (biV b) := by
  intro s io m vs us H G hu
  have hh := R.handled
  revert us
  revert hb
  refine bi_cases (Pr := fun b vs => biOk b = true → ∀ us, VRs W s.heap io vs us → Si W [] A fs (VP W) (call (biFn b) us) s io m (biV b vs m)) ?_ ?_ ?_ ?_ ?_ ?_ ?_ ?_ ?_ b vs
  · intro x hb us hu
    cases hu with | cons k1 k2 => cases k2; cases k1 with | str x t hx =>
    show Si W [] A fs (VP W) _ s io m (if x.length ≤ lid then .ok (.int x.length) m else .bad)
    split
    · rename_i hl
      exact fun _ => P.len_str (by have := small_fit hl; omega) (np_val H (.int _ _))
    · exact .bad
  · intro xs hb us hu
    cases hu with | cons k1 k2 => cases k2; cases k1 with | @tup a ws c _ ha hx =>
    show Si W [] A fs (VP W) _ s io m (if xs.length ≤ lid then .ok (.int xs.length) m else .bad)
    split
    · rename_i hl
      have e : ws.size = xs.length := hx.size
      have := PyProof.Rows.len_tuple (prog := W.prog) (w := W.w) (A := A) (E := XP W [] fs s io m (.ok (.int xs.length) m : Res V)) (s := s) (Q := NP W [] (frs fs) s io m (VP W) (.ok (.int xs.length) m)) ⟨_, ha, rfl, c, rfl⟩ (by rw [e]; exact small_fit hl) (by rw [e]; exact np_val H (.int _ _))
      exact fun _ => this
    · exact .bad
  · intro ns hb us hu
    cases hu with | cons k1 k2 => cases k2; cases k1 with | @scr _ l o ws c hl hc hd hi hn =>
    have e : ws.size = ns.length := by simpa using hi.length
    refine fun _ => Calls.call_len_list ⟨o, H.keep _ _ hl, hc, c, hd⟩ (by rw [e]; exact small_fit hn) ?_
    rw [e]; exact np_val H (.int _ _)
  · intro k hb us hu
    cases hu with | cons k1 k2 => cases k2; cases k1 with | @ref k a d hi =>
    show Si W [] A fs (VP W) _ s io m (match m[k]? with | some (.list xs) => .ok (.int xs.length) m | some (.dict kvs _) => (match isKeyI kvs with | some _ => .ok (.int kvs.length) m | Option.none => .bad) | _ => .bad)
    split
    · rename_i xs hm
      refine hide fun GOAL hGOAL => ?_
      obtain ⟨_, ws, c, h1, h2, h3⟩ := H.obj _ _ _ hi hm
      refine hGOAL ?_
      clear hGOAL GOAL
      have e : ws.size = xs.length := h2.size
      refine fun _ => Calls.call_len_list ⟨_, h1, rfl, c, rfl⟩ (by rw [e]; exact small_fit h3) ?_
      rw [e]; exact np_val H (.int _ _)
    · rename_i kvs e hm
      split
      · rename_i is hk
        refine hide fun GOAL hGOAL => ?_
        obtain ⟨l, ep, q1, q2, q3, q4⟩ := int_dict H hi hm hk
        refine hGOAL ?_
        clear hGOAL GOAL
        have e : l.length = kvs.length := by rw [← q3, ← q2]; simp
        refine fun _ => call_len_dict (H.notSys ok ⟨_, List.mem_of_getElem? hi, .inl rfl⟩) q1.dictOf (by rw [e]; exact small_fit q4) ?_
        rw [e]; exact np_val H (.int _ _)
      · exact .bad
    · exact .bad
  · intro c hb us hu
    cases hu with | cons k1 k2 => cases k2; cases k1
                                  exact fun _ => call_int_bool (np_val H (.int _ _))
  · intro xs hb us hu
    cases hu with | cons k1 k2 => cases k2; cases k1 with | @tup a ws c xs ha hx =>
    show Si W [] A fs (VP W) _ s io m (if xs.length ≤ lid then alloc (.list xs) m else .bad)
    split
    · rename_i hl
      refine fun _ => call_list_seq a (.inr rfl) ha rfl rfl (fun h' c' hk hD => ?_) (by rw [hx.size]; exact sizeLine_lid hl)
      exact np_new (tk := s.toks) H hk hD hx hl (get_size _)
    · exact .bad
  · intro k hb us hu
    cases hu with | cons k1 k2 => cases k2; cases k1 with | @ref k a d hi =>
    show Si W [] A fs (VP W) _ s io m (match m[k]? with | some (.list xs) => alloc (.list xs) m | some (.dict kvs _) => (match isKeyI kvs with | some is => alloc (.list (is.map .int)) m | Option.none => .bad) | _ => .bad)
    split
    · rename_i xs hm
      refine hide fun GOAL hGOAL => ?_
      obtain ⟨_, ws, c, h1, h2, h3⟩ := H.obj _ _ _ hi hm
      refine hGOAL ?_
      clear hGOAL GOAL
      refine fun _ => call_list_seq a (.inl rfl) h1 rfl rfl (fun h' c' hk hD => ?_) (by rw [h2.size]; exact sizeLine_lid h3)
      exact np_new (tk := s.toks) H hk hD h2 h3 (get_size _)
    · rename_i kvs e hm
      split
      · rename_i is hk
        refine hide fun GOAL hGOAL => ?_
        obtain ⟨l, ep, q1, q2, q3, q4⟩ := int_dict H hi hm hk
        refine hGOAL ?_
        clear hGOAL GOAL
        have e : l.length = kvs.length := by rw [← q3, ← q2]; simp
        refine fun _ => kdl_call (kdl_dict (H.notSys ok ⟨_, List.mem_of_getElem? hi, .inl rfl⟩)) hh q1 (by rw [e]; exact sizeLine_lid q4) fun h' tk acc c' hk' hD hacc => ?_
        have ia := key_ints hacc
        rw [q2] at ia
        exact np_new (tk := tk) H hk' hD (vrs_ints ia) (by simp [q3, q4]) (get_size _)
      · exact .bad
    · exact .bad
  · intro k hb us hu
    cases hu with | cons k1 k2 => cases k2; cases k1 with | @ref k a d hi =>
    show Si W [] A fs (VP W) _ s io m (match m[k]? with | some (.list xs) => (match isIntL xs with | some is => if is.length < 64 then alloc (.list ((sortI is).map .int)) m else .bad | Option.none => .bad) | some (.dict kvs _) => (match isKeyI kvs with | some is => if is.length < 64 then alloc (.list ((sortI is).map .int)) m else .bad | Option.none => .bad) | _ => .bad)
    split
    · rename_i xs hm
      split
      · rename_i is hk
        split
        · rename_i h64
          refine hide fun GOAL hGOAL => ?_
          obtain ⟨_, ws, c, h1, h2, h3⟩ := H.obj _ _ _ hi hm
          refine hGOAL ?_
          clear hGOAL GOAL
          obtain ⟨ia, il⟩ := ints_of (s := s) hk h2
          refine fun _ => sorted_ints (vs := ws.toList) (ns := is) ⟨_, h1, rfl, c, by simp⟩ ia (by rw [h2.length, ← il]; exact h64) fun out ns' a1 a2 a3 => ?_
          rw [eq_sortIM a2 a3] at a1
          obtain ⟨ce, hat⟩ := sortedAll_at s.heap ws.toList out
          refine np_new (tk := s.toks) H (fun b o e => sortedAll_old e) hat (vrs_ints a1) (by simp [(sortI_permM is).length_eq]; have : lid = 4194304 := rfl; omega) ?_
          cases q : s.heap.get? (s.heap.objs.size + 1) with
          | none => rfl
          | some o => exact absurd (Heap.lt_size q) (Nat.not_lt.mpr (Nat.le_succ _))
        · exact .bad
      · exact .bad
    · rename_i kvs e hm
      split
      · rename_i is hk
        split
        · rename_i h64
          refine hide fun GOAL hGOAL => ?_
          obtain ⟨l, ep, q1, q2, q3, q4⟩ := int_dict H hi hm hk
          refine hGOAL ?_
          clear hGOAL GOAL
          have e : l.length = kvs.length := by rw [← q3, ← q2]; simp
          intro _
          refine Calls.call_function_entry kind_sorted plain_sorted entry_sorted (args_sorted1 _) ?_
          unfold Builtin.«sorted»
          refine wpAny_bind (m := checkCount "sorted" 1 1 _) (wpAny_pure ?_)
          refine wpAny_bind (kdu_collect (A := A.in1) (kdl_dict (H.notSys ok ⟨_, List.mem_of_getElem? hi, .inl rfl⟩)) hh q1 (by rw [e]; exact sizeLine_lid q4) fun h' tk acc hk' hacc => ?_)
          have ia := key_ints hacc
          rw [q2] at ia
          have hl : acc.toList.length < 64 := by
            have : acc.size = l.length := hacc.1
            simp only [Array.length_toList]; omega
          refine wpAny_bind (wpAny_newList ?_ (by have : sizeLine = 16777216 := sizeLine_eq; omega))
          have hoL : (h'.push (seqObj "list" acc.toList.toArray 0)).get? h'.objs.size = some (seqObj "list" acc.toList.toArray 0) := Heap.get?_push_size _ rfl
          refine wpAny_bind (wpAny_holding (wpAny_call_entry slot_list_sort ⟨_, hoL, rfl⟩ entry_list_sort (list_sort_tree hoL ia hl fun out ns' a1 a2 a3 => ⟨_, rfl, ?_⟩) (args_list_sort _)))
          refine wpAny_pure ⟨_, rfl, ?_⟩
          rw [eq_sortIM a2 a3] at a1
          obtain ⟨ce, hat⟩ := sortedHeap_at (out := out) hoL
          have dead : s.heap.get? h'.objs.size = none := by
            cases q : s.heap.get? h'.objs.size with
            | none => rfl
            | some o => have := hk' _ _ q; rw [get_size] at this; cases this
          refine np_new (tk := tk) H (fun b o e => ?_) hat (vrs_ints a1) (by simp [(sortI_permM is).length_eq]; have : lid = 4194304 := rfl; omega) dead
          have e1 := push_keeps (seqObj "list" acc.toList.toArray 0) b o (hk' b o e)
          rw [sortedHeap_old (Nat.ne_of_lt (Heap.lt_size (hk' b o e))) (Heap.lt_size e1)]
          exact e1
        · exact .bad
      · exact .bad
    · exact .bad
  · intro b vs hq hb us hu
    rcases hq with hq | hq
    · rw [hq] at hb; cases hb
    · rw [hq]; exact .bad
end
end Mini

/-! Methods. -/
namespace Mini
open PySem PySem.W PyProof.Rows

noncomputable def smType : Nat → String
  | 0 => "list"
  | 1 => "dict"
  | _ => "str"
noncomputable def smName : Sm → String
  | .append => "append"
  | .pop => "pop"
  | .clear => "clear"
  | .get => "get"
  | .join => "join"
  | .split => "split"
  | .count => "count"
  | .index => "index"
noncomputable def smId (k : Nat) (n : Sm) : String := match k, n with
  | 0, .append => "list.append"
  | 0, .pop => "list.pop"
  | _, _ => "str.join"

section
variable {W : Wd} {K : Frag} {h h' h₀ : Heap} {fs : List Env} {env : Env} {vis : List (Option Str)} {s s' s₀ : Shared} {io io' io₀ : Io} {m m' m₀ : MH} {r r' : Lo} {fr fr' own own' : List Addr} {A : Around} {n : Nat} {pos p : Pos}

theorem np_setList {α : Type} {P : Heap → Io → V → α → Prop} (H : HR W s.heap io m) {i : Nat} {p : Addr × Addr} {xs xs' : List V} (hi : io[i]? = some p) (hm : m[i]? = some (.list xs)) {h' : Heap} {tk : Nat} (hs : Heap.SameBut p.1 s.heap h') {us' : Array Value} {c' : Nat} (h1 : h'.get? p.1 = some (lstO us' c')) (h2 : VRs W s.heap io xs' us'.toList) (h3 : xs'.length ≤ lid) {v : V} {u : α}
    (hP : ∀ st : Step own fr s.heap io m h' io (m.set i (.list xs')), P h' io v u) : NP W own fr s io m P (.ok v (m.set i (.list xs'))) u { s with heap := h', toks := tk } := by
  obtain ⟨hpp, _⟩ := H.obj _ _ _ hi hm
  have hk : ∀ b o, b ≠ p.1 → b ≠ p.2 → s.heap.get? b = some o → h'.get? b = some o := fun b o q _ ho => sameBut_keeps hs b o q ho
  have hd : ∀ kv ep, MObj.list xs = .dict kv ep → ∃ kvs2 e2, MObj.list xs' = .dict kvs2 e2 ∧ ep < e2 := fun kv ep q => by cases q
  have st : Step own fr s.heap io m h' io (m.set i (.list xs')) := step_set H hi hm hk ⟨_, h1⟩ ⟨_, hpp ▸ h1⟩ hd
  exact ⟨v, _, io, rfl, st, H.set hi hm hk hd ⟨_, h1⟩ ⟨_, hpp ▸ h1⟩ ⟨hpp, us', c', h1, h2.step st, h3⟩, hP st, rfl, rfl⟩

theorem texts_of {xs : List V} {l : List Str} {us : List Value} (h : isStrL xs = some l) (k : VRs W s.heap io xs us) : ∃ ts : List (Str × Tok), us = strValues ts ∧ ts.map (·.1) = l ∧ ∀ x ∈ l, PyData.strOk x = true := by
  induction xs generalizing l us with
  | nil => cases k; cases h; exact ⟨[], rfl, rfl, fun _ q => nomatch q⟩
  | cons x xs ih =>
    cases k with
    | cons k1 k2 =>
      cases k1 <;> simp only [isStrL] at h <;> first | cases h | skip
      rename_i y t hy
      cases q : isStrL xs with
      | none => rw [q] at h; cases h
      | some js =>
        rw [q] at h
        simp only [Option.map_some, Option.some.injEq] at h
        subst h
        refine hide fun GOAL hGOAL => ?_
        obtain ⟨ts, a, b, c⟩ := ih q k2
        refine hGOAL ?_
        clear hGOAL GOAL
        refine ⟨(y, t) :: ts, by rw [a]; rfl, by simp [b], fun z hz => ?_⟩
        rcases List.mem_cons.mp hz with rfl | hz
        · exact hy
        · exact c z hz

theorem glued_eq (sep : Str) (l : List Str) : Txt.join sep l = joinS sep l := by
  show (⟨(l.drop 1).foldl (fun acc p => acc ++ sep.cps ++ p.cps) (l.headD Str.empty).cps⟩ : Str) = joinS sep l
  cases l with
  | nil => rfl
  | cons x r =>
    show (⟨r.foldl (fun acc p => acc ++ sep.cps ++ p.cps) x.cps⟩ : Str) = r.foldl (fun acc p => acc ++ sep ++ p) x
    induction r generalizing x with
    | nil => rfl
    | cons y r ih => exact ih (x ++ sep ++ y)
theorem joinS_ok {sep : Str} {l : List Str} (hs : PyData.strOk sep = true) (hl : ∀ x ∈ l, PyData.strOk x = true) : PyData.strOk (joinS sep l) = true := by
  cases l with
  | nil => show PyData.strOk Str.empty = true; simp [PyData.strOk, Str.empty]
  | cons x r =>
    have key : ∀ (r : List Str) (x : Str), PyData.strOk x = true → (∀ y ∈ r, PyData.strOk y = true) → PyData.strOk (r.foldl (fun acc p => acc ++ sep ++ p) x) = true := by
      intro r
      induction r with
      | nil => intro x hx _; exact hx
      | cons y r ih => intro x hx hr; exact ih _ (strOk_append (strOk_append hx hs) (hr y (.head _))) fun z hz => hr z (.tail _ hz)
    exact key r x (hl x (.head _)) fun y hy => hl y (.tail _ hy)

theorem smH_of {k : Nat} {sm : Sm} (h : smH k sm = true) : (k = 0 ∧ sm = .append) ∨ (k = 0 ∧ sm = .pop) ∨ (k = 2 ∧ sm = .join) := by
  unfold smH at h
  split at h <;> first | (exact .inl ⟨rfl, rfl⟩) | (exact .inr (.inl ⟨rfl, rfl⟩)) | (exact .inr (.inr ⟨rfl, rfl⟩)) | cases h
theorem sm_at {q : Nat} {n : Sm} {vs : List V} {o : Option MObj} (hm : m[q]? = o) : smethV 0 (.ref q) n vs m = (match (generalizing := false) o with | some (.list xs) => listM q xs n vs m | _ => .bad) := by subst hm; rfl
theorem sm_list {o : V} {n : Sm} {vs : List V} {u : Value} {t : Sem Value} (kx : VR W s.heap io o u) (h : ∀ (q : Nat) (a d : Addr) (xs : List V), o = .ref q → u = .ref a → io[q]? = some (a, d) → m[q]? = some (.list xs) → Si W [] A fs (VP W) t s io m (listM q xs n vs m)) : Si W [] A fs (VP W) t s io m (smethV 0 o n vs m) := by
  cases kx with
  | @ref q a d hi =>
    cases hm : m[q]? with
    | none => rw [sm_at hm]; exact .bad
    | some o =>
      rw [sm_at hm]
      cases o with
      | list xs => exact h q a d xs rfl rfl hi hm
      | _ => exact .bad
  | _ => exact .bad
theorem sm_sim {k : Nat} {sm : Sm} (hH : smH k sm = true) (H : HR W s.heap io m) {x : V} {u : Value} {vs : List V} {us : List Value} (kx : VR W s.heap io x u) (hu : VRs W s.heap io vs us) :
    Si W [] A fs (VP W) (call (.builtin (smId k sm)) (u :: us)) s io m (smethV k x sm vs m) := by
  rcases smH_of hH with ⟨rfl, rfl⟩ | ⟨rfl, rfl⟩ | ⟨rfl, rfl⟩
  · refine sm_list kx fun q a d xs ho hu' hi hm => ?_
    subst ho; subst hu'
    obtain ⟨_, ws, c, h1, h2, h3⟩ := H.obj _ _ _ hi hm
    cases hu with
    | nil => exact .bad
    | cons k1 k2 =>
      cases k2 with
      | cons _ _ => exact .bad
      | nil =>
        show Si W [] A fs (VP W) _ s io m (if xs.length < lid then _ else _)
        split
        · rename_i hl
          refine fun _ => wpAny_list_append_plain ⟨c, h1⟩ (fun h' ⟨c', hD⟩ hs => ?_) (by rw [h2.size]; exact sizeLine_lid h3)
          exact np_setList (tk := s.toks) H hi hm hs hD (by rw [Array.toList_push]; exact h2.snoc k1) (by simp; omega) fun _ => .none
        · exact .bad
  · refine sm_list kx fun q a d xs ho hu' hi hm => ?_
    subst ho; subst hu'
    obtain ⟨_, ws, c, h1, h2, h3⟩ := H.obj _ _ _ hi hm
    cases hu with
    | nil => exact .bad
    | cons k1 k2 =>
      cases k2 with
      | cons _ _ => exact .bad
      | nil =>
        cases k1 with
        | int j t =>
          show Si W [] A fs (VP W) _ s io m (if 0 ≤ j then (match xs[j.toNat]? with | some v => if j.natAbs < 2 ^ 60 then .ok v (m.set q (.list (xs.eraseIdx j.toNat))) else .bad | Option.none => .bad) else .bad)
          by_cases hj : 0 ≤ j
          · rw [if_pos hj]
            cases hv : xs[j.toNat]? with
            | none => exact .bad
            | some v =>
              show Si W [] A fs (VP W) _ s io m (if j.natAbs < 2 ^ 60 then _ else _)
              by_cases hlt : j.natAbs < 2 ^ 60
              · rw [if_pos hlt]
                obtain ⟨y, hy, ky⟩ := h2.get hv
                have hlen : j.toNat < xs.length := (List.getElem?_eq_some_iff.mp hv).1
                have hy' : ws[j.toNat]? = some y := by rw [← Array.getElem?_toList]; exact hy
                have hsz : ws.size = xs.length := h2.size
                refine fun _ => call_meets PySem.F.slot_list_pop ⟨_, h1, rfl⟩ PySem.F.entry_list_pop (PySem.F.args_list_pop_2 _ _) (PySem.MeetsSeq.list_pop_at a ws c j t j.toNat y ?_ ?_ hy' (by rw [hsz]; exact sizeLine_lid h3)) ⟨h1, ?_⟩
                · unfold Builtin.List.listFitsIndex; simp; omega
                · unfold seqIndex?
                  rw [hsz]
                  simp only [show ¬ j < 0 from by omega, if_false]
                  rw [if_pos (by simp; omega)]
                · have q := PySem.IsL.update h1 (fun xs => xs.eraseIdxIfInBounds j.toNat)
                  have e : (ws.eraseIdxIfInBounds j.toNat).toList = ws.toList.eraseIdx j.toNat := by
                    unfold Array.eraseIdxIfInBounds
                    rw [dif_pos (by omega)]
                    simp
                  exact np_setList (tk := s.toks) H hi hm (Heap.SameBut.update ..) q (by rw [e]; exact h2.eraseIdx _) (by have := List.length_eraseIdx_le xs j.toNat; omega) fun st => ky.step st
              · rw [if_neg hlt]; exact .bad
          · rw [if_neg hj]; exact .bad
        | _ => exact .bad
  · cases kx with
    | str z tz hz =>
      cases hu with
      | nil => exact .bad
      | cons k1 k2 =>
        cases k2 with
        | cons _ _ => exact .bad
        | nil =>
          cases k1 with
          | @ref q a d hi =>
            show Si W [] A fs (VP W) _ s io m (match m[q]? with | some (.list xs) => (match isStrL xs with | some l => if sumLen z l ≤ lid then .ok (.str (joinS z l)) m else .bad | Option.none => .bad) | _ => .bad)
            cases hm : m[q]? with
            | none => exact .bad
            | some o =>
              cases o with
              | list xs =>
                cases hl : isStrL xs with
                | none => show Si W [] A fs (VP W) _ s io m (match isStrL xs with | some l => if sumLen z l ≤ lid then .ok (.str (joinS z l)) m else .bad | Option.none => .bad); rw [hl]; exact .bad
                | some l =>
                  show Si W [] A fs (VP W) _ s io m (match isStrL xs with | some l => if sumLen z l ≤ lid then .ok (.str (joinS z l)) m else .bad | Option.none => .bad)
                  rw [hl]
                  show Si W [] A fs (VP W) _ s io m (if sumLen z l ≤ lid then .ok (.str (joinS z l)) m else .bad)
                  by_cases hlen : sumLen z l ≤ lid
                  · rw [if_pos hlen]
                    obtain ⟨_, ws, c, h1, h2, h3⟩ := H.obj _ _ _ hi hm
                    obtain ⟨ts, e1, e2, e3⟩ := texts_of (s := s) hl h2
                    have htl : Builtin.Str.tooLong ((ts.map (·.1)).toArray.foldl (· + ·.length + z.length) 0) = false := by
                      rw [e2]
                      have : sizeLine = 16777216 := sizeLine_eq
                      have q : (l.toArray.foldl (· + ·.length + z.length) 0) = sumLen z l := by simp [sumLen]
                      rw [q]
                      unfold Builtin.Str.tooLong
                      have : lid = 4194304 := rfl
                      simp; omega
                    refine fun _ => call_meets PySem.F.slot_str_join (typeIs_str _ _ _) PySem.F.entry_str_join (PySem.F.args_str_join_2 _ _) (meets_str_join_list z tz a ts htl) ⟨⟨_, h1, rfl, c, ?_⟩, post_join ts ⟨joinFit_length htl, fun t' k' => ?_⟩⟩
                    · show Data.seq ws c = _
                      rw [← e1, Array.toArray_toList]
                    · rw [e2, glued_eq]
                      exact np_val H (.str _ _ (joinS_ok hz e3))
                  · rw [if_neg hlen]; exact .bad
              | _ => exact .bad
          | _ => exact .bad
    | _ => exact .bad
end
end Mini

/-! Method calls, stores by key, displays. -/
namespace Mini
open PySem PySem.W PyProof.Rows

noncomputable def noSuper : Expr → Bool
  | .Call (.Name _ _) [] [] _ => false
  | _ => true

section
variable {W : Wd} {K : Frag} {h h' h₀ : Heap} {fs : List Env} {env : Env} {vis : List (Option Str)} {s s' s₀ : Shared} {io io' io₀ : Io} {m m' m₀ : MH} {r r' : Lo} {fr fr' own own' : List Addr} {A : Around} {n : Nat} {pos p apos : Pos}

theorem base_of {o : Expr} {name : Str} (h : noSuper o = true) : attributeBase o name env (eval o env) = eval o env := by
  cases o <;> first | rfl | skip
  rename_i f es kws pos
  cases f <;> first | rfl | skip
  cases es <;> first | rfl | skip
  cases kws <;> first | rfl | (exact no_tf h)

theorem plain_all {es : List Expr} (h : noStar es = true) : (backTo pos (starEach es env)).all (fun x => !x.1) = true := by
  induction es with
  | nil => rfl
  | cons e rest ih => rw [star_cons h]; exact ih (noStar_tail h)

theorem sm_slot (k : Nat) (sm : Sm) (h : smH k sm = true) : PlainAttrs (smType k) ∧ Slot (smType k) (Str.ofString (smName sm)) (smId k sm) ∧ typeOf (.builtin (smId k sm)) = Pure.pure (.type "method_descriptor") := by
  rcases smH_of h with ⟨rfl, rfl⟩ | ⟨rfl, rfl⟩ | ⟨rfl, rfl⟩
  · exact ⟨PySem.F.plainAttrs_list, slot_list_append, type_list_append⟩
  · exact ⟨PySem.F.plainAttrs_list, PySem.F.slot_list_pop, PySem.F.type_list_pop⟩
  · exact ⟨PySem.F.plainAttrs_str, PySem.F.slot_str_join, PySem.F.type_str_join⟩
theorem e_smeth {o : Expr} {es : List Expr} {sm : Sm} {co : Lo → Mn V} {cl : Lo → Mn (List V)} (hb : noSuper o = true) (hs : noStar es = true) (hfew : es.length < 29) (hline : (apos.endLine == pos.line) = true) (ho : SiE W A fs env vis (eval o env) co) (hl : SiL W A fs env vis (spliced (backTo pos (starEach es env))) cl) :
    SiE W A fs env vis (eval (.Call (.Attribute o (Str.ofString (smName sm)) apos) es [] pos) env) (fun r => bnd (co r) fun x => fun m => match smK x m with | some k => if smH k sm then bnd (cl r) (fun vs => smethV k x sm vs) m else .bad | none => .bad) := by
  intro s io m r Z hne
  dsimp only at hne ⊢
  refine wpAny_Call_method_late (base_of hb) ?_ hline rfl ?_
  · rw [plain_all hs]; simp [backToKw, keywordEach]; omega
  refine wpAny_mono (ho s io m r Z (Res.bind_ne hne)) (fun ov s₁ q => ?_) fun _ _ q => q.bind .refl (.refl _)
  refine hide fun GOAL hGOAL => ?_
  obtain ⟨x, m₁, io₁, e1, st, H₁, kx, sm₁⟩ := q
  refine hGOAL ?_
  clear hGOAL GOAL
  have ee : ∀ f : V → Mn V, bnd (co r) f m = f x m₁ := fun f => by show (co r m).bind _ = _; rw [e1]; rfl
  rw [ee] at hne ⊢
  cases hk : smK x m₁ with
  | none => rw [hk] at hne; exact absurd rfl hne
  | some k =>
    rw [hk] at hne
    dsimp only at hne ⊢
    by_cases hH : smH k sm = true
    · rw [if_pos hH] at hne ⊢
      have Z₁ := Z.step H₁ st
      -- the owner's type
      have ty : s₁.TypeIs ov (smType k) ∧ (∀ a, ov = .ref a → ∃ ob, s₁.heap.get? a = some ob ∧ ob.dict = none) := by
        cases kx with
        | @ref q a d hi =>
          simp only [smK] at hk
          split at hk
          · rename_i xs hm
            cases hk
            refine hide fun GOAL hGOAL => ?_
            obtain ⟨_, ws, c, h1, _⟩ := H₁.obj _ _ _ hi hm
            refine hGOAL ?_
            clear hGOAL GOAL
            exact ⟨⟨_, h1, rfl⟩, fun b e => by cases e; exact ⟨_, h1, rfl⟩⟩
          · rename_i kvs e hm
            cases hk
            refine hide fun GOAL hGOAL => ?_
            obtain ⟨_, o', es', c, h1, h2, _⟩ := H₁.obj _ _ _ hi hm
            refine hGOAL ?_
            clear hGOAL GOAL
            exact ⟨⟨_, h1, h2.1⟩, fun b e => by cases e; exact ⟨_, h1, h2.2.1⟩⟩
          · cases hk
        | str x t hx => cases hk; exact ⟨typeIs_str _ _ _, fun _ e => nomatch e⟩
        | none => cases hk
        | bool b => cases hk
        | int i t => cases hk
        | tup => cases hk
        | scr => cases hk
      have call : wpAny (model W.prog W.w) A (callWith pos (.builtin (smId k sm)) [ov] (backTo pos (starEach es env)) []) (NP W [] (frs fs) s io m (VP W) (bnd (cl r) (fun vs => smethV k x sm vs) m₁)) (XP W [] fs s io m (bnd (cl r) (fun vs => smethV k x sm vs) m₁)) s₁ := by
        refine Calls.callWith_builtin (plain_of hs) (args_of hs ?_)
        refine wpAny_mono (hl s₁ io₁ m₁ r Z₁ (Res.bind_ne hne)) (fun us s₂ q => ?_) fun _ _ q => (q.mono st sm₁).bind .refl (.refl _)
        refine hide fun GOAL hGOAL => ?_
        obtain ⟨vs, m₂, io₂, e2, st2, H2, kv, sm2⟩ := q
        refine hGOAL ?_
        clear hGOAL GOAL
        have ee2 : bnd (cl r) (fun vs => smethV k x sm vs) m₁ = smethV k x sm vs m₂ := by show (cl r m₁).bind _ = _; rw [e2]; rfl
        rw [ee2] at hne ⊢
        exact wpAny_mono (sm_sim hH H2 (VR.step st2 kx) kv hne) (fun _ _ z => z.mono (st.trans st2) (sm₁.trans sm2)) fun _ _ z => z.mono (st.trans st2) (sm₁.trans sm2)
      refine hide fun GOAL hGOAL => ?_
      obtain ⟨p1, p2, p3⟩ := sm_slot k sm hH
      refine hGOAL ?_
      clear hGOAL GOAL
      exact ⟨_, _, p1, p2, p3, ty.1, ty.2, call⟩
    · rw [if_neg hH] at hne; exact absurd rfl hne

/-! ### stores by key -/
theorem put_sim (R : AR A fs n) (H : HR W s.heap io m) {x y v : V} {u iu vu : Value} (kx : VR W s.heap io x u) (ky : VR W s.heap io y iu) (kv : VR W s.heap io v vu) : Si W own A fs (fun _ _ (_ _ : Unit) => True) (setItem u iu vu) s io m (putIdx x y v m) := by
  unfold putIdx
  split
  · rename_i q
    cases kx with | @ref _ a d hi =>
    split
    · rename_i kvs e hm
      split
      · rename_i k hk
        split
        · rename_i hc
          simp only [Bool.and_eq_true, decide_eq_true_eq] at hc
          exact set_dict H R hi hm ky kv hk hc.1 hc.2
        · exact .bad
      · exact .bad
    · exact .bad
  · exact .bad

theorem a_idx {o i : Expr} {co ci : Lo → Mn V} (R : AR A (env :: fs) n) (ho : SiE W A (env :: fs) env vis (eval o env) co) (hi : SiE W A (env :: fs) env vis (eval i env) ci) : SiA W A fs env vis (.Subscript o i pos) (fun v r => bnd (co r) fun x => bnd (ci r) fun y => bnd (putIdx x y v) fun _ => ret r) := by
  intro s io m r v u Z k
  rw [arm_assign_Subscript]
  refine Si.bindE (Si.holding (ho s io m r Z.sit)) fun ov s₁ io₁ m₁ x _ st₁ H₁ kx sm₁ => ?_
  have Z₁ := Z.step H₁ st₁
  refine Si.bindE (Si.holding (hi s₁ io₁ m₁ r Z₁.sit)) fun iv s₂ io₂ m₂ y _ st₂ H₂ ky sm₂ => .standAt ?_
  have Z₂ := Z₁.step H₂ st₂
  refine Si.bindE (Si.holding (put_sim R H₂ (VR.step st₂ kx) ky ((VR.step st₁ k).step st₂))) fun _ s₃ io₃ m₃ _ _ st₃ H₃ _ sm₃ => ?_
  exact fun _ => wpAny_release ⟨r, m₃, io₃, rfl, .refl, H₃, Z₂.F.step0 Z₂.H st₃, .refl _⟩

/-! ### displays -/
theorem e_dict0 : SiE W A fs env vis (eval (.Dict [] [] pos) env) (fun _ => alloc (.dict [] 0)) := by
  intro s io m r Z
  exact fun _ => wpAny_Dict_empty (np_dict (tk := s.toks) Z.H)

/-! ### list(range(..)) -/
theorem e_listrange {x y : Str} {p' pos' : Pos} {es : List Expr} {cl : Lo → Mn (List V)} (R : AR A fs n) (gl : Gl W K) (e : nsIn K mainGlobals x = some none) (hv : bootBuiltins x = some (.type "range")) (hn : (x == ("__name__" : Str)) = false) (hx : env.kindOf x = some .globalImplicit) (hd : (x == ("__debug__" : Str)) = false)
    (e' : nsIn K mainGlobals y = some none) (hv' : bootBuiltins y = some (.type "list")) (hn' : (y == ("__name__" : Str)) = false) (hx' : env.kindOf y = some .globalImplicit) (hd' : (y == ("__debug__" : Str)) = false) (hs : noStar es = true)
    (hl : SiL W A fs env vis (spliced (backTo pos (starEach es env))) cl) :
    SiE W A fs env vis (eval (.Call (.Name y p') [.Call (.Name x p) es [] pos] [] pos') env) (fun r => bnd (cl r) fun vs => match rangeV vs with | some l => if l.length ≤ lid then alloc (.list l) else bad | none => bad) := by
  intro s io m r Z hne
  dsimp only at hne ⊢
  refine wpAny_Call_NameR (name_B gl Z e' hv' hn' hx' hd' (PySem.callWith_type rfl (args_of (s := s) (es := [.Call (.Name x p) es [] pos]) rfl ?_)))
  refine PyProof.Rows.spliced_more ?_
  refine wpAny_Call_NameR (name_B gl Z e hv hn hx hd (PySem.callWith_type (plain_of hs) (args_of hs ?_)))
  refine wpAny_mono (hl s io m r Z (Res.bind_ne hne)) (fun us s₁ q => ?_) fun _ _ q => q.bind .refl (.refl _)
  refine hide fun GOAL hGOAL => ?_
  obtain ⟨vs, m₁, io₁, e1, st, H, k, sm⟩ := q
  refine hGOAL ?_
  clear hGOAL GOAL
  have ee : ∀ f : List V → Mn V, bnd (cl r) f m = f vs m₁ := fun f => by show (cl r m).bind _ = _; rw [e1]; rfl
  rw [ee] at hne ⊢
  show wpAny (model W.prog W.w) A (call (.type "range") us) _ _ s₁
  cases hr : rangeV vs with
  | none => rw [hr] at hne; exact absurd rfl hne
  | some l =>
    rw [hr] at hne
    dsimp only at hne ⊢
    by_cases hll : l.length ≤ lid
    · rw [if_pos hll] at hne ⊢
      refine call_range_sim H k hr fun a b c o tk t u v ha hb hc h0 hsz hle hR => ?_
      refine PyProof.Rows.spliced_none ?_
      show wpAny (model W.prog W.w) A (call (.type "list") [.ref s₁.heap.objs.size]) _ _ _
      have st1 : Step [] (frs fs) s₁.heap io₁ m₁ (s₁.heap.push o) io₁ m₁ := .of_keeps H (push_keeps _)
      have H1 : HR W (s₁.heap.push o) io₁ m₁ := H.of_keeps (push_keeps _)
      refine call_list_range R.handled hR (range_small ha hb hc h0) hsz.symm (Nat.le_trans hll (by decide)) fun h' tk' acc c' hk hD hacc => ?_
      have va : VRs W (s₁.heap.push o) io₁ l acc.toList := by
        have key : ∀ (l : List V) (us : List Value), us.length = l.length → (∀ (i : Nat) (v : V) (w : Value), l[i]? = some v → us[i]? = some w → VR W (s₁.heap.push o) io₁ v w) → VRs W (s₁.heap.push o) io₁ l us := by
          intro l
          induction l with
          | nil => intro us hl _; cases us with
            | nil => exact .nil
            | cons => cases hl
          | cons z zs ih =>
            intro us hl hv
            cases us with
            | nil => cases hl
            | cons w ws => exact .cons (hv 0 z w rfl rfl) (ih ws (by simpa using hl) fun i v w' h1 h2 => hv (i + 1) v w' (by simpa using h1) (by simpa using h2))
        refine key l acc.toList ?_ fun i v w h1 h2 => ?_
        · have : acc.size = l.length := hacc.1
          simpa using this
        · obtain ⟨t', q⟩ := hacc.2 i w (by rw [← Array.getElem?_toList]; exact h2)
          rw [hle i v h1, q]
          exact .int _ _
      have dead : s₁.heap.get? (s₁.heap.push o).objs.size = none := by
        cases q : s₁.heap.get? (s₁.heap.push o).objs.size with
        | none => rfl
        | some o' => have := push_keeps o _ _ q; rw [get_size] at this; cases this
      exact (np_new (s := { s₁ with heap := s₁.heap.push o, toks := tk }) (tk := tk') H1 hk hD va hll (get_size _)).mono (st.trans st1) (sm.trans ⟨rfl, rfl⟩)
    · rw [if_neg hll] at hne; exact absurd rfl hne
end
end Mini

/-! The look at a tree: does it bear a core tree? -/
namespace Mini
open PySem PySem.W PyProof.Rows

structure Cx where
  sc : Scope
  vis : List (Option Str)
/-- what does not change in a program -/
structure Px where
  K : Frag
  S : Sig
  fa : Nat → Addr

noncomputable def isLoc (Γ : Cx) (i : Nat) (x : Str) : Bool := (match Γ.vis[i]? with | some (some y) => y == x | _ => false) && (match Γ.sc.names.lookup x with | some .local => true | some .cell => true | some .free => true | _ => false) && !(x == ("__debug__" : Str)) && !(x == ("__classdict__" : Str))
noncomputable def isTgt (Γ : Cx) (i : Nat) (x : Str) : Bool := (match Γ.vis[i]? with | some (some y) => y == x | _ => false) && (match Γ.sc.names.lookup x with | some .local => true | some .cell => true | _ => false)
noncomputable def isGlb (Γ : Cx) (x : Str) : Bool := (match Γ.sc.names.lookup x with | some .globalImplicit => true | _ => false) && !(x == ("__debug__" : Str)) && !(x == ("__name__" : Str))
noncomputable def isBlt (P : Px) (Γ : Cx) (x : Str) (id : String) : Bool := isGlb Γ x && (match nsIn P.K mainGlobals x with | some none => true | _ => false) && (match bootBuiltins x with | some (.builtin y) => y == id | _ => false)
noncomputable def isTyp (P : Px) (Γ : Cx) (x : Str) (id : String) : Bool := isGlb Γ x && (match nsIn P.K mainGlobals x with | some none => true | _ => false) && (match bootBuiltins x with | some (.type y) => y == id | _ => false)
noncomputable def isFun (P : Px) (Γ : Cx) (k : Nat) (x : Str) : Bool := isGlb Γ x && (match nsIn P.K mainGlobals x with | some (some (.ref a)) => a == P.fa k && (match P.K.lookup a with | some o => (match o.data with | .func _ => true | _ => false) | none => false) | _ => false)
noncomputable def isBi (P : Px) (Γ : Cx) (b : Bi) (x : Str) : Bool := match biFn b with
  | .builtin id => isBlt P Γ x id
  | .type id => isTyp P Γ x id
  | _ => false
noncomputable def isCst : Lt → Const → Bool
  | .none, .none => true
  | .bool b, .bool d => b == d
  | .int i, .int j => i == j
  | .str x, .str y => x == y && PyData.strOk x
  | _, _ => false
noncomputable def isOp : Bool → BoolOp → Bool
  | true, .And => true
  | false, .Or => true
  | _, _ => false
noncomputable def eV {β : Type} (d : β) (hBoolOp : BoolOp → List Expr → β) (hBinOp : Expr → Operator → Expr → β) (hUnaryOp : UnaryOp → Expr → β) (hIfExp : Expr → Expr → Expr → β) (hDict : List (Option Expr) → List Expr → β) (hSet : β) (hListComp : Expr → List Comprehension → Scope → β) (hSetComp : β) (hDictComp : β) (hCompare : Expr → List CmpOp → List Expr → β) (hCall : Expr → List Expr → List Keyword → Pos → β) (hConstant : Const → β) (hAttribute : Expr → Str → Pos → β) (hSubscript : Expr → Expr → β) (hName : Str → Pos → β) (hList : List Expr → β) (hTuple : List Expr → β) (hSlice : Option Expr → Option Expr → Option Expr → β) (e : Expr) : β := Expr.casesOn (motive_1 := fun _ => β) e (fun a0 a1 _ => hBoolOp a0 a1) (fun _ _ _ => d) (fun a0 a1 a2 _ => hBinOp a0 a1 a2) (fun a0 a1 _ => hUnaryOp a0 a1) (fun _ _ _ _ => d) (fun a0 a1 a2 _ => hIfExp a0 a1 a2) (fun a0 a1 _ => hDict a0 a1) (fun _ _ _ => hSet) (fun a0 a1 a2 _ => hListComp a0 a1 a2) (fun _ _ _ _ => hSetComp) (fun _ _ _ _ _ => hDictComp) (fun _ _ _ _ => d) (fun _ _ => d) (fun _ _ => d) (fun _ _ => d) (fun a0 a1 a2 _ => hCompare a0 a1 a2) (fun a0 a1 a2 a3 => hCall a0 a1 a2 a3) (fun _ _ _ _ => d) (fun _ _ => d) (fun a0 _ _ => hConstant a0) (fun a0 a1 a2 => hAttribute a0 a1 a2) (fun a0 a1 _ => hSubscript a0 a1) (fun _ _ => d) (fun a0 a1 => hName a0 a1) (fun a0 _ => hList a0) (fun a0 _ _ => hTuple a0) (fun a0 a1 a2 _ => hSlice a0 a1 a2)
noncomputable def noSlice : Expr → Bool := eV true (fun _ _ => true) (fun _ _ _ => true) (fun _ _ => true) (fun _ _ _ => true) (fun _ _ => true) true (fun _ _ _ => true) true true (fun _ _ _ => true) (fun _ _ _ _ => true) (fun _ => true) (fun _ _ _ => true) (fun _ _ => true) (fun _ _ => true) (fun _ => true) (fun _ => true) (fun _ _ _ => false)
noncomputable def noSet : Expr → Bool := eV true (fun _ _ => true) (fun _ _ _ => true) (fun _ _ => true) (fun _ _ _ => true) (fun _ _ => true) false (fun _ _ _ => true) true true (fun _ _ _ => true) (fun _ _ _ _ => true) (fun _ => true) (fun _ _ _ => true) (fun _ _ => true) (fun _ _ => true) (fun _ => true) (fun _ => true) (fun _ _ _ => true)
noncomputable def noneC : CE → Bool
  | .cnst .none => true
  | _ => false
/-- a test that is a value's truth -/
noncomputable def isNot : UnaryOp → Bool | .Not => true | _ => false
noncomputable def plainT : Expr → Bool := eV true (fun _ _ => false) (fun _ _ _ => true) (fun op _ => !isNot op) (fun _ _ _ => false) (fun _ _ => true) true (fun _ _ _ => true) true true (fun _ _ _ => false) (fun _ _ _ _ => true) (fun _ => true) (fun _ _ _ => true) (fun _ _ => true) (fun _ _ => true) (fun _ => true) (fun _ => true) (fun _ _ _ => true)

/-- the names that a comprehension sees -/
noncomputable def seen (scope : Scope) (x : Str) : List (Option Str) → List (Option Str)
  | [] => [some x]
  | o :: r => (match o with | some y => (match scope.names.lookup y with | some .free => some y | _ => none) | none => none) :: seen scope x r
noncomputable def relab (scope : Scope) (sc : Scope) : Scope :=
  { scope with names := scope.names.map fun (n, k) => if (k == .free && sc.kind == .function && sc.names.lookup n == some .cell) then (n, .cell) else (n, k) }
noncomputable def compIn (scope : Scope) (x : Str) (Γ : Cx) : Cx := ⟨relab scope Γ.sc, seen scope x Γ.vis⟩
noncomputable def compLk (scope : Scope) (x : Str) (Γ : Cx) : Bool :=
  scope.kind == .function && (scope.names.all fun p => !(p.2 == .local) || scope.names.lookup p.1 == some .local) && (scope.names.all fun p => !(p.2 == .cell)) &&
  (scope.names.all fun p => !(p.2 == .free) || (Γ.vis.contains (some p.1) && (Γ.sc.names.lookup p.1 == some .cell || Γ.sc.names.lookup p.1 == some .free))) && scope.names.lookup x == some .local && decide (Γ.vis.filterMap id).Nodup && Γ.sc.kind == .function

/-! ## views -/
noncomputable def vConst : Expr → Option Const := eV none (fun _ _ => none) (fun _ _ _ => none) (fun _ _ => none) (fun _ _ _ => none) (fun _ _ => none) none (fun _ _ _ => none) none none (fun _ _ _ => none) (fun _ _ _ _ => none) (fun c => some c) (fun _ _ _ => none) (fun _ _ => none) (fun _ _ => none) (fun _ => none) (fun _ => none) (fun _ _ _ => none)
noncomputable def vName : Expr → Option (Str × Pos) := eV none (fun _ _ => none) (fun _ _ _ => none) (fun _ _ => none) (fun _ _ _ => none) (fun _ _ => none) none (fun _ _ _ => none) none none (fun _ _ _ => none) (fun _ _ _ _ => none) (fun _ => none) (fun _ _ _ => none) (fun _ _ => none) (fun x p => some (x, p)) (fun _ => none) (fun _ => none) (fun _ _ _ => none)
noncomputable def vBin : Expr → Option (Expr × Operator × Expr) := eV none (fun _ _ => none) (fun l op r => some (l, op, r)) (fun _ _ => none) (fun _ _ _ => none) (fun _ _ => none) none (fun _ _ _ => none) none none (fun _ _ _ => none) (fun _ _ _ _ => none) (fun _ => none) (fun _ _ _ => none) (fun _ _ => none) (fun _ _ => none) (fun _ => none) (fun _ => none) (fun _ _ _ => none)
noncomputable def vUn : Expr → Option (UnaryOp × Expr) := eV none (fun _ _ => none) (fun _ _ _ => none) (fun op x => some (op, x)) (fun _ _ _ => none) (fun _ _ => none) none (fun _ _ _ => none) none none (fun _ _ _ => none) (fun _ _ _ _ => none) (fun _ => none) (fun _ _ _ => none) (fun _ _ => none) (fun _ _ => none) (fun _ => none) (fun _ => none) (fun _ _ _ => none)
noncomputable def vBool : Expr → Option (BoolOp × List Expr) := eV none (fun op es => some (op, es)) (fun _ _ _ => none) (fun _ _ => none) (fun _ _ _ => none) (fun _ _ => none) none (fun _ _ _ => none) none none (fun _ _ _ => none) (fun _ _ _ _ => none) (fun _ => none) (fun _ _ _ => none) (fun _ _ => none) (fun _ _ => none) (fun _ => none) (fun _ => none) (fun _ _ _ => none)
noncomputable def vCmp : Expr → Option (Expr × List CmpOp × List Expr) := eV none (fun _ _ => none) (fun _ _ _ => none) (fun _ _ => none) (fun _ _ _ => none) (fun _ _ => none) none (fun _ _ _ => none) none none (fun l ops cs => some (l, ops, cs)) (fun _ _ _ _ => none) (fun _ => none) (fun _ _ _ => none) (fun _ _ => none) (fun _ _ => none) (fun _ => none) (fun _ => none) (fun _ _ _ => none)
noncomputable def vIf : Expr → Option (Expr × Expr × Expr) := eV none (fun _ _ => none) (fun _ _ _ => none) (fun _ _ => none) (fun t x y => some (t, x, y)) (fun _ _ => none) none (fun _ _ _ => none) none none (fun _ _ _ => none) (fun _ _ _ _ => none) (fun _ => none) (fun _ _ _ => none) (fun _ _ => none) (fun _ _ => none) (fun _ => none) (fun _ => none) (fun _ _ _ => none)
noncomputable def vTup : Expr → Option (List Expr) := eV none (fun _ _ => none) (fun _ _ _ => none) (fun _ _ => none) (fun _ _ _ => none) (fun _ _ => none) none (fun _ _ _ => none) none none (fun _ _ _ => none) (fun _ _ _ _ => none) (fun _ => none) (fun _ _ _ => none) (fun _ _ => none) (fun _ _ => none) (fun _ => none) (fun es => some es) (fun _ _ _ => none)
noncomputable def vList : Expr → Option (List Expr) := eV none (fun _ _ => none) (fun _ _ _ => none) (fun _ _ => none) (fun _ _ _ => none) (fun _ _ => none) none (fun _ _ _ => none) none none (fun _ _ _ => none) (fun _ _ _ _ => none) (fun _ => none) (fun _ _ _ => none) (fun _ _ => none) (fun _ _ => none) (fun es => some es) (fun _ => none) (fun _ _ _ => none)
noncomputable def vDict : Expr → Option (List (Option Expr) × List Expr) := eV none (fun _ _ => none) (fun _ _ _ => none) (fun _ _ => none) (fun _ _ _ => none) (fun es fs => some (es, fs)) none (fun _ _ _ => none) none none (fun _ _ _ => none) (fun _ _ _ _ => none) (fun _ => none) (fun _ _ _ => none) (fun _ _ => none) (fun _ _ => none) (fun _ => none) (fun _ => none) (fun _ _ _ => none)
noncomputable def vSub : Expr → Option (Expr × Expr) := eV none (fun _ _ => none) (fun _ _ _ => none) (fun _ _ => none) (fun _ _ _ => none) (fun _ _ => none) none (fun _ _ _ => none) none none (fun _ _ _ => none) (fun _ _ _ _ => none) (fun _ => none) (fun _ _ _ => none) (fun x y => some (x, y)) (fun _ _ => none) (fun _ => none) (fun _ => none) (fun _ _ _ => none)
noncomputable def vSlice : Expr → Option (Option Expr × Option Expr × Option Expr) := eV none (fun _ _ => none) (fun _ _ _ => none) (fun _ _ => none) (fun _ _ _ => none) (fun _ _ => none) none (fun _ _ _ => none) none none (fun _ _ _ => none) (fun _ _ _ _ => none) (fun _ => none) (fun _ _ _ => none) (fun _ _ => none) (fun _ _ => none) (fun _ => none) (fun _ => none) (fun l h s => some (l, h, s))
noncomputable def vCall : Expr → Option (Expr × List Expr × List Keyword × Pos) := eV none (fun _ _ => none) (fun _ _ _ => none) (fun _ _ => none) (fun _ _ _ => none) (fun _ _ => none) none (fun _ _ _ => none) none none (fun _ _ _ => none) (fun f es kws pos => some (f, es, kws, pos)) (fun _ => none) (fun _ _ _ => none) (fun _ _ => none) (fun _ _ => none) (fun _ => none) (fun _ => none) (fun _ _ _ => none)
noncomputable def vAttr : Expr → Option (Expr × Str × Pos) := eV none (fun _ _ => none) (fun _ _ _ => none) (fun _ _ => none) (fun _ _ _ => none) (fun _ _ => none) none (fun _ _ _ => none) none none (fun _ _ _ => none) (fun _ _ _ _ => none) (fun _ => none) (fun x nm p => some (x, nm, p)) (fun _ _ => none) (fun _ _ => none) (fun _ => none) (fun _ => none) (fun _ _ _ => none)
noncomputable def vComp : Expr → Option (Expr × List Comprehension × Scope) := eV none (fun _ _ => none) (fun _ _ _ => none) (fun _ _ => none) (fun _ _ _ => none) (fun _ _ => none) none (fun e gs sc => some (e, gs, sc)) none none (fun _ _ _ => none) (fun _ _ _ _ => none) (fun _ => none) (fun _ _ _ => none) (fun _ _ => none) (fun _ _ => none) (fun _ => none) (fun _ => none) (fun _ _ _ => none)
noncomputable def vOne {α : Type} : List α → Option α | [x] => some x | _ => none
noncomputable def vTwo {α : Type} : List α → Option (α × α) | [x, y] => some (x, y) | _ => none
/-- a call by name -/
noncomputable def vCallN (e : Expr) : Option (Str × List Expr) := (vCall e).bind fun q => if q.2.2.1.isEmpty then (vName q.1).map fun x => (x.1, q.2.1) else none
noncomputable def isNeg : UnaryOp → Bool | .USub => true | _ => false

/-- what is gone over -/
noncomputable def mSrc (P : Px) (Γ : Cx) (f : List Expr → Bool) (k : IK) (e : Expr) : Bool := match k with
  | .expr => f [e]
  | .range => (vCallN e).any fun q => isTyp P Γ q.1 "range" && noStar q.2 && f q.2
  | .enum => false

mutual
noncomputable def mE (P : Px) (Γ : Cx) : CE → Expr → Bool
  | .cnst v, e => (vConst e).any fun c => isCst v c
  | .var i, e => (vName e).any fun x => isLoc Γ i x.1
  | .bin op a b, e => (vBin e).any fun q => decide (op = q.2.1) && mE P Γ a q.1 && mE P Γ b q.2.2
  | .neg a, e => (vUn e).any fun q => isNeg q.1 && mE P Γ a q.2
  | .not a, e => (vUn e).any fun q => isNot q.1 && mE P Γ a q.2
  | .boolop c as, e => (vBool e).any fun q => isOp c q.1 && mEs P Γ as q.2 && !as.isEmpty
  | .cmp a ops bs, e => (vCmp e).any fun q => decide (ops = q.2.1) && mE P Γ a q.1 && mEs P Γ bs q.2.2 && decide (ops.length = bs.length) && !bs.isEmpty && q.2.2.all noSet
  | .ite c a b, e => (vIf e).any fun q => mB P Γ c q.1 && mE P Γ a q.2.1 && mE P Γ b q.2.2
  | .tup as, e => (vTup e).any fun es => mEs P Γ as es && noStar es && decide (as.length ≤ 1000)
  | .list as, e => (vList e).any fun es => mEs P Γ as es && noStar es && decide (as.length ≤ 1000)
  | .dict ks vs, e => (vDict e).any fun q => ks.isEmpty && vs.isEmpty && q.1.isEmpty && q.2.isEmpty
  | .idx a i, e => (vSub e).any fun q => noSlice q.2 && mE P Γ a q.1 && mE P Γ i q.2
  | .slice a lo hi st, e => (vSub e).any fun q => mE P Γ a q.1 && (vSlice q.2).any fun t => t.1.elim (noneC lo) (fun l => mE P Γ lo l) && t.2.1.elim (noneC hi) (fun l => mE P Γ hi l) && t.2.2.elim (noneC st) (fun l => mE P Γ st l)
  | .call k as, e => (vCallN e).any fun q => isFun P Γ k q.1 && noStar q.2 && mEs P Γ as q.2
  | .bi b as, e => (vCallN e).any fun q => biOk b && isBi P Γ b q.1 && noStar q.2 && mEs P Γ as q.2
  | .smeth o n as, e => (vCall e).any fun q => (vAttr q.1).any fun t => t.2.1 == Str.ofString (smName n) && noSuper t.1 && noStar q.2.1 && decide (q.2.1.length < 29) && t.2.2.endLine == q.2.2.2.line && q.2.2.1.isEmpty && mE P Γ o t.1 && mEs P Γ as q.2.1
  | .isi a t, e => (vCallN e).any fun q => (vTwo q.2).any fun p => (vName p.2).any fun y => isBlt P Γ q.1 "isinstance" && isTyp P Γ y.1 (tyName t) && !(tyName t == "") && noStar [p.1] && mE P Γ a p.1
  | .listrange as, e => (vCallN e).any fun q => (vOne q.2).any fun e1 => (vCallN e1).any fun p => isTyp P Γ q.1 "list" && isTyp P Γ p.1 "range" && noStar p.2 && mEs P Γ as p.2
  | .comp elt t nl k src ifs, e => (vComp e).any fun q => (vOne q.2.1).any fun g => (vName g.target).any fun x => decide (t = .one Γ.vis.length) && decide (nl = 1) && g.is_async == 0 && compLk q.2.2 x.1 Γ && noSet g.iter && mSrc P Γ (fun es => mEs P Γ src es) k g.iter && mIfs P (compIn q.2.2 x.1 Γ) ifs g.ifs && mE P (compIn q.2.2 x.1 Γ) elt q.1
  | .glob _, _ => false
  | .fnv _, _ => false
  | .attr _ _, _ => false
  | .callv _ _, _ => false
  | .new _ _, _ => false
  | .meth _ _ _, _ => false
noncomputable def mEs (P : Px) (Γ : Cx) : List CE → List Expr → Bool
  | [], es => es.isEmpty
  | a :: as, es => match es with
    | [] => false
    | e :: es => mE P Γ a e && mEs P Γ as es
noncomputable def mB (P : Px) (Γ : Cx) : CB → Expr → Bool
  | .not b, e => (vUn e).any fun q => isNot q.1 && mB P Γ b q.2
  | .all c bs, e => (vBool e).any fun q => isOp c q.1 && mIfs P Γ bs q.2
  | .val c, e => (plainT e || (vCmp e).isSome) && mE P Γ c e
noncomputable def mIfs (P : Px) (Γ : Cx) : List CB → List Expr → Bool
  | [], es => es.isEmpty
  | b :: bs, es => match es with
    | [] => false
    | e :: es => mB P Γ b e && mIfs P Γ bs es
end

noncomputable def isComp : Expr → Bool := eV false (fun _ _ => false) (fun _ _ _ => false) (fun _ _ => false) (fun _ _ _ => false) (fun _ _ => false) false (fun _ _ _ => true) true true (fun _ _ _ => false) (fun _ _ _ _ => false) (fun _ => false) (fun _ _ _ => false) (fun _ _ => false) (fun _ _ => false) (fun _ => false) (fun _ => false) (fun _ _ _ => false)
noncomputable def sV {β : Type} (d : β) (hReturn : Option Expr → β) (hAssign : List Expr → Expr → Pos → β) (hFor : Expr → Expr → List Stmt → List Stmt → β) (hWhile : Expr → List Stmt → List Stmt → β) (hIf : Expr → List Stmt → List Stmt → β) (hRaise : Option Expr → Option Expr → β) (hTry : List Stmt → List ExceptHandler → List Stmt → List Stmt → β) (hExpr : Expr → β) (hPass : β) (hContinue : β) (e : Stmt) : β := Stmt.casesOn (motive_2 := fun _ => β) e (fun _ _ _ _ _ _ _ _ _ _ => d) (fun _ _ _ _ _ _ _ _ _ _ => d) (fun _ _ _ _ _ _ _ _ _ _ _ => d) (fun a0 _ => hReturn a0) (fun _ _ => d) (fun a0 a1 a2 => hAssign a0 a1 a2) (fun _ _ _ _ _ _ _ => d) (fun _ _ _ _ => d) (fun _ _ _ _ _ => d) (fun a0 a1 a2 a3 _ => hFor a0 a1 a2 a3) (fun _ _ _ _ _ => d) (fun a0 a1 a2 _ => hWhile a0 a1 a2) (fun a0 a1 a2 _ => hIf a0 a1 a2) (fun _ _ _ => d) (fun _ _ _ => d) (fun _ _ _ => d) (fun a0 a1 _ => hRaise a0 a1) (fun a0 a1 a2 a3 _ => hTry a0 a1 a2 a3) (fun _ _ _ _ _ => d) (fun _ _ _ => d) (fun _ _ => d) (fun _ _ _ _ => d) (fun _ _ => d) (fun _ _ => d) (fun a0 _ => hExpr a0) (fun _ => hPass) (fun _ => d) (fun _ => hContinue)
noncomputable def vAsg : Stmt → Option (List Expr × Expr × Pos) := sV none (fun _ => none) (fun ts v pos => some (ts, v, pos)) (fun _ _ _ _ => none) (fun _ _ _ => none) (fun _ _ _ => none) (fun _ _ => none) (fun _ _ _ _ => none) (fun _ => none) none none
noncomputable def vExp : Stmt → Option Expr := sV none (fun _ => none) (fun _ _ _ => none) (fun _ _ _ _ => none) (fun _ _ _ => none) (fun _ _ _ => none) (fun _ _ => none) (fun _ _ _ _ => none) (fun v => some v) none none
noncomputable def vIfS : Stmt → Option (Expr × List Stmt × List Stmt) := sV none (fun _ => none) (fun _ _ _ => none) (fun _ _ _ _ => none) (fun _ _ _ => none) (fun t x y => some (t, x, y)) (fun _ _ => none) (fun _ _ _ _ => none) (fun _ => none) none none
noncomputable def vFor : Stmt → Option (Expr × Expr × List Stmt × List Stmt) := sV none (fun _ => none) (fun _ _ _ => none) (fun t i b e => some (t, i, b, e)) (fun _ _ _ => none) (fun _ _ _ => none) (fun _ _ => none) (fun _ _ _ _ => none) (fun _ => none) none none
noncomputable def vWh : Stmt → Option (Expr × List Stmt × List Stmt) := sV none (fun _ => none) (fun _ _ _ => none) (fun _ _ _ _ => none) (fun t b e => some (t, b, e)) (fun _ _ _ => none) (fun _ _ => none) (fun _ _ _ _ => none) (fun _ => none) none none
noncomputable def vRet : Stmt → Option (Option Expr) := sV none (fun v => some v) (fun _ _ _ => none) (fun _ _ _ _ => none) (fun _ _ _ => none) (fun _ _ _ => none) (fun _ _ => none) (fun _ _ _ _ => none) (fun _ => none) none none
noncomputable def vCont : Stmt → Bool := sV false (fun _ => false) (fun _ _ _ => false) (fun _ _ _ _ => false) (fun _ _ _ => false) (fun _ _ _ => false) (fun _ _ => false) (fun _ _ _ _ => false) (fun _ => false) false true
noncomputable def vPass : Stmt → Bool := sV false (fun _ => false) (fun _ _ _ => false) (fun _ _ _ _ => false) (fun _ _ _ => false) (fun _ _ _ => false) (fun _ _ => false) (fun _ _ _ _ => false) (fun _ => false) true false
/-- a name takes a value: a comprehension's store goes ahead -/
noncomputable def okComp (Γ : Cx) (y : Str × Pos) (v : Expr) : Bool := !isComp v || (vComp v).any fun q => !(Γ.sc.names.lookup y.1 == some .local) || (y.2.line == v.pos.line && !(q.2.2.names.any fun (n, k) => n == y.1 && (k == .local || k == .cell)))
noncomputable def mT (Γ : Cx) (t : CT) (e : Expr) : Bool := match t with
  | .one i => (vName e).any fun x => isTgt Γ i x.1
  | .many _ => false
noncomputable def mAsg (P : Px) (Γ : Cx) (t : CTgt) (c : CE) (tg v : Expr) : Bool := match t with
  | .one t => mT Γ t tg && mE P Γ c v && (vName tg).any fun y => okComp Γ y v
  | .idx o i => (vSub tg).any fun q => mE P Γ o q.1 && mE P Γ i q.2 && mE P Γ c v && !isComp v
  | .attr _ _ => false
  | .idx2 _ _ _ _ => false
mutual
noncomputable def mS (P : Px) (Γ : Cx) : CS → Stmt → Bool
  | .asg t e, s => (vAsg s).any fun q => (vOne q.1).any fun tg => mAsg P Γ t e tg q.2.1
  | .exp e, s => (vExp s).any fun v => mE P Γ e v && !isComp v
  | .ite c a b, s => (vIfS s).any fun q => mB P Γ c q.1 && mSs P Γ a q.2.1 && mSs P Γ b q.2.2
  | .for_ k t src body, s => (vFor s).any fun q => q.2.2.2.isEmpty && mT Γ t q.1 && noSet q.2.1 && mSrc P Γ (fun es => mEs P Γ src es) k q.2.1 && mSs P Γ body q.2.2.1
  | .wh c body, s => (vWh s).any fun q => q.2.2.isEmpty && mB P Γ c q.1 && mSs P Γ body q.2.1
  | .ret e, s => (vRet s).any fun o => o.any fun v => mE P Γ e v
  | .cont, s => vCont s
  | .pass, s => vPass s
  | .rse _ _, _ => false
  | .try_ _ _ _ _, _ => false
noncomputable def mSs (P : Px) (Γ : Cx) : List CS → List Stmt → Bool
  | [], ss => ss.isEmpty
  | a :: as, ss => match ss with
    | [] => false
    | s :: ss => mS P Γ a s && mSs P Γ as ss
end

/-- a function -/
noncomputable def mF (P : Px) (k : Nat) (d : FnD) : Bool := match P.K.lookup (P.fa k) with
  | some o => (match o.data with
    | .func fd => (match fd.body with
      | .stmts body => fnHead P.K fd d && mSs P ⟨fd.scope, d.names.map some⟩ d.body body
      | _ => false)
    | _ => false)
  | none => false
noncomputable def mFs (P : Px) : Nat → List FnD → Bool
  | _, [] => true
  | k, d :: ds => mF P k d && mFs P (k + 1) ds
end Mini

/-! A tree that bears a core tree goes as the core tree does: expressions. -/
namespace Mini
open PySem PySem.W PyProof.Rows

structure Fx (W : Wd) (P : Px) (A : Around) (fs : List Env) (n : Nat) (F : Fns) : Prop where
  gl : Gl W P.K
  R : AR A fs n
  S : W.S = P.S
  fa : W.fa = P.fa
  calls : ∀ k, SiF W A fs (.ref (W.fa k)) (F k)

section
variable {W : Wd} {P : Px} {fs : List Env} {env : Env} {A : Around} {n : Nat} {F : Fns} {pos p : Pos} {Γ : Cx}

theorem glb_of {x : Str} (hsc : env.scope = Γ.sc) (h : isGlb Γ x = true) : env.kindOf x = some .globalImplicit ∧ (x == ("__debug__" : Str)) = false ∧ (x == ("__name__" : Str)) = false := by
  simp only [isGlb, Bool.and_eq_true, Bool.not_eq_true'] at h
  refine hide fun GOAL hGOAL => ?_
  obtain ⟨⟨h1, h2⟩, h3⟩ := h
  refine hGOAL ?_
  clear hGOAL GOAL
  refine ⟨?_, h2, h3⟩
  show env.scope.names.lookup x = _
  rw [hsc]
  split at h1
  · assumption
  · cases h1
theorem blt_of {x : Str} {id : String} (hsc : env.scope = Γ.sc) (h : isBlt P Γ x id = true) : env.kindOf x = some .globalImplicit ∧ (x == ("__debug__" : Str)) = false ∧ (x == ("__name__" : Str)) = false ∧ nsIn P.K mainGlobals x = some none ∧ bootBuiltins x = some (.builtin id) := by
  simp only [isBlt, Bool.and_eq_true] at h
  refine hide fun GOAL hGOAL => ?_
  obtain ⟨⟨h1, h2⟩, h3⟩ := h
  refine hGOAL ?_
  clear hGOAL GOAL
  refine hide fun GOAL hGOAL => ?_
  obtain ⟨a, b, c⟩ := glb_of hsc h1
  refine hGOAL ?_
  clear hGOAL GOAL
  refine ⟨a, b, c, ?_, ?_⟩
  · split at h2
    · assumption
    · cases h2
  · split at h3
    · rename_i e; rw [e, beq_iff_eq.mp h3]
    · cases h3
theorem typ_of {x : Str} {id : String} (hsc : env.scope = Γ.sc) (h : isTyp P Γ x id = true) : env.kindOf x = some .globalImplicit ∧ (x == ("__debug__" : Str)) = false ∧ (x == ("__name__" : Str)) = false ∧ nsIn P.K mainGlobals x = some none ∧ bootBuiltins x = some (.type id) := by
  simp only [isTyp, Bool.and_eq_true] at h
  refine hide fun GOAL hGOAL => ?_
  obtain ⟨⟨h1, h2⟩, h3⟩ := h
  refine hGOAL ?_
  clear hGOAL GOAL
  refine hide fun GOAL hGOAL => ?_
  obtain ⟨a, b, c⟩ := glb_of hsc h1
  refine hGOAL ?_
  clear hGOAL GOAL
  refine ⟨a, b, c, ?_, ?_⟩
  · split at h2
    · assumption
    · cases h2
  · split at h3
    · rename_i e; rw [e, beq_iff_eq.mp h3]
    · cases h3
theorem fun_of {x : Str} {k : Nat} (hsc : env.scope = Γ.sc) (h : isFun P Γ k x = true) : env.kindOf x = some .globalImplicit ∧ (x == ("__debug__" : Str)) = false ∧ nsIn P.K mainGlobals x = some (some (.ref (P.fa k))) ∧ ∃ o fd, P.K.lookup (P.fa k) = some o ∧ o.data = .func fd := by
  simp only [isFun, Bool.and_eq_true] at h
  obtain ⟨h1, h2⟩ := h
  refine hide fun GOAL hGOAL => ?_
  obtain ⟨a, b, _⟩ := glb_of hsc h1
  refine hGOAL ?_
  clear hGOAL GOAL
  split at h2
  · rename_i q e
    simp only [Bool.and_eq_true, beq_iff_eq] at h2
    obtain ⟨e1, h2⟩ := h2
    subst e1
    refine ⟨a, b, e, ?_⟩
    split at h2
    · rename_i o ho
      split at h2
      · rename_i fd hd; exact ⟨o, fd, ho, hd⟩
      · cases h2
    · cases h2
  · cases h2

theorem evs_len {S : Sig} : ∀ {cs : List CE} {r : Lo} {m : MH} {vs : List V} {m' : MH}, evs S F cs r m = .ok vs m' → vs.length = cs.length
  | [], r, m, vs, m', h => by cases h; rfl
  | c :: cs, r, m, vs, m', h => by
    have h' : (ev S F c r m).bind (fun x => bnd (evs S F cs r) fun xs => ret (x :: xs)) = .ok vs m' := h
    cases e1 : ev S F c r m with
    | bad => rw [e1] at h'; cases h'
    | exc k m1 => rw [e1] at h'; cases h'
    | ok x m1 =>
      rw [e1] at h'
      have h2 : (evs S F cs r m1).bind (fun xs => ret (x :: xs)) = .ok vs m' := h'
      cases e2 : evs S F cs r m1 with
      | bad => rw [e2] at h2; cases h2
      | exc k m2 => rw [e2] at h2; cases h2
      | ok xs m2 =>
        rw [e2] at h2; cases h2
        simp [evs_len e2]

theorem op_of {c : Bool} {op : BoolOp} (h : isOp c op = true) : (op = .And ∧ c = true) ∨ (op = .Or ∧ c = false) := by
  cases c <;> cases op <;> first | (exact absurd h Bool.false_ne_true) | simp

theorem seen_len (scope : Scope) (x : Str) : ∀ vis, (seen scope x vis).length = vis.length + 1
  | [] => rfl
  | _ :: r => by simp [seen, seen_len scope x r]
theorem seen_get (scope : Scope) (x : Str) : ∀ (vis : List (Option Str)) (i : Nat) (y : Str), (seen scope x vis)[i]? = some (some y) → (i = vis.length ∧ y = x) ∨ (vis[i]? = some (some y) ∧ scope.names.lookup y = some .free)
  | [], i, y, h => by
    cases i with
    | zero => simp [seen] at h; exact .inl ⟨rfl, h.symm⟩
    | succ i => simp [seen] at h
  | o :: r, i, y, h => by
    cases i with
    | zero =>
      simp only [seen, List.getElem?_cons_zero, Option.some.injEq] at h
      right
      split at h
      · split at h
        · rename_i e; cases h; exact ⟨rfl, e⟩
        · cases h
      · cases h
    | succ i =>
      simp only [seen, List.getElem?_cons_succ] at h
      rcases seen_get scope x r i y h with ⟨a, b⟩ | a
      · exact .inl ⟨by simp [a], b⟩
      · exact .inr (by simpa using a)
theorem seen_last (scope : Scope) (x : Str) : ∀ (vis : List (Option Str)), (seen scope x vis)[vis.length]? = some (some x)
  | [] => rfl
  | _ :: r => by simp [seen, seen_last scope x r]
theorem nodup_inj : ∀ {vis : List (Option Str)}, (vis.filterMap id).Nodup → ∀ (i j : Nat) (y : Str), vis[i]? = some (some y) → vis[j]? = some (some y) → i = j
  | [], _, i, j, y, h, _ => by simp at h
  | o :: r, hn, i, j, y, h1, h2 => by
    have tail : (r.filterMap id).Nodup := by
      cases o with
      | none => simpa using hn
      | some z => simp at hn; exact hn.2
    have no : o = some y → ∀ k : Nat, r[k]? = some (some y) → False := fun e k hk => by
      subst e
      simp at hn
      exact hn.1 (List.mem_of_getElem? hk)
    cases i with
    | zero =>
      cases j with
      | zero => rfl
      | succ j => simp at h1 h2; exact (no h1 j h2).elim
    | succ i =>
      cases j with
      | zero => simp at h1 h2; exact (no h2 i h1).elim
      | succ j => simp at h1 h2; rw [nodup_inj tail i j y h1 h2]

theorem compOk_of {scope : Scope} {x : Str} (hsc : env.scope = Γ.sc) (h : compLk scope x Γ = true) : CompOk scope env Γ.vis (seen scope x Γ.vis) 1 := by
  simp only [compLk, Bool.and_eq_true, beq_iff_eq, decide_eq_true_eq] at h
  refine hide fun GOAL hGOAL => ?_
  obtain ⟨⟨⟨⟨⟨⟨h1, h2⟩, h3⟩, h4⟩, h5⟩, h6⟩, h7⟩ := h
  refine hGOAL ?_
  clear hGOAL GOAL
  refine ⟨h1, fun q hq e => ?_, fun q hq e => ?_, fun q hq e => ?_, fun i y hy => ?_, fun i j y h1' h2' => ?_, seen_len ..⟩
  · have := List.all_eq_true.mp h2 q hq
    simpa [e] using this
  · have := List.all_eq_true.mp h3 q hq
    simp [e] at this
  · have := List.all_eq_true.mp h4 q hq
    simp only [e, beq_self_eq_true, Bool.not_true, Bool.false_or, Bool.and_eq_true, Bool.or_eq_true, beq_iff_eq] at this
    obtain ⟨a, b⟩ := this
    obtain ⟨i, hi⟩ := List.getElem?_of_mem (List.contains_iff_mem.mp a)
    refine ⟨i, hi, ?_⟩
    show env.scope.names.lookup q.1 = _ ∨ env.scope.names.lookup q.1 = _
    rw [hsc]; exact b
  · rcases seen_get scope x Γ.vis i y hy with ⟨a, b⟩ | ⟨a, b⟩
    · exact .inl ⟨by omega, by rw [b]; exact h5⟩
    · exact .inr ⟨a, b⟩
  · rcases seen_get scope x Γ.vis i y h1' with ⟨a, b⟩ | ⟨a, b⟩ <;> rcases seen_get scope x Γ.vis j y h2' with ⟨c, d⟩ | ⟨c, d⟩
    · omega
    · rw [b, h5] at d; cases d
    · rw [d, h5] at b; cases b
    · exact nodup_inj h6 i j y a c

theorem relab_eq {scope : Scope} (hsc : env.scope = Γ.sc) : relabel scope env = relab scope Γ.sc := by
  unfold relabel relab Env.kindOf
  rw [hsc]

theorem set_of {iter : Expr} (h : noSet iter = true) (x : Value) : foldedSetIterable iter env x = Pure.pure x := by
  unfold foldedSetIterable
  cases iter <;> first | (exact absurd h Bool.false_ne_true) | rfl
theorem marks_of {op : CmpOp} {e : Expr} (h : noSet e = true) : behindInMarks op e = false := by
  cases e <;> first | (exact absurd h Bool.false_ne_true) | rfl
theorem plain_of_test {e : Expr} (h : plainT e = true) : isTrue e env (eval e env) = (do let v ← eval e env; PySem.standAt e.pos; PySem.holding [v] (truthy v)) := by
  cases e <;> first | rfl | (exact absurd h Bool.false_ne_true) | skip
  rename_i op x pos
  cases op <;> first | rfl | (exact absurd h Bool.false_ne_true)
end
end Mini

/-! A tree that bears a core tree goes as the core tree does: expressions, whole. -/
namespace Mini
open PySem PySem.W PyProof.Rows

section
variable {W : Wd} {P : Px} {fs : List Env} {A : Around} {n : Nat} {F : Fns}

theorem e_isi {vis : List (Option Str)} {env : Env} {x y : Str} {a : Expr} {pos px py : Pos} {t : Ty} {ca : Lo → Mn V} {K : Frag} (gl : Gl W K) (R : AR A fs n) (e1 : nsIn K mainGlobals x = some none) (b1 : bootBuiltins x = some (.builtin "isinstance")) (n1 : (x == ("__name__" : Str)) = false) (k1 : env.kindOf x = some .globalImplicit) (d1 : (x == ("__debug__" : Str)) = false)
    (e2 : nsIn K mainGlobals y = some none) (b2 : bootBuiltins y = some (.type (tyName t))) (n2 : (y == ("__name__" : Str)) = false) (k2 : env.kindOf y = some .globalImplicit) (d2 : (y == ("__debug__" : Str)) = false) (ht : ∀ c, t ≠ .cls c) (hs : noStar [a] = true) (ha : SiE W A fs env vis (eval a env) ca) :
    SiE W A fs env vis (eval (.Call (.Name x px) [a, .Name y py] [] pos) env) (fun r => bnd (ca r) fun v => bnd (isiV W.S v t) fun b => ret (.bool b)) := by
  intro s io m r Z hne
  dsimp only at hne ⊢
  have hs' : noStar [a, .Name y py] = true := by cases a <;> first | rfl | exact absurd hs Bool.false_ne_true
  refine wpAny_Call_NameR (name_B gl Z e1 b1 n1 k1 d1 (Calls.callWith_builtin (plain_of hs') (args_of hs' ?_)))
  refine PyProof.Rows.spliced_more ?_ (star_cons hs')
  refine wpAny_mono (ha s io m r Z (Res.bind_ne hne)) (fun u s₁ q => ?_) fun _ _ q => q.bind .refl (.refl _)
  obtain ⟨v, m₁, io₁, e, st, H, k, sm⟩ := q
  have ee : ∀ f : V → Mn V, bnd (ca r) f m = f v m₁ := fun f => by show (ca r m).bind _ = _; rw [e]; rfl
  rw [ee] at hne ⊢
  refine PyProof.Rows.spliced_more (name_B gl (Z.step H st) e2 b2 n2 k2 d2 ?_) rfl
  refine PyProof.Rows.spliced_none ?_
  show wpAny (model W.prog W.w) A (call (.builtin "isinstance") [u, .type (tyName t)]) _ _ s₁
  refine wpAny_mono (isi_sim (W := W) (A := A) (fs := fs) (own := []) (S := W.S) H ht k (Res.bind_ne hne)) (fun w s₂ q => ?_) fun _ _ q => (q.mono st sm).bind .refl (.refl _)
  obtain ⟨b, m₂, io₂, e', st2, H2, k2', sm2⟩ := q
  cases k2'
  exact ⟨.bool b, m₂, io₂, by show (isiV W.S v t m₁).bind _ = _; rw [e']; rfl, st.trans st2, H2, .bool b, sm.trans sm2⟩

theorem ty_of {t : Ty} (h : (!(tyName t == "")) = true) : ∀ c, t ≠ .cls c := fun c e => by subst e; exact absurd h Bool.false_ne_true


theorem no_some {α : Type} {a : α} {C : Prop} (h : (none : Option α) = some a) : C := by cases h
theorem no_true {C : Prop} (h : false = true) : C := by cases h
theorem no_cons {α : Type} {a : α} {l : List α} {C : Prop} (h : [] = a :: l) : C := by cases h
theorem no_succ {n : Nat} {C : Prop} (h : 0 = n + 1) : C := by cases h
theorem any_of {α : Type} {o : Option α} {f : α → Bool} (h : o.any f = true) : ∃ a, o = some a ∧ f a = true := by
  cases o with
  | none => exact no_true h
  | some a => exact ⟨a, rfl, h⟩
noncomputable def IsConst (c : Const) (e : Expr) : Prop := ∃ k pos, e = .Constant c k pos
theorem vConst_of' {e : Expr} {c : Const} (h : vConst e = some c) : IsConst c e :=
  Expr.casesOn (motive_1 := fun e => vConst e = some c → IsConst c e) e (fun _ _ _ h => no_some h) (fun _ _ _ h => no_some h) (fun _ _ _ _ h => no_some h) (fun _ _ _ h => no_some h) (fun _ _ _ _ h => no_some h) (fun _ _ _ _ h => no_some h) (fun _ _ _ h => no_some h) (fun _ _ _ h => no_some h) (fun _ _ _ _ h => no_some h) (fun _ _ _ _ h => no_some h) (fun _ _ _ _ _ h => no_some h) (fun _ _ _ _ h => no_some h) (fun _ _ h => no_some h) (fun _ _ h => no_some h) (fun _ _ h => no_some h) (fun _ _ _ _ h => no_some h) (fun _ _ _ _ h => no_some h) (fun _ _ _ _ h => no_some h) (fun _ _ h => no_some h) (fun _ _ _ h => by cases h; exact ⟨_, _, rfl⟩) (fun _ _ _ h => no_some h) (fun _ _ _ h => no_some h) (fun _ _ h => no_some h) (fun _ _ h => no_some h) (fun _ _ h => no_some h) (fun _ _ _ h => no_some h) (fun _ _ _ _ h => no_some h) h
theorem vConst_of {e : Expr} {c : Const} (h : vConst e = some c) : ∃ k pos, e = .Constant c k pos := vConst_of' h
noncomputable def IsName (c : Str × Pos) (e : Expr) : Prop := e = .Name c.1 c.2
theorem vName_of' {e : Expr} {c : Str × Pos} (h : vName e = some c) : IsName c e :=
  Expr.casesOn (motive_1 := fun e => vName e = some c → IsName c e) e (fun _ _ _ h => no_some h) (fun _ _ _ h => no_some h) (fun _ _ _ _ h => no_some h) (fun _ _ _ h => no_some h) (fun _ _ _ _ h => no_some h) (fun _ _ _ _ h => no_some h) (fun _ _ _ h => no_some h) (fun _ _ _ h => no_some h) (fun _ _ _ _ h => no_some h) (fun _ _ _ _ h => no_some h) (fun _ _ _ _ _ h => no_some h) (fun _ _ _ _ h => no_some h) (fun _ _ h => no_some h) (fun _ _ h => no_some h) (fun _ _ h => no_some h) (fun _ _ _ _ h => no_some h) (fun _ _ _ _ h => no_some h) (fun _ _ _ _ h => no_some h) (fun _ _ h => no_some h) (fun _ _ _ h => no_some h) (fun _ _ _ h => no_some h) (fun _ _ _ h => no_some h) (fun _ _ h => no_some h) (fun _ _ h => by cases h; rfl) (fun _ _ h => no_some h) (fun _ _ _ h => no_some h) (fun _ _ _ _ h => no_some h) h
theorem vName_of {e : Expr} {c : Str × Pos} (h : vName e = some c) : e = .Name c.1 c.2 := vName_of' h
noncomputable def IsBin (c : Expr × Operator × Expr) (e : Expr) : Prop := ∃ pos, e = .BinOp c.1 c.2.1 c.2.2 pos
theorem vBin_of' {e : Expr} {c : Expr × Operator × Expr} (h : vBin e = some c) : IsBin c e :=
  Expr.casesOn (motive_1 := fun e => vBin e = some c → IsBin c e) e (fun _ _ _ h => no_some h) (fun _ _ _ h => no_some h) (fun _ _ _ _ h => by cases h; exact ⟨_, rfl⟩) (fun _ _ _ h => no_some h) (fun _ _ _ _ h => no_some h) (fun _ _ _ _ h => no_some h) (fun _ _ _ h => no_some h) (fun _ _ _ h => no_some h) (fun _ _ _ _ h => no_some h) (fun _ _ _ _ h => no_some h) (fun _ _ _ _ _ h => no_some h) (fun _ _ _ _ h => no_some h) (fun _ _ h => no_some h) (fun _ _ h => no_some h) (fun _ _ h => no_some h) (fun _ _ _ _ h => no_some h) (fun _ _ _ _ h => no_some h) (fun _ _ _ _ h => no_some h) (fun _ _ h => no_some h) (fun _ _ _ h => no_some h) (fun _ _ _ h => no_some h) (fun _ _ _ h => no_some h) (fun _ _ h => no_some h) (fun _ _ h => no_some h) (fun _ _ h => no_some h) (fun _ _ _ h => no_some h) (fun _ _ _ _ h => no_some h) h
theorem vBin_of {e : Expr} {c : Expr × Operator × Expr} (h : vBin e = some c) : ∃ pos, e = .BinOp c.1 c.2.1 c.2.2 pos := vBin_of' h
noncomputable def IsUn (c : UnaryOp × Expr) (e : Expr) : Prop := ∃ pos, e = .UnaryOp c.1 c.2 pos
theorem vUn_of' {e : Expr} {c : UnaryOp × Expr} (h : vUn e = some c) : IsUn c e :=
  Expr.casesOn (motive_1 := fun e => vUn e = some c → IsUn c e) e (fun _ _ _ h => no_some h) (fun _ _ _ h => no_some h) (fun _ _ _ _ h => no_some h) (fun _ _ _ h => by cases h; exact ⟨_, rfl⟩) (fun _ _ _ _ h => no_some h) (fun _ _ _ _ h => no_some h) (fun _ _ _ h => no_some h) (fun _ _ _ h => no_some h) (fun _ _ _ _ h => no_some h) (fun _ _ _ _ h => no_some h) (fun _ _ _ _ _ h => no_some h) (fun _ _ _ _ h => no_some h) (fun _ _ h => no_some h) (fun _ _ h => no_some h) (fun _ _ h => no_some h) (fun _ _ _ _ h => no_some h) (fun _ _ _ _ h => no_some h) (fun _ _ _ _ h => no_some h) (fun _ _ h => no_some h) (fun _ _ _ h => no_some h) (fun _ _ _ h => no_some h) (fun _ _ _ h => no_some h) (fun _ _ h => no_some h) (fun _ _ h => no_some h) (fun _ _ h => no_some h) (fun _ _ _ h => no_some h) (fun _ _ _ _ h => no_some h) h
theorem vUn_of {e : Expr} {c : UnaryOp × Expr} (h : vUn e = some c) : ∃ pos, e = .UnaryOp c.1 c.2 pos := vUn_of' h
noncomputable def IsBool (c : BoolOp × List Expr) (e : Expr) : Prop := ∃ pos, e = .BoolOp c.1 c.2 pos
theorem vBool_of' {e : Expr} {c : BoolOp × List Expr} (h : vBool e = some c) : IsBool c e :=
  Expr.casesOn (motive_1 := fun e => vBool e = some c → IsBool c e) e (fun _ _ _ h => by cases h; exact ⟨_, rfl⟩) (fun _ _ _ h => no_some h) (fun _ _ _ _ h => no_some h) (fun _ _ _ h => no_some h) (fun _ _ _ _ h => no_some h) (fun _ _ _ _ h => no_some h) (fun _ _ _ h => no_some h) (fun _ _ _ h => no_some h) (fun _ _ _ _ h => no_some h) (fun _ _ _ _ h => no_some h) (fun _ _ _ _ _ h => no_some h) (fun _ _ _ _ h => no_some h) (fun _ _ h => no_some h) (fun _ _ h => no_some h) (fun _ _ h => no_some h) (fun _ _ _ _ h => no_some h) (fun _ _ _ _ h => no_some h) (fun _ _ _ _ h => no_some h) (fun _ _ h => no_some h) (fun _ _ _ h => no_some h) (fun _ _ _ h => no_some h) (fun _ _ _ h => no_some h) (fun _ _ h => no_some h) (fun _ _ h => no_some h) (fun _ _ h => no_some h) (fun _ _ _ h => no_some h) (fun _ _ _ _ h => no_some h) h
theorem vBool_of {e : Expr} {c : BoolOp × List Expr} (h : vBool e = some c) : ∃ pos, e = .BoolOp c.1 c.2 pos := vBool_of' h
noncomputable def IsCmp (c : Expr × List CmpOp × List Expr) (e : Expr) : Prop := ∃ pos, e = .Compare c.1 c.2.1 c.2.2 pos
theorem vCmp_of' {e : Expr} {c : Expr × List CmpOp × List Expr} (h : vCmp e = some c) : IsCmp c e :=
  Expr.casesOn (motive_1 := fun e => vCmp e = some c → IsCmp c e) e (fun _ _ _ h => no_some h) (fun _ _ _ h => no_some h) (fun _ _ _ _ h => no_some h) (fun _ _ _ h => no_some h) (fun _ _ _ _ h => no_some h) (fun _ _ _ _ h => no_some h) (fun _ _ _ h => no_some h) (fun _ _ _ h => no_some h) (fun _ _ _ _ h => no_some h) (fun _ _ _ _ h => no_some h) (fun _ _ _ _ _ h => no_some h) (fun _ _ _ _ h => no_some h) (fun _ _ h => no_some h) (fun _ _ h => no_some h) (fun _ _ h => no_some h) (fun _ _ _ _ h => by cases h; exact ⟨_, rfl⟩) (fun _ _ _ _ h => no_some h) (fun _ _ _ _ h => no_some h) (fun _ _ h => no_some h) (fun _ _ _ h => no_some h) (fun _ _ _ h => no_some h) (fun _ _ _ h => no_some h) (fun _ _ h => no_some h) (fun _ _ h => no_some h) (fun _ _ h => no_some h) (fun _ _ _ h => no_some h) (fun _ _ _ _ h => no_some h) h
theorem vCmp_of {e : Expr} {c : Expr × List CmpOp × List Expr} (h : vCmp e = some c) : ∃ pos, e = .Compare c.1 c.2.1 c.2.2 pos := vCmp_of' h
noncomputable def IsIf (c : Expr × Expr × Expr) (e : Expr) : Prop := ∃ pos, e = .IfExp c.1 c.2.1 c.2.2 pos
theorem vIf_of' {e : Expr} {c : Expr × Expr × Expr} (h : vIf e = some c) : IsIf c e :=
  Expr.casesOn (motive_1 := fun e => vIf e = some c → IsIf c e) e (fun _ _ _ h => no_some h) (fun _ _ _ h => no_some h) (fun _ _ _ _ h => no_some h) (fun _ _ _ h => no_some h) (fun _ _ _ _ h => no_some h) (fun _ _ _ _ h => by cases h; exact ⟨_, rfl⟩) (fun _ _ _ h => no_some h) (fun _ _ _ h => no_some h) (fun _ _ _ _ h => no_some h) (fun _ _ _ _ h => no_some h) (fun _ _ _ _ _ h => no_some h) (fun _ _ _ _ h => no_some h) (fun _ _ h => no_some h) (fun _ _ h => no_some h) (fun _ _ h => no_some h) (fun _ _ _ _ h => no_some h) (fun _ _ _ _ h => no_some h) (fun _ _ _ _ h => no_some h) (fun _ _ h => no_some h) (fun _ _ _ h => no_some h) (fun _ _ _ h => no_some h) (fun _ _ _ h => no_some h) (fun _ _ h => no_some h) (fun _ _ h => no_some h) (fun _ _ h => no_some h) (fun _ _ _ h => no_some h) (fun _ _ _ _ h => no_some h) h
theorem vIf_of {e : Expr} {c : Expr × Expr × Expr} (h : vIf e = some c) : ∃ pos, e = .IfExp c.1 c.2.1 c.2.2 pos := vIf_of' h
noncomputable def IsTup (c : List Expr) (e : Expr) : Prop := ∃ k pos, e = .Tuple c k pos
theorem vTup_of' {e : Expr} {c : List Expr} (h : vTup e = some c) : IsTup c e :=
  Expr.casesOn (motive_1 := fun e => vTup e = some c → IsTup c e) e (fun _ _ _ h => no_some h) (fun _ _ _ h => no_some h) (fun _ _ _ _ h => no_some h) (fun _ _ _ h => no_some h) (fun _ _ _ _ h => no_some h) (fun _ _ _ _ h => no_some h) (fun _ _ _ h => no_some h) (fun _ _ _ h => no_some h) (fun _ _ _ _ h => no_some h) (fun _ _ _ _ h => no_some h) (fun _ _ _ _ _ h => no_some h) (fun _ _ _ _ h => no_some h) (fun _ _ h => no_some h) (fun _ _ h => no_some h) (fun _ _ h => no_some h) (fun _ _ _ _ h => no_some h) (fun _ _ _ _ h => no_some h) (fun _ _ _ _ h => no_some h) (fun _ _ h => no_some h) (fun _ _ _ h => no_some h) (fun _ _ _ h => no_some h) (fun _ _ _ h => no_some h) (fun _ _ h => no_some h) (fun _ _ h => no_some h) (fun _ _ h => no_some h) (fun _ _ _ h => by cases h; exact ⟨_, _, rfl⟩) (fun _ _ _ _ h => no_some h) h
theorem vTup_of {e : Expr} {c : List Expr} (h : vTup e = some c) : ∃ k pos, e = .Tuple c k pos := vTup_of' h
noncomputable def IsList (c : List Expr) (e : Expr) : Prop := ∃ pos, e = .List c pos
theorem vList_of' {e : Expr} {c : List Expr} (h : vList e = some c) : IsList c e :=
  Expr.casesOn (motive_1 := fun e => vList e = some c → IsList c e) e (fun _ _ _ h => no_some h) (fun _ _ _ h => no_some h) (fun _ _ _ _ h => no_some h) (fun _ _ _ h => no_some h) (fun _ _ _ _ h => no_some h) (fun _ _ _ _ h => no_some h) (fun _ _ _ h => no_some h) (fun _ _ _ h => no_some h) (fun _ _ _ _ h => no_some h) (fun _ _ _ _ h => no_some h) (fun _ _ _ _ _ h => no_some h) (fun _ _ _ _ h => no_some h) (fun _ _ h => no_some h) (fun _ _ h => no_some h) (fun _ _ h => no_some h) (fun _ _ _ _ h => no_some h) (fun _ _ _ _ h => no_some h) (fun _ _ _ _ h => no_some h) (fun _ _ h => no_some h) (fun _ _ _ h => no_some h) (fun _ _ _ h => no_some h) (fun _ _ _ h => no_some h) (fun _ _ h => no_some h) (fun _ _ h => no_some h) (fun _ _ h => by cases h; exact ⟨_, rfl⟩) (fun _ _ _ h => no_some h) (fun _ _ _ _ h => no_some h) h
theorem vList_of {e : Expr} {c : List Expr} (h : vList e = some c) : ∃ pos, e = .List c pos := vList_of' h
noncomputable def IsDict (c : List (Option Expr) × List Expr) (e : Expr) : Prop := ∃ pos, e = .Dict c.1 c.2 pos
theorem vDict_of' {e : Expr} {c : List (Option Expr) × List Expr} (h : vDict e = some c) : IsDict c e :=
  Expr.casesOn (motive_1 := fun e => vDict e = some c → IsDict c e) e (fun _ _ _ h => no_some h) (fun _ _ _ h => no_some h) (fun _ _ _ _ h => no_some h) (fun _ _ _ h => no_some h) (fun _ _ _ _ h => no_some h) (fun _ _ _ _ h => no_some h) (fun _ _ _ h => by cases h; exact ⟨_, rfl⟩) (fun _ _ _ h => no_some h) (fun _ _ _ _ h => no_some h) (fun _ _ _ _ h => no_some h) (fun _ _ _ _ _ h => no_some h) (fun _ _ _ _ h => no_some h) (fun _ _ h => no_some h) (fun _ _ h => no_some h) (fun _ _ h => no_some h) (fun _ _ _ _ h => no_some h) (fun _ _ _ _ h => no_some h) (fun _ _ _ _ h => no_some h) (fun _ _ h => no_some h) (fun _ _ _ h => no_some h) (fun _ _ _ h => no_some h) (fun _ _ _ h => no_some h) (fun _ _ h => no_some h) (fun _ _ h => no_some h) (fun _ _ h => no_some h) (fun _ _ _ h => no_some h) (fun _ _ _ _ h => no_some h) h
theorem vDict_of {e : Expr} {c : List (Option Expr) × List Expr} (h : vDict e = some c) : ∃ pos, e = .Dict c.1 c.2 pos := vDict_of' h
noncomputable def IsSub (c : Expr × Expr) (e : Expr) : Prop := ∃ pos, e = .Subscript c.1 c.2 pos
theorem vSub_of' {e : Expr} {c : Expr × Expr} (h : vSub e = some c) : IsSub c e :=
  Expr.casesOn (motive_1 := fun e => vSub e = some c → IsSub c e) e (fun _ _ _ h => no_some h) (fun _ _ _ h => no_some h) (fun _ _ _ _ h => no_some h) (fun _ _ _ h => no_some h) (fun _ _ _ _ h => no_some h) (fun _ _ _ _ h => no_some h) (fun _ _ _ h => no_some h) (fun _ _ _ h => no_some h) (fun _ _ _ _ h => no_some h) (fun _ _ _ _ h => no_some h) (fun _ _ _ _ _ h => no_some h) (fun _ _ _ _ h => no_some h) (fun _ _ h => no_some h) (fun _ _ h => no_some h) (fun _ _ h => no_some h) (fun _ _ _ _ h => no_some h) (fun _ _ _ _ h => no_some h) (fun _ _ _ _ h => no_some h) (fun _ _ h => no_some h) (fun _ _ _ h => no_some h) (fun _ _ _ h => no_some h) (fun _ _ _ h => by cases h; exact ⟨_, rfl⟩) (fun _ _ h => no_some h) (fun _ _ h => no_some h) (fun _ _ h => no_some h) (fun _ _ _ h => no_some h) (fun _ _ _ _ h => no_some h) h
theorem vSub_of {e : Expr} {c : Expr × Expr} (h : vSub e = some c) : ∃ pos, e = .Subscript c.1 c.2 pos := vSub_of' h
noncomputable def IsSlice (c : Option Expr × Option Expr × Option Expr) (e : Expr) : Prop := ∃ pos, e = .Slice c.1 c.2.1 c.2.2 pos
theorem vSlice_of' {e : Expr} {c : Option Expr × Option Expr × Option Expr} (h : vSlice e = some c) : IsSlice c e :=
  Expr.casesOn (motive_1 := fun e => vSlice e = some c → IsSlice c e) e (fun _ _ _ h => no_some h) (fun _ _ _ h => no_some h) (fun _ _ _ _ h => no_some h) (fun _ _ _ h => no_some h) (fun _ _ _ _ h => no_some h) (fun _ _ _ _ h => no_some h) (fun _ _ _ h => no_some h) (fun _ _ _ h => no_some h) (fun _ _ _ _ h => no_some h) (fun _ _ _ _ h => no_some h) (fun _ _ _ _ _ h => no_some h) (fun _ _ _ _ h => no_some h) (fun _ _ h => no_some h) (fun _ _ h => no_some h) (fun _ _ h => no_some h) (fun _ _ _ _ h => no_some h) (fun _ _ _ _ h => no_some h) (fun _ _ _ _ h => no_some h) (fun _ _ h => no_some h) (fun _ _ _ h => no_some h) (fun _ _ _ h => no_some h) (fun _ _ _ h => no_some h) (fun _ _ h => no_some h) (fun _ _ h => no_some h) (fun _ _ h => no_some h) (fun _ _ _ h => no_some h) (fun _ _ _ _ h => by cases h; exact ⟨_, rfl⟩) h
theorem vSlice_of {e : Expr} {c : Option Expr × Option Expr × Option Expr} (h : vSlice e = some c) : ∃ pos, e = .Slice c.1 c.2.1 c.2.2 pos := vSlice_of' h
noncomputable def IsCall (c : Expr × List Expr × List Keyword × Pos) (e : Expr) : Prop := e = .Call c.1 c.2.1 c.2.2.1 c.2.2.2
theorem vCall_of' {e : Expr} {c : Expr × List Expr × List Keyword × Pos} (h : vCall e = some c) : IsCall c e :=
  Expr.casesOn (motive_1 := fun e => vCall e = some c → IsCall c e) e (fun _ _ _ h => no_some h) (fun _ _ _ h => no_some h) (fun _ _ _ _ h => no_some h) (fun _ _ _ h => no_some h) (fun _ _ _ _ h => no_some h) (fun _ _ _ _ h => no_some h) (fun _ _ _ h => no_some h) (fun _ _ _ h => no_some h) (fun _ _ _ _ h => no_some h) (fun _ _ _ _ h => no_some h) (fun _ _ _ _ _ h => no_some h) (fun _ _ _ _ h => no_some h) (fun _ _ h => no_some h) (fun _ _ h => no_some h) (fun _ _ h => no_some h) (fun _ _ _ _ h => no_some h) (fun _ _ _ _ h => by cases h; rfl) (fun _ _ _ _ h => no_some h) (fun _ _ h => no_some h) (fun _ _ _ h => no_some h) (fun _ _ _ h => no_some h) (fun _ _ _ h => no_some h) (fun _ _ h => no_some h) (fun _ _ h => no_some h) (fun _ _ h => no_some h) (fun _ _ _ h => no_some h) (fun _ _ _ _ h => no_some h) h
theorem vCall_of {e : Expr} {c : Expr × List Expr × List Keyword × Pos} (h : vCall e = some c) : e = .Call c.1 c.2.1 c.2.2.1 c.2.2.2 := vCall_of' h
noncomputable def IsAttr (c : Expr × Str × Pos) (e : Expr) : Prop := e = .Attribute c.1 c.2.1 c.2.2
theorem vAttr_of' {e : Expr} {c : Expr × Str × Pos} (h : vAttr e = some c) : IsAttr c e :=
  Expr.casesOn (motive_1 := fun e => vAttr e = some c → IsAttr c e) e (fun _ _ _ h => no_some h) (fun _ _ _ h => no_some h) (fun _ _ _ _ h => no_some h) (fun _ _ _ h => no_some h) (fun _ _ _ _ h => no_some h) (fun _ _ _ _ h => no_some h) (fun _ _ _ h => no_some h) (fun _ _ _ h => no_some h) (fun _ _ _ _ h => no_some h) (fun _ _ _ _ h => no_some h) (fun _ _ _ _ _ h => no_some h) (fun _ _ _ _ h => no_some h) (fun _ _ h => no_some h) (fun _ _ h => no_some h) (fun _ _ h => no_some h) (fun _ _ _ _ h => no_some h) (fun _ _ _ _ h => no_some h) (fun _ _ _ _ h => no_some h) (fun _ _ h => no_some h) (fun _ _ _ h => no_some h) (fun _ _ _ h => by cases h; rfl) (fun _ _ _ h => no_some h) (fun _ _ h => no_some h) (fun _ _ h => no_some h) (fun _ _ h => no_some h) (fun _ _ _ h => no_some h) (fun _ _ _ _ h => no_some h) h
theorem vAttr_of {e : Expr} {c : Expr × Str × Pos} (h : vAttr e = some c) : e = .Attribute c.1 c.2.1 c.2.2 := vAttr_of' h
noncomputable def IsComp (c : Expr × List Comprehension × Scope) (e : Expr) : Prop := ∃ pos, e = .ListComp c.1 c.2.1 c.2.2 pos
theorem vComp_of' {e : Expr} {c : Expr × List Comprehension × Scope} (h : vComp e = some c) : IsComp c e :=
  Expr.casesOn (motive_1 := fun e => vComp e = some c → IsComp c e) e (fun _ _ _ h => no_some h) (fun _ _ _ h => no_some h) (fun _ _ _ _ h => no_some h) (fun _ _ _ h => no_some h) (fun _ _ _ _ h => no_some h) (fun _ _ _ _ h => no_some h) (fun _ _ _ h => no_some h) (fun _ _ _ h => no_some h) (fun _ _ _ _ h => by cases h; exact ⟨_, rfl⟩) (fun _ _ _ _ h => no_some h) (fun _ _ _ _ _ h => no_some h) (fun _ _ _ _ h => no_some h) (fun _ _ h => no_some h) (fun _ _ h => no_some h) (fun _ _ h => no_some h) (fun _ _ _ _ h => no_some h) (fun _ _ _ _ h => no_some h) (fun _ _ _ _ h => no_some h) (fun _ _ h => no_some h) (fun _ _ _ h => no_some h) (fun _ _ _ h => no_some h) (fun _ _ _ h => no_some h) (fun _ _ h => no_some h) (fun _ _ h => no_some h) (fun _ _ h => no_some h) (fun _ _ _ h => no_some h) (fun _ _ _ _ h => no_some h) h
theorem vComp_of {e : Expr} {c : Expr × List Comprehension × Scope} (h : vComp e = some c) : ∃ pos, e = .ListComp c.1 c.2.1 c.2.2 pos := vComp_of' h
theorem vOne_of {α : Type} {l : List α} {x : α} (h : vOne l = some x) : l = [x] := by
  cases l with
  | nil => exact no_some h
  | cons y l => cases l with
    | nil => cases h; rfl
    | cons _ _ => exact no_some h
theorem vTwo_of {α : Type} {l : List α} {x : α × α} (h : vTwo l = some x) : l = [x.1, x.2] := by
  cases l with
  | nil => exact no_some h
  | cons y l => cases l with
    | nil => exact no_some h
    | cons z l => cases l with
      | nil => cases h; rfl
      | cons _ _ => exact no_some h
theorem vCallN_of {e : Expr} {c : Str × List Expr} (h : vCallN e = some c) : ∃ p pos, e = .Call (.Name c.1 p) c.2 [] pos := by
  unfold vCallN at h
  cases q : vCall e with
  | none => rw [q] at h; exact no_some h
  | some a =>
    rw [q] at h
    have h' : (if a.2.2.1.isEmpty then (vName a.1).map fun x => (x.1, a.2.1) else none) = some c := h
    by_cases k : a.2.2.1.isEmpty = true
    · rw [if_pos k] at h'
      cases r : vName a.1 with
      | none => rw [r] at h'; exact no_some h'
      | some x =>
        rw [r] at h'
        cases h'
        refine ⟨x.2, a.2.2.2, ?_⟩
        rw [vCall_of q, vName_of r, List.isEmpty_iff.mp k]
    · rw [if_neg k] at h'; exact no_some h'
theorem isNeg_of {op : UnaryOp} (h : isNeg op = true) : op = .USub := by cases op <;> first | rfl | (exact no_true h)
theorem isNot_of {op : UnaryOp} (h : isNot op = true) : op = .Not := by cases op <;> first | rfl | (exact no_true h)
theorem and_of {a b : Bool} (h : (a && b) = true) : a = true ∧ b = true := by cases a <;> cases b <;> first | (exact ⟨rfl, rfl⟩) | (exact no_true h)
theorem ne_of_isEmpty {α : Type} {l : List α} (h : (!l.isEmpty) = true) : l ≠ [] := by intro q; rw [q] at h; exact no_true h
theorem of_dec {p : Prop} [Decidable p] (h : decide p = true) : p := of_decide_eq_true h
theorem nil_of {α : Type} {l : List α} (h : l.isEmpty = true) : l = [] := List.isEmpty_iff.mp h

theorem mEs_nil {Γ : Cx} {es : List Expr} (h : mEs P Γ [] es = true) : es = [] := nil_of h
theorem mEs_cons {Γ : Cx} {c : CE} {cs : List CE} {es : List Expr} (h : mEs P Γ (c :: cs) es = true) : ∃ e es', es = e :: es' ∧ mE P Γ c e = true ∧ mEs P Γ cs es' = true := by
  cases es with
  | nil => exact no_true h
  | cons e es => have := and_of (a := mE P Γ c e) (b := mEs P Γ cs es) h; exact ⟨e, es, rfl, this.1, this.2⟩
theorem mIfs_nil {Γ : Cx} {es : List Expr} (h : mIfs P Γ [] es = true) : es = [] := nil_of h
theorem mIfs_cons {Γ : Cx} {c : CB} {cs : List CB} {es : List Expr} (h : mIfs P Γ (c :: cs) es = true) : ∃ e es', es = e :: es' ∧ mB P Γ c e = true ∧ mIfs P Γ cs es' = true := by
  cases es with
  | nil => exact no_true h
  | cons e es => have := and_of (a := mB P Γ c e) (b := mIfs P Γ cs es) h; exact ⟨e, es, rfl, this.1, this.2⟩
theorem src_of {Γ : Cx} {env : Env} {k : IK} {iter : Expr} {src : List CE} (X : Fx W P A fs n F) (hsc : env.scope = Γ.sc) (h : mSrc P Γ (fun es => mEs P Γ src es) k iter = true)
    (one : ∀ e c, src = [c] → mE P Γ c e = true → SiE W A fs env Γ.vis (eval e env) (fun r => ev P.S F c r))
    (all : ∀ es pos, noStar es = true → mEs P Γ src es = true → SiL W A fs env Γ.vis (spliced (backTo pos (starEach es env))) (fun r => evs P.S F src r)) :
    SiSrc W A fs env Γ.vis iter (fun r => bnd (evs P.S F src r) (srcV k)) := by
  cases k with
  | expr =>
    have h1 : mEs P Γ src [iter] = true := h
    cases src with
    | nil => exact no_true h1
    | cons c cs =>
      obtain ⟨e, es', he, hm, hr⟩ := mEs_cons h1
      cases he
      cases cs with
      | cons c' cs => exact no_true hr
      | nil =>
        have := src_expr X.R (one _ c rfl hm)
        intro s io m r Z
        have eq : bnd (evs P.S F [c] r) (srcV .expr) = bnd (ev P.S F c r) itemsV := by
          rw [evs, evs, bnd_assoc]; rfl
        dsimp only
        rw [eq]
        exact this s io m r Z
  | range =>
    obtain ⟨q, hq, h⟩ := any_of (o := vCallN iter) h
    obtain ⟨px, pos, rfl⟩ := vCallN_of hq
    obtain ⟨h12, h3⟩ := and_of h
    obtain ⟨h1, h2⟩ := and_of h12
    obtain ⟨a, b, c, d, e⟩ := typ_of hsc h1
    exact src_range X.R X.gl d e c a b h2 (all q.2 pos h2 h3)
  | enum => exact no_true h

theorem cmp_of {Γ : Cx} {ca : CE} {cops ops : List CmpOp} {cbs : List CE} {a : Expr} {bs : List Expr} {pos : Pos} (h : mE P Γ (.cmp ca cops cbs) (.Compare a ops bs pos) = true) : cops = ops ∧ mE P Γ ca a = true ∧ mEs P Γ cbs bs = true ∧ cops.length = cbs.length ∧ cbs ≠ [] ∧ bs.all noSet = true := by
  have h : (decide (cops = ops) && mE P Γ ca a && mEs P Γ cbs bs && decide (cops.length = cbs.length) && !cbs.isEmpty && bs.all noSet) = true := h
  obtain ⟨h, h5⟩ := and_of h
  obtain ⟨h, h4⟩ := and_of h
  obtain ⟨h, h3⟩ := and_of h
  obtain ⟨h, h2⟩ := and_of h
  obtain ⟨h0, h1⟩ := and_of h
  exact ⟨of_dec h0, h1, h2, of_dec h3, ne_of_isEmpty h4, h5⟩
theorem val_of {Γ : Cx} {c : CE} {e : Expr} (h : mB P Γ (.val c) e = true) : (plainT e = true ∧ mE P Γ c e = true) ∨ ∃ a ops bs pos, e = .Compare a ops bs pos ∧ mE P Γ c e = true := by
  obtain ⟨h1, h2⟩ := and_of (a := plainT e || (vCmp e).isSome) (b := mE P Γ c e) h
  cases q : plainT e with
  | true => exact .inl ⟨rfl, h2⟩
  | false =>
    rw [q] at h1
    cases r : vCmp e with
    | none => rw [r] at h1; exact no_true h1
    | some x => obtain ⟨pos, he⟩ := vCmp_of r; exact .inr ⟨_, _, _, _, he, h2⟩

theorem none_fun {c : CE} (h : noneC c = true) : (fun r => ev P.S F c r) = fun _ => ret V.none := by
  cases c with
  | cnst v => cases v <;> first | rfl | (exact no_true h)
  | _ => exact no_true h
theorem o_of {Γ : Cx} {env : Env} {c : CE} {o : Option Expr} (h : o.elim (noneC c) (fun l => mE P Γ c l) = true) (k : ∀ l, mE P Γ c l = true → SiE W A fs env Γ.vis (eval l env) (fun r => ev P.S F c r)) : SiO W A fs env Γ.vis o (fun r => ev P.S F c r) := by
  cases o with
  | some l => exact o_some (k l h)
  | none =>
    have hc : noneC c = true := h
    have : (fun r => ev P.S F c r) = fun _ => ret V.none := by
      exact none_fun hc
    rw [this]
    exact o_none

theorem e_loc {Γ : Cx} {env : Env} {i : Nat} {x : Str} {pos : Pos} (hsc : env.scope = Γ.sc) (h : isLoc Γ i x = true) : SiE W A fs env Γ.vis (eval (.Name x pos) env) (fun r => match r[i]? with | some (some v) => ret v | _ => bad) := by
  obtain ⟨h, h4⟩ := and_of h
  obtain ⟨h, h3⟩ := and_of h
  obtain ⟨h1, h2⟩ := and_of h
  refine e_var ?_ ?_ (Bool.not_eq_true' _ ▸ h3) (Bool.not_eq_true' _ ▸ h4)
  · split at h1
    · rename_i y q; rw [q, beq_iff_eq.mp h1]
    · cases h1
  · show env.scope.names.lookup x = _ ∨ env.scope.names.lookup x = _ ∨ env.scope.names.lookup x = _
    rw [hsc]
    split at h2
    · rename_i q; exact .inl q
    · rename_i q; exact .inr (.inl q)
    · rename_i q; exact .inr (.inr q)
    · cases h2
theorem e_bi {Γ : Cx} {env : Env} {b : Bi} {x : Str} {es : List Expr} {p pos : Pos} {cl : Lo → Mn (List V)} (X : Fx W P A fs n F) (hsc : env.scope = Γ.sc) (h1 : biOk b = true) (h2 : isBi P Γ b x = true) (h3 : noStar es = true)
    (hl : ∀ pos, SiL W A fs env Γ.vis (spliced (backTo pos (starEach es env))) cl) : SiE W A fs env Γ.vis (eval (.Call (.Name x p) es [] pos) env) (fun r => bnd (cl r) fun vs => biV b vs) := by
  unfold isBi at h2
  have hf := bi_sim (W := W) (A := A) (fs := fs) (n := n) X.gl.ok X.R h1
  split at h2
  · rename_i id q
    obtain ⟨a, b', c, d, e⟩ := blt_of hsc h2
    rw [q] at hf
    exact e_callB X.gl d e c a b' h3 (hl _) hf
  · rename_i id q
    obtain ⟨a, b', c, d, e⟩ := typ_of hsc h2
    rw [q] at hf
    exact e_callT X.gl d e c a b' h3 (hl _) hf
  · cases h2
theorem two_ops {ops : List CmpOp} {c c' : CE} {cs : List CE} (h : ops.length = (c :: c' :: cs).length) : ∃ op op' ops', ops = op :: op' :: ops' := by
  cases ops with
  | nil => exact no_succ h
  | cons op ops => cases ops with
    | nil => exact no_succ (Nat.succ.inj h)
    | cons op' ops => exact ⟨op, op', ops, rfl⟩
theorem gen_eq {g : Comprehension} {x : Str × Pos} (hx : vName g.target = some x) (h0 : (g.is_async == 0) = true) : g = ⟨.Name x.1 x.2, g.iter, g.ifs, 0⟩ := by
  cases g
  rw [← vName_of hx, ← beq_iff_eq.mp h0]
theorem comp_all {Γ : Cx} {env : Env} {e0 iter : Expr} {ifs' : List Expr} {scope : Scope} {px pos : Pos} {x : Str} {src : List CE} {k : IK} {ifs : List CB} {elt : CE} (ck : CompOk scope env Γ.vis (seen scope x Γ.vis) 1) (hs : ∀ y, foldedSetIterable iter env y = Pure.pure y)
    (hsrc : SiSrc W A fs env Γ.vis iter (fun r => bnd (evs P.S F src r) (srcV k))) (hifs : ∀ cl C, SiB W A fs (compEnvC scope cl C env) (seen scope x Γ.vis) (tests ifs' (compEnvC scope cl C env) true) (fun r => evIf P.S F ifs r))
    (helt : ∀ cl C, SiE W A fs (compEnvC scope cl C env) (seen scope x Γ.vis) (eval e0 (compEnvC scope cl C env)) (fun r => ev P.S F elt r)) :
    SiE W A fs env Γ.vis (eval (.ListComp e0 [⟨.Name x px, iter, ifs', 0⟩] scope pos) env) (fun r => ev P.S F (.comp elt (.one Γ.vis.length) 1 k src ifs) r) := by
  have := e_comp (pos := pos) (px := px) (j := Γ.vis.length) ck hs (seen_last scope x Γ.vis) (Nat.le_refl _) hsrc hifs helt
  intro s io m r Z
  have eq : ev P.S F (.comp elt (.one Γ.vis.length) 1 k src ifs) r = bnd (bnd (evs P.S F src r) (srcV k)) fun p => bnd (compD p.2 (stepOf Γ.vis.length (r ++ List.replicate 1 none) (fun r => evIf P.S F ifs r) (fun r => ev P.S F elt r)) p.1) fun l => if l.length ≤ lid then alloc (.list l) else bad := by
    rw [bnd_assoc]; rfl
  dsimp only
  rw [eq]
  exact this s io m r Z

mutual
theorem evE (X : Fx W P A fs n F) : ∀ (c : CE) (Γ : Cx) (env : Env) (e : Expr), env.scope = Γ.sc → mE P Γ c e = true → SiE W A fs env Γ.vis (eval e env) (fun r => ev P.S F c r)
  | .cnst v, Γ, env, e, hsc, h => by
    obtain ⟨q, hq, h⟩ := any_of (o := vConst e) h
    obtain ⟨_, _, rfl⟩ := vConst_of hq
    exact e_const (by cases v <;> cases q <;> exact h)
  | .var i, Γ, env, e, hsc, h => by
    obtain ⟨q, hq, h⟩ := any_of (o := vName e) h
    rw [vName_of hq]
    exact e_loc hsc h
  | .glob i, Γ, env, e, hsc, h => no_true h
  | .fnv k, Γ, env, e, hsc, h => no_true h
  | .bin op a b, Γ, env, e, hsc, h => by
    obtain ⟨q, hq, h⟩ := any_of (o := vBin e) h
    obtain ⟨_, rfl⟩ := vBin_of hq
    obtain ⟨h, h2⟩ := and_of h
    obtain ⟨h0, h1⟩ := and_of h
    rw [← of_dec h0]
    exact e_bin (evE X a Γ env _ hsc h1) (evE X b Γ env _ hsc h2)
  | .neg a, Γ, env, e, hsc, h => by
    obtain ⟨q, hq, h⟩ := any_of (o := vUn e) h
    obtain ⟨_, rfl⟩ := vUn_of hq
    obtain ⟨h0, h1⟩ := and_of h
    rw [isNeg_of h0]
    exact e_neg (evE X a Γ env _ hsc h1)
  | .not a, Γ, env, e, hsc, h => by
    obtain ⟨q, hq, h⟩ := any_of (o := vUn e) h
    obtain ⟨_, rfl⟩ := vUn_of hq
    obtain ⟨h0, h1⟩ := and_of h
    rw [isNot_of h0]
    exact e_not (evE X a Γ env _ hsc h1)
  | .boolop c as, Γ, env, e, hsc, h => by
    obtain ⟨q, hq, h⟩ := any_of (o := vBool e) h
    obtain ⟨_, rfl⟩ := vBool_of hq
    obtain ⟨h, h3⟩ := and_of h
    obtain ⟨h1, h2⟩ := and_of h
    exact evBo X as Γ env _ _ _ _ hsc h1 h2 (ne_of_isEmpty h3)
  | .cmp a ops bs, Γ, env, e, hsc, h => by
    have h0 := h
    obtain ⟨q, hq, _⟩ := any_of (o := vCmp e) h
    obtain ⟨pos, rfl⟩ := vCmp_of hq
    obtain ⟨h0, h1, h2, h3, h4, h5⟩ := cmp_of h0
    rw [← h0]
    exact e_cmp (evE X a Γ env _ hsc h1) (evCm X bs Γ env _ _ _ hsc h3 h4 h2 h5)
  | .ite c a b, Γ, env, e, hsc, h => by
    obtain ⟨q, hq, h⟩ := any_of (o := vIf e) h
    obtain ⟨_, rfl⟩ := vIf_of hq
    obtain ⟨h, h3⟩ := and_of h
    obtain ⟨h1, h2⟩ := and_of h
    exact e_ite (evTt X c Γ env _ hsc h1) (evE X a Γ env _ hsc h2) (evE X b Γ env _ hsc h3)
  | .tup as, Γ, env, e, hsc, h => by
    obtain ⟨q, hq, h⟩ := any_of (o := vTup e) h
    obtain ⟨_, _, rfl⟩ := vTup_of hq
    obtain ⟨h, h3⟩ := and_of h
    obtain ⟨h1, h2⟩ := and_of h
    exact e_tup (evL X as Γ env _ _ hsc h2 h1) fun r m vs m' q => by rw [evs_len q]; exact Nat.le_trans (of_dec h3) (by decide)
  | .list as, Γ, env, e, hsc, h => by
    obtain ⟨q, hq, h⟩ := any_of (o := vList e) h
    obtain ⟨_, rfl⟩ := vList_of hq
    obtain ⟨h, h3⟩ := and_of h
    obtain ⟨h1, h2⟩ := and_of h
    exact e_list (evL X as Γ env _ _ hsc h2 h1) fun r m vs m' q => by rw [evs_len q]; exact Nat.le_trans (of_dec h3) (by decide)
  | .dict ks vs, Γ, env, e, hsc, h => by
    obtain ⟨q, hq, h⟩ := any_of (o := vDict e) h
    obtain ⟨_, rfl⟩ := vDict_of hq
    obtain ⟨h, h4⟩ := and_of h
    obtain ⟨h, h3⟩ := and_of h
    obtain ⟨h1, h2⟩ := and_of h
    rw [nil_of h1, nil_of h2, nil_of h3, nil_of h4]
    exact e_dict0
  | .idx a i, Γ, env, e, hsc, h => by
    obtain ⟨q, hq, h⟩ := any_of (o := vSub e) h
    obtain ⟨_, rfl⟩ := vSub_of hq
    obtain ⟨h, h2⟩ := and_of h
    obtain ⟨_, h1⟩ := and_of h
    exact e_idx X.R (evE X a Γ env _ hsc h1) (evE X i Γ env _ hsc h2)
  | .slice a lo hi st, Γ, env, e, hsc, h => by
    obtain ⟨q, hq, h⟩ := any_of (o := vSub e) h
    obtain ⟨_, rfl⟩ := vSub_of hq
    obtain ⟨h1, h⟩ := and_of h
    obtain ⟨t, ht, h⟩ := any_of (o := vSlice q.2) h
    obtain ⟨_, he⟩ := vSlice_of ht
    rw [he]
    obtain ⟨h, h4⟩ := and_of h
    obtain ⟨h2, h3⟩ := and_of h
    exact e_slice (evE X a Γ env _ hsc h1) (o_of h2 fun l hl => evE X lo Γ env l hsc hl) (o_of h3 fun l hl => evE X hi Γ env l hsc hl) (o_of h4 fun l hl => evE X st Γ env l hsc hl)
  | .attr a k, Γ, env, e, hsc, h => no_true h
  | .call k as, Γ, env, e, hsc, h => by
    obtain ⟨q, hq, h⟩ := any_of (o := vCallN e) h
    obtain ⟨_, _, rfl⟩ := vCallN_of hq
    obtain ⟨h, h3⟩ := and_of h
    obtain ⟨h1, h2⟩ := and_of h
    obtain ⟨a, b, c, o, fd, d, e⟩ := fun_of hsc h1
    exact e_callF X.gl c d e a b h2 (evL X as Γ env _ _ hsc h2 h3) (X.fa ▸ X.calls k)
  | .callv f as, Γ, env, e, hsc, h => no_true h
  | .new c as, Γ, env, e, hsc, h => no_true h
  | .meth o k as, Γ, env, e, hsc, h => no_true h
  | .smeth o sm as, Γ, env, e, hsc, h => by
    obtain ⟨q, hq, h⟩ := any_of (o := vCall e) h
    rw [vCall_of hq]
    obtain ⟨t, ht, h⟩ := any_of (o := vAttr q.1) h
    rw [vAttr_of ht]
    obtain ⟨h, h8⟩ := and_of h
    obtain ⟨h, h7⟩ := and_of h
    obtain ⟨h, h6⟩ := and_of h
    obtain ⟨h, h5⟩ := and_of h
    obtain ⟨h, h4⟩ := and_of h
    obtain ⟨h, h3⟩ := and_of h
    obtain ⟨h1, h2⟩ := and_of h
    rw [beq_iff_eq.mp h1, nil_of h6]
    exact e_smeth h2 h3 (of_dec h4) h5 (evE X o Γ env _ hsc h7) (evL X as Γ env _ _ hsc h3 h8)
  | .bi b as, Γ, env, e, hsc, h => by
    obtain ⟨q, hq, h⟩ := any_of (o := vCallN e) h
    obtain ⟨_, _, rfl⟩ := vCallN_of hq
    obtain ⟨h, h4⟩ := and_of h
    obtain ⟨h, h3⟩ := and_of h
    obtain ⟨h1, h2⟩ := and_of h
    exact e_bi X hsc h1 h2 h3 (fun pos => evL X as Γ env q.2 pos hsc h3 h4)
  | .listrange as, Γ, env, e, hsc, h => by
    obtain ⟨q, hq, h⟩ := any_of (o := vCallN e) h
    obtain ⟨_, _, rfl⟩ := vCallN_of hq
    obtain ⟨e1, h1, h⟩ := any_of (o := vOne q.2) h
    rw [vOne_of h1]
    obtain ⟨p, hp, h⟩ := any_of (o := vCallN e1) h
    obtain ⟨_, _, rfl⟩ := vCallN_of hp
    obtain ⟨h, h4⟩ := and_of h
    obtain ⟨h, h3⟩ := and_of h
    obtain ⟨h1, h2⟩ := and_of h
    obtain ⟨a, b, c, d, e⟩ := typ_of hsc h1
    obtain ⟨a', b', c', d', e'⟩ := typ_of hsc h2
    exact e_listrange X.R X.gl d' e' c' a' b' d e c a b h3 (evL X as Γ env _ _ hsc h3 h4)
  | .isi a t, Γ, env, e, hsc, h => by
    obtain ⟨q, hq, h⟩ := any_of (o := vCallN e) h
    obtain ⟨px, pos, rfl⟩ := vCallN_of hq
    obtain ⟨p, hp, h⟩ := any_of (o := vTwo q.2) h
    rw [vTwo_of hp]
    obtain ⟨y, hy, h⟩ := any_of (o := vName p.2) h
    rw [vName_of hy]
    obtain ⟨h, h5⟩ := and_of h
    obtain ⟨h, h4⟩ := and_of h
    obtain ⟨h, h3⟩ := and_of h
    obtain ⟨h1, h2⟩ := and_of h
    obtain ⟨a1, b1, c1, d1, e1⟩ := blt_of hsc h1
    obtain ⟨a2, b2, c2, d2, e2⟩ := typ_of hsc h2
    have := e_isi (pos := pos) (px := px) (py := y.2) X.gl X.R d1 e1 c1 a1 b1 d2 e2 c2 a2 b2 (ty_of h3) h4 (evE X a Γ env _ hsc h5)
    rw [X.S] at this
    exact this
  | .comp elt t nl k src ifs, Γ, env, e, hsc, h => by
    obtain ⟨q, hq, h⟩ := any_of (o := vComp e) h
    obtain ⟨pos, rfl⟩ := vComp_of hq
    obtain ⟨g, hg, h⟩ := any_of (o := vOne q.2.1) h
    rw [vOne_of hg]
    obtain ⟨x, hx, h⟩ := any_of (o := vName g.target) h
    obtain ⟨h, h5⟩ := and_of h
    obtain ⟨h, h4⟩ := and_of h
    obtain ⟨h, h3⟩ := and_of h
    obtain ⟨h, h2⟩ := and_of h
    obtain ⟨h, h1⟩ := and_of h
    obtain ⟨h, h0⟩ := and_of h
    obtain ⟨ht, hnl⟩ := and_of h
    rw [of_dec ht, of_dec hnl, gen_eq hx h0]
    exact comp_all (compOk_of hsc h1) (set_of h2) (src_of X hsc h3 (fun e c hc he => evOne X src Γ env e hsc c hc he) (fun es pos hs he => evL X src Γ env es pos hsc hs he))
      (fun cl C => evIf_ X ifs (compIn q.2.2 x.1 Γ) _ g.ifs (relab_eq hsc) h4) (fun cl C => evE X elt (compIn q.2.2 x.1 Γ) _ q.1 (relab_eq hsc) h5)
theorem evOne (X : Fx W P A fs n F) : ∀ (cs : List CE) (Γ : Cx) (env : Env) (e : Expr), env.scope = Γ.sc → ∀ c, cs = [c] → mE P Γ c e = true → SiE W A fs env Γ.vis (eval e env) (fun r => ev P.S F c r)
  | [], Γ, env, e, hsc, c', hc, h => no_cons hc
  | c :: cs, Γ, env, e, hsc, c', hc, h => by
    have hc1 : c' = c := by injection hc with a; exact a.symm
    rw [hc1] at h ⊢
    exact evE X c Γ env e hsc h
theorem evL (X : Fx W P A fs n F) : ∀ (cs : List CE) (Γ : Cx) (env : Env) (es : List Expr) (pos : Pos), env.scope = Γ.sc → noStar es = true → mEs P Γ cs es = true → SiL W A fs env Γ.vis (spliced (backTo pos (starEach es env))) (fun r => evs P.S F cs r)
  | [], Γ, env, es, pos, hsc, hs, h => by
    rw [mEs_nil h]
    exact l_nil
  | c :: cs, Γ, env, es, pos, hsc, hs, h => by
    obtain ⟨e, es', he, h1, h2⟩ := mEs_cons h
    rw [he] at hs ⊢
    exact l_cons (evE X c Γ env _ hsc h1) (evL X cs Γ env _ _ hsc (noStar_tail hs) h2) (star_cons hs)
theorem evBo (X : Fx W P A fs n F) : ∀ (cs : List CE) (Γ : Cx) (env : Env) (es : List Expr) (pos : Pos) (op : BoolOp) (b : Bool), env.scope = Γ.sc → isOp b op = true → mEs P Γ cs es = true → cs ≠ [] → SiE W A fs env Γ.vis (boolOp pos op (evalEach es env)) (fun r => evB P.S F b cs r)
  | [], Γ, env, es, pos, op, b, hsc, ho, h, hne => absurd rfl hne
  | [c], Γ, env, es, pos, op, b, hsc, ho, h, hne => by
    obtain ⟨e, es', he, h1, h2⟩ := mEs_cons h
    rw [he, mEs_nil h2]
    exact b_one (evE X c Γ env _ hsc h1)
  | c :: c' :: cs, Γ, env, es, pos, op, b, hsc, ho, h, hne => by
    obtain ⟨e, es', he, h1, h2⟩ := mEs_cons h
    have h2' := h2
    obtain ⟨e', es'', he', _, _⟩ := mEs_cons h2
    rw [he]
    rw [he'] at h2' ⊢
    exact b_cons (op_of ho) (evE X c Γ env _ hsc h1) (evBo X (c' :: cs) Γ env (e' :: es'') pos op b hsc ho h2' (List.cons_ne_nil _ _))
theorem evCm (X : Fx W P A fs n F) : ∀ (cs : List CE) (Γ : Cx) (env : Env) (es : List Expr) (pos : Pos) (ops : List CmpOp), env.scope = Γ.sc → ops.length = cs.length → cs ≠ [] → mEs P Γ cs es = true → es.all noSet = true → SiC W A fs env Γ.vis (fun u => compareChain pos u ops (markedEach ops es (evalEach es env))) (fun x r => evC P.S F x ops cs r)
  | [], Γ, env, es, pos, ops, hsc, hl, hne, h, hs => absurd rfl hne
  | [c], Γ, env, es, pos, ops, hsc, hl, hne, h, hs => by
    obtain ⟨e, es', he, h1, h2⟩ := mEs_cons h
    obtain ⟨op, rfl⟩ := List.length_eq_one_iff.mp hl
    rw [he, mEs_nil h2] at hs ⊢
    exact c_one X.gl.ok X.R (marks_of (and_of hs).1) (evE X c Γ env _ hsc h1)
  | c :: c' :: cs, Γ, env, es, pos, ops, hsc, hl, hne, h, hs => by
    obtain ⟨e, es', he, h1, h2⟩ := mEs_cons h
    have h2' := h2
    obtain ⟨e', es'', he', _, _⟩ := mEs_cons h2
    rw [he] at hs ⊢
    rw [he'] at h2' hs ⊢
    obtain ⟨op, op', ops', rfl⟩ := two_ops hl
    exact c_more X.gl.ok X.R (evE X c Γ env _ hsc h1) (evCm X (c' :: cs) Γ env (e' :: es'') pos (op' :: ops') hsc (Nat.succ.inj hl) (List.cons_ne_nil _ _) h2' (and_of hs).2)
theorem evCt (X : Fx W P A fs n F) : ∀ (cs : List CE) (Γ : Cx) (env : Env) (es : List Expr) (pos : Pos) (ops : List CmpOp), env.scope = Γ.sc → ops.length = cs.length → cs ≠ [] → mEs P Γ cs es = true → es.all noSet = true → SiCB W A fs env Γ.vis (fun u => testChain pos u ops (markedEach ops es (evalEach es env))) (fun x r => evC P.S F x ops cs r)
  | [], Γ, env, es, pos, ops, hsc, hl, hne, h, hs => absurd rfl hne
  | [c], Γ, env, es, pos, ops, hsc, hl, hne, h, hs => by
    obtain ⟨e, es', he, h1, h2⟩ := mEs_cons h
    obtain ⟨op, rfl⟩ := List.length_eq_one_iff.mp hl
    rw [he, mEs_nil h2] at hs ⊢
    exact t_one X.gl.ok X.R (marks_of (and_of hs).1) (evE X c Γ env _ hsc h1)
  | c :: c' :: cs, Γ, env, es, pos, ops, hsc, hl, hne, h, hs => by
    obtain ⟨e, es', he, h1, h2⟩ := mEs_cons h
    have h2' := h2
    obtain ⟨e', es'', he', _, _⟩ := mEs_cons h2
    rw [he] at hs ⊢
    rw [he'] at h2' hs ⊢
    obtain ⟨op, op', ops', rfl⟩ := two_ops hl
    exact t_more X.gl.ok X.R (evE X c Γ env _ hsc h1) (evCt X (c' :: cs) Γ env (e' :: es'') pos (op' :: ops') hsc (Nat.succ.inj hl) (List.cons_ne_nil _ _) h2' (and_of hs).2)
theorem evTt (X : Fx W P A fs n F) : ∀ (b : CB) (Γ : Cx) (env : Env) (e : Expr), env.scope = Γ.sc → mB P Γ b e = true → SiB W A fs env Γ.vis (isTrue e env (eval e env)) (fun r => evT P.S F b r)
  | .not b, Γ, env, e, hsc, h => by
    obtain ⟨q, hq, h⟩ := any_of (o := vUn e) h
    obtain ⟨_, rfl⟩ := vUn_of hq
    obtain ⟨h0, h1⟩ := and_of h
    rw [isNot_of h0]
    exact t_not (evTt X b Γ env _ hsc h1)
  | .all c bs, Γ, env, e, hsc, h => by
    obtain ⟨q, hq, h⟩ := any_of (o := vBool e) h
    obtain ⟨_, rfl⟩ := vBool_of hq
    obtain ⟨h0, h1⟩ := and_of h
    exact t_all (evTs_ X bs Γ env _ _ _ hsc h0 h1)
  | .val c, Γ, env, e, hsc, h => by
    rcases val_of h with ⟨hp, hm⟩ | ⟨a, ops, bs, pos, he, hm⟩
    · exact t_val (evE X c Γ env e hsc hm) (plain_of_test hp)
    · subst he
      exact evCa X c Γ env a ops bs pos hsc hm
theorem evCa (X : Fx W P A fs n F) : ∀ (c : CE) (Γ : Cx) (env : Env) (a : Expr) (ops : List CmpOp) (bs : List Expr) (pos : Pos), env.scope = Γ.sc → mE P Γ c (.Compare a ops bs pos) = true → SiB W A fs env Γ.vis (isTrue (.Compare a ops bs pos) env (eval (.Compare a ops bs pos) env)) (fun r => bnd (ev P.S F c r) truth)
  | .cmp ca cops cbs, Γ, env, a, ops, bs, pos, hsc, h => by
    obtain ⟨h0, h1, h2, h3, h4, h5⟩ := cmp_of h
    subst h0
    exact t_cmp (W := W) (A := A) (fs := fs) (env := env) (vis := Γ.vis) (pos := pos) (a := a) (ops := cops) (bs := bs) (ca := fun r => ev P.S F ca r) (cc := fun x r => evC P.S F x cops cbs r) (evE X ca Γ env a hsc h1) (evCt X cbs Γ env bs pos cops hsc h3 h4 h2 h5)
  | .cnst _, _, _, _, _, _, _, _, h => no_true h
  | .var _, _, _, _, _, _, _, _, h => no_true h
  | .glob _, _, _, _, _, _, _, _, h => no_true h
  | .fnv _, _, _, _, _, _, _, _, h => no_true h
  | .bin _ _ _, _, _, _, _, _, _, _, h => no_true h
  | .neg _, _, _, _, _, _, _, _, h => no_true h
  | .not _, _, _, _, _, _, _, _, h => no_true h
  | .boolop _ _, _, _, _, _, _, _, _, h => no_true h
  | .ite _ _ _, _, _, _, _, _, _, _, h => no_true h
  | .tup _, _, _, _, _, _, _, _, h => no_true h
  | .list _, _, _, _, _, _, _, _, h => no_true h
  | .dict _ _, _, _, _, _, _, _, _, h => no_true h
  | .idx _ _, _, _, _, _, _, _, _, h => no_true h
  | .slice _ _ _ _, _, _, _, _, _, _, _, h => no_true h
  | .attr _ _, _, _, _, _, _, _, _, h => no_true h
  | .call _ _, _, _, _, _, _, _, _, h => no_true h
  | .callv _ _, _, _, _, _, _, _, _, h => no_true h
  | .new _ _, _, _, _, _, _, _, _, h => no_true h
  | .meth _ _ _, _, _, _, _, _, _, _, h => no_true h
  | .smeth _ _ _, _, _, _, _, _, _, _, h => no_true h
  | .bi _ _, _, _, _, _, _, _, _, h => no_true h
  | .listrange _, _, _, _, _, _, _, _, h => no_true h
  | .isi _ _, _, _, _, _, _, _, _, h => no_true h
  | .comp _ _ _ _ _ _, _, _, _, _, _, _, _, h => no_true h
theorem evTs_ (X : Fx W P A fs n F) : ∀ (bs : List CB) (Γ : Cx) (env : Env) (es : List Expr) (op : BoolOp) (b : Bool), env.scope = Γ.sc → isOp b op = true → mIfs P Γ bs es = true → SiB W A fs env Γ.vis (allTrue op es env) (fun r => evTs P.S F b bs r)
  | [], Γ, env, es, op, b, hsc, ho, h => by
    rw [mIfs_nil h]
    exact t_nil (op_of ho)
  | c :: cs, Γ, env, es, op, b, hsc, ho, h => by
    obtain ⟨e, es', he, h1, h2⟩ := mIfs_cons h
    rw [he]
    exact t_cons (op_of ho) (evTt X c Γ env _ hsc h1) (evTs_ X cs Γ env _ op b hsc ho h2)
theorem evIf_ (X : Fx W P A fs n F) : ∀ (bs : List CB) (Γ : Cx) (env : Env) (es : List Expr), env.scope = Γ.sc → mIfs P Γ bs es = true → SiB W A fs env Γ.vis (tests es env true) (fun r => evIf P.S F bs r)
  | [], Γ, env, es, hsc, h => by
    rw [mIfs_nil h]
    exact if_nil
  | c :: cs, Γ, env, es, hsc, h => by
    obtain ⟨e, es', he, h1, h2⟩ := mIfs_cons h
    rw [he]
    exact if_cons (evTt X c Γ env _ hsc h1) (evIf_ X cs Γ env _ hsc h2)
end
end
end Mini

/-! Statements and functions. -/
namespace Mini
open PySem PySem.W PyProof.Rows

section
variable {W : Wd} {P : Px} {fs : List Env} {A : Around} {n : Nat} {F : Fns} {env : Env}

theorem tgt_of {Γ : Cx} {i : Nat} {x : Str} (hsc : env.scope = Γ.sc) (h : isTgt Γ i x = true) : Γ.vis[i]? = some (some x) ∧ (env.kindOf x = some .local ∨ env.kindOf x = some .cell) := by
  simp only [isTgt, Bool.and_eq_true] at h
  obtain ⟨h1, h2⟩ := h
  refine ⟨?_, ?_⟩
  · split at h1
    · rename_i y q; rw [q, beq_iff_eq.mp h1]
    · cases h1
  · show env.scope.names.lookup x = _ ∨ env.scope.names.lookup x = _
    rw [hsc]
    split at h2
    · rename_i q; exact .inl q
    · rename_i q; exact .inr q
    · cases h2
theorem mT_of {Γ : Cx} {t : CT} {tg : Expr} (h : mT Γ t tg = true) : ∃ i x pos, t = .one i ∧ tg = .Name x pos ∧ isTgt Γ i x = true := by
  cases t with
  | many is => exact no_true h
  | one i =>
    obtain ⟨q, hq, h⟩ := any_of (o := vName tg) h
    exact ⟨i, q.1, q.2, rfl, vName_of hq, h⟩
noncomputable def IsAsg (c : List Expr × Expr × Pos) (e : Stmt) : Prop := e = .Assign c.1 c.2.1 c.2.2
theorem vAsg_of' {e : Stmt} {c : List Expr × Expr × Pos} (h : vAsg e = some c) : IsAsg c e :=
  Stmt.casesOn (motive_2 := fun e => vAsg e = some c → IsAsg c e) e (fun _ _ _ _ _ _ _ _ _ _ h => no_some h) (fun _ _ _ _ _ _ _ _ _ _ h => no_some h) (fun _ _ _ _ _ _ _ _ _ _ _ h => no_some h) (fun _ _ h => no_some h) (fun _ _ h => no_some h) (fun _ _ _ h => by cases h; rfl) (fun _ _ _ _ _ _ _ h => no_some h) (fun _ _ _ _ h => no_some h) (fun _ _ _ _ _ h => no_some h) (fun _ _ _ _ _ h => no_some h) (fun _ _ _ _ _ h => no_some h) (fun _ _ _ _ h => no_some h) (fun _ _ _ _ h => no_some h) (fun _ _ _ h => no_some h) (fun _ _ _ h => no_some h) (fun _ _ _ h => no_some h) (fun _ _ _ h => no_some h) (fun _ _ _ _ _ h => no_some h) (fun _ _ _ _ _ h => no_some h) (fun _ _ _ h => no_some h) (fun _ _ h => no_some h) (fun _ _ _ _ h => no_some h) (fun _ _ h => no_some h) (fun _ _ h => no_some h) (fun _ _ h => no_some h) (fun _ h => no_some h) (fun _ h => no_some h) (fun _ h => no_some h) h
theorem vAsg_of {e : Stmt} {c : List Expr × Expr × Pos} (h : vAsg e = some c) : e = .Assign c.1 c.2.1 c.2.2 := vAsg_of' h
noncomputable def IsExp (c : Expr) (e : Stmt) : Prop := ∃ pos, e = .Expr c pos
theorem vExp_of' {e : Stmt} {c : Expr} (h : vExp e = some c) : IsExp c e :=
  Stmt.casesOn (motive_2 := fun e => vExp e = some c → IsExp c e) e (fun _ _ _ _ _ _ _ _ _ _ h => no_some h) (fun _ _ _ _ _ _ _ _ _ _ h => no_some h) (fun _ _ _ _ _ _ _ _ _ _ _ h => no_some h) (fun _ _ h => no_some h) (fun _ _ h => no_some h) (fun _ _ _ h => no_some h) (fun _ _ _ _ _ _ _ h => no_some h) (fun _ _ _ _ h => no_some h) (fun _ _ _ _ _ h => no_some h) (fun _ _ _ _ _ h => no_some h) (fun _ _ _ _ _ h => no_some h) (fun _ _ _ _ h => no_some h) (fun _ _ _ _ h => no_some h) (fun _ _ _ h => no_some h) (fun _ _ _ h => no_some h) (fun _ _ _ h => no_some h) (fun _ _ _ h => no_some h) (fun _ _ _ _ _ h => no_some h) (fun _ _ _ _ _ h => no_some h) (fun _ _ _ h => no_some h) (fun _ _ h => no_some h) (fun _ _ _ _ h => no_some h) (fun _ _ h => no_some h) (fun _ _ h => no_some h) (fun _ _ h => by cases h; exact ⟨_, rfl⟩) (fun _ h => no_some h) (fun _ h => no_some h) (fun _ h => no_some h) h
theorem vExp_of {e : Stmt} {c : Expr} (h : vExp e = some c) : ∃ pos, e = .Expr c pos := vExp_of' h
noncomputable def IsIfS (c : Expr × List Stmt × List Stmt) (e : Stmt) : Prop := ∃ pos, e = .If c.1 c.2.1 c.2.2 pos
theorem vIfS_of' {e : Stmt} {c : Expr × List Stmt × List Stmt} (h : vIfS e = some c) : IsIfS c e :=
  Stmt.casesOn (motive_2 := fun e => vIfS e = some c → IsIfS c e) e (fun _ _ _ _ _ _ _ _ _ _ h => no_some h) (fun _ _ _ _ _ _ _ _ _ _ h => no_some h) (fun _ _ _ _ _ _ _ _ _ _ _ h => no_some h) (fun _ _ h => no_some h) (fun _ _ h => no_some h) (fun _ _ _ h => no_some h) (fun _ _ _ _ _ _ _ h => no_some h) (fun _ _ _ _ h => no_some h) (fun _ _ _ _ _ h => no_some h) (fun _ _ _ _ _ h => no_some h) (fun _ _ _ _ _ h => no_some h) (fun _ _ _ _ h => no_some h) (fun _ _ _ _ h => by cases h; exact ⟨_, rfl⟩) (fun _ _ _ h => no_some h) (fun _ _ _ h => no_some h) (fun _ _ _ h => no_some h) (fun _ _ _ h => no_some h) (fun _ _ _ _ _ h => no_some h) (fun _ _ _ _ _ h => no_some h) (fun _ _ _ h => no_some h) (fun _ _ h => no_some h) (fun _ _ _ _ h => no_some h) (fun _ _ h => no_some h) (fun _ _ h => no_some h) (fun _ _ h => no_some h) (fun _ h => no_some h) (fun _ h => no_some h) (fun _ h => no_some h) h
theorem vIfS_of {e : Stmt} {c : Expr × List Stmt × List Stmt} (h : vIfS e = some c) : ∃ pos, e = .If c.1 c.2.1 c.2.2 pos := vIfS_of' h
noncomputable def IsFor (c : Expr × Expr × List Stmt × List Stmt) (e : Stmt) : Prop := ∃ pos, e = .For c.1 c.2.1 c.2.2.1 c.2.2.2 pos
theorem vFor_of' {e : Stmt} {c : Expr × Expr × List Stmt × List Stmt} (h : vFor e = some c) : IsFor c e :=
  Stmt.casesOn (motive_2 := fun e => vFor e = some c → IsFor c e) e (fun _ _ _ _ _ _ _ _ _ _ h => no_some h) (fun _ _ _ _ _ _ _ _ _ _ h => no_some h) (fun _ _ _ _ _ _ _ _ _ _ _ h => no_some h) (fun _ _ h => no_some h) (fun _ _ h => no_some h) (fun _ _ _ h => no_some h) (fun _ _ _ _ _ _ _ h => no_some h) (fun _ _ _ _ h => no_some h) (fun _ _ _ _ _ h => no_some h) (fun _ _ _ _ _ h => by cases h; exact ⟨_, rfl⟩) (fun _ _ _ _ _ h => no_some h) (fun _ _ _ _ h => no_some h) (fun _ _ _ _ h => no_some h) (fun _ _ _ h => no_some h) (fun _ _ _ h => no_some h) (fun _ _ _ h => no_some h) (fun _ _ _ h => no_some h) (fun _ _ _ _ _ h => no_some h) (fun _ _ _ _ _ h => no_some h) (fun _ _ _ h => no_some h) (fun _ _ h => no_some h) (fun _ _ _ _ h => no_some h) (fun _ _ h => no_some h) (fun _ _ h => no_some h) (fun _ _ h => no_some h) (fun _ h => no_some h) (fun _ h => no_some h) (fun _ h => no_some h) h
theorem vFor_of {e : Stmt} {c : Expr × Expr × List Stmt × List Stmt} (h : vFor e = some c) : ∃ pos, e = .For c.1 c.2.1 c.2.2.1 c.2.2.2 pos := vFor_of' h
noncomputable def IsWh (c : Expr × List Stmt × List Stmt) (e : Stmt) : Prop := ∃ pos, e = .While c.1 c.2.1 c.2.2 pos
theorem vWh_of' {e : Stmt} {c : Expr × List Stmt × List Stmt} (h : vWh e = some c) : IsWh c e :=
  Stmt.casesOn (motive_2 := fun e => vWh e = some c → IsWh c e) e (fun _ _ _ _ _ _ _ _ _ _ h => no_some h) (fun _ _ _ _ _ _ _ _ _ _ h => no_some h) (fun _ _ _ _ _ _ _ _ _ _ _ h => no_some h) (fun _ _ h => no_some h) (fun _ _ h => no_some h) (fun _ _ _ h => no_some h) (fun _ _ _ _ _ _ _ h => no_some h) (fun _ _ _ _ h => no_some h) (fun _ _ _ _ _ h => no_some h) (fun _ _ _ _ _ h => no_some h) (fun _ _ _ _ _ h => no_some h) (fun _ _ _ _ h => by cases h; exact ⟨_, rfl⟩) (fun _ _ _ _ h => no_some h) (fun _ _ _ h => no_some h) (fun _ _ _ h => no_some h) (fun _ _ _ h => no_some h) (fun _ _ _ h => no_some h) (fun _ _ _ _ _ h => no_some h) (fun _ _ _ _ _ h => no_some h) (fun _ _ _ h => no_some h) (fun _ _ h => no_some h) (fun _ _ _ _ h => no_some h) (fun _ _ h => no_some h) (fun _ _ h => no_some h) (fun _ _ h => no_some h) (fun _ h => no_some h) (fun _ h => no_some h) (fun _ h => no_some h) h
theorem vWh_of {e : Stmt} {c : Expr × List Stmt × List Stmt} (h : vWh e = some c) : ∃ pos, e = .While c.1 c.2.1 c.2.2 pos := vWh_of' h
noncomputable def IsRet (c : Option Expr) (e : Stmt) : Prop := ∃ pos, e = .Return c pos
theorem vRet_of' {e : Stmt} {c : Option Expr} (h : vRet e = some c) : IsRet c e :=
  Stmt.casesOn (motive_2 := fun e => vRet e = some c → IsRet c e) e (fun _ _ _ _ _ _ _ _ _ _ h => no_some h) (fun _ _ _ _ _ _ _ _ _ _ h => no_some h) (fun _ _ _ _ _ _ _ _ _ _ _ h => no_some h) (fun _ _ h => by cases h; exact ⟨_, rfl⟩) (fun _ _ h => no_some h) (fun _ _ _ h => no_some h) (fun _ _ _ _ _ _ _ h => no_some h) (fun _ _ _ _ h => no_some h) (fun _ _ _ _ _ h => no_some h) (fun _ _ _ _ _ h => no_some h) (fun _ _ _ _ _ h => no_some h) (fun _ _ _ _ h => no_some h) (fun _ _ _ _ h => no_some h) (fun _ _ _ h => no_some h) (fun _ _ _ h => no_some h) (fun _ _ _ h => no_some h) (fun _ _ _ h => no_some h) (fun _ _ _ _ _ h => no_some h) (fun _ _ _ _ _ h => no_some h) (fun _ _ _ h => no_some h) (fun _ _ h => no_some h) (fun _ _ _ _ h => no_some h) (fun _ _ h => no_some h) (fun _ _ h => no_some h) (fun _ _ h => no_some h) (fun _ h => no_some h) (fun _ h => no_some h) (fun _ h => no_some h) h
theorem vRet_of {e : Stmt} {c : Option Expr} (h : vRet e = some c) : ∃ pos, e = .Return c pos := vRet_of' h
noncomputable def IsCont (e : Stmt) : Prop := ∃ pos, e = .Continue pos
theorem vCont_of' {e : Stmt} (h : vCont e = true) : IsCont e :=
  Stmt.casesOn (motive_2 := fun e => vCont e = true → IsCont e) e (fun _ _ _ _ _ _ _ _ _ _ h => no_true h) (fun _ _ _ _ _ _ _ _ _ _ h => no_true h) (fun _ _ _ _ _ _ _ _ _ _ _ h => no_true h) (fun _ _ h => no_true h) (fun _ _ h => no_true h) (fun _ _ _ h => no_true h) (fun _ _ _ _ _ _ _ h => no_true h) (fun _ _ _ _ h => no_true h) (fun _ _ _ _ _ h => no_true h) (fun _ _ _ _ _ h => no_true h) (fun _ _ _ _ _ h => no_true h) (fun _ _ _ _ h => no_true h) (fun _ _ _ _ h => no_true h) (fun _ _ _ h => no_true h) (fun _ _ _ h => no_true h) (fun _ _ _ h => no_true h) (fun _ _ _ h => no_true h) (fun _ _ _ _ _ h => no_true h) (fun _ _ _ _ _ h => no_true h) (fun _ _ _ h => no_true h) (fun _ _ h => no_true h) (fun _ _ _ _ h => no_true h) (fun _ _ h => no_true h) (fun _ _ h => no_true h) (fun _ _ h => no_true h) (fun _ h => no_true h) (fun _ h => no_true h) (fun _ h => by exact ⟨_, rfl⟩) h
theorem vCont_of {e : Stmt} (h : vCont e = true) : ∃ pos, e = .Continue pos := vCont_of' h
noncomputable def IsPass (e : Stmt) : Prop := ∃ pos, e = .Pass pos
theorem vPass_of' {e : Stmt} (h : vPass e = true) : IsPass e :=
  Stmt.casesOn (motive_2 := fun e => vPass e = true → IsPass e) e (fun _ _ _ _ _ _ _ _ _ _ h => no_true h) (fun _ _ _ _ _ _ _ _ _ _ h => no_true h) (fun _ _ _ _ _ _ _ _ _ _ _ h => no_true h) (fun _ _ h => no_true h) (fun _ _ h => no_true h) (fun _ _ _ h => no_true h) (fun _ _ _ _ _ _ _ h => no_true h) (fun _ _ _ _ h => no_true h) (fun _ _ _ _ _ h => no_true h) (fun _ _ _ _ _ h => no_true h) (fun _ _ _ _ _ h => no_true h) (fun _ _ _ _ h => no_true h) (fun _ _ _ _ h => no_true h) (fun _ _ _ h => no_true h) (fun _ _ _ h => no_true h) (fun _ _ _ h => no_true h) (fun _ _ _ h => no_true h) (fun _ _ _ _ _ h => no_true h) (fun _ _ _ _ _ h => no_true h) (fun _ _ _ h => no_true h) (fun _ _ h => no_true h) (fun _ _ _ _ h => no_true h) (fun _ _ h => no_true h) (fun _ _ h => no_true h) (fun _ _ h => no_true h) (fun _ h => by exact ⟨_, rfl⟩) (fun _ h => no_true h) (fun _ h => no_true h) h
theorem vPass_of {e : Stmt} (h : vPass e = true) : ∃ pos, e = .Pass pos := vPass_of' h
theorem noswap {v : Expr} {t : Option Expr} {line : Nat} (h : isComp v = false) : swapsWith v t line env = Pure.pure false := by
  cases v <;> first | rfl | (exact no_true h.symm)

/-- the parts of a comprehension -/
structure Cmp (W : Wd) (P : Px) (A : Around) (fs : List Env) (F : Fns) (env : Env) (Γ : Cx) (c : CE) (e0 : Expr) (gens : List Comprehension) (scope : Scope) : Prop where
  parts : ∃ elt k src ifs x px iter ifs', c = .comp elt (.one Γ.vis.length) 1 k src ifs ∧ gens = [⟨.Name x px, iter, ifs', 0⟩] ∧ CompOk scope env Γ.vis (seen scope x Γ.vis) 1 ∧ (∀ y, foldedSetIterable iter env y = Pure.pure y) ∧
    SiSrc W A fs env Γ.vis iter (fun r => bnd (evs P.S F src r) (srcV k)) ∧ (∀ cl C, SiB W A fs (compEnvC scope cl C env) (seen scope x Γ.vis) (tests ifs' (compEnvC scope cl C env) true) (fun r => evIf P.S F ifs r)) ∧
    (∀ cl C, SiE W A fs (compEnvC scope cl C env) (seen scope x Γ.vis) (eval e0 (compEnvC scope cl C env)) (fun r => ev P.S F elt r)) ∧ env.scope.kind = .function
theorem cmp_parts (X : Fx W P A fs n F) {Γ : Cx} : ∀ {c : CE} {e0 : Expr} {gens : List Comprehension} {scope : Scope} {pos : Pos} (hsc : env.scope = Γ.sc) (h : mE P Γ c (.ListComp e0 gens scope pos) = true), Cmp W P A fs F env Γ c e0 gens scope := by
  intro c e0 gens scope pos hsc h
  cases c with
  | comp elt t nl k src ifs =>
    obtain ⟨g, hg, h⟩ := any_of (o := vOne gens) h
    rw [vOne_of hg]
    obtain ⟨x, hx, h⟩ := any_of (o := vName g.target) h
    obtain ⟨h, h5⟩ := and_of h
    obtain ⟨h, h4⟩ := and_of h
    obtain ⟨h, h3⟩ := and_of h
    obtain ⟨h, h2⟩ := and_of h
    obtain ⟨h, h1⟩ := and_of h
    obtain ⟨h, h0⟩ := and_of h
    obtain ⟨ht, hnl⟩ := and_of h
    rw [of_dec ht, of_dec hnl]
    have hf : env.scope.kind = .function := by rw [hsc]; exact beq_iff_eq.mp (and_of h1).2
    exact ⟨elt, k, src, ifs, x.1, x.2, g.iter, g.ifs, rfl, by rw [← gen_eq hx h0], compOk_of hsc h1, set_of h2,
      src_of X hsc h3 (fun e c hc he => evOne X src Γ env e hsc c hc he) (fun es pos hs he => evL X src Γ env es pos hsc hs he),
      fun cl C => evIf_ X ifs (compIn scope x.1 Γ) _ g.ifs (relab_eq hsc) h4, fun cl C => evE X elt (compIn scope x.1 Γ) _ e0 (relab_eq hsc) h5, hf⟩
  | _ => exact no_true h

theorem asg_one (X : Fx W P A (env :: fs) n F) {Γ : Cx} {t : CT} {e : CE} {tg v : Expr} {pos : Pos} (hsc : env.scope = Γ.sc) (h : mAsg P Γ (.one t) e tg v = true) :
    SiS W A fs env Γ.vis (exec (.Assign [tg] v pos) env) (fun r => ex P.S F (.asg (.one t) e) r) := by
  obtain ⟨h, h3⟩ := and_of h
  obtain ⟨h1, h2⟩ := and_of h
  obtain ⟨i, y, py, rfl, rfl, ht⟩ := mT_of h1
  obtain ⟨hv, hk⟩ := tgt_of hsc ht
  have h3 : okComp Γ (y, py) v = true := h3
  cases hc : isComp v with
  | false => exact x_asg (evE X e Γ env v hsc h2) (a_name hv hk) (noswap (env := env) (line := pos.line) (t := some (.Name y py)) hc) rfl rfl
  | true =>
    have h3 : (!isComp v || (vComp v).any fun q => !(Γ.sc.names.lookup y == some .local) || (py.line == v.pos.line && !(q.2.2.names.any fun (n, k) => n == y && (k == .local || k == .cell)))) = true := h3
    rw [hc] at h3
    obtain ⟨q, hq, h3⟩ := any_of (o := vComp v) h3
    obtain ⟨cpos, rfl⟩ := vComp_of hq
    obtain ⟨elt, k, src, ifs, x, px, iter, ifs', rfl, hgen, ck, hs, hsrc, hifs, helt, hf⟩ := (cmp_parts X hsc h2).parts
    cases hloc : env.kindOf y == some .local with
    | true =>
      have hl' : (Γ.sc.names.lookup y == some NameKind.local) = true := by rw [← hsc]; exact hloc
      rw [hl'] at h3
      obtain ⟨h3, h4⟩ := and_of h3
      have hb : (env.blockKind == ScopeKind.function) = true := by
        unfold Env.blockKind; rw [hf]; rfl
      have hsw : swapsWithSole [.Name y py] (.ListComp q.1 q.2.1 q.2.2 cpos) pos.line env = Pure.pure true := by
        show (Pure.pure _ : Sem Bool) = _
        rw [hb, hloc, h3, h4]; rfl
      rw [hgen] at hsw ⊢
      have := x_asg_comp (W := W) (A := A) (fs := fs) (env := env) (vis := Γ.vis) (pos := pos) (vis' := seen q.2.2 x Γ.vis) (nl := 1) (j := Γ.vis.length) (i := i) ck hs (seen_last q.2.2 x Γ.vis) (Nat.le_refl _) hsrc hifs helt hsw hv (beq_iff_eq.mp hloc)
      intro s io m r Z
      have eq : ex P.S F (.asg (.one (.one i)) (.comp elt (.one Γ.vis.length) 1 k src ifs)) r = bnd (bnd (bnd (evs P.S F src r) (srcV k)) fun p => bnd (compD p.2 (stepOf Γ.vis.length (r ++ List.replicate 1 none) (fun r => evIf P.S F ifs r) (fun r => ev P.S F elt r)) p.1) fun l => if l.length ≤ lid then alloc (.list l) else bad) fun v => bnd (fun m => .ok (r.set i (some v)) m) fun r' => ret (.next, r') := by
        rw [bnd_assoc (evs P.S F src r)]; rfl
      dsimp only
      rw [eq]
      exact this s io m r Z
    | false =>
      have hsw : swapsWithSole [.Name y py] (.ListComp q.1 q.2.1 q.2.2 cpos) pos.line env = Pure.pure false := by
        show (Pure.pure _ : Sem Bool) = _
        rw [hloc, Bool.and_false]; rfl
      exact x_asg (evE X _ Γ env _ hsc h2) (a_name hv hk) hsw rfl rfl
theorem asg_all (X : Fx W P A (env :: fs) n F) {Γ : Cx} {t : CTgt} {e : CE} {tg v : Expr} {pos : Pos} (hsc : env.scope = Γ.sc) (h : mAsg P Γ t e tg v = true) :
    SiS W A fs env Γ.vis (exec (.Assign [tg] v pos) env) (fun r => ex P.S F (.asg t e) r) := by
  cases t with
  | one t => exact asg_one X hsc h
  | attr o k => exact no_true h
  | idx o i =>
    obtain ⟨q, hq, h⟩ := any_of (o := vSub tg) h
    obtain ⟨p, rfl⟩ := vSub_of hq
    obtain ⟨h, h4⟩ := and_of h
    obtain ⟨h, h3⟩ := and_of h
    obtain ⟨h1, h2⟩ := and_of h
    exact x_asg (evE X e Γ env v hsc h3) (a_idx X.R (evE X o Γ env _ hsc h1) (evE X i Γ env _ hsc h2)) (noswap (env := env) (line := pos.line) (t := some (.Subscript q.1 q.2 p)) ((Bool.not_eq_true' _).mp h4)) rfl rfl
  | idx2 o i o' i' => exact no_true h
theorem for_all {Γ : Cx} {i : Nat} {src : List CE} {k : IK} {body : List CS} {y : Str} {py pos : Pos} {iter : Expr} {b : List Stmt} (hsrc : SiSrc W A (env :: fs) env Γ.vis iter (fun r => bnd (evs P.S F src r) (srcV k))) (hv : Γ.vis[i]? = some (some y)) (hk : env.kindOf y = some .local ∨ env.kindOf y = some .cell)
    (hb : SiS W A fs env Γ.vis (execs b env) (fun r => exs P.S F body r)) (hs : ∀ x, foldedSetIterable iter env x = Pure.pure x) : SiS W A fs env Γ.vis (exec (.For (.Name y py) iter b [] pos) env) (fun r => ex P.S F (.for_ k (.one i) src body) r) := by
  have := x_for (pos := pos) (target := .Name y py) hsrc (a_name hv hk) hb hs
  intro s io m r Z
  have eq : ex P.S F (.for_ k (.one i) src body) r = bnd (bnd (evs P.S F src r) (srcV k)) fun p => forD p.2 (fun v r' => bnd (fun m => .ok (r'.set i (some v)) m) fun r'' => exs P.S F body r'') p.1 r := by
    rw [bnd_assoc]; rfl
  dsimp only
  rw [eq]
  exact this s io m r Z
theorem mSs_nil {Γ : Cx} {es : List Stmt} (h : mSs P Γ [] es = true) : es = [] := nil_of h
theorem mSs_cons {Γ : Cx} {c : CS} {cs : List CS} {es : List Stmt} (h : mSs P Γ (c :: cs) es = true) : ∃ e es', es = e :: es' ∧ mS P Γ c e = true ∧ mSs P Γ cs es' = true := by
  cases es with
  | nil => exact no_true h
  | cons e es => have := and_of (a := mS P Γ c e) (b := mSs P Γ cs es) h; exact ⟨e, es, rfl, this.1, this.2⟩

mutual
theorem exS (X : Fx W P A (env :: fs) n F) : ∀ (c : CS) (Γ : Cx) (st : Stmt), env.scope = Γ.sc → mS P Γ c st = true → SiS W A fs env Γ.vis (exec st env) (fun r => ex P.S F c r)
  | .asg t e, Γ, st, hsc, h => by
    obtain ⟨q, hq, h⟩ := any_of (o := vAsg st) h
    rw [vAsg_of hq]
    obtain ⟨tg, ht, h⟩ := any_of (o := vOne q.1) h
    rw [vOne_of ht]
    exact asg_all X hsc h
  | .exp e, Γ, st, hsc, h => by
    obtain ⟨q, hq, h⟩ := any_of (o := vExp st) h
    obtain ⟨_, rfl⟩ := vExp_of hq
    obtain ⟨h1, h2⟩ := and_of h
    exact x_exp (noswap ((Bool.not_eq_true' _).mp h2)) (evE X e Γ env _ hsc h1)
  | .ite c a b, Γ, st, hsc, h => by
    obtain ⟨q, hq, h⟩ := any_of (o := vIfS st) h
    obtain ⟨_, rfl⟩ := vIfS_of hq
    obtain ⟨h, h3⟩ := and_of h
    obtain ⟨h1, h2⟩ := and_of h
    exact x_if (evTt X c Γ env _ hsc h1) (exSs X a Γ _ hsc h2) (exSs X b Γ _ hsc h3)
  | .for_ k t src body, Γ, st, hsc, h => by
    obtain ⟨q, hq, h⟩ := any_of (o := vFor st) h
    obtain ⟨_, rfl⟩ := vFor_of hq
    obtain ⟨h, h4⟩ := and_of h
    obtain ⟨h, h3⟩ := and_of h
    obtain ⟨h, h2⟩ := and_of h
    obtain ⟨h0, h1⟩ := and_of h
    obtain ⟨i, y, py, rfl, he, ht⟩ := mT_of h1
    obtain ⟨hv, hk⟩ := tgt_of hsc ht
    rw [he, nil_of h0]
    exact for_all (src_of X hsc h3 (fun e c hc he => evOne X src Γ env e hsc c hc he) (fun es pos hs he => evL X src Γ env es pos hsc hs he)) hv hk (exSs X body Γ _ hsc h4) (set_of h2)
  | .wh c body, Γ, st, hsc, h => by
    obtain ⟨q, hq, h⟩ := any_of (o := vWh st) h
    obtain ⟨_, rfl⟩ := vWh_of hq
    obtain ⟨h, h2⟩ := and_of h
    obtain ⟨h0, h1⟩ := and_of h
    rw [nil_of h0]
    exact x_while (fuel := fuelW) (evTt X c Γ env _ hsc h1) (exSs X body Γ _ hsc h2)
  | .ret e, Γ, st, hsc, h => by
    obtain ⟨q, hq, h⟩ := any_of (o := vRet st) h
    obtain ⟨_, rfl⟩ := vRet_of hq
    obtain ⟨v, hv, h⟩ := any_of (o := q) h
    rw [hv]
    exact x_ret (evE X e Γ env _ hsc h)
  | .rse c msg, Γ, st, hsc, h => no_true h
  | .try_ b c nm hh, Γ, st, hsc, h => no_true h
  | .cont, Γ, st, hsc, h => by
    obtain ⟨_, rfl⟩ := vCont_of h
    exact x_cont
  | .pass, Γ, st, hsc, h => by
    obtain ⟨_, rfl⟩ := vPass_of h
    exact x_pass
theorem exSs (X : Fx W P A (env :: fs) n F) : ∀ (cs : List CS) (Γ : Cx) (ss : List Stmt), env.scope = Γ.sc → mSs P Γ cs ss = true → SiS W A fs env Γ.vis (execs ss env) (fun r => exs P.S F cs r)
  | [], Γ, ss, hsc, h => by
    rw [mSs_nil h]
    exact x_nil
  | c :: cs, Γ, ss, hsc, h => by
    obtain ⟨e, es', he, h1, h2⟩ := mSs_cons h
    rw [he]
    exact x_cons (exS X c Γ _ hsc h1) (exSs X cs Γ _ hsc h2)
end

theorem mFs_get : ∀ {ds : List FnD} {j i : Nat} {d : FnD}, mFs P j ds = true → ds[i]? = some d → mF P (j + i) d = true
  | [], j, i, d, _, h => by simp at h
  | x :: ds, j, i, d, hm, h => by
    simp only [mFs, Bool.and_eq_true] at hm
    cases i with
    | zero => simp at h; subst h; exact hm.1
    | succ i =>
      have := mFs_get (j := j + 1) hm.2 (by simpa using h)
      rwa [show j + (i + 1) = j + 1 + i by omega]

theorem fns_sim (gl : Gl W P.K) (hS : W.S = P.S) (hfa : W.fa = P.fa) (hck : mFs P 0 P.S.fns = true) : ∀ (n : Nat) (A : Around) (fs : List Env), AR A fs n → ∀ k, SiF W A fs (.ref (W.fa k)) (run P.S n k)
  | 0, A, fs, R, k => fun s io m vs us H G hu hne => absurd rfl hne
  | n + 1, A, fs, R, k => by
    show SiF W A fs (.ref (W.fa k)) (callF P.S (run P.S n) k)
    cases hd : P.S.fns[k]? with
    | none =>
      intro s io m vs us H G hu hne
      exact absurd (by unfold callF; rw [hd]; rfl) hne
    | some d =>
      have hm := mFs_get (j := 0) hck hd
      rw [Nat.zero_add] at hm
      unfold mF at hm
      split at hm
      · rename_i o ho
        split at hm
        · rename_i fd hfd
          split at hm
          · rename_i body hb
            simp only [Bool.and_eq_true] at hm
            have := call_sim (W := W) (fs := fs) (A := A) (n := n) (Fb := fun r => exs P.S (run P.S n) d.body r) gl R ho hfd hm.1 hb
              (fun env hsc => exSs (X := ⟨gl, R.deeper env, hS, hfa, fns_sim gl hS hfa hck n (A.deeper env) (env :: fs) (R.deeper env)⟩) d.body ⟨fd.scope, d.names.map some⟩ body hsc hm.2)
            rw [← hfa] at this
            have eq : callF P.S (run P.S n) k = fun vs => if vs.length = d.np then bnd (exs P.S (run P.S n) d.body (vs.map some ++ List.replicate (d.names.length - d.np) none)) (fun p => match p.1 with | .ret v => ret v | .next => ret .none | .cont => bad) else bad := by
              funext vs; unfold callF; rw [hd]; try rfl
            rw [eq]
            exact this
          · cases hm
        · cases hm
      · cases hm
end
end Mini

/-! Rules for what the small language computes. -/
namespace Mini
open PySem

noncomputable def Ok {α : Type} (x : Mn α) (m : MH) (Q : α → MH → Prop) : Prop := ∃ a m', x m = .ok a m' ∧ Q a m'
theorem Ok.mono {α : Type} {x : Mn α} {m : MH} {Q Q' : α → MH → Prop} (h : Ok x m Q) (k : ∀ a m', Q a m' → Q' a m') : Ok x m Q' := by
  obtain ⟨a, m', e, q⟩ := h; exact ⟨a, m', e, k a m' q⟩
theorem ok_bnd {α β : Type} {x : Mn α} {f : α → Mn β} {m : MH} {Q : β → MH → Prop} : Ok (bnd x f) m Q ↔ Ok x m fun a m' => Ok (f a) m' Q := by
  constructor
  · rintro ⟨b, m', e, q⟩
    unfold bnd at e
    cases h : x m with
    | ok a m1 => rw [h] at e; exact ⟨a, m1, h, b, m', e, q⟩
    | exc c m1 => rw [h] at e; cases e
    | bad => rw [h] at e; cases e
  · rintro ⟨a, m1, e, b, m', e', q⟩
    exact ⟨b, m', by unfold bnd; rw [e]; exact e', q⟩
theorem ok_ret {α : Type} {a : α} {m : MH} {Q : α → MH → Prop} : Ok (ret a) m Q ↔ Q a m := by
  constructor
  · rintro ⟨b, m', e, q⟩; cases e; exact q
  · intro q; exact ⟨a, m, rfl, q⟩
theorem ok_of {α : Type} {x : Mn α} {a : α} {m m' : MH} {Q : α → MH → Prop} (e : x m = .ok a m') (q : Q a m') : Ok x m Q := ⟨a, m', e, q⟩
/-- what was there is there -/
noncomputable def Le (m m' : MH) : Prop := m.length ≤ m'.length ∧ ∀ p, p < m.length → m'[p]? = m[p]?
theorem Le.refl (m : MH) : Le m m := ⟨Nat.le_refl _, fun _ _ => rfl⟩
theorem Le.trans {a b c : MH} (h : Le a b) (k : Le b c) : Le a c := ⟨Nat.le_trans h.1 k.1, fun p q => (k.2 p (Nat.lt_of_lt_of_le q h.1)).trans (h.2 p q)⟩
theorem Le.app (m e : MH) : Le m (m ++ e) := ⟨by simp, fun p q => List.getElem?_append_left q⟩
theorem Le.has {m m' : MH} (h : Le m m') {p : Nat} {o : MObj} (k : m[p]? = some o) : m'[p]? = some o := by
  have q : p < m.length := by
    rcases Nat.lt_or_ge p m.length with q | q
    · exact q
    · rw [List.getElem?_eq_none q] at k; cases k
  rw [h.2 p q, k]
theorem has_lt {m : MH} {p : Nat} {o : MObj} (k : m[p]? = some o) : p < m.length := by
  rcases Nat.lt_or_ge p m.length with q | q
  · exact q
  · rw [List.getElem?_eq_none q] at k; cases k
theorem Le.set {m m' : MH} (h : Le m m') {p : Nat} (hp : m.length ≤ p) (o : MObj) : Le m (m'.set p o) :=
  ⟨by rw [List.length_set]; exact h.1, fun q hq => by rw [List.getElem?_set_ne (by omega)]; exact h.2 q hq⟩
theorem set_has {m : MH} {p : Nat} {o o' : MObj} (k : m[p]? = some o) : (m.set p o')[p]? = some o' := by
  rw [List.getElem?_set_self (has_lt k)]
theorem set_other {m : MH} {p q : Nat} {o o' : MObj} (hn : p ≠ q) (k : m[q]? = some o) : (m.set p o')[q]? = some o := by
  rw [List.getElem?_set_ne hn]; exact k
theorem new_has {m : MH} {o : MObj} : (m ++ [o])[m.length]? = some o := by simp

theorem stays_list {m : MH} {n : Nat} {xs : List V} (h : m[n]? = some (.list xs)) : (Gd.list n xs).stays m = true := by
  show (match m[n]? with | some (.list ys) => V.sames xs ys | _ => false) = true
  rw [h]; exact sames_self xs
theorem while_ok {c : Lo → Mn Bool} {body : Lo → Mn (Fl × Lo)} (Inv : Nat → Lo → MH → Prop) {Q : Fl × Lo → MH → Prop}
    (h : ∀ k r m, Inv k r m → Ok (c r) m (fun b m' => if b = true then ∃ k', k = k' + 1 ∧ Ok (body r) m' (fun p m'' => match p.1 with
        | .ret x => Q (.ret x, p.2) m''
        | _ => Inv k' p.2 m'') else Q (.next, r) m')) :
    ∀ (n k : Nat), k < n → ∀ r m, Inv k r m → Ok (whileD c body n r) m Q
  | 0, k, hk, r, m, i => absurd hk (Nat.not_lt_zero _)
  | n + 1, k, hk, r, m, i => by
    obtain ⟨b, m1, e, q⟩ := h k r m i
    rw [whileD, ok_bnd]
    refine ok_of (a := b) (m' := m1) (by show (c r m).nox = _; rw [e]; rfl) ?_
    cases b with
    | false => rw [if_neg (by simp)] at q; show Ok (ret _) m1 Q; exact ok_ret.2 q
    | true =>
      rw [if_pos rfl] at q
      obtain ⟨k', ek, ⟨f, r1⟩, m2, e2, q2⟩ := q
      show Ok (bnd _ _) m1 Q
      rw [ok_bnd]
      refine ok_of (a := (f, r1)) (m' := m2) (by show (body r m1).nox = _; rw [e2]; rfl) ?_
      cases f with
      | ret x => exact ok_ret.2 q2
      | next => exact while_ok Inv h n k' (by omega) r1 m2 q2
      | cont => exact while_ok Inv h n k' (by omega) r1 m2 q2

/-- the call of a function -/
theorem run_at {S : Sig} {n k : Nat} {d : FnD} (h : S.fns[k]? = some d) {vs : List V} (hv : vs.length = d.np) : run S (n + 1) k vs = bnd (exs S (run S n) d.body (vs.map some ++ List.replicate (d.names.length - d.np) Option.none)) fun p => match p.1 with
      | .ret v => ret v
      | .next => ret .none
      | .cont => bad := by
  show callF S (run S n) k vs = _
  unfold callF; rw [h]; simp only [hv, if_true]; try rfl
end Mini

/-! From the law's call to Mini's run. -/
namespace Mini
open PySem PySem.W PyProof.Rows

noncomputable def faOf (K : Frag) (S : Sig) (k : Nat) : Addr := match S.fns[k]? with
  | some d => (match nsIn K mainGlobals d.name with | some (some (.ref a)) => a | _ => 0)
  | none => 0

theorem intsR_of : ∀ {vs : List Value} {ns : List Int}, IntsAre vs ns → IntsR ns vs
  | _, _, .nil => .nil
  | _, _, .cons n t h => .cons n t (intsR_of h)

theorem fa_ok {K : Frag} {S : Sig} {k : Nat} {d : FnD} {h : Heap} {mg : Str → Option Value} {fa : Addr} (X : K.In h) (g : h.Ns mainGlobals mg) (hd : S.fns[k]? = some d) (hk : (match nsIn K mainGlobals d.name with | some (some (.ref _)) => true | _ => false) = true) (hm : mg d.name = some (.ref fa)) : fa = faOf K S k := by
  unfold faOf
  rw [hd]
  dsimp only
  split at hk
  · rename_i a e
    have := mg_of X g e
    rw [hm] at this
    cases this
    rfl
  · cases hk

theorem glue {prog : Program} {w : World} {K : Frag} {S : Sig} {ca : Nat → Addr} {s₁ : Shared} {mg mb : Str → Option Value} {loose : List Str} {view : Program} {mean : ExcName → Option Value} {claim : ClaimW} {cl : Str → Option Addr} {args : List WData} {fa l : Addr} {vals : List Value} {ns : List Int} {k n : Nat}
    (T : Top view loose mean mg mb s₁.heap) (hsee : importsNone view = true) (KX : K.In s₁.heap) (hg : s₁.gens = #[]) (hck : mFs ⟨K, S, faOf K S⟩ 0 S.fns = true) (hf : fa = faOf K S k)
    (hL : s₁.heap.IsList l vals.toArray) (hI : IntsAre vals ns) (hlen : ns.length ≤ 63) (hn : n ≤ 100) (hrun : Ok (run S n k [.scr ns]) [] (fun v _ => v = .bool true))
    (hr : ∀ cls, claim.raises args cls = false) (hp : claim.post args (.bool true) args = true) :
    wpAny (model prog w) callerA (call (.ref fa) [.ref l]) (fun v s' => GoodWG claim cl mean args s₁ (.ok (.ret v)) s') (fun e s' => GoodWG claim cl mean args s₁ (.error e) s') s₁ := by
  let W : Wd := ⟨prog, w, S, faOf K S, ca, s₁.heap⟩
  have gl : Gl W K := ⟨⟨by obtain ⟨mm, ⟨o, _, _, e, _⟩, _⟩ := (T.seer hsee).mods; exact ⟨o, e⟩, T.nolimit⟩, KX, mg, mb, T.g, T.b, T.builtins⟩
  have R : AR callerA [] n := ⟨rfl, by show 1 + claimMargin + 4 * n ≤ 900; have : claimMargin ≤ 400 := by decide +kernel
                                       omega, by show 4 + 40 * n + 400 ≤ 9000; omega, rfl⟩
  refine hide fun GOAL hGOAL => ?_
  obtain ⟨v, m', e, rfl⟩ := hrun
  refine hGOAL ?_
  clear hGOAL GOAL
  have H : HR W s₁.heap [] [] := ⟨fun _ _ e => e, rfl, fun n p o h => by simp at h, fun b ⟨p, hp, _⟩ => (nomatch hp), fun i j p q _ h => by simp at h⟩
  refine hide fun GOAL hGOAL => ?_
  obtain ⟨o, ho, hc, N, hd⟩ := hL
  refine hGOAL ?_
  clear hGOAL GOAL
  have hv : VRs W s₁.heap [] [.scr ns] [.ref l] := .cons (.scr ho hc hd (by simpa using intsR_of hI) (by unfold lid; omega)) .nil
  have key := fns_sim (P := ⟨K, S, faOf K S⟩) gl rfl rfl hck n callerA [] R k s₁ [] [] [.scr ns] [.ref l] H (fun _ q => nomatch q) hv (by rw [e]; intro q; cases q)
  rw [hf]
  refine wpAny_mono key (fun u s' q => ?_) fun x s' q => ?_
  · refine hide fun GOAL hGOAL => ?_
    obtain ⟨v, m2, io', e2, st, H2, kv, sm⟩ := q
    refine hGOAL ?_
    clear hGOAL GOAL
    rw [e] at e2
    cases e2
    cases kv
    exact GoodW.toG ⟨.inl ⟨_, _, [], rfl, hr, .bool true, hp, fun _ => ⟨List.nodup_nil, fun _ q => nomatch q⟩⟩, H2.keep, sm.2, sm.1.trans hg⟩
  · refine hide fun GOAL hGOAL => ?_
    obtain ⟨c, m2, io', a, g, e2, _⟩ := q
    refine hGOAL ?_
    clear hGOAL GOAL
    rw [e] at e2
    cases e2
end Mini

/-! Rules that leave small proofs. -/
namespace Mini
open PySem
section
variable {S : Sig} {F : Fns} {r : Lo} {m m₁ m₂ m₃ : MH} {Q : Fl × Lo → MH → Prop}
theorem bind_ok {α β : Type} {x : Mn α} {a : α} {f : α → Mn β} (h : x m = .ok a m₁) : (x m).bind f = f a m₁ := by rw [h]; rfl
theorem ev_bin {op : Operator} {a b : CE} {x y v : V} (ha : ev S F a r m = .ok x m₁) (hb : ev S F b r m₁ = .ok y m₂) (h : binV op x y m₂ = .ok v m₃) : ev S F (.bin op a b) r m = .ok v m₃ :=
  (bind_ok (x := ev S F a r) ha).trans ((bind_ok (x := ev S F b r) hb).trans h)
theorem ev_call {k : Nat} {as : List CE} {vs : List V} {v : V} (ha : evs S F as r m = .ok vs m₁) (h : F k vs m₁ = .ok v m₂) : ev S F (.call k as) r m = .ok v m₂ :=
  (bind_ok (x := evs S F as r) ha).trans h
theorem ev_bi {b : Bi} {as : List CE} {vs : List V} {v : V} (ha : evs S F as r m = .ok vs m₁) (h : biV b vs m₁ = .ok v m₂) : ev S F (.bi b as) r m = .ok v m₂ :=
  (bind_ok (x := evs S F as r) ha).trans h
theorem ev_idx {a i : CE} {x y v : V} (ha : ev S F a r m = .ok x m₁) (hb : ev S F i r m₁ = .ok y m₂) (h : idxV x y m₂ = .ok v m₃) : ev S F (.idx a i) r m = .ok v m₃ :=
  (bind_ok (x := ev S F a r) ha).trans ((bind_ok (x := ev S F i r) hb).trans h)
theorem ev_slice {a lo hi st : CE} {x l u t v : V} {m₄ m₅ : MH} (ha : ev S F a r m = .ok x m₁) (hl : ev S F lo r m₁ = .ok l m₂) (hu : ev S F hi r m₂ = .ok u m₃) (ht : ev S F st r m₃ = .ok t m₄) (h : sliceV x l u t m₄ = .ok v m₅) : ev S F (.slice a lo hi st) r m = .ok v m₅ :=
  (bind_ok (x := ev S F a r) ha).trans ((bind_ok (x := ev S F lo r) hl).trans ((bind_ok (x := ev S F hi r) hu).trans ((bind_ok (x := ev S F st r) ht).trans h)))
theorem ev_tup {as : List CE} {vs : List V} (ha : evs S F as r m = .ok vs m₁) : ev S F (.tup as) r m = .ok (.tup vs) m₁ := bind_ok (x := evs S F as r) ha
theorem ev_list {as : List CE} {vs : List V} (ha : evs S F as r m = .ok vs m₁) : ev S F (.list as) r m = .ok (.ref m₁.length) (m₁ ++ [.list vs]) := bind_ok (x := evs S F as r) ha
theorem ev_isi {a : CE} {t : Ty} {x : V} {b : Bool} (ha : ev S F a r m = .ok x m₁) (h : isiV S x t m₁ = .ok b m₂) : ev S F (.isi a t) r m = .ok (.bool b) m₂ :=
  (bind_ok (x := ev S F a r) ha).trans (bind_ok (x := isiV S x t) h)
theorem ev_cmp1 {a b : CE} {op : CmpOp} {x y : V} {c : Bool} (ha : ev S F a r m = .ok x m₁) (hb : ev S F b r m₁ = .ok y m₂) (h : cmpV op x y m₂ = .ok c m₃) : ev S F (.cmp a [op] [b]) r m = .ok (.bool c) m₃ :=
  (bind_ok (x := ev S F a r) ha).trans ((bind_ok (x := ev S F b r) hb).trans (bind_ok (x := cmpV op x y) h))
theorem ev_and2 {a b : CE} {v : V} (ha : ev S F a r m = .ok (.bool true) m₁) (hb : ev S F b r m₁ = .ok v m₂) : ev S F (.boolop true [a, b]) r m = .ok v m₂ :=
  (bind_ok (x := ev S F a r) ha).trans hb
theorem ev_smeth {o : CE} {n : Sm} {as : List CE} {x v : V} {k : Nat} {vs : List V} (ho : ev S F o r m = .ok x m₁) (hk : smK x m₁ = some k) (hs : smH k n = true) (ha : evs S F as r m₁ = .ok vs m₂) (h : smethV k x n vs m₂ = .ok v m₃) : ev S F (.smeth o n as) r m = .ok v m₃ := by
  refine (bind_ok (x := ev S F o r) ho).trans ?_
  show (match smK x m₁ with | some k => if smH k n then bnd (evs S F as r) (fun vs => smethV k x n vs) m₁ else .bad | Option.none => .bad) = _
  rw [hk]
  show (if smH k n then bnd (evs S F as r) (fun vs => smethV k x n vs) m₁ else .bad) = _
  rw [if_pos hs]
  exact (bind_ok (x := evs S F as r) ha).trans h
theorem evs_cons {a : CE} {as : List CE} {v : V} {vs : List V} (ha : ev S F a r m = .ok v m₁) (hb : evs S F as r m₁ = .ok vs m₂) : evs S F (a :: as) r m = .ok (v :: vs) m₂ :=
  (bind_ok (x := ev S F a r) ha).trans (bind_ok (x := evs S F as r) hb)
theorem evT_val {e : CE} {v : V} {b : Bool} (h : ev S F e r m = .ok v m₁) (ht : truth v m₁ = .ok b m₂) : evT S F (.val e) r m = .ok b m₂ := (bind_ok (x := ev S F e r) h).trans ht
theorem evT_not {e : CB} {b : Bool} (h : evT S F e r m = .ok b m₁) : evT S F (.not e) r m = .ok (!b) m₁ := bind_ok (x := evT S F e r) h
theorem evT_all {c : Bool} {bs : List CB} {b : Bool} (h : evTs S F c bs r m = .ok b m₁) : evT S F (.all c bs) r m = .ok b m₁ := h
theorem evTs_go {c : Bool} {a : CB} {as : List CB} {b : Bool} (h : evT S F a r m = .ok c m₁) (k : evTs S F c as r m₁ = .ok b m₂) : evTs S F c (a :: as) r m = .ok b m₂ := by
  refine (bind_ok (x := evT S F a r) h).trans ?_
  show (if (c == c) = true then evTs S F c as r else ret c) m₁ = _
  rw [if_pos (beq_self_eq_true c)]; exact k
theorem evTs_stop {c b : Bool} {a : CB} {as : List CB} (h : evT S F a r m = .ok b m₁) (hb : (b == c) = false) : evTs S F c (a :: as) r m = .ok b m₁ := by
  refine (bind_ok (x := evT S F a r) h).trans ?_
  show (if (b == c) = true then evTs S F c as r else ret b) m₁ = _
  rw [if_neg (by rw [hb]; exact Bool.false_ne_true)]; rfl
theorem evTs_end {c : Bool} : evTs S F c [] r m = .ok c m := rfl

theorem ok_bind {α β : Type} {x : Mn α} {f : α → Mn β} {P : β → MH → Prop} (h : Ok x m fun a m' => Ok (f a) m' P) : Ok (bnd x f) m P := ok_bnd.2 h
theorem bind_of {α β : Type} {x : Mn α} {f : α → Mn β} {P : β → MH → Prop} (h : Ok (bnd x f) m P) : Ok x m fun a m' => Ok (f a) m' P := ok_bnd.1 h
theorem exs_append {S : Sig} {F : Fns} : ∀ (a b : List CS) (r : Lo) (m : MH) {Q : Fl × Lo → MH → Prop}, Ok (exs S F (a ++ b) r) m Q → Ok (exs S F a r) m (fun p m' => match p.1 with | .next => Ok (exs S F b p.2) m' Q | _ => Q p m')
  | [], b, r, m, Q, h => ⟨_, _, rfl, h⟩
  | s :: a, b, r, m, Q, h => by
    refine ok_bind (x := ex S F s r) (Ok.mono (bind_of (x := ex S F s r) h) ?_)
    rintro ⟨f, r1⟩ m1 q
    cases f with
    | next => exact exs_append a b r1 m1 q
    | cont => exact ok_ret.2 (ok_ret.1 q)
    | ret v => exact ok_ret.2 (ok_ret.1 q)
theorem exs_app {S : Sig} {F : Fns} : ∀ (a b : List CS) (r : Lo) (m : MH) {Q : Fl × Lo → MH → Prop}, Ok (exs S F a r) m (fun p m' => match p.1 with | .next => Ok (exs S F b p.2) m' Q | _ => Q p m') → Ok (exs S F (a ++ b) r) m Q
  | [], b, r, m, Q, h => by obtain ⟨p, m', e, q⟩ := h; cases e; exact q
  | s :: a, b, r, m, Q, h => by
    refine ok_bind (x := ex S F s r) (Ok.mono (bind_of (x := ex S F s r) h) ?_)
    rintro ⟨f, r1⟩ m1 q
    cases f with
    | next => exact exs_app a b r1 m1 q
    | cont => obtain ⟨p, m', e, q⟩ := q; cases e; exact ok_ret.2 q
    | ret v => obtain ⟨p, m', e, q⟩ := q; cases e; exact ok_ret.2 q
theorem ok_step {s : CS} {ss : List CS} {r' : Lo} (h : ex S F s r m = .ok (.next, r') m₁) (k : Ok (exs S F ss r') m₁ Q) : Ok (exs S F (s :: ss) r) m Q := ok_bind (x := ex S F s r) (ok_of h k)
theorem st_asg {i : Nat} {e : CE} {v : V} {ss : List CS} (h : ev S F e r m = .ok v m₁) (k : Ok (exs S F ss (r.set i (some v))) m₁ Q) : Ok (exs S F (.asg (.one (.one i)) e :: ss) r) m Q := ok_step (bind_ok (x := ev S F e r) h) k
theorem st_exp {e : CE} {v : V} {ss : List CS} (h : ev S F e r m = .ok v m₁) (k : Ok (exs S F ss r) m₁ Q) : Ok (exs S F (.exp e :: ss) r) m Q := ok_step (bind_ok (x := ev S F e r) h) k
theorem st_idx {o i e : CE} {v x y : V} {ss : List CS} {m₄ : MH} (h : ev S F e r m = .ok v m₁) (ho : ev S F o r m₁ = .ok x m₂) (hi : ev S F i r m₂ = .ok y m₃) (hp : putIdx x y v m₃ = .ok () m₄) (k : Ok (exs S F ss r) m₄ Q) : Ok (exs S F (.asg (.idx o i) e :: ss) r) m Q := by
  refine ok_step (m₁ := m₄) (r' := r) ((bind_ok (x := ev S F e r) h).trans ?_) k
  show Res.bind (Res.bind (ev S F o r m₁) _) _ = _
  rw [ho]
  show Res.bind (Res.bind (ev S F i r m₂) _) _ = _
  rw [hi]
  show Res.bind (Res.bind (putIdx x y v m₃) _) _ = _
  rw [hp]; rfl
theorem st_ret {e : CE} {v : V} {ss : List CS} (h : ev S F e r m = .ok v m₁) (q : Q (.ret v, r) m₁) : Ok (exs S F (.ret e :: ss) r) m Q :=
  ok_bind (x := ex S F (.ret e) r) (ok_of (bind_ok (x := ev S F e r) h) (ok_ret.2 q))
theorem st_ite {c : CB} {a b ss : List CS} {t : Bool} (h : evT S F c r m = .ok t m₁) (k : Ok (exs S F ((bif t then a else b) ++ ss) r) m₁ Q) : Ok (exs S F (.ite c a b :: ss) r) m Q := by
  obtain ⟨⟨f, r1⟩, m', e', q⟩ := exs_append _ _ _ _ k
  have e2 : ex S F (.ite c a b) r m = .ok (f, r1) m' := (bind_ok (x := evT S F c r) h).trans (by cases t <;> exact e')
  refine ok_bind (x := ex S F (.ite c a b) r) (ok_of e2 ?_)
  cases f with
  | next => exact q
  | cont => exact ok_ret.2 q
  | ret v => exact ok_ret.2 q
theorem st_nil (q : Q (.next, r) m) : Ok (exs S F [] r) m Q := ok_ret.2 q
/-- a for whose turns all go on -/
theorem st_for {α β : Type} {k : IK} {i : Nat} {src : List CE} {body ss : List CS} {vs : List V} {g : Gd} {vv : α → V} {xs : List α} {b₀ : β} (I : β → Lo → MH → Prop) (f : β → α → β) (hs : evs S F src r m = .ok vs m₁) (hv : srcV k vs m₁ = .ok (xs.map vv, g) m₂) (h₀ : I b₀ r m₂) (hg : ∀ b r m, I b r m → g.stays m = true)
    (step : ∀ a ∈ xs, ∀ b r m, I b r m → Ok (exs S F body (r.set i (some (vv a)))) m (fun p m' => p.1 = .next ∧ I (f b a) p.2 m')) (fin : ∀ r' m', I (xs.foldl f b₀) r' m' → Ok (exs S F ss r') m' Q) :
    Ok (exs S F (.for_ k (.one i) src body :: ss) r) m Q := by
  have key : ∀ (xs : List α) (_ : ∀ a ∈ xs, ∀ b r m, I b r m → Ok (exs S F body (r.set i (some (vv a)))) m (fun p m' => p.1 = .next ∧ I (f b a) p.2 m')) (b : β) (r : Lo) (m : MH), I b r m →
      Ok (forD g (fun v r' => bnd (setT (.one i) v r') fun r'' => exs S F body r'') (xs.map vv) r) m (fun p m' => p.1 = .next ∧ I (xs.foldl f b) p.2 m') := by
    intro xs
    induction xs with
    | nil => intro _ b r m h; exact ⟨(.next, r), m, if_pos (hg b r m h), rfl, h⟩
    | cons a xs ih =>
      intro hs b r m h
      obtain ⟨⟨fl, r1⟩, m1, e, e0, h1⟩ := hs a (List.mem_cons_self ..) b r m h
      have e0 : fl = .next := e0
      subst e0
      obtain ⟨p2, m2, e2, q2⟩ := ih (fun x hx => hs x (List.mem_cons_of_mem _ hx)) (f b a) r1 m1 h1
      refine ⟨p2, m2, ?_, q2⟩
      show (if g.stays m then _ else _) = _
      rw [if_pos (hg b r m h)]
      show Res.bind (Res.nox (exs S F body (r.set i (some (vv a))) m)) _ = _
      rw [e]; exact e2
  obtain ⟨⟨fl, r1⟩, m', e, e0, h⟩ := key xs step b₀ r m₂ h₀
  have e0 : fl = .next := e0
  subst e0
  exact ok_step ((bind_ok (x := evs S F src r) hs).trans ((bind_ok (x := srcV k vs) hv).trans e)) (fin r1 m' h)
/-- a comprehension -/
theorem ev_comp {k : IK} {elt : CE} {src : List CE} {i : Nat} {vs xs l : List V} {g : Gd} (hs : evs S F src r m = .ok vs m₁) (hv : srcV k vs m₁ = .ok (xs, g) m₁)
    (h : compD g (fun v => bnd (setT (.one i) v (r ++ List.replicate 1 none)) fun r' => bnd (evIf S F [] r') fun b => if b then bnd (ev S F elt r') fun x => ret (some x) else ret none) xs m₁ = .ok l m₂) (hl : l.length ≤ lid) :
    ev S F (.comp elt (.one i) 1 k src []) r m = .ok (.ref m₂.length) (m₂ ++ [.list l]) := by
  refine (bind_ok (x := evs S F src r) hs).trans ((bind_ok (x := srcV k vs) hv).trans ((bind_ok h).trans ?_))
  show (if l.length ≤ lid then alloc (.list l) else bad) m₂ = _
  rw [if_pos hl]; rfl
theorem comp_map {α : Type} {r : Lo} {elt : CE} {i : Nat} {g : Gd} {vv ww : α → V} (I : MH → Prop) (hg : ∀ m, I m → g.stays m = true) : ∀ (xs : List α) (_ : ∀ x ∈ xs, ∀ m, I m → ∃ m', ev S F elt (r.set i (some (vv x))) m = .ok (ww x) m' ∧ I m') (m : MH), I m →
    ∃ m', compD g (fun v => bnd (setT (.one i) v r) fun r' => bnd (evIf S F [] r') fun b => if b then bnd (ev S F elt r') fun x => ret (some x) else ret none) (xs.map vv) m = .ok (xs.map ww) m' ∧ I m'
  | [], _, m, h => ⟨m, if_pos (hg m h), h⟩
  | x :: xs, hs, m, h => by
    obtain ⟨m1, e, h1⟩ := hs x (List.mem_cons_self ..) m h
    obtain ⟨m2, e2, h2⟩ := comp_map I hg xs (fun y hy => hs y (List.mem_cons_of_mem _ hy)) m1 h1
    refine ⟨m2, ?_, h2⟩
    show (if g.stays m then _ else _) = _
    rw [if_pos (hg m h)]
    show Res.bind (Res.nox (Res.bind (ev S F elt (r.set i (some (vv x))) m) _)) _ = _
    rw [e]
    exact bind_ok (x := compD g _ (xs.map vv)) e2
end
/-- the call of a function -/
theorem run_ok {S : Sig} {n k : Nat} {d : FnD} {vs : List V} {m : MH} {P : V → MH → Prop} (h : S.fns[k]? = some d) (hv : vs.length = d.np) (hb : Ok (exs S (run S n) d.body (vs.map some ++ List.replicate (d.names.length - d.np) Option.none)) m (fun p m' => ∃ v, p.1 = .ret v ∧ P v m')) :
    ∃ v m', run S (n + 1) k vs m = .ok v m' ∧ P v m' := by
  obtain ⟨⟨f, r⟩, m', e, v, e0, q⟩ := hb
  have e0 : f = .ret v := e0
  subst e0
  refine ⟨v, m', ?_, q⟩
  rw [run_at h hv]
  exact bind_ok e
theorem run_eq {S : Sig} {n k : Nat} {d : FnD} {vs : List V} {m : MH} {v : V} (h : S.fns[k]? = some d) (hv : vs.length = d.np) (hb : Ok (exs S (run S n) d.body (vs.map some ++ List.replicate (d.names.length - d.np) Option.none)) m (fun p m' => p.1 = .ret v ∧ m' = m)) :
    run S (n + 1) k vs m = .ok v m := by
  obtain ⟨v', m', e, rfl, rfl⟩ := run_ok (P := fun v' m' => v' = v ∧ m' = m) h hv (Ok.mono hb fun p m' q => ⟨v, q.1, rfl, q.2⟩)
  exact e

section
variable {m : MH} {p : Nat} {xs : List V}
theorem list_eq (h : m[p]? = some (.list xs)) : biV .list [.ref p] m = .ok (.ref m.length) (m ++ [.list xs]) := by show (match m[p]? with | some (.list xs) => alloc (.list xs) m | some (.dict kvs _) => (match isKeyI kvs with | some is => alloc (.list (is.map .int)) m | Option.none => .bad) | _ => .bad) = _; rw [h]; rfl
theorem idx_eq {k : Int} {v : V} (h : m[p]? = some (.list xs)) (hv : at_ xs k = some v) (hk : k.natAbs < 2 ^ 60) : idxV (.ref p) (.int k) m = .ok v m := by
  unfold idxV; dsimp only; rw [h]; dsimp only; rw [if_pos hk, hv]; rfl
theorem len_eq (h : m[p]? = some (.list xs)) : biV .len [.ref p] m = .ok (.int xs.length) m := by
  unfold biV; dsimp only; rw [h]
theorem srcl_eq (h : m[p]? = some (.list xs)) : srcV .expr [.ref p] m = .ok (xs, .list p xs) m := by
  unfold srcV itemsV; dsimp only; rw [h]
theorem smK_eq (h : m[p]? = some (.list xs)) : smK (.ref p) m = some 0 := by unfold smK; dsimp only; rw [h]
theorem app_eq {v : V} (h : m[p]? = some (.list xs)) (hl : xs.length < lid) : smethV 0 (.ref p) .append [v] m = .ok .none (m.set p (.list (xs ++ [v]))) := by
  show (match m[p]? with | some (.list xs) => listM p xs .append [v] m | _ => .bad) = _
  rw [h]; exact if_pos hl
theorem mod_eq (i : Int) {j : Int} (h : 0 < j) : binV .Mod (.int i) (.int j) m = .ok (.int (i % j)) m := by
  show (if j = 0 then Res.bad else Res.ok (V.int (Int.fmod i j)) m) = _
  rw [if_neg (Int.ne_of_gt h), Int.fmod_eq_emod_of_nonneg _ (Int.le_of_lt h)]
theorem div_eq (i : Int) {j : Int} (h : 0 < j) (h2 : j.natAbs < 1073741824) : binV .FloorDiv (.int i) (.int j) m = .ok (.int (i / j)) m := by
  show (if j ≠ 0 ∧ j.natAbs < 1073741824 then Res.ok (V.int (Int.fdiv i j)) m else Res.bad) = _
  rw [if_pos ⟨Int.ne_of_gt h, h2⟩, Int.fdiv_eq_ediv_of_nonneg _ (Int.le_of_lt h)]
theorem mul_eq {i j : Int} (h : i.natAbs < 1073741824 ∨ j.natAbs < 1073741824) : binV .Mult (.int i) (.int j) m = .ok (.int (i * j)) m := by
  show (if i.natAbs < 1073741824 ∨ j.natAbs < 1073741824 then Res.ok (V.int (i * j)) m else Res.bad) = _
  rw [if_pos h]
end
end Mini

namespace Mini
namespace C05
open PySem
noncomputable def f_are_unlike : List CS := [
  (.ret (.boolop true [(.cmp (.idx (.var 0) (.cnst (Lt.int 3))) [.Eq] [(.idx (.var 1) (.cnst (Lt.int 3)))]), (.cmp (.idx (.var 0) (.cnst (Lt.int 0))) [.Eq] [(.idx (.var 1) (.cnst (Lt.int 0)))]), (.cmp (.idx (.var 0) (.cnst (Lt.int 1))) [.Eq] [(.idx (.var 1) (.cnst (Lt.int 1)))]), (.cmp (.idx (.var 0) (.cnst (Lt.int 2))) [.NotEq] [(.idx (.var 1) (.cnst (Lt.int 2)))])]))]
noncomputable def f_blamed : List CS := [
  (.asg (.one (.one 2)) (.dict [] [])),
  (.for_ .expr (.one 3) [(.var 0)] [
    (.for_ .expr (.one 4) [(.var 1)] [
      (.ite (.all true [(.val (.cmp (.idx (.var 3) (.cnst (Lt.int 3))) [.NotIn] [(.var 2)])), (.val (.call 0 [(.var 3), (.var 4)]))]) [
        (.asg (.idx (.var 2) (.idx (.var 3) (.cnst (Lt.int 3)))) (.tup [(.idx (.var 3) (.cnst (Lt.int 3))), (.var 3), (.var 4)]))] [])])]),
  (.ret (.comp (.idx (.var 2) (.var 5)) (.one 5) 1 .expr [(.bi .sorted [(.var 2)])] []))]
noncomputable def f_law_at : List CS := [
  (.ite (.val (.cmp (.var 1) [.Lt] [(.bi .len [(.var 0)])])) [
    (.ret (.idx (.var 0) (.var 1)))] []),
  (.ret (.cnst (Lt.int 0)))]
noncomputable def f_law_whole : List CS := [
  (.ret (.boolop true [(.isi (.var 0) .int), (.not (.isi (.var 0) .bool))]))]
noncomputable def f_law_row : List CS := [
  (.asg (.one (.one 2)) (.cnst (Lt.str (Str.ofString "abcdefghijklmnopqrstuvwxyz")))),
  (.asg (.one (.one 3)) (.bin .Add (.var 0) (.bin .Mult (.bin .Mult (.cnst (Lt.int 31)) (.var 1)) (.bin .Mod (.var 0) (.cnst (Lt.int 2)))))),
  (.asg (.one (.one 4)) (.bin .Mod (.bin .FloorDiv (.var 3) (.cnst (Lt.int 26))) (.cnst (Lt.int 8)))),
  (.asg (.one (.one 5)) (.smeth (.cnst (Lt.str (Str.ofString ""))) .join [(.comp (.idx (.var 2) (.bin .Mod (.bin .Add (.var 3) (.bin .Mult (.bin .Mult (.cnst (Lt.int 5)) (.var 7)) (.bin .Add (.cnst (Lt.int 1)) (.bin .Mod (.var 3) (.cnst (Lt.int 3)))))) (.cnst (Lt.int 26)))) (.one 7) 1 .range [(.var 4)] [])])),
  (.asg (.one (.one 6)) (.var 4)),
  (.ite (.val (.cmp (.bin .Mod (.var 0) (.cnst (Lt.int 2))) [.Eq] [(.cnst (Lt.int 0))])) [
    (.asg (.one (.one 6)) (.bin .Mod (.bin .FloorDiv (.var 0) (.cnst (Lt.int 4))) (.bin .Add (.var 4) (.cnst (Lt.int 1)))))] []),
  (.ite (.val (.cmp (.bin .Mod (.var 0) (.cnst (Lt.int 9))) [.Eq] [(.cnst (Lt.int 4))])) [
    (.ret (.idx (.list [(.cnst (Lt.str (Str.ofString "say"))), (.cnst (Lt.str (Str.ofString "mark"))), (.cnst (Lt.str (Str.ofString "by"))), (.cnst (Lt.str (Str.ofString "house")))]) (.bin .Mod (.var 1) (.cnst (Lt.int 4)))))] []),
  (.ret (.bin .Add (.bin .Add (.slice (.var 5) (.cnst Lt.none) (.var 6) (.cnst Lt.none)) (.idx (.cnst (Lt.str (Str.ofString "kqxz"))) (.bin .Mod (.var 1) (.cnst (Lt.int 4))))) (.slice (.var 5) (.var 6) (.cnst Lt.none) (.cnst Lt.none))))]
noncomputable def f_law_enough : List CS := [
  (.for_ .range (.one 1) [(.cnst (Lt.int 1)), (.bin .Add (.var 0) (.cnst (Lt.int 1)))] [
    (.ite (.all true [(.val (.cmp (.bin .Mult (.cnst (Lt.int 3)) (.bin .Sub (.bin .Mult (.cnst (Lt.int 2)) (.var 1)) (.var 0))) [.Gt] [(.cnst (Lt.int 0))])), (.val (.cmp (.bin .Sub (.bin .Mult (.cnst (Lt.int 2)) (.var 1)) (.var 0)) [.Gt] [(.bin .FloorDiv (.bin .Sub (.var 0) (.cnst (Lt.int 1))) (.cnst (Lt.int 3)))]))]) [
      (.ret (.var 1))] [])]),
  (.ret (.var 0))]
noncomputable def f_law_word : List CS := [
  (.asg (.one (.one 3)) (.bin .Mod (.bin .FloorDiv (.var 0) (.cnst (Lt.int 2))) (.cnst (Lt.int 3)))),
  (.asg (.one (.one 4)) (.call 4 [(.var 2), (.bin .Mod (.bin .FloorDiv (.var 0) (.cnst (Lt.int 6))) (.cnst (Lt.int 3)))])),
  (.ite (.val (.cmp (.bin .Mod (.var 0) (.cnst (Lt.int 2))) [.Eq] [(.cnst (Lt.int 0))])) [
    (.ret (.tup [(.cnst (Lt.str (Str.ofString "say"))), (.var 3), (.var 4), (.bin .Mod (.var 3) (.var 1))]))] []),
  (.ret (.tup [(.cnst (Lt.str (Str.ofString "mark"))), (.var 3), (.var 4), (.bin .Mod (.bin .FloorDiv (.var 0) (.cnst (Lt.int 18))) (.var 1))]))]
noncomputable def f_law_unlike : List CS := [
  (.ret (.boolop true [(.cmp (.idx (.var 0) (.cnst (Lt.int 0))) [.Eq] [(.idx (.var 1) (.cnst (Lt.int 0)))]), (.cmp (.idx (.var 0) (.cnst (Lt.int 1))) [.Eq] [(.idx (.var 1) (.cnst (Lt.int 1)))]), (.cmp (.idx (.var 0) (.cnst (Lt.int 3))) [.Eq] [(.idx (.var 1) (.cnst (Lt.int 3)))]), (.cmp (.idx (.var 0) (.cnst (Lt.int 2))) [.NotEq] [(.idx (.var 1) (.cnst (Lt.int 2)))])]))]
noncomputable def f_law_due : List CS := [
  (.asg (.one (.one 3)) (.list [])),
  (.for_ .range (.one 4) [(.var 2)] [
    (.for_ .expr (.one 5) [(.var 0)] [
      (.for_ .expr (.one 6) [(.var 1)] [
        (.ite (.all true [(.val (.cmp (.idx (.var 5) (.cnst (Lt.int 3))) [.Eq] [(.var 4)])), (.val (.call 7 [(.var 5), (.var 6)])), (.val (.cmp (.var 4) [.NotIn] [(.comp (.idx (.var 7) (.cnst (Lt.int 0))) (.one 7) 1 .expr [(.var 3)] [])]))]) [
          (.exp (.smeth (.var 3) .append [(.tup [(.var 4), (.var 5), (.var 6)])]))] [])])])]),
  (.ret (.var 3))]
noncomputable def f_law_houses : List CS := [
  (.asg (.one (.one 3)) (.listrange [(.var 1)])),
  (.asg (.one (.one 4)) (.list [])),
  (.wh (.val (.cmp (.bi .len [(.var 4)]) [.Lt] [(.var 2)])) [
    (.exp (.smeth (.var 4) .append [(.smeth (.var 3) .pop [(.bin .Mod (.var 0) (.bi .len [(.var 3)]))])])),
    (.asg (.one (.one 0)) (.bin .Add (.bin .FloorDiv (.var 0) (.cnst (Lt.int 3))) (.cnst (Lt.int 1))))]),
  (.ret (.var 4))]
noncomputable def f_law_alike : List CS := [
  (.ite (.all false [(.not (.val (.isi (.var 0) .list))), (.val (.cmp (.var 0) [.NotEq] [(.var 1)]))]) [
    (.ret (.cnst (Lt.bool false)))] []),
  (.for_ .expr (.one 2) [(.var 0)] [
    (.ite (.all false [(.not (.val (.isi (.var 2) .tuple))), (.val (.cmp (.bi .len [(.var 2)]) [.NotEq] [(.cnst (Lt.int 3))])), (.not (.val (.call 3 [(.idx (.var 2) (.cnst (Lt.int 0)))])))]) [
      (.ret (.cnst (Lt.bool false)))] []),
    (.ite (.all false [(.not (.val (.isi (.idx (.var 2) (.cnst (Lt.int 1))) .tuple))), (.not (.val (.isi (.idx (.var 2) (.cnst (Lt.int 2))) .tuple)))]) [
      (.ret (.cnst (Lt.bool false)))] [])]),
  (.ret (.cnst (Lt.bool true)))]
noncomputable def f_law : List CS := [
  (.asg (.one (.one 1)) (.bin .Add (.cnst (Lt.int 1)) (.bin .Mod (.call 2 [(.var 0), (.cnst (Lt.int 0))]) (.cnst (Lt.int 12))))),
  (.asg (.one (.one 2)) (.bin .Mod (.bin .FloorDiv (.call 2 [(.var 0), (.cnst (Lt.int 0))]) (.cnst (Lt.int 12))) (.cnst (Lt.int 100003)))),
  (.asg (.one (.one 3)) (.slice (.var 0) (.cnst (Lt.int 4)) (.cnst (Lt.int 28)) (.cnst Lt.none))),
  (.asg (.one (.one 4)) (.comp (.call 6 [(.var 13), (.var 1), (.var 2)]) (.one 13) 1 .expr [(.slice (.var 3) (.cnst Lt.none) (.bin .Mod (.call 2 [(.var 0), (.cnst (Lt.int 1))]) (.cnst (Lt.int 13))) (.cnst Lt.none))] [])),
  (.asg (.one (.one 5)) (.comp (.call 6 [(.bin .FloorDiv (.var 13) (.cnst (Lt.int 5))), (.var 1), (.var 2)]) (.one 13) 1 .expr [(.slice (.var 3) (.cnst (Lt.int 12)) (.cnst Lt.none) (.cnst Lt.none))] [])),
  (.ite (.val (.cmp (.bin .Mod (.bin .FloorDiv (.call 2 [(.var 0), (.cnst (Lt.int 1))]) (.cnst (Lt.int 13))) (.cnst (Lt.int 2))) [.Eq] [(.cnst (Lt.int 1))])) [
    (.asg (.one (.one 5)) (.bin .Add (.var 5) (.slice (.var 4) (.cnst Lt.none) (.cnst Lt.none) (.neg (.cnst (Lt.int 1))))))] []),
  (.asg (.one (.one 6)) (.list [(.bi .list [(.var 4)]), (.bi .list [(.var 5)])])),
  (.ite (.all false [(.not (.val (.call 10 [(.call 1 [(.idx (.var 6) (.cnst (Lt.int 0))), (.idx (.var 6) (.cnst (Lt.int 1)))]), (.call 8 [(.var 4), (.var 5), (.var 1)])]))), (.val (.cmp (.var 6) [.NotEq] [(.list [(.var 4), (.var 5)])]))]) [
    (.ret (.cnst (Lt.bool false)))] []),
  (.asg (.one (.one 7)) (.call 5 [(.var 1)])),
  (.asg (.one (.one 8)) (.call 9 [(.call 2 [(.var 0), (.cnst (Lt.int 2))]), (.var 1), (.var 7)])),
  (.asg (.one (.one 9)) (.call 9 [(.call 2 [(.var 0), (.cnst (Lt.int 3))]), (.var 1), (.bin .Add (.var 7) (.bin .Mult (.bi .int [(.cmp (.var 7) [.Lt] [(.var 1)])]) (.bin .Mod (.call 2 [(.var 0), (.cnst (Lt.int 3))]) (.cnst (Lt.int 2)))))])),
  (.asg (.one (.one 10)) (.comp (.tup [(.cnst (Lt.str (Str.ofString "mark"))), (.cnst (Lt.int 5)), (.call 4 [(.var 2), (.cnst (Lt.int 0))]), (.var 13)]) (.one 13) 1 .expr [(.var 8)] [])),
  (.asg (.one (.one 11)) (.comp (.tup [(.cnst (Lt.str (Str.ofString "mark"))), (.cnst (Lt.int 5)), (.call 4 [(.var 2), (.cnst (Lt.int 1))]), (.var 13)]) (.one 13) 1 .expr [(.var 9)] [])),
  (.asg (.one (.one 12)) (.call 1 [(.bi .list [(.var 10)]), (.bi .list [(.var 11)])])),
  (.ret (.boolop true [(.call 10 [(.var 12), (.call 8 [(.var 10), (.var 11), (.var 1)])]), (.cmp (.bi .len [(.var 12)]) [.GtE] [(.bin .Sub (.bin .Mult (.cnst (Lt.int 2)) (.var 7)) (.var 1))])]))]
noncomputable def sig : Sig := {
  fns := [
    { name := (Str.ofString "are_unlike"), np := 2, names := [(Str.ofString "one"), (Str.ofString "other")], body := f_are_unlike },
    { name := (Str.ofString "blamed"), np := 2, names := [(Str.ofString "ones"), (Str.ofString "others"), (Str.ofString "found"), (Str.ofString "one"), (Str.ofString "other")], body := f_blamed },
    { name := (Str.ofString "_law_at"), np := 2, names := [(Str.ofString "_law_script"), (Str.ofString "_law_k")], body := f_law_at },
    { name := (Str.ofString "_law_whole"), np := 1, names := [(Str.ofString "_law_thing")], body := f_law_whole },
    { name := (Str.ofString "_law_row"), np := 2, names := [(Str.ofString "_law_base"), (Str.ofString "_law_k"), (Str.ofString "_law_letters"), (Str.ofString "_law_turned"), (Str.ofString "_law_size"), (Str.ofString "_law_tail"), (Str.ofString "_law_at_here")], body := f_law_row },
    { name := (Str.ofString "_law_enough"), np := 1, names := [(Str.ofString "_law_count"), (Str.ofString "_law_wanted")], body := f_law_enough },
    { name := (Str.ofString "_law_word"), np := 3, names := [(Str.ofString "_law_cell"), (Str.ofString "_law_count"), (Str.ofString "_law_base"), (Str.ofString "_law_number"), (Str.ofString "_law_row_here")], body := f_law_word },
    { name := (Str.ofString "_law_unlike"), np := 2, names := [(Str.ofString "_law_one"), (Str.ofString "_law_other")], body := f_law_unlike },
    { name := (Str.ofString "_law_due"), np := 3, names := [(Str.ofString "_law_ones"), (Str.ofString "_law_others"), (Str.ofString "_law_count"), (Str.ofString "_law_due_here"), (Str.ofString "_law_house"), (Str.ofString "_law_one"), (Str.ofString "_law_other")], body := f_law_due },
    { name := (Str.ofString "_law_houses"), np := 3, names := [(Str.ofString "_law_cell"), (Str.ofString "_law_count"), (Str.ofString "_law_many"), (Str.ofString "_law_left"), (Str.ofString "_law_found")], body := f_law_houses },
    { name := (Str.ofString "_law_alike"), np := 2, names := [(Str.ofString "_law_found"), (Str.ofString "_law_due_here"), (Str.ofString "_law_row_here")], body := f_law_alike },
    { name := (Str.ofString "law"), np := 1, names := [(Str.ofString "_law_script"), (Str.ofString "_law_count"), (Str.ofString "_law_base"), (Str.ofString "_law_cells"), (Str.ofString "_law_ones"), (Str.ofString "_law_others"), (Str.ofString "_law_handed"), (Str.ofString "_law_wanted"), (Str.ofString "_law_first"), (Str.ofString "_law_second"), (Str.ofString "_law_one"), (Str.ofString "_law_other"), (Str.ofString "_law_found")], body := f_law }],
  cls := [
    { name := (Str.ofString "ValueError"), init := none, meths := [], exc := true, supers := [0] }],
  attrs := [],
  globs := [] }
end C05
end Mini

namespace Mini
namespace P05
open PySem C05

noncomputable def at0 (ns : List Int) (k : Nat) : Int := ns.getD k 0
theorem at_eq (n : Nat) (ns : List Int) (k : Nat) (m : MH) : run sig (n + 1) 2 [.scr ns, .int k] m = .ok (.int (at0 ns k)) m := by
  refine run_eq rfl rfl (st_ite (t := decide ((k : Int) < (ns.length : Int))) (m₁ := m) (evT_val (ev_cmp1 rfl (ev_bi rfl rfl) rfl) rfl) ?_)
  by_cases h : k < ns.length
  · rw [decide_eq_true (show (k : Int) < (ns.length : Int) by omega)]
    refine st_ret (v := .int (at0 ns k)) (m₁ := m) (ev_idx rfl rfl ?_) ⟨rfl, rfl⟩
    show (if 0 ≤ (k : Int) then ofO ((ns[(k : Int).toNat]?).map V.int) m else .bad) = _
    rw [if_pos (by omega), Int.toNat_natCast, List.getElem?_eq_getElem h]
    show Res.ok (V.int ns[k]) m = _
    unfold at0; rw [List.getD_eq_getElem?_getD, List.getElem?_eq_getElem h]; rfl
  · rw [decide_eq_false (show ¬ (k : Int) < (ns.length : Int) by omega)]
    have e : at0 ns k = 0 := by unfold at0; rw [List.getD_eq_getElem?_getD, List.getElem?_eq_none (Nat.le_of_not_lt h)]; rfl
    rw [e]
    exact st_ret rfl ⟨rfl, rfl⟩

structure Wd where
  kind : Str
  num : Int
  row : Str
  house : Int
noncomputable def Wd.v (w : Wd) : V := .tup [.str w.kind, .int w.num, .str w.row, .int w.house]
noncomputable def unl (a b : Wd) : Bool := a.house == b.house && (a.kind == b.kind && (a.num == b.num && !(a.row == b.row)))
/-- and of four -/
theorem ev_and4 {S : Sig} {F : Fns} {a b c d : CE} {r : Lo} {m : MH} {x y z w : Bool} (ha : ev S F a r m = .ok (.bool x) m) (hb : ev S F b r m = .ok (.bool y) m) (hc : ev S F c r m = .ok (.bool z) m) (hd : ev S F d r m = .ok (.bool w) m) :
    ev S F (.boolop true [a, b, c, d]) r m = .ok (.bool (x && (y && (z && w)))) m := by
  refine (bind_ok (x := ev S F a r) ha).trans ?_
  cases x
  · rfl
  refine (bind_ok (x := ev S F b r) hb).trans ?_
  cases y
  · rfl
  refine (bind_ok (x := ev S F c r) hc).trans ?_
  cases z
  · rfl
  exact hd
theorem unl0_eq (n : Nat) (a b : Wd) (m : MH) : run sig (n + 1) 0 [a.v, b.v] m = .ok (.bool (unl a b)) m :=
  run_eq rfl rfl (st_ret (ev_and4 (x := a.house == b.house) (y := a.kind == b.kind) (z := a.num == b.num) (w := !(a.row == b.row)) (ev_cmp1 (ev_idx rfl rfl rfl) (ev_idx rfl rfl rfl) rfl) (ev_cmp1 (ev_idx rfl rfl rfl) (ev_idx rfl rfl rfl) rfl) (ev_cmp1 (ev_idx rfl rfl rfl) (ev_idx rfl rfl rfl) rfl) (ev_cmp1 (ev_idx rfl rfl rfl) (ev_idx rfl rfl rfl) rfl)) ⟨rfl, rfl⟩)
theorem unl7_eq (n : Nat) (a b : Wd) (m : MH) : run sig (n + 1) 7 [a.v, b.v] m = .ok (.bool (unl a b)) m := by
  have : unl a b = (a.kind == b.kind && (a.num == b.num && (a.house == b.house && !(a.row == b.row)))) := by
    unfold unl; cases a.house == b.house <;> cases a.kind == b.kind <;> cases a.num == b.num <;> rfl
  rw [this]
  exact run_eq rfl rfl (st_ret (ev_and4 (x := a.kind == b.kind) (y := a.num == b.num) (z := a.house == b.house) (w := !(a.row == b.row)) (ev_cmp1 (ev_idx rfl rfl rfl) (ev_idx rfl rfl rfl) rfl) (ev_cmp1 (ev_idx rfl rfl rfl) (ev_idx rfl rfl rfl) rfl) (ev_cmp1 (ev_idx rfl rfl rfl) (ev_idx rfl rfl rfl) rfl) (ev_cmp1 (ev_idx rfl rfl rfl) (ev_idx rfl rfl rfl) rfl)) ⟨rfl, rfl⟩)
theorem whole_eq (n : Nat) (i : Int) (m : MH) : run sig (n + 1) 3 [.int i] m = .ok (.bool true) m := rfl

noncomputable def letters : List Nat := (Str.ofString "abcdefghijklmnopqrstuvwxyz").cps.toList
noncomputable def kq : List Nat := (Str.ofString "kqxz").cps.toList
noncomputable def turned (b k : Int) : Int := b + 31 * k * (b % 2)
noncomputable def size (b k : Int) : Int := turned b k / 26 % 8
noncomputable def letter (b k : Int) (j : Nat) : Nat := (letters[((turned b k + 5 * (j : Int) * (1 + turned b k % 3)) % 26).toNat]?).getD 0
noncomputable def tailL (b k : Int) : List Nat := (List.range (size b k).toNat).map (letter b k)
noncomputable def here (b k : Int) : Int := if b % 2 = 0 then b / 4 % (size b k + 1) else size b k
noncomputable def four : List Str := [Str.ofString "say", Str.ofString "mark", Str.ofString "by", Str.ofString "house"]
noncomputable def row (b k : Int) : Str := if b % 9 = 4 then (four[(k % 4).toNat]?).getD Str.empty
  else ⟨((tailL b k).take (here b k).toNat).toArray⟩ ++ ⟨#[(kq[(k % 4).toNat]?).getD 0]⟩ ++ ⟨((tailL b k).drop (here b k).toNat).toArray⟩

theorem size_lt (b k : Int) : 0 ≤ size b k ∧ size b k < 8 := by unfold size; omega
theorem here_le (b k : Int) : 0 ≤ here b k ∧ here b k ≤ size b k := by
  have := size_lt b k
  unfold here
  split
  · have := Int.emod_nonneg (b / 4) (b := size b k + 1) (by omega)
    have := Int.emod_lt_of_pos (b / 4) (b := size b k + 1) (by omega)
    omega
  · omega
theorem tail_len (b k : Int) : (tailL b k).length = (size b k).toNat := by simp [tailL]
theorem letters_len : letters.length = 26 := by decide +kernel
theorem kq_len : kq.length = 4 := by decide +kernel

theorem str_app (a b : List Nat) : (⟨a.toArray⟩ : Str) ++ ⟨b.toArray⟩ = ⟨(a ++ b).toArray⟩ := by
  show Str.append _ _ = _
  simp [Str.append]
theorem join_cs : ∀ (cs : List Nat) (acc : List Nat), (cs.map fun c => (⟨#[c]⟩ : Str)).foldl (fun a p => a ++ (Str.ofString "") ++ p) ⟨acc.toArray⟩ = ⟨(acc ++ cs).toArray⟩
  | [], acc => by simp
  | c :: cs, acc => by
    have e0 : Str.ofString "" = ⟨([] : List Nat).toArray⟩ := by decide +kernel
    have e1 : (⟨acc.toArray⟩ : Str) ++ Str.ofString "" ++ ⟨#[c]⟩ = ⟨(acc ++ [c]).toArray⟩ := by
      have e2 := str_app acc []
      rw [List.append_nil] at e2
      rw [e0, e2]; exact str_app acc [c]
    rw [List.map_cons, List.foldl_cons, e1, join_cs cs (acc ++ [c])]; simp
theorem join_all (cs : List Nat) : joinS (Str.ofString "") (cs.map fun c => (⟨#[c]⟩ : Str)) = ⟨cs.toArray⟩ := by
  cases cs with
  | nil => rfl
  | cons c cs => exact join_cs cs [c]
theorem sum_cs : ∀ (cs : List Nat) (k : Nat), (cs.map fun c => (⟨#[c]⟩ : Str)).foldl (fun k x => k + x.length + (Str.ofString "").length) k = k + cs.length
  | [], k => rfl
  | c :: cs, k => by
    have e0 : (Str.ofString "").length = 0 := by decide +kernel
    have e1 : (⟨#[c]⟩ : Str).length = 1 := rfl
    rw [List.map_cons, List.foldl_cons, sum_cs cs, e0, e1, List.length_cons]; omega
theorem isStr_cs : ∀ cs : List Nat, isStrL (cs.map fun c => V.str ⟨#[c]⟩) = some (cs.map fun c => (⟨#[c]⟩ : Str))
  | [] => rfl
  | c :: cs => by rw [List.map_cons, isStrL, isStr_cs cs]; rfl


theorem letter_ok (b k : Int) (j : Nat) (m : MH) : idxV (.str (Str.ofString "abcdefghijklmnopqrstuvwxyz")) (.int ((turned b k + 5 * (0 + (j : Int)) * (1 + turned b k % 3)) % 26)) m = .ok (.str ⟨#[letter b k j]⟩) m := by
  have h1 : ((turned b k + 5 * (0 + (j : Int)) * (1 + turned b k % 3)) % 26).natAbs < 2 ^ 60 := by omega
  have h4 : ((turned b k + 5 * (j : Int) * (1 + turned b k % 3)) % 26).toNat < letters.length := by rw [letters_len]; omega
  have h2 : at_ letters ((turned b k + 5 * (0 + (j : Int)) * (1 + turned b k % 3)) % 26) = some (letter b k j) := by
    rw [Int.zero_add]; unfold at_ letter; rw [if_pos (by omega), List.getElem?_eq_getElem h4]; rfl
  show (if _ then ofO ((at_ letters _).map fun c => V.str ⟨#[c]⟩) m else .bad) = _
  rw [if_pos h1, h2]; rfl
theorem row_eq (n : Nat) (b k : Int) (hb : 0 ≤ b) (hk : 0 ≤ k) (hk3 : k < 4) (m : MH) : ∃ m', run sig (n + 1) 4 [.int b, .int k] m = .ok (.str (row b k)) m' ∧ Le m m' := by
  have hs := size_lt b k
  have hh := here_le b k
  have hlen := tail_len b k
  have hlid : (tailL b k).length ≤ lid := by rw [hlen]; unfold lid; omega
  obtain ⟨v, m', e, rfl, l⟩ : ∃ v m', run sig (n + 1) 4 [.int b, .int k] m = .ok v m' ∧ (v = .str (row b k) ∧ Le m m') := by
    refine run_ok rfl rfl ?_
    refine st_asg rfl ?_
    refine st_asg (v := .int (turned b k)) (m₁ := m) (ev_bin rfl (ev_bin (ev_bin rfl rfl rfl) (ev_bin rfl rfl (mod_eq _ (by decide))) (mul_eq (Or.inr (by omega)))) rfl) ?_
    refine st_asg (v := .int (size b k)) (m₁ := m) (ev_bin (ev_bin rfl rfl (div_eq _ (by decide) (by decide))) rfl (mod_eq _ (by decide))) ?_
    have er : rangeV [.int (size b k)] = some ((List.range (size b k - 0).toNat).map fun (j : Nat) => V.int (0 + (j : Int))) := by
      show (if (size b k).natAbs < 2 ^ 30 then some (rangeL 0 (size b k)) else none) = _
      rw [if_pos (by omega)]; rfl
    have esrc : srcV .range [.int (size b k)] m = .ok ((List.range (size b k - 0).toNat).map fun (j : Nat) => V.int (0 + (j : Int)), .none) m := by
      show (match rangeV [.int (size b k)] with | some l => ret (l, Gd.none) | none => bad) m = _
      rw [er]; rfl
    obtain ⟨m1, e1, rfl⟩ := comp_map (S := sig) (F := run sig n) (g := .none) (i := 7) (vv := fun (j : Nat) => V.int (0 + (j : Int))) (ww := fun j => V.str ⟨#[letter b k j]⟩)
      (r := [some (.int b), some (.int k), some (.str (Str.ofString "abcdefghijklmnopqrstuvwxyz")), some (.int (turned b k)), some (.int (size b k)), none, none, none])
      (elt := .idx (.var 2) (.bin .Mod (.bin .Add (.var 3) (.bin .Mult (.bin .Mult (.cnst (.int 5)) (.var 7)) (.bin .Add (.cnst (.int 1)) (.bin .Mod (.var 3) (.cnst (.int 3)))))) (.cnst (.int 26))))
      (fun m' => m' = m) (fun _ _ => rfl) (List.range (size b k - 0).toNat) (fun j _ m' hm => ⟨m', ev_idx rfl (ev_bin (ev_bin rfl (ev_bin (ev_bin rfl rfl rfl) (ev_bin rfl (ev_bin rfl rfl (mod_eq _ (by decide))) rfl) (mul_eq (Or.inr (by omega)))) rfl) rfl (mod_eq _ (by decide))) (letter_ok b k j m'), hm⟩) m rfl
    have el : (List.range (size b k - 0).toNat).map (fun j => V.str ⟨#[letter b k j]⟩) = (tailL b k).map fun c => V.str ⟨#[c]⟩ := by
      unfold tailL; rw [List.map_map, Int.sub_zero]; rfl
    rw [el] at e1
    have kt : (m1 ++ [MObj.list ((tailL b k).map fun c => V.str ⟨#[c]⟩)])[m1.length]? = some (.list ((tailL b k).map fun c => V.str ⟨#[c]⟩)) := new_has
    have lt : Le m1 (m1 ++ [MObj.list ((tailL b k).map fun c => V.str ⟨#[c]⟩)]) := Le.app _ _
    have ej : smethV 2 (.str (Str.ofString "")) .join [.ref m1.length] (m1 ++ [MObj.list ((tailL b k).map fun c => V.str ⟨#[c]⟩)]) = .ok (.str ⟨(tailL b k).toArray⟩) (m1 ++ [MObj.list ((tailL b k).map fun c => V.str ⟨#[c]⟩)]) := by
      show (match (m1 ++ [MObj.list ((tailL b k).map fun c => V.str ⟨#[c]⟩)])[m1.length]? with | some (.list xs) => (match isStrL xs with | some l => if sumLen (Str.ofString "") l ≤ lid then Res.ok (V.str (joinS (Str.ofString "") l)) (m1 ++ [MObj.list ((tailL b k).map fun c => V.str ⟨#[c]⟩)]) else .bad | Option.none => .bad) | _ => .bad) = _
      rw [kt]; dsimp only; rw [isStr_cs]; dsimp only
      rw [if_pos (by unfold sumLen; rw [sum_cs, Nat.zero_add]; exact hlid), join_all]
    refine st_asg (ev_smeth rfl rfl rfl (evs_cons (ev_comp (evs_cons rfl rfl) esrc e1 (by rw [List.length_map]; exact hlid)) rfl) ej) ?_
    generalize m1 ++ [MObj.list ((tailL b k).map fun c => V.str ⟨#[c]⟩)] = m2 at lt
    refine st_asg rfl ?_
    -- the end, for a place
    have fin : ∀ a : Int, a = here b k → Ok (exs sig (run sig n) (f_law_row.drop 6) [some (.int b), some (.int k), some (.str (Str.ofString "abcdefghijklmnopqrstuvwxyz")), some (.int (turned b k)), some (.int (size b k)), some (.str ⟨(tailL b k).toArray⟩), some (.int a)]) m2 (fun p m' => ∃ v, p.1 = .ret v ∧ v = .str (row b k) ∧ Le m1 m') := by
      rintro _ rfl
      refine st_ite (t := b % 9 == 4) (m₁ := m2) (evT_val (ev_cmp1 (ev_bin rfl rfl (mod_eq _ (by decide))) rfl rfl) rfl) ?_
      have ek : k % 4 = ((k % 4).toNat : Int) := by omega
      cases h9 : b % 9 == 4 with
      | true =>
        have h9' : b % 9 = 4 := eq_of_beq h9
        have h4 : (k % 4).toNat < four.length := by show _ < 4; omega
        have kf : (m2 ++ [MObj.list (four.map V.str)])[m2.length]? = some (.list (four.map V.str)) := new_has
        refine st_ret (v := .str (row b k)) (ev_idx (ev_list rfl) (ev_bin rfl rfl (mod_eq _ (by decide))) (idx_eq kf ?_ (by omega))) ⟨_, rfl, rfl, lt.trans (Le.app _ _)⟩
        rw [ek]; unfold at_; rw [if_pos (by omega), Int.toNat_natCast, List.getElem?_map, List.getElem?_eq_getElem h4]
        unfold row; rw [if_pos h9', List.getElem?_eq_getElem h4]; rfl
      | false =>
        have h9' : ¬ b % 9 = 4 := fun q => by rw [q] at h9; exact absurd h9 (by decide)
        have h4 : (k % 4).toNat < kq.length := by rw [kq_len]; omega
        have l1 : ((tailL b k).take (here b k).toNat).length ≤ 7 := by rw [List.length_take]; omega
        have l2 : ((tailL b k).drop (here b k).toNat).length ≤ 7 := by rw [List.length_drop]; omega
        have hb2 : bound (.int (here b k)) = some (some (here b k)) := by show (if (here b k).natAbs < 2 ^ 60 then _ else _) = _; rw [if_pos (by omega)]
        have hcl : clampU (tailL b k).length (here b k) = (here b k).toNat := by unfold clampU; rw [if_pos hh.1, Nat.min_eq_left (by omega)]
        have sl1 : sliceL (tailL b k) .none (.int (here b k)) .none = some ((tailL b k).take (here b k).toNat) := by
          unfold sliceL; dsimp only; rw [hb2]
          show some (((tailL b k).take (clampU (tailL b k).length (here b k))).drop 0) = _
          rw [hcl, List.drop_zero]
        have sl2 : sliceL (tailL b k) (.int (here b k)) .none .none = some ((tailL b k).drop (here b k).toNat) := by
          unfold sliceL; dsimp only; rw [hb2]
          show some (((tailL b k).take (tailL b k).length).drop (clampU (tailL b k).length (here b k))) = _
          rw [hcl, List.take_length]
        have s1 : sliceV (.str ⟨(tailL b k).toArray⟩) .none (.int (here b k)) .none m2 = .ok (.str ⟨((tailL b k).take (here b k).toNat).toArray⟩) m2 := by
          show (if (tailL b k).length ≤ lid then ofO ((sliceL (tailL b k) .none (.int (here b k)) .none).map fun l => V.str ⟨l.toArray⟩) m2 else .bad) = _
          rw [if_pos hlid, sl1]; rfl
        have s2 : sliceV (.str ⟨(tailL b k).toArray⟩) (.int (here b k)) .none .none m2 = .ok (.str ⟨((tailL b k).drop (here b k).toNat).toArray⟩) m2 := by
          show (if (tailL b k).length ≤ lid then ofO ((sliceL (tailL b k) (.int (here b k)) .none .none).map fun l => V.str ⟨l.toArray⟩) m2 else .bad) = _
          rw [if_pos hlid, sl2]; rfl
        have e4 : idxV (.str (Str.ofString "kqxz")) (.int (k % 4)) m2 = .ok (.str ⟨#[(kq[(k % 4).toNat]?).getD 0]⟩) m2 := by
          have : at_ kq (k % 4) = some ((kq[(k % 4).toNat]?).getD 0) := by
            unfold at_; rw [if_pos (by omega), List.getElem?_eq_getElem h4]; rfl
          show (if (k % 4).natAbs < 2 ^ 60 then ofO ((at_ kq (k % 4)).map fun c => V.str ⟨#[c]⟩) m2 else .bad) = _
          rw [if_pos (by omega), this]; rfl
        have er : row b k = ⟨((tailL b k).take (here b k).toNat).toArray⟩ ++ ⟨#[(kq[(k % 4).toNat]?).getD 0]⟩ ++ ⟨((tailL b k).drop (here b k).toNat).toArray⟩ := by
          unfold row; rw [if_neg h9']
        have adds : ∀ x y : Str, x.length + y.length ≤ lid → binV .Add (.str x) (.str y) m2 = .ok (.str (x ++ y)) m2 := fun x y h => if_pos h
        rw [er]
        refine st_ret (ev_bin (ev_bin (ev_slice rfl rfl rfl rfl s1) (ev_idx rfl (ev_bin rfl rfl (mod_eq _ (by decide))) e4) (adds _ _ ?_)) (ev_slice rfl rfl rfl rfl s2) (adds _ _ ?_)) ⟨_, rfl, rfl, lt⟩
        · show (List.toArray _).size + 1 ≤ lid
          rw [List.size_toArray]; unfold lid; omega
        · have : ((⟨((tailL b k).take (here b k).toNat).toArray⟩ : Str) ++ ⟨#[(kq[(k % 4).toNat]?).getD 0]⟩).length ≤ 8 := by
            refine Nat.le_trans (Nat.le_of_eq (congrArg Str.length (str_app _ [_]))) ?_
            show (List.toArray _).size ≤ 8
            rw [List.size_toArray, List.length_append, List.length_singleton]; omega
          show Str.length _ + (List.toArray _).size ≤ lid
          rw [List.size_toArray]; unfold lid; omega
    refine st_ite (t := b % 2 == 0) (m₁ := m2) (evT_val (ev_cmp1 (ev_bin rfl rfl (mod_eq _ (by decide))) rfl rfl) rfl) ?_
    cases h2 : b % 2 == 0 with
    | true =>
      have h2' : b % 2 = 0 := eq_of_beq h2
      refine st_asg (v := .int (b / 4 % (size b k + 1))) (m₁ := m2) (ev_bin (ev_bin rfl rfl (div_eq _ (by decide) (by decide))) rfl (mod_eq _ (by omega))) (fin _ ?_)
      unfold here; rw [if_pos h2']
    | false =>
      have h2' : ¬ b % 2 = 0 := fun q => by rw [q] at h2; exact absurd h2 (by decide)
      refine fin _ ?_
      unfold here; rw [if_neg h2']
  exact ⟨m', e, l⟩

theorem row_ne (b : Int) (hb : 0 ≤ b) : row b 0 ≠ row b 1 := by
  unfold row
  by_cases h9 : b % 9 = 4
  · rw [if_pos h9, if_pos h9]; decide +kernel
  rw [if_neg h9, if_neg h9]
  have k0 : (kq[((0 : Int) % 4).toNat]?).getD 0 = 107 := by decide +kernel
  have k1 : (kq[((1 : Int) % 4).toNat]?).getD 0 = 113 := by decide +kernel
  rw [k0, k1]
  intro e
  have e' : (tailL b 0).take (here b 0).toNat ++ [107] ++ (tailL b 0).drop (here b 0).toNat = (tailL b 1).take (here b 1).toNat ++ [113] ++ (tailL b 1).drop (here b 1).toNat := by
    have := congrArg (fun s : Str => s.cps.toList) e
    have c : ∀ x y z : List Nat, ((⟨x.toArray⟩ : Str) ++ ⟨y.toArray⟩ ++ ⟨z.toArray⟩).cps.toList = x ++ y ++ z := by
      intro x y z; rw [str_app, str_app]
    exact (c _ [107] _).symm.trans (this.trans (c _ [113] _))
  by_cases h2 : b % 2 = 0
  · have et : ∀ k, turned b k = b := by intro k; unfold turned; rw [h2]; omega
    have es : ∀ k, size b k = b / 26 % 8 := by intro k; unfold size; rw [et]
    have eh : here b 1 = here b 0 := by unfold here; rw [if_pos h2, if_pos h2, es, es]
    have etl : tailL b 1 = tailL b 0 := by
      unfold tailL; rw [es, es]; congr 1; funext j; unfold letter; rw [et, et]
    rw [eh, etl] at e'
    simp at e'
  · have eh : ∀ k, here b k = size b k := by intro k; unfold here; rw [if_neg h2]
    rw [eh, eh, List.drop_of_length_le (by rw [tail_len]; exact Nat.le_refl _), List.drop_of_length_le (by rw [tail_len]; exact Nat.le_refl _), List.append_nil, List.append_nil] at e'
    have := congrArg List.getLast? e'
    simp at this

noncomputable def word (cell count base : Int) : Wd := if cell % 2 = 0 then ⟨Str.ofString "say", cell / 2 % 3, row base (cell / 6 % 3), cell / 2 % 3 % count⟩ else ⟨Str.ofString "mark", cell / 2 % 3, row base (cell / 6 % 3), cell / 18 % count⟩
theorem word_house (cell count base : Int) (hc : 0 < count) : 0 ≤ (word cell count base).house ∧ (word cell count base).house < count := by
  unfold word
  split
  · exact ⟨Int.emod_nonneg _ (by omega), Int.emod_lt_of_pos _ hc⟩
  · exact ⟨Int.emod_nonneg _ (by omega), Int.emod_lt_of_pos _ hc⟩


theorem word_eq (n : Nat) (cell count base : Int) (hc : 0 < count) (hb : 0 ≤ base) (m : MH) : ∃ m', run sig (n + 2) 6 [.int cell, .int count, .int base] m = .ok (word cell count base).v m' ∧ Le m m' := by
  obtain ⟨m1, e1, l1⟩ := row_eq n base (cell / 6 % 3) hb (by omega) (by omega) m
  obtain ⟨v, m', e, rfl, l⟩ : ∃ v m', run sig (n + 2) 6 [.int cell, .int count, .int base] m = .ok v m' ∧ (v = (word cell count base).v ∧ Le m m') := by
    refine run_ok rfl rfl ?_
    refine st_asg (v := .int (cell / 2 % 3)) (m₁ := m) (ev_bin (ev_bin rfl rfl (div_eq _ (by decide) (by decide))) rfl (mod_eq _ (by decide))) ?_
    refine st_asg (ev_call (evs_cons rfl (evs_cons (ev_bin (ev_bin rfl rfl (div_eq _ (by decide) (by decide))) rfl (mod_eq _ (by decide))) rfl)) e1) ?_
    refine st_ite (t := cell % 2 == 0) (m₁ := m1) (evT_val (ev_cmp1 (ev_bin rfl rfl (mod_eq _ (by decide))) rfl rfl) rfl) ?_
    cases h2 : cell % 2 == 0 with
    | true =>
      refine st_ret (ev_tup (evs_cons rfl (evs_cons rfl (evs_cons rfl (evs_cons (ev_bin rfl rfl (mod_eq _ hc)) rfl))))) ⟨_, rfl, ?_, l1⟩
      unfold word; rw [if_pos (eq_of_beq h2)]; rfl
    | false =>
      refine st_ret (ev_tup (evs_cons rfl (evs_cons rfl (evs_cons rfl (evs_cons (ev_bin (ev_bin rfl rfl (div_eq _ (by decide) (by decide))) rfl (mod_eq _ hc)) rfl))))) ⟨_, rfl, ?_, l1⟩
      unfold word; rw [if_neg (fun q => by rw [q] at h2; exact absurd h2 (by decide))]; rfl
  exact ⟨m', e, l⟩
theorem upto12 : ∀ c : Nat, c < 13 → 1 ≤ c → c ∈ [1, 2, 3, 4, 5, 6, 7, 8, 9, 10, 11, 12] := by decide
theorem enough_eq (n : Nat) (c : Nat) (h1 : 1 ≤ c) (h2 : c ≤ 12) (m : MH) : ∃ w : Nat, 1 ≤ w ∧ w ≤ c ∧ run sig (n + 1) 5 [.int c] m = .ok (.int w) m := by
  have key : ∀ c ∈ [1, 2, 3, 4, 5, 6, 7, 8, 9, 10, 11, 12], ∃ w : Nat, 1 ≤ w ∧ w ≤ c ∧ run sig (n + 1) 5 [.int (c : Nat)] m = .ok (.int w) m :=
    List.forall_mem_cons.2 ⟨⟨1, by decide, by decide, rfl⟩, List.forall_mem_cons.2 ⟨⟨2, by decide, by decide, rfl⟩, List.forall_mem_cons.2 ⟨⟨2, by decide, by decide, rfl⟩, List.forall_mem_cons.2 ⟨⟨3, by decide, by decide, rfl⟩,
      List.forall_mem_cons.2 ⟨⟨4, by decide, by decide, rfl⟩, List.forall_mem_cons.2 ⟨⟨4, by decide, by decide, rfl⟩, List.forall_mem_cons.2 ⟨⟨5, by decide, by decide, rfl⟩, List.forall_mem_cons.2 ⟨⟨6, by decide, by decide, rfl⟩,
      List.forall_mem_cons.2 ⟨⟨6, by decide, by decide, rfl⟩, List.forall_mem_cons.2 ⟨⟨7, by decide, by decide, rfl⟩, List.forall_mem_cons.2 ⟨⟨8, by decide, by decide, rfl⟩, List.forall_mem_cons.2 ⟨⟨8, by decide, by decide, rfl⟩, fun _ h => absurd h List.not_mem_nil⟩⟩⟩⟩⟩⟩⟩⟩⟩⟩⟩⟩
  exact key c (upto12 c (by omega) h1)
end P05
end Mini

namespace Mini
namespace P05
open PySem C05

/-! ## plain facts on lists -/
theorem insI_mem (i x : Int) : ∀ l : List Int, x ∈ insI i l ↔ x = i ∨ x ∈ l
  | [] => by simp [insI]
  | j :: r => by
    unfold insI
    split
    · simp
    · simp only [List.mem_cons, insI_mem i x r]
      constructor <;> (rintro (h | h | h) <;> simp [h])
theorem sortI_mem (x : Int) : ∀ l : List Int, x ∈ sortI l ↔ x ∈ l
  | [] => by simp [sortI]
  | j :: r => by rw [sortI, insI_mem, sortI_mem x r, List.mem_cons]
theorem insI_len (i : Int) : ∀ l : List Int, (insI i l).length = l.length + 1
  | [] => rfl
  | j :: r => by
    unfold insI
    split
    · rfl
    · rw [List.length_cons, insI_len i r]; rfl
theorem sortI_len : ∀ l : List Int, (sortI l).length = l.length
  | [] => rfl
  | j :: r => by rw [sortI, insI_len, sortI_len r]; rfl
theorem insI_lt (i : Int) : ∀ l : List Int, l.Pairwise (· < ·) → i ∉ l → (insI i l).Pairwise (· < ·)
  | [], _, _ => by simp [insI]
  | j :: r, h, hn => by
    rw [List.pairwise_cons] at h
    simp only [List.mem_cons, not_or] at hn
    unfold insI
    split
    · rename_i hij
      rw [List.pairwise_cons, List.pairwise_cons]
      refine ⟨?_, h⟩
      intro x hx
      rcases List.mem_cons.1 hx with rfl | hx
      · omega
      · have := h.1 x hx; omega
    · rw [List.pairwise_cons]
      refine ⟨?_, insI_lt i r h.2 hn.2⟩
      intro x hx
      rcases (insI_mem i x r).1 hx with rfl | hx
      · omega
      · exact h.1 x hx
theorem sortI_lt : ∀ l : List Int, l.Nodup → (sortI l).Pairwise (· < ·)
  | [], _ => List.Pairwise.nil
  | j :: r, h => by
    rw [List.nodup_cons] at h
    exact insI_lt j _ (sortI_lt r h.2) (fun q => h.1 ((sortI_mem j r).1 q))
theorem lt_ext : ∀ a b : List Int, a.Pairwise (· < ·) → b.Pairwise (· < ·) → (∀ x, x ∈ a ↔ x ∈ b) → a = b
  | [], [], _, _, _ => rfl
  | [], y :: b, _, _, h => absurd ((h y).2 (List.mem_cons_self ..)) (by simp)
  | x :: a, [], _, _, h => absurd ((h x).1 (List.mem_cons_self ..)) (by simp)
  | x :: a, y :: b, ha, hb, h => by
    rw [List.pairwise_cons] at ha hb
    have e : x = y := by
      rcases List.mem_cons.1 ((h x).1 (List.mem_cons_self ..)) with q | q
      · exact q
      · rcases List.mem_cons.1 ((h y).2 (List.mem_cons_self ..)) with q' | q'
        · exact q'.symm
        · have := hb.1 x q; have := ha.1 y q'; omega
    subst e
    congr 1
    refine lt_ext a b ha.2 hb.2 (fun z => ?_)
    have hz := h z
    simp only [List.mem_cons] at hz
    constructor
    · intro q
      rcases hz.1 (Or.inr q) with e | e
      · have := ha.1 z q; omega
      · exact e
    · intro q
      rcases hz.2 (Or.inr q) with e | e
      · have := hb.1 z q; omega
      · exact e
noncomputable def upto (c : Nat) : List Int := (List.range c).map fun (k : Nat) => (k : Int)
theorem upto_mem (c : Nat) (x : Int) : x ∈ upto c ↔ 0 ≤ x ∧ x < c := by
  unfold upto
  simp only [List.mem_map, List.mem_range]
  constructor
  · rintro ⟨k, hk, rfl⟩; omega
  · intro h; exact ⟨x.toNat, by omega, by omega⟩
theorem upto_lt (c : Nat) : (upto c).Pairwise (· < ·) := by
  unfold upto
  rw [List.pairwise_map]
  exact List.Pairwise.imp (fun h => by omega) (List.pairwise_lt_range)
theorem sort_eq {c : Nat} {l : List Int} (hn : l.Nodup) (hm : ∀ x ∈ l, 0 ≤ x ∧ x < c) : sortI l = (upto c).filter (fun x => decide (x ∈ l)) := by
  refine lt_ext _ _ (sortI_lt l hn) (List.Pairwise.filter _ (upto_lt c)) (fun x => ?_)
  rw [sortI_mem, List.mem_filter, upto_mem]
  constructor
  · intro h; exact ⟨hm x h, by simpa using h⟩
  · rintro ⟨_, h⟩; simpa using h
theorem len_le {c : Nat} {l : List Int} (hn : l.Nodup) (hm : ∀ x ∈ l, 0 ≤ x ∧ x < c) : l.length ≤ c := by
  have := congrArg List.length (sort_eq hn hm)
  rw [sortI_len] at this
  have h2 := List.length_filter_le (fun x => decide (x ∈ l)) (upto c)
  have h3 : (upto c).length = c := by simp [upto]
  omega

/-! ## the pairs -/
noncomputable abbrev Tr := Int × Wd × Wd
noncomputable def tri (t : Tr) : V := .tup [.int t.1, t.2.1.v, t.2.2.v]
noncomputable def pairs (A B : List Wd) : List (Wd × Wd) := A.flatMap fun a => B.map fun b => (a, b)
noncomputable def hit (h : Int) (p : Wd × Wd) : Bool := p.1.house == h && unl p.1 p.2
noncomputable def dueL (A B : List Wd) (c : Nat) : List Tr := (upto c).filterMap fun h => ((pairs A B).find? (hit h)).map fun p => (h, p)
/-- a turn of due -/
noncomputable def st (h : Int) (ds : List Tr) (p : Wd × Wd) : List Tr := if hit h p && !(ds.any fun d => d.1 == h) then ds ++ [(h, p)] else ds
/-- a turn of blamed -/
noncomputable def bt (fs : List Tr) (p : Wd × Wd) : List Tr := if !(fs.any fun d => d.1 == p.1.house) && unl p.1 p.2 then fs ++ [(p.1.house, p)] else fs

theorem st_some (h : Int) : ∀ (ps : List (Wd × Wd)) (ds : List Tr), (ds.any fun d => d.1 == h) = true → ps.foldl (st h) ds = ds
  | [], ds, _ => rfl
  | p :: ps, ds, k => by
    have e : st h ds p = ds := by unfold st; rw [k]; simp
    rw [List.foldl_cons, e, st_some h ps ds k]
theorem st_none (h : Int) : ∀ (ps : List (Wd × Wd)) (ds : List Tr), (ds.any fun d => d.1 == h) = false → ps.foldl (st h) ds = match ps.find? (hit h) with
    | some p => ds ++ [(h, p)]
    | Option.none => ds
  | [], ds, _ => rfl
  | p :: ps, ds, k => by
    rw [List.foldl_cons, List.find?_cons]
    cases hp : hit h p with
    | true =>
      have e : st h ds p = ds ++ [(h, p)] := by unfold st; rw [k, hp]; rfl
      rw [e, st_some h ps _ (by simp)]
    | false =>
      have e : st h ds p = ds := by unfold st; rw [hp]; rfl
      rw [e, st_none h ps ds k]

/-- the outer turns of due -/
theorem due_fold (ps : List (Wd × Wd)) : ∀ (hs : List Int) (ds : List Tr), hs.Pairwise (· < ·) → (∀ d ∈ ds, ∀ h ∈ hs, d.1 < h) → hs.foldl (fun ds h => ps.foldl (st h) ds) ds = ds ++ hs.filterMap fun h => (ps.find? (hit h)).map fun p => (h, p)
  | [], ds, _, _ => by simp
  | h :: hs, ds, hp, hd => by
    rw [List.pairwise_cons] at hp
    have k : (ds.any fun d => d.1 == h) = false := by
      rw [List.any_eq_false]
      intro d q
      have := hd d q h (List.mem_cons_self ..)
      simp; omega
    rw [List.foldl_cons, st_none h ps ds k, List.filterMap_cons]
    cases e : ps.find? (hit h) with
    | none => exact due_fold ps hs ds hp.2 (fun d q x hx => hd d q x (List.mem_cons_of_mem _ hx))
    | some p =>
      dsimp only [Option.map_some]
      rw [due_fold ps hs (ds ++ [(h, p)]) hp.2 ?_]
      · simp
      · intro d q x hx
        rcases List.mem_append.1 q with q | q
        · exact hd d q x (List.mem_cons_of_mem _ hx)
        · rw [List.mem_singleton] at q; subst q; exact hp.1 x hx

/-- what blamed has found -/
structure Bl (ps : List (Wd × Wd)) (fs : List Tr) : Prop where
  key : ∀ d ∈ fs, d.1 = d.2.1.house
  nd : (fs.map (·.1)).Nodup
  fnd : ∀ h, fs.find? (fun d => d.1 == h) = (ps.find? (hit h)).map fun p => (h, p)
theorem any_find {α : Type} (q : α → Bool) (l : List α) : l.any q = (l.find? q).isSome := by
  induction l with
  | nil => rfl
  | cons x l ih => rw [List.any_cons, List.find?_cons]; cases q x <;> simp [ih]
theorem Bl.step {ps : List (Wd × Wd)} {fs : List Tr} (b : Bl ps fs) (p : Wd × Wd) : Bl (ps ++ [p]) (bt fs p) := by
  unfold bt
  cases hu : unl p.1 p.2 with
  | false =>
    rw [Bool.and_false, if_neg (by simp)]
    refine ⟨b.key, b.nd, fun h => ?_⟩
    have : hit h p = false := by unfold hit; rw [hu, Bool.and_false]
    rw [b.fnd h, List.find?_append, List.find?_cons, this]; simp
  | true =>
    rw [Bool.and_true]
    cases ha : fs.any fun d => d.1 == p.1.house with
    | true =>
      rw [if_neg (by simp)]
      refine ⟨b.key, b.nd, fun h => ?_⟩
      rw [b.fnd h, List.find?_append]
      by_cases e : p.1.house = h
      · subst e
        rw [any_find, b.fnd] at ha
        cases q : ps.find? (hit p.1.house) with
        | none => rw [q] at ha; cases ha
        | some x => rfl
      · have : hit h p = false := by unfold hit; simp [e]
        rw [List.find?_cons, this]; simp
    | false =>
      simp only [Bool.not_false, if_true]
      refine ⟨?_, ?_, fun h => ?_⟩
      · intro d hd
        rcases List.mem_append.1 hd with q | q
        · exact b.key d q
        · rw [List.mem_singleton] at q; subst q; rfl
      · rw [List.map_append, List.nodup_append]
        refine ⟨b.nd, by simp, ?_⟩
        intro x hx y hy e
        subst e
        simp only [List.map_cons, List.map_nil, List.mem_singleton] at hy
        subst hy
        obtain ⟨d, hd, e⟩ := List.mem_map.1 hx
        have := (List.any_eq_false.1 ha) d hd
        simp [e] at this
      · rw [List.find?_append, List.find?_append, b.fnd h]
        by_cases e : p.1.house = h
        · subst e
          rw [any_find, b.fnd] at ha
          cases q : ps.find? (hit p.1.house) with
          | some x => rw [q] at ha; cases ha
          | none =>
            have : hit p.1.house p = true := by unfold hit; simp [hu]
            simp [List.find?_cons, this]
        · have : hit h p = false := by unfold hit; simp [e]
          simp [List.find?_cons, this, e]
theorem Bl.fold : ∀ (qs ps : List (Wd × Wd)) (fs : List Tr), Bl ps fs → Bl (ps ++ qs) (qs.foldl bt fs)
  | [], ps, fs, b => by rw [List.append_nil]; exact b
  | q :: qs, ps, fs, b => by
    have := Bl.fold qs (ps ++ [q]) _ (b.step q)
    rwa [List.append_assoc] at this
theorem Bl.nil : Bl [] [] := ⟨by simp, by simp, by simp⟩
/-- blamed's rows are due's rows -/
theorem Bl.due {A B : List Wd} {fs : List Tr} (b : Bl (pairs A B) fs) {c : Nat} (hc : ∀ a ∈ A, 0 ≤ a.house ∧ a.house < c) :
    sortI (fs.map (·.1)) = (dueL A B c).map (·.1) ∧ (dueL A B c) = (sortI (fs.map (·.1))).filterMap fun h => fs.find? (fun d => d.1 == h) := by
  have hin : ∀ x ∈ fs.map (·.1), 0 ≤ x ∧ x < (c : Int) := by
    intro x hx
    obtain ⟨d, hd, rfl⟩ := List.mem_map.1 hx
    have h1 : fs.find? (fun e => e.1 == d.1) ≠ none := by
      intro q
      rw [List.find?_eq_none] at q
      exact absurd (q d hd) (by simp)
    rw [b.fnd] at h1
    cases q : (pairs A B).find? (hit d.1) with
    | none => rw [q] at h1; exact absurd rfl h1
    | some p =>
      have h2 := List.mem_of_find?_eq_some q
      have h3 := List.find?_some q
      unfold pairs at h2
      rw [List.mem_flatMap] at h2
      obtain ⟨a, ha, hb⟩ := h2
      obtain ⟨o, ho, rfl⟩ := List.mem_map.1 hb
      unfold hit at h3
      simp only [Bool.and_eq_true, beq_iff_eq] at h3
      have := hc a ha
      omega
  have e1 := sort_eq b.nd hin
  have mem : ∀ x, x ∈ fs.map (·.1) ↔ ((pairs A B).find? (hit x)).isSome = true := by
    intro x
    have : ((pairs A B).find? (hit x)).isSome = (fs.find? (fun d => d.1 == x)).isSome := by rw [b.fnd]; simp
    rw [this, List.find?_isSome]
    constructor
    · intro h; obtain ⟨d, hd, rfl⟩ := List.mem_map.1 h; exact ⟨d, hd, by simp⟩
    · rintro ⟨d, hd, e⟩; exact List.mem_map.2 ⟨d, hd, by simpa using e⟩
  have key : ∀ hs : List Int, (hs.filter fun x => decide (x ∈ fs.map (·.1))) = (hs.filterMap fun h => ((pairs A B).find? (hit h)).map fun p => (h, p)).map (·.1) ∧
      (hs.filterMap fun h => ((pairs A B).find? (hit h)).map fun p => (h, p)) = (hs.filter fun x => decide (x ∈ fs.map (·.1))).filterMap fun h => fs.find? (fun d => d.1 == h) := by
    intro hs
    induction hs with
    | nil => exact ⟨rfl, rfl⟩
    | cons h hs ih =>
      cases q : (pairs A B).find? (hit h) with
      | none =>
        have hn : decide (h ∈ fs.map (·.1)) = false := by
          rw [decide_eq_false_iff_not, mem, q]; simp
        rw [List.filter_cons, hn, List.filterMap_cons, q]
        exact ih
      | some p =>
        have hn : decide (h ∈ fs.map (·.1)) = true := by
          rw [decide_eq_true_eq, mem, q]; rfl
        rw [List.filter_cons, hn, if_pos rfl, List.filterMap_cons, q]
        dsimp only [Option.map_some]
        refine ⟨?_, ?_⟩
        · rw [List.map_cons, ← ih.1]
        · rw [List.filterMap_cons, b.fnd h, q]
          dsimp only [Option.map_some]
          rw [← ih.2]
  rw [e1]
  exact key (upto c)
end P05
end Mini

namespace Mini
namespace P05
open PySem C05

theorem lid_big : 1000 < lid := by decide
noncomputable def PK (c : Nat) (ds : List Tr) : Prop := (ds.map (·.1)).Nodup ∧ ∀ x ∈ ds.map (·.1), 0 ≤ x ∧ x < (c : Int)
theorem PK.len {c : Nat} {ds : List Tr} (h : PK c ds) : ds.length ≤ c := by simpa using len_le h.1 h.2
theorem PK.add {c : Nat} {ds : List Tr} (h : PK c ds) {x : Int} (h0 : 0 ≤ x) (h1 : x < c) (p : Wd × Wd) (ha : (ds.any fun d => d.1 == x) = false) : PK c (ds ++ [(x, p)]) := by
  refine ⟨?_, ?_⟩
  · rw [List.map_append, List.nodup_append]
    refine ⟨h.1, by simp, ?_⟩
    intro a ha' y hy e
    subst e
    simp only [List.map_cons, List.map_nil, List.mem_singleton] at hy
    subst hy
    obtain ⟨d, hd, e⟩ := List.mem_map.1 ha'
    have := (List.any_eq_false.1 ha) d hd
    simp [e] at this
  · intro y hy
    rw [List.map_append, List.mem_append] at hy
    rcases hy with hy | hy
    · exact h.2 y hy
    · simp only [List.map_cons, List.map_nil, List.mem_singleton] at hy; subst hy; exact ⟨h0, h1⟩
theorem PK.st {c : Nat} {ds : List Tr} (h : PK c ds) {x : Int} (h0 : 0 ≤ x) (h1 : x < c) (p : Wd × Wd) : PK c (st x ds p) := by
  unfold P05.st
  split
  · rename_i hh
    simp only [Bool.and_eq_true, Bool.not_eq_true'] at hh
    exact h.add h0 h1 p hh.2
  · exact h
theorem pairs_fold {β : Type} (f : β → Wd × Wd → β) (A B : List Wd) (b : β) : (pairs A B).foldl f b = A.foldl (fun b x => B.foldl (fun b y => f b (x, y)) b) b := by
  unfold pairs
  induction A generalizing b with
  | nil => rfl
  | cons x A ih => rw [List.flatMap_cons, List.foldl_append, ih, List.foldl_map]; rfl

theorem rd_ints {m : MH} : ∀ is : List Int, allO (rd deep m) (is.map V.int) = some (is.map PyData.int)
  | [] => rfl
  | x :: l => by rw [List.map_cons, allO, rd_ints l]; rfl
theorem any_ints (h : Int) : ∀ is : List Int, ((is.map PyData.int).any fun e => PyData.eqv e (.int h)) = is.any fun j => j == h
  | [] => rfl
  | x :: l => by rw [List.map_cons, List.any_cons, List.any_cons, any_ints h l]; rfl
theorem nin_eq {m : MH} {p : Nat} {is : List Int} {h : Int} (k : m[p]? = some (.list (is.map V.int))) : cmpV .NotIn (.int h) (.ref p) m = .ok (!(is.any fun j => j == h)) m := by
  have e : inV (.int h) (.ref p) m = .ok (is.any fun j => j == h) m := by
    show (match m[p]? with | some (.list ys) => (match allO (rd deep m) ys, rd deep m (.int h) with | some ds, some d => Res.ok (ds.any fun e => PyData.eqv e d) m | _, _ => .bad) | some (.dict kvs _) => (match toKey (.int h) with | some k => if sorted1 k kvs then .ok (look k kvs).isSome m else .bad | Option.none => .bad) | _ => .bad) = _
    rw [k]; dsimp only; rw [rd_ints, ← any_ints h is]; rfl
  exact bind_ok (x := inV (.int h) (.ref p)) e
/-- the body of due -/
theorem due_body (n : Nat) (c : Nat) (hc : c ≤ 12) (m₀ m : MH) (x0 x1 x2 : Option V) (h : Int) (h0 : 0 ≤ h) (h1 : h < c) (a b : Wd) (ds : List Tr) (l : Le m₀ m) (k : m[m₀.length]? = some (.list (ds.map tri))) (P : PK c ds) :
    Ok (exs sig (run sig (n + 1)) [.ite (.all true [.val (.cmp (.idx (.var 5) (.cnst (.int 3))) [.Eq] [.var 4]), .val (.call 7 [.var 5, .var 6]), .val (.cmp (.var 4) [.NotIn] [.comp (.idx (.var 7) (.cnst (.int 0))) (.one 7) 1 .expr [.var 3] []])]) [.exp (.smeth (.var 3) .append [.tup [.var 4, .var 5, .var 6]])] []]
      [x0, x1, x2, some (.ref m₀.length), some (.int h), some a.v, some b.v]) m (fun p m' => p.1 = .next ∧ (p.2 = [x0, x1, x2, some (.ref m₀.length), some (.int h), some a.v, some b.v] ∧ Le m₀ m' ∧ m'[m₀.length]? = some (.list ((st h ds (a, b)).map tri)) ∧ PK c (st h ds (a, b)))) := by
  have P2 := P.st h0 h1 (a, b)
  have t1 : evT sig (run sig (n + 1)) (.val (.cmp (.idx (.var 5) (.cnst (.int 3))) [.Eq] [.var 4])) [x0, x1, x2, some (.ref m₀.length), some (.int h), some a.v, some b.v] m = .ok (a.house == h) m := evT_val (ev_cmp1 (ev_idx rfl rfl rfl) rfl rfl) rfl
  have t2 : evT sig (run sig (n + 1)) (.val (.call 7 [.var 5, .var 6])) [x0, x1, x2, some (.ref m₀.length), some (.int h), some a.v, some b.v] m = .ok (unl a b) m := evT_val (ev_call rfl (unl7_eq n a b m)) rfl
  have lb := lid_big
  have hl := P.len
  obtain ⟨m1, e1, l1⟩ := comp_map (S := sig) (F := run sig (n + 1)) (g := .list m₀.length (ds.map tri)) (i := 7) (vv := tri) (ww := fun t => V.int t.1) (r := [x0, x1, x2, some (.ref m₀.length), some (.int h), some a.v, some b.v, none]) (elt := .idx (.var 7) (.cnst (.int 0)))
    (fun m' => Le m m') (fun m' l => stays_list (l.has k)) ds (fun t _ m' l => ⟨m', ev_idx rfl rfl rfl, l⟩) m (Le.refl m)
  have kc : (m1 ++ [MObj.list ((ds.map (·.1)).map V.int)])[m1.length]? = some (.list ((ds.map (·.1)).map V.int)) := new_has
  have el : ds.map (fun t => V.int t.1) = (ds.map (·.1)).map V.int := by rw [List.map_map]; rfl
  rw [el] at e1
  have l2 : Le m (m1 ++ [MObj.list ((ds.map (·.1)).map V.int)]) := l1.trans (Le.app _ _)
  have t3 : evT sig (run sig (n + 1)) (.val (.cmp (.var 4) [.NotIn] [.comp (.idx (.var 7) (.cnst (.int 0))) (.one 7) 1 .expr [.var 3] []])) [x0, x1, x2, some (.ref m₀.length), some (.int h), some a.v, some b.v] m = .ok (!((ds.map (·.1)).any fun j => j == h)) (m1 ++ [MObj.list ((ds.map (·.1)).map V.int)]) :=
    evT_val (ev_cmp1 rfl (ev_comp (evs_cons rfl rfl) (srcl_eq k) e1 (by rw [List.length_map, List.length_map]; omega)) (nin_eq kc)) rfl
  have ea : ((ds.map (·.1)).any fun j => j == h) = ds.any fun d => d.1 == h := by rw [List.any_map]; rfl
  rw [ea] at t3
  generalize m1 ++ [MObj.list ((ds.map (·.1)).map V.int)] = m2 at l2 t3
  unfold st hit at P2 ⊢
  dsimp only at P2 ⊢
  cases q1 : a.house == h with
  | false => rw [q1] at t1; exact st_ite (evT_all (evTs_stop t1 rfl)) (st_nil ⟨rfl, rfl, l, k, P⟩)
  | true =>
    rw [q1] at t1 P2
    cases q2 : unl a b with
    | false => rw [q2] at t2; exact st_ite (evT_all (evTs_go t1 (evTs_stop t2 rfl))) (st_nil ⟨rfl, rfl, l, k, P⟩)
    | true =>
      rw [q2] at t2 P2
      cases q3 : ds.any fun d => d.1 == h with
      | true => rw [q3] at t3; exact st_ite (evT_all (evTs_go t1 (evTs_go t2 (evTs_stop t3 rfl)))) (st_nil ⟨rfl, rfl, l.trans l2, l2.has k, P⟩)
      | false =>
        rw [q3] at t3 P2
        have k2 := l2.has k
        refine st_ite (evT_all (evTs_go t1 (evTs_go t2 (evTs_go t3 evTs_end)))) (st_exp (ev_smeth rfl (smK_eq k2) rfl (evs_cons (ev_tup rfl) rfl) (app_eq k2 (by rw [List.length_map]; omega))) (st_nil ⟨rfl, rfl, (l.trans l2).set (Nat.le_refl _) _, ?_, P2⟩))
        rw [set_has k2]
        show _ = some (MObj.list ((ds ++ [(h, a, b)]).map tri))
        rw [List.map_append]; rfl
noncomputable def D1 (m : MH) (c p1 p2 : Nat) (ds : List Tr) (r : Lo) (m' : MH) : Prop := ∃ x4 x5 x6, r = [some (.ref p1), some (.ref p2), some (.int c), some (.ref m.length), x4, x5, x6] ∧ Le m m' ∧ m'[m.length]? = some (.list (ds.map tri)) ∧ PK c ds
noncomputable def D2 (m : MH) (c p1 p2 : Nat) (h : Int) (ds : List Tr) (r : Lo) (m' : MH) : Prop := ∃ x5 x6, r = [some (.ref p1), some (.ref p2), some (.int c), some (.ref m.length), some (.int h), x5, x6] ∧ Le m m' ∧ m'[m.length]? = some (.list (ds.map tri)) ∧ PK c ds
noncomputable def D3 (m : MH) (c p1 p2 : Nat) (h : Int) (a : Wd) (ds : List Tr) (r : Lo) (m' : MH) : Prop := ∃ x6, r = [some (.ref p1), some (.ref p2), some (.int c), some (.ref m.length), some (.int h), some a.v, x6] ∧ Le m m' ∧ m'[m.length]? = some (.list (ds.map tri)) ∧ PK c ds
noncomputable def Got (m : MH) (P : List V) (v : V) (m' : MH) : Prop := ∃ p, v = .ref p ∧ Le m m' ∧ m'[p]? = some (.list P)
theorem due_eq (n : Nat) (A B : List Wd) (c p1 p2 : Nat) (hc : c ≤ 12) (m : MH) (k1 : m[p1]? = some (.list (A.map Wd.v))) (k2 : m[p2]? = some (.list (B.map Wd.v))) :
    ∃ p m', run sig (n + 2) 8 [.ref p1, .ref p2, .int c] m = .ok (.ref p) m' ∧ Le m m' ∧ m'[p]? = some (.list ((dueL A B c).map tri)) := by
  obtain ⟨v, m', e, p, rfl, l⟩ : ∃ v m', run sig (n + 2) 8 [.ref p1, .ref p2, .int c] m = .ok v m' ∧ Got m ((dueL A B c).map tri) v m' := by
    refine run_ok rfl rfl ?_
    refine st_asg (ev_list rfl) ?_
    have er : srcV .range [.int c] (m ++ [MObj.list []]) = .ok ((upto c).map V.int, .none) (m ++ [MObj.list []]) := by
      have : rangeV [.int c] = some ((upto c).map V.int) := by
        show (if (c : Int).natAbs < 2 ^ 30 then some (rangeL 0 c) else none) = _
        rw [if_pos (by omega)]; unfold rangeL upto; rw [List.map_map, Int.sub_zero, Int.toNat_natCast]
        congr 1; refine List.map_congr_left fun j _ => ?_; show V.int (0 + (j : Int)) = _; rw [Int.zero_add]; rfl
      show (match rangeV [.int c] with | some l => ret (l, Gd.none) | none => bad) _ = _
      rw [this]; rfl
    refine st_for (β := List Tr) (vv := V.int) (b₀ := []) (D1 m c p1 p2)
      (fun ds (h : Int) => A.foldl (fun ds x => B.foldl (fun ds y => st h ds (x, y)) ds) ds) (evs_cons rfl rfl) er ⟨none, none, none, rfl, Le.app _ _, new_has, by simp [PK]⟩ (fun _ _ _ _ => rfl) ?_ ?_
    · rintro h hh ds r m1 ⟨x4, x5, x6, rfl, l1, d1, P1⟩
      obtain ⟨h0, h1⟩ := (upto_mem c h).1 hh
      refine st_for (β := List Tr) (vv := Wd.v) (b₀ := ds) (D2 m c p1 p2 h)
        (fun ds x => B.foldl (fun ds y => st h ds (x, y)) ds) (evs_cons rfl rfl) (srcl_eq (l1.has k1)) ⟨x5, x6, rfl, l1, d1, P1⟩ (fun _ _ _ ⟨_, _, _, l, _⟩ => stays_list (l.has k1)) ?_ ?_
      · rintro a _ ds r m1 ⟨x5, x6, rfl, l1, d1, P1⟩
        refine st_for (β := List Tr) (vv := Wd.v) (b₀ := ds) (D3 m c p1 p2 h a)
          (fun ds y => st h ds (a, y)) (evs_cons rfl rfl) (srcl_eq (l1.has k2)) ⟨x6, rfl, l1, d1, P1⟩ (fun _ _ _ ⟨_, _, l, _⟩ => stays_list (l.has k2)) ?_ ?_
        · rintro b _ ds r m1 ⟨x6, rfl, l1, d1, P1⟩
          exact Ok.mono (due_body n c hc m m1 _ _ _ h h0 h1 a b ds l1 d1 P1) fun p m' q => ⟨q.1, _, q.2⟩
        · rintro r m2 ⟨x6, rfl, l2⟩; exact st_nil ⟨rfl, _, _, rfl, l2⟩
      · rintro r m2 ⟨x5, x6, rfl, l2⟩; exact st_nil ⟨rfl, _, _, _, rfl, l2⟩
    · rintro r m1 ⟨x4, x5, x6, rfl, l1, d1, _⟩
      refine st_ret rfl ⟨_, rfl, _, rfl, l1, ?_⟩
      have e1 := due_fold (pairs A B) (upto c) [] (upto_lt c) (by simp)
      rw [List.nil_append] at e1
      have e2 : (fun (ds : List Tr) (h : Int) => (pairs A B).foldl (st h) ds) = fun ds h => A.foldl (fun ds x => B.foldl (fun ds y => st h ds (x, y)) ds) ds := by
        funext ds h; exact pairs_fold (st h) A B ds
      rw [e2] at e1
      rw [d1, e1]; rfl
  exact ⟨p, m', e, l⟩

noncomputable def kv (t : Tr) : Ky × V := (.int t.1, tri t)
theorem kv_sorted (i : Int) (fs : List Tr) : sorted1 (.int i) (fs.map kv) = true := by
  unfold sorted1; rw [List.all_map, List.all_eq_true]; intro t _; rfl
theorem kv_look (i : Int) : ∀ fs : List Tr, look (.int i) (fs.map kv) = (fs.find? fun d => d.1 == i).map tri
  | [] => rfl
  | t :: fs => by
    rw [List.map_cons, kv, look, List.find?_cons]
    by_cases h : t.1 = i
    · rw [if_pos (by rw [h])]; simp [h]
    · rw [if_neg (by intro q; injection q; contradiction), kv_look i fs]
      have : (t.1 == i) = false := by simp [h]
      rw [this]
theorem kv_put (i : Int) (v : V) : ∀ fs : List Tr, (fs.any fun d => d.1 == i) = false → put (.int i) v (fs.map kv) = fs.map kv ++ [(.int i, v)]
  | [], _ => rfl
  | t :: fs, h => by
    rw [List.any_cons, Bool.or_eq_false_iff] at h
    have h1 : t.1 ≠ i := by simpa using h.1
    rw [List.map_cons, kv, put, if_neg (by intro q; injection q; contradiction), kv_put i v fs h.2]; rfl
theorem kv_key : ∀ fs : List Tr, isKeyI (fs.map kv) = some (fs.map (·.1))
  | [] => rfl
  | t :: fs => by rw [List.map_cons, kv, isKeyI, kv_key fs]; rfl
theorem PK.bt {c : Nat} {ds : List Tr} (h : PK c ds) (p : Wd × Wd) (hp : 0 ≤ p.1.house ∧ p.1.house < c) : PK c (bt ds p) := by
  unfold P05.bt
  split
  · rename_i hh
    simp only [Bool.and_eq_true, Bool.not_eq_true'] at hh
    exact h.add hp.1 hp.2 p hh.1
  · exact h


theorem nind_eq {m : MH} {p e : Nat} {fs : List Tr} {h : Int} (k : m[p]? = some (.dict (fs.map kv) e)) : cmpV .NotIn (.int h) (.ref p) m = .ok (!(fs.any fun d => d.1 == h)) m := by
  have e : inV (.int h) (.ref p) m = .ok (fs.any fun d => d.1 == h) m := by
    show (match m[p]? with | some (.list ys) => (match allO (rd deep m) ys, rd deep m (.int h) with | some ds, some d => Res.ok (ds.any fun e => PyData.eqv e d) m | _, _ => .bad) | some (.dict kvs _) => (match toKey (.int h) with | some k => if sorted1 k kvs then .ok (look k kvs).isSome m else .bad | Option.none => .bad) | _ => .bad) = _
    rw [k]
    show (if sorted1 (.int h) (fs.map kv) then Res.ok (look (.int h) (fs.map kv)).isSome m else .bad) = _
    rw [if_pos (kv_sorted h fs), kv_look, any_find, Option.isSome_map]
  exact bind_ok (x := inV (.int h) (.ref p)) e
theorem blamed_body (n : Nat) (c : Nat) (hc : c ≤ 12) (m₀ m : MH) (x0 x1 : Option V) (a b : Wd) (ha : 0 ≤ a.house ∧ a.house < (c : Int)) (ds : List Tr) (e : Nat) (l : Le m₀ m) (k : m[m₀.length]? = some (.dict (ds.map kv) e)) (P : PK c ds) :
    Ok (exs sig (run sig (n + 1)) [.ite (.all true [.val (.cmp (.idx (.var 3) (.cnst (.int 3))) [.NotIn] [.var 2]), .val (.call 0 [.var 3, .var 4])]) [.asg (.idx (.var 2) (.idx (.var 3) (.cnst (.int 3)))) (.tup [.idx (.var 3) (.cnst (.int 3)), .var 3, .var 4])] []]
      [x0, x1, some (.ref m₀.length), some a.v, some b.v]) m (fun p m' => p.1 = .next ∧ ∃ e, (p.2 = [x0, x1, some (.ref m₀.length), some a.v, some b.v] ∧ Le m₀ m' ∧ m'[m₀.length]? = some (.dict ((bt ds (a, b)).map kv) e) ∧ PK c (bt ds (a, b)))) := by
  have P2 := P.bt (a, b) ha
  have t1 : evT sig (run sig (n + 1)) (.val (.cmp (.idx (.var 3) (.cnst (.int 3))) [.NotIn] [.var 2])) [x0, x1, some (.ref m₀.length), some a.v, some b.v] m = .ok (!(ds.any fun d => d.1 == a.house)) m := evT_val (ev_cmp1 (ev_idx rfl rfl rfl) rfl (nind_eq k)) rfl
  have t2 : evT sig (run sig (n + 1)) (.val (.call 0 [.var 3, .var 4])) [x0, x1, some (.ref m₀.length), some a.v, some b.v] m = .ok (unl a b) m := evT_val (ev_call rfl (unl0_eq n a b m)) rfl
  have lb := lid_big
  have hl := P.len
  unfold bt at P2 ⊢
  dsimp only at P2 ⊢
  cases q1 : ds.any fun d => d.1 == a.house with
  | true => rw [q1] at t1; exact st_ite (evT_all (evTs_stop t1 rfl)) (st_nil ⟨rfl, _, rfl, l, k, P⟩)
  | false =>
    rw [q1] at t1 P2
    cases q2 : unl a b with
    | false => rw [q2] at t2; exact st_ite (evT_all (evTs_go t1 (evTs_stop t2 rfl))) (st_nil ⟨rfl, _, rfl, l, k, P⟩)
    | true =>
      rw [q2] at t2 P2
      have ep : putIdx (.ref m₀.length) (.int a.house) (tri (a.house, a, b)) m = .ok () (m.set m₀.length (.dict ((ds ++ [(a.house, a, b)]).map kv) (e + 1))) := by
        show (match m[m₀.length]? with | some (.dict kvs e) => (match toKey (.int a.house) with | some k => if sorted1 k kvs && kvs.length < lid then Res.ok () (m.set m₀.length (.dict (put k (tri (a.house, a, b)) kvs) (e + 1))) else .bad | Option.none => .bad) | _ => .bad) = _
        rw [k]
        show (if sorted1 (.int a.house) (ds.map kv) && decide ((ds.map kv).length < lid) then Res.ok () (m.set m₀.length (.dict (put (.int a.house) (tri (a.house, a, b)) (ds.map kv)) (e + 1))) else .bad) = _
        rw [kv_sorted, if_pos (by rw [Bool.true_and, decide_eq_true_eq, List.length_map]; omega), kv_put _ _ _ q1, List.map_append]; rfl
      refine st_ite (evT_all (evTs_go t1 (evTs_go t2 evTs_end))) (st_idx (ev_tup (evs_cons (ev_idx rfl rfl rfl) rfl)) rfl (ev_idx rfl rfl rfl) ep (st_nil ⟨rfl, e + 1, rfl, l.set (Nat.le_refl _) _, ?_, P2⟩))
      rw [set_has k]; rfl
noncomputable def B1 (m : MH) (c p1 p2 : Nat) (ds : List Tr) (r : Lo) (m' : MH) : Prop := ∃ x3 x4 e, r = [some (.ref p1), some (.ref p2), some (.ref m.length), x3, x4] ∧ Le m m' ∧ m'[m.length]? = some (.dict (ds.map kv) e) ∧ PK c ds
noncomputable def B2 (m : MH) (c p1 p2 : Nat) (a : Wd) (ds : List Tr) (r : Lo) (m' : MH) : Prop := ∃ x4 e, r = [some (.ref p1), some (.ref p2), some (.ref m.length), some a.v, x4] ∧ Le m m' ∧ m'[m.length]? = some (.dict (ds.map kv) e) ∧ PK c ds
theorem blamed_eq (n : Nat) (A B : List Wd) (c p1 p2 : Nat) (hc : c ≤ 12) (hA : ∀ a ∈ A, 0 ≤ a.house ∧ a.house < (c : Int)) (m : MH) (k1 : m[p1]? = some (.list (A.map Wd.v))) (k2 : m[p2]? = some (.list (B.map Wd.v))) :
    ∃ p m', run sig (n + 2) 1 [.ref p1, .ref p2] m = .ok (.ref p) m' ∧ Le m m' ∧ m'[p]? = some (.list ((dueL A B c).map tri)) := by
  obtain ⟨v, m', e, p, rfl, l⟩ : ∃ v m', run sig (n + 2) 1 [.ref p1, .ref p2] m = .ok v m' ∧ Got m ((dueL A B c).map tri) v m' := by
    refine run_ok rfl rfl ?_
    refine st_asg (v := .ref m.length) (m₁ := m ++ [MObj.dict [] 0]) rfl ?_
    have l0 : Le m (m ++ [MObj.dict [] 0]) := Le.app _ _
    refine st_for (β := List Tr) (vv := Wd.v) (b₀ := []) (B1 m c p1 p2)
      (fun ds x => B.foldl (fun ds y => bt ds (x, y)) ds) (evs_cons rfl rfl) (srcl_eq (l0.has k1)) ⟨none, none, 0, rfl, l0, new_has, by simp [PK]⟩ (fun _ _ _ ⟨_, _, _, _, l, _⟩ => stays_list (l.has k1)) ?_ ?_
    · rintro a ha ds r m1 ⟨x3, x4, e, rfl, l1, d1, P1⟩
      refine st_for (β := List Tr) (vv := Wd.v) (b₀ := ds) (B2 m c p1 p2 a)
        (fun ds y => bt ds (a, y)) (evs_cons rfl rfl) (srcl_eq (l1.has k2)) ⟨x4, e, rfl, l1, d1, P1⟩ (fun _ _ _ ⟨_, _, _, l, _⟩ => stays_list (l.has k2)) ?_ ?_
      · rintro b _ ds r m1 ⟨x4, e, rfl, l1, d1, P1⟩
        exact Ok.mono (blamed_body n c hc m m1 _ _ a b (hA a ha) ds e l1 d1 P1) fun p m' q => ⟨q.1, _, q.2⟩
      · rintro r m2 ⟨x4, e, rfl, l2⟩; exact st_nil ⟨rfl, _, _, _, rfl, l2⟩
    · rintro r m1 ⟨x3, x4, e, rfl, l1, d1, P1⟩
      rw [← pairs_fold bt A B []] at d1 P1
      have bl := Bl.fold (pairs A B) [] [] Bl.nil
      rw [List.nil_append] at bl
      generalize (pairs A B).foldl bt [] = fs at d1 P1 bl
      obtain ⟨s1, s2⟩ := bl.due hA
      have hl : (fs.map (·.1)).length < 64 := by have := P1.len; rw [List.length_map]; omega
      have lb := lid_big
      have es : biV .sorted [.ref m.length] m1 = .ok (.ref m1.length) (m1 ++ [MObj.list ((sortI (fs.map (·.1))).map V.int)]) := by
        show (match m1[m.length]? with | some (.list xs) => (match isIntL xs with | some is => if is.length < 64 then alloc (.list ((sortI is).map .int)) m1 else .bad | Option.none => .bad) | some (.dict kvs _) => (match isKeyI kvs with | some is => if is.length < 64 then alloc (.list ((sortI is).map .int)) m1 else .bad | Option.none => .bad) | _ => .bad) = _
        rw [d1]; dsimp only; rw [kv_key]; exact if_pos hl
      have l2 : Le m1 (m1 ++ [MObj.list ((sortI (fs.map (·.1))).map V.int)]) := Le.app _ _
      have k3 : (m1 ++ [MObj.list ((sortI (fs.map (·.1))).map V.int)])[m1.length]? = some (.list ((sortI (fs.map (·.1))).map V.int)) := new_has
      have d2 := l2.has d1
      generalize m1 ++ [MObj.list ((sortI (fs.map (·.1))).map V.int)] = m2 at es l2 k3 d2
      have look_all : ∀ x ∈ sortI (fs.map (·.1)), look (.int x) (fs.map kv) = some (((fs.find? fun d => d.1 == x).map tri).getD .none) := by
        intro x hx
        rw [sortI_mem] at hx
        obtain ⟨d, hd, rfl⟩ := List.mem_map.1 hx
        rw [kv_look]
        cases ef : fs.find? fun e => e.1 == d.1 with
        | none => rw [List.find?_eq_none] at ef; exact absurd (ef d hd) (by simp)
        | some t => rfl
      obtain ⟨m3, e3, l3⟩ := comp_map (S := sig) (F := run sig (n + 1)) (g := .list m1.length ((sortI (fs.map (·.1))).map V.int)) (i := 5) (vv := V.int) (ww := fun x => ((fs.find? fun d => d.1 == x).map tri).getD .none) (r := [some (.ref p1), some (.ref p2), some (.ref m.length), x3, x4, none]) (elt := .idx (.var 2) (.var 5))
        (fun m' => Le m2 m') (fun m' l => stays_list (l.has k3)) (sortI (fs.map (·.1))) (fun x hx m' l => ⟨m', ev_idx rfl rfl (by
          show (match m'[m.length]? with | some (.list xs) => (if x.natAbs < 2 ^ 60 then ofO (at_ xs x) m' else .bad) | some (.dict kvs _) => (match toKey (.int x) with | some k => if sorted1 k kvs then ofO (look k kvs) m' else .bad | Option.none => .bad) | _ => .bad) = _
          rw [l.has d2]
          show (if sorted1 (.int x) (fs.map kv) then ofO (look (.int x) (fs.map kv)) m' else .bad) = _
          rw [if_pos (kv_sorted x fs), look_all x hx]; rfl), l⟩) m2 (Le.refl m2)
      have el : (sortI (fs.map (·.1))).map (fun x => ((fs.find? fun d => d.1 == x).map tri).getD V.none) = (dueL A B c).map tri := by
        rw [s2]
        have : ∀ hs : List Int, (∀ x ∈ hs, (fs.find? fun d => d.1 == x).isSome = true) → hs.map (fun x => ((fs.find? fun d => d.1 == x).map tri).getD V.none) = (hs.filterMap fun h => fs.find? fun d => d.1 == h).map tri := by
          intro hs
          induction hs with
          | nil => intro _; rfl
          | cons x hs ih =>
            intro hh
            have hx := hh x (List.mem_cons_self ..)
            rw [List.map_cons, List.filterMap_cons, ih fun y hy => hh y (List.mem_cons_of_mem _ hy)]
            cases q : fs.find? fun d => d.1 == x with
            | none => rw [q] at hx; cases hx
            | some t => rfl
        refine this _ fun x hx => ?_
        have := look_all x hx
        rw [kv_look] at this
        cases q : fs.find? fun d => d.1 == x with
        | none => rw [q] at this; cases this
        | some t => rfl
      rw [el] at e3
      have hlen : ((dueL A B c).map tri).length ≤ lid := by
        have := congrArg List.length s1
        rw [sortI_len, List.length_map, List.length_map] at this
        have h2 := P1.len; rw [List.length_map]; omega
      exact st_ret (ev_comp (evs_cons (ev_bi rfl es) rfl) (srcl_eq k3) e3 hlen) ⟨_, rfl, _, rfl, ((l1.trans l2).trans l3).trans (Le.app _ _), new_has⟩
  exact ⟨p, m', e, l⟩

theorem erase_perm (L : List Int) (i : Nat) (h : i < L.length) : L.Perm (L[i] :: L.eraseIdx i) := by
  rw [List.eraseIdx_eq_take_drop_succ]
  have e : L = L.take i ++ L[i] :: L.drop (i + 1) := by
    rw [List.getElem_cons_drop, List.take_append_drop]
  conv => lhs; rw [e]
  exact List.perm_middle

theorem erase_map : ∀ (L : List Int) (i : Nat), (L.map V.int).eraseIdx i = (L.eraseIdx i).map V.int
  | [], _ => rfl
  | x :: L, 0 => rfl
  | x :: L, i + 1 => by rw [List.map_cons, List.eraseIdx_cons_succ, erase_map L i, List.eraseIdx_cons_succ, List.map_cons]

theorem pop_eq {m : MH} {p k : Nat} {xs : List V} {v : V} (h : m[p]? = some (.list xs)) (hv : xs[k]? = some v) (hk : k < 2 ^ 60) : smethV 0 (.ref p) .pop [.int k] m = .ok v (m.set p (.list (xs.eraseIdx k))) := by
  show (match m[p]? with | some (.list xs) => listM p xs .pop [.int k] m | _ => .bad) = _
  rw [h]
  show (if 0 ≤ (k : Int) then (match xs[(k : Int).toNat]? with | some v => if (k : Int).natAbs < 2 ^ 60 then Res.ok v (m.set p (.list (xs.eraseIdx (k : Int).toNat))) else .bad | Option.none => .bad) else .bad) = _
  rw [if_pos (by omega), Int.toNat_natCast, hv]; exact if_pos hk
/-- a turn of houses -/
theorem houses_turn (n : Nat) (cell : Int) (c k : Nat) (hc : c ≤ 12) (q1 q2 : Nat) (hq : q1 ≠ q2) (m : MH) (F L : List Int) (hL : 0 < L.length) (hF : F.length + L.length = c) (dL : m[q1]? = some (.list (L.map V.int))) (dF : m[q2]? = some (.list (F.map V.int))) :
    ∃ (x : Int) (L' : List Int), L.Perm (x :: L') ∧ Ok (exs sig (run sig n) [.exp (.smeth (.var 4) .append [.smeth (.var 3) .pop [.bin .Mod (.var 0) (.bi .len [.var 3])]]), .asg (.one (.one 0)) (.bin .Add (.bin .FloorDiv (.var 0) (.cnst (.int 3))) (.cnst (.int 1)))] [some (.int cell), some (.int c), some (.int k), some (.ref q1), some (.ref q2)]) m
      (fun p m' => p = (.next, [some (.int (cell / 3 + 1)), some (.int c), some (.int k), some (.ref q1), some (.ref q2)]) ∧ m' = (m.set q1 (.list (L'.map V.int))).set q2 (.list ((F ++ [x]).map V.int))) := by
  have hi0 := Int.emod_nonneg cell (b := (L.length : Int)) (by omega)
  have hi1 := Int.emod_lt_of_pos cell (b := (L.length : Int)) (by omega)
  obtain ⟨i, ei⟩ : ∃ i : Nat, cell % (L.length : Int) = i := ⟨(cell % (L.length : Int)).toNat, by omega⟩
  have hi : i < L.length := by omega
  have hv : (L.map V.int)[i]? = some (.int L[i]) := by rw [List.getElem?_map, List.getElem?_eq_getElem hi]; rfl
  have dF2 : (m.set q1 (.list ((L.map V.int).eraseIdx i)))[q2]? = some (.list (F.map V.int)) := set_other hq dF
  have lb := lid_big
  have em : binV .Mod (.int cell) (.int (L.map V.int).length) m = .ok (.int i) m := by
    rw [List.length_map, ← ei]; exact mod_eq _ (by omega)
  refine ⟨L[i], L.eraseIdx i, erase_perm L i hi, st_exp (ev_smeth rfl (smK_eq dF) rfl (evs_cons (ev_smeth rfl (smK_eq dL) rfl (evs_cons (ev_bin rfl (ev_bi rfl (len_eq dL)) em) rfl) (pop_eq dL hv (by omega))) rfl) (app_eq dF2 (by rw [List.length_map]; omega))) (st_asg (ev_bin (ev_bin rfl rfl (div_eq _ (by decide) (by decide))) rfl rfl) (st_nil ⟨rfl, ?_⟩))⟩
  rw [erase_map, List.map_append]; rfl
noncomputable def H1 (m : MH) (c k : Nat) (k' : Nat) (r : Lo) (m' : MH) : Prop := ∃ (x0 : Int) (F L : List Int), r = [some (.int x0), some (.int c), some (.int k), some (.ref m.length), some (.ref (m.length + 1))] ∧ Le m m' ∧ m'[m.length]? = some (.list (L.map V.int)) ∧ m'[m.length + 1]? = some (.list (F.map V.int)) ∧ (F ++ L).Perm (upto c) ∧ F.length + k' = k
noncomputable def H2 (m : MH) (c k : Nat) (p : Fl × Lo) (m' : MH) : Prop := p.1 = .next ∧ ∃ (x0 : Int) (F : List Int), p.2 = [some (.int x0), some (.int c), some (.int k), some (.ref m.length), some (.ref (m.length + 1))] ∧ Le m m' ∧ m'[m.length + 1]? = some (.list (F.map V.int)) ∧ F.Nodup ∧ (∀ x ∈ F, 0 ≤ x ∧ x < (c : Int)) ∧ F.length = k
theorem houses_eq (n : Nat) (cell : Int) (c k : Nat) (hc : c ≤ 12) (hk : k ≤ c) (m : MH) : ∃ (hs : List Int) (p : Nat) (m' : MH), run sig (n + 1) 9 [.int cell, .int c, .int k] m = .ok (.ref p) m' ∧ Le m m' ∧ m'[p]? = some (.list (hs.map V.int)) ∧ hs.Nodup ∧ (∀ x ∈ hs, 0 ≤ x ∧ x < (c : Int)) ∧ hs.length = k := by
  obtain ⟨v, m', e, hs, p, rfl, l⟩ : ∃ v m', run sig (n + 1) 9 [.int cell, .int c, .int k] m = .ok v m' ∧ ∃ (hs : List Int) (p : Nat), v = .ref p ∧ Le m m' ∧ m'[p]? = some (.list (hs.map V.int)) ∧ hs.Nodup ∧ (∀ x ∈ hs, 0 ≤ x ∧ x < (c : Int)) ∧ hs.length = k := by
    refine run_ok rfl rfl ?_
    have lb := lid_big
    have er : rangeV [.int c] = some ((upto c).map V.int) := by
      show (if (c : Int).natAbs < 2 ^ 30 then some (rangeL 0 c) else none) = _
      rw [if_pos (by omega)]; unfold rangeL upto; rw [List.map_map, Int.sub_zero, Int.toNat_natCast]
      congr 1; refine List.map_congr_left fun j _ => ?_; show V.int (0 + (j : Int)) = _; rw [Int.zero_add]; rfl
    have el : ev sig (run sig n) (.listrange [.var 1]) [some (.int cell), some (.int c), some (.int k), none, none] m = .ok (.ref m.length) (m ++ [MObj.list ((upto c).map V.int)]) := by
      show (match rangeV [.int c] with | some l => if l.length ≤ lid then alloc (.list l) else bad | Option.none => bad) m = _
      rw [er]; dsimp only; rw [if_pos (by simp [upto]; omega)]; rfl
    refine st_asg el (st_asg (ev_list rfl) ?_)
    have e1 : (m ++ [MObj.list ((upto c).map V.int)]).length = m.length + 1 := by rw [List.length_append]; rfl
    rw [e1]
    have key := while_ok (c := fun r' => evT sig (run sig n) (.val (.cmp (.bi .len [.var 4]) [.Lt] [.var 2])) r') (body := fun r' => exs sig (run sig n) [.exp (.smeth (.var 4) .append [.smeth (.var 3) .pop [.bin .Mod (.var 0) (.bi .len [.var 3])]]), .asg (.one (.one 0)) (.bin .Add (.bin .FloorDiv (.var 0) (.cnst (.int 3))) (.cnst (.int 1)))] r')
      (H1 m c k)
      (Q := H2 m c k) (by
      rintro k' r m1 ⟨x0, F, L, rfl, l1, dL, dF, hp, hk'⟩
      have hlen : F.length + L.length = c := by
        have := hp.length_eq
        rw [List.length_append] at this
        simpa [upto] using this
      refine ok_of (a := decide (((F.map V.int).length : Int) < k)) (m' := m1) (evT_val (ev_cmp1 (ev_bi rfl (len_eq dF)) rfl rfl) rfl) ?_
      by_cases h : F.length < k
      · rw [decide_eq_true (show ((F.map V.int).length : Int) < k by rw [List.length_map]; omega), if_pos rfl]
        refine ⟨k' - 1, by omega, ?_⟩
        obtain ⟨x, L', hp2, ok⟩ := houses_turn n x0 c k hc m.length (m.length + 1) (by omega) m1 F L (by omega) hlen dL dF
        refine Ok.mono ok ?_
        rintro p m2 ⟨rfl, rfl⟩
        refine ⟨_, F ++ [x], L', rfl, (l1.set (Nat.le_refl _) _).set (Nat.le_succ _) _, set_other (by omega) (set_has dL), set_has (set_other (by omega) dF), ?_, by rw [List.length_append, List.length_singleton]; omega⟩
        refine List.Perm.trans ?_ hp
        rw [List.append_assoc]
        exact (List.Perm.append_left F hp2).symm
      · rw [decide_eq_false (show ¬ ((F.map V.int).length : Int) < k by rw [List.length_map]; omega), if_neg Bool.false_ne_true]
        have hnd : (F ++ L).Nodup := hp.nodup_iff.2 ((upto_lt c).imp (fun h => by omega))
        exact ⟨rfl, x0, F, rfl, l1, dF, (List.nodup_append.1 hnd).1, fun x hx => (upto_mem c x).1 (hp.mem_iff.1 (List.mem_append_left _ hx)), by omega⟩)
      fuelW k (show k < 1000000 by omega) [some (.int cell), some (.int c), some (.int k), some (.ref m.length), some (.ref (m.length + 1))] (m ++ [MObj.list ((upto c).map V.int)] ++ [MObj.list []])
      ⟨cell, [], upto c, rfl, (Le.app _ _).trans (Le.app _ _), (Le.app _ _).has new_has, by rw [← e1]; exact new_has, List.Perm.refl _, Nat.zero_add k⟩
    obtain ⟨⟨f, r⟩, m', e, e0, x0, F, er2, l1, d1, h1, h2, h3⟩ := key
    have e0 : f = .next := e0
    have er2 : r = _ := er2
    subst e0; subst er2
    exact ok_step e (st_ret rfl ⟨_, rfl, F, _, rfl, l1, d1, h1, h2, h3⟩)
  exact ⟨hs, p, m', e, l⟩

noncomputable def wd (w : Wd) : PyData := .tuple [.str w.kind, .int w.num, .str w.row, .int w.house]
noncomputable def td (t : Tr) : PyData := .tuple [.int t.1, wd t.2.1, wd t.2.2]
theorem rd_wd (f : Nat) (m : MH) (w : Wd) : rd (f + 2) m w.v = some (wd w) := rfl
theorem rd_td (f : Nat) (m : MH) (t : Tr) : rd (f + 3) m (tri t) = some (td t) := rfl
theorem all_wd (f : Nat) (m : MH) : ∀ l : List Wd, allO (rd (f + 2) m) (l.map Wd.v) = some (l.map wd)
  | [] => rfl
  | w :: l => by rw [List.map_cons, allO, rd_wd, all_wd f m l]; rfl
theorem all_td (f : Nat) (m : MH) : ∀ l : List Tr, allO (rd (f + 3) m) (l.map tri) = some (l.map td)
  | [] => rfl
  | w :: l => by rw [List.map_cons, allO, rd_td, all_td f m l]; rfl
theorem rd_wds {f : Nat} {m : MH} {p : Nat} {l : List Wd} (h : m[p]? = some (.list (l.map Wd.v))) : rd (f + 3) m (.ref p) = some (.list (l.map wd)) := by
  rw [rd, h]; dsimp only; rw [all_wd f m l]; rfl
theorem rd_tds {f : Nat} {m : MH} {p : Nat} {l : List Tr} (h : m[p]? = some (.list (l.map tri))) : rd (f + 4) m (.ref p) = some (.list (l.map td)) := by
  rw [rd, h]; dsimp only; rw [all_td f m l]; rfl
theorem eq_wd (w : Wd) : PyData.eqv (wd w) (wd w) = true := by simp [wd, PyData.eqv, PyData.eqvAll]
theorem eq_td (t : Tr) : PyData.eqv (td t) (td t) = true := by simp [td, PyData.eqv, PyData.eqvAll, eq_wd]
theorem eq_wds : ∀ l : List Wd, PyData.eqvAll (l.map wd) (l.map wd) = true
  | [] => rfl
  | w :: l => by rw [List.map_cons, PyData.eqvAll, eq_wd, eq_wds l]; rfl
theorem eq_tds : ∀ l : List Tr, PyData.eqvAll (l.map td) (l.map td) = true
  | [] => rfl
  | w :: l => by rw [List.map_cons, PyData.eqvAll, eq_td, eq_tds l]; rfl


theorem len3 (t : Tr) (m : MH) : biV .len [tri t] m = .ok (.int 3) m := by
  show (if 3 ≤ lid then Res.ok (V.int 3) m else .bad) = _
  exact if_pos (by decide)
theorem alike_eq (n : Nat) (D : List Tr) (p1 p2 : Nat) (m : MH) (k1 : m[p1]? = some (.list (D.map tri))) (k2 : m[p2]? = some (.list (D.map tri))) : run sig (n + 2) 10 [.ref p1, .ref p2] m = .ok (.bool true) m := by
  have ee : PyData.eqv (.list (D.map td)) (.list (D.map td)) = true := by rw [PyData.eqv]; exact eq_tds D
  have il : isiV sig (.ref p1) .list m = .ok true m := by
    show (match m[p1]? with | some (.list _) => Res.ok (Ty.list == Ty.list) m | some (.dict _ _) => .ok (Ty.list == Ty.dict) m | _ => .bad) = _
    rw [k1]; rfl
  have en : cmpV .NotEq (.ref p1) (.ref p2) m = .ok false m := by
    show Res.bind (match rd deep m (.ref p1), rd deep m (.ref p2) with | some x, some y => Res.ok (PyData.eqv x y) m | _, _ => .bad) _ = _
    rw [show rd deep m (.ref p1) = _ from rd_tds (f := 8) k1, show rd deep m (.ref p2) = _ from rd_tds (f := 8) k2]; dsimp only; rw [ee]; rfl
  refine run_eq rfl rfl (st_ite (evT_all (evTs_go (evT_not (b := true) (evT_val (ev_isi rfl il) rfl)) (evTs_go (evT_val (ev_cmp1 rfl rfl en) rfl) evTs_end))) ?_)
  refine st_for (β := Unit) (vv := tri) (b₀ := ()) (fun _ r m' => (∃ x2, r = [some (.ref p1), some (.ref p2), x2]) ∧ m' = m) (fun _ (_ : Tr) => ()) (evs_cons rfl rfl) (srcl_eq k1) ⟨⟨none, rfl⟩, rfl⟩ (fun _ _ _ h => by rw [h.2]; exact stays_list k1) ?_ ?_
  · rintro t _ _ r m' ⟨⟨x2, rfl⟩, rfl⟩
    refine st_ite (t := false) (m₁ := m') (evT_all (evTs_go (evT_not (b := true) (evT_val (ev_isi rfl rfl) rfl)) (evTs_go (evT_val (ev_cmp1 (ev_bi rfl (len3 t m')) rfl rfl) rfl) (evTs_go (evT_not (b := true) (evT_val (ev_call (evs_cons (ev_idx rfl rfl rfl) rfl) (whole_eq n t.1 m')) rfl)) evTs_end)))) ?_
    exact st_ite (t := false) (m₁ := m') (evT_all (evTs_go (evT_not (b := true) (evT_val (ev_isi (ev_idx rfl rfl rfl) rfl) rfl)) (evTs_go (evT_not (b := true) (evT_val (ev_isi (ev_idx rfl rfl rfl) rfl) rfl)) evTs_end))) (st_nil ⟨rfl, ⟨_, rfl⟩, rfl⟩)
  · rintro r m1 ⟨⟨x2, rfl⟩, rfl⟩
    exact st_ret rfl ⟨rfl, rfl⟩
end P05
end Mini

namespace Mini
namespace P05
open PySem C05

theorem cut_map (xs : List Int) (lo hi : Option Int) : cut (xs.map V.int) lo hi = (cut xs lo hi).map V.int := by
  simp only [cut, List.length_map, List.map_drop, List.map_take]
theorem sl_map {xs : List Int} {lo hi : V} {a b : Option Int} (ha : bound lo = some a) (hb : bound hi = some b) : sliceL (xs.map V.int) lo hi .none = some ((cut xs a b).map V.int) := by
  unfold sliceL; rw [ha, hb, ← cut_map]
theorem cut_len {α : Type} (xs : List α) (lo hi : Option Int) : (cut xs lo hi).length ≤ xs.length := by
  unfold cut; rw [List.length_drop, List.length_take]; exact Nat.le_trans (Nat.sub_le _ _) (Nat.min_le_right _ _)

theorem slS {ns : List Int} {lo hi : V} {l : List V} {m : MH} (h : sliceL (ns.map V.int) lo hi .none = some l) : sliceV (.scr ns) lo hi .none m = .ok (.ref m.length) (m ++ [.list l]) := by
  unfold sliceV; dsimp only; rw [h]; rfl
theorem slr {m1 : MH} {p : Nat} {cs : List Int} {lo hi : V} {l : List V} (h1 : m1[p]? = some (.list (cs.map V.int))) (h2 : sliceL (cs.map V.int) lo hi .none = some l) : sliceV (.ref p) lo hi .none m1 = .ok (.ref m1.length) (m1 ++ [.list l]) := by
  unfold sliceV; dsimp only; rw [h1]; dsimp only; rw [h2]; rfl
/-- the first half -/
theorem law_a (n : Nat) (ns : List Int) (hn : ns.length ≤ 63) (c : Nat) (b : Int) (hc : (c : Int) = 1 + at0 ns 0 % 12) (hb : b = at0 ns 0 / 12 % 100003) (m : MH) :
    Ok (exs sig (run sig (n + 2)) (f_law.take 6) ([.scr ns].map some ++ List.replicate 12 none)) m (fun p m' => p.1 = .next ∧ ∃ (A B : List Wd) (x3 : Option V) (pA pB : Nat),
      p.2 = [some (.scr ns), some (.int c), some (.int b), x3, some (.ref pA), some (.ref pB), none, none, none, none, none, none, none] ∧ m'[pA]? = some (.list (A.map Wd.v)) ∧ m'[pB]? = some (.list (B.map Wd.v)) ∧
      (∀ a ∈ A, 0 ≤ a.house ∧ a.house < (c : Int)) ∧ A.length ≤ 63 ∧ B.length ≤ 126) := by
  have hb0 : 0 ≤ b := by omega
  have hc0 : (0 : Int) < c := by omega
  have a0 := fun k m => at_eq (n + 1) ns k m
  refine st_asg (v := .int c) (m₁ := m) (by rw [hc]; exact ev_bin rfl (ev_bin (ev_call rfl (a0 0 m)) rfl (mod_eq _ (by decide))) rfl) ?_
  refine st_asg (v := .int b) (m₁ := m) (by rw [hb]; exact ev_bin (ev_bin (ev_call rfl (a0 0 m)) rfl (div_eq _ (by decide) (by decide))) rfl (mod_eq _ (by decide))) ?_
  obtain ⟨cs, hcs, hcl⟩ : ∃ cs : List Int, sliceL (ns.map V.int) (.int 4) (.int 28) .none = some (cs.map V.int) ∧ cs.length ≤ 63 := ⟨_, sl_map rfl rfl, Nat.le_trans (cut_len _ _ _) hn⟩
  refine st_asg (v := .ref m.length) (m₁ := m ++ [MObj.list (cs.map V.int)]) (ev_slice rfl rfl rfl rfl (slS hcs)) ?_
  have k0 : (m ++ [MObj.list (cs.map V.int)])[m.length]? = some (.list (cs.map V.int)) := new_has
  generalize m ++ [MObj.list (cs.map V.int)] = m1 at k0
  obtain ⟨xs, hxs, hxl⟩ : ∃ xs : List Int, sliceL (cs.map V.int) .none (.int (at0 ns 1 % 13)) .none = some (xs.map V.int) ∧ xs.length ≤ 63 := ⟨_, sl_map rfl (by unfold bound; dsimp only; rw [if_pos (by omega)]), Nat.le_trans (cut_len _ _ _) hcl⟩
  have kx : (m1 ++ [MObj.list (xs.map V.int)])[m1.length]? = some (.list (xs.map V.int)) := new_has
  obtain ⟨m3, e3, l3⟩ := comp_map (S := sig) (F := run sig (n + 2)) (g := .list m1.length (xs.map V.int)) (i := 13) (vv := V.int) (ww := fun x => (word x c b).v) (r := [some (.scr ns), some (.int c), some (.int b), some (.ref m.length), none, none, none, none, none, none, none, none, none, none]) (elt := .call 6 [.var 13, .var 1, .var 2])
    (fun m' => Le (m1 ++ [MObj.list (xs.map V.int)]) m') (fun m' l => stays_list (l.has kx)) xs (fun x _ m' l => by
    obtain ⟨m'', e, l'⟩ := word_eq n x c b hc0 hb0 m'; exact ⟨m'', ev_call rfl e, l.trans l'⟩) _ (Le.refl _)
  rw [show xs.map (fun x => (word x c b).v) = (xs.map fun x => word x c b).map Wd.v by rw [List.map_map]; rfl] at e3
  have lb := lid_big
  refine st_asg (v := .ref m3.length) (m₁ := m3 ++ [MObj.list ((xs.map fun x => word x c b).map Wd.v)]) (ev_comp (evs_cons (ev_slice rfl rfl (ev_bin (ev_call rfl (a0 1 m1)) rfl (mod_eq _ (by decide))) rfl (slr k0 hxs)) rfl) (srcl_eq kx) e3 (by simp; omega)) ?_
  have hA : ∀ a ∈ xs.map fun x => word x c b, 0 ≤ a.house ∧ a.house < (c : Int) := by
    intro a ha; obtain ⟨x, _, rfl⟩ := List.mem_map.1 ha; exact word_house x c b hc0
  have hAl : (xs.map fun x => word x c b).length ≤ 63 := by simpa using hxl
  generalize (xs.map fun x => word x c b) = A at hA hAl
  have k4 := ((Le.app m1 [MObj.list (xs.map V.int)]).trans (l3.trans (Le.app m3 [MObj.list (A.map Wd.v)]))).has k0
  have kA : (m3 ++ [MObj.list (A.map Wd.v)])[m3.length]? = some (.list (A.map Wd.v)) := new_has
  generalize m3 ++ [MObj.list (A.map Wd.v)] = m4 at k4 kA
  generalize m3.length = pA at kA
  generalize m.length = p0 at k4
  obtain ⟨ys, hys, hyl⟩ : ∃ ys : List Int, sliceL (cs.map V.int) (.int 12) .none .none = some (ys.map V.int) ∧ ys.length ≤ 63 := ⟨_, sl_map rfl rfl, Nat.le_trans (cut_len _ _ _) hcl⟩
  have ky : (m4 ++ [MObj.list (ys.map V.int)])[m4.length]? = some (.list (ys.map V.int)) := new_has
  obtain ⟨m5, e5, l5⟩ := comp_map (S := sig) (F := run sig (n + 2)) (g := .list m4.length (ys.map V.int)) (i := 13) (vv := V.int) (ww := fun x => (word (x / 5) c b).v) (r := [some (.scr ns), some (.int c), some (.int b), some (.ref p0), some (.ref pA), none, none, none, none, none, none, none, none, none]) (elt := .call 6 [.bin .FloorDiv (.var 13) (.cnst (.int 5)), .var 1, .var 2])
    (fun m' => Le (m4 ++ [MObj.list (ys.map V.int)]) m') (fun m' l => stays_list (l.has ky)) ys (fun x _ m' l => by
    obtain ⟨m'', e, l'⟩ := word_eq n (x / 5) c b hc0 hb0 m'; exact ⟨m'', ev_call (evs_cons (ev_bin rfl rfl (div_eq _ (by decide) (by decide))) rfl) e, l.trans l'⟩) _ (Le.refl _)
  rw [show ys.map (fun x => (word (x / 5) c b).v) = (ys.map fun x => word (x / 5) c b).map Wd.v by rw [List.map_map]; rfl] at e5
  refine st_asg (v := .ref m5.length) (m₁ := m5 ++ [MObj.list ((ys.map fun x => word (x / 5) c b).map Wd.v)]) (ev_comp (evs_cons (ev_slice rfl rfl rfl rfl (slr k4 hys)) rfl) (srcl_eq ky) e5 (by simp; omega)) ?_
  have hBl : (ys.map fun x => word (x / 5) c b).length ≤ 63 := by simpa using hyl
  generalize (ys.map fun x => word (x / 5) c b) = B at hBl
  have kA6 := ((Le.app m4 [MObj.list (ys.map V.int)]).trans (l5.trans (Le.app m5 [MObj.list (B.map Wd.v)]))).has kA
  have kB : (m5 ++ [MObj.list (B.map Wd.v)])[m5.length]? = some (.list (B.map Wd.v)) := new_has
  generalize m5 ++ [MObj.list (B.map Wd.v)] = m6 at kA6 kB
  generalize m5.length = pB at kB
  refine st_ite (t := at0 ns 1 / 13 % 2 == 1) (m₁ := m6) (evT_val (ev_cmp1 (ev_bin (ev_bin (ev_call rfl (a0 1 m6)) rfl (div_eq _ (by decide) (by decide))) rfl (mod_eq _ (by decide))) rfl rfl) rfl) ?_
  cases at0 ns 1 / 13 % 2 == 1 with
  | false => exact st_nil ⟨rfl, A, B, _, pA, pB, rfl, kA6, kB, hA, hAl, by omega⟩
  | true =>
    have l7 : Le m6 (m6 ++ [MObj.list (A.reverse.map Wd.v)]) := Le.app _ _
    have kR : (m6 ++ [MObj.list (A.reverse.map Wd.v)])[m6.length]? = some (.list (A.reverse.map Wd.v)) := new_has
    have e7 : sliceV (.ref pA) .none .none (.int (-1)) m6 = .ok (.ref m6.length) (m6 ++ [MObj.list (A.reverse.map Wd.v)]) := by
      unfold sliceV; dsimp only; rw [kA6]
      show alloc (.list ((A.map Wd.v).reverse)) m6 = _
      rw [List.map_reverse]; rfl
    have e8 : binV .Add (.ref pB) (.ref m6.length) (m6 ++ [MObj.list (A.reverse.map Wd.v)]) = .ok (.ref (m6.length + 1)) (m6 ++ [MObj.list (A.reverse.map Wd.v)] ++ [MObj.list ((B ++ A.reverse).map Wd.v)]) := by
      unfold binV; dsimp only; rw [l7.has kB, kR]; dsimp only; rw [if_pos (by simp; omega), List.map_append]
      show Res.ok (V.ref (m6 ++ [MObj.list (A.reverse.map Wd.v)]).length) _ = _
      rw [List.length_append]; rfl
    refine st_asg (ev_bin rfl (ev_slice rfl rfl rfl rfl e7) e8) (st_nil ⟨rfl, A, B ++ A.reverse, _, pA, _, rfl, (l7.trans (Le.app _ _)).has kA6, ?_, hA, hAl, by simp; omega⟩)
    have : m6.length + 1 = (m6 ++ [MObj.list (A.reverse.map Wd.v)]).length := by simp
    rw [this]; exact new_has
end P05
end Mini

namespace Mini
namespace P05
open PySem C05

theorem two_filters (p q : Int → Bool) : ∀ l : List Int, (l.filter p).length + (l.filter q).length ≤ l.length + (l.filter fun x => p x && q x).length
  | [] => by simp
  | x :: l => by
    have := two_filters p q l
    cases hp : p x <;> cases hq : q x <;> simp [List.filter_cons, hp, hq] <;> omega
noncomputable def mk (s : Str) (h : Int) : Wd := ⟨Str.ofString "mark", 5, s, h⟩
theorem meet_len (s t : Str) (hne : s ≠ t) (F G : List Int) (c : Nat) (nF : F.Nodup) (nG : G.Nodup) (hF : ∀ x ∈ F, 0 ≤ x ∧ x < (c : Int)) (hG : ∀ x ∈ G, 0 ≤ x ∧ x < (c : Int)) :
    F.length + G.length ≤ c + (dueL (F.map (mk s)) (G.map (mk t)) c).length := by
  have e1 := congrArg List.length (sort_eq nF hF)
  have e2 := congrArg List.length (sort_eq nG hG)
  rw [sortI_len] at e1 e2
  have h3 := two_filters (fun x => decide (x ∈ F)) (fun x => decide (x ∈ G)) (upto c)
  have h4 : (upto c).length = c := by simp [upto]
  have h5 : ∀ l : List Int, (l.filter fun x => decide (x ∈ F) && decide (x ∈ G)).length ≤ (l.filterMap fun h => ((pairs (F.map (mk s)) (G.map (mk t))).find? (hit h)).map fun p => (h, p)).length := by
    intro l
    induction l with
    | nil => simp
    | cons x l ih =>
      cases hx : decide (x ∈ F) && decide (x ∈ G) with
      | false =>
        rw [List.filter_cons, hx, List.filterMap_cons]
        cases (pairs (F.map (mk s)) (G.map (mk t))).find? (hit x) with
        | none => exact ih
        | some p => exact Nat.le_trans ih (Nat.le_succ _)
      | true =>
        rw [List.filter_cons, hx, List.filterMap_cons]
        simp only [Bool.and_eq_true, decide_eq_true_eq] at hx
        cases e : (pairs (F.map (mk s)) (G.map (mk t))).find? (hit x) with
        | none =>
          rw [List.find?_eq_none] at e
          refine absurd ?_ (e (mk s x, mk t x) ?_)
          · have : (s == t) = false := by simp [hne]
            simp [hit, unl, mk, this]
          · unfold pairs
            rw [List.mem_flatMap]
            exact ⟨mk s x, List.mem_map.2 ⟨x, hx.1, rfl⟩, List.mem_map.2 ⟨mk t x, List.mem_map.2 ⟨x, hx.2, rfl⟩, rfl⟩⟩
        | some p => exact Nat.succ_le_succ ih
  have h6 := h5 (upto c)
  have h7 : (dueL (F.map (mk s)) (G.map (mk t)) c).length = ((upto c).filterMap fun h => ((pairs (F.map (mk s)) (G.map (mk t))).find? (hit h)).map fun p => (h, p)).length := rfl
  omega

theorem rd_two {m' : MH} {A B : List Wd} {x y z : Nat} (e1 : m'[x]? = some (.list [V.ref y, V.ref z])) (e2 : m'[y]? = some (.list (A.map Wd.v))) (e3 : m'[z]? = some (.list (B.map Wd.v))) : rd deep m' (.ref x) = some (.list [.list (A.map wd), .list (B.map wd)]) := by
  show rd (7 + 5) m' (.ref x) = _
  rw [rd, e1]; dsimp only
  rw [allO, rd_wds (f := 8) e2, allO, rd_wds (f := 8) e3]; rfl
theorem ne_two {m' : MH} {A B : List Wd} {x y z x' y' z' : Nat} (e1 : m'[x]? = some (.list [V.ref y, V.ref z])) (e2 : m'[y]? = some (.list (A.map Wd.v))) (e3 : m'[z]? = some (.list (B.map Wd.v)))
    (f1 : m'[x']? = some (.list [V.ref y', V.ref z'])) (f2 : m'[y']? = some (.list (A.map Wd.v))) (f3 : m'[z']? = some (.list (B.map Wd.v))) : cmpV .NotEq (.ref x) (.ref x') m' = .ok false m' := by
  have ee : PyData.eqv (.list [.list (A.map wd), .list (B.map wd)]) (.list [.list (A.map wd), .list (B.map wd)]) = true := by
    simp [PyData.eqv, PyData.eqvAll, eq_wds]
  show Res.bind (eqV _ _ m') _ = _
  unfold eqV; rw [rd_two e1 e2 e3, rd_two f1 f2 f3]; dsimp only; rw [ee]; rfl
theorem mark_ev (n : Nat) (b : Int) (hb : 0 ≤ b) (k : Nat) (hk : k < 4) (r : Lo) (e : CE) (he : ∀ m, ev sig (run sig (n + 2)) e r m = .ok (.int b) m) (x : Int) (hx : ∀ m, ev sig (run sig (n + 2)) (.var 13) r m = .ok (.int x) m) (m : MH) :
    ∃ m', ev sig (run sig (n + 2)) (.tup [.cnst (.str (Str.ofString "mark")), .cnst (.int 5), .call 4 [e, .cnst (.int k)], .var 13]) r m = .ok (mk (row b k) x).v m' ∧ Le m m' := by
  obtain ⟨m', h, l⟩ := row_eq (n + 1) b k hb (by omega) (by omega) m
  exact ⟨m', ev_tup (evs_cons rfl (evs_cons rfl (evs_cons (ev_call (evs_cons (he m) rfl) h) (evs_cons (hx m') rfl)))), l⟩

/-- the second part: both lists are judged -/
theorem law_b1 (n : Nat) (ns : List Int) (c : Nat) (b : Int) (hc2 : c ≤ 12) (m : MH) (A B : List Wd) (x3 : Option V) (pA pB : Nat) (kA : m[pA]? = some (.list (A.map Wd.v))) (kB : m[pB]? = some (.list (B.map Wd.v)))
    (hA : ∀ a ∈ A, 0 ≤ a.house ∧ a.house < (c : Int)) {ss : List CS} {Q : Fl × Lo → MH → Prop}
    (q : ∀ m' x6, Ok (exs sig (run sig (n + 2)) ss [some (.scr ns), some (.int c), some (.int b), x3, some (.ref pA), some (.ref pB), x6, none, none, none, none, none, none]) m' Q) :
    Ok (exs sig (run sig (n + 2)) ((f_law.drop 6).take 2 ++ ss) [some (.scr ns), some (.int c), some (.int b), x3, some (.ref pA), some (.ref pB), none, none, none, none, none, none, none]) m Q := by
  have l1 : Le m (m ++ [MObj.list (A.map Wd.v)]) := Le.app _ _
  have h1 : (m ++ [MObj.list (A.map Wd.v)])[m.length]? = some (.list (A.map Wd.v)) := new_has
  have e1 := list_eq kA
  generalize m ++ [MObj.list (A.map Wd.v)] = m1 at l1 h1 e1
  have l2 : Le m1 (m1 ++ [MObj.list (B.map Wd.v)]) := Le.app _ _
  have h2 : (m1 ++ [MObj.list (B.map Wd.v)])[m1.length]? = some (.list (B.map Wd.v)) := new_has
  have e2 := list_eq (l1.has kB)
  generalize m1 ++ [MObj.list (B.map Wd.v)] = m2 at l2 h2 e2
  have g1 := l2.has h1
  generalize m.length = q1 at h1 g1 e1
  generalize m1.length = q2 at h2 e2
  refine st_asg (ev_list (evs_cons (ev_bi rfl e1) (evs_cons (ev_bi rfl e2) rfl))) ?_
  have l3 : Le m2 (m2 ++ [MObj.list [.ref q1, .ref q2]]) := Le.app _ _
  have h3 : (m2 ++ [MObj.list [V.ref q1, V.ref q2]])[m2.length]? = some (.list [V.ref q1, V.ref q2]) := new_has
  generalize m2 ++ [MObj.list [V.ref q1, V.ref q2]] = m3 at l3 h3
  generalize m2.length = q3 at h3
  have lm : Le m m3 := (l1.trans l2).trans l3
  obtain ⟨p4, m4, e4, l4, d4⟩ := blamed_eq n A B c q1 q2 hc2 hA m3 (l3.has g1) (l3.has h2)
  obtain ⟨p5, m5, e5, l5, d5⟩ := due_eq n A B c pA pB hc2 m4 (l4.has (lm.has kA)) (l4.has (lm.has kB))
  have l35 := l4.trans l5
  have lm5 := lm.trans l35
  have l6 : Le m5 (m5 ++ [MObj.list [.ref pA, .ref pB]]) := Le.app _ _
  have h6 : (m5 ++ [MObj.list [V.ref pA, V.ref pB]])[m5.length]? = some (.list [V.ref pA, V.ref pB]) := new_has
  have e6 := alike_eq n _ p4 p5 m5 (l5.has d4) d5
  have e7 := ne_two (l6.has (l35.has h3)) ((l35.trans l6).has (l3.has g1)) ((l35.trans l6).has (l3.has h2)) h6 ((lm5.trans l6).has kA) ((lm5.trans l6).has kB)
  refine st_ite (t := false) (m₁ := m5 ++ [MObj.list [.ref pA, .ref pB]]) (evT_all (evTs_go (evT_not (b := true) (evT_val (ev_call (evs_cons (ev_call (evs_cons (ev_idx rfl rfl (idx_eq h3 rfl (by decide))) (evs_cons (ev_idx rfl rfl (idx_eq h3 rfl (by decide))) rfl)) e4) (evs_cons (ev_call rfl e5) rfl)) e6) rfl))
    (evTs_go (evT_val (ev_cmp1 rfl (ev_list rfl) e7) rfl) rfl))) (q _ _)

/-- the third part: two backings -/
theorem law_b2 (n : Nat) (ns : List Int) (c : Nat) (b : Int) (hb : 0 ≤ b) (hc : 1 ≤ c) (hc2 : c ≤ 12) (m : MH) (x3 x4 x5 x6 : Option V) :
    Ok (exs sig (run sig (n + 2)) (f_law.drop 8) [some (.scr ns), some (.int c), some (.int b), x3, x4, x5, x6, none, none, none, none, none, none]) m (fun p m' => p.1 = .ret (.bool true)) := by
  have a0 := fun k m => at_eq (n + 1) ns k m
  have lb := lid_big
  obtain ⟨w, w1, w2, hw⟩ := enough_eq (n + 1) c hc hc2 m
  refine st_asg (ev_call rfl hw) ?_
  obtain ⟨F, p7, m7, e7, l7, k7, nF, iF, lF⟩ := houses_eq (n + 1) (at0 ns 2) c w hc2 w2 m
  refine st_asg (ev_call (evs_cons (ev_call rfl (a0 2 m)) rfl) e7) ?_
  obtain ⟨k, hk1, hk2, hk3⟩ : ∃ k : Nat, ((w : Int) + (if decide ((w : Int) < c) = true then 1 else 0) * (at0 ns 3 % 2) = k) ∧ w ≤ k ∧ k ≤ c := by
    by_cases h : (w : Int) < c
    · rw [if_pos (by simp [h])]
      exact ⟨(w + at0 ns 3 % 2).toNat, by omega, by omega, by omega⟩
    · rw [if_neg (by simp [h])]
      exact ⟨w, by omega, by omega, by omega⟩
  have hi : (if decide ((w : Int) < c) = true then (1 : Int) else 0).natAbs < 1073741824 := by split <;> decide
  obtain ⟨G, p8, m8, e8, l8, k8, nG, iG, lG⟩ := houses_eq (n + 1) (at0 ns 3) c k hc2 hk3 m7
  have em : binV .Mult (.int (if decide ((w : Int) < c) = true then 1 else 0)) (.int (at0 ns 3 % 2)) m7 = .ok (.int ((if decide ((w : Int) < c) = true then 1 else 0) * (at0 ns 3 % 2))) m7 := by
    unfold binV; dsimp only; rw [if_pos (Or.inl hi)]
  have ea : binV .Add (.int w) (.int ((if decide ((w : Int) < c) = true then 1 else 0) * (at0 ns 3 % 2))) m7 = .ok (.int k) m7 := by
    rw [← hk1]; rfl
  refine st_asg (ev_call (evs_cons (ev_call rfl (a0 3 m7)) (evs_cons rfl (evs_cons (ev_bin rfl (ev_bin rfl (ev_bin (ev_call rfl (a0 3 m7)) rfl (mod_eq _ (by decide))) em) ea) rfl))) e8) ?_
  have k7' := l8.has k7
  obtain ⟨m9, e9, l9⟩ := comp_map (S := sig) (F := run sig (n + 2)) (g := .list p7 (F.map V.int)) (i := 13) (vv := V.int) (ww := fun x => (mk (row b (0 : Nat)) x).v) (r := [some (.scr ns), some (.int c), some (.int b), x3, x4, x5, x6, some (.int w), some (.ref p7), some (.ref p8), none, none, none, none]) (elt := .tup [.cnst (.str (Str.ofString "mark")), .cnst (.int 5), .call 4 [.var 2, .cnst (.int 0)], .var 13])
    (fun m' => Le m8 m') (fun m' l => stays_list (l.has k7')) F (fun x _ m' l => by
    obtain ⟨m'', e, l'⟩ := mark_ev n b hb 0 (by decide) (List.set [some (.scr ns), some (.int c), some (.int b), x3, x4, x5, x6, some (.int w), some (.ref p7), some (.ref p8), none, none, none, none] 13 (some (.int x))) (.var 2) (fun _ => rfl) x (fun _ => rfl) m'; exact ⟨m'', e, l.trans l'⟩) m8 (Le.refl _)
  rw [show F.map (fun x => (mk (row b (0 : Nat)) x).v) = (F.map (mk (row b (0 : Nat)))).map Wd.v by rw [List.map_map]; rfl] at e9
  refine st_asg (ev_comp (evs_cons rfl rfl) (srcl_eq k7') e9 (by simp; omega)) ?_
  have k8' := (l9.trans (Le.app m9 [MObj.list ((F.map (mk (row b (0 : Nat)))).map Wd.v)])).has k8
  have k9 : (m9 ++ [MObj.list ((F.map (mk (row b (0 : Nat)))).map Wd.v)])[m9.length]? = some (.list ((F.map (mk (row b (0 : Nat)))).map Wd.v)) := new_has
  generalize (m9 ++ [MObj.list ((F.map (mk (row b (0 : Nat)))).map Wd.v)]) = m10 at k8' k9
  generalize m9.length = pF at k9
  obtain ⟨m11, e11, l11⟩ := comp_map (S := sig) (F := run sig (n + 2)) (g := .list p8 (G.map V.int)) (i := 13) (vv := V.int) (ww := fun x => (mk (row b (1 : Nat)) x).v) (r := [some (.scr ns), some (.int c), some (.int b), x3, x4, x5, x6, some (.int w), some (.ref p7), some (.ref p8), some (.ref pF), none, none, none]) (elt := .tup [.cnst (.str (Str.ofString "mark")), .cnst (.int 5), .call 4 [.var 2, .cnst (.int 1)], .var 13])
    (fun m' => Le m10 m') (fun m' l => stays_list (l.has k8')) G (fun x _ m' l => by
    obtain ⟨m'', e, l'⟩ := mark_ev n b hb 1 (by decide) (List.set [some (.scr ns), some (.int c), some (.int b), x3, x4, x5, x6, some (.int w), some (.ref p7), some (.ref p8), some (.ref pF), none, none, none] 13 (some (.int x))) (.var 2) (fun _ => rfl) x (fun _ => rfl) m'; exact ⟨m'', e, l.trans l'⟩) m10 (Le.refl _)
  rw [show G.map (fun x => (mk (row b (1 : Nat)) x).v) = (G.map (mk (row b (1 : Nat)))).map Wd.v by rw [List.map_map]; rfl] at e11
  refine st_asg (ev_comp (evs_cons rfl rfl) (srcl_eq k8') e11 (by simp; omega)) ?_
  have k9' := (l11.trans (Le.app m11 [MObj.list ((G.map (mk (row b (1 : Nat)))).map Wd.v)])).has k9
  have k11 : (m11 ++ [MObj.list ((G.map (mk (row b (1 : Nat)))).map Wd.v)])[m11.length]? = some (.list ((G.map (mk (row b (1 : Nat)))).map Wd.v)) := new_has
  generalize (m11 ++ [MObj.list ((G.map (mk (row b (1 : Nat)))).map Wd.v)]) = m12 at k9' k11
  generalize m11.length = pG at k11
  have hml := meet_len (row b (0 : Nat)) (row b (1 : Nat)) (row_ne b hb) F G c nF nG iF iG
  have hFh : ∀ a ∈ F.map (mk (row b (0 : Nat))), 0 ≤ a.house ∧ a.house < (c : Int) := by
    intro a ha; obtain ⟨x, hx, rfl⟩ := List.mem_map.1 ha; exact iF x hx
  generalize F.map (mk (row b (0 : Nat))) = A2 at k9' hml hFh
  generalize G.map (mk (row b (1 : Nat))) = B2 at k11 hml
  have l13 : Le m12 (m12 ++ [MObj.list (A2.map Wd.v)]) := Le.app _ _
  have k13 : (m12 ++ [MObj.list (A2.map Wd.v)])[m12.length]? = some (.list (A2.map Wd.v)) := new_has
  have e13 := list_eq k9'
  generalize m12 ++ [MObj.list (A2.map Wd.v)] = m13 at l13 k13 e13
  generalize m12.length = p13 at k13 e13
  have l14 : Le m13 (m13 ++ [MObj.list (B2.map Wd.v)]) := Le.app _ _
  have k14 : (m13 ++ [MObj.list (B2.map Wd.v)])[m13.length]? = some (.list (B2.map Wd.v)) := new_has
  have e14 := list_eq (l13.has k11)
  generalize m13 ++ [MObj.list (B2.map Wd.v)] = m14 at l14 k14 e14
  generalize m13.length = p14 at k14 e14
  obtain ⟨p15, m15, e15, l15, k15⟩ := blamed_eq n A2 B2 c p13 p14 hc2 hFh m14 (l14.has k13) k14
  refine st_asg (ev_call (evs_cons (ev_bi rfl e13) (evs_cons (ev_bi rfl e14) rfl)) e15) ?_
  have l1215 := (l13.trans l14).trans l15
  obtain ⟨p16, m16, e16, l16, k16⟩ := due_eq n A2 B2 c pF pG hc2 m15 (l1215.has k9') (l1215.has k11)
  have e17 := alike_eq n _ p15 p16 m16 (l16.has k15) k16
  have e18 := len_eq (l16.has k15)
  have hfin : decide ((((dueL A2 B2 c).map tri).length : Int) ≥ 2 * (w : Int) - c) = true := by rw [decide_eq_true_eq, List.length_map]; omega
  refine st_ret (v := .bool true) (m₁ := m16) ?_ rfl
  exact ev_and2 (ev_call (evs_cons rfl (evs_cons (ev_call rfl e16) rfl)) e17) (ev_cmp1 (ev_bi rfl e18) rfl (by show Res.ok (decide _) m16 = _; rw [hfin]))

theorem law_b (n : Nat) (ns : List Int) (c : Nat) (b : Int) (hb : 0 ≤ b) (hc : 1 ≤ c) (hc2 : c ≤ 12) (m : MH) (A B : List Wd) (x3 : Option V) (pA pB : Nat) (kA : m[pA]? = some (.list (A.map Wd.v))) (kB : m[pB]? = some (.list (B.map Wd.v)))
    (hA : ∀ a ∈ A, 0 ≤ a.house ∧ a.house < (c : Int)) :
    Ok (exs sig (run sig (n + 2)) (f_law.drop 6) [some (.scr ns), some (.int c), some (.int b), x3, some (.ref pA), some (.ref pB), none, none, none, none, none, none, none]) m (fun p m' => p.1 = .ret (.bool true)) :=
  law_b1 n ns c b hc2 m A B x3 pA pB kA kB hA (ss := f_law.drop 8) fun m' x6 => law_b2 n ns c b hb hc hc2 m' x3 _ _ x6

theorem law_holds (n : Nat) (ns : List Int) (hn : ns.length ≤ 63) (m : MH) : Ok (run sig (n + 3) 11 [.scr ns]) m (fun v _ => v = .bool true) := by
  obtain ⟨c, hc⟩ : ∃ c : Nat, (c : Int) = 1 + at0 ns 0 % 12 := ⟨(1 + at0 ns 0 % 12).toNat, by omega⟩
  obtain ⟨v, m', e, q⟩ : ∃ v m', run sig (n + 3) 11 [.scr ns] m = .ok v m' ∧ v = .bool true := by
    refine run_ok rfl rfl ?_
    refine exs_app (f_law.take 6) (f_law.drop 6) _ _ (Ok.mono (law_a n ns hn c _ hc rfl m) ?_)
    rintro ⟨f, r⟩ m1 ⟨e0, A, B, x3, pA, pB, er, kA, kB, hA, _⟩
    have e0 : f = .next := e0
    have er : r = _ := er
    subst e0; subst er
    exact Ok.mono (law_b n ns c _ (by omega) (by omega) (by omega) m1 A B x3 pA pB kA kB hA) fun p m' q => ⟨_, q, rfl⟩
  exact ⟨v, m', e, q⟩
end P05
end Mini

open PySem PySem.W PyProof.Rows Mini
namespace Mini
open_top hd05 for PySem.Challenge.rw_uf030037_05
theorem ck05 (p : Params) : mFs ⟨hd05.heap_39 p, C05.sig, faOf (hd05.heap_39 p) C05.sig⟩ 0 C05.sig.fns = true := by kernel_rfl
end Mini

open PySem PySem.W PyProof.Rows Mini
namespace Mini
theorem t05 : PySem.Challenge.rw_uf030037_05.Holds := by
  refine hd05 ?_
  k_fill
  intro w s₀ s₁ mg mb G Y fa o pm cd doc dV kV ho hd hcd hD hmg hg args vals as hpre hlay hrd hwl hlo
  have KX := kIn_of Y
  refine Ground.open G ?_
  intro T B D TE TW
  have hmg' : mg (Str.ofString "law") = some (.ref fa) := hmg
  clear hd hcd hD hmg
  wrow_args hpre hlay hrd hwl hlo
  rename_i ns _ _ _ _ _ _ _ l vs _ hL _ _ _ hI _ hlen _
  have hf := fa_ok (S := C05.sig) (k := 11) KX T.g rfl (by kernel_rfl) hmg'
  refine glue (ca := fun _ => 0) (k := 11) (n := 3) T (by kernel_rfl) KX hg (ck05 w.params) hf hL hI (by omega) (by decide) (P05.law_holds 0 ns (by omega) []) ?_ ?_
  · intro cls; rfl
  · wrow_post
end Mini

theorem PySem.Challenge.cw_uf030037_05_holds : PySem.Challenge.rw_uf030037_05.Holds :=
  Mini.t05
